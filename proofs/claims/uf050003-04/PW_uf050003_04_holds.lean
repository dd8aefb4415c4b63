import PyProof.Rows.All
import PySem.SetOps
import PyProof.Raises
import PyProof.Calls
import PyProof.EvalArms
import PyProof.Rules2
import PyProof.Claim2
import PyProof.Lay0
import PyProof.Rows.Frame
import PyProof.FactsAll.tuple_2
import PyProof.FactsAll.subtypes_4
import PyProof.Rules3
import PyProof.ListIndex
import PyProof.CallStr
import PyProof.Cells
import PyProof.Claim2Refuses
import PyProof.ConsumeWalk
import PyProof.CollectWalk
import PyProof.CompFree
import PyProof.PureInt
import PyProof.Conv_int_bool
import PyProof.DefCall
import PyProof.Dict
import PyProof.TupleKey
import PyProof.IsRules
import PyProof.P3Statements
import PyProof.EqLayable
import PyProof.FactsAll.set_1
import PyProof.FactsAll.set_2
import PyProof.ForAppend
import PyProof.WalksMore
import PyProof.RangeFor
import PyProof.IsiHeapPairs
import PyProof.IsiNone
import PyProof.IsiPairs
import PyProof.ListCopy
import PyProof.ListIndexNeg
import PyProof.ListRange
import PyProof.WalkInts
import PyProof.P3In
import PyProof.ReprRoads
import PyProof.Rows.Globals
import PyProof.Rows.News
import PyProof.Rows.Tup
import PyProof.Rows.TupIter
import PyProof.Rows.TupAssign
import PyProof.Rows.TupSub
import PyProof.Rows.SeqJoint
import PyProof.Rows.IntRules
import PyProof.Rows.ZipGen
import PyProof.WalksPairs
import PyProof.TupleCall
import PyProof.Rows.ListMade
import PyProof.Rows.Exc
import PyProof.Rows.RuleB_mul
import PyProof.Rows.RuleB_sub
import PyProof.Rows.RuleB_pow
import PyProof.Rows.RuleB_floordiv
import PyProof.Rows.RuleB_mod
import PyProof.StrBlock2
import PyProof.Rows.StrMul
import PyProof.Rows.StrTemp
import PyProof.Rows.RuleC_int
import PyProof.TupleOps
import PyProof.SeqI3
import PyProof.Rows.TupMore
import PyProof.SliceMore
import PyProof.Rows.StrRules
import PyProof.RulesDelMore
import PyProof.SumWalkG
import PyProof.Rows.TupAdd
import PyProof.TupleOfSeq
import PyProof.SetRoads
import PyProof.Rows.SetFrom
import PyProof.Rows.RotEnd
import KE.KUnpack
import KE.KMulAny
import KE.KRevSl
import KE.KSortTup
import KE.KSortedM
import Wide.FinOn
import OpenK.AllK
import Wide.All
import Lean
import PySem.Challenge.RW_uf050003_04
set_option Elab.async false
set_option genInjectivity false
set_option genSizeOf false
set_option linter.all false
set_option maxRecDepth 100000
set_option maxHeartbeats 8000000
namespace Mine
theorem ex1{A:Type _}{P:A→Prop}{X:Prop}(h:∃ x, P x)(k:∀ x, P x→X):X:=h.elim fun x h => k x h
theorem ex2{A B:Type _}{P:A→B→Prop}{X:Prop}(h:∃ x y, P x y)(k:∀ x y, P x y→X):X:=h.elim fun x h => ex1 h (k x)
theorem ex3{A B C:Type _}{P:A→B→C→Prop}{X:Prop}(h:∃ x y z, P x y z)(k:∀ x y z, P x y z→X):X:=h.elim fun x h => ex2 h (k x)
theorem ex4{A B C D:Type _}{P:A→B→C→D→Prop}{X:Prop}(h:∃ x y z u, P x y z u)(k:∀ x y z u, P x y z u→X):X:=h.elim fun x h => ex3 h (k x)
theorem el0_2{P0 P1:Prop}{X:Prop}(h:P0∧P1)(k:P0→P1→X):X:=k h.1 h.2
theorem el0_3{P0 P1 P2:Prop}{X:Prop}(h:P0∧P1∧P2)(k:P0→P1→P2→X):X:=k h.1 h.2.1 h.2.2
theorem el0_4{P0 P1 P2 P3:Prop}{X:Prop}(h:P0∧P1∧P2∧P3)(k:P0→P1→P2→P3→X):X:=k h.1 h.2.1 h.2.2.1 h.2.2.2
theorem el0_5{P0 P1 P2 P3 P4:Prop}{X:Prop}(h:P0∧P1∧P2∧P3∧P4)(k:P0→P1→P2→P3→P4→X):X:=k h.1 h.2.1 h.2.2.1 h.2.2.2.1 h.2.2.2.2
theorem el1_1{A:Type _}{P0:A→Prop}{X:Prop}(h:∃ x, P0 x)(k:∀ x, P0 x→X):X:=ex1 h k
theorem el1_2{A:Type _}{P0 P1:A→Prop}{X:Prop}(h:∃ x, P0 x∧P1 x)(k:∀ x, P0 x→P1 x→X):X:=ex1 h fun x h => el0_2 h (k x)
theorem el1_3{A:Type _}{P0 P1 P2:A→Prop}{X:Prop}(h:∃ x, P0 x∧P1 x∧P2 x)(k:∀ x, P0 x→P1 x→P2 x→X):X:=ex1 h fun x h => el0_3 h (k x)
theorem el2_1{A B:Type _}{P0:A→B→Prop}{X:Prop}(h:∃ x y, P0 x y)(k:∀ x y, P0 x y→X):X:=ex2 h k
theorem el2_2{A B:Type _}{P0 P1:A→B→Prop}{X:Prop}(h:∃ x y, P0 x y∧P1 x y)(k:∀ x y, P0 x y→P1 x y→X):X:=ex2 h fun x y h => el0_2 h (k x y)
theorem el2_3{A B:Type _}{P0 P1 P2:A→B→Prop}{X:Prop}(h:∃ x y, P0 x y∧P1 x y∧P2 x y)(k:∀ x y, P0 x y→P1 x y→P2 x y→X):X:=ex2 h fun x y h => el0_3 h (k x y)
theorem el2_4{A B:Type _}{P0 P1 P2 P3:A→B→Prop}{X:Prop}(h:∃ x y, P0 x y∧P1 x y∧P2 x y∧P3 x y)(k:∀ x y, P0 x y→P1 x y→P2 x y→P3 x y→X):X:=ex2 h fun x y h => el0_4 h (k x y)
theorem el2_5{A B:Type _}{P0 P1 P2 P3 P4:A→B→Prop}{X:Prop}(h:∃ x y, P0 x y∧P1 x y∧P2 x y∧P3 x y∧P4 x y)(k:∀ x y, P0 x y→P1 x y→P2 x y→P3 x y→P4 x y→X):X:=ex2 h fun x y h => el0_5 h (k x y)
theorem el3_2{A B C:Type _}{P0 P1:A→B→C→Prop}{X:Prop}(h:∃ x y z, P0 x y z∧P1 x y z)(k:∀ x y z, P0 x y z→P1 x y z→X):X:=ex3 h fun x y z h => el0_2 h (k x y z)
theorem el3_3{A B C:Type _}{P0 P1 P2:A→B→C→Prop}{X:Prop}(h:∃ x y z, P0 x y z∧P1 x y z∧P2 x y z)(k:∀ x y z, P0 x y z→P1 x y z→P2 x y z→X):X:=ex3 h fun x y z h => el0_3 h (k x y z)
theorem el3_4{A B C:Type _}{P0 P1 P2 P3:A→B→C→Prop}{X:Prop}(h:∃ x y z, P0 x y z∧P1 x y z∧P2 x y z∧P3 x y z)(k:∀ x y z, P0 x y z→P1 x y z→P2 x y z→P3 x y z→X):X:=ex3 h fun x y z h => el0_4 h (k x y z)
theorem el3_5{A B C:Type _}{P0 P1 P2 P3 P4:A→B→C→Prop}{X:Prop}(h:∃ x y z, P0 x y z∧P1 x y z∧P2 x y z∧P3 x y z∧P4 x y z)(k:∀ x y z, P0 x y z→P1 x y z→P2 x y z→P3 x y z→P4 x y z→X):X:=ex3 h fun x y z h => el0_5 h (k x y z)
theorem el4_2{A B C D:Type _}{P0 P1:A→B→C→D→Prop}{X:Prop}(h:∃ x y z u, P0 x y z u∧P1 x y z u)(k:∀ x y z u, P0 x y z u→P1 x y z u→X):X:=ex4 h fun x y z u h => el0_2 h (k x y z u)
theorem in1_1{A:Type _}{P0:A→Prop}(x:A)(h0:P0 x):∃ x, P0 x:=⟨x, h0⟩
theorem in1_2{A:Type _}{P0 P1:A→Prop}(x:A)(h0:P0 x)(h1:P1 x):∃ x, P0 x∧P1 x:=⟨x, h0, h1⟩
theorem in1_3{A:Type _}{P0 P1 P2:A→Prop}(x:A)(h0:P0 x)(h1:P1 x)(h2:P2 x):∃ x, P0 x∧P1 x∧P2 x:=⟨x, h0, h1, h2⟩
theorem in2_1{A B:Type _}{P0:A→B→Prop}(x:A)(y:B)(h0:P0 x y):∃ x y, P0 x y:=⟨x, y, h0⟩
theorem in2_2{A B:Type _}{P0 P1:A→B→Prop}(x:A)(y:B)(h0:P0 x y)(h1:P1 x y):∃ x y, P0 x y∧P1 x y:=⟨x, y, h0, h1⟩
theorem in2_3{A B:Type _}{P0 P1 P2:A→B→Prop}(x:A)(y:B)(h0:P0 x y)(h1:P1 x y)(h2:P2 x y):∃ x y, P0 x y∧P1 x y∧P2 x y:=⟨x, y, h0, h1, h2⟩
theorem in2_4{A B:Type _}{P0 P1 P2 P3:A→B→Prop}(x:A)(y:B)(h0:P0 x y)(h1:P1 x y)(h2:P2 x y)(h3:P3 x y):∃ x y, P0 x y∧P1 x y∧P2 x y∧P3 x y:=⟨x, y, h0, h1, h2, h3⟩
theorem in3_2{A B C:Type _}{P0 P1:A→B→C→Prop}(x:A)(y:B)(z:C)(h0:P0 x y z)(h1:P1 x y z):∃ x y z, P0 x y z∧P1 x y z:=⟨x, y, z, h0, h1⟩
theorem in3_3{A B C:Type _}{P0 P1 P2:A→B→C→Prop}(x:A)(y:B)(z:C)(h0:P0 x y z)(h1:P1 x y z)(h2:P2 x y z):∃ x y z, P0 x y z∧P1 x y z∧P2 x y z:=⟨x, y, z, h0, h1, h2⟩
theorem in3_4{A B C:Type _}{P0 P1 P2 P3:A→B→C→Prop}(x:A)(y:B)(z:C)(h0:P0 x y z)(h1:P1 x y z)(h2:P2 x y z)(h3:P3 x y z):∃ x y z, P0 x y z∧P1 x y z∧P2 x y z∧P3 x y z:=⟨x, y, z, h0, h1, h2, h3⟩
end Mine
local macro_rules
  | `(tactic| omega) => `(tactic| first | assumption | exact Nat.le_refl _ | exact Nat.zero_le _ | exact Nat.le_of_lt (by assumption) | exact Nat.lt_succ_self _ | exact Nat.le_succ _ | exact Nat.succ_pos _ | exact Nat.lt_of_lt_of_le (by assumption) (by assumption) | exact Nat.le_trans (by assumption) (by assumption) | exact Nat.lt_of_le_of_lt (by assumption) (by assumption) | exact Nat.lt_succ_of_le (by assumption) | exact Nat.le_of_lt_succ (by assumption) | exact Nat.lt_succ_of_lt (by assumption) | lia)
local macro_rules
  | `(tactic| cases $h:ident) => `(tactic| first | (exfalso; injection $h; done) | (injection $h with e1 e2; (first | subst e1 | cases e1); (first | subst e2 | cases e2)) | (injection $h with e1; (first | subst e1 | cases e1)) | cases ($h))
local macro_rules
  | `(tactic| obtain ⟨$ps,*⟩ := $t) => do
    let ps := ps.getElems
    let n := ps.size
    if n < 2 then Lean.Macro.throwUnsupported
    let mut k : Array (Lean.TSyntax `Lean.Parser.Tactic.tacticSeq) := #[]
    for j in [0:n-1] do
      let m := n - j
      if m == n || (2 < m && m < 9) then
        let mut xs : Array (Lean.TSyntax `term) := #[]
        let mut f : Array (Lean.TSyntax `tactic) := #[]
        for i in [0:m] do
          let y := Lean.mkIdent (Lean.Name.mkSimple s!"y_{i}")
          let p := ps[i]!
          if i == m - 1 && m < n then
            xs := xs.push y
            let r := ps.extract i n
            f := f.push (← `(tactic| obtain ⟨$r,*⟩ := $y:ident))
          else match p with
          | `(Lean.Parser.Tactic.rcasesPatLo| $x:ident) =>
            if x.getId == `rfl then
              xs := xs.push y
              f := f.push (← `(tactic| first | subst $y:ident | cases $y:ident))
            else xs := xs.push x
          | `(Lean.Parser.Tactic.rcasesPatLo| _) => xs := xs.push (← `(_))
          | `(Lean.Parser.Tactic.rcasesPatLo| ⟨$qs,*⟩) =>
            xs := xs.push y
            f := f.push (← `(tactic| obtain ⟨$qs,*⟩ := $y:ident))
          | _ =>
            xs := xs.push y
            f := f.push (← `(tactic| rcases $y:ident with $p))
        let mut g : Array (Lean.TSyntax `Lean.Parser.Tactic.tacticSeq) := #[]
        for a in [0:m] do
          let c := Lean.mkIdent (Lean.Name.mkSimple s!"el{a}_{m-a}")
          if t.raw.isIdent then g := g.push (← `(tacticSeq| refine $c $t ?_; clear $t)) else g := g.push (← `(tacticSeq| refine $c $t ?_))
        k := k.push (← `(tacticSeq| (first $[| $g]*); intro $xs*; $[$f]*))
    `(tactic| first $[| $k]* | rcases $t:term with ⟨$ps,*⟩)
local macro_rules
  | `(tactic| rcases $t:term with $a | $b) => do
    let g : Lean.TSyntax `tactic ← if t.raw.isIdent then `(tactic| (refine Or.elim $t ?_ ?_ <;> clear $t)) else `(tactic| refine Or.elim $t ?_ ?_)
    `(tactic| first | ($g; rotate_left; rintro ($b:rcasesPat); rotate_right; rintro ($a:rcasesPat)) | obtain $a | $b := $t)
local macro_rules
  | `(tactic| exact ⟨$ps,*⟩) => do
    let ps := ps.getElems
    let n := ps.size
    if n < 2 then Lean.Macro.throwUnsupported
    let mut g : Array (Lean.TSyntax `Lean.Parser.Tactic.tacticSeq) := #[]
    for a in [1:n] do
      g := g.push (← `(tacticSeq| exact $(Lean.mkIdent (Lean.Name.mkSimple s!"in{a}_{n-a}")) $ps*))
    `(tactic| first | (show Exists _; first $[| $g]*) | exact (⟨$ps,*⟩))
  | `(tactic| refine ⟨$ps,*⟩) => do
    let ps := ps.getElems
    let n := ps.size
    if n < 2 then Lean.Macro.throwUnsupported
    let mut g : Array (Lean.TSyntax `Lean.Parser.Tactic.tacticSeq) := #[]
    for a in [1:n] do
      g := g.push (← `(tacticSeq| refine $(Lean.mkIdent (Lean.Name.mkSimple s!"in{a}_{n-a}")) $ps*))
    `(tactic| first | (show Exists _; first $[| $g]*) | refine (⟨$ps,*⟩))
set_option bootstrap.genMatcherCode false
set_option tactic.hygienic false
section
section
namespace Mine.L04
open PySem PySem.W PySem.Calls PyProof.Rows
noncomputable def zso:Params→Frag:=fun P=>[
 (3,PySem.Obj.mk (Value.type "dict") Option.none (PySem.Data.dict #[DictEntry.mk (PyData.keyHash P (Str.ofString "__name__")) (Value.str (Str.ofString "__name__") 165) (Value.str (Str.ofString "law_uf050003_04") 345),DictEntry.mk (PyData.keyHash P (Str.ofString "__doc__")) (Value.str (Str.ofString "__doc__") 166) Value.none,DictEntry.mk (PyData.keyHash P (Str.ofString "__package__")) (Value.str (Str.ofString "__package__") 167) Value.none,DictEntry.mk (PyData.keyHash P (Str.ofString "__loader__")) (Value.str (Str.ofString "__loader__") 168) (Value.builtin "__main__.__loader__#opaque"),DictEntry.mk (PyData.keyHash P (Str.ofString "__spec__")) (Value.str (Str.ofString "__spec__") 169) Value.none,DictEntry.mk (PyData.keyHash P (Str.ofString "__annotations__")) (Value.str (Str.ofString "__annotations__") 170) (Value.ref 6),DictEntry.mk (PyData.keyHash P (Str.ofString "__builtins__")) (Value.str (Str.ofString "__builtins__") 171) (Value.ref 4),DictEntry.mk (PyData.keyHash P (Str.ofString "__file__")) (Value.str (Str.ofString "__file__") 173) (Value.str (Str.ofString "/claim/cut.py") 172),DictEntry.mk (PyData.keyHash P (Str.ofString "__cached__")) (Value.str (Str.ofString "__cached__") 174) Value.none,DictEntry.mk (PyData.keyHash P (Str.ofString "PanError")) (Value.str (Str.ofString "PanError") 206) (Value.ref 24),DictEntry.mk (PyData.keyHash P (Str.ofString "BadCount")) (Value.str (Str.ofString "BadCount") 222) (Value.ref 37),DictEntry.mk (PyData.keyHash P (Str.ofString "BadCases")) (Value.str (Str.ofString "BadCases") 238) (Value.ref 49),DictEntry.mk (PyData.keyHash P (Str.ofString "LEAST_THINGS")) (Value.str (Str.ofString "LEAST_THINGS") 242) (Value.int 2 241),DictEntry.mk (PyData.keyHash P (Str.ofString "MOST_THINGS")) (Value.str (Str.ofString "MOST_THINGS") 244) (Value.int 5 243),DictEntry.mk (PyData.keyHash P (Str.ofString "MOST_CASES")) (Value.str (Str.ofString "MOST_CASES") 246) (Value.int 12 245),DictEntry.mk (PyData.keyHash P (Str.ofString "is_among")) (Value.str (Str.ofString "is_among") 255) (Value.ref 58),DictEntry.mk (PyData.keyHash P (Str.ofString "need_count")) (Value.str (Str.ofString "need_count") 262) (Value.ref 65),DictEntry.mk (PyData.keyHash P (Str.ofString "is_case")) (Value.str (Str.ofString "is_case") 268) (Value.ref 70),DictEntry.mk (PyData.keyHash P (Str.ofString "need_cases")) (Value.str (Str.ofString "need_cases") 274) (Value.ref 75),DictEntry.mk (PyData.keyHash P (Str.ofString "OUTCOMES")) (Value.str (Str.ofString "OUTCOMES") 281) (Value.ref 76),DictEntry.mk (PyData.keyHash P (Str.ofString "is_pan")) (Value.str (Str.ofString "is_pan") 287) (Value.ref 81),DictEntry.mk (PyData.keyHash P (Str.ofString "is_weighing")) (Value.str (Str.ofString "is_weighing") 293) (Value.ref 86),DictEntry.mk (PyData.keyHash P (Str.ofString "came")) (Value.str (Str.ofString "came") 299) (Value.ref 91),DictEntry.mk (PyData.keyHash P (Str.ofString "parted")) (Value.str (Str.ofString "parted") 305) (Value.ref 96),DictEntry.mk (PyData.keyHash P (Str.ofString "is_plan_for")) (Value.str (Str.ofString "is_plan_for") 318) (Value.ref 103),DictEntry.mk (PyData.keyHash P (Str.ofString "is_plan")) (Value.str (Str.ofString "is_plan") 327) (Value.ref 110),DictEntry.mk (PyData.keyHash P (Str.ofString "length_of")) (Value.str (Str.ofString "length_of") 333) (Value.ref 115),DictEntry.mk (PyData.keyHash P (Str.ofString "walked")) (Value.str (Str.ofString "walked") 344) (Value.ref 122),DictEntry.mk (PyData.keyHash P (Str.ofString "_law_cell_at")) (Value.str (Str.ofString "_law_cell_at") 354) (Value.ref 129),DictEntry.mk (PyData.keyHash P (Str.ofString "_law_mixed")) (Value.str (Str.ofString "_law_mixed") 362) (Value.ref 136),DictEntry.mk (PyData.keyHash P (Str.ofString "_law_whole")) (Value.str (Str.ofString "_law_whole") 369) (Value.ref 143),DictEntry.mk (PyData.keyHash P (Str.ofString "_law_came")) (Value.str (Str.ofString "_law_came") 379) (Value.ref 150),DictEntry.mk (PyData.keyHash P (Str.ofString "_law_pans")) (Value.str (Str.ofString "_law_pans") 385) (Value.ref 155),DictEntry.mk (PyData.keyHash P (Str.ofString "_law_pool")) (Value.str (Str.ofString "_law_pool") 397) (Value.ref 162),DictEntry.mk (PyData.keyHash P (Str.ofString "_law_puzzle")) (Value.str (Str.ofString "_law_puzzle") 403) (Value.ref 167),DictEntry.mk (PyData.keyHash P (Str.ofString "_law_alike")) (Value.str (Str.ofString "_law_alike") 409) (Value.ref 172),DictEntry.mk (PyData.keyHash P (Str.ofString "_law_is_pan")) (Value.str (Str.ofString "_law_is_pan") 415) (Value.ref 177),DictEntry.mk (PyData.keyHash P (Str.ofString "_law_is_weighing")) (Value.str (Str.ofString "_law_is_weighing") 423) (Value.ref 184),DictEntry.mk (PyData.keyHash P (Str.ofString "_law_is_case_told")) (Value.str (Str.ofString "_law_is_case_told") 429) (Value.ref 189),DictEntry.mk (PyData.keyHash P (Str.ofString "_law_is_plan")) (Value.str (Str.ofString "_law_is_plan") 435) (Value.ref 194),DictEntry.mk (PyData.keyHash P (Str.ofString "_law_length")) (Value.str (Str.ofString "_law_length") 441) (Value.ref 199),DictEntry.mk (PyData.keyHash P (Str.ofString "_law_apart")) (Value.str (Str.ofString "_law_apart") 447) (Value.ref 204),DictEntry.mk (PyData.keyHash P (Str.ofString "_law_planned")) (Value.str (Str.ofString "_law_planned") 453) (Value.ref 209),DictEntry.mk (PyData.keyHash P (Str.ofString "_law_thing")) (Value.str (Str.ofString "_law_thing") 459) (Value.ref 214),DictEntry.mk (PyData.keyHash P (Str.ofString "_law_told_in")) (Value.str (Str.ofString "_law_told_in") 466) (Value.ref 221),DictEntry.mk (PyData.keyHash P (Str.ofString "_law_here_changed")) (Value.str (Str.ofString "_law_here_changed") 472) (Value.ref 226),DictEntry.mk (PyData.keyHash P (Str.ofString "_law_changed")) (Value.str (Str.ofString "_law_changed") 478) (Value.ref 231),DictEntry.mk (PyData.keyHash P (Str.ofString "_law_walk")) (Value.str (Str.ofString "_law_walk") 487) (Value.ref 238),DictEntry.mk (PyData.keyHash P (Str.ofString "_law_goes")) (Value.str (Str.ofString "_law_goes") 493) (Value.ref 243),DictEntry.mk (PyData.keyHash P (Str.ofString "law")) (Value.str (Str.ofString "law") 512) (Value.ref 250)] 50) #[]),
 (76,PySem.Obj.mk (Value.type "tuple") Option.none (PySem.Data.seq #[Value.int (-1) 278,Value.int 0 279,Value.int 1 280]) #[])]
noncomputable def zsp:List Addr:=[3,76]
noncomputable def zm4:Stmt→Bool
 | .Assign [.Name x _] _ _=>!(x == ("__name__" : Str))
 | _=>true
noncomputable def view:Program:={ PySem.Challenge.pw_uf050003_04 with main:={ PySem.Challenge.pw_uf050003_04.main with body:=PySem.Challenge.pw_uf050003_04.main.body.filter zm4 } }
noncomputable abbrev hook:=kHook zso zsp (fun _=>by kernel_rfl)
theorem ws:OpenLaw.wellSaid PySem.Challenge.rw_uf050003_04=true:=by kernel_rfl
theorem zm7:LeftO (OpenLaw.row PySem.Challenge.rw_uf050003_04).prog view [] (fun s=>xlAt view [] s && recOk (RowW.records (OpenRow.toRowW (OpenLaw.row PySem.Challenge.rw_uf050003_04))) s) (Hook.obs hook) (Hook.val hook) 3600:=by
 intro w;kernel_rfl
end Mine.L04
end
section
namespace Mine
open PySem
inductive It where
 | b (n:Nat)
 | x (d:PyData)
inductive V where
 | d (x:PyData)
 | box (n:Nat)
 | tm (its:List It)
inductive Box where
 | lst (xs:List PyData)
noncomputable abbrev za:=List Box
noncomputable abbrev Loc:=List (Option V)
inductive R(σ α:Type) where
 | ok (a:α) (s:σ)
 | stuck
noncomputable def R.bind{σ α β:Type}:R σ α→(α→σ→R σ β)→R σ β
 | .ok a s,f=>f a s
 | .stuck,_=>.stuck
noncomputable def R.lift{α:Type}(ρ:Loc):R za α→R (Loc×za) α
 | .ok a O=>.ok a (ρ,O)
 | .stuck=>.stuck
theorem R.lift_bind{α β:Type}(ρ:Loc)(r:R za α)(g:α→za→R za β) :
 (r.bind g).lift ρ=(r.lift ρ).bind fun a S=>(g a S.2).lift ρ:=by cases r <;> rfl
inductive Fl where
 | next
 | ret (v:V)
structure Gl where
 prog:Program
 w:World
 h₀:Heap
 mg:Str→Option Value
 mb:Str→Option Value
 cls:Nat→Value
 sys:∃ m,h₀.Ns sysModules m
theorem Gl.notSys(G:Gl){d:Addr}(h:G.h₀.get? d=none):(d == sysModules)=false:=beq_eq_false_iff_ne.mpr fun e=>by
 obtain⟨m,o,es,ep,h1,_⟩:=G.sys
 rw[e,h1] at h;cases h
inductive ItsR(N β:List Addr)(h:Heap):List Value→List It→Prop
 | nil:ItsR N β h [] []
 | b {n:Nat} {a:Addr} {vs:List Value} {its:List It}:β[n]?=some a→ItsR N β h vs its→ItsR N β h (.ref a::vs) (.b n::its)
 | x {v:Value} {d:PyData} {as:List Addr} {vs:List Value} {its:List It}:Reads h v d as→(∀ a∈as,a∉β∧a∉N)→ItsR N β h vs its→ItsR N β h (v::vs) (.x d::its)
inductive VRd(N β:List Addr)(h:Heap)(v:Value)(x:PyData):Prop
 | mk (as:List Addr) (r:Reads h v x as) (q:∀ a∈as,a∉β∧a∉N)
inductive zto(β:List Addr)(v:Value)(n:Nat):Prop
 | mk (a:Addr) (h1:β[n]?=some a) (h2:v=.ref a)
inductive VRtm(N β:List Addr)(h:Heap)(v:Value)(its:List It):Prop
 | mk (a:Addr) (o:Obj) (vs:Array Value) (k:Nat) (e:v=.ref a) (h1:h.get? a=some o) (h2:o.cls=.type "tuple") (h3:o.data=.seq vs k) (h4:ItsR N β h vs.toList its)
noncomputable def VR(G:Gl)(N β:List Addr)(h:Heap)(v:Value):V→Prop
 | .d x=>VRd N β h v x
 | .box n=>zto β v n
 | .tm its=>VRtm N β h v its
inductive ListAt(h:Heap)(N β:List Addr)(a:Addr)(xs:List PyData):Prop
 | mk (o:Obj) (vs:Array Value) (n:Nat) (h1:h.get? a=some o) (h2:o.cls=.type "list") (h3:o.data=.seq vs n) (as:List Addr) (h4:ReadsAll h vs.toList xs as) (h5:∀ b∈as,b∉β∧b∉N)
noncomputable def BoxAt(h:Heap)(N β:List Addr)(a:Addr):Box→Prop
 | .lst xs=>ListAt h N β a xs
theorem uh{n i:Nat}(h:i < n):n+1 - (i+1) < n+1 - i:=Nat.sub_lt_sub_left (Nat.lt_succ_of_lt h) (Nat.lt_succ_self i)
theorem zb9{n i k:Nat}(h:n - i=k+1):n - (i+1)=k:=(Nat.sub_succ n i).trans (congrArg Nat.pred h)
theorem zeb{n i k:Nat}(h:n - i=k+1):i < n:=Nat.lt_of_sub_pos (h ▸ Nat.succ_pos k)
theorem zb8{n i:Nat}(h:n - i=0)(hi:i≤n):i=n:=Nat.le_antisymm hi (Nat.le_of_sub_eq_zero h)
noncomputable def Plain(h:Heap)(a:Addr):Prop:=∃ o,h.get? a=some o∧o.dict=none∧o.slots = #[]
theorem Plain.at{h h':Heap}{a:Addr}(x:Plain h a)(hk:∀ o,h.get? a=some o→h'.get? a=some o):Plain h' a:=let ⟨o,e,r⟩:=x;⟨o,hk o e,r⟩
structure BR(G:Gl)(N β:List Addr)(O:za)(h:Heap):Prop where
 keep:∀ b o,G.h₀.get? b=some o→h.get? b=some o
 len:β.length=O.length
 nodup:β.Nodup
 new:∀ a∈β,G.h₀.get? a=none
 at_:∀ (i:Nat) a bx,β[i]?=some a→O[i]?=some bx→BoxAt h N β a bx
 plain:∀ a∈β,Plain h a
noncomputable def Get(h:Heap)(env:Env)(x:Str)(v:Value):Prop:=
 (env.kindOf x=some .local∧∃ m,h.Ns env.locals m∧m x=some v) ∨
 (env.kindOf x=some .cell∧∃ c,env.cells.lookup x=some c∧h.IsCell c (some v))
structure Fm where
 env:Env
 names:List (Option Str)
 own:Str→Bool
 W:List Addr
 B:List Addr
 fr:List Addr
 pin:Option (Str→Option Value):=none
structure FmOk(G:Gl)(F:Fm)(β:List Addr)(h:Heap):Prop where
 kind:F.env.scope.kind=.function
 globals:F.env.globals=mainGlobals
 builtins:F.env.builtins=builtinsNs
 once:∀ (i j:Nat) x,F.names[i]?=some (some x)→F.names[j]?=some (some x)→i=j
 ns:∃ m,h.Ns F.env.locals m
 nsW:F.env.locals∈F.W
 cell:∀ x,F.env.kindOf x=some .cell→∃ c v,F.env.cells.lookup x=some c∧h.IsCell c v∧c∈F.B∧(F.own x=true→c∈F.W)
 apart:∀ x y c,F.env.cells.lookup x=some c→F.env.cells.lookup y=some c→x=y
 sub:∀ a∈F.W,a∈F.B
 new:(∀ a∈F.B,a≠sysModules→G.h₀.get? a=none)∧sysModules∈F.B∧sysModules∉F.W∧sysModules∉F.fr
 notBox:∀ a∈F.B,a∉β
 stor:∀ a∈F.B,∃ o,h.get? a=some o∧∀ vs n,o.data=.seq vs n→o.cls≠.type "tuple"
 frB:∀ a∈F.fr,a∈F.B
 frs:∀ a∈F.fr,∃ m,h.Ns a m
 pin:∀ m,F.pin=some m→h.Ns F.env.locals m∧∀ x,F.own x=false
theorem FmOk.newB{G:Gl}{F:Fm}{β:List Addr}{h:Heap}(f:FmOk G F β h){a:Addr}(ha:a∈F.B)(hs:a≠sysModules):G.h₀.get? a=none:=f.new.1 a ha hs
theorem FmOk.newW{G:Gl}{F:Fm}{β:List Addr}{h:Heap}(f:FmOk G F β h){a:Addr}(ha:a∈F.W):G.h₀.get? a=none:=f.new.1 a (f.sub a ha) fun e=>f.new.2.2.1 (e ▸ ha)
structure SR(G:Gl)(F:Fm)(β:List Addr)(ρ:Loc)(O:za)(h:Heap):Prop where
 br:BR G F.B β O h
 fm:FmOk G F β h
 get:∀ (i:Nat) x v,F.names[i]?=some (some x)→ρ[i]?=some (some v)→∃ val,Get h F.env x val∧VR G F.B β h val v
theorem BR.sysAlive{G:Gl}{N β:List Addr}{O:za}{h:Heap}(b:BR G N β O h):∃ o es n,h.get? sysModules=some o∧o.data=.dict es n:=by
 obtain⟨m,o,es,ep,h1,h2,_⟩:=G.sys
 exact⟨o,es,ep,b.keep _ _ h1,h2⟩
theorem BR.notSys{G:Gl}{N β:List Addr}{O:za}{h:Heap}(b:BR G N β O h){a:Addr}(ha:h.get? a=none):a≠sysModules:=fun e=>by
 obtain⟨o,es,n,h1,_⟩:=b.sysAlive
 rw[e,h1] at ha;cases ha
theorem BR.notSysD{G:Gl}{N β:List Addr}{O:za}{h:Heap}(b:BR G N β O h){a:Addr}{o:Obj}(ha:h.get? a=some o)(hd:∀ es n,o.data≠.dict es n):a≠sysModules:=fun e=>by
 obtain⟨o',es,n,h1,h2⟩:=b.sysAlive
 rw[e,h1] at ha;cases ha
 exact hd _ _ h2
theorem zd8{G:Gl}{F:Fm}{N β M fr:List Addr}{O:za}{h:Heap}(b:BR G N β O h)(hM:∀ a∈M,h.get? a=none)(f:(∀ a∈F.B,a≠sysModules→G.h₀.get? a=none)∧sysModules∈F.B) :
 (∀ a∈M++F.B,a≠sysModules→G.h₀.get? a=none)∧sysModules∈M++F.B∧sysModules∉M:=by
 refine⟨fun a ha hs=>?_,List.mem_append_right _ f.2,fun hm=>b.notSys (hM _ hm) rfl⟩
 rcases List.mem_append.mp ha with ha | ha
 ·cases e:G.h₀.get? a with
  | none=>rfl
  | some o=>have:=b.keep a o e;rw[hM a ha] at this;cases this
 ·exact f.1 a ha hs
noncomputable def Kin(o o':Obj):Prop:=∃ sl,o' = { o with slots:=sl }∧((∀ es n,o.data≠.dict es n)→sl=o.slots)
theorem Kin.refl(o:Obj):Kin o o:=⟨o.slots,rfl,fun _=>rfl⟩
theorem Kin.trans{o o' o'':Obj}(x:Kin o o')(y:Kin o' o''):Kin o o'':=by
 obtain⟨a,rfl,h1⟩:=x
 obtain⟨b,rfl,h2⟩:=y
 exact⟨b,rfl,fun h=>(h2 h).trans (h1 h)⟩
theorem Kin.cls{o o':Obj}(x:Kin o o'):o'.cls=o.cls:=by obtain⟨a,rfl,_⟩:=x;rfl
theorem Kin.data{o o':Obj}(x:Kin o o'):o'.data=o.data:=by obtain⟨a,rfl,_⟩:=x;rfl
theorem Kin.same{o o':Obj}(x:Kin o o')(h:∀ es n,o.data≠.dict es n):o'=o:=by obtain⟨a,rfl,h1⟩:=x;rw[h1 h]
theorem Kin.ns{h h':Heap}{a:Addr}{m:Str→Option Value}(x:h.Ns a m)(k:∀ o,h.get? a=some o→∃ o',h'.get? a=some o'∧Kin o o'):h'.Ns a m:=by
 obtain⟨o,es,ep,h1,h2,h3,h4⟩:=x
 obtain⟨o',e',kn⟩:=k o h1
 exact⟨o',es,ep,e',kn.data.trans h2,h3,h4⟩
theorem Kin.cell{h h':Heap}{a:Addr}{v:Option Value}(x:h.IsCell a v)(k:∀ o,h.get? a=some o→∃ o',h'.get? a=some o'∧Kin o o'):h'.IsCell a v:=by
 obtain⟨o,h1,h2⟩:=x
 obtain⟨o',e',kn⟩:=k o h1
 exact⟨o',e',kn.data.trans h2⟩
structure Step(W:List Addr)(β:List Addr)(s s':Shared)(β':List Addr):Prop where
 gens:s'.gens=s.gens
 os:s'.os=s.os
 pre:β <+: β'
 fresh:∀ a∈β',a∈β∨s.heap.get? a=none
 alive:∀ b o,s.heap.get? b=some o→∃ o',s'.heap.get? b=some o'
 kept:∀ b o,s.heap.get? b=some o→b∉β→b∉W→∃ o',s'.heap.get? b=some o'∧Kin o o'
theorem Step.refl(W β s):Step W β s s β:=⟨rfl,rfl,List.prefix_refl _,fun _ h=>.inl h,fun _ o h=>⟨o,h⟩,fun _ o h _ _=>⟨o,h,Kin.refl o⟩⟩
theorem Step.keptE{W β s s' β'}(x:Step W β s s' β'){b:Addr}{o:Obj}(e:s.heap.get? b=some o)(hb:b∉β)(hW:b∉W)(hd:∀ es n,o.data≠.dict es n):s'.heap.get? b=some o:=by
 obtain⟨o',e',k⟩:=x.kept b o e hb hW
 rw[e',k.same hd]
theorem Step.trans{W β β' β'' s s' s''}(x:Step W β s s' β')(y:Step W β' s' s'' β''):Step W β s s'' β'' where
 gens:=y.gens.trans x.gens
 os:=y.os.trans x.os
 pre:=x.pre.trans y.pre
 fresh:=fun a ha=>by
  rcases y.fresh a ha with h | h
  ·exact x.fresh a h
  ·right
   cases e:s.heap.get? a with
   | none=>rfl
   | some o=>obtain⟨o',e'⟩:=x.alive a o e;rw[e'] at h;cases h
 alive:=fun b o e=>let ⟨o',e'⟩:=x.alive b o e;y.alive b o' e'
 kept:=fun b o e hb hW=>by
  obtain⟨o',e',k⟩:=x.kept b o e hb hW
  obtain⟨o'',e'',k'⟩:=y.kept b o' e' (fun hb'=>by
   rcases x.fresh b hb' with h | h
   ·exact hb h
   ·rw[e] at h;cases h) hW
  exact⟨o'',e'',k.trans k'⟩
theorem jd{β β':List Addr}(h:β <+: β'){i:Nat}{a:Addr}(ha:β[i]?=some a):β'[i]?=some a:=by
 obtain⟨t,rfl⟩:=h
 have hi:i < β.length:=by
  rcases Nat.lt_or_ge i β.length with h | h
  ·exact h
  ·rw[List.getElem?_eq_none h] at ha;cases ha
 rw[List.getElem?_append_left hi];exact ha
theorem vc{h h':Heap}{P:Addr→Prop}(hk:∀ b o,h.get? b=some o→P b→∃ o',h'.get? b=some o'∧Kin o o')
 (hP:∀ b o vs n,h.get? b=some o→o.cls=.type "tuple"→o.data=.seq vs n→P b) {v:Value} {x:PyData} {as:List Addr} (r:Reads h v x as):(∀ a∈as,P a)→Reads h' v x as:=
 Reads.rec (motive_1:=fun v x as _=>(∀ a∈as,P a)→Reads h' v x as) (motive_2:=fun vs xs as _=>(∀ a∈as,P a)→ReadsAll h' vs xs as)
  (fun _=>.none) (fun b _=>.bool b) (fun i t _=>.int i t) (fun x t _=>.str x t)
  (fun h1 h2 h3 _ ih q=>let ⟨_,e,k⟩:=hk _ _ h1 (q _ (.head _));.list e (k.cls.trans h2) (k.data.trans h3) (ih fun a ha=>q a (.tail _ ha)))
  (fun h1 h2 h3 _ ih q=>let ⟨_,e,k⟩:=hk _ _ h1 (hP _ _ _ _ h1 h2 h3);.tuple e (k.cls.trans h2) (k.data.trans h3) (ih q))
  (fun h1 h2 h3 _ _ ih ih' q=>let ⟨_,e,k⟩:=hk _ _ h1 (q _ (.head _));.dict e (k.cls.trans h2) (k.data.trans h3) (ih fun a ha=>q a (List.mem_append_left _ (List.mem_cons_of_mem _ ha))) (ih' fun a ha=>q a (List.mem_append_right _ ha)))
  (fun _=>.nil) (fun _ _ i1 i2 q=>.cons (i1 fun a ha=>q a (List.mem_append_left _ ha)) (i2 fun a ha=>q a (List.mem_append_right _ ha))) r
theorem w6{h h':Heap}{P:Addr→Prop}(hk:∀ b o,h.get? b=some o→P b→∃ o',h'.get? b=some o'∧Kin o o')
 (hP:∀ b o vs n,h.get? b=some o→o.cls=.type "tuple"→o.data=.seq vs n→P b) {vs:List Value} {xs:List PyData} {as:List Addr} (r:ReadsAll h vs xs as):(∀ a∈as,P a)→ReadsAll h' vs xs as:=
 ReadsAll.rec (motive_1:=fun _ _ _ _=>True) (motive_2:=fun vs xs as _=>(∀ a∈as,P a)→ReadsAll h' vs xs as)
  trivial (fun _=>trivial) (fun _ _=>trivial) (fun _ _=>trivial) (fun _ _ _ _ _=>trivial) (fun _ _ _ _ _=>trivial) (fun _ _ _ _ _ _ _=>trivial)
  (fun _=>.nil) (fun r _ _ i2 q=>.cons (vc hk hP r fun a ha=>q a (List.mem_append_left _ ha)) (i2 fun a ha=>q a (List.mem_append_right _ ha))) r
theorem jk{h h':Heap}{P:Addr→Prop}(hk:∀ b o,h.get? b=some o→P b→h'.get? b=some o)
 (hP:∀ b o vs n,h.get? b=some o→o.cls=.type "tuple"→o.data=.seq vs n→P b) {v:Value} {x:PyData} {as:List Addr} (r:Reads h v x as) (q:∀ a∈as,P a):Reads h' v x as:=
 vc (fun b o e p=>⟨o,hk b o e p,Kin.refl o⟩) hP r q
theorem xx{h h':Heap}{P:Addr→Prop}(hk:∀ b o,h.get? b=some o→P b→h'.get? b=some o)
 (hP:∀ b o vs n,h.get? b=some o→o.cls=.type "tuple"→o.data=.seq vs n→P b) {vs:List Value} {xs:List PyData} {as:List Addr} (r:ReadsAll h vs xs as) (q:∀ a∈as,P a):ReadsAll h' vs xs as:=
 w6 (fun b o e p=>⟨o,hk b o e p,Kin.refl o⟩) hP r q
theorem x5{h:Heap}{v:Value}{x:PyData}{as:List Addr}(r:Reads h v x as):∀ a∈as,∃ o,h.get? a=some o:=
 Reads.rec (motive_1:=fun _ _ as _=>∀ a∈as,∃ o,h.get? a=some o) (motive_2:=fun _ _ as _=>∀ a∈as,∃ o,h.get? a=some o)
  (fun _ h=>nomatch h) (fun _ _ h=>nomatch h) (fun _ _ _ h=>nomatch h) (fun _ _ _ h=>nomatch h)
  (fun h1 _ _ _ ih a ha=>(List.mem_cons.mp ha).elim (fun e=>⟨_,e ▸ h1⟩) (ih a))
  (fun _ _ _ _ ih=>ih)
  (fun h1 _ _ _ _ ih ih' a ha=>(List.mem_append.mp ha).elim (fun ha=>(List.mem_cons.mp ha).elim (fun e=>⟨_,e ▸ h1⟩) (ih a)) (ih' a))
  (fun _ h=>nomatch h) (fun _ _ i1 i2 a ha=>(List.mem_append.mp ha).elim (i1 a) (i2 a)) r
theorem qj{h:Heap}{vs:List Value}{xs:List PyData}{as:List Addr}(r:ReadsAll h vs xs as):∀ a∈as,∃ o,h.get? a=some o:=
 ReadsAll.rec (motive_1:=fun _ _ _ _=>True) (motive_2:=fun _ _ as _=>∀ a∈as,∃ o,h.get? a=some o)
  trivial (fun _=>trivial) (fun _ _=>trivial) (fun _ _=>trivial) (fun _ _ _ _ _=>trivial) (fun _ _ _ _ _=>trivial) (fun _ _ _ _ _ _ _=>trivial)
  (fun _ h=>nomatch h) (fun r _ _ i2 a ha=>(List.mem_append.mp ha).elim (x5 r a) (i2 a)) r
theorem BR.alive{G:Gl}{N β:List Addr}{O:za}{h:Heap}(b:BR G N β O h):∀ a∈β,∃ o,h.get? a=some o∧(o.cls=.type "list"∨o.cls=.type "dict"):=by
 intro a ha
 obtain⟨i,hi⟩:=List.getElem?_of_mem ha
 have hl:i < O.length:=by
  rw[← b.len]
  rcases Nat.lt_or_ge i β.length with h | h
  ·exact h
  ·rw[List.getElem?_eq_none h] at hi;cases hi
 have hx:=b.at_ i a _ hi (List.getElem?_eq_getElem hl)
 cases hb:O[i] with
 | lst xs=>rw[hb] at hx;obtain⟨o,_,_,h1,h2,_⟩:=hx;exact⟨o,h1,.inl h2⟩
theorem qi{G:Gl}{F:Fm}{β:List Addr}{O:za}{h:Heap}(b:BR G F.B β O h)(f:FmOk G F β h){a:Addr}{o:Obj}{vs:Array Value}{n:Nat}(e:h.get? a=some o)(hc:o.cls=.type "tuple")(hd:o.data=.seq vs n) :
 a∉β∧a∉F.B:=by
 refine⟨fun hb=>?_,fun hB=>?_⟩
 ·obtain⟨o',e',h'⟩:=b.alive a hb
  rw[e] at e';cases e'
  rw[hc] at h'
  rcases h' with h' | h' <;> exact absurd h' (by decide)
 ·obtain⟨o',e',h'⟩:=f.stor a hB
  rw[e] at e';cases e'
  exact h' _ _ hd hc
theorem gy{W β β':List Addr}{s s':Shared}(st:Step W β s s' β'){as:List Addr}{N:List Addr}(al:∀ a∈as,∃ o,s.heap.get? a=some o)(q:∀ a∈as,a∉β∧a∉N):∀ a∈as,a∉β'∧a∉N:=
 fun a ha=>by
  refine⟨fun hb=>?_,(q a ha).2⟩
  rcases st.fresh a hb with h | h
  ·exact (q a ha).1 h
  ·obtain⟨o,e⟩:=al a ha
   rw[e] at h;cases h
section
variable{G:Gl}{F:Fm}{β β':List Addr}{O:za}{s s':Shared}(b:BR G F.B β O s.heap)(f:FmOk G F β s.heap)(st:Step F.W β s s' β')
include b f st
theorem kq{v:Value}{x:PyData}{as:List Addr}(r:Reads s.heap v x as)(q:∀ a∈as,a∉β∧a∉F.B):Reads s'.heap v x as∧∀ a∈as,a∉β'∧a∉F.B:=
 ⟨vc (P:=fun a=>a∉β∧a∉F.B) (fun a o e p=>st.kept a o e p.1 fun hw=>p.2 (f.sub a hw)) (fun _ _ _ _ e hc hd=>qi b f e hc hd) r q,gy st (x5 r) q⟩
theorem zy{vs:List Value}{xs:List PyData}{as:List Addr}(r:ReadsAll s.heap vs xs as)(q:∀ a∈as,a∉β∧a∉F.B):ReadsAll s'.heap vs xs as∧∀ a∈as,a∉β'∧a∉F.B:=
 ⟨w6 (P:=fun a=>a∉β∧a∉F.B) (fun a o e p=>st.kept a o e p.1 fun hw=>p.2 (f.sub a hw)) (fun _ _ _ _ e hc hd=>qi b f e hc hd) r q,gy st (qj r) q⟩
theorem ItsR.step{vs:List Value}{its:List It}(r:ItsR F.B β s.heap vs its):ItsR F.B β' s'.heap vs its:=by
 induction r with
 | nil=>exact .nil
 | b h1 _ ih=>exact .b (jd st.pre h1) ih
 | x h1 h2 _ ih=>obtain⟨r',q'⟩:=kq b f st h1 h2;exact .x r' q' ih
theorem VR.step{v:Value}{x:V}(r:VR G F.B β s.heap v x):VR G F.B β' s'.heap v x:=by
 cases x with
 | d x=>obtain⟨as,r,q⟩:=r;obtain⟨r',q'⟩:=kq b f st r q;exact⟨as,r',q'⟩
 | box n=>obtain⟨a,h1,h2⟩:=r;exact⟨a,jd st.pre h1,h2⟩
 | tm its=>
   obtain⟨a,o,vs,k,rfl,h1,h2,h3,h4⟩:=r
   obtain⟨p1,p2⟩:=qi b f h1 h2 h3
   exact⟨a,o,vs,k,rfl,st.keptE h1 p1 (fun hw=>p2 (f.sub a hw)) (fun es n q=>by rw[h3] at q;cases q),h2,h3,ItsR.step b f st h4⟩
end
noncomputable abbrev WT(α:Type):=(α→Shared→Prop)→(Value→Shared→Prop)→Shared→Prop
noncomputable abbrev tr(G:Gl)(A:Around){α:Type}(t:Sem α):WT α:=fun Q E s=>wpAny (model G.prog G.w) A t Q E s
noncomputable def DoesW{α δ:Type}(G:Gl)(F:Fm)(s:Shared)(β:List Addr)(T:WT α)(r:R (Loc×za) δ)(Rel:List Addr→Heap→α→δ→Prop):Prop:=
 match r with
 | .ok d S=>∀ (Q:α→Shared→Prop) (E:Value→Shared→Prop),
    (∀ s' β' a,Step F.W β s s' β'→SR G F β' S.1 S.2 s'.heap→Rel β' s'.heap a d→Q a s')→T Q E s
 | .stuck=>True
noncomputable abbrev Does{α δ:Type}(G:Gl)(F:Fm)(A:Around)(s:Shared)(β:List Addr)(t:Sem α)(r:R (Loc×za) δ)(Rel:List Addr→Heap→α→δ→Prop):Prop:=
 DoesW G F s β (tr G A t) r Rel
theorem DoesW.seq{α γ δ ε:Type}{G:Gl}{F:Fm}{s:Shared}{β:List Addr}{T:WT γ}{T₁:WT α}{T₂:α→WT γ}{r:R (Loc×za) δ}{g:δ→Loc×za→R (Loc×za) ε}
 {Rel₁:List Addr→Heap→α→δ→Prop} {Rel:List Addr→Heap→γ→ε→Prop}
 (hw:∀ (Q:γ→Shared→Prop) (E:Value→Shared→Prop),T₁ (fun a s'=>T₂ a Q E s') E s→T Q E s)
 (h1:DoesW G F s β T₁ r Rel₁)
 (h2:∀ s' β' a d S,r=.ok d S→Step F.W β s s' β'→SR G F β' S.1 S.2 s'.heap→Rel₁ β' s'.heap a d→DoesW G F s' β' (T₂ a) (g d S) Rel) :
 DoesW G F s β T (r.bind g) Rel:=by
 cases r with
 | stuck=>trivial
 | ok d S=>
   show DoesW G F s β T (g d S) Rel
   cases hg:g d S with
   | stuck=>trivial
   | ok e S'=>
     intro Q E k
     refine hw Q E (h1 _ _ fun s' β' a st sr rel=>?_)
     have:=h2 s' β' a d S rfl st sr rel
     rw[hg] at this
     exact this Q E fun s'' β'' c st' sr' rel'=>k s'' β'' c (st.trans st') sr' rel'
theorem DoesW.seqE{α γ δ ε:Type}{G:Gl}{F:Fm}{s:Shared}{β:List Addr}{ρ:Loc}{T:WT γ}{T₁:WT α}{T₂:α→WT γ}{r:R za δ}{g:δ→za→R za ε}
 {Rel₁:List Addr→Heap→α→δ→Prop} {Rel:List Addr→Heap→γ→ε→Prop}
 (hw:∀ (Q:γ→Shared→Prop) (E:Value→Shared→Prop),T₁ (fun a s'=>T₂ a Q E s') E s→T Q E s)
 (h1:DoesW G F s β T₁ (r.lift ρ) Rel₁)
 (h2:∀ s' β' a d O,r=.ok d O→Step F.W β s s' β'→SR G F β' ρ O s'.heap→Rel₁ β' s'.heap a d→DoesW G F s' β' (T₂ a) ((g d O).lift ρ) Rel) :
 DoesW G F s β T ((r.bind g).lift ρ) Rel:=by
 rw[R.lift_bind]
 refine DoesW.seq hw h1 fun s' β' a d S e st sr rel=>?_
 cases r with
 | ok d' O=>cases (e);exact h2 s' β' a d O rfl st sr rel
 | stuck=>cases e
theorem DoesW.by{α γ δ ε:Type}{G:Gl}{F:Fm}{s:Shared}{β:List Addr}{T:WT γ}{T₁:WT α}{r:R (Loc×za) δ}{r':R (Loc×za) ε}
 {Rel₁:List Addr→Heap→α→δ→Prop} {Rel:List Addr→Heap→γ→ε→Prop} (f:α→γ) (q:δ→ε)
 (hw:∀ (Q:γ→Shared→Prop) (E:Value→Shared→Prop),T₁ (fun a s'=>Q (f a) s') E s→T Q E s)
 (h1:DoesW G F s β T₁ r Rel₁) (hr:∀ β h a d,Rel₁ β h a d→Rel β h (f a) (q d))
 (hq:r'=r.bind fun d S=>.ok (q d) S:=by rfl):DoesW G F s β T r' Rel:=by
 subst hq
 cases r with
 | stuck=>trivial
 | ok d S=>exact fun Q E k=>hw Q E (h1 _ _ fun s' β' a st sr rel=>k s' β' _ st sr (hr _ _ _ _ rel))
theorem DoesW.weaken{α δ:Type}{G:Gl}{F:Fm}{s:Shared}{β:List Addr}{T T₁:WT α}{r:R (Loc×za) δ}
 {Rel₁ Rel:List Addr→Heap→α→δ→Prop} (h1:DoesW G F s β T₁ r Rel₁) (hw:∀ (Q:α→Shared→Prop) (E:Value→Shared→Prop),T₁ Q E s→T Q E s)
 (hr:∀ β h a d,Rel₁ β h a d→Rel β h a d):DoesW G F s β T r Rel:=by
 cases r with
 | stuck=>trivial
 | ok d S=>exact fun Q E k=>hw Q E (h1 _ _ fun s' β' a st sr rel=>k s' β' _ st sr (hr _ _ _ _ rel))
inductive Ty where
 | int | bool | tuple | list | str
 deriving DecidableEq
inductive Bop where
 | add | sub | mul | fdiv | mod | pow
 deriving DecidableEq
inductive Cop where
 | eq | ne | lt | le | gt | ge | is | isnot | in_ | notin
 deriving DecidableEq
inductive Prim where
 | isinst (t:Ty) | isexc (c:Nat)
 | len | all | any | sum | sorted | list | tuple | min2 | min | max | int | str | lenset | sortedset
 deriving DecidableEq
inductive Meth where
 | append | pop | clear | index
 deriving DecidableEq
inductive CT where
 | name (i:Nat)
 | two (a b:CT)
structure Pg where
 call:Bool→Nat→List V→za→R za V
 hd:Bool
 gval:Nat→Option PyData
 turns:Nat
 sub:Nat→Nat→Option Bool
 srt:List PyData→Option (List PyData)
 sets:Bool
 txt:PyData→Option Str
noncomputable def qb(O:za)(n:Nat):Option PyData:=match O[n]? with
 | some (.lst xs)=>some (.list xs)
 | _=>none
noncomputable def look(O:za):V→Option PyData
 | .d x=>some x
 | .box n=>qb O n
 | _=>none
noncomputable def allD:List V→Option (List PyData)
 | []=>some []
 | .d x::r=>(allD r).map (x::·)
 | _::_=>none
noncomputable def allI:List V→Option (List It)
 | []=>some []
 | .d x::r=>(allI r).map (.x x::·)
 | .box n::r=>(allI r).map (.b n::·)
 | _::_=>none
noncomputable def tupV(vs:List V):Option V:=match allD vs with
 | some xs=>some (.d (.tuple xs))
 | none=>(allI vs).map .tm
noncomputable def repL{α:Type}(xs:List α)(n:Int):List α:=(List.replicate n.toNat xs).flatten
noncomputable def line:Nat:=1000000
noncomputable def addD:PyData→PyData→Option PyData
 | .int a,y=>(match y with
    | .int b=>some (.int (a+b))
    | _=>none)
 | .list a,y=>(match y with
    | .list b=>if a.length+b.length≤line then some (.list (a++b)) else none
    | _=>none)
 | .tuple a,y=>(match y with
    | .tuple b=>if a.length+b.length≤line then some (.tuple (a++b)) else none
    | _=>none)
 | .str a,y=>(match y with
    | .str b=>if a.length+b.length≤line then some (.str (a++b)) else none
    | _=>none)
 | _,_=>none
noncomputable def mulD:PyData→Int→Option PyData
 | .int a,b=>if a.natAbs < 2 ^ 64∨b.natAbs < 2 ^ 64 then some (.int (a * b)) else none
 | .list a,n=>if a.length * n.toNat≤256∧0≤n∧n≤256 then some (.list (repL a n)) else none
 | .tuple a,n=>if a≠[]∧a.length * n.toNat≤256∧2≤n∧n≤256 then some (.tuple (repL a n)) else none
 | .str a,n=>if a.length≤256∧0≤n∧n≤256 then some (.str (Txt.mul a n)) else none
 | _,_=>none
noncomputable def arith(op:Bop)(a b:Int):Option PyData:=match op with
 | .sub=>some (.int (a - b))
 | .fdiv=>if b≠0∧b.natAbs < 1073741824 then some (.int (Int.fdiv a b)) else none
 | .mod=>if b=0 then none else some (.int (Int.fmod a b))
 | .pow=>if a=10∧b=20 then some (.int 100000000000000000000) else none
 | _=>none
noncomputable def intD(f:Int→Option PyData):PyData→Option PyData
 | .int i=>f i
 | _=>none
noncomputable def zcq(op:Bop)(x y:PyData):Option PyData:=match op with
 | .add=>addD x y
 | .mul=>intD (mulD x) y
 | op=>intD (fun a=>intD (arith op a) y) x
noncomputable def eqOk(a b:PyData):Bool:=a.canLay0 && b.canLay0 && decide (min a.depth b.depth≤100)
noncomputable def inD(a:PyData)(xs:List PyData):Option Bool:=if a.canLay0 && PyData.canLayAll0 xs && decide (a.depth≤100) then some (xs.any fun y=>PyData.eqv y a) else none
noncomputable def seqD:PyData→Option (List PyData)
 | .list xs=>some xs
 | .tuple xs=>some xs
 | _=>none
noncomputable def ordD(f:Int→Int→Bool):PyData→PyData→Option Bool
 | .int a,y=>(match y with
    | .int b=>some (f a b)
    | _=>none)
 | _,_=>none
noncomputable def jy(op:Cop)(a b:PyData):Option Bool:=match op with
 | .eq=>if eqOk a b then some (PyData.eqv a b) else none
 | .ne=>if eqOk a b then some (!PyData.eqv a b) else none
 | .lt=>ordD (fun a b=>decide (a < b)) a b
 | .le=>ordD (fun a b=>decide (a≤b)) a b
 | .gt=>ordD (fun a b=>decide (a > b)) a b
 | .ge=>ordD (fun a b=>decide (a ≥ b)) a b
 | .in_=>(seqD b).bind (inD a)
 | .notin=>((seqD b).bind (inD a)).map (!·)
 | _=>none
noncomputable def isNone:PyData→Bool
 | .none=>true
 | _=>false
noncomputable def isBool(b:Bool):PyData→Bool
 | .bool a=>a == b
 | _=>false
noncomputable def isop(x:PyData):PyData→Option Bool
 | .none=>some (isNone x)
 | .bool b=>some (isBool b x)
 | _=>none
noncomputable def truth:V→Option Bool
 | .d (.bool b)=>some b
 | _=>none
noncomputable def items:PyData→Option (List PyData)
 | .list xs=>some xs
 | .tuple xs=>some xs
 | _=>none
noncomputable def idxD(x:PyData)(i:PyData):Option PyData:=match items x,i with
 | some xs,.int k=>if xs.length≤line then (if 0≤k then xs[k.toNat]? else if 0≤k+xs.length then xs[(k+xs.length).toNat]? else none) else none
 | _,_=>none
noncomputable def clip(n:Nat)(dflt:Nat):PyData→Option Nat
 | .none=>some dflt
 | .int k=>some (clipAt n k)
 | _=>none
noncomputable def ui{α:Type}(xs:List α)(lo hi:Nat):List α:=(xs.drop lo).take (hi - lo)
noncomputable def vb(xs:List PyData)(lo hi:PyData):Option PyData:=if xs.length≤line then (clip xs.length 0 lo).bind fun l=>(clip xs.length xs.length hi).map fun h=>.list (ui xs l h) else none
noncomputable def ofList(f:List PyData→Option PyData):PyData→Option PyData
 | .list xs=>f xs
 | _=>none
noncomputable def zc1(x lo hi:PyData):Option PyData:=ofList (fun xs=>vb xs lo hi) x
noncomputable def isTy:Ty→PyData→Bool
 | .int,.int _=>true
 | .int,.bool _=>true
 | .bool,.bool _=>true
 | .tuple,.tuple _=>true
 | .list,.list _=>true
 | .str,.str _=>true
 | _,_=>false
noncomputable def intsOf:List PyData→Option (List Int)
 | []=>some []
 | .int i::r=>(intsOf r).map (i::·)
 | _::_=>none
noncomputable def wf:List PyData→Option (List Bool)
 | []=>some []
 | .bool i::r=>(wf r).map (i::·)
 | _::_=>none
noncomputable def isInt:PyData→Bool
 | .int _=>true
 | _=>false
noncomputable def addI(a:Int):List Int→List Int
 | []=>[a]
 | b::r=>if a < b then a::b::r else if a=b then b::r else b::addI a r
noncomputable def x9(is:List Int):List Int:=is.foldl (fun acc i=>addI i acc) []
noncomputable def small(is:List Int):Bool:=decide (is.length≤4) && is.all fun i=>decide (0≤i) && decide (i < 5)
noncomputable def maxI:List Int→Option Int
 | []=>none
 | a::r=>some (r.foldl max a)
noncomputable def tupI:PyData→Option (List Int)
 | .tuple xs=>intsOf xs
 | _=>none
noncomputable def wz:List PyData→Option (List (List Int))
 | []=>some []
 | x::r=>(tupI x).bind fun a=>(wz r).map (a::·)
noncomputable def Prim.calm:Prim→Bool
 | .isinst _ | .isexc _ | .len | .int=>true
 | _=>false
noncomputable def lenD:PyData→Option PyData
 | .list xs=>if xs.length≤line then some (.int xs.length) else none
 | .tuple xs=>if xs.length≤line then some (.int xs.length) else none
 | _=>none
noncomputable def zea(f:List PyData→Option PyData):PyData→Option PyData
 | .list xs=>f xs
 | _=>none
noncomputable def zg9:PyData→Option PyData
 | .list xs=>if xs.length≤line then some (.list xs) else none
 | .tuple xs=>if xs.length≤line then some (.list xs) else none
 | _=>none
noncomputable def zpf:PyData→Option PyData
 | .list xs=>if xs.length≤line then some (.tuple xs) else none
 | .tuple xs=>some (.tuple xs)
 | _=>none
noncomputable def zpg:PyData→Option PyData
 | .bool b=>some (.int (if b then 1 else 0))
 | _=>none
noncomputable def setT(f:List Int→PyData)(xs:List PyData):Option PyData:=(intsOf xs).bind fun is=>if small is then some (f is) else none
noncomputable def zda:PyData→Option PyData
 | .tuple xs=>setT (fun is=>.int (x9 is).length) xs
 | _=>none
noncomputable def wi:PyData→Option PyData
 | .tuple xs=>setT (fun is=>.list ((x9 is).map .int)) xs
 | _=>none
noncomputable def zb5(P:Pg):Prim→PyData→Option PyData
 | .isinst t,x=>some (.bool (isTy t x))
 | .isexc _,_=>none
 | .len,x=>lenD x
 | .all,x=>zea (fun xs=>(wf xs).map fun bs=>.bool (bs.all id)) x
 | .any,x=>zea (fun xs=>(wf xs).map fun bs=>.bool (bs.any id)) x
 | .sum,x=>zea (fun xs=>(intsOf xs).map fun is=>.int is.sum) x
 | .sorted,x=>zea (fun xs=>if xs.length < 64 then (P.srt xs).map .list else none) x
 | .list,x=>zg9 x
 | .tuple,x=>zpf x
 | .min2,_=>none
 | .min,_=>none
 | .max,_=>none
 | .int,x=>zpg x
 | .str,_=>none
 | .lenset,x=>(match P.sets with
    | true=>zda x
    | false=>none)
 | .sortedset,x=>(match P.sets with
    | true=>wi x
    | false=>none)
noncomputable def zsi:PyData→PyData→Option PyData
 | .int a,.int b=>some (.int (min a b))
 | _,_=>none
noncomputable def wb(P:Pg)(p:Prim)(xs:List PyData):Option PyData:=match xs with
 | [x]=>zb5 P p x
 | [x,y]=>(match p with
     | .min2=>zsi x y
     | _=>none)
 | _=>none
noncomputable def opt{α:Type}(o:Option α)(O:za):R za α:=match o with
 | some a=>.ok a O
 | none=>.stuck
noncomputable def prim(P:Pg)(p:Prim)(vs:List V)(O:za):R za V:=
 match (vs.mapM (look O)).bind (wb P p) with
 | some y=>.ok (.d y) O
 | none=>.stuck
noncomputable def boxL(o:V)(O:za)(f:Nat→List PyData→R za V):R za V:=match o with
 | .box n=>(match O[n]? with
    | some (.lst xs)=>f n xs
    | _=>.stuck)
 | _=>.stuck
noncomputable def oneD(f:PyData→R za V)(vs:List V):R za V:=match vs with
 | [.d x]=>f x
 | _=>.stuck
noncomputable def meth(m:Meth)(o:V)(vs:List V)(O:za):R za V:=match m with
 | .append=>boxL o O fun n xs=>oneD (fun x=>if xs.length < line then .ok (.d .none) (O.set n (.lst (xs++[x]))) else .stuck) vs
 | _=>.stuck
noncomputable def zef(O:za)(n:Nat):Bool:=match O[n]? with
 | some (.lst _)=>true
 | _=>false
noncomputable def recv(m:Meth)(v:V)(O:za):Bool:=match m,v with
 | .append,.box n=>zef O n
 | _,_=>false
inductive Src where
 | plain (xs:List PyData)
 | box (n:Nat) (xs:List PyData)
noncomputable def Src.xs:Src→List PyData
 | .plain xs=>xs
 | .box _ xs=>xs
noncomputable def Src.still(s:Src)(O:za):Bool:=match s with
 | .plain _=>true
 | .box n xs=>@decide (O[n]?=some (.lst xs)) (Classical.propDecidable _)
noncomputable def It.v:It→V
 | .b n=>.box n
 | .x d=>.d d
noncomputable def zp:CT→V→Loc→Option Loc
 | .name i,v,ρ=>if i < ρ.length then some (ρ.set i (some v)) else none
 | .two a b,.d x,ρ=>(match items x with
    | some [y,z]=>(zp a (.d y) ρ).bind (zp b (.d z))
    | _=>none)
 | _,_,_=>none
noncomputable def zw(a b:Int):List PyData:=(List.range (b - a).toNat).map fun (i:Nat)=>.int (a+i)
noncomputable def z7(src:Src)(turn:PyData→za→R za (Option PyData)):List PyData→List PyData→za→R za V
 | [],acc,O=>.ok (.d (.list acc)) O
 | x::xs,acc,O=>(match turn x O with
    | .ok y O'=>if src.still O' then z7 src turn xs (acc++y.toList) O' else .stuck
    | _=>.stuck)
noncomputable def isV(f:Bool→Bool)(x y:V)(O:za):R za V:=match x with
 | .d a=>(match y with
    | .d b=>opt ((isop a b).map fun c=>.d (.bool (f c))) O
    | _=>.stuck)
 | _=>.stuck
noncomputable def cmpG(op:Cop)(x y:V)(O:za):R za V:=opt (((look O x).bind fun x=>(look O y).bind fun y=>jy op x y).map fun b=>.d (.bool b)) O
noncomputable def cmpV(op:Cop)(x y:V)(O:za):R za V:=match op with
 | .is=>isV id x y O
 | .isnot=>isV not x y O
 | op=>cmpG op x y O
noncomputable def idxV(v u:V)(O:za):R za V:=match u with
 | .d k=>opt (((look O v).bind fun x=>idxD x k).map .d) O
 | _=>.stuck
noncomputable def CE:Type:=Pg→Loc→za→R za V
noncomputable def evE(P:Pg)(ρ:Loc)(c:CE)(O:za):R za V:=c P ρ O
noncomputable def CI:Type:=Pg→Loc→za→R za Src
noncomputable def evI(P:Pg)(ρ:Loc)(c:CI)(O:za):R za Src:=c P ρ O
inductive CEs where
 | nil
 | cons (e:CE) (es:CEs)
noncomputable def evEs(P:Pg)(ρ:Loc):CEs→za→R za (List V)
 | .nil,O=>.ok [] O
 | .cons e es,O=>(evE P ρ e O).bind fun v O=>(evEs P ρ es O).bind fun vs O=>.ok (v::vs) O
noncomputable def xd(P:Pg)(ρ:Loc):CEs→za→R za Bool
 | .nil,O=>.ok true O
 | .cons e es,O=>(evE P ρ e O).bind fun v O=>(opt (truth v) O).bind fun t O=>(match t with
    | true=>xd P ρ es O
    | false=>.ok false O)
noncomputable def boxK(v:V)(O:za):R za V:=match v with
 | .d (.list xs)=>.ok (.box O.length) (O++[.lst xs])
 | _=>.stuck
noncomputable def yz(tgt:CT)(evT:Loc→za→R za Bool)(evX:Loc→za→R za V)(ρ:Loc)(x:PyData)(O:za):R za (Option PyData):=match zp tgt (.d x) ρ with
 | none=>.stuck
 | some ρ'=>(evT ρ' O).bind fun t O=>(match t with
    | false=>.ok none O
    | true=>(evX ρ' O).bind fun v O=>(match v with
       | .d y=>.ok (some y) O
       | _=>.stuck))
noncomputable def negV(v:V)(O:za):R za V:=match v with
 | .d (.int i)=>.ok (.d (.int (-i))) O
 | _=>.stuck
noncomputable def CE.none:CE:=fun _ _ O=>.ok (.d .none) O
noncomputable def CE.bool(b:Bool):CE:=fun _ _ O=>.ok (.d (.bool b)) O
noncomputable def CE.int(i:Int):CE:=fun _ _ O=>.ok (.d (.int i)) O
noncomputable def CE.str(x:Str):CE:=fun _ _ O=>.ok (.d (.str x)) O
noncomputable def CE.loc(i:Nat):CE:=fun _ ρ O=>opt (ρ[i]?.join) O
noncomputable def CE.glob(k:Nat):CE:=fun P _ O=>opt ((P.gval k).map .d) O
noncomputable def CE.tup(es:CEs):CE:=fun P ρ O=>(evEs P ρ es O).bind fun vs O=>opt (tupV vs) O
noncomputable def CE.list(es:CEs):CE:=fun P ρ O=>(evEs P ρ es O).bind fun vs O=>opt ((allD vs).map fun xs=>.d (.list xs)) O
noncomputable def CE.dict:CE:=fun _ _ O=>.ok (.d (.dict [])) O
noncomputable def CE.boxed(e:CE):CE:=fun P ρ O=>(evE P ρ e O).bind boxK
noncomputable def CE.neg(e:CE):CE:=fun P ρ O=>(evE P ρ e O).bind negV
noncomputable def CE.nt(e:CE):CE:=fun P ρ O=>(evE P ρ e O).bind fun v O=>opt ((truth v).map fun b=>.d (.bool !b)) O
noncomputable def andK(r:za→R za V):Bool→za→R za V
 | true,O=>r O
 | false,O=>.ok (.d (.bool false)) O
noncomputable def orK(r:za→R za V):Bool→za→R za V
 | true,O=>.ok (.d (.bool true)) O
 | false,O=>r O
noncomputable def iteK(r q:za→R za V):Bool→za→R za V
 | true,O=>r O
 | false,O=>q O
noncomputable def binK(op:Bop)(v u:V)(O:za):R za V:=opt (((look O v).bind fun x=>(look O u).bind fun y=>zcq op x y).map V.d) O
noncomputable def CE.and_(a b:CE):CE:=fun P ρ O=>(evE P ρ a O).bind fun v O=>(opt (truth v) O).bind (andK fun O=>evE P ρ b O)
noncomputable def CE.or_(a b:CE):CE:=fun P ρ O=>(evE P ρ a O).bind fun v O=>(opt (truth v) O).bind (orK fun O=>evE P ρ b O)
noncomputable def CE.bin(op:Bop)(a b:CE):CE:=fun P ρ O=>(evE P ρ a O).bind fun v O=>(evE P ρ b O).bind fun u O=>binK op v u O
noncomputable def CE.cmp(op:Cop)(a b:CE):CE:=fun P ρ O=>(evE P ρ a O).bind fun v O=>(evE P ρ b O).bind fun u O=>cmpV op v u O
noncomputable def CE.chain(p q:Cop)(a b c:CE):CE:=fun P ρ O=>(evE P ρ a O).bind fun v O=>(evE P ρ b O).bind fun u O=>(cmpV p v u O).bind fun t O=>(opt (truth t) O).bind (andK fun O=>(evE P ρ c O).bind fun y O=>cmpV q u y O)
noncomputable def CE.ite(t a b:CE):CE:=fun P ρ O=>(evE P ρ t O).bind fun v O=>(opt (truth v) O).bind (iteK (fun O=>evE P ρ a O) fun O=>evE P ρ b O)
noncomputable def CE.idx(a i:CE):CE:=fun P ρ O=>(evE P ρ a O).bind fun v O=>(evE P ρ i O).bind fun u O=>idxV v u O
noncomputable def zc0(v l h:V)(O:za):R za V:=match l with
 | .d l=>(match h with
    | .d h=>opt (((look O v).bind fun x=>zc1 x l h).map .d) O
    | _=>.stuck)
 | _=>.stuck
noncomputable def CE.slice(a lo hi:CE):CE:=fun P ρ O=>(evE P ρ a O).bind fun v O=>(evE P ρ lo O).bind fun l O=>(evE P ρ hi O).bind fun h O=>zc0 v l h O
noncomputable def CE.comp(elt:CE)(tgt:CT)(it:CI)(ifs:CEs):CE:=fun P ρ O=>if P.hd=true then .stuck else (evI P ρ it O).bind fun src O=>if src.xs.length≤line then z7 src (yz tgt (fun ρ O=>xd P ρ ifs O) (fun ρ O=>evE P ρ elt O) ρ) src.xs [] O else .stuck
noncomputable def CE.call(f:Nat)(args:CEs):CE:=fun P ρ O=>(evEs P ρ args O).bind fun vs O=>P.call P.hd f vs O
noncomputable def CE.prim(p:Prim)(args:CEs):CE:=fun P ρ O=>if (P.hd && !p.calm)=true then .stuck else (evEs P ρ args O).bind fun vs O=>Mine.prim P p vs O
noncomputable def CE.meth(m:Meth)(o:CE)(args:CEs):CE:=fun P ρ O=>(evE P ρ o O).bind fun v O=>if recv m v O then (evEs P ρ args O).bind fun vs O=>Mine.meth m v vs O else .stuck
noncomputable def srcV(v:V)(O:za):R za Src:=match v with
 | .d x=>opt ((items x).map .plain) O
 | .box n=>(match O[n]? with
    | some (.lst xs)=>.ok (.box n xs) O
    | _=>.stuck)
 | _=>.stuck
noncomputable def zsy:PyData→Option Int
 | .int i=>some i
 | _=>none
noncomputable def intV:V→Option Int
 | .d x=>zsy x
 | _=>none
noncomputable def xj(v u:V)(O:za):R za (Int×Int):=match intV v with
 | some i=>(match intV u with
    | some j=>if -(10 ^ 9)≤i∧i≤10 ^ 9∧-(10 ^ 9)≤j∧j≤10 ^ 9 then .ok (i,j) O else .stuck
    | none=>.stuck)
 | none=>.stuck
noncomputable def rng(a b:CE)(P:Pg)(ρ:Loc)(O:za):R za (Int×Int):=(evE P ρ a O).bind fun v O=>(evE P ρ b O).bind fun u O=>xj v u O
noncomputable def CI.e(a:CE):CI:=fun P ρ O=>(evE P ρ a O).bind srcV
noncomputable def CI.range(a b:CE):CI:=fun P ρ O=>(rng a b P ρ O).bind fun p O=>.ok (.plain (zw p.1 p.2)) O
noncomputable def y6(src:Src)(turn:PyData→Loc→za→R (Loc×za) Fl):List PyData→Loc→za→R (Loc×za) Fl
 | [],ρ,O=>.ok .next (ρ,O)
 | x::xs,ρ,O=>(match turn x ρ O with
    | .ok (.ret v) S=>.ok (.ret v) S
    | .ok .next S=>if src.still S.2 then y6 src turn xs S.1 S.2 else .stuck
    | _=>.stuck)
noncomputable def y9(test:Loc→za→R (Loc×za) Bool)(turn:Loc→za→R (Loc×za) Fl):Nat→Loc→za→R (Loc×za) Fl
 | 0,_,_=>.stuck
 | n+1,ρ,O=>(match test ρ O with
    | .ok false S=>.ok .next S
    | .ok true S=>(match turn S.1 S.2 with
       | .ok (.ret v) S=>.ok (.ret v) S
       | .ok .next S=>y9 test turn n S.1 S.2
       | _=>.stuck)
    | _=>.stuck)
noncomputable def CT.isName:CT→Bool
 | .name _=>true
 | _=>false
noncomputable def CS:Type:=Pg→Loc→za→R (Loc×za) Fl
noncomputable def CSs:Type:=Pg→Loc→za→R (Loc×za) Fl
noncomputable def evS(P:Pg)(c:CS)(ρ:Loc)(O:za):R (Loc×za) Fl:=c P ρ O
noncomputable def evSs(P:Pg)(c:CSs)(ρ:Loc)(O:za):R (Loc×za) Fl:=c P ρ O
structure Fn where
 arity:Nat
 slots:Nat
 keep:Bool
 body:CSs
noncomputable def asgR(t:CT)(v:V)(S:Loc×za):R (Loc×za) Fl:=match zp t v S.1 with
 | some ρ'=>.ok .next (ρ',S.2)
 | none=>.stuck
noncomputable def kf(t:CT)(evb:Loc→za→R (Loc×za) Fl)(x:PyData)(ρ:Loc)(O:za):R (Loc×za) Fl:=match zp t (.d x) ρ with
 | none=>.stuck
 | some ρ'=>evb ρ' O
noncomputable def seqK(p:Loc×za→R (Loc×za) Fl):Fl→Loc×za→R (Loc×za) Fl
 | .ret v,S=>.ok (.ret v) S
 | .next,S=>p S
noncomputable def ifeK(p q:Loc×za→R (Loc×za) Fl):Bool→Loc×za→R (Loc×za) Fl
 | true,S=>p S
 | false,S=>q S
noncomputable def CS.ret(e:CE):CS:=fun P ρ O=>((evE P ρ e O).lift ρ).bind fun v S=>.ok (.ret v) S
noncomputable def CS.asg(t:CT)(e:CE):CS:=fun P ρ O=>if (P.hd && !t.isName)=true then .stuck else ((evE P ρ e O).lift ρ).bind (asgR t)
noncomputable def CS.ife(t:CE)(a b:CSs):CS:=fun P ρ O=>(((evE P ρ t O).bind fun v O=>opt (truth v) O).lift ρ).bind (ifeK (fun S=>evSs P a S.1 S.2) fun S=>evSs P b S.1 S.2)
noncomputable def CS.for_(t:CT)(it:CI)(body:CSs):CS:=fun P ρ O=>if P.hd=true then .stuck else ((evI P ρ it O).lift ρ).bind fun src S=>y6 src (kf t fun ρ O=>evSs P body ρ O) src.xs S.1 S.2
noncomputable def CS.while_(t:CE)(body:CSs):CS:=fun P ρ O=>y9 (fun ρ O=>((evE P ρ t O).bind fun v O=>opt (truth v) O).lift ρ) (fun ρ O=>evSs P body ρ O) P.turns ρ O
noncomputable def CS.expr(e:CE):CS:=fun P ρ O=>((evE P ρ e O).lift ρ).bind fun _ S=>.ok .next S
noncomputable def CSs.nil:CSs:=fun _ ρ O=>.ok .next (ρ,O)
noncomputable def CSs.cons(s:CS)(ss:CSs):CSs:=fun P ρ O=>(evS P s ρ O).bind (seqK fun S=>evSs P ss S.1 S.2)
noncomputable def wt(base:Nat)(keep:Bool)(n:Nat)(O:za):R za V:=if n < base then .ok (.box n) (O.take base) else (match O[n]? with
 | some (.lst xs)=>(match keep with
    | true=>.ok (.box base) (O.take base++[.lst xs])
    | false=>.ok (.d (.list xs)) (O.take base))
 | _=>.stuck)
noncomputable def frz(O:za)(base:Nat):List It→Option (List PyData)
 | []=>some []
 | .x d::r=>(frz O base r).map (d::·)
 | .b n::r=>if base≤n then (qb O n).bind fun x=>(frz O base r).map (x::·) else none
noncomputable def fin(base:Nat)(keep:Bool)(v:V)(O:za):R za V:=match v with
 | .d x=>.ok (.d x) (O.take base)
 | .box n=>wt base keep n O
 | .tm its=>(match frz O base its with
    | some ds=>.ok (.d (.tuple ds)) (O.take base)
    | none=>.stuck)
noncomputable def evFn(P:Pg)(fn:Fn)(args:List V)(O:za):R za V:=
 match evSs P fn.body (args.map some++List.replicate (fn.slots - fn.arity) none) O with
 | .ok (.ret v) S=>fin O.length fn.keep v S.2
 | .ok .next S=>.ok (.d .none) (S.2.take O.length)
 | .stuck=>.stuck
noncomputable def ze(P:Pg)(T:Nat→Option Fn):Nat→Bool→Nat→List V→za→R za V
 | 0,_,_,_,_=>.stuck
 | k+1,hd,f,args,O=>match T f with
   | some fn=>if args.length=fn.arity∧fn.arity≤fn.slots then evFn { P with call:=ze P T k,hd:=hd } fn args O else .stuck
   | none=>.stuck
structure KeepsAll(s s':Shared):Prop where
 gens:s'.gens=s.gens
 os:s'.os=s.os
 kept:∀ b o,s.heap.get? b=some o→s'.heap.get? b=some o
theorem KeepsAll.refl(s:Shared):KeepsAll s s:=⟨rfl,rfl,fun _ _ h=>h⟩
theorem KeepsAll.toks(s:Shared)(n:Nat):KeepsAll s { s with toks:=n }:=⟨rfl,rfl,fun _ _ h=>h⟩
theorem KeepsAll.trans{s s' s'':Shared}(x:KeepsAll s s')(y:KeepsAll s' s''):KeepsAll s s'':=⟨y.gens.trans x.gens,y.os.trans x.os,fun b o e=>y.kept b o (x.kept b o e)⟩
theorem KeepsAll.push(s:Shared)(o:Obj)(n:Nat):KeepsAll s { s with heap:=s.heap.push o,toks:=n }:=⟨rfl,rfl,fun _ _ e=>Heap.get?_push_of_some o e⟩
theorem KeepsAll.step{s s':Shared}(x:KeepsAll s s')(W β:List Addr):Step W β s s' β:=
 ⟨x.gens,x.os,List.prefix_refl _,fun _ h=>.inl h,fun b o e=>⟨o,x.kept b o e⟩,fun b o e _ _=>⟨o,x.kept b o e,Kin.refl o⟩⟩
section
variable{G:Gl}{F:Fm}{N β:List Addr}{ρ:Loc}{O:za}{h h':Heap}
theorem ya(hk:∀ b o,h.get? b=some o→h'.get? b=some o){v:Value}{x:PyData}{as:List Addr}(r:Reads h v x as):Reads h' v x as:=
 jk (P:=fun _=>True) (fun b o e _=>hk b o e) (fun _ _ _ _ _ _ _=>trivial) r fun _ _=>trivial
theorem zt(hk:∀ b o,h.get? b=some o→h'.get? b=some o){v:List Value}{x:List PyData}{as:List Addr}(r:ReadsAll h v x as):ReadsAll h' v x as:=
 xx (P:=fun _=>True) (fun b o e _=>hk b o e) (fun _ _ _ _ _ _ _=>trivial) r fun _ _=>trivial
theorem pf(hk:∀ b o,h.get? b=some o→h'.get? b=some o){vs:List Value}{its:List It}(r:ItsR N β h vs its):ItsR N β h' vs its:=by
 induction r with
 | nil=>exact .nil
 | b h1 _ ih=>exact .b h1 ih
 | x h1 h2 _ ih=>exact .x (ya hk h1) h2 ih
theorem VR.keepAll(hk:∀ b o,h.get? b=some o→h'.get? b=some o){v:Value}{x:V}(r:VR G N β h v x):VR G N β h' v x:=by
 cases x with
 | d x=>obtain⟨as,r,q⟩:=r;exact⟨as,ya hk r,q⟩
 | box n=>exact r
 | tm its=>obtain⟨a,o,vs,k,e,h1,h2,h3,h4⟩:=r;exact⟨a,o,vs,k,e,hk _ _ h1,h2,h3,pf hk h4⟩
theorem BoxAt.keepAll(hk:∀ b o,h.get? b=some o→h'.get? b=some o){a:Addr}{bx:Box}(r:BoxAt h N β a bx):BoxAt h' N β a bx:=by
 cases bx with
 | lst xs=>obtain⟨o,vs,n,h1,h2,h3,as,h4,h5⟩:=r;exact⟨o,vs,n,hk _ _ h1,h2,h3,as,zt hk h4,h5⟩
theorem BR.keepAll(hk:∀ b o,h.get? b=some o→h'.get? b=some o)(b:BR G N β O h):BR G N β O h':=
 ⟨fun c o e=>hk _ _ (b.keep c o e),b.len,b.nodup,b.new,fun i a bx h1 h2=>(b.at_ i a bx h1 h2).keepAll hk,fun a ha=>(b.plain a ha).at fun o e=>hk a o e⟩
theorem Get.keepAll(hk:∀ b o,h.get? b=some o→h'.get? b=some o){env:Env}{x:Str}{v:Value}(g:Get h env x v):Get h' env x v:=by
 rcases g with ⟨h1,m,h2,h3⟩ | ⟨h1,c,h2,h3⟩
 ·exact .inl ⟨h1,m,h2.keeps hk,h3⟩
 ·exact .inr ⟨h1,c,h2,h3.keeps hk⟩
theorem FmOk.keepAll(hk:∀ b o,h.get? b=some o→h'.get? b=some o)(f:FmOk G F β h):FmOk G F β h' where
 kind:=f.kind
 globals:=f.globals
 builtins:=f.builtins
 once:=f.once
 ns:=let ⟨m,e⟩:=f.ns;⟨m,e.keeps hk⟩
 nsW:=f.nsW
 cell:=fun x h1=>let ⟨c,v,h3,h4,h5⟩:=f.cell x h1;⟨c,v,h3,h4.keeps hk,h5⟩
 apart:=f.apart
 sub:=f.sub
 new:=f.new
 notBox:=f.notBox
 stor:=fun a ha=>let ⟨o,h1,h2⟩:=f.stor a ha;⟨o,hk _ _ h1,h2⟩
 frB:=f.frB
 frs:=fun a ha=>let ⟨m,e⟩:=f.frs a ha;⟨m,e.keeps hk⟩
 pin:=fun m e=>⟨(f.pin m e).1.keeps hk,(f.pin m e).2⟩
theorem SR.keepAll(hk:∀ b o,h.get? b=some o→h'.get? b=some o)(r:SR G F β ρ O h):SR G F β ρ O h':=
 ⟨r.br.keepAll hk,r.fm.keepAll hk,fun i x v h1 h2=>let ⟨val,h3,h4⟩:=r.get i x v h1 h2;⟨val,h3.keepAll hk,h4.keepAll hk⟩⟩
end
section
variable{G:Gl}{F:Fm}{s:Shared}{β:List Addr}{ρ:Loc}{O:za}
theorem Does.leaf{α δ:Type}{T:WT α}{d:δ}{Rel:List Addr→Heap→α→δ→Prop}(sr:SR G F β ρ O s.heap)
 (hw:∀ (Q:α→Shared→Prop) (E:Value→Shared→Prop),(∀ v s',KeepsAll s s'→Rel β s'.heap v d→Q v s')→T Q E s) :
 DoesW G F s β T (.ok d (ρ,O)) Rel:=
 fun Q E k=>hw Q E fun v s' ka r=>k s' β v (ka.step _ _) (sr.keepAll ka.kept) r
theorem VR.none{N:List Addr}{h:Heap}:VR G N β h .none (.d .none):=⟨[],.none,fun _ h=>nomatch h⟩
theorem VR.bool{N:List Addr}{h:Heap}{b:Bool}:VR G N β h (.bool b) (.d (.bool b)):=⟨[],.bool b,fun _ h=>nomatch h⟩
theorem VR.int{N:List Addr}{h:Heap}{i:Int}{t:Tok}:VR G N β h (.int i t) (.d (.int i)):=⟨[],.int i t,fun _ h=>nomatch h⟩
theorem VR.str{N:List Addr}{h:Heap}{x:Str}{t:Tok}:VR G N β h (.str x t) (.d (.str x)):=⟨[],.str x t,fun _ h=>nomatch h⟩
end
structure Cx where
 names:List (Option Str)
 sc:Scope
 fname:Nat→Option Str
 gname:Nat→Option Str
 cname:Nat→Option Str
noncomputable def Cx.kind(cx:Cx)(x:Str):Option NameKind:=cx.sc.names.lookup x
noncomputable def pd(x:Str):Bool:=!(x == ("__debug__" : Str))
noncomputable def Cx.isLoc(cx:Cx)(i:Nat)(x:Str):Bool:=(cx.names[i]? == some (some x)) && (cx.kind x == some .local || cx.kind x == some .cell) && pd x
noncomputable def Cx.isGlob(cx:Cx)(x:Str):Bool:=cx.kind x == some .globalImplicit && pd x
noncomputable def ze5:Bop→Operator→Bool
 | .add,.Add=>true
 | .sub,.Sub=>true
 | .mul,.Mult=>true
 | .fdiv,.FloorDiv=>true
 | .mod,.Mod=>true
 | .pow,.Pow=>true
 | _,_=>false
noncomputable def jc:Cop→CmpOp→Bool
 | .eq,.Eq=>true
 | .ne,.NotEq=>true
 | .lt,.Lt=>true
 | .le,.LtE=>true
 | .gt,.Gt=>true
 | .ge,.GtE=>true
 | .is,.Is=>true
 | .isnot,.IsNot=>true
 | .in_,.In=>true
 | .notin,.NotIn=>true
 | _,_=>false
noncomputable def wh:Ty→Str
 | .int=>"int"
 | .bool=>"bool"
 | .tuple=>"tuple"
 | .list=>"list"
 | .str=>"str"
noncomputable def jl:Prim→Str
 | .isinst _=>"isinstance"
 | .isexc _=>"isinstance"
 | .len=>"len"
 | .all=>"all"
 | .any=>"any"
 | .sum=>"sum"
 | .sorted=>"sorted"
 | .list=>"list"
 | .tuple=>"tuple"
 | .min2=>"min"
 | .min=>"min"
 | .max=>"max"
 | .int=>"int"
 | .str=>"str"
 | .lenset=>"len"
 | .sortedset=>"sorted"
noncomputable def Prim.plain:Prim→Bool
 | .len | .all | .any | .sum | .sorted | .list | .tuple | .min | .max | .int | .str=>true
 | _=>false
noncomputable def addT:CT→Expr→List (Option Str)→List (Option Str)
 | .name i,.Name x _,l=>if l[i]? == some none then l.set i (some x) else l
 | .two a b,.Tuple [x,y] _ _,l=>addT b y (addT a x l)
 | _,_,l=>l
noncomputable def xo(l:List (Option Str)):Bool:=decide (l.filterMap id).Nodup
noncomputable def chkT(cx:Cx)(own:Str→Bool):CT→Expr→Bool
 | .name i,.Name x _=>cx.isLoc i x && own x
 | .two a b,.Tuple [x,y] _ _=>chkT cx own a x && chkT cx own b y
 | _,_=>false
noncomputable def ownOf(sc:Scope)(x:Str):Bool:=sc.names.lookup x == some .local || sc.names.lookup x == some .cell
noncomputable def zb4(scope sc:Scope):Scope:=
 { scope with names:=scope.names.map fun (n,k)=>if (k == .free && sc.kind == .function && sc.names.lookup n == some .cell) then (n,.cell) else (n,k) }
noncomputable def xg(scope sc:Scope):Bool:=
 scope.kind == .function && decide ((scope.names.map (·.1)).Nodup) && scope.names.all fun (n,k)=>k == .local || k == .cell || k == .globalImplicit || (k == .free && sc.names.lookup n == some .cell)
noncomputable def Cx.inner(cx:Cx)(tgt:CT)(t:Expr)(scope:Scope):Cx:=
 { cx with names:=addT tgt t (cx.names.map fun o=>o.filter fun x=>scope.names.lookup x == some .free),sc:=zb4 scope cx.sc }
noncomputable def zc8(x:Expr)(ap q:Pos):Bool:=(ap.endLine == q.line) && (match x with
 | .Name _ _=>true
 | .Subscript _ _ _=>true
 | _=>false)
noncomputable def yq(fn:Fn)(names:List Str):List (Option Str):=names.map some++List.replicate (fn.slots - names.length) none
noncomputable def gq(a:Arguments)(names:List Str)(ar:Nat):Bool:=
 a.posonlyargs.isEmpty && a.vararg.isNone && a.kwonlyargs.isEmpty && a.kw_defaults.isEmpty && a.kwarg.isNone && a.defaults.isEmpty && (a.args.map (·.arg) == names.take ar) && a.args.length == ar
noncomputable def zcg(sc:Scope):Bool:=sc.kind == .function && !sc.isGenerator && !sc.isCoroutine && decide ((sc.names.map (·.1)).Nodup) && sc.names.all fun (_,k)=>k == .local || k == .cell || k == .globalImplicit
noncomputable def zh4(fn:Fn)(names:List Str)(a:Arguments)(sc:Scope):Bool:=
 gq a names fn.arity && zcg sc && decide (names.Nodup) && decide (names.length≤fn.slots) && decide (fn.arity≤names.length) && names.all (ownOf sc)
end Mine
end
section
namespace Mine
open PySem PyProof.Rows
structure Room(A:Around)(k:Nat):Prop where
 depth:A.depth+k < 690
 units:A.units+8 * k < 7000
 guards:A.guards=some []
theorem Room.deeper{A:Around}{k:Nat}(r:Room A (k+1))(env:Env):Room (A.deeper env) k:=
 ⟨by have:=r.depth;show A.depth+1+k < 690;omega,by have:=r.units;show A.units+3+8 * k < 7000;omega,r.guards⟩
theorem Room.room{A:Around}{k:Nat}(r:Room A k):A.depth < recursionLimit:=by have:=r.depth;show A.depth < 1000;omega
theorem Room.c{A:Around}{k n:Nat}(r:Room A k)(hn:n≤2000:=by decide):A.units+n < cLine:=by have:=r.units;show A.units+n < 9900;omega
structure Fits(F:Fm)(cx:Cx):Prop where
 names:F.names=cx.names
 kind:∀ x,F.env.kindOf x=cx.kind x
 sck:cx.sc.kind=.function
noncomputable def bis:List (Str×Value):=[("isinstance",.builtin "isinstance"),("len",.builtin "len"),("all",.builtin "all"),("any",.builtin "any"),("sum",.builtin "sum"),("sorted",.builtin "sorted"),("min",.builtin "min"),("max",.builtin "max"),
 ("list",.type "list"),("tuple",.type "tuple"),("int",.type "int"),("str",.type "str"),("set",.type "set"),("bool",.type "bool"),("range",.type "range"),("zip",.type "zip"),("enumerate",.type "enumerate"),("reversed",.type "reversed")]
structure GOk(G:Gl)(gval:Nat→Option PyData)(gname:Nat→Option Str):Prop where
 nolimit:G.h₀.NoLimit
 g:G.h₀.Ns mainGlobals G.mg
 b:G.h₀.Ns builtinsNs G.mb
 gl:∀ k d x,gval k=some d→gname k=some x→∃ v,G.mg x=some v∧Reads G.h₀ v d []
 clsRef:∀ c,∃ C,G.cls c=.ref C
 bi:∀ p∈bis,G.mg p.1=none∧G.mb p.1=some p.2
 digits:∃ mc,G.h₀.Ns cStatics mc∧mc "sys.int_max_str_digits" = none
section
variable{G:Gl}{F:Fm}{A:Around}{s:Shared}{β:List Addr}{ρ:Loc}{O:za}{cx:Cx}{gval:Nat→Option PyData}{gname:Nat→Option Str}
noncomputable abbrev VRel(G:Gl)(F:Fm):List Addr→Heap→Value→V→Prop:=fun β h v d=>VR G F.B β h v d
theorem gw{i:Nat}{x:Str}(h:cx.isLoc i x=true):cx.names[i]?=some (some x)∧(cx.kind x=some .local∨cx.kind x=some .cell)∧(x == ("__debug__" : Str))=false:=by
 simp only[Cx.isLoc,pd,Bool.and_eq_true,Bool.or_eq_true,beq_iff_eq,Bool.not_eq_true'] at h
 exact⟨h.1.1,h.1.2,h.2⟩
theorem ph{x:Str}(h:cx.isGlob x=true):cx.kind x=some .globalImplicit∧(x == ("__debug__" : Str))=false:=by
 simp only[Cx.isGlob,pd,Bool.and_eq_true,beq_iff_eq,Bool.not_eq_true'] at h
 exact h
theorem zta{i:Nat}{x:Str}{p:Pos}(sr:SR G F β ρ O s.heap)(fit:Fits F cx)(h:cx.isLoc i x=true) :
 Does G F A s β (eval (.Name x p) F.env) ((opt (ρ[i]?.join) O).lift ρ) (VRel G F):=by
 obtain⟨h1,h2,h3⟩:=gw h
 cases hv:ρ[i]?.join with
 | none=>trivial
 | some v=>
   have hv':ρ[i]?=some (some v):=by
    cases e:ρ[i]? with
    | none=>rw[e] at hv;cases hv
    | some o=>rw[e] at hv;cases o with
      | none=>cases hv
      | some u=>cases hv;rfl
   obtain⟨val,g,r⟩:=sr.get i x v (by rw[fit.names];exact h1) hv'
   refine Does.leaf sr fun Q E k=>?_
   have hq:Q val s:=k val s (KeepsAll.refl s) r
   rcases g with ⟨gk,m,gm,gx⟩ | ⟨gk,c,gc,gx⟩
   ·exact wpAny_Name (wpAny_loadName_local sr.fm.kind gk gm gx hq) h3
   ·exact wpAny_Name (wpAny_loadName_cell sr.fm.kind gk gc gx hq) h3
theorem zch{x:Str}{p:Pos}{v:Value}{Q:Value→Shared→Prop}{E:Value→Shared→Prop}(g:GOk G gval gname)(sr:SR G F β ρ O s.heap)(fit:Fits F cx)(h:cx.isGlob x=true)(hv:G.mg x=some v)(q:Q v s) :
 wpAny (model G.prog G.w) A (eval (.Name x p) F.env) Q E s:=by
 obtain⟨h1,h2⟩:=ph h
 exact Calls.Name_function_global sr.fm.kind ((fit.kind x).trans h1) (Calls.loadGlobal_global (mg:=G.mg) (by rw[sr.fm.globals];exact g.g.keeps sr.br.keep) hv q) h2
theorem yb{x:Str}{p:Pos}{v:Value}{Q:Value→Shared→Prop}{E:Value→Shared→Prop}(g:GOk G gval gname)(sr:SR G F β ρ O s.heap)(fit:Fits F cx)(h:cx.isGlob x=true)(hm:G.mg x=none)(hv:G.mb x=some v)(q:Q v s) :
 wpAny (model G.prog G.w) A (eval (.Name x p) F.env) Q E s:=by
 obtain⟨h1,h2⟩:=ph h
 exact Calls.Name_function_global sr.fm.kind ((fit.kind x).trans h1) (Calls.loadGlobal_builtin (mg:=G.mg) (mb:=G.mb) (by rw[sr.fm.globals];exact g.g.keeps sr.br.keep) hm (by rw[sr.fm.builtins];exact g.b.keeps sr.br.keep) hv q) h2
theorem zq8{k:Nat}{x:Str}{p:Pos}(g:GOk G gval gname)(sr:SR G F β ρ O s.heap)(fit:Fits F cx)(hk:gname k=some x)(h:cx.isGlob x=true) :
 Does G F A s β (eval (.Name x p) F.env) ((opt ((gval k).map V.d) O).lift ρ) (VRel G F):=by
 cases hd:gval k with
 | none=>trivial
 | some d=>
   obtain⟨v,hv,r⟩:=g.gl k d x hd hk
   refine Does.leaf sr fun Q E q=>zch g sr fit h hv (q v s (KeepsAll.refl s) ⟨[],ya sr.br.keep r,fun _ h=>nomatch h⟩)
end
end Mine
end
section
namespace Mine
open PySem
theorem and2{a b:Bool}(h:(a && b)=true):a=true∧b=true:=Bool.and_eq_true_iff.mp h
theorem and3{a b c:Bool}(h:(a && b && c)=true):a=true∧b=true∧c=true:=by
 obtain⟨h1,h2⟩:=and2 h;obtain⟨h3,h4⟩:=and2 h1;exact⟨h3,h4,h2⟩
end Mine
end
section
namespace Mine
open PySem PyProof.Rows
section
variable{G:Gl}{N β:List Addr}{h:Heap}{v:Value}
theorem VR.none_inv(r:VR G N β h v (.d .none)):v=.none:=by obtain⟨_,r,_⟩:=r;cases r;rfl
theorem VR.bool_inv{b:Bool}(r:VR G N β h v (.d (.bool b))):v=.bool b:=by obtain⟨_,r,_⟩:=r;cases r;rfl
theorem VR.int_inv{i:Int}(r:VR G N β h v (.d (.int i))):∃ t,v=.int i t:=by obtain⟨_,r,_⟩:=r;cases r;exact⟨_,rfl⟩
theorem VR.str_inv{x:Str}(r:VR G N β h v (.d (.str x))):∃ t,v=.str x t:=by obtain⟨_,r,_⟩:=r;cases r;exact⟨_,rfl⟩
inductive TupV(h:Heap)(N β:List Addr)(v:Value)(xs:List PyData):Prop
 | mk (a:Addr) (o:Obj) (vs:Array Value) (n:Nat) (hv:v=.ref a) (h1:h.get? a=some o) (h2:o.cls=.type "tuple") (h3:o.data=.seq vs n) (as:List Addr) (h4:ReadsAll h vs.toList xs as) (h5:∀ a∈as,a∉β∧a∉N)
theorem VR.tuple_inv{xs:List PyData}(r:VR G N β h v (.d (.tuple xs))):TupV h N β v xs:=by
 obtain⟨_,r,q⟩:=r
 cases r with
 | tuple h1 h2 h3 h4=>exact⟨_,_,_,_,rfl,h1,h2,h3,_,h4,q⟩
theorem VR.list_inv{xs:List PyData}(r:VR G N β h v (.d (.list xs))):∃ a,v=.ref a∧ListAt h N β a xs∧a∉β∧a∉N:=by
 obtain⟨_,r,q⟩:=r
 cases r with
 | list h1 h2 h3 h4=>exact⟨_,rfl,⟨_,_,_,h1,h2,h3,_,h4,fun a ha=>q a (.tail _ ha)⟩,q _ (.head _)⟩
end
inductive VRs(G:Gl)(N β:List Addr)(h:Heap):List Value→List V→Prop
 | nil:VRs G N β h [] []
 | cons {v:Value} {d:V} {vs:List Value} {ds:List V}:VR G N β h v d→VRs G N β h vs ds→VRs G N β h (v::vs) (d::ds)
section
variable{G:Gl}{N β:List Addr}{h:Heap}
theorem VRs.length{vs:List Value}{ds:List V}(r:VRs G N β h vs ds):vs.length=ds.length:=by
 induction r with
 | nil=>rfl
 | cons _ _ ih=>simp[ih]
set_option tactic.hygienic true in
theorem VRs.data{vs:List Value}{ds:List V}(r:VRs G N β h vs ds):∀ {xs:List PyData},allD ds=some xs→∃ as,ReadsAll h vs xs as∧∀ a∈as,a∉β∧a∉N:=by
 induction r with
 | nil=>intro xs e;cases e;exact⟨[],.nil,fun _ h=>nomatch h⟩
 | cons r _ ih=>
   rename_i v d vs ds _
   intro xs e
   cases d with
   | d x=>
     simp only[allD,Option.map_eq_some_iff] at e
     obtain⟨ys,e1,rfl⟩:=e
     obtain⟨as,r1,q1⟩:=r
     obtain⟨bs,r2,q2⟩:=ih e1
     exact⟨as++bs,.cons r1 r2,fun a ha=>(List.mem_append.mp ha).elim (q1 a) (q2 a)⟩
   | box n=>cases e
   | tm n=>cases e
set_option tactic.hygienic true in
theorem VRs.its{vs:List Value}{ds:List V}(r:VRs G N β h vs ds):∀ {is:List It},allI ds=some is→ItsR N β h vs is:=by
 induction r with
 | nil=>intro xs e;cases e;exact .nil
 | cons r _ ih=>
   rename_i v d vs ds _
   intro xs e
   cases d with
   | d x=>
     simp only[allI,Option.map_eq_some_iff] at e
     obtain⟨ys,e1,rfl⟩:=e
     obtain⟨as,r1,q1⟩:=r
     exact .x r1 q1 (ih e1)
   | box n=>
     simp only[allI,Option.map_eq_some_iff] at e
     obtain⟨ys,e1,rfl⟩:=e
     obtain⟨a,h1,rfl⟩:=r
     exact .b h1 (ih e1)
   | tm n=>cases e
end
section
variable{G:Gl}{F:Fm}{β β':List Addr}{O:za}{s s':Shared}
theorem VRs.step(b:BR G F.B β O s.heap)(f:FmOk G F β s.heap)(st:Step F.W β s s' β'){vs:List Value}{ds:List V}(r:VRs G F.B β s.heap vs ds):VRs G F.B β' s'.heap vs ds:=by
 induction r with
 | nil=>exact .nil
 | cons r _ ih=>exact .cons (r.step b f st) ih
end
theorem jf{e:Expr}(h:∀ l k p,e≠.Set l k p)(op:CmpOp):behindInMarks op e=false:=by
 cases e <;> first | rfl | exact absurd rfl (h _ _ _)
theorem qn{e:Expr}(h:∀ l k p,e≠.Set l k p)(env:Env)(x:Value):foldedSetIterable e env x=pure x:=by
 cases e <;> first | rfl | exact absurd rfl (h _ _ _)
section
variable{G:Gl}{F:Fm}{A:Around}{s:Shared}{β:List Addr}{ρ:Loc}{O:za}
noncomputable abbrev VRsl(G:Gl)(F:Fm):List Addr→Heap→List Value→List V→Prop:=fun β h v d=>VRs G F.B β h v d
theorem xp{pos:Pos}(sr:SR G F β ρ O s.heap):Does G F A s β (spliced (backTo pos (starEach [] F.env))) ((R.ok ([]:List V) O).lift ρ) (VRsl G F):=
 Does.leaf sr fun Q E k=>wpAny_items_nil (k _ _ (KeepsAll.refl s) .nil)
theorem yl{pos:Pos}{e:Expr}{rest:List Expr}{r:R za V}{g:za→R za (List V)}
 (he:starEach (e::rest) F.env=(false,eval e F.env)::starEach rest F.env)
 (h1:Does G F A s β (eval e F.env) (r.lift ρ) (VRel G F))
 (h2:∀ s' β' O',SR G F β' ρ O' s'.heap→Does G F A s' β' (spliced (backTo pos (starEach rest F.env))) ((g O').lift ρ) (VRsl G F)) :
 Does G F A s β (spliced (backTo pos (starEach (e::rest) F.env))) ((r.bind fun v O=>(g O).bind fun vs O=>.ok (v::vs) O).lift ρ) (VRsl G F):=by
 refine DoesW.seqE (T₂:=fun v Q E s'=>wpAny (model G.prog G.w) A (spliced (backTo pos (starEach rest F.env))) (fun vs s₂=>Q (v::vs) s₂) E s') (fun Q E h=>wpAny_items_cons h he) h1 fun s' β' v d O' _ st sr' rv=>?_
 refine DoesW.seqE (T₁:=tr G A (spliced (backTo pos (starEach rest F.env)))) (T₂:=fun vs Q E s'=>Q (v::vs) s') (fun Q E h=>h) (h2 s' β' O' sr') fun s₂ β₂ vs ds O₂ _ st₂ sr₂ rvs=>?_
 exact Does.leaf sr₂ fun Q E k=>k _ _ (KeepsAll.refl s₂) (.cons (rv.step sr'.br sr'.fm st₂) rvs)
theorem SR.push{h:Heap}(sr:SR G F β ρ O h)(o:Obj):SR G F β ρ O (h.push o):=sr.keepAll fun _ _ e=>Heap.get?_push_of_some o e
theorem w9{h:Heap}{l:List Addr}(al:∀ a∈l,∃ o,h.get? a=some o):h.objs.size∉l:=fun hm=>by
 obtain⟨o,e⟩:=al _ hm
 exact Nat.lt_irrefl _ (Heap.lt_size e)
theorem SR.size_new{h:Heap}(sr:SR G F β ρ O h):h.objs.size∉β∧h.objs.size∉F.B:=
 ⟨w9 fun a ha=>let ⟨o,e,_⟩:=sr.br.alive a ha;⟨o,e⟩,w9 fun a ha=>let ⟨o,e,_⟩:=sr.fm.stor a ha;⟨o,e⟩⟩
theorem zcv{vs:List Value}{ds:List V}{d:V}(r:VRs G F.B β s.heap vs ds)(e:tupV ds=some d) :
 VR G F.B β (s.heap.push { cls:=.type "tuple",data:=.seq vs.toArray }) (.ref s.heap.objs.size) d:=by
 have hk:∀ b o,s.heap.get? b=some o→(s.heap.push { cls:=.type "tuple",data:=.seq vs.toArray }).get? b=some o:=fun _ _ e=>Heap.get?_push_of_some _ e
 unfold tupV at e
 cases hd:allD ds with
 | some xs=>
   rw[hd] at e;cases e
   obtain⟨as,r1,q⟩:=r.data hd
   exact⟨as,.tuple (Heap.get?_push_size _ rfl) rfl rfl (zt hk r1),q⟩
 | none=>
   rw[hd] at e
   simp only[Option.map_eq_some_iff] at e
   obtain⟨is,e1,rfl⟩:=e
   exact⟨_,_,_,_,rfl,Heap.get?_push_size _ rfl,rfl,rfl,pf hk (r.its e1)⟩
theorem zdt{vs:List Value}{ds:List V}{xs:List PyData}{ρ:Loc}{O:za}(sr:SR G F β ρ O s.heap)(r:VRs G F.B β s.heap vs ds)(e:allD ds=some xs) :
 VR G F.B β (s.heap.push { cls:=.type "list",data:=.seq vs.toArray }) (.ref s.heap.objs.size) (.d (.list xs)):=by
 obtain⟨as,r1,q⟩:=r.data e
 refine⟨_::as,.list (Heap.get?_push_size _ rfl) rfl rfl (zt (fun _ _ e=>Heap.get?_push_of_some _ e) r1),fun a ha=>?_⟩
 rcases List.mem_cons.mp ha with rfl | ha
 ·exact sr.size_new
 ·exact q a ha
theorem zs7{elts:List Expr}{k:Nat}{pos:Pos}{r:R za (List V)}(hl:∀ vs O,r=.ok vs O→vs.length≤line)
 (h1:Does G F A s β (spliced (backTo pos (starEach elts F.env))) (r.lift ρ) (VRsl G F)) :
 Does G F A s β (eval (.Tuple elts k pos) F.env) ((r.bind fun vs O=>opt (tupV vs) O).lift ρ) (VRel G F):=by
 refine DoesW.seqE (T₂:=fun vs Q E s₁=>vs.length≤sizeLine∧Q (.ref s₁.heap.objs.size) { s₁ with heap:=s₁.heap.push { cls:=.type "tuple",data:=.seq vs.toArray } }) (fun Q E h=>wpAny_Tuple h) h1 fun s' β' vs ds O' e st sr rv=>?_
 cases hd:tupV ds with
 | none=>trivial
 | some d=>
   have hz:vs.length≤sizeLine:=by rw[rv.length];exact Nat.le_trans (hl _ _ e) (by decide)
   exact Does.leaf sr fun Q E q=>⟨hz,q _ _ (KeepsAll.push s' _ _) (zcv rv hd)⟩
end
section
variable{G:Gl}{F:Fm}{A:Around}{s:Shared}{β:List Addr}{ρ:Loc}{O:za}
theorem gv{N:List Addr}{h:Heap}(b:BR G N β O h){n:Nat}{a:Addr}{x:PyData}(ha:β[n]?=some a)(e:qb O n=some x):∃ xs,x=.list xs∧ListAt h N β a xs:=by
 unfold qb at e
 cases ho:O[n]? with
 | none=>rw[ho] at e;cases e
 | some bx=>
   rw[ho] at e
   cases bx with
   | lst xs=>cases e;exact⟨xs,rfl,b.at_ n a _ ha ho⟩
theorem ListAt.reads{N:List Addr}{h:Heap}{a:Addr}{xs:List PyData}(l:ListAt h N β a xs):∃ as,Reads h (.ref a) (.list xs) (a::as)∧∀ b∈as,b∉β∧b∉N:=by
 obtain⟨o,vs,n,h1,h2,h3,as,h4,h5⟩:=l
 exact⟨as,.list h1 h2 h3 h4,h5⟩
theorem wo(sr:SR G F β ρ O s.heap){v:Value}{d:V}(r:VR G F.B β s.heap v d){x:PyData}(e:look O d=some x):∃ as,Reads s.heap v x as:=by
 cases d with
 | d y=>cases e;obtain⟨as,r,_⟩:=r;exact⟨as,r⟩
 | box n=>
   obtain⟨a,ha,rfl⟩:=r
   obtain⟨xs,rfl,l⟩:=gv sr.br ha e
   obtain⟨as,r,_⟩:=l.reads
   exact⟨_,r⟩
 | tm n=>cases e
theorem z8(sr:SR G F β ρ O s.heap){v:Value}{d:V}(r:VR G F.B β s.heap v d){xs:List PyData}(e:look O d=some (.list xs)):∃ a,v=.ref a∧ListAt s.heap F.B β a xs:=by
 cases d with
 | d y=>cases e;obtain⟨a,h1,h2,_⟩:=r.list_inv;exact⟨a,h1,h2⟩
 | box n=>
   obtain⟨a,ha,rfl⟩:=r
   obtain⟨ys,e',l⟩:=gv sr.br ha e
   cases e'
   exact⟨a,rfl,l⟩
 | tm n=>cases e
theorem z9{d:V}{x:PyData}(e:look O d=some x)(hx:∀ xs,x≠.list xs):d=.d x:=by
 cases d with
 | d y=>cases e;rfl
 | box n=>
   exfalso
   simp only[look,qb] at e
   cases ho:O[n]? with
   | none=>rw[ho] at e;cases e
   | some bx=>
     rw[ho] at e
     cases bx with
     | lst xs=>cases e;exact hx _ rfl
 | tm n=>cases e
set_option tactic.hygienic true in
theorem ziz{v:Value}{x:PyData}{b:Bool}{as:List Addr}(r:Reads s.heap v x as):isSame v (.bool b)=pure (isBool b x):=by
 cases r <;> first | rfl | (rename_i c;cases b <;> cases c <;> rfl)
theorem zgg{v:Value}{x:PyData}{as:List Addr}(r:Reads s.heap v x as):isSame v .none=pure (isNone x):=by cases r <;> rfl
theorem znh(sr:SR G F β ρ O s.heap){v u:Value}{x y:PyData}{b:Bool}(rv:VR G F.B β s.heap v (.d x))(ru:VR G F.B β s.heap u (.d y))(e:isop x y=some b):isSame v u=pure b:=by
 obtain⟨as,r,_⟩:=rv
 cases y <;> first | (cases e;done) | skip
 ·have:=ru.none_inv;subst this
  rw[← Option.some.inj e];exact zgg r
 ·have:=ru.bool_inv;subst this
  rw[← Option.some.inj e];exact ziz r
theorem zm2{f:Int→Int→Bool}{x y:PyData}{b:Bool}(e:ordD f x y=some b):∃ i j,x=.int i∧y=.int j∧f i j=b:=by
 cases x <;> first | (cases e;done) | skip
 cases y <;> first | (cases e;done) | skip
 exact⟨_,_,rfl,rfl,Option.some.inj e⟩
theorem zlh{x y:PyData}{c b:Bool}(e:(if eqOk x y then some c else none)=some b):(x.canLay0=true∧y.canLay0=true)∧min x.depth y.depth≤100∧c=b:=by
 by_cases h:eqOk x y=true
 ·rw[if_pos h] at e
  have h':=h
  simp only[eqOk,Bool.and_eq_true,decide_eq_true_eq] at h'
  exact⟨h'.1,h'.2,Option.some.inj e⟩
 ·rw[if_neg h] at e;cases e
theorem zni{x:PyData}{xs:List PyData}{b:Bool}(e:inD x xs=some b):(x.canLay0=true∧PyData.canLayAll0 xs=true)∧x.depth≤100∧(xs.any fun y=>PyData.eqv y x)=b:=by
 unfold inD at e
 by_cases h:(x.canLay0 && PyData.canLayAll0 xs && decide (x.depth≤100))=true
 ·rw[if_pos h] at e
  have h':=h
  simp only[Bool.and_eq_true,decide_eq_true_eq] at h'
  exact⟨h'.1,h'.2,Option.some.inj e⟩
 ·rw[if_neg h] at e;cases e
theorem zj7{y:PyData}{xs:List PyData}(e:seqD y=some xs):y=.list xs∨y=.tuple xs:=by
 cases y <;> first | (cases e;done) | skip
 ·cases e;exact .inl rfl
 ·cases e;exact .inr rfl
theorem zk4{x y:PyData}{b:Bool}(e:(seqD y).bind (inD x)=some b):∃ xs,(y=.list xs∨y=.tuple xs)∧(x.canLay0=true∧PyData.canLayAll0 xs=true)∧x.depth≤100∧(xs.any fun y=>PyData.eqv y x)=b:=by
 cases h:seqD y with
 | none=>rw[h] at e;cases e
 | some xs=>rw[h] at e;exact⟨xs,zj7 h,zni e⟩
noncomputable def Cop.op:Cop→CmpOp
 | .eq=>.Eq
 | .ne=>.NotEq
 | .lt=>.Lt
 | .le=>.LtE
 | .gt=>.Gt
 | .ge=>.GtE
 | .is=>.Is
 | .isnot=>.IsNot
 | .in_=>.In
 | .notin=>.NotIn
theorem zrg{op:Cop}{o:CmpOp}(h:jc op o=true):o=op.op:=by cases op <;> cases o <;> first | rfl | exact (Bool.false_ne_true h).elim
theorem vd{f:Int→Int→Bool}{v u:Value}{x y:PyData}{as bs:List Addr}{b:Bool}(rv:Reads s.heap v x as)(ru:Reads s.heap u y bs)(e:ordD f x y=some b):∃ i j t t',v=.int i t∧u=.int j t'∧f i j=b:=by
 obtain⟨i,j,rfl,rfl,rfl⟩:=zm2 e
 cases rv;cases ru
 exact⟨_,_,_,_,rfl,rfl,rfl⟩
theorem zl4{op:Cop}{o:CmpOp}{v u:Value}{x y:PyData}{as bs:List Addr}{b:Bool}{Q:Value→Shared→Prop}{E:Value→Shared→Prop}{k:Nat}(ro:Room A k)(ho:jc op o=true)
 (rv:Reads s.heap v x as) (ru:Reads s.heap u y bs) (e:jy op x y=some b) (q:Q (.bool b) s):wpAny (model G.prog G.w) A (compareOp o v u) Q E s:=by
 have hu:=ro.c (n:=200)
 rw[zrg ho]
 clear ho ro
 have hle:∀ {a:Nat},a≤100→A.units+a < cLine:=fun h=>Nat.lt_of_le_of_lt (Nat.add_le_add_left (Nat.le_trans h (by decide)) _) hu
 cases op with
 | eq=>
   obtain⟨⟨h1,h2⟩,h3,rfl⟩:=zlh e
   exact SeqAt.compareEq_reads rv ru h1 h2 (hle h3) q
 | ne=>
   obtain⟨⟨h1,h2⟩,h3,rfl⟩:=zlh e
   exact SeqAt.compareNe_reads rv ru h1 h2 (hle h3) q
 | lt=>
   obtain⟨i,j,t,t',rfl,rfl,rfl⟩:=vd rv ru e
   exact wpAny_lt_int q
 | le=>
   obtain⟨i,j,t,t',rfl,rfl,rfl⟩:=vd rv ru e
   exact le_int q
 | gt=>
   obtain⟨i,j,t,t',rfl,rfl,rfl⟩:=vd rv ru e
   exact PySem.P.gt_int q
 | ge=>
   obtain⟨i,j,t,t',rfl,rfl,rfl⟩:=vd rv ru e
   exact PySem.P.ge_int q
 | is=>cases e
 | isnot=>cases e
 | in_=>
   obtain⟨xs,hy,⟨h1,h2⟩,h3,rfl⟩:=zk4 e
   rcases hy with rfl | rfl
   ·exact SeqAt.in_list_reads ru rv h2 h1 (by omega) q
   ·exact SeqAt.in_tuple_reads ru rv h2 h1 (by omega) q
 | notin=>
   obtain⟨c,e1,rfl⟩:=Option.map_eq_some_iff.mp e
   obtain⟨xs,hy,⟨h1,h2⟩,h3,rfl⟩:=zk4 e1
   rcases hy with rfl | rfl
   ·exact SeqAt.notIn_list_reads ru rv h2 h1 (by omega) q
   ·exact SeqAt.notIn_tuple_reads ru rv h2 h1 (by omega) q
end
structure KeepsL(L:Addr)(s s':Shared):Prop where
 gens:s'.gens=s.gens
 os:s'.os=s.os
 kept:∀ b o,b≠L→s.heap.get? b=some o→s'.heap.get? b=some o
 ns:∀ m,s.heap.Ns L m→s'.heap.Ns L m
section
variable{G:Gl}{F:Fm}{β:List Addr}{ρ:Loc}{O:za}{s s':Shared}
theorem KeepsL.step(x:KeepsL F.env.locals s s')(f:FmOk G F β s.heap):Step F.W β s s' β where
 gens:=x.gens
 os:=x.os
 pre:=List.prefix_refl _
 fresh:=fun _ h=>.inl h
 alive:=fun b o e=>by
  by_cases hb:b=F.env.locals
  ·subst hb
   obtain⟨m,hm⟩:=f.ns
   obtain⟨o',_,_,h,_⟩:=x.ns m hm
   exact⟨o',h⟩
  ·exact⟨o,x.kept b o hb e⟩
 kept:=fun b o e _ hW=>⟨o,x.kept b o (fun h=>hW (h ▸ f.nsW)) e,Kin.refl o⟩
theorem SR.keepL(x:KeepsL F.env.locals s s')(r:SR G F β ρ O s.heap):SR G F β ρ O s'.heap:=by
 have st:=x.step r.fm
 have nL:F.env.locals∈F.B:=r.fm.sub _ r.fm.nsW
 have ne:∀ {a:Addr},a∈β→a≠F.env.locals:=fun ha e=>r.fm.notBox _ nL (e ▸ ha)
 refine⟨⟨fun c o e=>x.kept c o (fun h=>?_) (r.br.keep c o e),r.br.len,r.br.nodup,r.br.new,fun i a bx h1 h2=>?_,fun a ha=>(r.br.plain a ha).at fun o e=>x.kept a o (ne ha) e⟩,⟨r.fm.kind,r.fm.globals,r.fm.builtins,r.fm.once,?_,r.fm.nsW,?_,r.fm.apart,r.fm.sub,r.fm.new,r.fm.notBox,?_,r.fm.frB,fun a ha=>?_,fun m e=>⟨x.ns m (r.fm.pin m e).1,(r.fm.pin m e).2⟩⟩,fun i y v h1 h2=>?_⟩
 ·have:=r.fm.newW r.fm.nsW
  rw[← h,e] at this;cases this
 ·have hb:=r.br.at_ i a bx h1 h2
  have hne:=ne (List.mem_of_getElem? h1)
  cases bx with
  | lst xs=>
    obtain⟨o,vs,n,e1,e2,e3,as,e4,e5⟩:=hb
    exact⟨o,vs,n,x.kept _ _ hne e1,e2,e3,as,(zy r.br r.fm st e4 e5).1,e5⟩
 ·obtain⟨m,hm⟩:=r.fm.ns;exact⟨m,x.ns m hm⟩
 ·intro y h1
  obtain⟨c,v,h3,⟨o,h4,h4'⟩,h5⟩:=r.fm.cell y h1
  refine⟨c,v,h3,⟨o,x.kept _ _ (fun h=>?_) h4,h4'⟩,h5⟩
  obtain⟨m,o',es,ep,q1,q2,_⟩:=r.fm.ns
  rw[h] at h4;rw[h4] at q1;cases q1;rw[h4'] at q2;cases q2
 ·intro a ha
  obtain⟨o,h1,h2⟩:=r.fm.stor a ha
  by_cases hb:a=F.env.locals
  ·subst hb
   obtain⟨m,hm⟩:=r.fm.ns
   obtain⟨o',es,ep,h,hd,_⟩:=x.ns m hm
   exact⟨o',h,fun vs n hv=>by rw[hd] at hv;cases hv⟩
  ·exact⟨o,x.kept _ _ hb h1,h2⟩
 ·obtain⟨m,hm⟩:=r.fm.frs a ha
  by_cases hb:a=F.env.locals
  ·subst hb;exact⟨m,x.ns m hm⟩
  ·obtain⟨o,es,ep,h1,h2⟩:=hm
   exact⟨m,o,es,ep,x.kept _ _ hb h1,h2⟩
 ·obtain⟨val,g,rv⟩:=r.get i y v h1 h2
  refine⟨val,?_,rv.step r.br r.fm st⟩
  rcases g with ⟨g1,m,g2,g3⟩ | ⟨g1,c,g2,o,g3,g4⟩
  ·exact .inl ⟨g1,m,x.ns m g2,g3⟩
  ·refine .inr ⟨g1,c,g2,o,x.kept _ _ (fun h=>?_) g3,g4⟩
   obtain⟨m,o',es,ep,q1,q2,_⟩:=r.fm.ns
   rw[h] at g3;rw[g3] at q1;cases q1;rw[g4] at q2;cases q2
theorem Does.leafL{α δ:Type}{T:WT α}{d:δ}{Rel:List Addr→Heap→α→δ→Prop}(sr:SR G F β ρ O s.heap)
 (hw:∀ (Q:α→Shared→Prop) (E:Value→Shared→Prop),(∀ v s',KeepsL F.env.locals s s'→Rel β s'.heap v d→Q v s')→T Q E s) :
 DoesW G F s β T (.ok d (ρ,O)) Rel:=
 fun Q E k=>hw Q E fun v s' ka r=>k s' β v (ka.step sr.fm) (sr.keepL ka) r
end
noncomputable def vv(h:Heap)(L:Addr):Heap:={ objs:=h.objs.extract 0 L,life:=h.life }
theorem dp{h:Heap}{L a:Addr}:(vv h L).get? a=if a < L then h.get? a else none:=by
 have e:(h.objs.extract 0 L)[a]?=if a < L then h.objs[a]? else none:=by
  rw[Array.getElem?_extract]
  generalize h.objs=x
  have key:∀ (n L a:Nat),(a < min L n - 0)↔(a < L∧a < n):=fun n L a=>by rw[Nat.sub_zero];exact Nat.lt_min
  by_cases h1:a < L
  ·by_cases h2:a < x.size
   ·rw[if_pos ((key _ _ _).mpr ⟨h1,h2⟩),if_pos h1,Nat.zero_add]
   ·rw[if_neg (fun q=>h2 ((key _ _ _).mp q).2),if_pos h1,Array.getElem?_eq_none (Nat.not_lt.mp h2)]
  ·rw[if_neg (fun q=>h1 ((key _ _ _).mp q).1),if_neg h1]
 unfold Heap.get? vv
 dsimp only
 rw[e]
 by_cases h1:a < L
 ·rw[if_pos h1,if_pos h1]
 ·rw[if_neg h1,if_neg h1]
noncomputable def newsOf(h:Heap)(L:Addr):List (Addr×Obj):=(List.range h.objs.size).filterMap fun a=>if L < a then (h.get? a).map fun o=>(a,o) else none
set_option tactic.hygienic true in
theorem mem_newsOf{h:Heap}{L:Addr}{p:Addr×Obj}:p∈newsOf h L↔L < p.1∧h.get? p.1=some p.2:=by
 unfold newsOf
 rw[List.mem_filterMap]
 constructor
 ·rintro⟨a,_,e⟩
  split at e
  ·rename_i hl
   rw[Option.map_eq_some_iff] at e
   obtain⟨o,e1,rfl⟩:=e
   exact⟨hl,e1⟩
  ·cases e
 ·rintro⟨h1,h2⟩
  exact⟨p.1,List.mem_range.mpr (Heap.lt_size h2),by rw[if_pos h1,h2];rfl⟩
theorem zgw{h:Heap}{L:Addr}{m:Str→Option Value}(hn:h.Ns L m):Fr (vv h L) L h m∧News (vv h L) L h (newsOf h L):=by
 refine⟨⟨hn,fun b o e=>?_,?_⟩,fun p hp=>?_⟩
 ·rw[dp] at e;split at e
  ·exact e
  ·cases e
 ·show (h.objs.extract 0 L).size≤L
  rw[Array.size_extract];omega
 ·obtain⟨h1,h2⟩:=mem_newsOf.mp hp
  exact⟨h2,Nat.ne_of_gt h1,by rw[dp,if_neg (Nat.not_lt.mpr (Nat.le_of_lt h1))]⟩
theorem un{h:Heap}{L:Addr}{m m':Str→Option Value}(x:h.Ns L m)(y:h.Ns L m'):m=m':=by
 obtain⟨o,es,ep,h1,h2,_,h3⟩:=x
 obtain⟨o',es',ep',h1',h2',_,h3'⟩:=y
 rw[h1] at h1';cases h1'
 rw[h2] at h2';cases h2'
 funext z
 rw[← h3,← h3']
theorem q8{s:Shared}{L:Addr}{m:Str→Option Value}{h':Heap}{news':List (Addr×Obj)}{tk:Nat}{dr:Drawn}(hn:s.heap.Ns L m)(f:Fr (vv s.heap L) L h' m)(n:News (vv s.heap L) L h' news')(hs:∀ p∈newsOf s.heap L,p∈news') :
 KeepsL L s { s with heap:=h',toks:=tk,drawn:=dr } where
 gens:=rfl
 os:=rfl
 kept:=fun b o hb e=>by
  rcases Nat.lt_or_ge b L with h | h
  ·exact f.keep b o (by rw[dp,if_pos h];exact e)
  ·exact (n (b,o) (hs _ (mem_newsOf.mpr ⟨Nat.lt_of_le_of_ne h (Ne.symm hb),e⟩))).1
 ns:=fun m' hm=>by rw[un hm hn];exact f.ns
theorem zac(items:Array Value)(k:Nat):(List.replicate k items).foldl (fun x1 x2=>x1++x2) #[]=(List.replicate k items.toList).flatten.toArray:=by
 have:∀ (acc:Array Value),(List.replicate k items).foldl (fun x1 x2=>x1++x2) acc=(acc.toList++(List.replicate k items.toList).flatten).toArray:=by
  induction k with
  | zero=>intro acc;simp
  | succ k ih=>intro acc;rw[List.replicate_succ,List.foldl_cons,ih];simp[List.replicate_succ]
 rw[this];simp
theorem g8(l:Addr)(items:Array Value)(n:Nat)(d:Option Addr)(sl:Array (Option Value))(x:Int)(u:Tok)(h0:items.isEmpty=false)(h2:2≤x)(hx:x≤256)(hz:items.size * x.toNat≤256) :
 Meets (Builtin.«tuple.__mul__» ⟨[.ref l,.int x u],[]⟩) (fun _ R s=>s.heap.get? l=some { cls:=.type "tuple",dict:=d,data:=.seq items n,slots:=sl }∧R (.ok (.ret (Value.ref s.heap.objs.size))) { s with heap:=s.heap.push { cls:=Value.type "tuple",data:=Data.seq (List.foldl (fun x1 x2=>x1++x2) #[] (List.replicate x.toNat items)) },toks:=s.toks }):=
 .of_wp fun prog w A R s h=>by
  obtain⟨hp,g,d,tk,os⟩:=s;obtain⟨hl,h⟩:=h
  have c1:¬ (decide (x < -(2 ^ 63)) || decide (x ≥ 2 ^ 63))=true:=by simp;omega
  have c2:¬ (items.isEmpty || x == 1)=true:=by simp[h0];omega
  have c3:¬ (decide (x≤0) || items.isEmpty)=true:=by simp[h0];omega
  have hz':(items.size:Int) * x≤256:=by
   have:(items.size:Int) * x=((items.size * x.toNat:Nat):Int):=by rw[Int.natCast_mul];congr 1;omega
   rw[this];omega
  generalize hy:(items.size:Int) * x=y at hz'
  have c4:¬ (y > (2 ^ 63 - 1) / 8):=by omega
  have c5:¬ Builtin.Tuple.tupleTooMany y=true:=by
   simp only[Builtin.Tuple.tupleTooMany,decide_eq_true_eq]
   show ¬ y > ((2 ^ 24:Nat):Int)
   omega
  subst hy
  have c6:¬ ((List.replicate x.toNat items).foldl (fun x1 x2=>x1++x2) #[]).size > sizeLine:=by
   rw[zac];simp[sizeLine];rw[Nat.mul_comm];omega
  wp_walk
  rw[if_neg c1]
  wp_walk
  rw[if_neg c2]
  wp_walk
  rw[if_neg c3]
  wp_walk
  rw[if_neg c4]
  wp_walk
  exact⟨_,rfl,h⟩
theorem uo:fillsNumberSlot (.type "tuple") "mul" = pure false:=
 PySem.fillsNumberSlot_seq (id:="tuple.__mul__") (r:=some (.builtin "tuple.__rmul__")) F.slot_tuple_mul.lookup (by decide +kernel) F.slot_tuple_rmul.lookup (by decide +kernel)
theorem zc2:seqRepeat? (.type "tuple")=pure (some (.builtin "tuple.__mul__")):=by
 unfold seqRepeat?
 rw [PySem.seqSlot_of (T:="tuple") (name:="__mul__") (id:="tuple.__mul__") F.slot_tuple_mul.lookup (by decide +kernel),PySem.seqSlot_of (T:="tuple") (name:="__rmul__") (id:="tuple.__rmul__") F.slot_tuple_rmul.lookup (by decide +kernel)]
 rfl
theorem uj(a:Int)(t:Tok)(l:Addr)(items:Array Value)(n:Nat)(d:Option Addr)(sl:Array (Option Value)) :
 Meets (Builtin.«int.__rmul__» ⟨[.int a t,.ref l],[]⟩) (fun _ R s=>s.heap.get? l=some { cls:=.type "tuple",dict:=d,data:=.seq items n,slots:=sl }∧R (.ok (.ret Value.notImplemented)) s):=
 .of_wp fun prog w A R s h=>by obtain⟨hp,g,d,tk,os⟩:=s;obtain⟨hl,h⟩:=h;wp_walk;exact⟨_,rfl,h⟩
theorem zio{prog:Program}{w:World}{A:Around}{E:Value→Shared→Prop}{s:Shared}{l:Addr}{o:Obj}{items:Array Value}{k:Nat}{x:Int}{u:Tok}{Q:Value→Shared→Prop}(ho:s.heap.get? l=some o)(hc:o.cls=.type "tuple")(hd:o.data=.seq items k)
 (h0:items.isEmpty=false) (h2:2≤x) (hx:x≤256) (hz:items.size * x.toNat≤256)
 (h:Q (.ref s.heap.objs.size) { s with heap:=s.heap.push { cls:=Value.type "tuple",data:=Data.seq (List.replicate x.toNat items.toList).flatten.toArray } }):wpAny (model prog w) A (binaryOp .Mult (.ref l) (.int x u)) Q E s:=by
 obtain⟨cls,d,data,sl⟩:=o
 simp only at hc hd
 subst hc hd
 refine wpAny_binaryOp_repeat_ref (T:="tuple") (U:="int") (by decide) ⟨_,ho,rfl⟩ (fun s'=>typeIs_int s' x u) uo F.fills_int_mul F.slot_int_rmul zc2 F.slot_int_index.lookup
  (call_meets F.slot_int_rmul (typeIs_int s x u) F.entry_int_rmul (F.args_int_rmul_2 _ _) (uj x u l items k d sl)
    ⟨ho,rfl,⟨_,ho,rfl⟩,call_meets F.slot_tuple_mul ⟨_,ho,rfl⟩ F.entry_tuple_mul (F.args_tuple_mul_2 _ _) (g8 l items k d sl x u h0 h2 hx hz) ⟨ho,?_⟩⟩)
 rw[zac];exact h
theorem z6{h:Heap}{motive:List Value→List PyData→List Addr→Prop}(nil:motive [] [] [])(cons:∀ {v:Value} {d:PyData} {as:List Addr} {vs:List Value} {ds:List PyData} {bs:List Addr},Reads h v d as→ReadsAll h vs ds bs→motive vs ds bs→motive (v::vs) (d::ds) (as++bs))
 {vs:List Value} {xs:List PyData} {as:List Addr} (r:ReadsAll h vs xs as):motive vs xs as:=
 ReadsAll.rec (motive_1:=fun _ _ _ _=>True) (motive_2:=fun vs xs as _=>motive vs xs as)
  trivial (fun _=>trivial) (fun _ _=>trivial) (fun _ _=>trivial) (fun _ _ _ _ _=>trivial) (fun _ _ _ _ _=>trivial) (fun _ _ _ _ _ _ _=>trivial) nil (fun r rs _ ih=>cons r rs ih) r
theorem yj{h:Heap}{vs ws:List Value}{xs ys:List PyData}{as bs:List Addr}(r:ReadsAll h vs xs as)(r':ReadsAll h ws ys bs):ReadsAll h (vs++ws) (xs++ys) (as++bs):=
 z6 (motive:=fun vs xs as=>ReadsAll h (vs++ws) (xs++ys) (as++bs)) r' (fun r _ ih=>by rw[List.append_assoc];exact .cons r ih) r
theorem w5{h:Heap}{vs:List Value}{xs:List PyData}{as:List Addr}{P:Addr→Prop}(r:ReadsAll h vs xs as)(q:∀ a∈as,P a)(k:Nat):∃ bs,ReadsAll h (List.replicate k vs).flatten (List.replicate k xs).flatten bs∧∀ a∈bs,P a:=by
 induction k with
 | zero=>exact⟨[],.nil,fun _ h=>nomatch h⟩
 | succ k ih=>
   obtain⟨bs,r',q'⟩:=ih
   refine⟨as++bs,?_,fun a ha=>(List.mem_append.mp ha).elim (q a) (q' a)⟩
   simpa [List.replicate_succ] using yj r r'
theorem zd{h:Heap}{vs:List Value}{xs:List PyData}{as:List Addr}(r:ReadsAll h vs xs as):vs.length=xs.length:=
 z6 (motive:=fun vs xs _=>vs.length=xs.length) rfl (fun _ _ ih=>congrArg (· + 1) ih) r
section
variable{G:Gl}{F:Fm}{A:Around}{s:Shared}{β:List Addr}{ρ:Loc}{O:za}
theorem KeepsAll.toL{L:Addr}{s s':Shared}(x:KeepsAll s s'):KeepsL L s s':=⟨x.gens,x.os,fun b o _ e=>x.kept b o e,fun m h=>h.keeps x.kept⟩
theorem xl{h:Heap}{N:List Addr}{D:Addr}{o:Obj}{vs:Array Value}{n:Nat}{xs:List PyData}{as:List Addr}(e1:h.get? D=some o)(e2:o.cls=.type "list")(e3:o.data=.seq vs n)(r:ReadsAll h vs.toList xs as)(q:∀ a∈as,a∉β∧a∉N)(hD:D∉β∧D∉N):VR G N β h (.ref D) (.d (.list xs)):=
 ⟨D::as,.list e1 e2 e3 r,fun a ha=>(List.mem_cons.mp ha).elim (fun e=>e ▸ hD) (q a)⟩
theorem qh{h:Heap}{N:List Addr}{D:Addr}{o:Obj}{vs:Array Value}{n:Nat}{xs:List PyData}{as:List Addr}(e1:h.get? D=some o)(e2:o.cls=.type "tuple")(e3:o.data=.seq vs n)(r:ReadsAll h vs.toList xs as)(q:∀ a∈as,a∉β∧a∉N):VR G N β h (.ref D) (.d (.tuple xs)):=
 ⟨as,.tuple e1 e2 e3 r,q⟩
noncomputable def NewL(s:Shared)(h:Heap)(v:Value):Prop:=∃ a,v=.ref a∧s.heap.get? a=none∧Plain h a
noncomputable abbrev FRel(G:Gl)(F:Fm)(s:Shared):List Addr→Heap→Value→V→Prop:=fun β h v d=>VR G F.B β h v d∧(∀ xs,d=.d (.list xs)→NewL s h v)
noncomputable def LeafD{α δ:Type}(G:Gl)(F:Fm)(s:Shared)(β:List Addr)(T:WT α)(d:δ)(Rel:List Addr→Heap→α→δ→Prop):Prop:=
 ∀ (Q:α→Shared→Prop) (E:Value→Shared→Prop),(∀ v s',KeepsL F.env.locals s s'→Rel β s'.heap v d→Q v s')→T Q E s
theorem LeafD.leaf{α δ:Type}{T:WT α}{d:δ}{Rel:List Addr→Heap→α→δ→Prop}(sr:SR G F β ρ O s.heap)
 (hw:∀ (Q:α→Shared→Prop) (E:Value→Shared→Prop),(∀ v s',KeepsAll s s'→Rel β s'.heap v d→Q v s')→T Q E s):LeafD G F s β T d Rel:=fun Q E k=>hw Q E fun v s' ka r=>k v s' ka.toL r
theorem LeafD.leafL{α δ:Type}{T:WT α}{d:δ}{Rel:List Addr→Heap→α→δ→Prop}(sr:SR G F β ρ O s.heap)
 (hw:∀ (Q:α→Shared→Prop) (E:Value→Shared→Prop),(∀ v s',KeepsL F.env.locals s s'→Rel β s'.heap v d→Q v s')→T Q E s):LeafD G F s β T d Rel:=hw
theorem LeafD.does{α δ:Type}{T:WT α}{d:δ}{Rel:List Addr→Heap→α→δ→Prop}(sr:SR G F β ρ O s.heap)(h:LeafD G F s β T d Rel):DoesW G F s β T (.ok d (ρ,O)) Rel:=Does.leafL sr h
theorem zaj{a b:Int}(h:a.natAbs < 2 ^ 64∨b.natAbs < 2 ^ 64):IntMulOk a b:=by
 rcases h with h | h
 ·exact IntMulOk.of_left (intBits_le_64 (by omega) (by omega))
 ·exact IntMulOk.of_right (intBits_le_64 (by omega) (by omega))
theorem zas{f:Int→Option PyData}{y c:PyData}(h:intD f y=some c):∃ n,y=.int n∧f n=some c:=by
 cases y <;> first | (cases h;done) | skip
 exact⟨_,rfl,h⟩
theorem yf{p:Prop}[Decidable p]{a c:PyData}(h:(if p then some a else none)=some c):p∧a=c:=by
 by_cases hp:p
 ·rw[if_pos hp] at h;exact⟨hp,Option.some.inj h⟩
 ·rw[if_neg hp] at h;cases h
theorem zof{x y c:PyData}(h:addD x y=some c):(∃ a b,x=.int a∧y=.int b∧c=.int (a+b))∨(∃ a b,x=.list a∧y=.list b∧a.length+b.length≤line∧c=.list (a++b)) ∨
 (∃ a b,x=.tuple a∧y=.tuple b∧a.length+b.length≤line∧c=.tuple (a++b))∨(∃ a b,x=.str a∧y=.str b∧a.length+b.length≤line∧c=.str (a++b)):=by
 cases x with
 | int a=>cases y <;> first | (cases h;done) | skip
          cases h;exact .inl ⟨_,_,rfl,rfl,rfl⟩
 | list a=>cases y <;> first | (cases h;done) | skip
           obtain⟨h1,rfl⟩:=yf h;exact .inr (.inl ⟨_,_,rfl,rfl,h1,rfl⟩)
 | tuple a=>cases y <;> first | (cases h;done) | skip
            obtain⟨h1,rfl⟩:=yf h;exact .inr (.inr (.inl ⟨_,_,rfl,rfl,h1,rfl⟩))
 | str a=>cases y <;> first | (cases h;done) | skip
          obtain⟨h1,rfl⟩:=yf h;exact .inr (.inr (.inr ⟨_,_,rfl,rfl,h1,rfl⟩))
 | _=>cases h
theorem VR.ints{v:Value}{x:V}{i:Int}(rv:VR G F.B β s.heap v x)(h:look O x=some (.int i)):∃ t,v=.int i t:=by
 have:=z9 h (fun _ h=>by cases h);subst this
 exact rv.int_inv
theorem zca{T:WT Value}{i:Int}(sr:SR G F β ρ O s.heap)(h:∀ (Q:Value→Shared→Prop) (E:Value→Shared→Prop),(∀ t,Q (.int i t) { s with toks:=s.toks+1 })→T Q E s):LeafD G F s β T (V.d (.int i)) (FRel G F s):=
 LeafD.leaf sr fun Q E q=>h Q E fun t=>q _ _ (KeepsAll.toks _ _) ⟨VR.int,fun _ h=>by cases h⟩
theorem zix{v u:Value}{x y:V}{a b:Str}(sr:SR G F β ρ O s.heap)(rv:VR G F.B β s.heap v x)(ru:VR G F.B β s.heap u y)(h1:look O x=some (.str a))(h2:look O y=some (.str b))(hz:a.length+b.length≤line) :
 LeafD G F s β (tr G A (binaryOp .Add v u)) (V.d (.str (a++b))) (FRel G F s):=by
 have:=z9 h1 (fun _ h=>by cases h);subst this
 have:=z9 h2 (fun _ h=>by cases h);subst this
 obtain⟨t,rfl⟩:=rv.str_inv;obtain⟨t',rfl⟩:=ru.str_inv
 exact LeafD.leaf sr fun Q E q=>add_str (fun t' tk=>q _ _ (KeepsAll.toks _ _) ⟨VR.str,fun _ h=>by cases h⟩) (Nat.le_trans hz (by decide))
theorem zgc{v u:Value}{x y:V}{a b:List PyData}(sr:SR G F β ρ O s.heap)(rv:VR G F.B β s.heap v x)(ru:VR G F.B β s.heap u y)(h1:look O x=some (.list a))(h2:look O y=some (.list b))(hz:a.length+b.length≤line) :
 LeafD G F s β (tr G A (binaryOp .Add v u)) (V.d (.list (a++b))) (FRel G F s):=by
 have new:s.heap.get? s.heap.objs.size=none:=Heap.get?_none_of_le (Nat.le_refl _)
 obtain⟨D1,rfl,o1,vs1,n1,e1,e2,e3,as1,r1,q1⟩:=z8 sr rv h1
 obtain⟨D2,rfl,o2,vs2,n2,f1,f2,f3,as2,r2,q2⟩:=z8 sr ru h2
 obtain⟨m,hm⟩:=sr.fm.ns
 obtain⟨fr,nw⟩:=zgw hm
 refine LeafD.leafL sr fun Q E q=>?_
 refine add_arrays fr nw ⟨o1,e1,e2,n1,e3⟩ ⟨o2,f1,f2,n2,f3⟩ (fun h' fr' nw'=>?_) (by have:=zd r1;have:=zd r2;simp at *;exact Nat.le_trans (by omega) (Nat.le_trans hz (by decide)))
 have kp:KeepsL F.env.locals s { s with heap:=h' }:=q8 (tk:=s.toks) (dr:=s.drawn) hm fr' nw' fun p hp=>List.mem_cons_of_mem _ hp
 have st:=kp.step sr.fm
 obtain⟨r1',q1'⟩:=zy sr.br sr.fm st r1 q1
 obtain⟨r2',q2'⟩:=zy sr.br sr.fm st r2 q2
 refine q _ _ kp ⟨xl (nw' _ (.head _)).1 rfl rfl (by simpa using yj r1' r2') (fun a ha=>(List.mem_append.mp ha).elim (q1 a) (q2 a)) sr.size_new,fun _ _=>⟨_,rfl,new,_,(nw' _ (.head _)).1,rfl,rfl⟩⟩
theorem ziw{v u:Value}{x y:V}{a b:List PyData}(sr:SR G F β ρ O s.heap)(rv:VR G F.B β s.heap v x)(ru:VR G F.B β s.heap u y)(h1:look O x=some (.tuple a))(h2:look O y=some (.tuple b))(hz:a.length+b.length≤line) :
 LeafD G F s β (tr G A (binaryOp .Add v u)) (V.d (.tuple (a++b))) (FRel G F s):=by
 have:=z9 h1 (fun _ h=>by cases h);subst this
 have:=z9 h2 (fun _ h=>by cases h);subst this
 obtain⟨D1,o1,vs1,n1,rfl,e1,e2,e3,as1,r1,q1⟩:=rv.tuple_inv
 obtain⟨D2,o2,vs2,n2,rfl,f1,f2,f3,as2,r2,q2⟩:=ru.tuple_inv
 obtain⟨m,hm⟩:=sr.fm.ns
 obtain⟨fr,nw⟩:=zgw hm
 refine LeafD.leafL sr fun Q E q=>?_
 refine add_tuples (vs:=vs1.toList) (ws:=vs2.toList) fr nw ⟨o1,e1,e2,n1,by simpa using e3⟩ ⟨o2,f1,f2,n2,by simpa using f3⟩ (fun hv=>?_) (fun _ hv=>?_) (fun _ _ h' fr' nw'=>?_) (by have:=zd r1;have:=zd r2;simp at *;exact Nat.le_trans (by omega) (Nat.le_trans hz (by decide)))
 ·have hv':vs1.toList=[]:=hv
  rw[hv'] at r1;cases r1
  exact q _ _ (KeepsAll.refl s).toL ⟨ru,fun _ h=>by cases h⟩
 ·have hv':vs2.toList=[]:=hv
  rw[hv'] at r2;cases r2
  rw[List.append_nil] at q
  exact q _ _ (KeepsAll.refl s).toL ⟨rv,fun _ h=>by cases h⟩
 ·have kp:KeepsL F.env.locals s { s with heap:=h' }:=q8 (tk:=s.toks) (dr:=s.drawn) hm fr' nw' fun p hp=>List.mem_cons_of_mem _ hp
  have st:=kp.step sr.fm
  obtain⟨r1',q1'⟩:=zy sr.br sr.fm st r1 q1
  obtain⟨r2',q2'⟩:=zy sr.br sr.fm st r2 q2
  exact q _ _ kp ⟨qh (nw' _ (.head _)).1 rfl rfl (by simpa using yj r1' r2') (fun a ha=>(List.mem_append.mp ha).elim (q1 a) (q2 a)),fun _ h=>by cases h⟩
theorem ziv{v:Value}{x:V}{a:Str}{n:Int}{t':Tok}(sr:SR G F β ρ O s.heap)(rv:VR G F.B β s.heap v x)(h1:look O x=some (.str a))(hz:a.length≤256∧0≤n∧n≤256) :
 LeafD G F s β (tr G A (binaryOp .Mult v (.int n t'))) (V.d (.str (Txt.mul a n))) (FRel G F s):=by
 have:=z9 h1 (fun _ h=>by cases h);subst this
 obtain⟨t,rfl⟩:=rv.str_inv
 exact LeafD.leaf sr fun Q E q=>SB.mul (mulOk_of 256 256 hz.1 (by omega) (by omega) (by decide) (by decide)) (fun t' k=>q _ _ (KeepsAll.toks _ _) ⟨VR.str,fun _ h=>by cases h⟩)
theorem zf9{v:Value}{x:V}{a:List PyData}{n:Int}{t':Tok}(sr:SR G F β ρ O s.heap)(rv:VR G F.B β s.heap v x)(h1:look O x=some (.list a))(hz:a.length * n.toNat≤256∧0≤n∧n≤256) :
 LeafD G F s β (tr G A (binaryOp .Mult v (.int n t'))) (V.d (.list (repL a n))) (FRel G F s):=by
 obtain⟨D1,rfl,o1,vs1,n1,e1,e2,e3,as1,r1,q1⟩:=z8 sr rv h1
 obtain⟨m,hm⟩:=sr.fm.ns
 obtain⟨fr,nw⟩:=zgw hm
 refine LeafD.leafL sr fun Q E q=>?_
 have hl:=zd r1
 refine PySem.W.KMa.mul (vs:=vs1.toList) fr nw ⟨o1,e1,e2,n1,by simpa using e3⟩ (by omega) (by omega) (by rw[hl];exact hz.1) rfl fun D h' fr' nw' hlt=>?_
 have kp:KeepsL F.env.locals s { s with heap:=h' }:=q8 (tk:=s.toks) (dr:=s.drawn) hm fr' nw' fun p hp=>List.mem_cons_of_mem _ hp
 have st:=kp.step sr.fm
 obtain⟨r1',q1'⟩:=zy sr.br sr.fm st r1 q1
 obtain⟨bs,r2,q2⟩:=w5 r1' q1' n.toNat
 have hD:=nw' _ (.head _)
 have nD:s.heap.get? D=none:=by
  cases e:s.heap.get? D with
  | none=>rfl
  | some o=>
    exfalso
    rcases Nat.lt_or_ge F.env.locals D with h | h
    ·exact Nat.lt_irrefl _ (hlt (D,o) (mem_newsOf.mpr ⟨h,e⟩))
    ·have h':D < F.env.locals:=Nat.lt_of_le_of_ne h hD.2.1
     have:=hD.2.2
     rw[dp,if_pos h'] at this
     rw[e] at this;cases this
 refine q _ _ kp ⟨xl hD.1 rfl rfl (by simpa [repL] using r2) q2 ⟨fun hb=>?_,fun hb=>?_⟩,fun _ _=>⟨D,rfl,nD,_,hD.1,rfl,rfl⟩⟩
 ·obtain⟨o,e,_⟩:=sr.br.alive D hb;rw[e] at nD;cases nD
 ·obtain⟨o,e,_⟩:=sr.fm.stor D hb;rw[e] at nD;cases nD
theorem ziu{v:Value}{x:V}{a:List PyData}{n:Int}{t':Tok}(sr:SR G F β ρ O s.heap)(rv:VR G F.B β s.heap v x)(h1:look O x=some (.tuple a))(hz:a≠[]∧a.length * n.toNat≤256∧2≤n∧n≤256) :
 LeafD G F s β (tr G A (binaryOp .Mult v (.int n t'))) (V.d (.tuple (repL a n))) (FRel G F s):=by
 have:=z9 h1 (fun _ h=>by cases h);subst this
 obtain⟨D1,o1,vs1,n1,rfl,e1,e2,e3,as1,r1,q1⟩:=rv.tuple_inv
 have hl:=zd r1
 refine LeafD.leaf sr fun Q E q=>?_
 refine zio e1 e2 e3 (by cases hv:vs1.isEmpty with
  | false=>rfl
  | true=>rw[Array.isEmpty_iff] at hv;subst hv;simp at hl;exact absurd (List.eq_nil_of_length_eq_zero hl.symm) hz.1) hz.2.2.1 hz.2.2.2 (by rw[← Array.length_toList,hl];exact hz.2.1) ?_
 have kp:=KeepsAll.push s { cls:=Value.type "tuple",data:=Data.seq (List.replicate n.toNat vs1.toList).flatten.toArray } s.toks
 obtain⟨bs,r2,q2⟩:=w5 (zt kp.kept r1) q1 n.toNat
 exact q _ _ kp ⟨qh (Heap.get?_push_size _ rfl) rfl rfl (by simpa [repL] using r2) q2,fun _ h=>by cases h⟩
theorem znb{op:Bop}{o:Operator}{i j:Int}{t t':Tok}{c:PyData}(ho:ze5 op o=true)(sr:SR G F β ρ O s.heap)(h:arith op i j=some c) :
 LeafD G F s β (tr G A (binaryOp o (.int i t) (.int j t'))) (V.d c) (FRel G F s):=by
 cases op with
 | sub=>
   cases o <;> first | exact (Bool.false_ne_true ho).elim | skip
   cases h
   exact zca sr fun Q E q=>sub_int (q _)
 | fdiv=>
   cases o <;> first | exact (Bool.false_ne_true ho).elim | skip
   obtain⟨hz,rfl⟩:=yf h
   exact zca sr fun Q E q=>floordiv_int hz.1 (q _) (.inl (PyProof.noPylong_small hz.2))
 | mod=>
   cases o <;> first | exact (Bool.false_ne_true ho).elim | skip
   by_cases hz:j=0
   ·unfold arith at h;dsimp only at h;rw[if_pos hz] at h;cases h
   ·unfold arith at h;dsimp only at h;rw[if_neg hz] at h;cases h
    exact zca sr fun Q E q=>mod_int' hz (q _)
 | pow=>
   cases o <;> first | exact (Bool.false_ne_true ho).elim | skip
   obtain⟨⟨rfl,rfl⟩,rfl⟩:=yf h
   refine zca sr fun Q E q=>pow_int (by decide) (by decide +kernel) ?_
   have e:(10:Int) ^ (20:Int).toNat=100000000000000000000:=by decide
   rw[e]
   exact q _
 | _=>cases h
theorem zna{op:Bop}{o:Operator}{v u:Value}{x y:V}{c:PyData}(ho:ze5 op o=true)(sr:SR G F β ρ O s.heap)(rv:VR G F.B β s.heap v x)(ru:VR G F.B β s.heap u y)
 (hc:((look O x).bind fun x=>(look O y).bind fun y=>zcq op x y)=some c):LeafD G F s β (tr G A (binaryOp o v u)) (V.d c) (FRel G F s):=by
 obtain⟨a,h1,hc⟩:=Option.bind_eq_some_iff.mp hc
 obtain⟨b,h2,h3⟩:=Option.bind_eq_some_iff.mp hc
 have rest:∀ op,zcq op a b=intD (fun i=>intD (arith op i) b) a→ze5 op o=true→zcq op a b=some c→LeafD G F s β (tr G A (binaryOp o v u)) (V.d c) (FRel G F s):=fun op e ho h3=>by
  rw[e] at h3
  obtain⟨i,rfl,h3⟩:=zas h3
  have h3:intD (arith op i) b=some c:=h3
  obtain⟨j,rfl,h3⟩:=zas h3
  obtain⟨t,rfl⟩:=rv.ints h1
  obtain⟨t',rfl⟩:=ru.ints h2
  exact znb ho sr h3
 cases op with
 | add=>
   cases o <;> first | exact (Bool.false_ne_true ho).elim | skip
   rcases zof h3 with ⟨i,j,rfl,rfl,rfl⟩ | ⟨i,j,rfl,rfl,hz,rfl⟩ | ⟨i,j,rfl,rfl,hz,rfl⟩ | ⟨i,j,rfl,rfl,hz,rfl⟩
   ·obtain⟨t,rfl⟩:=rv.ints h1
    obtain⟨t',rfl⟩:=ru.ints h2
    exact zca sr fun Q E q=>wpAny_add_int (q _)
   ·exact zgc sr rv ru h1 h2 hz
   ·exact ziw sr rv ru h1 h2 hz
   ·exact zix sr rv ru h1 h2 hz
 | mul=>
   cases o <;> first | exact (Bool.false_ne_true ho).elim | skip
   obtain⟨n,rfl,h3⟩:=zas h3
   obtain⟨t',rfl⟩:=ru.ints h2
   cases a with
   | int i=>
     obtain⟨hz,rfl⟩:=yf h3
     obtain⟨t,rfl⟩:=rv.ints h1
     exact zca sr fun Q E q=>mul_int (q _) (zaj hz)
   | str a=>obtain⟨hz,rfl⟩:=yf h3;exact ziv sr rv h1 hz
   | list a=>obtain⟨hz,rfl⟩:=yf h3;exact zf9 sr rv h1 hz
   | tuple a=>obtain⟨hz,rfl⟩:=yf h3;exact ziu sr rv h1 hz
   | _=>cases h3
 | sub=>exact rest .sub rfl ho h3
 | fdiv=>exact rest .fdiv rfl ho h3
 | mod=>exact rest .mod rfl ho h3
 | pow=>exact rest .pow rfl ho h3
end
section
variable{G:Gl}{F:Fm}{A:Around}{s:Shared}{β:List Addr}{ρ:Loc}{O:za}
theorem zrd{op:Cop}{o:CmpOp}{v u:Value}{x y:V}{k:Nat}(ro:Room A k)(ho:jc op o=true)(sr:SR G F β ρ O s.heap)(rv:VR G F.B β s.heap v x)(ru:VR G F.B β s.heap u y) :
 Does G F A s β (compareOp o v u) ((cmpG op x y O).lift ρ) (VRel G F):=by
 unfold cmpG
 cases h1:look O x with
 | none=>trivial
 | some a=>
   cases h2:look O y with
   | none=>trivial
   | some b=>
     show DoesW G F s β _ ((opt ((jy op a b).map fun b=>V.d (.bool b)) O).lift ρ) _
     cases h3:jy op a b with
     | none=>trivial
     | some c=>
       obtain⟨as,r1⟩:=wo sr rv h1
       obtain⟨bs,r2⟩:=wo sr ru h2
       exact Does.leaf sr fun Q E q=>zl4 ro ho r1 r2 h3 (q _ _ (KeepsAll.refl s) VR.bool)
set_option tactic.hygienic true in
theorem zow{o:CmpOp}{v u:Value}{x y:V}{f:Bool→Bool}(ho:compareOp o v u=(do return Value.bool (f (← isSame v u))))(sr:SR G F β ρ O s.heap)(rv:VR G F.B β s.heap v x)(ru:VR G F.B β s.heap u y) :
 Does G F A s β (compareOp o v u) ((isV f x y O).lift ρ) (VRel G F):=by
 cases x <;> first | trivial | skip
 cases y <;> first | trivial | skip
 rename_i a b
 show DoesW G F s β _ ((opt ((isop a b).map fun c=>V.d (.bool (f c))) O).lift ρ) _
 cases h:isop a b with
 | none=>trivial
 | some c=>
   refine Does.leaf sr fun Q E q=>?_
   rw[ho,znh sr rv ru h]
   exact wpAny_bind (wpAny_pure (wpAny_pure (q _ _ (KeepsAll.refl s) VR.bool)))
theorem uz{op:Cop}{o:CmpOp}{v u:Value}{x y:V}{k:Nat}(ro:Room A k)(ho:jc op o=true)(sr:SR G F β ρ O s.heap)(rv:VR G F.B β s.heap v x)(ru:VR G F.B β s.heap u y) :
 Does G F A s β (compareOp o v u) ((cmpV op x y O).lift ρ) (VRel G F):=by
 have dflt:=zrd ro ho sr rv ru
 cases op with
 | is=>cases o <;> first | exact (Bool.false_ne_true ho).elim | exact zow rfl sr rv ru
 | isnot=>cases o <;> first | exact (Bool.false_ne_true ho).elim | exact zow rfl sr rv ru
 | _=>exact dflt
theorem w0{v:Value}{d:V}{b:Bool}(r:VR G F.B β s.heap v d)(e:truth d=some b):v=.bool b:=by
 cases d with
 | d x=>cases x with
   | bool c=>cases e;exact r.bool_inv
   | _=>cases e
 | _=>cases e
noncomputable abbrev BRel:List Addr→Heap→Bool→Bool→Prop:=fun _ _ a b=>a=b
theorem kl{v:Value}{d:V}(sr:SR G F β ρ O s.heap)(r:VR G F.B β s.heap v d):Does G F A s β (truthy v) ((opt (truth d) O).lift ρ) BRel:=by
 cases h:truth d with
 | none=>trivial
 | some b=>
   have:=w0 r h;subst this
   exact Does.leaf sr fun Q E q=>wpAny_truthy_bool (q _ _ (KeepsAll.refl s) rfl)
theorem d_ok{T:WT Value}{v:Value}{d:V}(sr:SR G F β ρ O s.heap)(r:VR G F.B β s.heap v d)(h:∀ Q E,Q v s→T Q E s):DoesW G F s β T ((R.ok d O).lift ρ) (VRel G F):=
 Does.leaf sr fun Q E q=>h Q E (q _ _ (KeepsAll.refl s) r)
theorem zs8{x:Expr}{p:Pos}{r:R za V}(h1:Does G F A s β (eval x F.env) (r.lift ρ) (VRel G F)) :
 Does G F A s β (eval (.UnaryOp .USub x p) F.env) ((r.bind fun v O=>(match v with
  | .d (.int i)=>R.ok (V.d (.int (-i))) O
  | _=>.stuck)).lift ρ) (VRel G F):=by
 refine DoesW.seqE (T₂:=fun v=>tr G A (unaryOp .USub v)) (fun Q E h=>wpAny_UnaryOp h) h1 fun s' β' v d O' e st sr rv=>?_
 cases d with
 | d x=>cases x with
   | int i=>obtain⟨t,rfl⟩:=rv.int_inv;exact Does.leaf sr fun Q E q=>PySem.P.neg_int (q _ _ (KeepsAll.toks _ _) VR.int)
   | _=>trivial
 | _=>trivial
theorem d_nt{x:Expr}{p:Pos}{r:R za V}(h1:Does G F A s β (eval x F.env) (r.lift ρ) (VRel G F)) :
 Does G F A s β (eval (.UnaryOp .Not x p) F.env) ((r.bind fun v O=>opt ((truth v).map fun b=>V.d (.bool !b)) O).lift ρ) (VRel G F):=by
 refine DoesW.seqE (T₂:=fun v=>tr G A (unaryOp .Not v)) (fun Q E h=>wpAny_UnaryOp h) h1 fun s' β' v d O' e st sr rv=>?_
 cases h:truth d with
 | none=>trivial
 | some b=>
   have:=w0 rv h;subst this
   exact Does.leaf sr fun Q E q=>not_value (wpAny_truthy_bool (q _ _ (KeepsAll.refl _) VR.bool))
end
theorem zv{h:Heap}{P:Addr→Prop}{vs:List Value}{xs:List PyData}{as:List Addr}(r:ReadsAll h vs xs as):(∀ a∈as,P a)→∀ {i:Nat} {x:PyData},xs[i]?=some x→∃ v bs,vs[i]?=some v∧Reads h v x bs∧∀ a∈bs,P a:=by
 refine z6 (motive:=fun vs xs as=>(∀ a∈as,P a)→∀ {i:Nat} {x:PyData},xs[i]?=some x→∃ v bs,vs[i]?=some v∧Reads h v x bs∧∀ a∈bs,P a) ?_ ?_ r
 ·intro _ i x e;rw[List.getElem?_nil] at e;cases e
 ·intro v d as vs ds bs r _ ih q i x e
  cases i with
  | zero=>have e:some d=some x:=e
          cases e;exact⟨v,as,rfl,r,fun a ha=>q a (List.mem_append_left _ ha)⟩
  | succ i=>exact ih (fun a ha=>q a (List.mem_append_right _ ha)) (i:=i) e
theorem wa{h:Heap}{P:Addr→Prop}{vs:List Value}{xs:List PyData}{as:List Addr}(r:ReadsAll h vs xs as):(∀ a∈as,P a)→∀ (k:Nat),∃ bs,ReadsAll h (vs.drop k) (xs.drop k) bs∧∀ a∈bs,P a:=by
 refine z6 (motive:=fun vs xs as=>(∀ a∈as,P a)→∀ (k:Nat),∃ bs,ReadsAll h (vs.drop k) (xs.drop k) bs∧∀ a∈bs,P a) ?_ ?_ r
 ·intro _ k;exact⟨[],by rw[List.drop_nil,List.drop_nil];exact .nil,fun _ h=>nomatch h⟩
 ·intro v d as vs ds bs r rs ih q k
  cases k with
  | zero=>exact⟨_,.cons r rs,q⟩
  | succ k=>exact ih (fun a ha=>q a (List.mem_append_right _ ha)) k
theorem v8{h:Heap}{P:Addr→Prop}{vs:List Value}{xs:List PyData}{as:List Addr}(r:ReadsAll h vs xs as):(∀ a∈as,P a)→∀ (k:Nat),∃ bs,ReadsAll h (vs.take k) (xs.take k) bs∧∀ a∈bs,P a:=by
 refine z6 (motive:=fun vs xs as=>(∀ a∈as,P a)→∀ (k:Nat),∃ bs,ReadsAll h (vs.take k) (xs.take k) bs∧∀ a∈bs,P a) ?_ ?_ r
 ·intro _ k;exact⟨[],by rw[List.take_nil,List.take_nil];exact .nil,fun _ h=>nomatch h⟩
 ·intro v d as vs ds bs r rs ih q k
  cases k with
  | zero=>exact⟨[],.nil,fun _ h=>nomatch h⟩
  | succ k=>
    obtain⟨b,r',q'⟩:=ih (fun a ha=>q a (List.mem_append_right _ ha)) k
    exact⟨as++b,.cons r r',fun a ha=>(List.mem_append.mp ha).elim (fun h=>q a (List.mem_append_left _ h)) (q' a)⟩
theorem ul{h:Heap}{P:Addr→Prop}{vs:List Value}{xs:List PyData}{as:List Addr}(r:ReadsAll h vs xs as):(∀ a∈as,P a)→∃ bs,ReadsAll h vs.reverse xs.reverse bs∧∀ a∈bs,P a:=by
 refine z6 (motive:=fun vs xs as=>(∀ a∈as,P a)→∃ bs,ReadsAll h vs.reverse xs.reverse bs∧∀ a∈bs,P a) (fun _=>⟨[],.nil,fun _ h=>nomatch h⟩) ?_ r
 intro v d as vs ds bs r rs ih q
 obtain⟨b,r',q'⟩:=ih fun a ha=>q a (List.mem_append_right _ ha)
 refine⟨b++(as++[]),?_,fun a ha=>?_⟩
 ·rw[List.reverse_cons,List.reverse_cons];exact yj r' (.cons r .nil)
 ·rw[List.append_nil] at ha
  exact (List.mem_append.mp ha).elim (q' a) fun h=>q a (List.mem_append_left _ h)
section
variable{G:Gl}{F:Fm}{A:Around}{s:Shared}{β:List Addr}{ρ:Loc}{O:za}
set_option tactic.hygienic true in
theorem zhr{xs:List PyData}{k:Int}{z:PyData}{x:PyData}(hx:items x=some xs)(e:idxD x (.int k)=some z):xs.length≤line∧((0≤k∧xs[k.toNat]?=some z)∨(k < 0∧0≤k+xs.length∧xs[(k+xs.length).toNat]?=some z)):=by
 unfold idxD at e
 rw[hx] at e
 dsimp only at e
 split at e
 ·rename_i h1
  refine⟨h1,?_⟩
  split at e
  ·rename_i h2;exact .inl ⟨h2,e⟩
  ·rename_i h2
   split at e
   ·rename_i h3;exact .inr ⟨by omega,h3,e⟩
   ·cases e
 ·cases e
theorem vf{α:Type}{xs:List α}{i:Nat}{z:α}(e:xs[i]?=some z):i < xs.length:=by
 rcases Nat.lt_or_ge i xs.length with h | h
 ·exact h
 ·rw[List.getElem?_eq_none h] at e;cases e
theorem zit{value slice:Expr}{a:Addr}{xs:List PyData}{k:Int}{t:Tok}{z:PyData}{Q:Value→Shared→Prop}{E:Value→Shared→Prop}(l:ListAt s.heap F.B β a xs)(e:idxD (.list xs) (.int k)=some z)
 (hs:subscripted slice false (.ref a) (.int k t)=operate [.ref a,.int k t] (getItem (.ref a) (.int k t)))
 (q:∀ v,VR G F.B β s.heap v (.d z)→Q v s):wpAny (model G.prog G.w) A (subscriptTail value slice (.ref a) (.int k t)) Q E s:=by
 obtain⟨o,vs,n,e1,e2,e3,as,r,q1⟩:=l
 have hl:=zd r
 have hsz:vs.size=xs.length:=by rw[← hl,Array.length_toList]
 obtain⟨h0,h | h⟩:=zhr (xs:=xs) rfl e
 ·obtain⟨v,bs,g1,g2,g3⟩:=zv r q1 h.2
  have:=vf h.2
  refine tail_any (T:="list") ⟨o,e1,e2⟩ slot_list_getitem.lookup (wpAny_getItem_list ⟨o,e1,e2,n,e3⟩ h.1 (by simp only [line] at h0;omega) (by simpa using g1) (q v ⟨bs,g2,g3⟩)) hs
 ·obtain⟨v,bs,g1,g2,g3⟩:=zv r q1 h.2.2
  refine tail_any (T:="list") ⟨o,e1,e2⟩ slot_list_getitem.lookup (wpAny_getItem_list_neg ⟨o,e1,e2,n,e3⟩ h.1 (by rw [hsz];omega) (by simp only [line] at h0;omega) (by rw [hsz];simpa using g1) (q v ⟨bs,g2,g3⟩)) hs
theorem zfl{value slice:Expr}{v:Value}{xs:List PyData}{k:Int}{t:Tok}{z:PyData}{Q:Value→Shared→Prop}{E:Value→Shared→Prop}(rv:VR G F.B β s.heap v (.d (.tuple xs)))(e:idxD (.tuple xs) (.int k)=some z)
 (hs:subscripted slice false v (.int k t)=operate [v,.int k t] (getItem v (.int k t)))
 (q:∀ v,VR G F.B β s.heap v (.d z)→Q v s):wpAny (model G.prog G.w) A (subscriptTail value slice v (.int k t)) Q E s:=by
 obtain⟨a,o,vs,n,rfl,e1,e2,e3,as,r,q1⟩:=rv.tuple_inv
 have hl:=zd r
 have hsz:vs.size=xs.length:=by rw[← hl,Array.length_toList]
 have ht:IsTup s.heap a vs:=⟨o,e1,e2,n,e3⟩
 obtain⟨h0,h | h⟩:=zhr (xs:=xs) rfl e
 ·obtain⟨v,bs,g1,g2,g3⟩:=zv r q1 h.2
  have:=vf h.2
  exact tail_any (T:="tuple") ht.typeIs slot_tuple_getitem.lookup (getItem_tuple ht (by omega) (by simp only [line] at h0;omega) (j:=k.toNat) (by unfold seqIndex?;rw [hsz];simp;omega) (by simpa using g1) (q v ⟨bs,g2,g3⟩)) hs
 ·obtain⟨v,bs,g1,g2,g3⟩:=zv r q1 h.2.2
  have:=vf h.2.2
  exact tail_any (T:="tuple") ht.typeIs slot_tuple_getitem.lookup (getItem_tuple ht (by simp only [line] at h0;omega) (by omega) (j:=(k+xs.length).toNat) (by unfold seqIndex?;rw [hsz];simp;omega) (by simpa using g1) (q v ⟨bs,g2,g3⟩)) hs
end
section
variable{prog:Program}{w:World}{A:Around}{E:Value→Shared→Prop}{s:Shared}
theorem wj{v:Value}{k:Option Int}{Q:Option Int→Shared→Prop}(p:IsPart v k)(h:Q k s):wpAny (model prog w) A (Builtin.Slice.slicePartIndex v) Q E s:=by
 cases p with
 | none=>exact slicePart_none h
 | int i t=>exact slicePart_int h
theorem zh3(n:Nat)(v:Int):(if v < 0 then max (v+n) 0 else min v n)=((clipAt n v:Nat):Int):=by
 rw[clipAt_cast];split <;> omega
theorem zg2(lo hi:Option Int)(n:Nat):Builtin.Slice.sliceAdjust lo hi 1 (n:Int)=(((lo.elim 0 (clipAt n):Nat):Int),((hi.elim n (clipAt n):Nat):Int)):=by
 refine Prod.ext ?_ ?_
 ·cases lo with
  | none=>rfl
  | some v=>exact zh3 n v
 ·cases hi with
  | none=>rfl
  | some v=>exact zh3 n v
theorem zf1(a b:Nat):Builtin.Slice.slicePlaces (a:Int) (b:Int) 1=b - a:=by
 unfold Builtin.Slice.slicePlaces
 have h1:(1:Int) > 0:=by omega
 simp only[h1,if_true,Int.ediv_one]
 split <;> omega
theorem zkf(xs:Array Value)(a k:Nat):((List.range k).filterMap fun (j:Nat)=>xs[((a:Int)+(j:Int) * 1).toNat]?).toArray=((xs.toList.drop a).take k).toArray:=by
 have e:(fun (k:Nat)=>xs[((a:Int)+(k:Int) * 1).toNat]?)=fun k=>xs[a+k]?:=by
  funext k
  have:((a:Int)+(k:Int) * 1).toNat=a+k:=by rw[Int.mul_one];rfl
  rw[this]
 rw[e]
 have:=pick_run xs a k
 rw[List.filterMap_map] at this
 have e2:((fun x=>xs[x]?)∘fun x=>a+x)=fun k=>xs[a+k]?:=rfl
 rw[e2] at this
 rw[this]
theorem xw{α β:Type}{f g:α→Option β}:∀ {l:List α},(∀ x∈l,f x=g x)→l.filterMap f=l.filterMap g
 | [],_=>rfl
 | x::r,h=>by
   rw[List.filterMap_cons,List.filterMap_cons,h x (.head _),xw fun y hy=>h y (.tail _ hy)]
theorem zbl{sl:Addr}{vl vu vs:Value}{lo hi st:Option Int}{n:Int}{x:Int×Int×Nat}{Q:Int×Int×Nat→Shared→Prop}(hs:s.heap.IsSliceOf sl vl vu vs)(pl:IsPart vl lo)(pu:IsPart vu hi)(ps:IsPart vs st)(h0:¬ ((st.getD 1 == 0)=true))
 (hx:((Builtin.Slice.sliceAdjust lo hi (st.getD 1) n).1,st.getD 1,Builtin.Slice.slicePlaces (Builtin.Slice.sliceAdjust lo hi (st.getD 1) n).1 (Builtin.Slice.sliceAdjust lo hi (st.getD 1) n).2 (st.getD 1))=x) (hq:Q x s) :
 wpAny (model prog w) A (Builtin.Slice.sliceApplied (.ref sl) (pure n)) Q E s:=by
 subst hx
 obtain⟨os,hos,hcs,hds⟩:=hs
 unfold Builtin.Slice.sliceApplied Builtin.Slice.sliceFields
 refine wpAny_bind (wpAny_bind (wpAny_field hos hds (x:=vl) rfl (wpAny_bind (wpAny_field hos hds (x:=vu) rfl (wpAny_bind (wpAny_field hos hds (x:=vs) rfl (wpAny_pure ?_)))))))
 refine wpAny_bind (wj ps (wpAny_ite_false (decide_eq_false h0) ?_))
 exact wpAny_bind (wj pl (wpAny_bind (wj pu (wpAny_bind (wpAny_pure (wpAny_pure hq))))))
theorem zjn(items:Array Value):((List.range items.size).filterMap fun (j:Nat)=>items[((items.size:Int) - 1+(j:Int) * (-1)).toNat]?).toArray=items.toList.reverse.toArray:=by
 have e:∀ j∈List.range items.size,items[((items.size:Int) - 1+(j:Int) * (-1)).toNat]?=items[items.size - 1 - j]?:=fun j hj=>by
  obtain⟨m,hm⟩:=Nat.exists_eq_add_of_lt (List.mem_range.mp hj)
  rw[hm,Int.mul_neg,Int.mul_one,Nat.add_sub_cancel,Nat.add_sub_cancel_left,Int.natCast_succ,Int.add_sub_cancel,Int.natCast_add,← Int.sub_eq_add_neg,Int.add_comm,Int.add_sub_cancel]
  rfl
 rw[xw e]
 have e2:=congrArg List.reverse (PySem.W.krv_all items)
 rw[← List.filterMap_reverse,← PySem.W.krv_range,List.filterMap_map] at e2
 rw[← e2];rfl
theorem v4{t sl:Addr}{items:Array Value}{vl vu vs:Value}{lo hi st:Option Int}{ys:List Value}{Q:Value→Shared→Prop}(ht:IsTup s.heap t items)(hs:s.heap.IsSliceOf sl vl vu vs)
 (pl:IsPart vl lo) (pu:IsPart vu hi) (ps:IsPart vs st)
 (hy:(st=none∧ys=(items.toList.drop (lo.elim 0 (clipAt items.size))).take (hi.elim items.size (clipAt items.size) - lo.elim 0 (clipAt items.size)))∨(st=some (-1)∧lo=none∧hi=none∧ys=items.toList.reverse))
 (h1:ys=items.toList→Q (.ref t) s)
 (h:Q (.ref s.heap.objs.size) { s with heap:=s.heap.push { cls:=.type "tuple",data:=.seq ys.toArray } })
 (hsz:items.size≤sizeLine):wpAny (model prog w) A (getItem (.ref t) (.ref sl)) Q E s:=by
 have h0:¬ ((st.getD 1 == 0)=true):=by rcases hy with ⟨rfl,_⟩ | ⟨rfl,_⟩ <;> decide
 have facts:∃ (a c:Int) (p:Nat),((Builtin.Slice.sliceAdjust lo hi (st.getD 1) (items.size:Int)).1,st.getD 1,Builtin.Slice.slicePlaces (Builtin.Slice.sliceAdjust lo hi (st.getD 1) (items.size:Int)).1 (Builtin.Slice.sliceAdjust lo hi (st.getD 1) (items.size:Int)).2 (st.getD 1))=(a,c,p) ∧
  ((a == 0 && c == 1 && p == items.size)=true→ys=items.toList)∧((List.range p).filterMap fun (j:Nat)=>items[(a+(j:Int) * c).toNat]?).toArray=ys.toArray∧ys.length≤items.size:=by
  rcases hy with ⟨rfl,rfl⟩ | ⟨rfl,rfl,rfl,rfl⟩
  ·generalize hl:lo.elim 0 (clipAt items.size)=l
   generalize hh:hi.elim items.size (clipAt items.size)=k
   refine⟨l,1,k - l,?_,fun hw=>?_,zkf items l (k - l),?_⟩
   ·show ((Builtin.Slice.sliceAdjust lo hi 1 (items.size:Int)).1,(1:Int),Builtin.Slice.slicePlaces (Builtin.Slice.sliceAdjust lo hi 1 (items.size:Int)).1 (Builtin.Slice.sliceAdjust lo hi 1 (items.size:Int)).2 1)=_
    rw[zg2,hl,hh,zf1]
   ·simp only[Bool.and_eq_true,beq_iff_eq] at hw
    have e0:=Int.ofNat_eq_zero.mp hw.1.1
    subst e0
    rw[hw.2,List.drop_zero,List.take_of_length_le (Nat.le_of_eq Array.length_toList)]
   ·exact Nat.le_trans (List.length_take_le' _ _) (Nat.le_trans (Nat.le_of_eq List.length_drop) (Nat.le_trans (Nat.sub_le _ _) (Nat.le_of_eq Array.length_toList)))
  ·refine⟨(items.size:Int) - 1,-1,items.size,?_,fun hw=>?_,zjn items,Nat.le_of_eq (by rw[List.length_reverse,Array.length_toList])⟩
   ·show ((items.size:Int) - 1,(-1:Int),Builtin.Slice.slicePlaces ((items.size:Int) - 1) (-1) (-1))=_
    have ep:Builtin.Slice.slicePlaces ((items.size:Int) - 1) (-1) (-1)=items.size:=by
     unfold Builtin.Slice.slicePlaces
     rw[if_neg (by decide)]
     split
     ·simp
     ·omega
    rw[ep]
   ·rw[show ((-1:Int) == 1)=false from rfl,Bool.and_false,Bool.false_and] at hw;cases hw
 obtain⟨a,c,p,e1,e2,e3,e4⟩:=facts
 clear hy
 have hok:sizeOk (.seq ys.toArray):=Nat.le_trans (Nat.le_of_eq List.size_toArray) (Nat.le_trans e4 hsz)
 have hT:=ht.typeIs
 have hTs:s.TypeIs (.ref sl) "slice":=let ⟨os,hos,hcs,_⟩:=hs;⟨os,hos,hcs⟩
 unfold getItem
 try with_reducible refine wpAny_holding ?_
 first | refine wpAny_bind (wpAny_pure ?_) | skip
 refine wpAny_bind (wpAny_sequenceKey hT (by decide) ?_)
 refine wpAny_bind (wpAny_callSpecial?_slot (name:=Str.ofString "__getitem__") hT slot_tuple_getitem
  (wpAny_call_entry slot_tuple_getitem hT entry_tuple_getitem ?_ (args_tuple_getitem _ _)))
 show wpAny _ _ (Builtin.Tuple.tupleItemsOf (.ref t) >>= _) _ _ s
 refine wpAny_bind (tupleItemsOf_ ht (wpAny_bind (wpAny_typeOf hTs (wpAny_ite_true rfl (wpAny_bind (zbl hs pl pu ps h0 e1 ?_))))))
 refine wpAny_ite_split (fun hw=>?_) fun _=>?_
 ·refine wpAny_bind (m:=Builtin.Tuple.tupleIsExact (.ref t)) (wpAny_bind (wpAny_typeOf hT (wpAny_pure (wpAny_ite_true rfl (wpAny_bind (wpAny_rule ?_))))))
  exact wpAny_pure ⟨_,rfl,wpAny_pure (h1 (e2 hw))⟩
 ·dsimp only
  rw[e3]
  exact wpAny_bind (m:=Builtin.Tuple.tupleExact _) (wpAny_newObj_type (wpAny_pure ⟨_,rfl,wpAny_pure h⟩) hok)
end
theorem jt{e:Expr}(h:∀ l u t p,e≠.Slice l u t p)(o i:Value):subscripted e false o i=operate [o,i] (getItem o i):=by
 cases e <;> first | rfl | exact absurd rfl (h _ _ _ _)
section
variable{G:Gl}{F:Fm}{A:Around}{s:Shared}{β:List Addr}{ρ:Loc}{O:za}
theorem znk{a k z:PyData}(h:idxD a k=some z):(∃ i,k=.int i)∧((∃ xs,a=.list xs)∨∃ xs,a=.tuple xs):=by
 cases a <;> first | (cases h;done) | skip
 ·cases k <;> first | (cases h;done) | exact⟨⟨_,rfl⟩,.inl ⟨_,rfl⟩⟩
 ·cases k <;> first | (cases h;done) | exact⟨⟨_,rfl⟩,.inr ⟨_,rfl⟩⟩
set_option tactic.hygienic true in
theorem zq7{value slice:Expr}{v u:Value}{x y:V}{k:Nat}(ro:Room A k)(hs:∀ l u t p,slice≠.Slice l u t p)(sr:SR G F β ρ O s.heap)(rv:VR G F.B β s.heap v x)(ru:VR G F.B β s.heap u y) :
 Does G F A s β (subscriptTail value slice v u) ((idxV x y O).lift ρ) (VRel G F):=by
 cases y <;> first | trivial | skip
 rename_i k'
 unfold idxV
 cases h1:look O x with
 | none=>trivial
 | some a=>
   show DoesW G F s β _ ((opt ((idxD a k').map V.d) O).lift ρ) _
   cases h3:idxD a k' with
   | none=>trivial
   | some z=>
     obtain⟨⟨i,rfl⟩,hx⟩:=znk h3
     obtain⟨t,rfl⟩:=ru.int_inv
     rcases hx with ⟨xs,rfl⟩ | ⟨xs,rfl⟩
     ·obtain⟨b,rfl,l⟩:=z8 sr rv h1
      exact Does.leaf sr fun Q E q=>zit l h3 (jt hs _ _) fun v rv=>q _ _ (KeepsAll.refl s) rv
     ·rw[z9 h1 fun _ e=>nomatch e] at rv
      exact Does.leaf sr fun Q E q=>zfl rv h3 (jt hs _ _) fun v rv=>q _ _ (KeepsAll.refl s) rv
theorem ztc{x y:Expr}{p:Pos}{ra:R za V}{rb:za→R za V}{k:Nat}(ro:Room A k)(hs:∀ l u t p,y≠.Slice l u t p)
 (h1:Does G F A s β (eval x F.env) (ra.lift ρ) (VRel G F)) (h2:∀ s' β' O',SR G F β' ρ O' s'.heap→Does G F A s' β' (eval y F.env) ((rb O').lift ρ) (VRel G F)) :
 Does G F A s β (eval (.Subscript x y p) F.env) ((ra.bind fun v O=>(rb O).bind fun u O=>idxV v u O).lift ρ) (VRel G F):=by
 refine DoesW.seqE (T₂:=fun a Q E s₁=>wpAny (model G.prog G.w) A (eval y F.env) (fun b s₂=>wpAny (model G.prog G.w) A (subscriptTail x y a b) Q E s₂) E s₁) (fun Q E h=>Subscript_ h) h1 fun s' β' v d O' e st sr rv=>?_
 refine DoesW.seqE (T₁:=tr G A (eval y F.env)) (T₂:=fun b=>tr G A (subscriptTail x y v b)) (fun Q E h=>h) (h2 s' β' O' sr) fun s₂ β₂ u d₂ O₂ e₂ st₂ sr₂ ru=>?_
 exact zq7 ro hs sr₂ (rv.step sr.br sr.fm st₂) ru
theorem part_of{N:List Addr}{h:Heap}{v:Value}{l:PyData}{n dflt c:Nat}(r:VR G N β h v (.d l))(e:clip n dflt l=some c):∃ k,IsPart v k∧c=k.elim dflt (clipAt n):=by
 cases l with
 | none=>have:=r.none_inv;subst this;cases e;exact⟨none,.none,rfl⟩
 | int i=>obtain⟨t,rfl⟩:=r.int_inv;cases e;exact⟨some i,.int i t,rfl⟩
 | _=>cases e
theorem zig{value:Expr}{lo hi st:Option Expr}{ps:Pos}{vl vu vk:Value}{D:Addr}{o:Obj}{vs:Array Value}{n:Nat}{klo khi kst:Option Int}{ys:List PyData}{bs:List Addr}{ops:List Value}(sr:SR G F β ρ O s.heap)
 (e1:s.heap.get? D=some o) (e2:o.cls=.type "list") (e3:o.data=.seq vs n) (hops:subscripted (.Slice lo hi st ps) false (.ref D) (.ref s.heap.objs.size)=operate ops (getItem (.ref D) (.ref s.heap.objs.size)))
 (hl:vs.size≤sizeLine) (pl:IsPart vl klo) (pu:IsPart vu khi) (pk:IsPart vk kst) (h0:kst≠some 0) (r2:ReadsAll s.heap (slicePick vs klo khi kst).toList ys bs) (q2:∀ a∈bs,a∉β∧a∉F.B) :
 DoesW G F s β (fun Q E s=>wpAny (model G.prog G.w) A (subscriptTail value (.Slice lo hi st ps) (.ref D) (.ref s.heap.objs.size)) Q E { s with heap:=s.heap.push { cls:=.type "slice",data:=.fields #[vl,vu,vk] } }) (.ok (V.d (.list ys)) (ρ,O)) (VRel G F):=by
 refine Does.leaf sr fun Q E q=>?_
 refine tail_any (T:="list") ⟨o,Heap.get?_push_of_some _ e1,e2⟩ slot_list_getitem.lookup ?_ hops
 refine wpAny_getItem_list_slice (lo:=klo) (hi:=khi) (st:=kst) ⟨o,Heap.get?_push_of_some _ e1,e2,n,e3⟩ (Heap.IsSliceOf.new ..) pl pu pk h0 ?_ hl
 generalize ho1:({ cls:=.type "slice",data:=.fields #[vl,vu,vk] }:Obj)=o1
 have kp2:KeepsAll s { s with heap:=(s.heap.push o1).push { cls:=.type "list",data:=.seq (slicePick vs klo khi kst) } }:=⟨rfl,rfl,fun b o e=>Heap.get?_push_of_some _ (Heap.get?_push_of_some _ e)⟩
 have nD:s.heap.get? (s.heap.push o1).objs.size=none:=by
  cases e:s.heap.get? (s.heap.push o1).objs.size with
  | none=>rfl
  | some o=>exact absurd (Heap.lt_size e) (by rw[Heap.size_push];exact Nat.not_lt.mpr (Nat.le_succ _))
 refine q _ _ kp2 (xl (Heap.get?_push_size _ rfl) rfl rfl (zt kp2.kept r2) q2 ⟨fun hb=>?_,fun hb=>?_⟩)
 ·obtain⟨o,e,_⟩:=sr.br.alive _ hb;rw[e] at nD;cases nD
 ·obtain⟨o,e,_⟩:=sr.fm.stor _ hb;rw[e] at nD;cases nD
theorem kx{f:List PyData→Option PyData}{x y:PyData}(h:ofList f x=some y):∃ xs,x=.list xs∧f xs=some y:=by
 cases x <;> first | (cases h;done) | exact⟨_,rfl,h⟩
inductive zog(xs:List PyData)(l h y:PyData):Prop
 | mk (a b:Nat) (hl:xs.length≤line) (h1:clip xs.length 0 l=some a) (h2:clip xs.length xs.length h=some b) (e:y=.list (ui xs a b))
theorem zd3{xs:List PyData}{l h y:PyData}(e:vb xs l h=some y):zog xs l h y:=by
 unfold vb at e
 by_cases hl:xs.length≤line
 ·rw[if_pos hl] at e
  obtain⟨a,h1,e⟩:=Option.bind_eq_some_iff.mp e
  obtain⟨b,h2,e⟩:=Option.map_eq_some_iff.mp e
  exact⟨a,b,hl,h1,h2,e.symm⟩
 ·rw[if_neg hl] at e;cases e
theorem zlx{value:Expr}{lo hi:Option Expr}{ps:Pos}{v vl vu:Value}{x:V}{l h:PyData}(sr:SR G F β ρ O s.heap)(rv:VR G F.B β s.heap v x)(rl:VR G F.B β s.heap vl (.d l))(rh:VR G F.B β s.heap vu (.d h)) :
 DoesW G F s β (fun Q E s=>wpAny (model G.prog G.w) A (subscriptTail value (.Slice lo hi none ps) v (.ref s.heap.objs.size)) Q E { s with heap:=s.heap.push { cls:=.type "slice",data:=.fields #[vl,vu,.none] } })
  ((opt (((look O x).bind fun x=>zc1 x l h).map V.d) O).lift ρ) (VRel G F):=by
 cases h3:(look O x).bind fun x=>zc1 x l h with
 | none=>trivial
 | some c=>
   obtain⟨a,h1,h3⟩:=Option.bind_eq_some_iff.mp h3
   obtain⟨xs,rfl,h4⟩:=kx (f:=fun xs=>vb xs l h) h3
   obtain⟨a,b,hl,hc1,hc2,rfl⟩:=zd3 h4
   obtain⟨D,rfl,o,vs,n,e1,e2,e3,as,r1,q1⟩:=z8 sr rv h1
   have hsz:vs.size=xs.length:=by rw[← zd r1,Array.length_toList]
   obtain⟨klo,pl,rfl⟩:=part_of rl hc1
   obtain⟨khi,pu,rfl⟩:=part_of rh hc2
   obtain⟨b1,s1,t1⟩:=wa r1 q1 (klo.elim 0 (clipAt xs.length))
   obtain⟨b2,s2,t2⟩:=v8 s1 t1 (khi.elim xs.length (clipAt xs.length) - klo.elim 0 (clipAt xs.length))
   exact zig sr e1 e2 e3 rfl (by rw[hsz];exact Nat.le_trans hl (by decide)) pl pu .none (by decide) (by rw[slicePick_plain,hsz];exact s2) t2
end
theorem zf6{names:List Str}:∀ {vals:List Value},vals.length=names.length→∀ n∈names,((names.zip vals).lookup n).isSome=true:=by
 induction names with
 | nil=>intro _ _ n hn;cases hn
 | cons x names ih=>
   intro vals hl n hn
   cases vals with
   | nil=>simp at hl
   | cons v vals=>
     rw[List.zip_cons_cons,List.lookup_cons]
     cases h:n == x with
     | true=>rfl
     | false=>
       rcases List.mem_cons.mp hn with rfl | hn
       ·rw[beq_self_eq_true] at h;cases h
       ·exact ih (by simpa using hl) n hn
theorem zbp{names:List Str}:∀ {vals:List Value},vals.length=names.length→names.Nodup→names.filterMap (fun n=>((names.zip vals).lookup n).map fun v=>(n,v))=names.zip vals:=by
 induction names with
 | nil=>intro _ _ _;rfl
 | cons x names ih=>
   intro vals hl hn
   cases vals with
   | nil=>simp at hl
   | cons v vals=>
     obtain⟨h1,h2⟩:=List.nodup_cons.mp hn
     rw[List.zip_cons_cons,List.filterMap_cons]
     have e:((x,v)::names.zip vals).lookup x=some v:=by rw[List.lookup_cons,beq_self_eq_true]
     have tl:names.filterMap (fun n=>(((x,v)::names.zip vals).lookup n).map fun v=>(n,v))=names.zip vals:=by
      have e':=ih (vals:=vals) (by simpa using hl) h2
      refine Eq.trans (xw fun n hn'=>?_) e'
      have:(n == x)=false:=by rw[beq_eq_false_iff_ne];rintro rfl;exact h1 hn'
      rw[List.lookup_cons,this]
     rw[e,tl];rfl
theorem zl7{fd:FuncData}{as:List Arg}{kd:List (Option Expr)}{ds:List Expr}{vals:List Value}(hp:fd.params=⟨[],as,none,[],kd,none,ds⟩)(hd:fd.defaults=.none) :
 ∃ (T1 T2:Sem (List (Str×Value))) (f:Str×Value→List (Str×Value)→Sem (ForInStep (List (Str×Value)))) (K:List (Str×Value)→Sem (List (Str×Value))),
  bindArgs fd ⟨vals,[]⟩=(if (decide (vals.length > (as.map Arg.arg).length) && true)=true then T1 else
   if (!(((as.map Arg.arg).take ((as.map Arg.arg).length - (([]:List Value).drop (0 - (as.map Arg.arg).length)).length)).filter fun n=>(((as.map Arg.arg).zip vals).lookup n).isNone).isEmpty)=true then T2 else
    (forIn (((as.map Arg.arg).drop ((as.map Arg.arg).length - (([]:List Value).drop (0 - (as.map Arg.arg).length)).length)).zip (([]:List Value).drop (0 - (as.map Arg.arg).length))) ((as.map Arg.arg).zip vals) f >>= K)) ∧
  K ((as.map Arg.arg).zip vals)=pure (((as.map Arg.arg)++[]).filterMap fun n=>(((as.map Arg.arg).zip vals).lookup n).map fun v=>(n,v)):=by
 unfold bindArgs
 rw[hp,hd]
 exact⟨_,_,_,_,rfl,rfl⟩
theorem q9{fd:FuncData}{names:List Str}{vals:List Value}(h1:fd.params.posonlyargs=[])(h2:fd.params.vararg=none)(h3:fd.params.kwonlyargs=[])(h4:fd.params.kwarg=none)
 (ha:fd.params.args.map (·.arg)=names) (hl:vals.length=names.length) (hn:names.Nodup) (hd:fd.defaults=.none):bindArgs fd ⟨vals,[]⟩=pure (names.zip vals):=by
 have hm:∀ k,((names.take k).filter fun n=>((names.zip vals).lookup n).isNone)=[]:=fun k=>by
  rw[List.filter_eq_nil_iff]
  intro n hn h
  rw[Option.isNone_iff_eq_none] at h
  have:=zf6 hl n (List.mem_of_mem_take hn)
  rw[h] at this;cases this
 cases hp:fd.params with
 | mk p1 p2 p3 p4 p5 p6 p7=>
   rw[hp] at h1 h2 h3 h4 ha
   subst h1;subst h2;subst h3;subst h4;subst ha
   obtain⟨T1,T2,f,K,e,k⟩:=zl7 (vals:=vals) hp hd
   rw[e,if_neg (by rw[hl];simp),hm,if_neg (by decide),List.drop_nil,List.zip_nil_right,List.forIn_nil,pure_bind,k,List.append_nil,zbp hl hn]
section
variable{G:Gl}{F:Fm}{A:Around}{s:Shared}{β:List Addr}{ρ:Loc}{O:za}{cx:Cx}{gval:Nat→Option PyData}{gname:Nat→Option Str}
theorem zex(sr:SR G F β ρ O s.heap):Does G F A s β (evalPart none F.env) ((R.ok (V.d .none) O).lift ρ) (VRel G F):=
 Does.leaf sr fun Q E q=>wpAny_pure (q _ _ (KeepsAll.refl s) VR.none)
theorem zn4{x:Expr}{lo hi:Option Expr}{ps p:Pos}{ra:R za V}{rl rh:za→R za V}
 (h1:Does G F A s β (eval x F.env) (ra.lift ρ) (VRel G F)) (h2:∀ s' β' O',SR G F β' ρ O' s'.heap→Does G F A s' β' (evalPart lo F.env) ((rl O').lift ρ) (VRel G F))
 (h3:∀ s' β' O',SR G F β' ρ O' s'.heap→Does G F A s' β' (evalPart hi F.env) ((rh O').lift ρ) (VRel G F)) :
 Does G F A s β (eval (.Subscript x (.Slice lo hi none ps) p) F.env) ((ra.bind fun v O=>(rl O).bind fun l O=>(rh O).bind fun h O=>zc0 v l h O).lift ρ) (VRel G F):=by
 refine DoesW.seqE (T₂:=fun a Q E s₁=>wpAny (model G.prog G.w) A (evalPart lo F.env) (fun l s₂=>wpAny (model G.prog G.w) A (evalPart hi F.env) (fun u s₃=>
  wpAny (model G.prog G.w) A (subscriptTail x (.Slice lo hi none ps) a (.ref s₃.heap.objs.size)) Q E { s₃ with heap:=s₃.heap.push { cls:=.type "slice",data:=.fields #[l,u,.none] } }) E s₂) E s₁)
  (fun Q E h=>Subscript_ (wpAny_mono h (fun a s₁ h=>wpAny_Slice (wpAny_mono h (fun l s₂ h=>wpAny_mono h (fun u s₃ h=>wpAny_pure h) fun _ _ x=>x) fun _ _ x=>x)) fun _ _ x=>x)) h1 fun s' β' v d O' e st' sr rv=>?_
 refine DoesW.seqE (T₁:=tr G A (evalPart lo F.env)) (T₂:=fun l Q E s₂=>wpAny (model G.prog G.w) A (evalPart hi F.env) (fun u s₃=>
  wpAny (model G.prog G.w) A (subscriptTail x (.Slice lo hi none ps) v (.ref s₃.heap.objs.size)) Q E { s₃ with heap:=s₃.heap.push { cls:=.type "slice",data:=.fields #[l,u,.none] } }) E s₂) (fun Q E h=>h) (h2 s' β' O' sr) fun s₂ β₂ vl dl O₂ e₂ st₂ sr₂ rvl=>?_
 refine DoesW.seqE (T₁:=tr G A (evalPart hi F.env)) (T₂:=fun u Q E s₃=>
  wpAny (model G.prog G.w) A (subscriptTail x (.Slice lo hi none ps) v (.ref s₃.heap.objs.size)) Q E { s₃ with heap:=s₃.heap.push { cls:=.type "slice",data:=.fields #[vl,u,.none] } }) (fun Q E h=>h) (h3 s₂ β₂ O₂ sr₂) fun s₃ β₃ vh dh O₃ e₃ st₃ sr₃ rvh=>?_
 cases dl <;> first | trivial | skip
 cases dh <;> first | trivial | skip
 exact zlx sr₃ (rv.step sr.br sr.fm (st₂.trans st₃)) (rvl.step sr₂.br sr₂.fm st₃) rvh
structure FnAt(G:Gl)(x:Str)(a:Addr)(o:Obj)(fd:FuncData):Prop where
 name:G.mg x=some (.ref a)
 get:G.h₀.get? a=some o
 data:o.data=.func fd
noncomputable def FrA(A:Around)(F:Fm):Prop:=∃ l,A.frames=some l∧∀ env∈l,env.scope.kind≠.module∧∃ L,env.frame=some L∧L∈F.fr
noncomputable def u8(G:Gl)(A:Around)(fname:Nat→Option Str)(call:Nat→List V→za→R za V):Prop:=
 ∀ (F:Fm) (s:Shared) (β:List Addr) (ρ:Loc) (O:za) (f:Nat) (x:Str) (vals:List Value) (vs:List V),SR G F β ρ O s.heap→FrA A F→fname f=some x→VRs G F.B β s.heap vals vs →
  ∃ a o fd,FnAt G x a o fd∧Does G F A s β (PySem.call (.ref a) vals) ((call f vs O).lift ρ) (VRel G F)
theorem zre{f:Nat}{x:Str}{e:Expr}{rest:List Expr}{p q:Pos}{r:R za (List V)}{call:Nat→List V→za→R za V}{fname:Nat→Option Str}(g:GOk G gval gname)(ck:u8 G A fname call)(fr:FrA A F)(sr:SR G F β ρ O s.heap)(fit:Fits F cx)
 (hf:fname f=some x) (hx:cx.isGlob x=true) (he:starEach (e::rest) F.env=(false,eval e F.env)::starEach rest F.env)
 (h1:Does G F A s β (spliced (backTo q (starEach (e::rest) F.env))) (r.lift ρ) (VRsl G F)) :
 Does G F A s β (eval (.Call (.Name x p) (e::rest) [] q) F.env) ((r.bind fun vs O=>call f vs O).lift ρ) (VRel G F):=by
 obtain⟨a,o,fd,fa,_⟩:=ck F s β ρ O f x [] [] sr fr hf .nil
 refine DoesW.seqE (T₂:=fun vs Q E s₁=>s₁.heap.get? a=some o∧wpAny (model G.prog G.w) A (PySem.call (.ref a) vs) Q E s₁) (fun Q E h=>Call_Name rfl (zch g sr fit hx fa.name (callWith_def fa.data h he))) h1 fun s' β' vals vs O' _ st sr' rvs=>?_
 obtain⟨a',o',fd',fa',dd⟩:=ck F s' β' ρ O' f x vals vs sr' fr hf rvs
 have:a'=a:=by have h1:=fa.name;have h2:=fa'.name;rw[h1] at h2;cases h2;rfl
 subst this
 exact dd.weaken (fun Q E h=>⟨sr'.br.keep _ _ fa.get,h⟩) fun _ _ _ _ h=>h
end
section
variable{G:Gl}{F:Fm}{A:Around}{s:Shared}{β:List Addr}{ρ:Loc}{O:za}
theorem d8{a:Addr}{s':Shared}{o':Obj}(sr:SR G F β ρ O s.heap)(ha:a∈F.W)(hg:s'.gens=s.gens)(ho:s'.os=s.os)(hs:Heap.SameBut a s.heap s'.heap)(hn:s'.heap.get? a=some o'):Step F.W β s s' β where
 gens:=hg
 os:=ho
 pre:=List.prefix_refl _
 fresh:=fun _ h=>.inl h
 alive:=fun b o e=>by
  by_cases hb:b=a
  ·subst hb;exact⟨o',hn⟩
  ·exact⟨o,(hs.2 b hb).trans e⟩
 kept:=fun b o e _ hW=>⟨o,(hs.2 b (fun h=>hW (h ▸ ha))).trans e,Kin.refl o⟩
theorem BR.write{a:Addr}{s':Shared}(sr:SR G F β ρ O s.heap)(ha:a∈F.W)(hs:Heap.SameBut a s.heap s'.heap)(st:Step F.W β s s' β):BR G F.B β O s'.heap:=by
 have aB:a∈F.B:=sr.fm.sub _ ha
 refine⟨fun c o e=>?_,sr.br.len,sr.br.nodup,sr.br.new,fun i b bx h1 h2=>?_,fun b hb=>(sr.br.plain b hb).at fun o e=>(hs.2 b fun h=>sr.fm.notBox _ aB (h ▸ hb)).trans e⟩
 ·refine (hs.2 c fun h=>?_).trans (sr.br.keep c o e)
  have:=sr.fm.newW ha;rw[← h,e] at this;cases this
 ·have hb:=sr.br.at_ i b bx h1 h2
  have hne:b≠a:=fun h=>sr.fm.notBox _ aB (h ▸ List.mem_of_getElem? h1)
  cases bx with
  | lst xs=>
    obtain⟨o,vs,n,e1,e2,e3,as,e4,e5⟩:=hb
    exact⟨o,vs,n,(hs.2 b hne).trans e1,e2,e3,as,(zy sr.br sr.fm st e4 e5).1,e5⟩
theorem dg{ρ:Loc}{i j:Nat}{d u:V}(h:(ρ.set i (some d))[j]?=some (some u)):(j=i∧u=d)∨(j≠i∧ρ[j]?=some (some u)):=by
 rw[List.getElem?_set] at h
 by_cases hij:i=j
 ·subst hij
  rw[if_pos rfl] at h
  split at h
  ·cases h;exact .inl ⟨rfl,rfl⟩
  ·cases h
 ·rw[if_neg hij] at h;exact .inr ⟨fun e=>hij e.symm,h⟩
theorem zh1{i:Nat}{x:Str}{v:Value}{d:V}(sr:SR G F β ρ O s.heap)(hx:F.names[i]?=some (some x))(hk:F.env.kindOf x=some .local∨F.env.kindOf x=some .cell)(own:F.own x=true)(rv:VR G F.B β s.heap v d) :
 Does G F A s β (storeName F.env x v) (.ok () (ρ.set i (some d),O)) (fun _ _ _ _=>True):=by
 intro Q E k
 obtain⟨m,hm⟩:=sr.fm.ns
 rcases hk with hk | hk
 ·refine wpAny_storeName_local hk hm (fun h' hn hs=>?_) (by show (F.env.scope.kind == .class || _)=false;rw[sr.fm.kind];rfl)
  obtain⟨o',es',ep',ho',hd',_⟩:=id hn
  have st:Step F.W β s { s with heap:=h',toks:=s.toks+1 } β:=d8 sr sr.fm.nsW rfl rfl hs ho'
  refine k _ β () st ⟨BR.write (s':={ s with heap:=h',toks:=s.toks+1 }) sr sr.fm.nsW hs st,⟨sr.fm.kind,sr.fm.globals,sr.fm.builtins,sr.fm.once,⟨_,hn⟩,sr.fm.nsW,fun y h1=>?_,sr.fm.apart,sr.fm.sub,sr.fm.new,sr.fm.notBox,fun a ha=>?_,sr.fm.frB,fun a ha=>?_,fun m e=>absurd own (by rw[(sr.fm.pin m e).2 x];exact Bool.false_ne_true)⟩,fun j y u h1 h2=>?_⟩ trivial
  ·obtain⟨c,w,h3,⟨o,h4,h4'⟩,h5⟩:=sr.fm.cell y h1
   refine⟨c,w,h3,⟨o,(hs.2 c fun h=>?_).trans h4,h4'⟩,h5⟩
   obtain⟨o2,es,ep,q1,q2,_⟩:=hm
   rw[h] at h4;rw[h4] at q1;cases q1;rw[h4'] at q2;cases q2
  ·obtain⟨o,h1,h2⟩:=sr.fm.stor a ha
   by_cases hb:a=F.env.locals
   ·subst hb;exact⟨o',ho',fun vs n hv=>by rw[hd'] at hv;cases hv⟩
   ·exact⟨o,(hs.2 a hb).trans h1,h2⟩
  ·obtain⟨m',hm'⟩:=sr.fm.frs a ha
   by_cases hb:a=F.env.locals
   ·subst hb;exact⟨_,hn⟩
   ·exact⟨m',hm'.sameBut hs hb⟩
  ·rcases dg h2 with ⟨rfl,rfl⟩ | ⟨hj,h2⟩
   ·rw[hx] at h1;cases h1
    exact⟨v,.inl ⟨hk,_,hn,by simp⟩,rv.step sr.br sr.fm st⟩
   ·obtain⟨val,g,r⟩:=sr.get j y u h1 h2
    have hyx:y≠x:=fun e=>hj (sr.fm.once j i x (e ▸ h1) hx)
    refine⟨val,?_,r.step sr.br sr.fm st⟩
    rcases g with ⟨g1,m',g2,g3⟩ | ⟨g1,c,g2,o,g3,g4⟩
    ·rw[un g2 hm] at g3
     exact .inl ⟨g1,_,hn,by simp[hyx,g3]⟩
    ·refine .inr ⟨g1,c,g2,o,(hs.2 c fun h=>?_).trans g3,g4⟩
     obtain⟨o2,es,ep,q1,q2,_⟩:=hm
     rw[h] at g3;rw[g3] at q1;cases q1;rw[g4] at q2;cases q2
 ·obtain⟨c,w,hc,hcell,hcB,hcW⟩:=sr.fm.cell x hk
  have hcW:=hcW own
  refine wpAny_storeName_cell sr.fm.kind hk hc hcell fun h' hcell' hs=>?_
  obtain⟨o',ho',hd'⟩:=id hcell'
  have st:Step F.W β s { s with heap:=h' } β:=d8 sr hcW rfl rfl hs ho'
  have hcL:F.env.locals≠c:=fun h=>by
   obtain⟨o2,es,ep,q1,q2,_⟩:=hm
   obtain⟨o3,q3,q4⟩:=hcell
   rw[← h,q1] at q3;cases q3;rw[q2] at q4;cases q4
  have hn':h'.Ns F.env.locals m:=hm.sameBut hs hcL
  refine k _ β () st ⟨BR.write (s':={ s with heap:=h' }) sr hcW hs st,⟨sr.fm.kind,sr.fm.globals,sr.fm.builtins,sr.fm.once,⟨m,hn'⟩,sr.fm.nsW,fun y h1=>?_,sr.fm.apart,sr.fm.sub,sr.fm.new,sr.fm.notBox,fun a ha=>?_,sr.fm.frB,fun a ha=>?_,fun m e=>absurd own (by rw[(sr.fm.pin m e).2 x];exact Bool.false_ne_true)⟩,fun j y u h1 h2=>?_⟩ trivial
  ·obtain⟨c',w',h3,h4,h5⟩:=sr.fm.cell y h1
   by_cases hcc:c'=c
   ·subst hcc;exact⟨c',_,h3,hcell',h5⟩
   ·exact⟨c',w',h3,h4.sameBut hs hcc,h5⟩
  ·obtain⟨o,h1,h2⟩:=sr.fm.stor a ha
   by_cases hb:a=c
   ·subst hb;exact⟨o',ho',fun vs n hv=>by rw[hd'] at hv;cases hv⟩
   ·exact⟨o,(hs.2 a hb).trans h1,h2⟩
  ·obtain⟨m',hm'⟩:=sr.fm.frs a ha
   refine⟨m',hm'.sameBut hs fun h=>?_⟩
   subst h
   obtain⟨o2,es,ep,q1,q2,_⟩:=hm'
   obtain⟨o3,q3,q4⟩:=hcell
   rw[q1] at q3;cases q3;rw[q2] at q4;cases q4
  ·rcases dg h2 with ⟨rfl,rfl⟩ | ⟨hj,h2⟩
   ·rw[hx] at h1;cases h1
    exact⟨v,.inr ⟨hk,c,hc,hcell'⟩,rv.step sr.br sr.fm st⟩
   ·obtain⟨val,g,r⟩:=sr.get j y u h1 h2
    have hyx:y≠x:=fun e=>hj (sr.fm.once j i x (e ▸ h1) hx)
    refine⟨val,?_,r.step sr.br sr.fm st⟩
    rcases g with ⟨g1,m',g2,g3⟩ | ⟨g1,c',g2,g3⟩
    ·exact .inl ⟨g1,m',g2.sameBut hs hcL,g3⟩
    ·refine .inr ⟨g1,c',g2,g3.sameBut hs fun h=>?_⟩
     subst h
     exact hyx (sr.fm.apart _ _ _ g2 hc)
end
theorem zcb{s:Shared}{h':Heap}(he:Heap.ExtBut s.heap.objs.size s.heap h'):KeepsAll s { s with heap:=h' }:=
 ⟨rfl,rfl,fun b o e=>he b o (Nat.ne_of_lt (Heap.lt_size e)) e⟩
noncomputable def bindR(c:CT)(d:V)(S:Loc×za):R (Loc×za) Unit:=match zp c d S.1 with
 | some ρ'=>.ok () (ρ',S.2)
 | none=>.stuck
section
variable{G:Gl}{F:Fm}{A:Around}{cx:Cx}{own:Str→Bool}
theorem ju(fit:Fits F cx){i:Nat}{x:Str}(h:cx.isLoc i x=true):F.names[i]?=some (some x)∧(F.env.kindOf x=some .local∨F.env.kindOf x=some .cell):=by
 obtain⟨h1,h2,_⟩:=gw h
 exact⟨by rw[fit.names];exact h1,by rw[fit.kind];exact h2⟩
theorem u4{i:Nat}{e:Expr}(h:chkT cx own (.name i) e=true):∃ x p,e=.Name x p∧cx.isLoc i x=true∧own x=true:=by
 cases e with
 | Name x p=>obtain⟨h1,h2⟩:=and2 h;exact⟨x,p,rfl,h1,h2⟩
 | _=>exact (Bool.false_ne_true h).elim
theorem ze2{a b:CT}{e:Expr}(h:chkT cx own (.two a b) e=true):∃ x y k p,e=.Tuple [x,y] k p∧chkT cx own a x=true∧chkT cx own b y=true:=by
 cases e with
 | Tuple l k p=>
   match l,h with
   | [x,y],h=>obtain⟨h1,h2⟩:=and2 h;exact⟨x,y,k,p,rfl,h1,h2⟩
   | [],h=>exact (Bool.false_ne_true h).elim
   | [_],h=>exact (Bool.false_ne_true h).elim
   | _::_::_::_,h=>exact (Bool.false_ne_true h).elim
 | _=>exact (Bool.false_ne_true h).elim
theorem jh{c:CT}{e:Expr}(h:chkT cx own c e=true)(env:Env)(rest:List Expr):assignEach (e::rest) env=(false,assign e env)::assignEach rest env:=by
 cases c with
 | name i=>obtain⟨_,_,rfl,_⟩:=u4 h;rfl
 | two a b=>obtain⟨_,_,_,_,rfl,_⟩:=ze2 h;rfl
theorem zf7{x:PyData}{xs:List PyData}{N β:List Addr}{h:Heap}{v:Value}(r:VR G N β h v (.d x))(e:items x=some xs) :
 ∃ a o vs n,v=.ref a∧h.get? a=some o∧(o.cls=.type "tuple"∨o.cls=.type "list")∧o.data=.seq vs n∧∃ as,ReadsAll h vs.toList xs as∧∀ a∈as,a∉β∧a∉N:=by
 cases x with
 | list ys=>cases e;obtain⟨a,rfl,⟨o,vs,n,h1,h2,h3,as,h4,h5⟩,_⟩:=r.list_inv;exact⟨a,o,vs,n,rfl,h1,.inr h2,h3,as,h4,h5⟩
 | tuple ys=>cases e;obtain⟨a,o,vs,n,rfl,h1,h2,h3,as,h4,h5⟩:=r.tuple_inv;exact⟨a,o,vs,n,rfl,h1,.inl h2,h3,as,h4,h5⟩
 | _=>cases e
theorem ko{M:Model}{prog:Program}{w:World}{E:Value→Shared→Prop}{s:Shared}{env:Env}{elts:List Expr}{k:Nat}{pos:Pos}{a:Addr}{o:Obj}{vs:Array Value}{n:Nat}{Q:Unit→Shared→Prop}(hh:A.handled=none)
 (h1:s.heap.get? a=some o) (h2:o.cls=.type "tuple"∨o.cls=.type "list") (h3:o.data=.seq vs n) (hn:(assignEach elts env).length=vs.size) (hstar:(assignEach elts env).findIdx? (·.1)=none)
 (h:∀ s',KeepsAll s s'→wpAny (model prog w) A (assignInOrder ((assignEach elts env).map (·.2)) vs.toList) Q E s'):wpAny (model prog w) A (assign (.Tuple elts k pos) env (.ref a)) Q E s:=by
 rw[assign_Tuple]
 refine wpAny_bind (wpAny_standAt ?_)
 unfold unpack
 rw[hn,hstar]
 rcases h2 with h2 | h2
 ·exact wpAny_bind (wpAny_holding (unpackItems_tuple hh ⟨o,h1,h2,n,h3⟩ fun h' he=>h _ (zcb he)))
 ·exact wpAny_bind (wpAny_holding (PySem.W.kun_itemsOf hh ⟨o,h1,h2,n,h3⟩ fun h' he=>h _ (zcb he)))
theorem w4{h:Heap}{P:Addr→Prop}{vs:List Value}{y z:PyData}{as:List Addr}(r:ReadsAll h vs [y,z] as)(q:∀ a∈as,P a):∃ v u bs cs,vs=[v,u]∧Reads h v y bs∧(∀ a∈bs,P a)∧Reads h u z cs∧∀ a∈cs,P a:=by
 obtain⟨v1,b1,e1,r1,q1⟩:=zv r q (i:=0) rfl
 obtain⟨v2,b2,e2,r2,q2⟩:=zv r q (i:=1) rfl
 refine⟨v1,v2,b1,b2,?_,r1,q1,r2,q2⟩
 have hl:vs.length=2:=zd r
 clear r r1 r2
 cases vs with
 | nil=>cases e1
 | cons x l=>
   cases l with
   | nil=>cases e2
   | cons y l=>rw[List.eq_nil_of_length_eq_zero (Nat.succ.inj (Nat.succ.inj hl)),Option.some.inj e1,Option.some.inj e2]
theorem DoesW.after{α δ:Type}{s s':Shared}{β:List Addr}{T:WT α}{r:R (Loc×za) δ}{Rel:List Addr→Heap→α→δ→Prop}(ka:KeepsAll s s')(h:DoesW G F s' β T r Rel):DoesW G F s β (fun Q E _=>T Q E s') r Rel:=by
 cases r with
 | stuck=>trivial
 | ok d S=>exact fun Q E k=>h Q E fun s'' β' a st sr r=>k s'' β' a ((ka.step _ _).trans st) sr r
noncomputable abbrev URel:List Addr→Heap→Unit→Unit→Prop:=fun _ _ _ _=>True
set_option tactic.hygienic true in
theorem jo(hh:A.handled=none)(fit:Fits F cx)(hown:∀ x,own x=true→F.own x=true):∀ (c:CT) {e:Expr} {s:Shared} {β:List Addr} {ρ:Loc} {O:za} {v:Value} {d:V},chkT cx own c e=true→SR G F β ρ O s.heap→VR G F.B β s.heap v d →
 Does G F A s β (assign e F.env v) (bindR c d (ρ,O)) URel:=by
 intro c
 induction c with
 | name i=>
   intro e s β ρ O v d h sr rv
   obtain⟨x,p,rfl,h1,h2⟩:=u4 h
   obtain⟨g1,g2⟩:=ju fit h1
   unfold bindR zp
   dsimp only
   split
   ·rename_i ρ' heq
    split at heq
    ·cases heq
     exact (zh1 sr g1 g2 (hown x h2) rv).weaken (fun Q E h=>wpAny_assign_Name h) fun _ _ _ _ h=>h
    ·cases heq
   ·trivial
 | two a b iha ihb=>
   intro e s β ρ O v d h sr rv
   obtain⟨x,y,k,p,rfl,h1,h2⟩:=ze2 h
   have hn:∀ (vs:Array Value),vs.size=2→(assignEach [x,y] F.env).length=vs.size:=fun vs hv=>by rw[jh h1,jh h2,hv];rfl
   have hstar:(assignEach [x,y] F.env).findIdx? (·.1)=none:=by rw[jh h1,jh h2];rfl
   have hmap:(assignEach [x,y] F.env).map (·.2)=[assign x F.env,assign y F.env]:=by rw[jh h1,jh h2];rfl
   have both:∀ (s:Shared) (v1 v2:Value) (d1 d2:V),SR G F β ρ O s.heap→VR G F.B β s.heap v1 d1→VR G F.B β s.heap v2 d2 →
    DoesW G F s β (tr G A (assignInOrder [assign x F.env,assign y F.env] [v1,v2])) (match (zp a d1 ρ).bind (zp b d2) with | some ρ'=>.ok () (ρ',O) | none=>.stuck) URel:=by
    intro s v1 v2 d1 d2 sr r1 r2
    have da:=iha h1 sr r1
    have e1:(match (zp a d1 ρ).bind (zp b d2) with | some ρ'=>R.ok () (ρ',O) | none=>.stuck)=(bindR a d1 (ρ,O)).bind fun _ S=>bindR b d2 S:=by
     unfold bindR
     cases zp a d1 ρ <;> rfl
    rw[e1]
    refine DoesW.seq (T₂:=fun _ Q E s=>wpAny (model G.prog G.w) A (assign y F.env v2) (fun _ s=>Q () s) E s) (fun Q E h=>assignInOrder_cons (wpAny_mono h (fun _ s₁ h=>assignInOrder_cons (wpAny_mono h (fun _ s₂ h=>assignInOrder_nil h) fun _ _ x=>x)) fun _ _ x=>x)) da fun s' β' _ _ S e st sr' _=>?_
    exact ihb h2 sr' (r2.step sr.br sr.fm st)
   cases d with
   | d z=>
     show DoesW G F s β _ (match (match items z with | some [y',z']=>(zp a (.d y') ρ).bind (zp b (.d z')) | _=>none) with | some ρ'=>R.ok () (ρ',O) | none=>.stuck) _
     cases hi:items z with
     | none=>trivial
     | some l=>
       match l,hi with
       | [y',z'],hi=>
         obtain ⟨ad,o,vs,n,rfl,g1,g2,g3,as,r,q⟩:=zf7 rv hi
         obtain ⟨v1,v2,bs,cs,hvs,r1,q1,r2,q2⟩:=w4 r q
         have hsz:vs.size=2:=by rw [← Array.length_toList,hvs];rfl
         have kall:∀ s',KeepsAll s s'→DoesW G F s' β (tr G A (assignInOrder [assign x F.env,assign y F.env] [v1,v2])) (match (zp a (.d y') ρ).bind (zp b (.d z')) with | some ρ'=>.ok () (ρ',O) | none=>.stuck) URel:=fun s' ka=>
          both s' v1 v2 (.d y') (.d z') (sr.keepAll ka.kept) ⟨bs,ya ka.kept r1,q1⟩ ⟨cs,ya ka.kept r2,q2⟩
         dsimp only
         cases hb:(zp a (.d y') ρ).bind (zp b (.d z')) with
         | none=>trivial
         | some ρ'=>
           intro Q E kk
           refine ko (M:=model G.prog G.w) hh g1 g2 g3 (hn vs hsz) hstar fun s' ka=>?_
           rw [hmap,hvs]
           have dd:=kall s' ka
           rw [hb] at dd
           exact dd Q E fun s'' β' u st sr'' r=>kk s'' β' u ((ka.step _ _).trans st) sr'' r
       | [],_=>trivial
       | [_],_=>trivial
       | _::_::_::_,_=>trivial
   | tm its=>trivial
   | box n=>trivial
end
noncomputable def Itr(h:Heap)(z:Addr):Prop:=∃ o T fs,h.get? z=some o∧o.cls=.type T∧o.data=.fields fs
structure KeepsZ(Z:List Addr)(s s':Shared):Prop where
 gens:s'.gens=s.gens
 os:s'.os=s.os
 kept:∀ b o,b∉Z→s.heap.get? b=some o→s'.heap.get? b=some o
theorem KeepsZ.refl(Z:List Addr)(s:Shared):KeepsZ Z s s:=⟨rfl,rfl,fun _ _ _ e=>e⟩
theorem KeepsZ.trans{Z:List Addr}{s s' s'':Shared}(x:KeepsZ Z s s')(y:KeepsZ Z s' s''):KeepsZ Z s s'':=⟨y.gens.trans x.gens,y.os.trans x.os,fun b o hb e=>y.kept b o hb (x.kept b o hb e)⟩
theorem KeepsAll.z{s s':Shared}(x:KeepsAll s s')(Z:List Addr):KeepsZ Z s s':=⟨x.gens,x.os,fun b o _ e=>x.kept b o e⟩
theorem Step.thenZ{W β₀ β Z:List Addr}{s₀ s s':Shared}(st:Step W β₀ s₀ s β)(k:KeepsZ Z s s')(hz:∀ z∈Z,s₀.heap.get? z=none):Step W β₀ s₀ s' β where
 gens:=k.gens.trans st.gens
 os:=k.os.trans st.os
 pre:=st.pre
 fresh:=st.fresh
 alive:=fun b o e=>by
  obtain⟨o',e'⟩:=st.alive b o e
  exact⟨o',k.kept b o' (fun h=>by rw[hz b h] at e;cases e) e'⟩
 kept:=fun b o e hb hW=>let ⟨o',e',kn⟩:=st.kept b o e hb hW;⟨o',k.kept b o' (fun h=>by rw[hz b h] at e;cases e) e',kn⟩
inductive zfg(h:Heap)(a:Addr):Prop
 | mk (o:Obj) (e:h.get? a=some o) (hd:∀ fs,o.data≠.fields fs)
theorem zpp{d:Data}{vs:Array Value}{n:Nat}(h:d=.seq vs n):∀ fs,d≠.fields fs:=fun fs e=>by rw[h] at e;cases e
theorem zn2{d:Data}{vs:Array DictEntry}{n:Nat}(h:d=.dict vs n):∀ fs,d≠.fields fs:=fun fs e=>by rw[h] at e;cases e
theorem uk{h:Heap}{v:Value}{x:PyData}{as:List Addr}(r:Reads h v x as):∀ a∈as,zfg h a:=
 Reads.rec (motive_1:=fun _ _ as _=>∀ a∈as,zfg h a) (motive_2:=fun _ _ as _=>∀ a∈as,zfg h a)
  (fun _ h=>nomatch h) (fun _ _ h=>nomatch h) (fun _ _ _ h=>nomatch h) (fun _ _ _ h=>nomatch h)
  (fun h1 _ h3 _ ih a ha=>(List.mem_cons.mp ha).elim (fun e=>e ▸ ⟨_,h1,zpp h3⟩) (ih a))
  (fun _ _ _ _ ih=>ih)
  (fun h1 _ h3 _ _ ih ih' a ha=>(List.mem_append.mp ha).elim (fun ha=>(List.mem_cons.mp ha).elim (fun e=>e ▸ ⟨_,h1,zn2 h3⟩) (ih a)) (ih' a))
  (fun _ h=>nomatch h) (fun _ _ i1 i2 a ha=>(List.mem_append.mp ha).elim (i1 a) (i2 a)) r
theorem zc5{h:Heap}{vs:List Value}{xs:List PyData}{as:List Addr}(r:ReadsAll h vs xs as):∀ a∈as,zfg h a:=
 ReadsAll.rec (motive_1:=fun _ _ _ _=>True) (motive_2:=fun _ _ as _=>∀ a∈as,zfg h a)
  trivial (fun _=>trivial) (fun _ _=>trivial) (fun _ _=>trivial) (fun _ _ _ _ _=>trivial) (fun _ _ _ _ _=>trivial) (fun _ _ _ _ _ _ _=>trivial)
  (fun _ h=>nomatch h) (fun r _ _ i2 a ha=>(List.mem_append.mp ha).elim (uk r a) (i2 a)) r
section
variable{G:Gl}{F:Fm}{N β Z:List Addr}{ρ:Loc}{O:za}{h h':Heap}
theorem notZ(hz:∀ z∈Z,Itr h z){b:Addr}{o:Obj}(e:h.get? b=some o)(hd:∀ fs,o.data≠.fields fs):b∉Z:=fun hb=>by
 obtain⟨o',T,fs,e',_,hf⟩:=hz b hb
 rw[e] at e';cases e';exact hd fs hf
section
variable(hz:∀ z∈Z,Itr h z)(hk:∀ b o,b∉Z→h.get? b=some o→h'.get? b=some o)
include hz hk
theorem getZ{b:Addr}{o:Obj}(e:h.get? b=some o)(hd:∀ fs,o.data≠.fields fs):h'.get? b=some o:=hk b o (notZ hz e hd) e
theorem gp{v:Value}{x:PyData}{as:List Addr}(r:Reads h v x as):Reads h' v x as:=
 jk (P:=fun b=>b∉Z) (fun b o e hb=>hk b o hb e) (fun b o vs n e _ hd=>notZ hz e fun fs q=>by rw[hd] at q;cases q) r fun a ha=>let ⟨o,e,hd⟩:=uk r a ha;notZ hz e hd
theorem zae{vs:List Value}{xs:List PyData}{as:List Addr}(r:ReadsAll h vs xs as):ReadsAll h' vs xs as:=
 xx (P:=fun b=>b∉Z) (fun b o e hb=>hk b o hb e) (fun b o vs n e _ hd=>notZ hz e fun fs q=>by rw[hd] at q;cases q) r fun a ha=>let ⟨o,e,hd⟩:=zc5 r a ha;notZ hz e hd
theorem zgf{vs:List Value}{its:List It}(r:ItsR N β h vs its):ItsR N β h' vs its:=by
 induction r with
 | nil=>exact .nil
 | b h1 _ ih=>exact .b h1 ih
 | x h1 h2 _ ih=>exact .x (gp hz hk h1) h2 ih
theorem VR.keepZ(hc:∀ c,∃ C,G.cls c=.ref C){v:Value}{x:V}(r:VR G N β h v x):VR G N β h' v x:=by
 cases x with
 | d x=>obtain⟨as,r,q⟩:=r;exact⟨as,gp hz hk r,q⟩
 | box n=>exact r
 | tm its=>obtain⟨a,o,vs,k,e,h1,h2,h3,h4⟩:=r;exact⟨a,o,vs,k,e,getZ hz hk h1 (fun fs q=>by rw[h3] at q;cases q),h2,h3,zgf hz hk h4⟩
theorem BoxAt.keepZ{a:Addr}{bx:Box}(r:BoxAt h N β a bx):BoxAt h' N β a bx:=by
 cases bx with
 | lst xs=>obtain⟨o,vs,n,h1,h2,h3,as,h4,h5⟩:=r;exact⟨o,vs,n,getZ hz hk h1 (fun fs q=>by rw[h3] at q;cases q),h2,h3,as,zae hz hk h4,h5⟩
theorem BR.notItr{O:za}(b:BR G N β O h){a:Addr}(ha:a∈β):a∉Z:=by
 obtain⟨i,hi⟩:=List.getElem?_of_mem ha
 have hl:i < O.length:=by rw[← b.len];exact (List.getElem?_eq_some_iff.mp hi).1
 have hx:=b.at_ i a _ hi (List.getElem?_eq_getElem hl)
 cases hb:O[i] with
 | lst xs=>rw[hb] at hx;obtain⟨o',vs,n,h1,h2,h3,_⟩:=hx;exact notZ hz h1 fun fs q=>by rw[h3] at q;cases q
theorem BR.keepZ(hz0:∀ z∈Z,G.h₀.get? z=none)(b:BR G N β O h):BR G N β O h':=
 ⟨fun c o e=>hk _ _ (fun hb=>by rw[hz0 c hb] at e;cases e) (b.keep c o e),b.len,b.nodup,b.new,fun i a bx h1 h2=>(b.at_ i a bx h1 h2).keepZ hz hk,fun a ha=>(b.plain a ha).at fun o e=>hk a o (BR.notItr hz hk b ha) e⟩
theorem nsZ{L:Addr}{m:Str→Option Value}(x:h.Ns L m):h'.Ns L m:=by
 obtain⟨o,es,ep,h1,h2,r⟩:=x
 exact⟨o,es,ep,getZ hz hk h1 (fun fs q=>by rw[h2] at q;cases q),h2,r⟩
theorem zo0{c:Addr}{v:Option Value}(x:h.IsCell c v):h'.IsCell c v:=by
 obtain⟨o,h1,h2⟩:=x
 exact⟨o,getZ hz hk h1 (fun fs q=>by rw[h2] at q;cases q),h2⟩
theorem Get.keepZ{env:Env}{x:Str}{v:Value}(g:Get h env x v):Get h' env x v:=by
 rcases g with ⟨h1,m,h2,h3⟩ | ⟨h1,c,h2,h3⟩
 ·exact .inl ⟨h1,m,nsZ hz hk h2,h3⟩
 ·exact .inr ⟨h1,c,h2,zo0 hz hk h3⟩
theorem FmOk.keepZ(hzB:∀ z∈Z,z∉F.B)(f:FmOk G F β h):FmOk G F β h' where
 kind:=f.kind
 globals:=f.globals
 builtins:=f.builtins
 once:=f.once
 ns:=let ⟨m,e⟩:=f.ns;⟨m,nsZ hz hk e⟩
 nsW:=f.nsW
 cell:=fun x h1=>let ⟨c,v,h3,h4,h5⟩:=f.cell x h1;⟨c,v,h3,zo0 hz hk h4,h5⟩
 apart:=f.apart
 sub:=f.sub
 new:=f.new
 notBox:=f.notBox
 stor:=fun a ha=>let ⟨o,h1,h2⟩:=f.stor a ha;⟨o,hk _ _ (fun hb=>hzB a hb ha) h1,h2⟩
 frB:=f.frB
 frs:=fun a ha=>let ⟨m,e⟩:=f.frs a ha;⟨m,nsZ hz hk e⟩
 pin:=fun m e=>⟨nsZ hz hk (f.pin m e).1,(f.pin m e).2⟩
theorem SR.keepZ(hc:∀ c,∃ C,G.cls c=.ref C)(hz0:∀ z∈Z,G.h₀.get? z=none)(hzB:∀ z∈Z,z∉F.B)(r:SR G F β ρ O h):SR G F β ρ O h':=
 ⟨r.br.keepZ hz hk hz0,r.fm.keepZ hz hk hzB,fun i x v h1 h2=>let ⟨val,h3,h4⟩:=r.get i x v h1 h2;⟨val,h3.keepZ hz hk,h4.keepZ hz hk hc⟩⟩
end
end
noncomputable def Src.Has(s:Src)(O:za):Prop:=match s with
 | .plain _=>True
 | .box n xs=>O[n]?=some (.lst xs)
theorem Src.has_of{s:Src}{O:za}(h:s.still O=true):s.Has O:=by
 cases s with
 | plain xs=>trivial
 | box n xs=>exact @of_decide_eq_true _ (Classical.propDecidable _) h
structure Turns(G:Gl)(A:Around)(target:Expr)(I:Addr)(Z:List Addr)(src:Src)(St:Nat→List Addr→List Addr→Heap→Prop):Prop where
 itr:∀ i N β h,St i N β h→∀ z∈Z,Itr h z
 keep:∀ i N N' β β' h h',St i N β h→(∀ z∈Z,∀ o,h.get? z=some o→h'.get? z=some o)→(∀ v x,VR G N β h v (.d x)→VR G N' β' h' v (.d x))→β <+: β'→St i N' β' h'
 item:∀ i N β O s x (Q:Option Value→Shared→Prop) (E:Value→Shared→Prop),src.xs[i]?=some x→BR G N β O s.heap→src.Has O→St i N β s.heap →
  (∀ v s',(∀ (Q':Unit→Shared→Prop) (E':Value→Shared→Prop),(∀ s'',KeepsZ Z s s''→VR G N β s''.heap v (.d x)→St (i+1) N β s''.heap→Q' () s'')→wpAny (model G.prog G.w) A (letOwnedTupleGo target (.ref I) v) Q' E' s')→Q (some v) s') →
  wpAny (model G.prog G.w) A (pyNext (.ref I)) Q E s
 done:∀ i N β O s (Q:Option Value→Shared→Prop) (E:Value→Shared→Prop),src.xs.length=i→BR G N β O s.heap→src.Has O→St i N β s.heap →
  (∀ s',KeepsZ Z s s'→Q none s')→wpAny (model G.prog G.w) A (pyNext (.ref I)) Q E s
 self:∀ i N β s (Q:Value→Shared→Prop) (E:Value→Shared→Prop),St i N β s.heap→Q (.ref I) s→wpAny (model G.prog G.w) A (pyIter (.ref I)) Q E s
set_option tactic.hygienic true in
theorem pi{prog:Program}{w:World}{A:Around}{E:Value→Shared→Prop}{s:Shared}{target:Expr}{I:Addr}{v:Value}{o:Obj}{T:String}{Q:Unit→Shared→Prop}(ho:s.heap.get? I=some o)(hc:o.cls=.type T)
 (hT:["enumerate","zip","dict_itemiterator","dict_reverseitemiterator","odict_iterator","itertools.zip_longest","itertools.pairwise"].contains T=false) (hQ:Q () s) :
 wpAny (model prog w) A (letOwnedTupleGo target (.ref I) v) Q E s:=by
 have main:∀ a:Addr,wpAny (model prog w) A (do
  let o ← load I
  match o.cls,o.data with
  | .type n,.fields vs=>
    if ["enumerate","zip","dict_itemiterator","dict_reverseitemiterator","odict_iterator","itertools.zip_longest","itertools.pairwise"].contains n && vs[0]? == some (rawInt a) then
     rule "for.unpacks-the-owned-tuple"
     updateField I 0 .none
  | _,_=>pure ():Sem Unit) Q E s:=by
  intro a
  refine wpAny_bind (wpAny_load ho ?_)
  rw[hc]
  cases o.data <;> first | exact wpAny_pure hQ | skip
  rename_i vs
  dsimp only
  rw[if_neg (by rw[hT,Bool.false_and];exact Bool.false_ne_true)]
  exact wpAny_pure hQ
 unfold letOwnedTupleGo
 cases target <;> first | exact wpAny_pure hQ | skip
 all_goals
  cases v <;> first | exact wpAny_pure hQ | exact main _
theorem jv{s:Shared}{I:Addr}{h':Heap}{tk:Nat}(hs:Heap.SameBut I s.heap h'):KeepsZ [I] s { s with heap:=h',toks:=tk }:=
 ⟨rfl,rfl,fun b o hb e=>(hs.2 b fun h=>hb (by simp[h])).trans e⟩
theorem ky{s:Shared}{I:Addr}{h':Heap}(hs:Heap.ExtBut I s.heap h'):KeepsZ [I] s { s with heap:=h' }:=
 ⟨rfl,rfl,fun b o hb e=>hs b o (fun h=>hb (by simp[h])) e⟩
section
variable{G:Gl}{A:Around}{target:Expr}(hc:∀ c,∃ C,G.cls c=.ref C)
theorem ql{h:Heap}{I l:Addr}{i:Nat}(x:h.IsListIter I l i):∀ z∈[I],Itr h z:=fun z hz=>by
 obtain⟨o,h1,h2,h3⟩:=x
 rw[List.mem_singleton.mp hz];exact⟨o,_,_,h1,h2,h3⟩
theorem zb7{h:Heap}{N β:List Addr}{a:Addr}{xs:List PyData}(r:VR G N β h (.ref a) (.d (.list xs))):ListAt h N β a xs∧a∉β∧a∉N:=by
 obtain⟨a',e,h1,h2⟩:=r.list_inv
 cases e;exact⟨h1,h2⟩
include hc in
theorem Turns.list(hh:A.handled=none)(I ax:Addr)(xs:List PyData):Turns G A target I [I] (.plain xs) (fun i N β h=>h.IsListIter I ax i∧VR G N β h (.ref ax) (.d (.list xs))) where
 itr:=fun i N β h st=>ql st.1
 keep:=fun i N N' β β' h h' st k1 k2 _=>⟨st.1.at fun o e=>k1 I (by simp) o e,k2 _ _ st.2⟩
 item:=fun i N β O s x Q E hx br has st k=>by
  obtain⟨⟨o,vs,n,h1,h2,h3,as,h4,h5⟩,_⟩:=zb7 st.2
  obtain⟨v,cs,e1,e2,e3⟩:=zv h4 h5 (i:=i) hx
  refine wpAny_pyNext_list_item st.1 ⟨o,h1,h2,n,h3⟩ (x:=v) (by rw[← Array.getElem?_toList];exact e1) fun h' hit' hs'=>?_
  obtain⟨o',q1,q2,q3⟩:=id hit'
  have kz:KeepsZ [I] s { s with heap:=h' }:=jv hs'
  have rv:VR G N β h' v (.d x):=VR.keepZ (ql st.1) kz.kept hc ⟨cs,e2,e3⟩
  exact k v _ fun Q' E' k'=>pi q1 q2 (by decide) (k' _ kz rv ⟨hit',VR.keepZ (ql st.1) kz.kept hc st.2⟩)
 done:=fun i N β O s Q E hx br has st k=>by
  obtain⟨⟨o,vs,n,h1,h2,h3,as,h4,h5⟩,_⟩:=zb7 st.2
  refine wpAny_pyNext_list_end hh st.1 ⟨o,h1,h2,n,h3⟩ ?_ fun h' he=>k _ (ky he)
  rw[Array.getElem?_eq_none]
  rw[← Array.length_toList,zd h4];exact Nat.le_of_eq hx
 self:=fun i N β s Q E st q=>wpAny_pyIter_listiter st.1 q
include hc in
theorem Turns.box(hh:A.handled=none)(I ax:Addr)(n:Nat)(xs:List PyData):Turns G A target I [I] (.box n xs) (fun i N β h=>h.IsListIter I ax i∧β[n]?=some ax) where
 itr:=fun i N β h st=>ql st.1
 keep:=fun i N N' β β' h h' st k1 k2 p=>⟨st.1.at fun o e=>k1 I (by simp) o e,jd p st.2⟩
 item:=fun i N β O s x Q E hx br has st k=>by
  obtain⟨o,vs,n,h1,h2,h3,as,h4,h5⟩:=br.at_ n ax (.lst xs) st.2 has
  obtain⟨v,cs,e1,e2,e3⟩:=zv h4 h5 (i:=i) hx
  refine wpAny_pyNext_list_item st.1 ⟨o,h1,h2,n,h3⟩ (x:=v) (by rw[← Array.getElem?_toList];exact e1) fun h' hit' hs'=>?_
  obtain⟨o',q1,q2,q3⟩:=id hit'
  have kz:KeepsZ [I] s { s with heap:=h' }:=jv hs'
  have rv:VR G N β h' v (.d x):=VR.keepZ (ql st.1) kz.kept hc ⟨cs,e2,e3⟩
  exact k v _ fun Q' E' k'=>pi q1 q2 (by decide) (k' _ kz rv ⟨hit',st.2⟩)
 done:=fun i N β O s Q E hx br has st k=>by
  obtain⟨o,vs,n,h1,h2,h3,as,h4,h5⟩:=br.at_ n ax (.lst xs) st.2 has
  refine wpAny_pyNext_list_end hh st.1 ⟨o,h1,h2,n,h3⟩ ?_ fun h' he=>k _ (ky he)
  rw[Array.getElem?_eq_none]
  rw[← Array.length_toList,zd h4];exact Nat.le_of_eq hx
 self:=fun i N β s Q E st q=>wpAny_pyIter_listiter st.1 q
theorem zdd{h:Heap}{I l:Addr}{i:Nat}(x:IsTupIter h I l i):∀ z∈[I],Itr h z:=fun z hz=>by
 obtain⟨o,h1,h2,h3⟩:=x
 rw[List.mem_singleton.mp hz];exact⟨o,_,_,h1,h2,h3⟩
include hc in
theorem Turns.tuple(hh:A.handled=none)(I ax:Addr)(xs:List PyData):Turns G A target I [I] (.plain xs) (fun i N β h=>IsTupIter h I ax i∧VR G N β h (.ref ax) (.d (.tuple xs))) where
 itr:=fun i N β h st=>zdd st.1
 keep:=fun i N N' β β' h h' st k1 k2 _=>⟨by obtain⟨o,e,r⟩:=st.1;exact⟨o,k1 I (by simp) o e,r⟩,k2 _ _ st.2⟩
 item:=fun i N β O s x Q E hx br has st k=>by
  obtain⟨a',o,vs,n,e,h1,h2,h3,as,h4,h5⟩:=st.2.tuple_inv
  cases e
  obtain⟨v,cs,e1,e2,e3⟩:=zv h4 h5 (i:=i) hx
  refine next_tuple_item st.1 ⟨o,h1,h2,n,h3⟩ (x:=v) (by rw[← Array.getElem?_toList];exact e1) fun h' hit' hs'=>?_
  obtain⟨o',q1,q2,q3⟩:=id hit'
  have kz:KeepsZ [I] s { s with heap:=h' }:=jv hs'
  have rv:VR G N β h' v (.d x):=VR.keepZ (zdd st.1) kz.kept hc ⟨cs,e2,e3⟩
  exact k v _ fun Q' E' k'=>pi q1 q2 (by decide) (k' _ kz rv ⟨hit',VR.keepZ (zdd st.1) kz.kept hc st.2⟩)
 done:=fun i N β O s Q E hx br has st k=>by
  obtain⟨a',o,vs,n,e,h1,h2,h3,as,h4,h5⟩:=st.2.tuple_inv
  cases e
  refine next_tuple_end hh st.1 ⟨o,h1,h2,n,h3⟩ ?_ fun h' he=>k _ (ky he)
  rw[Array.getElem?_eq_none]
  rw[← Array.length_toList,zd h4];exact Nat.le_of_eq hx
 self:=fun i N β s Q E st q=>wpAny_pyIter_tupleiter st.1 q
theorem zf0{a b:Int}{i:Nat}{x:PyData}(h:(zw a b)[i]?=some x):x=.int (a+i)∧i < (b - a).toNat:=by
 unfold zw at h
 rw[List.getElem?_map] at h
 cases e:(List.range (b - a).toNat)[i]? with
 | none=>rw[e] at h;cases h
 | some j=>
   rw[e] at h
   have hi:i < (List.range (b - a).toNat).length:=by
    rcases Nat.lt_or_ge i (List.range (b - a).toNat).length with h | h
    ·exact h
    ·rw[List.getElem?_eq_none h] at e;cases e
   rw[List.getElem?_eq_getElem hi,List.getElem_range] at e
   cases e;cases h
   exact⟨rfl,by simpa using hi⟩
theorem zbn{a b:Int}:(zw a b).length=(b - a).toNat:=by simp[zw]
theorem ziy{h:Heap}{I:Addr}{x l st:Int}(q:IsRangeIter h I x l st):∀ z∈[I],Itr h z:=fun z hz=>by
 rw[List.mem_singleton.mp hz];exact⟨_,_,_,q,rfl,rfl⟩
include hc in
theorem Turns.range(hh:A.handled=none)(I:Addr)(a b:Int):Turns G A target I [I] (.plain (zw a b)) (fun i N β h=>IsRangeIter h I (a+(i:Nat)) (((b - a).toNat:Int) - (i:Nat)) 1) where
 itr:=fun i N β h st=>ziy st
 keep:=fun i N N' β β' h h' st k1 k2 _=>k1 I (by simp) _ st
 item:=fun i N β O s x Q E hx br has st k=>by
  obtain⟨rfl,hi⟩:=zf0 hx
  refine wpAny_pyNext_range_item st (by omega) fun h' hit' hs'=>?_
  have kz:KeepsZ [I] s { s with heap:=h',toks:=s.toks+1 }:=jv hs'
  refine k _ _ fun Q' E' k'=>pi hit' rfl (by decide) (k' _ kz VR.int ?_)
  have e1:a+((i+1:Nat):Int)=a+(i:Int)+1:=by push_cast;omega
  have e2:((b - a).toNat:Int) - ((i+1:Nat):Int)=((b - a).toNat:Int) - (i:Int) - 1:=by push_cast;omega
  rw[e1,e2];exact hit'
 done:=fun i N β O s Q E hx br has st k=>wpAny_pyNext_range_end hh st (by have:(zw a b).length=i:=hx;rw[zbn] at this;omega) fun h' he=>k _ (ky he)
 self:=fun i N β s Q E st q=>wpAny_pyIter_rangeiter st q
end
section
variable{G:Gl}{F:Fm}{A:Around}{s:Shared}{β:List Addr}{ρ:Loc}{O:za}{cx:Cx}{gval:Nat→Option PyData}{gname:Nat→Option Str}
theorem p9{α:Type}{x:Str}{fv:Value}{e:Expr}{rest:List Expr}{p q:Pos}{r:R za (List V)}{k:List V→za→R za α}{Rel:List Addr→Heap→Value→α→Prop}(g:GOk G gval gname)(sr:SR G F β ρ O s.heap)(fit:Fits F cx)
 (hx:cx.isGlob x=true) (hb:(x,fv)∈bis) (hfv:(∃ id,fv=.builtin id)∨∃ T,fv=.type T)
 (he:starEach (e::rest) F.env=(false,eval e F.env)::starEach rest F.env) (hplain:(backTo q (starEach rest F.env)).any (·.1)=false)
 (h1:Does G F A s β (spliced (backTo q (starEach (e::rest) F.env))) (r.lift ρ) (VRsl G F))
 (h2:∀ s' β' vals vs O',r=.ok vs O'→Step F.W β s s' β'→SR G F β' ρ O' s'.heap→VRs G F.B β' s'.heap vals vs→Does G F A s' β' (call fv vals) ((k vs O').lift ρ) Rel) :
 Does G F A s β (eval (.Call (.Name x p) (e::rest) [] q) F.env) ((r.bind k).lift ρ) Rel:=by
 obtain⟨b1,b2⟩:=g.bi _ hb
 refine DoesW.seqE (T₂:=fun vs=>tr G A (call fv vs)) (fun Q E h=>Call_Name rfl (yb g sr fit hx b1 b2 ?_)) h1 fun s' β' vals vs O' e' st sr' rvs=>h2 s' β' vals vs O' e' st sr' rvs
 rcases hfv with ⟨id,rfl⟩ | ⟨T,rfl⟩
 ·exact callWith_builtin1 h he hplain
 ·exact callWith_type1 h he hplain
noncomputable def IRel(G:Gl)(F:Fm)(A:Around)(target:Expr)(s:Shared):List Addr→Heap→Value→Src→Prop:=fun β h v src=>
 ∃ I Z St,v=.ref I∧Turns G A target I Z src St∧St 0 F.B β h∧∀ z∈Z,s.heap.get? z=none
theorem IRel.back{target:Expr}{s':Shared}{β':List Addr}{h:Heap}{v:Value}{src:Src}{β₁:List Addr}{W:List Addr}(st:Step W β s s' β')(r:IRel G F A target s' β₁ h v src):IRel G F A target s β₁ h v src:=by
 obtain⟨I,Z,St,e,t,h0,hz⟩:=r
 refine⟨I,Z,St,e,t,h0,fun z hz'=>?_⟩
 cases e:s.heap.get? z with
 | none=>rfl
 | some o=>obtain⟨o',e'⟩:=st.alive z o e;rw[hz z hz'] at e';cases e'
noncomputable abbrev zcd(G:Gl)(A:Around)(x:Expr)(env:Env):WT Value:=fun Q E s=>wpAny (model G.prog G.w) A (eval x env) (fun xv s₁=>wpAny (model G.prog G.w) A (pyIter xv) Q E s₁) E s
theorem yo(s:Shared):s.heap.get? s.heap.objs.size=none:=Heap.get?_none_of_le (Nat.le_refl _)
theorem zl0{target:Expr}{v:Value}{d:V}(g:GOk G gval gname)(hh:A.handled=none)(sr:SR G F β ρ O s.heap)(rv:VR G F.B β s.heap v d) :
 Does G F A s β (pyIter v) ((match d with
  | .d x=>opt ((items x).map Src.plain) O
  | .box n=>(match O[n]? with
     | some (.lst xs)=>R.ok (Src.box n xs) O
     | _=>.stuck)
  | _=>.stuck).lift ρ) (IRel G F A target s):=by
 cases d with
 | d x=>
   cases x with
   | list xs=>
     obtain⟨a,rfl,⟨o,vs,n,h1,h2,h3,as,h4,h5⟩,h6⟩:=rv.list_inv
     refine Does.leaf sr fun Q E k=>wpAny_pyIter_list ⟨o,h1,h2,n,h3⟩ (k _ _ (KeepsAll.push s _ _) ?_)
     exact⟨_,_,_,rfl,Turns.list g.clsRef hh _ a xs,⟨⟨_,Heap.get?_push_size _ rfl,rfl,rfl⟩,rv.keepAll (fun _ _ e=>Heap.get?_push_of_some _ e)⟩,fun z hz=>by rw[List.mem_singleton.mp hz];exact yo s⟩
   | tuple xs=>
     obtain⟨a,o,vs,n,rfl,h1,h2,h3,as,h4,h5⟩:=rv.tuple_inv
     refine Does.leaf sr fun Q E k=>iter_tuple ⟨o,h1,h2,n,h3⟩ (k _ _ (KeepsAll.push s _ _) ?_)
     exact⟨_,_,_,rfl,Turns.tuple g.clsRef hh _ a xs,⟨⟨_,Heap.get?_push_size _ rfl,rfl,rfl⟩,rv.keepAll (fun _ _ e=>Heap.get?_push_of_some _ e)⟩,fun z hz=>by rw[List.mem_singleton.mp hz];exact yo s⟩
   | _=>trivial
 | box n=>
   obtain⟨a,ha,rfl⟩:=rv
   dsimp only
   cases hO:O[n]? with
   | none=>trivial
   | some bx=>cases bx with
     | lst xs=>
       obtain⟨o,vs,k',h1,h2,h3,as,h4,h5⟩:=sr.br.at_ n a (.lst xs) ha hO
       refine Does.leaf sr fun Q E k=>wpAny_pyIter_list ⟨o,h1,h2,k',h3⟩ (k _ _ (KeepsAll.push s _ _) ?_)
       exact⟨_,_,_,rfl,Turns.box g.clsRef hh _ a n xs,⟨⟨_,Heap.get?_push_size _ rfl,rfl,rfl⟩,ha⟩,fun z hz=>by rw[List.mem_singleton.mp hz];exact yo s⟩
 | _=>trivial
theorem zl1{target x:Expr}{ra:R za V}(g:GOk G gval gname)(hh:A.handled=none)(h1:Does G F A s β (eval x F.env) (ra.lift ρ) (VRel G F)) :
 DoesW G F s β (zcd G A x F.env) ((ra.bind fun v O=>(match v with
  | .d x=>opt ((items x).map Src.plain) O
  | .box n=>(match O[n]? with
     | some (.lst xs)=>R.ok (Src.box n xs) O
     | _=>.stuck)
  | _=>.stuck)).lift ρ) (IRel G F A target s):=by
 refine DoesW.seqE (T₂:=fun v=>tr G A (pyIter v)) (fun Q E h=>h) h1 fun s' β' v d O' e st sr rv=>?_
 exact (zl0 (target:=target) g hh sr rv).weaken (fun Q E h=>h) fun _ _ _ _ r=>r.back st
theorem zc7{a b:Int}:Builtin.Range.rangeSize a b 1=((b - a).toNat:Int):=by rw[rangeSize_one];split <;> omega
noncomputable def RRel(s:Shared):List Addr→Heap→Value→Int×Int→Prop:=fun β h v d=>∃ r t u w,v=.ref r∧IsRange h r d.1 d.2 1 t u w
noncomputable def zfe(p:Int×Int):Prop:=-(10 ^ 9)≤p.1∧p.1≤10 ^ 9∧-(10 ^ 9)≤p.2∧p.2≤10 ^ 9
inductive zoh(v u:V)(O:za)(p:Int×Int)(O':za):Prop
 | mk (i j:Int) (h1:intV v=some i) (h2:intV u=some j) (hs:zfe (i,j)) (e:p=(i,j)) (e':O'=O)
theorem zag{v u:V}{O O':za}{p:Int×Int}(h:xj v u O=.ok p O'):zoh v u O p O':=by
 unfold xj at h
 cases h1:intV v with
 | none=>rw[h1] at h;cases h
 | some i=>
   cases h2:intV u with
   | none=>rw[h1,h2] at h;cases h
   | some j=>
     rw[h1,h2] at h
     dsimp only at h
     by_cases hs : -(10 ^ 9)≤i∧i≤10 ^ 9∧-(10 ^ 9)≤j∧j≤10 ^ 9
     ·rw[if_pos hs] at h;cases h;exact⟨i,j,h1,h2,hs,rfl,rfl⟩
     ·rw[if_neg hs] at h;cases h
theorem zc6{v u:V}{O O':za}{p:Int×Int}(h:xj v u O=.ok p O'):zfe p∧O'=O:=by
 obtain⟨i,j,_,_,hs,rfl,rfl⟩:=zag h
 exact⟨hs,rfl⟩
set_option tactic.hygienic true in
theorem VR.intV{N:List Addr}{h:Heap}{v:Value}{d:V}{i:Int}(r:VR G N β h v d)(e:intV d=some i):∃ t,v=.int i t:=by
 cases d <;> first | (cases e;done) | skip
 rename_i x
 cases x <;> first | (cases e;done) | skip
 cases e
 exact r.int_inv
theorem VRs.one{N:List Addr}{h:Heap}{vals:List Value}{d:V}(r:VRs G N β h vals [d]):∃ v,vals=[v]∧VR G N β h v d:=by
 cases r with
 | cons r rs=>cases rs;exact⟨_,rfl,r⟩
theorem VRs.two{N:List Addr}{h:Heap}{vals:List Value}{d e:V}(r:VRs G N β h vals [d,e]):∃ v u,vals=[v,u]∧VR G N β h v d∧VR G N β h u e:=by
 cases r with
 | cons r rs=>obtain⟨u,rfl,q⟩:=rs.one;exact⟨_,u,rfl,r,q⟩
theorem zew{T:WT Value}{v u:V}(h:∀ i j,intV v=some i→intV u=some j→DoesW G F s β T (.ok (i,j) (ρ,O)) (RRel s)):DoesW G F s β T ((xj v u O).lift ρ) (RRel s):=by
 cases e:xj v u O with
 | stuck=>trivial
 | ok p O'=>
   obtain⟨i,j,h1,h2,hs,rfl,rfl⟩:=zag e
   exact h i j h1 h2
theorem za7{target:Expr}{v:Value}{p:Int×Int}(g:GOk G gval gname)(hh:A.handled=none)(sr:SR G F β ρ O s.heap)(rv:RRel s β s.heap v p)(hp:zfe p) :
 Does G F A s β (pyIter v) ((R.ok (Src.plain (zw p.1 p.2)) O).lift ρ) (IRel G F A target s):=by
 obtain⟨r,t,u,w,rfl,hr⟩:=rv
 obtain⟨p1,p2,p3,p4⟩:=hp
 refine Does.leaf sr fun Q E k=>wpAny_pyIter_range hr (small_one (by omega) (by omega) (by omega) (by omega)) (k _ _ (KeepsAll.push s _ _) ?_)
 refine⟨_,_,_,rfl,Turns.range g.clsRef hh _ p.1 p.2,?_,fun z hz=>by rw[List.mem_singleton.mp hz];exact yo s⟩
 rw[zc7]
 simpa using Heap.get?_push_size _ rfl
theorem zlz{y:Expr}{p q:Pos}{x:Str}{rb:R za V}(g:GOk G gval gname)(sr:SR G F β ρ O s.heap)(fit:Fits F cx)(hx:cx.isGlob x=true)(hb:x = "range")(he:starEach [y] F.env=(false,eval y F.env)::starEach [] F.env)
 (h1:Does G F A s β (eval y F.env) (rb.lift ρ) (VRel G F)) :
 Does G F A s β (eval (.Call (.Name x p) [y] [] q) F.env) ((rb.bind fun u O=>xj (.d (.int 0)) u O).lift ρ) (RRel s):=by
 subst hb
 have d1:Does G F A s β (spliced (backTo q (starEach [y] F.env))) ((rb.bind fun v O=>(R.ok ([]:List V) O).bind fun vs O=>.ok (v::vs) O).lift ρ) (VRsl G F):=
  yl he h1 fun s' β' O' sr'=>xp sr'
 have e1:(rb.bind fun u O=>xj (.d (.int 0)) u O)=(rb.bind fun v O=>(R.ok ([]:List V) O).bind fun vs O=>R.ok (v::vs) O).bind fun vs O=>(match vs with | [u]=>xj (.d (.int 0)) u O | _=>.stuck):=by cases rb <;> rfl
 rw[e1]
 refine p9 g sr fit hx (fv:=.type "range") (by decide) (.inr ⟨_,rfl⟩) he rfl d1 fun s' β' vals vs O' e' st sr' rvs=>?_
 cases vs with
 | nil=>trivial
 | cons u vs=>
   cases vs with
   | cons _ _=>trivial
   | nil=>
     obtain⟨v,rfl,ru⟩:=rvs.one
     refine zew fun i j h1 h2=>?_
     cases h1
     obtain⟨t,rfl⟩:=ru.intV h2
     exact Does.leaf sr' fun Q E k=>call_range_1 (k _ _ (KeepsAll.push s' _ _) ⟨_,_,_,_,rfl,IsRange.new _ _ _ _ _ _ _⟩)
theorem zly{y z:Expr}{p q:Pos}{x:Str}{ra:R za V}{rb:za→R za V}(g:GOk G gval gname)(sr:SR G F β ρ O s.heap)(fit:Fits F cx)(hx:cx.isGlob x=true)(hb:x = "range")
 (he:starEach [y,z] F.env=(false,eval y F.env)::starEach [z] F.env) (he':starEach [z] F.env=(false,eval z F.env)::starEach [] F.env)
 (h1:Does G F A s β (eval y F.env) (ra.lift ρ) (VRel G F)) (h2:∀ s' β' O',SR G F β' ρ O' s'.heap→Does G F A s' β' (eval z F.env) ((rb O').lift ρ) (VRel G F)) :
 Does G F A s β (eval (.Call (.Name x p) [y,z] [] q) F.env) ((ra.bind fun v O=>(rb O).bind fun u O=>xj v u O).lift ρ) (RRel s):=by
 subst hb
 have d1:Does G F A s β (spliced (backTo q (starEach [y,z] F.env))) ((ra.bind fun v O=>((rb O).bind fun v O=>(R.ok ([]:List V) O).bind fun vs O=>.ok (v::vs) O).bind fun vs O=>.ok (v::vs) O).lift ρ) (VRsl G F):=
  yl he h1 fun s' β' O' sr'=>yl he' (h2 s' β' O' sr') fun s' β' O' sr'=>xp sr'
 have e1:(ra.bind fun v O=>(rb O).bind fun u O=>xj v u O)=(ra.bind fun v O=>((rb O).bind fun v O=>(R.ok ([]:List V) O).bind fun vs O=>.ok (v::vs) O).bind fun vs O=>.ok (v::vs) O).bind fun vs O=>(match vs with | [v,u]=>xj v u O | _=>.stuck):=by
  cases ra with
  | ok v O=>
    show (rb O).bind (fun u O=>xj v u O)=(((rb O).bind fun v O=>(R.ok ([]:List V) O).bind fun vs O=>R.ok (v::vs) O).bind fun vs O=>R.ok (v::vs) O).bind _
    cases rb O <;> rfl
  | stuck=>rfl
 rw[e1]
 refine p9 g sr fit hx (fv:=.type "range") (by decide) (.inr ⟨_,rfl⟩) he (by rw [he'];rfl) d1 fun s' β' vals vs O' e' st sr' rvs=>?_
 cases vs with
 | nil=>trivial
 | cons u vs=>
   cases vs with
   | nil=>trivial
   | cons w vs=>
     cases vs with
     | cons _ _=>trivial
     | nil=>
       obtain⟨v,v',rfl,rv,ru⟩:=rvs.two
       refine zew fun i j h1 h2=>?_
       obtain⟨t,rfl⟩:=rv.intV h1
       obtain⟨t',rfl⟩:=ru.intV h2
       exact Does.leaf sr' fun Q E k=>call_range_2 (k _ _ (KeepsAll.push s' _ _) ⟨_,_,_,_,rfl,IsRange.new _ _ _ _ _ _ _⟩)
theorem zdn{target x:Expr}{r:R za (Int×Int)}(g:GOk G gval gname)(hh:A.handled=none)(hs:∀ p O',r=.ok p O'→zfe p)(h1:Does G F A s β (eval x F.env) (r.lift ρ) (RRel s)) :
 DoesW G F s β (zcd G A x F.env) ((r.bind fun p O=>R.ok (Src.plain (zw p.1 p.2)) O).lift ρ) (IRel G F A target s):=by
 refine DoesW.seqE (T₂:=fun v=>tr G A (pyIter v)) (fun Q E h=>h) h1 fun s' β' v d O' e st sr rv=>?_
 exact (za7 (target:=target) g hh sr rv (hs _ _ e)).weaken (fun Q E h=>h) fun _ _ _ _ r=>r.back st
end
noncomputable def yv(G:Gl)(F:Fm):List Addr→Heap→Flow→Fl→Prop:=fun β h f d=>match d with
 | .next=>f=.next
 | .ret v=>∃ val,f=.ret val∧VR G F.B β h val v
section
variable{G:Gl}{F:Fm}{A:Around}{cx:Cx}{gval:Nat→Option PyData}{gname:Nat→Option Str}
theorem zod{N β Z:List Addr}{O:za}{h:Heap}(br:BR G N β O h)(hz:∀ z∈Z,Itr h z):∀ z∈Z,z∉β:=fun z hz' hb=>by
 obtain⟨i,hi⟩:=List.getElem?_of_mem hb
 have hl:i < O.length:=by
  rw[← br.len]
  rcases Nat.lt_or_ge i β.length with h | h
  ·exact h
  ·rw[List.getElem?_eq_none h] at hi;cases hi
 have hx:=br.at_ i z _ hi (List.getElem?_eq_getElem hl)
 obtain⟨o,T,fs,e,_,hf⟩:=hz z hz'
 cases hb:O[i] with
 | lst xs=>rw[hb] at hx;obtain⟨o',vs,n,h1,h2,h3,_⟩:=hx;rw[e] at h1;cases h1;rw[hf] at h3;cases h3
theorem Turns.over{target:Expr}{I:Addr}{Z:List Addr}{src:Src}{St:Nat→List Addr→List Addr→Heap→Prop}(W:Turns G A target I Z src St){i:Nat}{β β':List Addr}{ρ:Loc}{O:za}{s s':Shared}
 (sr:SR G F β ρ O s.heap) (hzB:∀ z∈Z,z∉F.B) (st:St i F.B β s.heap) (step:Step F.W β s s' β'):St i F.B β' s'.heap:=
 W.keep i F.B F.B β β' s.heap s'.heap st (fun z hz o e=>step.keptE e (zod sr.br (W.itr _ _ _ _ st) z hz) (fun hw=>hzB z hz (sr.fm.sub z hw)) fun es n q=>by
  obtain⟨o',_,_,e',_,hf⟩:=W.itr _ _ _ _ st z hz
  rw[e] at e';cases e';rw[hf] at q;cases q) (fun v x r=>r.step sr.br sr.fm step) step.pre
inductive FInv(G:Gl)(F:Fm)(src:Src)(β₀:List Addr)(s₀:Shared)(St:Nat→List Addr→List Addr→Heap→Prop)(go:List PyData→Loc→za→Prop)(k:Nat)(s:Shared):Prop
 | mk (i:Nat) (β:List Addr) (ρ:Loc) (O:za) (hk:k=src.xs.length+1 - i) (hi:i≤src.xs.length) (step:Step F.W β₀ s₀ s β) (sr:SR G F β ρ O s.heap) (has:src.Has O) (st:St i F.B β s.heap) (hgo:go (src.xs.drop i) ρ O)
inductive zdr(src:Src)(go:Loc→za→R (Loc×za) Fl)(fl:Fl)(S:Loc×za):Fl→Loc×za→Prop
 | ret (v:V) (h:fl=.ret v):zdr src go fl S (.ret v) S
 | next (S':Loc×za) (hs:src.still S'.2=true) (hg:go S'.1 S'.2=.ok fl S):zdr src go fl S .next S'
inductive ztq(src:Src)(c:CT)(evb:Loc→za→R (Loc×za) Fl)(x:PyData)(go:Loc→za→R (Loc×za) Fl)(ρ:Loc)(O:za)(fl:Fl)(S:Loc×za):Prop
 | mk (ρ':Loc) (f:Fl) (S':Loc×za) (hb:zp c (.d x) ρ=some ρ') (he:evb ρ' O=.ok f S') (hr:zdr src go fl S f S')
theorem zno{src:Src}{c:CT}{evb:Loc→za→R (Loc×za) Fl}{x:PyData}{xs:List PyData}{ρ:Loc}{O:za}{fl:Fl}{S:Loc×za}(h:y6 src (kf c evb) (x::xs) ρ O=.ok fl S):ztq src c evb x (y6 src (kf c evb) xs) ρ O fl S:=by
 have h:(match kf c evb x ρ O with
  | .ok (.ret v) S=>.ok (.ret v) S
  | .ok .next S=>if src.still S.2 then y6 src (kf c evb) xs S.1 S.2 else .stuck
  | _=>.stuck)=R.ok fl S:=h
 generalize y6 src (kf c evb) xs=go at h
 unfold kf at h
 cases hb:zp c (.d x) ρ with
 | none=>rw[hb] at h;cases h
 | some ρ'=>
   rw[hb] at h
   dsimp only at h
   cases he:evb ρ' O with
   | ok f S'=>
     rw[he] at h
     cases f with
     | ret v=>cases h;exact⟨ρ',_,_,hb,he,.ret v rfl⟩
     | next=>
       dsimp only at h
       by_cases hs:src.still S'.2=true
       ·rw[if_pos hs] at h;exact⟨ρ',_,_,hb,he,.next S' hs h⟩
       ·rw[if_neg hs] at h;cases h
   | _=>rw[he] at h;cases h
theorem zjc{target:Expr}{c:CT}{own:Str→Bool}{body:List Stmt}{src:Src}{I:Addr}{Z:List Addr}{St:Nat→List Addr→List Addr→Heap→Prop}{evb:Loc→za→R (Loc×za) Fl}
 (g:GOk G gval gname) (hh:A.handled=none) (fit:Fits F cx) (hown:∀ x,own x=true→F.own x=true) (hc:chkT cx own c target=true)
 (hb:∀ s β ρ O,SR G F β ρ O s.heap→Does G F A s β (execs body F.env) (evb ρ O) (yv G F))
 (W:Turns G A target I Z src St) {s₀ s:Shared} {β₀ β:List Addr} {ρ₀ ρ:Loc} {O₀ O:za} (sr₀:SR G F β₀ ρ₀ O₀ s₀.heap) (hz:∀ z∈Z,s₀.heap.get? z=none)
 (step:Step F.W β₀ s₀ s β) (sr:SR G F β ρ O s.heap) (has:src.Has O) (st:St 0 F.B β s.heap) {fl:Fl} {S:Loc×za}
 (hgo:y6 src (kf c evb) src.xs ρ O=.ok fl S) {R:Result→Shared→Prop}
 (hR:∀ s' β' f,Step F.W β₀ s₀ s' β'→SR G F β' S.1 S.2 s'.heap→yv G F β' s'.heap f fl→R (.ok f) s') :
 codeAny (model G.prog G.w) A (.forLoop target (.ref I) body [] F.env) R s:=by
 have hz0:∀ z∈Z,G.h₀.get? z=none:=fun z hz'=>by
  cases e:G.h₀.get? z with
  | none=>rfl
  | some o=>have:=sr₀.br.keep z o e;rw[hz z hz'] at this;cases this
 have hzB:∀ z∈Z,z∉F.B:=fun z hz' hB=>by
  obtain⟨o,e,_⟩:=sr₀.fm.stor z hB
  rw[hz z hz'] at e;cases e
 refine codeAny_forLoop_any (FInv G F src β₀ s₀ St fun xs ρ O=>y6 src (kf c evb) xs ρ O=.ok fl S) ?_ (src.xs.length+1) ⟨0,β,ρ,O,rfl,Nat.zero_le _,step,sr,has,st,hgo⟩
 clear hgo st has sr step
 intro k s hI
 obtain⟨i,β,ρ,O,rfl,hi,step,sr,has,st,hgo⟩:=hI
 have hitr:=W.itr _ _ _ _ st
 by_cases hlt:i < src.xs.length
 ·rw[List.drop_eq_getElem_cons hlt] at hgo
  have hx:src.xs[i]?=some src.xs[i]:=List.getElem?_eq_getElem hlt
  generalize src.xs[i]=x at hgo hx
  obtain⟨ρ',f,S',hbt,he,hrest⟩:=zno hgo
  refine W.item i F.B β O s x _ _ hx sr.br has st fun v s₁ kk=>?_
  refine kk _ _ fun s' kz rv st'=>?_
  have sr':=sr.keepZ hitr kz.kept g.clsRef hz0 hzB
  have step':=step.thenZ kz hz
  have da:=jo (A:=A) hh fit hown c hc sr' rv
  unfold bindR at da
  dsimp only at da
  rw[hbt] at da
  dsimp only at da
  refine da _ _ fun s₂ β₂ _ st₂ sr₂ _=>?_
  have db:=hb s₂ β₂ ρ' O sr₂
  have stZ:=W.over sr' hzB st' st₂
  rw[he] at db
  refine db _ _ fun s₃ β₃ f' st₃ sr₃ rf=>?_
  have step₃:=step'.trans (st₂.trans st₃)
  cases hrest with
  | ret u e=>
    subst e
    obtain⟨val,rfl,rv'⟩:=rf
    exact hR s₃ β₃ (.ret val) step₃ sr₃ ⟨val,rfl,rv'⟩
  | next _ hst hgo=>
    have rf:f'=.next:=rf
    subst rf
    exact⟨src.xs.length+1 - (i+1),uh hlt,i+1,β₃,S'.1,S'.2,rfl,hlt,step₃,sr₃,Src.has_of hst,W.over sr₂ hzB stZ st₃,hgo⟩
 ·have hie:i=src.xs.length:=by omega
  rw[hie,List.drop_length] at hgo
  have hgo:Mine.R.ok Fl.next (ρ,O)=Mine.R.ok fl S:=hgo
  cases hgo
  refine W.done i F.B β O s _ _ hie.symm sr.br has st fun s' kz=>?_
  refine wpAny_execs_nil (hR s' β .next (step.thenZ kz hz) (sr.keepZ hitr kz.kept g.clsRef hz0 hzB) rfl)
theorem ztd{target x:Expr}{c:CT}{own:Str→Bool}{body:List Stmt}{pos:Pos}{r:R za Src}{evb:Loc→za→R (Loc×za) Fl}{s:Shared}{β:List Addr}{ρ:Loc}{O:za}
 (g:GOk G gval gname) (hh:A.handled=none) (fit:Fits F cx) (hown:∀ x,own x=true→F.own x=true) (hc:chkT cx own c target=true) (hset:∀ l k p,x≠.Set l k p)
 (hb:∀ s β ρ O,SR G F β ρ O s.heap→Does G F A s β (execs body F.env) (evb ρ O) (yv G F))
 (sr:SR G F β ρ O s.heap) (hI:DoesW G F s β (zcd G A x F.env) (r.lift ρ) (IRel G F A target s)) (has:∀ src O',r=.ok src O'→src.Has O') :
 Does G F A s β (exec (.For target x body [] pos) F.env) ((r.lift ρ).bind fun src S=>y6 src (kf c evb) src.xs S.1 S.2) (yv G F):=by
 cases r with
 | stuck=>trivial
 | ok src O'=>
   show DoesW G F s β _ (y6 src (kf c evb) src.xs ρ O') _
   cases hgo:y6 src (kf c evb) src.xs ρ O' with
   | stuck=>trivial
   | ok fl S=>
     intro Q E k
     refine wpAny_For (hI _ _ fun s' β' it st sr' ⟨I,Z,St,e,W,h0,hz⟩=>?_) fun v=>qn hset _ _
     subst e
     exact zjc g hh fit hown hc hb W sr hz st sr' (has _ _ rfl) h0 hgo fun s' β' f st' sr'' rf=>k s' β' f st' sr'' rf
end
theorem dkv1:∀ l:List (PyData×PyData),PyData.depthAll (l.map (·.1))≤PyData.depthKv l
 | []=>Nat.le_refl _
 | (_,_)::r=>Nat.max_le.mpr ⟨Nat.le_trans (Nat.le_max_left _ _) (Nat.le_max_left _ _),Nat.le_trans (dkv1 r) (Nat.le_max_right _ _)⟩
theorem dkv2:∀ l:List (PyData×PyData),PyData.depthAll (l.map (·.2))≤PyData.depthKv l
 | []=>Nat.le_refl _
 | (_,_)::r=>Nat.max_le.mpr ⟨Nat.le_trans (Nat.le_max_right _ _) (Nat.le_max_left _ _),Nat.le_trans (dkv2 r) (Nat.le_max_right _ _)⟩
inductive Sub(h:Heap)(b:Addr)(n:Nat):Prop
 | mk (x:PyData) (as:List Addr) (r:Reads h (.ref b) x as) (hs:x.depth≤n)
theorem Sub.le{h:Heap}{b:Addr}{n m:Nat}(s:Sub h b n)(hm:n≤m):Sub h b m:=let ⟨x,as,r,hs⟩:=s;⟨x,as,r,Nat.le_trans hs hm⟩
theorem zil{h:Heap}{v:Value}{x:PyData}{as:List Addr}(r:Reads h v x as):∀ b∈as,Sub h b x.depth:=
 Reads.rec (motive_1:=fun _ x as _=>∀ b∈as,Sub h b x.depth) (motive_2:=fun _ xs as _=>∀ b∈as,Sub h b (PyData.depthAll xs))
  (fun _ h=>nomatch h) (fun _ _ h=>nomatch h) (fun _ _ _ h=>nomatch h) (fun _ _ _ h=>nomatch h)
  (fun h1 h2 h3 r ih b hb=>(List.mem_cons.mp hb).elim (fun e=>e ▸ ⟨_,_,.list h1 h2 h3 r,Nat.le_refl _⟩) fun hb=>(ih b hb).le (Nat.le_succ _))
  (fun _ _ _ _ ih b hb=>(ih b hb).le (Nat.le_succ _))
  (fun h1 h2 h3 r1 r2 i1 i2 b hb=>(List.mem_append.mp hb).elim (fun hb=>(List.mem_cons.mp hb).elim (fun e=>e ▸ ⟨_,_,.dict h1 h2 h3 r1 r2,Nat.le_refl _⟩) fun hb=>(i1 b hb).le (Nat.le_succ_of_le (dkv1 _))) fun hb=>(i2 b hb).le (Nat.le_succ_of_le (dkv2 _)))
  (fun _ h=>nomatch h) (fun _ _ i1 i2 b hb=>(List.mem_append.mp hb).elim (fun hb=>(i1 b hb).le (Nat.le_max_left _ _)) fun hb=>(i2 b hb).le (Nat.le_max_right _ _)) r
theorem zc3{h:Heap}{vs:List Value}{xs:List PyData}{as:List Addr}(r:ReadsAll h vs xs as):∀ b∈as,Sub h b (PyData.depthAll xs):=
 ReadsAll.rec (motive_1:=fun _ _ _ _=>True) (motive_2:=fun _ xs as _=>∀ b∈as,Sub h b (PyData.depthAll xs))
  trivial (fun _=>trivial) (fun _ _=>trivial) (fun _ _=>trivial) (fun _ _ _ _ _=>trivial) (fun _ _ _ _ _=>trivial) (fun _ _ _ _ _ _ _=>trivial)
  (fun _ h=>nomatch h) (fun r _ _ i2 b hb=>(List.mem_append.mp hb).elim (fun hb=>(zil r b hb).le (Nat.le_max_left _ _)) fun hb=>(i2 b hb).le (Nat.le_max_right _ _)) r
theorem zfz{h:Heap}{a:Addr}{o:Obj}{vs:Array Value}{n:Nat}{xs:List PyData}{as:List Addr}(h1:h.get? a=some o)(h2:o.cls=.type "list")(h3:o.data=.seq vs n)(r:ReadsAll h vs.toList xs as):a∉as:=fun ha=>by
 obtain⟨x',as',r',hs⟩:=zc3 r a ha
 have:=(Reads.unique (Reads.list h1 h2 h3 r) _ _ r').1
 subst this
 exact Nat.not_succ_le_self _ hs
section
variable{G:Gl}{F:Fm}{A:Around}{β β':List Addr}{ρ:Loc}{O O':za}{s s':Shared}
theorem SR.outer(sr:SR G F β ρ O s.heap)(st:Step [] β s s' β')(br:BR G F.B β' O' s'.heap)(nb:∀ a∈F.B,a∉β'):SR G F β' ρ O' s'.heap:=by
 have st':Step F.W β s s' β':=⟨st.gens,st.os,st.pre,st.fresh,st.alive,fun b o e hb _=>st.kept b o e hb (by simp)⟩
 have hB:∀ a∈F.B,∀ o,s.heap.get? a=some o→∃ o',s'.heap.get? a=some o'∧Kin o o':=fun a ha o e=>st.kept a o e (sr.fm.notBox a ha) (by simp)
 have hL:F.env.locals∈F.B:=sr.fm.sub _ sr.fm.nsW
 have hns:∀ m,s.heap.Ns F.env.locals m→s'.heap.Ns F.env.locals m:=fun m hm=>Kin.ns hm (hB _ hL)
 refine⟨br,⟨sr.fm.kind,sr.fm.globals,sr.fm.builtins,sr.fm.once,?_,sr.fm.nsW,?_,sr.fm.apart,sr.fm.sub,sr.fm.new,nb,?_,sr.fm.frB,fun a ha=>let ⟨m,hm⟩:=sr.fm.frs a ha;⟨m,Kin.ns hm (hB a (sr.fm.frB a ha))⟩,fun m e=>⟨hns m (sr.fm.pin m e).1,(sr.fm.pin m e).2⟩⟩,fun i x v h1 h2=>?_⟩
 ·obtain⟨m,hm⟩:=sr.fm.ns;exact⟨m,hns m hm⟩
 ·intro x hx
  obtain⟨c,v,h3,h4,h6,h7⟩:=sr.fm.cell x hx
  exact⟨c,v,h3,Kin.cell h4 (hB c h6),h6,h7⟩
 ·intro a ha
  obtain⟨o,h1,h2⟩:=sr.fm.stor a ha
  obtain⟨o',e',kn⟩:=hB a ha o h1
  exact⟨o',e',fun vs n hv=>by rw[kn.cls];exact h2 vs n (kn.data.symm.trans hv)⟩
 ·obtain⟨val,g,r⟩:=sr.get i x v h1 h2
  refine⟨val,?_,r.step sr.br sr.fm st'⟩
  rcases g with ⟨g1,m,g2,g3⟩ | ⟨g1,c,g2,g3⟩
  ·exact .inl ⟨g1,m,hns m g2,g3⟩
  ·obtain⟨c',v',h3,h4,h6,h7⟩:=sr.fm.cell x g1
   rw[g2] at h3;cases h3
   exact .inr ⟨g1,c,g2,Kin.cell g3 (hB c h6)⟩
theorem SR.keepLB{a:Addr}{xs:List PyData}(x:KeepsL F.env.locals s s')(r:SR G F β ρ O s.heap)(hn:s.heap.get? a=none)(hl:ListAt s'.heap F.B β a xs)(hpl:Plain s'.heap a):Step F.W β s s' (β++[a])∧SR G F (β++[a]) ρ (O++[.lst xs]) s'.heap:=by
 have sr':=r.keepL x
 have st0:=x.step r.fm
 have st:Step F.W β s s' (β++[a]):=⟨st0.gens,st0.os,List.prefix_append _ _,fun b hb=>by
  rcases List.mem_append.mp hb with h | h
  ·exact .inl h
  ·rw[List.mem_singleton.mp h];exact .inr hn,st0.alive,st0.kept⟩
 have aB:a∉F.B:=fun h=>by obtain⟨o,e,_⟩:=r.fm.stor a h;rw[hn] at e;cases e
 have aβ:a∉β:=fun h=>by obtain⟨o,e,_⟩:=r.br.alive a h;rw[hn] at e;cases e
 have nL:F.env.locals∈F.B:=r.fm.sub _ r.fm.nsW
 have ne:∀ {b:Addr},b∈β→b≠F.env.locals:=fun hb e=>r.fm.notBox _ nL (e ▸ hb)
 refine⟨st,⟨⟨sr'.br.keep,by simp[r.br.len],?_,fun b hb=>?_,fun i b bx h1 h2=>?_,fun b hb=>(List.mem_append.mp hb).elim (sr'.br.plain b) fun h=>by rw[List.mem_singleton.mp h];exact hpl⟩,⟨sr'.fm.kind,sr'.fm.globals,sr'.fm.builtins,sr'.fm.once,sr'.fm.ns,sr'.fm.nsW,sr'.fm.cell,sr'.fm.apart,sr'.fm.sub,sr'.fm.new,fun b hb h=>?_,sr'.fm.stor,sr'.fm.frB,sr'.fm.frs,sr'.fm.pin⟩,fun i y v h1 h2=>?_⟩⟩
 ·rw[List.nodup_append]
  exact⟨r.br.nodup,by simp,fun b hb c hc=>by rw[List.mem_singleton.mp hc];exact fun e=>aβ (e ▸ hb)⟩
 ·rcases List.mem_append.mp hb with h | h
  ·exact r.br.new b h
  ·rw[List.mem_singleton.mp h]
   cases e:G.h₀.get? a with
   | none=>rfl
   | some o=>have:=r.br.keep a o e;rw[hn] at this;cases this
 ·rcases Nat.lt_or_ge i β.length with hi | hi
  ·rw[List.getElem?_append_left hi] at h1
   rw[List.getElem?_append_left (by rw[← r.br.len];exact hi)] at h2
   have hb:=r.br.at_ i b bx h1 h2
   have hne:=ne (List.mem_of_getElem? h1)
   cases bx with
   | lst ys=>
     obtain⟨o,vs,n,e1,e2,e3,as,e4,e5⟩:=hb
     obtain⟨q1,q2⟩:=zy r.br r.fm st e4 e5
     exact⟨o,vs,n,x.kept _ _ hne e1,e2,e3,as,q1,q2⟩
  ·rw[List.getElem?_append_right hi] at h1
   rw[List.getElem?_append_right (by rw[← r.br.len];exact hi)] at h2
   have hi0:i - β.length=0:=by
    rcases Nat.eq_zero_or_pos (i - β.length) with h | h
    ·exact h
    ·rw[List.getElem?_eq_none (show [a].length≤i - β.length from h)] at h1;cases h1
   rw[hi0] at h1
   rw[← r.br.len,hi0] at h2
   cases h1;cases h2
   obtain⟨o,vs,n,e1,e2,e3,as,e4,e5⟩:=hl
   have hac:=zfz e1 e2 e3 e4
   refine⟨o,vs,n,e1,e2,e3,as,e4,fun b hb=>⟨fun h=>?_,(e5 b hb).2⟩⟩
   rcases List.mem_append.mp h with h | h
   ·exact (e5 b hb).1 h
   ·rw[List.mem_singleton.mp h] at hb;exact hac hb
 ·rcases List.mem_append.mp h with h | h
  ·exact r.fm.notBox b hb h
  ·rw[List.mem_singleton.mp h] at hb;exact aB hb
 ·obtain⟨val,g,rv⟩:=r.get i y v h1 h2
  refine⟨val,?_,rv.step r.br r.fm st⟩
  rcases g with ⟨g1,m,g2,g3⟩ | ⟨g1,c,g2,o,g3,g4⟩
  ·exact .inl ⟨g1,m,x.ns m g2,g3⟩
  ·refine .inr ⟨g1,c,g2,o,x.kept _ _ (fun h=>?_) g3,g4⟩
   obtain⟨m,o',es,ep,q1,q2,_⟩:=r.fm.ns
   rw[h] at g3;rw[g3] at q1;cases q1;rw[g4] at q2;cases q2
theorem R.bind_assoc{σ α β γ:Type}(r:R σ α)(f:α→σ→R σ β)(g:β→σ→R σ γ):(r.bind f).bind g=r.bind fun a s=>(f a s).bind g:=by cases r <;> rfl
theorem LeafD.box{T:WT Value}{c:PyData}(sr:SR G F β ρ O s.heap)(h:LeafD G F s β T (V.d c) (FRel G F s)):DoesW G F s β T ((boxK (.d c) O).lift ρ) (VRel G F):=by
 cases c with
 | list xs=>
   intro Q E k
   refine h Q E fun v s' ka r=>?_
   obtain⟨a,rfl,hl,_⟩:=r.1.list_inv
   obtain⟨a',e,hn,hpl⟩:=r.2 xs rfl
   cases e
   obtain⟨st,sr'⟩:=SR.keepLB ka sr hn hl hpl
   exact k s' _ _ st sr' ⟨a,by rw[← sr.br.len];simp,rfl⟩
 | _=>trivial
end
noncomputable def jp(env:Env):List (Str×NameKind)→List (Str×Addr)→List (Str×Addr)
 | [],cs=>cs
 | (n,k)::r,cs=>if k == .free then jp env r ((n,(env.cells.lookup n).getD 0)::cs) else jp env r cs
theorem k8(env:Env)(f:Str×NameKind→List (Str×Addr)→Sem (ForInStep (List (Str×Addr))))
 (hf:∀ name kind cs,f (name,kind) cs=if kind == .free then (do let a ← cellOf env name;pure (.yield ((name,a)::cs))) else pure (.yield cs)) :
 ∀ (names:List (Str×NameKind)) (acc:List (Str×Addr)),(∀ p∈names,p.2=.free→(env.cells.lookup p.1).isSome=true)→forIn names acc f=pure (jp env names acc)
 | [],acc,_=>by rw[List.forIn_nil];rfl
 | (n,k)::r,acc,h=>by
   rw[List.forIn_cons,hf]
   have hr:∀ p∈r,p.2=.free→(env.cells.lookup p.1).isSome=true:=fun p hp=>h p (List.mem_cons_of_mem _ hp)
   unfold jp
   cases hk:k == NameKind.free with
   | true=>
     have hk':k=.free:=by cases k <;> first | rfl | (exact absurd hk (by decide))
     obtain⟨c,hc⟩:=Option.isSome_iff_exists.mp (h (n,k) List.mem_cons_self hk')
     have e:cellOf env n=pure c:=by unfold cellOf;rw[hc]
     simp only[if_true,e,pure_bind]
     rw[k8 env f hf r _ hr,hc]
     rfl
   | false=>
     simp only[Bool.false_eq_true,if_false,pure_bind]
     exact k8 env f hf r _ hr
theorem we{scope:Scope}{env:Env}(h:∀ p∈scope.names,p.2=.free→(env.cells.lookup p.1).isSome=true):closureFor scope env=pure (jp env scope.names []):=by
 unfold closureFor
 dsimp only
 rw[k8 env _ (fun name kind cs=>rfl) scope.names [] h]
 rfl
theorem kc{env:Env}{x:Str}:∀ (names:List (Str×NameKind)) (acc:List (Str×Addr)),(jp env names acc).lookup x=if (x,NameKind.free)∈names then some ((env.cells.lookup x).getD 0) else acc.lookup x
 | [],acc=>by simp[jp]
 | (n,k)::r,acc=>by
   unfold jp
   cases hk:k == NameKind.free with
   | true=>
     have hk':k=.free:=by cases k <;> first | rfl | (exact absurd hk (by decide))
     subst hk'
     rw[if_pos rfl,kc r]
     by_cases h:(x,NameKind.free)∈r
     ·rw[if_pos h,if_pos (List.mem_cons_of_mem _ h)]
     ·rw[if_neg h,List.lookup_cons]
      cases hx:x == n with
      | true=>
        have:x=n:=beq_iff_eq.mp hx
        subst this
        rw[if_pos List.mem_cons_self]
      | false=>
        rw[if_neg]
        intro hm
        rcases List.mem_cons.mp hm with e | hm
        ·cases e;rw[beq_self_eq_true] at hx;cases hx
        ·exact h hm
   | false=>
     rw[if_neg (by decide),kc r]
     by_cases h:(x,NameKind.free)∈r
     ·rw[if_pos h,if_pos (List.mem_cons_of_mem _ h)]
     ·rw[if_neg h,if_neg]
      intro hm
      rcases List.mem_cons.mp hm with e | hm
      ·cases e;exact absurd hk (by decide)
      ·exact h hm
theorem x0:∀ (names:List (Str×NameKind)) (n:Nat) (acc:List (Str×Addr)),cellsFrom n names acc=cellsFrom n names []++acc
 | [],n,acc=>rfl
 | (x,k)::r,n,acc=>by
   unfold cellsFrom
   split
   ·rw[x0 r (n+1) ((x,n)::acc),x0 r (n+1) [(x,n)]];simp
   ·exact x0 r n acc
set_option tactic.hygienic true in
theorem xz:∀ (names:List (Str×NameKind)) (n:Nat) (acc:List (Str×Addr)) {x:Str} {c:Addr},(x,c)∈cellsFrom n names acc→(x,NameKind.cell)∈names∨(x,c)∈acc
 | [],n,acc,x,c,h=>.inr h
 | (y,k)::r,n,acc,x,c,h=>by
   unfold cellsFrom at h
   split at h
   ·rename_i hk
    have hk':k=.cell:=by cases k <;> first | rfl | (exact absurd hk (by decide))
    subst hk'
    rcases xz r _ _ h with h | h
    ·exact .inl (List.mem_cons_of_mem _ h)
    ·rcases List.mem_cons.mp h with e | h
     ·cases e;exact .inl List.mem_cons_self
     ·exact .inr h
   ·rcases xz r _ _ h with h | h
    ·exact .inl (List.mem_cons_of_mem _ h)
    ·exact .inr h
set_option tactic.hygienic true in
theorem yd:∀ (names:List (Str×NameKind)) (n:Nat) (acc:List (Str×Addr)) {x:Str},((x,NameKind.cell)∈names∨(acc.lookup x).isSome=true)→((cellsFrom n names acc).lookup x).isSome=true
 | [],n,acc,x,h=>by
   rcases h with h | h
   ·cases h
   ·exact h
 | (y,k)::r,n,acc,x,h=>by
   unfold cellsFrom
   split
   ·rename_i hk
    refine yd r _ _ ?_
    rcases h with h | h
    ·rcases List.mem_cons.mp h with e | h
     ·cases e;right;rw[List.lookup_cons,beq_self_eq_true];rfl
     ·exact .inl h
    ·right
     rw[List.lookup_cons]
     cases x == y with
     | true=>rfl
     | false=>exact h
   ·rename_i hk
    refine yd r _ _ ?_
    rcases h with h | h
    ·rcases List.mem_cons.mp h with e | h
     ·cases e;exact absurd rfl hk
     ·exact .inl h
    ·exact .inr h
theorem lookup_mem{α:Type}:∀ {l:List (Str×α)} {x:Str} {k:α},(l.map (·.1)).Nodup→((x,k)∈l↔l.lookup x=some k)
 | [],x,k,_=>by simp
 | (y,j)::r,x,k,h=>by
   obtain⟨h1,h2⟩:=List.nodup_cons.mp h
   rw[List.lookup_cons]
   cases hx:x == y with
   | true=>
     have:x=y:=beq_iff_eq.mp hx
     subst this
     constructor
     ·intro hm
      rcases List.mem_cons.mp hm with e | hm
      ·cases e;rfl
      ·exact absurd (List.mem_map.mpr ⟨(x,k),hm,rfl⟩) h1
     ·intro e;cases e;exact List.mem_cons_self
   | false=>
     rw[← lookup_mem (l:=r) h2]
     constructor
     ·intro hm
      rcases List.mem_cons.mp hm with e | hm
      ·cases e;rw[beq_self_eq_true] at hx;cases hx
      ·exact hm
     ·exact List.mem_cons_of_mem _
noncomputable def ze0(scope:Scope)(env:Env)(C:Addr)(cl:List (Str×Addr)):Env:=
 { scope:=scope,locals:=C,globals:=env.globals,cells:=cellsFrom (C+1) scope.names cl,qual:=env.qual,func:=none,code:=env.code,frame:=env.frame,builtins:=env.builtins }
theorem zez{M:Model}{A:Around}{E:Value→Shared→Prop}{s:Shared}{scope:Scope}{env:Env}{cl:List (Str×Addr)}{Q:Env→Shared→Prop}
 (h:∀ s',KeepsAll s s'→s'.heap.Ns s.heap.objs.size (fun _=>none)→CellsOk s'.heap (s.heap.objs.size+1) (cellsFrom (s.heap.objs.size+1) scope.names [])→Q (ze0 scope env s.heap.objs.size cl) s') :
 wpAny M A (newFunctionEnv scope env.globals cl [] env.qual none .none (some env)) Q E s:=by
 simp only[newFunctionEnv,Option.isSome_some,if_true]
 refine wpAny_bind (wpAny_alloc ?_)
 refine wpAny_bind (wpAny_layCells _ (fun name kind cells=>by cases hkc:kind == NameKind.cell <;> simp[hkc]) _ _ _ _ ?_)
 have ok:=cellsFrom_ok scope.names (s.heap.push { cls:=.type "dict",data:=.dict #[] }) (s.heap.objs.size+1) [] ⟨fun _ _ hm=>(nomatch hm),List.Pairwise.nil⟩ (by rw [Heap.size_push];exact Nat.le_refl _)
 rw[Heap.size_push] at ok
 rw [show ({ s with heap:=s.heap.push { cls:=.type "dict",data:=.dict #[] } }:Shared).heap.objs.size=s.heap.objs.size+1 from Heap.size_push ..]
 simp only[List.forIn_nil]
 refine wpAny_bind (wpAny_pure (wpAny_pure (h _ ⟨rfl,rfl,fun b o e=>pushCells_keeps _ _ b o (Heap.get?_push_of_some _ e)⟩ ?_ ok)))
 exact (Heap.Ns.new s.heap (.type "dict")).keeps (pushCells_keeps _ _)
noncomputable def yc:CT→List Nat
 | .name i=>[i]
 | .two a b=>yc a++yc b
noncomputable def clr:List Nat→Loc→Loc
 | [],ρ=>ρ
 | i::S,ρ=>(clr S ρ).set i none
theorem zbc:∀ (S:List Nat) (ρ:Loc),(clr S ρ).length=ρ.length
 | [],_=>rfl
 | i::S,ρ=>by unfold clr;rw[List.length_set,zbc S ρ]
theorem vw:∀ (S:List Nat) (ρ:Loc) (i:Nat),i∉S→(clr S ρ)[i]?=ρ[i]?
 | [],_,_,_=>rfl
 | j::S,ρ,i,h=>by
   unfold clr
   rw[List.getElem?_set_ne (fun e=>h (by simp[e]))]
   exact vw S ρ i fun hm=>h (List.mem_cons_of_mem _ hm)
theorem zbb:∀ (S:List Nat) (ρ:Loc) (i:Nat) (v:V),i∈S→(clr S ρ)[i]?≠some (some v)
 | j::S,ρ,i,v,h,e=>by
   unfold clr at e
   rw[List.getElem?_set] at e
   by_cases hj:j=i
   ·rw[if_pos hj] at e
    split at e <;> cases e
   ·rw[if_neg hj] at e
    rcases List.mem_cons.mp h with rfl | h
    ·exact hj rfl
    ·exact zbb S ρ i v h e
noncomputable def Agree(S:List Nat)(ρ ρ':Loc):Prop:=ρ.length=ρ'.length∧∀ i,i∉S→ρ[i]?=ρ'[i]?
theorem Agree.nil{ρ ρ':Loc}(h:Agree [] ρ ρ'):ρ=ρ':=List.ext_getElem? fun i=>h.2 i (by simp)
theorem zjh(S:List Nat)(ρ:Loc):Agree S (clr S ρ) ρ:=⟨zbc S ρ,fun i hi=>vw S ρ i hi⟩
theorem zih{S:List Nat}{ρ ρ':Loc}{i:Nat}{v:Option V}(h:Agree S ρ ρ'):Agree (S.filter fun j=>j != i) (ρ.set i v) (ρ'.set i v):=by
 refine⟨by rw[List.length_set,List.length_set];exact h.1,fun j hj=>?_⟩
 rw[List.getElem?_set,List.getElem?_set]
 by_cases e:i=j
 ·rw[if_pos e,if_pos e,h.1]
 ·rw[if_neg e,if_neg e]
  refine h.2 j fun hm=>hj (List.mem_filter.mpr ⟨hm,?_⟩)
  simpa using fun e'=>e e'.symm
noncomputable def Both(S:List Nat):Option Loc→Option Loc→Prop
 | some r,some r'=>Agree S r r'
 | none,none=>True
 | _,_=>False
noncomputable def subL(S T:List Nat):List Nat:=S.filter fun j=>!T.contains j
theorem Agree.mono{S T:List Nat}{ρ ρ':Loc}(h:Agree S ρ ρ')(hs:∀ i∈S,i∈T):Agree T ρ ρ':=⟨h.1,fun i hi=>h.2 i fun hm=>hi (hs i hm)⟩
theorem zjj{S T U:List Nat}{f g:Loc→Option Loc}{a b:Option Loc}(h:Both S a b)(hf:∀ r r',Agree S r r'→Both T (f r) (g r')):Both T (a.bind f) (b.bind g):=by
 cases a <;> cases b <;> first | exact h | exact hf _ _ h | exact (show False from h).elim
theorem ze8:∀ (c:CT) (d:V) (S:List Nat) (ρ ρ':Loc),Agree S ρ ρ'→Both (subL S (yc c)) (zp c d ρ) (zp c d ρ'):=by
 intro c
 induction c with
 | name i=>
   intro d S ρ ρ' h
   unfold zp
   rw[h.1]
   by_cases hi:i < ρ'.length
   ·rw[if_pos hi,if_pos hi]
    refine (zih h).mono fun j hj=>?_
    obtain⟨h1,h2⟩:=List.mem_filter.mp hj
    refine List.mem_filter.mpr ⟨h1,?_⟩
    simp only[yc,List.contains_cons,List.contains_nil,Bool.or_false] at h2 ⊢
    simpa using h2
   ·rw[if_neg hi,if_neg hi];trivial
 | two a b iha ihb=>
   intro d S ρ ρ' h
   have key:∀ (d1 d2:V),Both (subL S (yc (.two a b))) ((zp a d1 ρ).bind (zp b d2)) ((zp a d1 ρ').bind (zp b d2)):=fun d1 d2=>by
    refine zjj (U:=[]) (iha d1 S ρ ρ' h) fun r r' h'=>?_
    have:=ihb d2 _ r r' h'
    revert this
    cases zp b d2 r <;> cases zp b d2 r' <;> intro this <;> first | exact this | skip
    refine Agree.mono this fun i hi=>?_
    simp only[subL,List.mem_filter,yc,List.contains_eq_mem,List.mem_append,Bool.not_eq_true',decide_eq_false_iff_not] at hi ⊢
    exact⟨hi.1.1,fun hm=>hm.elim hi.1.2 hi.2⟩
   cases d with
   | d x=>
     unfold zp
     cases items x with
     | none=>trivial
     | some l=>
       match l with
       | [y,z]=>exact key _ _
       | []=>trivial
       | [_]=>trivial
       | _::_::_::_=>trivial
   | _=>trivial
theorem zjk(c:CT)(d:V)(ρ:Loc):zp c d (clr (yc c) ρ)=zp c d ρ:=by
 have:=ze8 c d _ _ _ (zjh (yc c) ρ)
 have e:subL (yc c) (yc c)=[]:=by
  unfold subL
  rw[List.filter_eq_nil_iff]
  intro a ha
  simpa using ha
 rw[e] at this
 revert this
 cases zp c d (clr (yc c) ρ) <;> cases zp c d ρ <;> intro this <;> first | rfl | exact this.elim | exact congrArg some this.nil
theorem ze7:∀ (c:CT) (d:V) (ρ ρ':Loc),zp c d ρ=some ρ'→∀ i,i∉yc c→ρ'[i]?=ρ[i]?:=by
 intro c
 induction c with
 | name j=>
   intro d ρ ρ' h i hi
   unfold zp at h
   split at h
   ·cases h;exact List.getElem?_set_ne fun e=>hi (by simp[yc,e])
   ·cases h
 | two a b iha ihb=>
   intro d ρ ρ' h i hi
   simp only[yc,List.mem_append,not_or] at hi
   have key:∀ (d1 d2:V),(zp a d1 ρ).bind (zp b d2)=some ρ'→ρ'[i]?=ρ[i]?:=fun d1 d2 h=>by
    cases h1:zp a d1 ρ with
    | none=>rw[h1] at h;cases h
    | some r=>rw[h1] at h;exact (ihb d2 r ρ' h i hi.2).trans (iha d1 ρ r h1 i hi.1)
   cases d with
   | d x=>
     unfold zp at h
     cases hx:items x with
     | none=>rw[hx] at h;cases h
     | some l=>
       rw[hx] at h
       match l,h with
       | [y,z],h=>exact key _ _ h
       | [],h=>cases h
       | [_],h=>cases h
       | _::_::_::_,h=>cases h
   | _=>cases h
theorem zg3:∀ (c:CT) (e:Expr) (l:List (Option Str)) (i:Nat) (x:Str),(addT c e l)[i]?=some (some x)→l[i]?=some (some x)∨i∈yc c:=by
 intro c
 induction c with
 | name j=>
   intro e l i x h
   cases e with
   | Name y p=>
     change (if l[j]? == some none then l.set j (some y) else l)[i]?=_ at h
     split at h
     ·by_cases hj:j=i
      ·exact .inr (by simp[yc,hj])
      ·rw[List.getElem?_set_ne hj] at h;exact .inl h
     ·exact .inl h
   | _=>exact .inl h
 | two a b iha ihb=>
   intro e l i x h
   cases e with
   | Tuple es k p=>
     match es,h with
     | [y,z],h=>
       rcases ihb _ _ _ _ h with h | h
       ·rcases iha _ _ _ _ h with h | h
        ·exact .inl h
        ·exact .inr (List.mem_append_left _ h)
       ·exact .inr (List.mem_append_right _ h)
     | [],h=>exact .inl h
     | [_],h=>exact .inl h
     | _::_::_::_,h=>exact .inl h
   | _=>exact .inl h
theorem zm3{l:List (Option Str)}(h:xo l=true):∀ (i j:Nat) x,l[i]?=some (some x)→l[j]?=some (some x)→i=j:=by
 have h:(l.filterMap id).Nodup:=of_decide_eq_true h
 induction l with
 | nil=>intro i j x h1;simp at h1
 | cons o l ih=>
   have hl:(l.filterMap id).Nodup:=by
    cases o with
    | none=>simpa using h
    | some y=>simp at h;exact h.2
   intro i j x h1 h2
   have nin:∀ k,l[k]?=some (some x)→o≠some x:=fun k hk e=>by
    subst e
    simp at h
    have:some x∈l:=List.mem_of_getElem? hk
    exact h.1 this
   match i,j,h1,h2 with
   | 0,0,_,_=>rfl
   | 0,j+1,h1,h2=>simp at h1 h2;exact absurd h1 (nin j h2)
   | i+1,0,h1,h2=>simp at h1 h2;exact absurd h2 (nin i h1)
   | i+1,j+1,h1,h2=>simp at h1 h2;exact congrArg (· + 1) (ih (decide_eq_true hl) hl i j x h1 h2)
section
variable{G:Gl}{N M β:List Addr}{O:za}{h:Heap}
theorem zde{as:List Addr}(al:∀ a∈as,∃ o,h.get? a=some o)(hM:∀ a∈M,h.get? a=none)(q:∀ a∈as,a∉β∧a∉N):∀ a∈as,a∉β∧a∉M++N:=fun a ha=>by
 refine⟨(q a ha).1,fun hm=>?_⟩
 rcases List.mem_append.mp hm with hm | hm
 ·obtain⟨o,e⟩:=al a ha
  rw[hM a hm] at e;cases e
 ·exact (q a ha).2 hm
theorem ItsR.grow(hM:∀ a∈M,h.get? a=none){vs:List Value}{its:List It}(r:ItsR N β h vs its):ItsR (M++N) β h vs its:=by
 induction r with
 | nil=>exact .nil
 | b h1 _ ih=>exact .b h1 ih
 | x h1 h2 _ ih=>exact .x h1 (zde (x5 h1) hM h2) ih
theorem VR.grow(hM:∀ a∈M,h.get? a=Option.none){v:Value}{x:V}(r:VR G N β h v x):VR G (M++N) β h v x:=by
 cases x with
 | d x=>obtain⟨as,r,q⟩:=r;exact⟨as,r,zde (x5 r) hM q⟩
 | box n=>exact r
 | tm its=>obtain⟨a,o,vs,k,e,h1,h2,h3,h4⟩:=r;exact⟨a,o,vs,k,e,h1,h2,h3,h4.grow hM⟩
theorem BoxAt.grow(hM:∀ a∈M,h.get? a=none){a:Addr}{bx:Box}(r:BoxAt h N β a bx):BoxAt h (M++N) β a bx:=by
 cases bx with
 | lst xs=>obtain⟨o,vs,n,h1,h2,h3,as,h4,h5⟩:=r;exact⟨o,vs,n,h1,h2,h3,as,h4,zde (qj h4) hM h5⟩
theorem BR.grow(hM:∀ a∈M,h.get? a=none)(b:BR G N β O h):BR G (M++N) β O h:=
 ⟨b.keep,b.len,b.nodup,b.new,fun i a bx h1 h2=>(b.at_ i a bx h1 h2).grow hM,b.plain⟩
theorem BoxAt.less{N':List Addr}(hs:∀ a∈N,a∈N'){a:Addr}{bx:Box}(r:BoxAt h N' β a bx):BoxAt h N β a bx:=by
 cases bx with
 | lst xs=>obtain⟨o,vs,n,h1,h2,h3,as,h4,h5⟩:=r;exact⟨o,vs,n,h1,h2,h3,as,h4,fun b hb=>⟨(h5 b hb).1,fun hn=>(h5 b hb).2 (hs b hn)⟩⟩
theorem BR.less{N':List Addr}(hs:∀ a∈N,a∈N')(b:BR G N' β O h):BR G N β O h:=
 ⟨b.keep,b.len,b.nodup,b.new,fun i a bx h1 h2=>(b.at_ i a bx h1 h2).less hs,b.plain⟩
theorem BR.but{D:Addr}{h':Heap}(hs:∀ b o,b≠D→h.get? b=some o→h'.get? b=some o)(hN:D∈N)(hb:D∉β)(h0:G.h₀.get? D=none)(ht:∀ o vs n,h.get? D=some o→o.data=.seq vs n→o.cls≠.type "tuple")(b:BR G N β O h):BR G N β O h':=by
 have rd:∀ {v:Value} {x:PyData} {as:List Addr},Reads h v x as→(∀ a∈as,a∉β∧a∉N)→Reads h' v x as:=fun r q=>
  jk (P:=fun a=>a≠D) (fun a o e p=>hs a o p e) (fun a o vs n e hc hd=>fun e'=>by subst e';exact ht o vs n e hd hc) r fun a ha e'=>(q a ha).2 (e' ▸ hN)
 have rda:∀ {v:List Value} {x:List PyData} {as:List Addr},ReadsAll h v x as→(∀ a∈as,a∉β∧a∉N)→ReadsAll h' v x as:=fun r q=>
  xx (P:=fun a=>a≠D) (fun a o e p=>hs a o p e) (fun a o vs n e hc hd=>fun e'=>by subst e';exact ht o vs n e hd hc) r fun a ha e'=>(q a ha).2 (e' ▸ hN)
 refine⟨fun c o e=>hs c o (fun e'=>by rw[e',h0] at e;cases e) (b.keep c o e),b.len,b.nodup,b.new,fun i a bx h1 h2=>?_,fun a ha=>(b.plain a ha).at fun o e=>hs a o (fun e'=>hb (e' ▸ ha)) e⟩
 have hx:=b.at_ i a bx h1 h2
 have hne:a≠D:=fun e=>hb (e ▸ List.mem_of_getElem? h1)
 cases bx with
 | lst xs=>obtain⟨o,vs,n,e1,e2,e3,as,e4,e5⟩:=hx;exact⟨o,vs,n,hs _ _ hne e1,e2,e3,as,rda e4 e5,e5⟩
theorem ItsR.but{D:Addr}{h':Heap}(hs:∀ b o,b≠D→h.get? b=some o→h'.get? b=some o)(hN:D∈N)(ht:∀ o vs n,h.get? D=some o→o.data=.seq vs n→o.cls≠.type "tuple"){vs:List Value}{its:List It}(r:ItsR N β h vs its):ItsR N β h' vs its:=by
 induction r with
 | nil=>exact .nil
 | b h1 _ ih=>exact .b h1 ih
 | x h1 h2 _ ih=>
   refine .x (jk (P:=fun a=>a≠D) (fun a o e p=>hs a o p e) (fun a o vs n e hc hd=>fun e'=>?_) h1 fun a ha e'=>(h2 a ha).2 (e' ▸ hN)) h2 ih
   subst e';exact ht o vs n e hd hc
theorem VR.but{D:Addr}{h':Heap}(hs:∀ b o,b≠D→h.get? b=some o→h'.get? b=some o)(hN:D∈N)(ht:∀ o vs n,h.get? D=some o→o.data=.seq vs n→o.cls≠.type "tuple"){v:Value}{x:V}(r:VR G N β h v x):VR G N β h' v x:=by
 cases x with
 | d x=>
   obtain⟨as,r,q⟩:=r
   refine⟨as,jk (P:=fun a=>a≠D) (fun a o e p=>hs a o p e) (fun a o vs n e hc hd=>fun e'=>?_) r fun a ha e'=>(q a ha).2 (e' ▸ hN),q⟩
   subst e';exact ht o vs n e hd hc
 | box n=>exact r
 | tm its=>obtain⟨a,o,vs,k,e,h1,h2,h3,h4⟩:=r;exact⟨a,o,vs,k,e,hs _ _ (fun e'=>by subst e';exact ht o vs k h1 h3 h2) h1,h2,h3,h4.but hs hN ht⟩
end
theorem SR.but{G:Gl}{F:Fm}{β:List Addr}{ρ:Loc}{O:za}{h h':Heap}{D:Addr}{vs vs':Array Value}{n n':Nat}{o o':Obj}(hs:∀ b o,b≠D→h.get? b=some o→h'.get? b=some o)(hD:D∈F.B)(e:h.get? D=some o)(hc:o.cls=.type "list")(hd:o.data=.seq vs n)
 (e':h'.get? D=some o') (hc':o'.cls=.type "list") (sr:SR G F β ρ O h):SR G F β ρ O h':=by
 have ht:∀ o vs n,h.get? D=some o→o.data=.seq vs n→o.cls≠.type "tuple":=fun o₂ vs₂ n₂ e₂ _=>by rw [e] at e₂;cases e₂;rw [hc];decide
 have notD:∀ {b:Addr} {o₂:Obj},h.get? b=some o₂→(∀ vs n,o₂.data≠.seq vs n)→b≠D:=fun e₂ hn e₃=>by subst e₃;rw[e] at e₂;cases e₂;exact hn _ _ hd
 have hns:∀ {L m},h.Ns L m→h'.Ns L m:=fun ⟨o,es,ep,h1,h2,r⟩=>⟨o,es,ep,hs _ _ (notD h1 fun vs n q=>by rw[h2] at q;cases q) h1,h2,r⟩
 have hcell:∀ {c v},h.IsCell c v→h'.IsCell c v:=fun ⟨o,h1,h2⟩=>⟨o,hs _ _ (notD h1 fun vs n q=>by rw[h2] at q;cases q) h1,h2⟩
 refine⟨sr.br.but hs hD (sr.fm.notBox D hD) (sr.fm.newB hD (sr.br.notSysD e fun es n q=>by rw[hd] at q;cases q)) ht,⟨sr.fm.kind,sr.fm.globals,sr.fm.builtins,sr.fm.once,let ⟨m,hm⟩:=sr.fm.ns;⟨m,hns hm⟩,sr.fm.nsW,fun x hx=>?_,sr.fm.apart,sr.fm.sub,sr.fm.new,sr.fm.notBox,fun a ha=>?_,sr.fm.frB,fun a ha=>let ⟨m,hm⟩:=sr.fm.frs a ha;⟨m,hns hm⟩,fun m e=>⟨hns (sr.fm.pin m e).1,(sr.fm.pin m e).2⟩⟩,fun i x v h1 h2=>?_⟩
 ·obtain⟨c,v,h3,h4,h5⟩:=sr.fm.cell x hx
  exact⟨c,v,h3,hcell h4,h5⟩
 ·by_cases ha':a=D
  ·subst ha';exact⟨o',e',fun _ _ _=>by rw[hc'];decide⟩
  ·obtain⟨o₂,h1,h2⟩:=sr.fm.stor a ha
   exact⟨o₂,hs _ _ ha' h1,h2⟩
 ·obtain⟨val,g,r⟩:=sr.get i x v h1 h2
  refine⟨val,?_,r.but hs hD ht⟩
  rcases g with ⟨g1,m,g2,g3⟩ | ⟨g1,c,g2,g3⟩
  ·exact .inl ⟨g1,m,hns g2,g3⟩
  ·exact .inr ⟨g1,c,g2,hcell g3⟩
theorem SR.fewer{G:Gl}{F:Fm}{β:List Addr}{ρ ρ':Loc}{O:za}{h:Heap}(sr:SR G F β ρ O h)(hs:∀ (i:Nat) v,ρ'[i]?=some (some v)→ρ[i]?=some (some v)):SR G F β ρ' O h:=
 ⟨sr.br,sr.fm,fun i x v h1 h2=>sr.get i x v h1 (hs i v h2)⟩
theorem Step.thenW{W₀ W β₀ β β':List Addr}{s₀ s s':Shared}(st:Step W₀ β₀ s₀ s β)(st':Step W β s s' β')(hW:∀ a∈W,s₀.heap.get? a=none):Step W₀ β₀ s₀ s' β' where
 gens:=st'.gens.trans st.gens
 os:=st'.os.trans st.os
 pre:=st.pre.trans st'.pre
 fresh:=fun a ha=>by
  rcases st'.fresh a ha with h | h
  ·exact st.fresh a h
  ·right
   cases e:s₀.heap.get? a with
   | none=>rfl
   | some o=>obtain⟨o',e'⟩:=st.alive a o e;rw[e'] at h;cases h
 alive:=fun b o e=>let ⟨o',e'⟩:=st.alive b o e;st'.alive b o' e'
 kept:=fun b o e hb hW'=>by
  obtain⟨o',e',kn⟩:=st.kept b o e hb hW'
  obtain⟨o'',e'',kn'⟩:=st'.kept b o' e' (fun hb'=>by
   rcases st.fresh b hb' with h | h
   ·exact hb h
   ·rw[e] at h;cases h) fun hw=>by rw[hW b hw] at e;cases e
  exact⟨o'',e'',kn.trans kn'⟩
noncomputable def zj(cx:Cx)(F:Fm)(tgt:CT)(t:Expr)(scope:Scope)(C D:Addr):Fm:=
 { env:={ ze0 scope F.env C (jp F.env scope.names []) with scope:=relabel scope F.env }
   names:=(cx.inner tgt t scope).names
   own:=ownOf scope
   W:=C::(cellsFrom (C+1) scope.names []).map (·.2)
   B:=(D::C::(cellsFrom (C+1) scope.names []).map (·.2))++F.B
   fr:=F.fr }
theorem yn{scope sc:Scope}(h:xg scope sc=true):scope.kind=.function∧(scope.names.map (·.1)).Nodup∧∀ x k,(x,k)∈scope.names→k=.local∨k=.cell∨k=.globalImplicit∨(k=.free∧sc.names.lookup x=some .cell):=by
 obtain⟨h1,h2,h3⟩:=and3 h
 refine⟨beq_iff_eq.mp h1,of_decide_eq_true h2,fun x k hm=>?_⟩
 have:=List.all_eq_true.mp h3 (x,k) hm
 simpa [Bool.or_eq_true,Bool.and_eq_true,beq_iff_eq,or_assoc] using this
theorem w3(f:Str→NameKind→NameKind):∀ (l:List (Str×NameKind)) (x:Str),(l.map fun (n,k)=>(n,f n k)).lookup x=(l.lookup x).map (f x)
 | [],x=>rfl
 | (n,k)::r,x=>by
   rw[List.map_cons,List.lookup_cons,List.lookup_cons]
   cases hx:x == n with
   | true=>rw[beq_iff_eq.mp hx];rfl
   | false=>exact w3 f r x
section
variable{G:Gl}{F:Fm}{A:Around}{cx:Cx}{tgt:CT}{t:Expr}{scope:Scope}
theorem zfy(fit:Fits F cx)(hk:F.env.scope.kind=.function):relabel scope F.env=zb4 scope cx.sc:=by
 unfold relabel zb4
 congr 1
 refine List.map_congr_left fun p _=>?_
 obtain⟨n,k⟩:=p
 have h1:F.env.kindOf n=cx.sc.names.lookup n:=fit.kind n
 dsimp only
 rw[h1,hk,fit.sck]
theorem zat(fit:Fits F cx)(hk:F.env.scope.kind=.function)(C D:Addr)(x:Str):(zj cx F tgt t scope C D).env.kindOf x=(cx.inner tgt t scope).kind x:=by
 show (relabel scope F.env).names.lookup x=(zb4 scope cx.sc).names.lookup x
 rw[zfy fit hk]
theorem zeh(hsc:xg scope cx.sc=true)(fit:Fits F cx)(x:Str):(cx.inner tgt t scope).kind x=(match scope.names.lookup x with | some .free=>some .cell | o=>o):=by
 obtain⟨h1,h2,h3⟩:=yn hsc
 show (zb4 scope cx.sc).names.lookup x=_
 unfold zb4
 have e:(scope.names.map fun (n,k)=>if (k == NameKind.free && cx.sc.kind == ScopeKind.function && cx.sc.names.lookup n == some NameKind.cell) then (n,NameKind.cell) else (n,k)) =
  scope.names.map fun (n,k)=>(n,if (k == NameKind.free && cx.sc.kind == ScopeKind.function && cx.sc.names.lookup n == some NameKind.cell) then NameKind.cell else k):=by
  refine List.map_congr_left fun p _=>?_
  obtain⟨n,k⟩:=p
  dsimp only
  split <;> rfl
 dsimp only
 rw[e,w3 (fun n k=>if (k == NameKind.free && cx.sc.kind == ScopeKind.function && cx.sc.names.lookup n == some NameKind.cell) then NameKind.cell else k)]
 cases hl:scope.names.lookup x with
 | none=>rfl
 | some k=>
   have hm:=(lookup_mem h2).mpr hl
   dsimp only[Option.map]
   rcases h3 x k hm with rfl | rfl | rfl | ⟨rfl,hc⟩
   ·rfl
   ·rfl
   ·rfl
   ·rw[hc,fit.sck];rfl
theorem zau(fit:Fits F cx)(hk:F.env.scope.kind=.function)(hsc:xg scope cx.sc=true)(C D:Addr):Fits (zj cx F tgt t scope C D) (cx.inner tgt t scope) where
 names:=rfl
 kind:=zat fit hk C D
 sck:=(yn hsc).1
end
section
variable{prog:Program}{w:World}{A:Around}{R:Result→Shared→Prop}{s:Shared}
noncomputable def xf(ifs:List Expr)(env:Env):Sem Bool:=forIn ifs true fun c r=>if r=true then do let ok ← isTrue c env (eval c env);pure (ForInStep.yield ok) else pure (ForInStep.yield r)
theorem qw{elt target iter:Expr}{ifs:List Expr}{scope:Scope}{pos:Pos}{it acc:Value}{env:Env}(I:Nat→Shared→Prop)
 (turn:∀ n s,I n s→wpAny (model prog w) A (pyNext it) (fun r s₁=>match r with
   | none=>R (.ok .next) s₁
   | some v=>wpAny (model prog w) A (letOwnedTupleGo target it v) (fun _ s₁'=>wpAny (model prog w) A (assign target env v) (fun _ s₂=>
      wpAny (model prog w) A (xf ifs env) (fun ok s₃=>
       if ok=true then wpAny (model prog w) A (eval elt env) (fun x s₄=>
        wpAny (model prog w) A (call (.builtin "list.append") [acc,x]) (fun _ s₅=>∃ m,m < n∧I m s₅) (notedBy (model prog w) A env fun e s'=>R (.error e) s') s₄) (notedBy (model prog w) A env fun e s'=>R (.error e) s') s₃
       else ∃ m,m < n∧I m s₃) (notedBy (model prog w) A env fun e s'=>R (.error e) s') s₂) (notedBy (model prog w) A env fun e s'=>R (.error e) s') s₁') (notedBy (model prog w) A env fun e s'=>R (.error e) s') s₁)
   (notedBy (model prog w) A env fun e s'=>R (.error e) s') s)
 (n:Nat) (h:I n s):codeAny (model prog w) A (.compLoop (.ListComp elt [⟨target,iter,ifs,0⟩] scope pos) 0 it acc env) R s:=by
 refine codeAny_loop rfl I (fun n s hI=>?_) n h
 show wpAny _ A ((compTurn (.ListComp elt [⟨target,iter,ifs,0⟩] scope pos) 0 it acc env).onRaise (fun x=>do noteFrame x env;theTreesLotGoes x)) _ _ s
 refine wpAny_noted ?_
 rw[compTurn_list]
 refine wpAny_bind (wpAny_standAt (wpAny_bind (wpAny_mono (turn n s hI) (fun r s₁ h₁=>?_) fun _ _ h'=>h')))
 cases r with
 | none=>exact wpAny_pure h₁
 | some v=>
   refine wpAny_bind (wpAny_mono h₁ (fun _ s₁' h₁'=>?_) fun _ _ h'=>h')
   refine wpAny_bind (wpAny_mono h₁' (fun _ s₂ h₂=>wpAny_bind (wpAny_mono h₂ (fun ok s₃ h₃=>?_) fun _ _ h'=>h')) fun _ _ h'=>h')
   cases ok with
   | false=>exact wpAny_pure ⟨rfl,h₃⟩
   | true=>
     exact wpAny_bind (wpAny_bind (wpAny_mono h₃ (fun x s₄ h₄=>wpAny_bind (wpAny_mono h₄ (fun _ s₅ h₅=>wpAny_pure (wpAny_pure ⟨rfl,h₅⟩)) fun _ _ h'=>h')) fun _ _ h'=>h'))
end
section
variable{G:Gl}{F:Fm}{A:Around}{cx:Cx}{tgt:CT}{t:Expr}{scope:Scope}{gval:Nat→Option PyData}{gname:Nat→Option Str}
set_option tactic.hygienic true in
theorem zj3{β:List Addr}{ρ:Loc}{O:za}{s s':Shared}{C D:Addr}{m:Str→Option Value}{oD:Obj}(fit:Fits F cx)(sr:SR G F β ρ O s.heap)(hsc:xg scope cx.sc=true)(honce:xo (cx.inner tgt t scope).names=true)
 (kept:∀ b o,s.heap.get? b=some o→s'.heap.get? b=some o) (hns:s'.heap.Ns C m) (ok:CellsOk s'.heap (C+1) (cellsFrom (C+1) scope.names [])) (hlo:∀ a,C≤a→s.heap.get? a=none)
 (hDn:s.heap.get? D=none) (hD:s'.heap.get? D=some oD) (hDc:oD.cls=.type "list"):SR G (zj cx F tgt t scope C D) β (clr (yc tgt) ρ) O s'.heap:=by
 obtain⟨k1,k2,k3⟩:=yn hsc
 have hkind:=zat (tgt:=tgt) (t:=t) (scope:=scope) fit sr.fm.kind C D
 have hkind':=zeh (tgt:=tgt) (t:=t) hsc fit
 have hCn:s.heap.get? C=none:=hlo C (Nat.le_refl _)
 have hcn:∀ x c,(x,c)∈cellsFrom (C+1) scope.names []→s.heap.get? c=none:=fun x c hm=>hlo c (Nat.le_of_succ_le (ok.empty x c hm).2)
 have hM:∀ a∈D::C::(cellsFrom (C+1) scope.names []).map (·.2),s.heap.get? a=none:=fun a ha=>by
  rcases List.mem_cons.mp ha with rfl | ha
  ·exact hDn
  ·rcases List.mem_cons.mp ha with rfl | ha
   ·exact hCn
   ·obtain⟨p,hp,rfl⟩:=List.mem_map.mp ha
    exact hcn p.1 p.2 hp
 have h0:∀ a,s.heap.get? a=none→G.h₀.get? a=none:=fun a ha=>by
  cases e:G.h₀.get? a with
  | none=>rfl
  | some o=>have:=sr.br.keep a o e;rw[ha] at this;cases this
 have lkup:∀ x,(zj cx F tgt t scope C D).env.cells.lookup x=((cellsFrom (C+1) scope.names []).lookup x).or (if (x,NameKind.free)∈scope.names then some ((F.env.cells.lookup x).getD 0) else none):=fun x=>by
  show (cellsFrom (C+1) scope.names (jp F.env scope.names [])).lookup x=_
  rw[x0,List.lookup_append,kc]
  rfl
 have newNone:∀ x,(x,NameKind.free)∈scope.names→(cellsFrom (C+1) scope.names []).lookup x=none:=fun x hx=>by
  cases e:(cellsFrom (C+1) scope.names []).lookup x with
  | none=>rfl
  | some c=>
    rcases xz _ _ _ (mem_of_lookup e) with h | h
    ·have e1:=(lookup_mem k2).mp hx
     have e2:=(lookup_mem k2).mp h
     rw[e1] at e2;cases e2
    ·cases h
 have outer:∀ x,(x,NameKind.free)∈scope.names→∃ c v,F.env.cells.lookup x=some c∧s.heap.IsCell c v∧c∈F.B∧(zj cx F tgt t scope C D).env.cells.lookup x=some c:=fun x hx=>by
  have hc:cx.sc.names.lookup x=some .cell:=by
   rcases k3 x _ hx with h | h | h | ⟨_,h⟩
   ·cases h
   ·cases h
   ·cases h
   ·exact h
  obtain⟨c,v,h1,h2,h3,_⟩:=sr.fm.cell x ((fit.kind x).trans hc)
  refine⟨c,v,h1,h2,h3,?_⟩
  rw[lkup,newNone x hx,if_pos hx,h1];rfl
 refine⟨(sr.br.grow hM).keepAll kept,⟨k1,sr.fm.globals,sr.fm.builtins,zm3 honce,⟨m,hns⟩,List.mem_cons_self,fun x hx=>?_,fun x y c hx hy=>?_,fun a ha=>List.mem_append_left _ (List.mem_cons_of_mem _ ha),?_,fun a ha hb=>?_,fun a ha=>?_,fun a ha=>List.mem_append_right _ (sr.fm.frB a ha),fun a ha=>let ⟨m,hm⟩:=sr.fm.frs a ha;⟨m,hm.keeps kept⟩,fun m e=>nomatch e⟩,fun i x v h1 h2=>?_⟩
 ·rw[hkind,hkind'] at hx
  cases hl:scope.names.lookup x with
  | none=>rw[hl] at hx;cases hx
  | some k=>
    have hm:=(lookup_mem k2).mpr hl
    rw[hl] at hx
    cases k with
    | cell=>
      obtain⟨c,hc⟩:=Option.isSome_iff_exists.mp (yd scope.names (C+1) [] (.inl hm))
      have hmem:=mem_of_lookup hc
      have hW:c∈C::(cellsFrom (C+1) scope.names []).map (·.2):=List.mem_cons_of_mem _ (List.mem_map.mpr ⟨(x,c),hmem,rfl⟩)
      exact⟨c,none,by rw[lkup,hc];rfl,(ok.empty x c hmem).1,List.mem_append_left _ (List.mem_cons_of_mem _ hW),fun _=>hW⟩
    | free=>
      obtain⟨c,v,h1,h2,h3,h4⟩:=outer x hm
      refine⟨c,v,h4,h2.keeps kept,List.mem_append_right _ h3,fun ho=>?_⟩
      have ho:ownOf scope x=true:=ho
      unfold ownOf at ho
      rw[hl] at ho
      exact absurd ho (by decide)
    | _=>cases hx
 ·rw[lkup] at hx hy
  cases e1:(cellsFrom (C+1) scope.names []).lookup x with
  | some c1=>
    rw[e1] at hx
    have:c1=c:=Option.some.inj hx
    subst this
    cases e2:(cellsFrom (C+1) scope.names []).lookup y with
    | some c2=>
      rw[e2] at hy
      have:c2=c1:=Option.some.inj hy
      subst this
      exact name_of_addr ok.apart (mem_of_lookup e1) (mem_of_lookup e2)
    | none=>
      rw[e2] at hy
      by_cases hf:(y,NameKind.free)∈scope.names
      ·obtain⟨c',v,q1,⟨o,q2,_⟩,_,_⟩:=outer y hf
       rw[if_pos hf,q1] at hy
       have:c'=c1:=Option.some.inj hy
       subst this
       have:=hcn x c' (mem_of_lookup e1)
       rw[q2] at this;cases this
      ·rw[if_neg hf] at hy;cases hy
  | none=>
    rw[e1] at hx
    by_cases hf:(x,NameKind.free)∈scope.names
    ·obtain⟨c',v,q1,⟨o,q2,_⟩,_,_⟩:=outer x hf
     rw[if_pos hf,q1] at hx
     have:c'=c:=Option.some.inj hx
     subst this
     cases e2:(cellsFrom (C+1) scope.names []).lookup y with
     | some c2=>
       rw[e2] at hy
       have:c2=c':=Option.some.inj hy
       subst this
       have:=hcn y c2 (mem_of_lookup e2)
       rw[q2] at this;cases this
     | none=>
       rw[e2] at hy
       by_cases hf':(y,NameKind.free)∈scope.names
       ·obtain⟨c'',v',q1',_⟩:=outer y hf'
        rw[if_pos hf',q1'] at hy
        have:c''=c':=Option.some.inj hy
        subst this
        exact sr.fm.apart x y c'' q1 q1'
       ·rw[if_neg hf'] at hy;cases hy
    ·rw[if_neg hf] at hx;cases hx
 ·have:=zd8 (F:=F) (fr:=[]) sr.br hM ⟨sr.fm.new.1,sr.fm.new.2.1⟩
  exact⟨this.1,this.2.1,fun hm=>this.2.2 (List.mem_cons_of_mem _ hm),sr.fm.new.2.2.2⟩
 ·rcases List.mem_append.mp ha with ha | ha
  ·obtain⟨o,e,_⟩:=sr.br.alive a hb
   rw[hM a ha] at e;cases e
  ·exact sr.fm.notBox a ha hb
 ·rcases List.mem_append.mp ha with ha | ha
  ·rcases List.mem_cons.mp ha with rfl | ha
   ·exact⟨oD,hD,fun _ _ _=>by rw[hDc];decide⟩
   ·rcases List.mem_cons.mp ha with rfl | ha
    ·obtain⟨o,es,ep,q1,q2,_⟩:=hns
     exact⟨o,q1,fun vs n q=>by rw[q2] at q;cases q⟩
    ·obtain⟨p,hp,rfl⟩:=List.mem_map.mp ha
     obtain⟨o,q1,q2⟩:=(ok.empty p.1 p.2 hp).1
     exact⟨o,q1,fun vs n q=>by rw[q2] at q;cases q⟩
  ·obtain⟨o,q1,q2⟩:=sr.fm.stor a ha
   exact⟨o,kept _ _ q1,q2⟩
 ·have hi:i∉yc tgt:=fun hm=>zbb _ _ _ _ hm h2
  rw[vw _ _ _ hi] at h2
  rcases zg3 tgt t _ i x h1 with h1 | h1
  ·rw[List.getElem?_map] at h1
   cases hn:cx.names[i]? with
   | none=>rw[hn] at h1;cases h1
   | some o=>
     rw[hn] at h1
     cases o with
     | none=>cases h1
     | some y=>
       simp only[Option.map_some,Option.filter,Option.some.injEq] at h1
       split at h1
       ·rename_i hfree
        cases (h1)
        have hfree:scope.names.lookup x=some .free:=beq_iff_eq.mp hfree
        have hm:=(lookup_mem k2).mpr hfree
        obtain⟨val,g,r⟩:=sr.get i x v (by rw[fit.names];exact hn) h2
        obtain⟨c,v',q1,q2,q3,q4⟩:=outer x hm
        refine⟨val,?_,(r.grow hM).keepAll kept⟩
        have hcl:F.env.kindOf x=some .cell:=by
         rcases k3 x _ hm with h | h | h | ⟨_,h⟩
         ·cases h
         ·cases h
         ·cases h
         ·exact (fit.kind x).trans h
        rcases g with ⟨g1,_⟩ | ⟨g1,c',g2,g3⟩
        ·rw[hcl] at g1;cases g1
        ·rw [q1] at g2;cases g2
         refine .inr ⟨?_,c,q4,g3.keeps kept⟩
         rw[hkind,hkind',hfree]
       ·cases h1
  ·exact absurd h1 hi
structure StepZ(Z β:List Addr)(s s':Shared)(β':List Addr):Prop where
 gens:s'.gens=s.gens
 os:s'.os=s.os
 pre:β <+: β'
 fresh:∀ a∈β',a∈β∨s.heap.get? a=none
 alive:∀ b o,b∉Z→s.heap.get? b=some o→∃ o',s'.heap.get? b=some o'
 kept:∀ b o,b∉Z→s.heap.get? b=some o→b∉β→∃ o',s'.heap.get? b=some o'∧Kin o o'
theorem StepZ.keptE{Z β:List Addr}{s s':Shared}{β':List Addr}(x:StepZ Z β s s' β'){b:Addr}{o:Obj}(hz:b∉Z)(e:s.heap.get? b=some o)(hb:b∉β)(hd:∀ es n,o.data≠.dict es n):s'.heap.get? b=some o:=by
 obtain⟨o',e',k⟩:=x.kept b o hz e hb
 rw[e',k.same hd]
theorem Step.z{Z β β':List Addr}{s s' s'':Shared}(st:Step Z β s s' β')(kz:KeepsZ Z s' s''):StepZ Z β s s'' β':=
 ⟨kz.gens.trans st.gens,kz.os.trans st.os,st.pre,st.fresh,fun b o hz e=>let ⟨o',e'⟩:=st.alive b o e;⟨o',kz.kept b o' hz e'⟩,fun b o hz e hb=>let ⟨o',e',kn⟩:=st.kept b o e hb hz;⟨o',kz.kept b o' hz e',kn⟩⟩
theorem Step.thenStepZ{W Z β₀ β β':List Addr}{s₀ s s':Shared}(st:Step W β₀ s₀ s β)(sz:StepZ Z β s s' β')(hz:∀ z∈Z,s₀.heap.get? z=none):Step W β₀ s₀ s' β' where
 gens:=sz.gens.trans st.gens
 os:=sz.os.trans st.os
 pre:=st.pre.trans sz.pre
 fresh:=fun a ha=>by
  rcases sz.fresh a ha with h | h
  ·exact st.fresh a h
  ·right
   cases e:s₀.heap.get? a with
   | none=>rfl
   | some o=>obtain⟨o',e'⟩:=st.alive a o e;rw[e'] at h;cases h
 alive:=fun b o e=>by
  obtain⟨o',e'⟩:=st.alive b o e
  exact sz.alive b o' (fun h=>by rw[hz b h] at e;cases e) e'
 kept:=fun b o e hb hW=>by
  obtain⟨o',e',kn⟩:=st.kept b o e hb hW
  obtain⟨o'',e'',kn'⟩:=sz.kept b o' (fun h=>by rw[hz b h] at e;cases e) e' fun hb'=>by
   rcases st.fresh b hb' with h | h
   ·exact hb h
   ·rw[e] at h;cases h
  exact⟨o'',e'',kn.trans kn'⟩
structure CompEnd(G:Gl)(F:Fm)(scope:Scope)(Z β₁:List Addr)(s₁:Shared)(C D:Addr)(acc:List PyData)(O':za)(s':Shared)(β':List Addr):Prop where
 step:StepZ Z β₁ s₁ s' β'
 br:BR G (D::(C::(cellsFrom (C+1) scope.names []).map (·.2))++F.B) β' O' s'.heap
 list:ListAt s'.heap (D::(C::(cellsFrom (C+1) scope.names []).map (·.2))++F.B) β' D acc
 ns:∃ m,s'.heap.Ns C m
 stor:∀ a∈C::(cellsFrom (C+1) scope.names []).map (·.2),∃ o,s'.heap.get? a=some o∧∀ vs n,o.data=.seq vs n→o.cls≠.type "tuple"
 notBox:∀ a∈D::(C::(cellsFrom (C+1) scope.names []).map (·.2))++F.B,a∉β'
 new:∀ a∈D::C::(cellsFrom (C+1) scope.names []).map (·.2),s₁.heap.get? a=none
 notCell:D∉(cellsFrom (C+1) scope.names []).map (·.2)
 plain:Plain s'.heap D
inductive CInv(G:Gl)(F':Fm)(src:Src)(Z β₁:List Addr)(s₁:Shared)(D:Addr)(ρc:Loc)(St:Nat→List Addr→List Addr→Heap→Prop)(go:List PyData→List PyData→za→Prop)(k:Nat)(s:Shared):Prop
 | mk (i:Nat) (β:List Addr) (O:za) (acc:List PyData) (hk:k=src.xs.length+1 - i) (hi:i≤src.xs.length) (step:Step Z β₁ s₁ s β) (sr:SR G F' β ρc O s.heap) (has:src.Has O) (st:St i F'.B β s.heap)
   (hl:ListAt s.heap F'.B β D acc) (hpl:Plain s.heap D) (hal:acc.length≤i) (hgo:go (src.xs.drop i) acc O)
inductive zme(evX:za→R za V)(O₂:za):Bool→Option PyData→za→Prop
 | skip:zme evX O₂ false none O₂
 | put (d:PyData) (O':za) (h:evX O₂=.ok (.d d) O'):zme evX O₂ true (some d) O'
inductive TurnOk(tgt:CT)(evT:Loc→za→R za Bool)(evX:Loc→za→R za V)(ρ:Loc)(x:PyData)(O:za)(y:Option PyData)(O':za):Prop
 | mk (ρ':Loc) (b:Bool) (O₂:za) (hb:zp tgt (.d x) ρ=some ρ') (ht:evT ρ' O=.ok b O₂) (hp:zme (evX ρ') O₂ b y O')
theorem zmz{r:R za V}{y:Option PyData}{O':za}(h:(r.bind fun v O=>(match v with | .d y=>R.ok (some y) O | _=>.stuck))=.ok y O'):∃ d,r=.ok (.d d) O'∧y=some d:=by
 cases r with
 | ok v O=>cases v <;> first | (cases h;done) | skip
           exact⟨_,by cases h;rfl,by cases h;rfl⟩
 | _=>cases h
theorem zju{tgt:CT}{evT:Loc→za→R za Bool}{evX:Loc→za→R za V}{ρ:Loc}{x:PyData}{O:za}{y:Option PyData}{O':za}(h:yz tgt evT evX ρ x O=.ok y O'):TurnOk tgt evT evX ρ x O y O':=by
 unfold yz at h
 cases hb:zp tgt (.d x) ρ with
 | none=>rw[hb] at h;cases h
 | some ρ'=>
   rw[hb] at h
   dsimp only at h
   cases ht:evT ρ' O with
   | ok b O₂=>
     rw[ht] at h
     cases b with
     | false=>cases h;exact⟨ρ',false,_,hb,ht,.skip⟩
     | true=>obtain⟨d,e,rfl⟩:=zmz h;exact⟨ρ',true,O₂,hb,ht,.put d O' e⟩
   | _=>rw[ht] at h;cases h
inductive GoOk(src:Src)(turn:PyData→za→R za (Option PyData))(x:PyData)(xs acc:List PyData)(O:za)(v:V)(O':za):Prop
 | mk (y:Option PyData) (O₂:za) (ht:turn x O=.ok y O₂) (hs:src.still O₂=true) (hg:z7 src turn xs (acc++y.toList) O₂=.ok v O')
theorem zqo{src:Src}{turn:PyData→za→R za (Option PyData)}{x:PyData}{xs acc:List PyData}{O:za}{v:V}{O':za}(h:z7 src turn (x::xs) acc O=.ok v O'):GoOk src turn x xs acc O v O':=by
 have h:(match turn x O with
  | .ok y O'=>if src.still O' then z7 src turn xs (acc++y.toList) O' else .stuck
  | _=>.stuck)=R.ok v O':=h
 cases ht:turn x O with
 | ok y O₂=>
   rw[ht] at h
   dsimp only at h
   by_cases hs:src.still O₂=true
   ·rw[if_pos hs] at h;exact⟨y,O₂,ht,hs,h⟩
   ·rw[if_neg hs] at h;cases h
 | _=>rw[ht] at h;cases h
theorem ut{F':Fm}{D:Addr}{acc:List PyData}{s s':Shared}{β β':List Addr}{ρ:Loc}{O:za}(hDB:D∈F'.B)(hDW:D∉F'.W)(sr:SR G F' β ρ O s.heap)(st:Step F'.W β s s' β')(h:ListAt s.heap F'.B β D acc):ListAt s'.heap F'.B β' D acc:=by
 obtain⟨o,vs,n,e1,e2,e3,as,e4,e5⟩:=h
 obtain⟨q1,q2⟩:=zy sr.br sr.fm st e4 e5
 exact⟨o,vs,n,st.keptE e1 (sr.fm.notBox D hDB) hDW (fun es n q=>by rw[e3] at q;cases q),e2,e3,as,q1,q2⟩
theorem wm{F':Fm}{D:Addr}{acc:List PyData}{s s':Shared}{β β':List Addr}{ρ:Loc}{O:za}(hDB:D∈F'.B)(hDW:D∉F'.W)(sr:SR G F' β ρ O s.heap)(st:Step F'.W β s s' β')(p:Plain s.heap D)(h:ListAt s.heap F'.B β D acc):Plain s'.heap D:=by
 obtain⟨o,vs,n,e1,e2,e3,as,e4,e5⟩:=h
 exact p.at fun o e=>st.keptE e (sr.fm.notBox D hDB) hDW (fun es n q=>by rw[e1] at e;cases e;rw[e3] at q;cases q)
theorem zje{F':Fm}{D:Addr}{acc:List PyData}{s:Shared}{β:List Addr}{ρ:Loc}{O:za}{v:Value}{y:PyData}{Q:Value→Shared→Prop}{E:Value→Shared→Prop}(hDB:D∈F'.B)(sr:SR G F' β ρ O s.heap)(rv:VR G F'.B β s.heap v (.d y))(hl:ListAt s.heap F'.B β D acc)(hpl:Plain s.heap D)(hn:acc.length≤line)
 (k:∀ h',(∀ b o,b≠D→s.heap.get? b=some o→h'.get? b=some o)→(∃ o,h'.get? D=some o)→SR G F' β ρ O h'→(∀ v x,VR G F'.B β s.heap v (.d x)→VR G F'.B β h' v (.d x))→ListAt h' F'.B β D (acc++[y])→Plain h' D→Q .none { s with heap:=h' }) :
 wpAny (model G.prog G.w) A (call (.builtin "list.append") [.ref D,v]) Q E s:=by
 obtain⟨o,vs,n,e1,e2,e3,as,e4,e5⟩:=hl
 have hvl:=zd e4
 have hvs:vs.size≤sizeLine:=by
  rw[← Array.length_toList,hvl]
  exact Nat.le_trans hn (by decide)
 have hPL:s.heap.PlainList D vs:=by
  obtain⟨o₉,g1,g2,g3⟩:=hpl
  rw[e1] at g1;cases g1
  obtain⟨cl,di,da,sl⟩:=o
  simp only at e2 e3 g2 g3
  subst e2 e3 g2 g3
  exact⟨n,e1⟩
 refine wpAny_list_append_plain hPL (fun h' hl₆ hs₆=>?_) hvs
 obtain⟨n',f1⟩:=hl₆
 have hs':∀ b o,b≠D→s.heap.get? b=some o→h'.get? b=some o:=fun b o hb e=>(hs₆.2 b hb).trans e
 have tup:∀ o₂ vs₂ n₂,s.heap.get? D=some o₂→o₂.data=.seq vs₂ n₂→o₂.cls≠.type "tuple":=fun o₂ vs₂ n₂ e₂ _=>by rw [e1] at e₂;cases e₂;rw [e2];decide
 have vr:∀ v x,VR G F'.B β s.heap v (.d x)→VR G F'.B β h' v (.d x):=fun v x r=>r.but hs' hDB tup
 obtain⟨bs,r5,q5⟩:=vr _ _ rv
 have r4:ReadsAll h' vs.toList acc as:=xx (P:=fun a=>a≠D) (fun a o e p=>hs' a o p e) (fun a o vs n e hc hd=>fun e'=>by subst e';exact tup o vs n e hd hc) e4 fun a ha e'=>(e5 a ha).2 (e' ▸ hDB)
 refine k h' hs' ⟨_,f1⟩ (sr.but (n':=n') (vs':=vs) hs' hDB e1 e2 e3 f1 rfl) vr ⟨_,_,n',f1,rfl,rfl,as++(bs++[]),?_,fun a ha=>?_⟩ ⟨_,f1,rfl,rfl⟩
 ·rw[Array.toList_push]
  exact yj r4 (.cons r5 .nil)
 ·rw[List.append_nil] at ha
  exact (List.mem_append.mp ha).elim (e5 a) (q5 a)
theorem zjf{elt iter:Expr}{ifs:List Expr}{pos:Pos}{src:Src}{I D:Addr}{Z:List Addr}{St:Nat→List Addr→List Addr→Heap→Prop}{evT:Loc→za→R za Bool}{evX:Loc→za→R za V}{F':Fm}{cx':Cx}{own:Str→Bool}
 (g:GOk G gval gname) (hh:A.handled=none) (fit':Fits F' cx') (hown:∀ x,own x=true→F'.own x=true) (hc:chkT cx' own tgt t=true)
 (ht:∀ s β ρ O,SR G F' β ρ O s.heap→Does G F' A s β (xf ifs F'.env) ((evT ρ O).lift ρ) BRel)
 (he:∀ s β ρ O,SR G F' β ρ O s.heap→Does G F' A s β (eval elt F'.env) ((evX ρ O).lift ρ) (VRel G F'))
 (W:Turns G A t I Z src St) {s₁ s:Shared} {β₁:List Addr} {ρ:Loc} {O₁:za} (hz0:∀ z∈Z,G.h₀.get? z=none) (hzF:∀ z∈Z,z∉F'.B) (hDn:s₁.heap.get? D=none) (hWn:∀ a∈F'.W,s₁.heap.get? a=none) (hDW:D∉F'.W) (hDB:D∈F'.B)
 (hlen:src.xs.length≤line) (step:Step Z β₁ s₁ s β₁) (sr:SR G F' β₁ (clr (yc tgt) ρ) O₁ s.heap) (has:src.Has O₁) (st:St 0 F'.B β₁ s.heap) (hlist:s.heap.PlainList D #[])
 {v:V} {O':za} (hgo:z7 src (yz tgt evT evX ρ) src.xs [] O₁=.ok v O') {R:Result→Shared→Prop}
 (hR:∀ s' β' res,v=.d (.list res)→StepZ Z β₁ s₁ s' β'→SR G F' β' (clr (yc tgt) ρ) O' s'.heap→ListAt s'.heap F'.B β' D res→Plain s'.heap D→R (.ok .next) s') :
 codeAny (model G.prog G.w) A (.compLoop (.ListComp elt [⟨t,iter,ifs,0⟩] scope pos) 0 (.ref I) (.ref D) F'.env) R s:=by
 obtain⟨n,e1⟩:=hlist
 refine qw (CInv G F' src Z β₁ s₁ D (clr (yc tgt) ρ) St fun xs acc O=>z7 src (yz tgt evT evX ρ) xs acc O=.ok v O') ?_ (src.xs.length+1) ⟨0,β₁,O₁,[],rfl,Nat.zero_le _,step,sr,has,st,⟨_,_,n,e1,rfl,rfl,[],.nil,fun _ h=>nomatch h⟩,⟨_,e1,rfl,rfl⟩,Nat.le_refl _,hgo⟩
 clear hgo st has sr step e1
 intro k s hI
 obtain⟨i,β,O,acc,rfl,hi,step,sr,has,st,hl,hpl,hal,hgo⟩:=hI
 have hitr:=W.itr _ _ _ _ st
 by_cases hlt:i < src.xs.length
 ·rw[List.drop_eq_getElem_cons hlt] at hgo
  have hx:src.xs[i]?=some src.xs[i]:=List.getElem?_eq_getElem hlt
  generalize src.xs[i]=x at hgo hx
  obtain⟨y,O₃,ht',hst,hgo⟩:=zqo hgo
  obtain⟨ρ',b,O₂,hbt,het,hput⟩:=zju ht'
  refine W.item i _ β O s x _ _ hx sr.br has st fun v s₂ kk=>?_
  refine kk _ _ fun s' kz rv st'=>?_
  have sr':=sr.keepZ hitr kz.kept g.clsRef hz0 hzF
  have step':Step Z β₁ s₁ s' β:=⟨kz.gens.trans step.gens,kz.os.trans step.os,step.pre,step.fresh,fun b o e=>by
   by_cases hb:b∈Z
   ·obtain⟨o',_,_,e',_⟩:=W.itr _ _ _ _ st' b hb;exact⟨o',e'⟩
   ·obtain⟨o',e'⟩:=step.alive b o e;exact⟨o',kz.kept b o' hb e'⟩,fun b o e hb hz=>let ⟨o',e',kn⟩:=step.kept b o e hb hz;⟨o',kz.kept b o' hz e',kn⟩⟩
  have hl':ListAt s'.heap F'.B β D acc:=BoxAt.keepZ (bx:=.lst acc) hitr kz.kept hl
  have hpl':Plain s'.heap D:=hpl.at fun o e=>kz.kept D o (fun h=>hzF D h hDB) e
  have da:=jo (A:=A) hh fit' hown tgt hc sr' rv
  unfold bindR at da
  dsimp only at da
  rw[zjk,hbt] at da
  dsimp only at da
  refine da _ _ fun s₃ β₃ _ st₃ sr₃ _=>?_
  have step₃:=step'.thenW st₃ hWn
  have stZ₃:=W.over sr' hzF st' st₃
  have hl₃:=ut hDB hDW sr' st₃ hl'
  have hpl₃:=wm hDB hDW sr' st₃ hpl' hl'
  have clear':∀ {s β O},SR G F' β ρ' O s→SR G F' β (clr (yc tgt) ρ) O s:=fun sr=>sr.fewer fun j v hv=>by
   have hj:j∉yc tgt:=fun hm=>zbb _ _ _ _ hm hv
   rw[vw _ _ _ hj] at hv
   rw[ze7 tgt _ ρ ρ' hbt j hj];exact hv
  have dt:=ht s₃ β₃ ρ' O sr₃
  rw[het] at dt
  refine dt _ _ fun s₄ β₄ b' st₄ sr₄ hb=>?_
  have hb:b'=b:=hb
  subst hb
  have step₄:=step₃.thenW st₄ hWn
  have stZ₄:=W.over sr₃ hzF stZ₃ st₄
  have hl₄:=ut hDB hDW sr₃ st₄ hl₃
  have hpl₄:=wm hDB hDW sr₃ st₄ hpl₃ hl₃
  have hk:=uh hlt
  cases hput with
  | skip=>
    rw[if_neg (by decide)]
    rw[Option.toList_none,List.append_nil] at hgo
    exact⟨_,hk,i+1,β₄,_,acc,rfl,hlt,step₄,clear' sr₄,Src.has_of hst,stZ₄,hl₄,hpl₄,Nat.le_succ_of_le hal,hgo⟩
  | put y _ hex=>
    rw[if_pos rfl]
    have dx:=he s₄ β₄ ρ' O₂ sr₄
    rw[hex] at dx
    refine dx _ _ fun s₅ β₅ v₅ st₅ sr₅ rv₅=>?_
    have step₅:=step₄.thenW st₅ hWn
    have stZ₅:=W.over sr₄ hzF stZ₄ st₅
    refine zje hDB sr₅ rv₅ (ut hDB hDW sr₄ st₅ hl₄) (wm hDB hDW sr₄ st₅ hpl₄ hl₄) (Nat.le_trans hal (Nat.le_trans (Nat.le_of_lt hlt) hlen)) fun h' hs' hD sr₆ vr₆ hl₆ hpl₆=>?_
    refine⟨_,hk,i+1,β₅,O₃,acc++[y],rfl,hlt,?_,clear' sr₆,Src.has_of hst,W.keep _ _ _ _ _ _ _ stZ₅ (fun z hz o e=>hs' z o (fun e'=>hzF z hz (e' ▸ hDB)) e) vr₆ (List.prefix_refl _),hl₆,hpl₆,by rw[List.length_append];exact Nat.succ_le_succ hal,hgo⟩
    exact⟨step₅.gens,step₅.os,step₅.pre,step₅.fresh,fun b o e=>by
     by_cases hb:b=D
     ·subst hb;exact hD
     ·obtain⟨o₂,e₂⟩:=step₅.alive b o e;exact⟨o₂,hs' b o₂ hb e₂⟩,fun b o e hb hz=>let ⟨o',e',kn⟩:=step₅.kept b o e hb hz;⟨o',hs' b o' (fun e₂=>by subst e₂;rw[hDn] at e;cases e) e',kn⟩⟩
 ·have hie:i=src.xs.length:=by omega
  rw[hie,List.drop_length] at hgo
  have hgo:Mine.R.ok (V.d (.list acc)) O=Mine.R.ok v O':=hgo
  cases hgo
  refine W.done i _ β _ s _ _ hie.symm sr.br has st fun s' kz=>?_
  exact hR s' β acc rfl (step.z kz) (sr.keepZ hitr kz.kept g.clsRef hz0 hzF) (BoxAt.keepZ (bx:=.lst _) hitr kz.kept hl) (hpl.at fun o e=>kz.kept D o (fun h=>hzF D h hDB) e)
theorem zgs{elt iter:Expr}{ifs:List Expr}{pos:Pos}{src:Src}{I C D:Addr}{Z:List Addr}{St:Nat→List Addr→List Addr→Heap→Prop}{evT:Loc→za→R za Bool}{evX:Loc→za→R za V}
 (g:GOk G gval gname) (hh:A.handled=none) (fit':Fits (zj cx F tgt t scope C D) (cx.inner tgt t scope)) (hc:chkT (cx.inner tgt t scope) (ownOf scope) tgt t=true)
 (ht:∀ s β ρ O,SR G (zj cx F tgt t scope C D) β ρ O s.heap→Does G (zj cx F tgt t scope C D) A s β (xf ifs (zj cx F tgt t scope C D).env) ((evT ρ O).lift ρ) BRel)
 (he:∀ s β ρ O,SR G (zj cx F tgt t scope C D) β ρ O s.heap→Does G (zj cx F tgt t scope C D) A s β (eval elt (zj cx F tgt t scope C D).env) ((evX ρ O).lift ρ) (VRel G (zj cx F tgt t scope C D)))
 (W:Turns G A t I Z src St) {s₁ s:Shared} {β₁:List Addr} {ρ:Loc} {O₁:za} (hz1:∀ z∈Z,Itr s₁.heap z) (hz0:∀ z∈Z,G.h₀.get? z=none) (hzB:∀ z∈Z,z∉F.B)
 (hM:∀ a∈D::C::(cellsFrom (C+1) scope.names []).map (·.2),s₁.heap.get? a=none) (hDC:D≠C) (hDcell:∀ x,(x,D)∉cellsFrom (C+1) scope.names [])
 (hlen:src.xs.length≤line)
 (step:Step Z β₁ s₁ s β₁) (sr:SR G (zj cx F tgt t scope C D) β₁ (clr (yc tgt) ρ) O₁ s.heap) (has:src.Has O₁) (st:St 0 (zj cx F tgt t scope C D).B β₁ s.heap) (hlist:s.heap.PlainList D #[])
 {res:List PyData} {O':za}
 (hgo:z7 src (yz tgt evT evX ρ) src.xs [] O₁=.ok (.d (.list res)) O') {R:Result→Shared→Prop}
 (hR:∀ s' β',CompEnd G F scope Z β₁ s₁ C D res O' s' β'→R (.ok .next) s') :
 codeAny (model G.prog G.w) A (.compLoop (.ListComp elt [⟨t,iter,ifs,0⟩] scope pos) 0 (.ref I) (.ref D) (zj cx F tgt t scope C D).env) R s:=by
 have hzF:∀ z∈Z,z∉(zj cx F tgt t scope C D).B:=fun z hz hm=>by
  rcases List.mem_append.mp hm with hm | hm
  ·obtain⟨o,_,_,e,_⟩:=hz1 z hz
   rw[hM z hm] at e;cases e
  ·exact hzB z hz hm
 have hDW:D∉(zj cx F tgt t scope C D).W:=fun hm=>by
  rcases List.mem_cons.mp hm with e | hm
  ·exact hDC e
  ·obtain⟨p,hp,e⟩:=List.mem_map.mp hm
   exact hDcell p.1 (by rw[← e];exact hp)
 refine zjf g hh fit' (fun x h=>h) hc ht he W hz0 hzF (hM D List.mem_cons_self) (fun a ha=>hM a (List.mem_cons_of_mem _ ha)) hDW List.mem_cons_self hlen step sr has st hlist hgo fun s' β res' e sz sr' hl hpl=>?_
 cases e
 exact hR s' β ⟨sz,sr'.br,hl,sr'.fm.ns,fun a ha=>sr'.fm.stor a (List.mem_append_left _ (List.mem_cons_of_mem _ ha)),sr'.fm.notBox,hM,fun hm=>hDW (List.mem_cons_of_mem _ hm),hpl⟩
end
noncomputable def Fm.plus(F:Fm)(M:List Addr):Fm:={ F with B:=M++F.B }
section
variable{G:Gl}{F:Fm}{A:Around}{Z β β' N M:List Addr}{O O':za}{ρ:Loc}{s s':Shared}(hz:∀ z∈Z,Itr s.heap z)(hc:∀ c,∃ C,G.cls c=.ref C)(sz:StepZ Z β s s' β')
include hz sz
theorem zdf{as:List Addr}(al:∀ a∈as,∃ o,s.heap.get? a=some o)(q:∀ a∈as,a∉β∧a∉N):∀ a∈as,a∉β'∧a∉N:=fun a ha=>by
 refine⟨fun hb=>?_,(q a ha).2⟩
 rcases sz.fresh a hb with h | h
 ·exact (q a ha).1 h
 ·obtain⟨o,e⟩:=al a ha;rw[e] at h;cases h
theorem gn(br:BR G N β O s.heap){v:Value}{x:PyData}{as:List Addr}(r:Reads s.heap v x as)(q:∀ a∈as,a∉β∧a∉N):Reads s'.heap v x as∧∀ a∈as,a∉β'∧a∉N:=by
 refine⟨vc (P:=fun a=>a∉β∧a∉Z) (fun a o e p=>sz.kept a o p.2 e p.1) (fun a o vs n e hcl hd=>⟨fun hb=>?_,notZ hz e fun fs h=>by rw[hd] at h;cases h⟩) r fun a ha=>⟨(q a ha).1,let ⟨o,e,hd⟩:=uk r a ha;notZ hz e hd⟩,zdf hz sz (x5 r) q⟩
 obtain⟨o',e',h'⟩:=br.alive a hb
 rw[e] at e';cases e'
 rw[hcl] at h'
 rcases h' with h' | h' <;> exact absurd h' (by decide)
theorem ItsR.stepZ(br:BR G N β O s.heap){vs:List Value}{its:List It}(r:ItsR N β s.heap vs its):ItsR N β' s'.heap vs its:=by
 induction r with
 | nil=>exact .nil
 | b h1 _ ih=>exact .b (jd sz.pre h1) ih
 | x h1 h2 _ ih=>obtain⟨r',q'⟩:=gn hz sz br h1 h2;exact .x r' q' ih
include hc in
theorem VR.stepZ(br:BR G N β O s.heap){v:Value}{x:V}(r:VR G N β s.heap v x):VR G N β' s'.heap v x:=by
 have nb:∀ {a:Addr} {o:Obj},s.heap.get? a=some o→a∉β→a∉β':=fun e h hb=>by
  rcases sz.fresh _ hb with h' | h'
  ·exact h h'
  ·rw[e] at h';cases h'
 cases x with
 | d x=>obtain⟨as,r,q⟩:=r;obtain⟨r',q'⟩:=gn hz sz br r q;exact⟨as,r',q'⟩
 | box n=>obtain⟨a,h1,h2⟩:=r;exact⟨a,jd sz.pre h1,h2⟩
 | tm its=>
   obtain⟨a,o,vs,k,rfl,h1,h2,h3,h4⟩:=r
   refine⟨a,o,vs,k,rfl,sz.keptE (notZ hz h1 fun fs h=>by rw[h3] at h;cases h) h1 (fun hb=>?_) (fun es n q=>by rw[h3] at q;cases q),h2,h3,ItsR.stepZ hz sz br h4⟩
   obtain⟨o',e',h'⟩:=br.alive a hb
   rw[h1] at e';cases e'
   rw[h2] at h'
   rcases h' with h' | h' <;> exact absurd h' (by decide)
include hc in
theorem SR.outerZ(sr:SR G F β ρ O s.heap)(hzB:∀ z∈Z,z∉F.B)(hM:∀ a∈M,s.heap.get? a=none)(br:BR G (M++F.B) β' O' s'.heap)(nb:∀ a∈M++F.B,a∉β')
 (hst:∀ a∈M,∃ o,s'.heap.get? a=some o∧∀ vs n,o.data=.seq vs n→o.cls≠.type "tuple"):SR G (F.plus M) β' ρ O' s'.heap:=by
 have hB:∀ a∈F.B,∀ o,s.heap.get? a=some o→∃ o',s'.heap.get? a=some o'∧Kin o o':=fun a ha o e=>sz.kept a o (fun h=>hzB a h ha) e (sr.fm.notBox a ha)
 have hL:F.env.locals∈F.B:=sr.fm.sub _ sr.fm.nsW
 have hns:∀ m,s.heap.Ns F.env.locals m→s'.heap.Ns F.env.locals m:=fun m hm=>Kin.ns hm (hB _ hL)
 refine⟨br,⟨sr.fm.kind,sr.fm.globals,sr.fm.builtins,sr.fm.once,?_,sr.fm.nsW,?_,sr.fm.apart,fun a ha=>List.mem_append_right _ (sr.fm.sub a ha),?_,nb,fun a ha=>?_,fun a ha=>List.mem_append_right _ (sr.fm.frB a ha),fun a ha=>let ⟨m,hm⟩:=sr.fm.frs a ha;⟨m,Kin.ns hm (hB a (sr.fm.frB a ha))⟩,fun m e=>⟨hns m (sr.fm.pin m e).1,(sr.fm.pin m e).2⟩⟩,fun i x v h1 h2=>?_⟩
 ·obtain⟨m,hm⟩:=sr.fm.ns;exact⟨m,hns m hm⟩
 ·intro x hx
  obtain⟨c,v,h3,h4,h6,h7⟩:=sr.fm.cell x hx
  exact⟨c,v,h3,Kin.cell h4 (hB c h6),List.mem_append_right _ h6,h7⟩
 ·have:=zd8 (F:=F) (fr:=[]) sr.br hM ⟨sr.fm.new.1,sr.fm.new.2.1⟩
  exact⟨this.1,this.2.1,sr.fm.new.2.2⟩
 ·rcases List.mem_append.mp ha with ha | ha
  ·exact hst a ha
  ·obtain⟨o,h1,h2⟩:=sr.fm.stor a ha
   obtain⟨o',e',kn⟩:=hB a ha o h1
   exact⟨o',e',fun vs n hv=>by rw[kn.cls];exact h2 vs n (kn.data.symm.trans hv)⟩
 ·obtain⟨val,g,r⟩:=sr.get i x v h1 h2
  refine⟨val,?_,(r.grow hM).stepZ hz hc sz (sr.br.grow hM)⟩
  rcases g with ⟨g1,m,g2,g3⟩ | ⟨g1,c,g2,g3⟩
  ·exact .inl ⟨g1,m,hns m g2,g3⟩
  ·obtain⟨c',v',h3,h4,h6,h7⟩:=sr.fm.cell x g1
   rw[g2] at h3;cases h3
   exact .inr ⟨g1,c,g2,Kin.cell g3 (hB c h6)⟩
end
section
variable{G:Gl}{F:Fm}{A:Around}{β β₁ N M:List Addr}{O:za}{ρ:Loc}{h h' h₁:Heap}
theorem ItsR.less{N':List Addr}(hs:∀ a∈N,a∈N'){vs:List Value}{its:List It}(r:ItsR N' β h vs its):ItsR N β h vs its:=by
 induction r with
 | nil=>exact .nil
 | b h1 _ ih=>exact .b h1 ih
 | x h1 h2 _ ih=>exact .x h1 (fun a ha=>⟨(h2 a ha).1,fun hn=>(h2 a ha).2 (hs a hn)⟩) ih
theorem VR.less{N':List Addr}(hs:∀ a∈N,a∈N'){v:Value}{x:V}(r:VR G N' β h v x):VR G N β h v x:=by
 cases x with
 | d x=>obtain⟨as,r,q⟩:=r;exact⟨as,r,fun a ha=>⟨(q a ha).1,fun hn=>(q a ha).2 (hs a hn)⟩⟩
 | box n=>exact r
 | tm its=>obtain⟨a,o,vs,k,e,h1,h2,h3,h4⟩:=r;exact⟨a,o,vs,k,e,h1,h2,h3,h4.less hs⟩
theorem SR.drop{C:Addr}(fm:FmOk G F β₁ h₁)(sr:SR G (F.plus M) β ρ O h)(hC:C∈M)(hCB:C∉F.B)(hs:∀ b o,b≠C→h.get? b=some o→h'.get? b=some o):SR G F β ρ O h':=by
 have hCM:C∈(F.plus M).B:=List.mem_append_left _ hC
 have ht:∀ o vs n,h.get? C=some o→o.data=.seq vs n→o.cls≠.type "tuple":=fun o vs n e hd=>by
  obtain⟨o',e',q⟩:=sr.fm.stor C hCM
  rw[e] at e';cases e'
  exact q vs n hd
 have sub:∀ a∈F.B,a∈(F.plus M).B:=fun a ha=>List.mem_append_right _ ha
 have hL:F.env.locals∈F.B:=fm.sub _ fm.nsW
 have hB:∀ a∈F.B,∀ o,h.get? a=some o→h'.get? a=some o:=fun a ha o e=>hs a o (fun e'=>hCB (e' ▸ ha)) e
 have hns:∀ m,h.Ns F.env.locals m→h'.Ns F.env.locals m:=fun m ⟨o,es,ep,h1,r⟩=>⟨o,es,ep,hB _ hL o h1,r⟩
 refine⟨(sr.br.but hs hCM (sr.fm.notBox C hCM) (sr.fm.newB hCM fun e=>hCB (e ▸ fm.new.2.1)) ht).less sub,⟨sr.fm.kind,sr.fm.globals,sr.fm.builtins,sr.fm.once,?_,sr.fm.nsW,?_,sr.fm.apart,fm.sub,fm.new,fun a ha=>sr.fm.notBox a (sub a ha),fun a ha=>?_,fm.frB,fun a ha=>?_,fun m e=>⟨hns m (sr.fm.pin m e).1,(sr.fm.pin m e).2⟩⟩,fun i x v h1 h2=>?_⟩
 ·obtain⟨m,hm⟩:=sr.fm.ns;exact⟨m,hns m hm⟩
 ·intro x hx
  obtain⟨c,v,h3,⟨o,h4,h5⟩,_,h7⟩:=sr.fm.cell x hx
  obtain⟨c',_,q1,_,q2,q3⟩:=fm.cell x hx
  have:F.env.cells.lookup x=some c:=h3
  rw[this] at q1;cases q1
  exact⟨c,v,h3,⟨o,hB c q2 o h4,h5⟩,q2,q3⟩
 ·obtain⟨o,h1,h2⟩:=sr.fm.stor a (sub a ha)
  exact⟨o,hB a ha o h1,h2⟩
 ·obtain⟨m,o,es,ep,h1,h2⟩:=sr.fm.frs a ha
  exact⟨m,o,es,ep,hB a (fm.frB a ha) o h1,h2⟩
 ·obtain⟨val,g,r⟩:=sr.get i x v h1 h2
  refine⟨val,?_,(r.but hs hCM ht).less sub⟩
  rcases g with ⟨g1,m,g2,g3⟩ | ⟨g1,c,g2,o,g3,g4⟩
  ·exact .inl ⟨g1,m,hns m g2,g3⟩
  ·obtain⟨c',_,q1,_,q2,q3⟩:=fm.cell x g1
   have g2':F.env.cells.lookup x=some c:=g2
   rw[g2'] at q1;cases q1
   exact .inr ⟨g1,c,g2,o,hB c q2 o g3,g4⟩
end
section
variable{G:Gl}{F:Fm}{A:Around}{cx:Cx}{tgt:CT}{t:Expr}{scope:Scope}{gval:Nat→Option PyData}{gname:Nat→Option Str}
theorem zcl{elt iter:Expr}{ifs:List Expr}{pos:Pos}{src:Src}{I:Addr}{Z:List Addr}{St:Nat→List Addr→List Addr→Heap→Prop}{evT:Loc→za→R za Bool}{evX:Loc→za→R za V}{E:Value→Shared→Prop}
 (g:GOk G gval gname) (hh:A.handled=none) (fit:Fits F cx) (hsc:xg scope cx.sc=true) (honce:xo (cx.inner tgt t scope).names=true) (hc:chkT (cx.inner tgt t scope) (ownOf scope) tgt t=true)
 (ht:∀ C D s β ρ O,SR G (zj cx F tgt t scope C D) β ρ O s.heap→Does G (zj cx F tgt t scope C D) A s β (xf ifs (zj cx F tgt t scope C D).env) ((evT ρ O).lift ρ) BRel)
 (he:∀ C D s β ρ O,SR G (zj cx F tgt t scope C D) β ρ O s.heap→Does G (zj cx F tgt t scope C D) A s β (eval elt (zj cx F tgt t scope C D).env) ((evX ρ O).lift ρ) (VRel G (zj cx F tgt t scope C D)))
 (W:Turns G A t I Z src St) {s₁:Shared} {β₁:List Addr} {ρ:Loc} {O₁:za} (sr₁:SR G F β₁ ρ O₁ s₁.heap) (hz0:∀ z∈Z,G.h₀.get? z=none) (hzB:∀ z∈Z,z∉F.B)
 (hlen:src.xs.length≤line) (has:src.Has O₁) (st:St 0 F.B β₁ s₁.heap) {res:List PyData} {O':za} (hgo:z7 src (yz tgt evT evX ρ) src.xs [] O₁=.ok (.d (.list res)) O') {RR:Value→Addr→Result→Shared→Prop}
 (hR:∀ C D s' β',CompEnd G F scope Z β₁ s₁ C D res O' s' β'→RR (.ref D) C (.ok .next) s') :
 wpAny (model G.prog G.w) A (newList []) (fun acc s₃=>wpAny (model G.prog G.w) A (newFunctionEnv scope F.env.globals (jp F.env scope.names []) [] F.env.qual none .none (some F.env)) (fun cenv s₄=>
  codeAny (model G.prog G.w) A (.compStart (.ListComp elt [⟨t,iter,ifs,0⟩] scope pos) 0 (.ref I) acc { cenv with scope:=relabel scope F.env }) (RR acc cenv.locals) s₄) E s₃) E s₁:=by
 refine wpAny_newObj_type ?_
 refine zez fun s₄ ka hns ok=>?_
 have kp:=KeepsAll.push s₁ { cls:=.type "list",data:=.seq ([]:List Value).toArray } s₁.toks
 have ka1:KeepsAll s₁ s₄:=kp.trans ka
 generalize hD:s₁.heap.objs.size=D at *
 have hCe:(s₁.heap.push { cls:=.type "list",data:=.seq ([]:List Value).toArray }).objs.size=D+1:=by rw [Heap.size_push,hD]
 dsimp only at hns ok ⊢
 rw[hCe] at hns ok ⊢
 have hlo:∀ a,D≤a→s₁.heap.get? a=none:=fun a ha=>Heap.get?_none_of_le (by rw[hD];exact ha)
 have hDo:s₄.heap.get? D=some { cls:=.type "list",data:=.seq ([]:List Value).toArray }:=ka.kept _ _ (by rw [← hD];exact Heap.get?_push_size _ rfl)
 have hM:∀ a∈D::(D+1)::(cellsFrom (D+1+1) scope.names []).map (·.2),s₁.heap.get? a=none:=fun a ha=>by
  rcases List.mem_cons.mp ha with rfl | ha
  ·exact hlo _ (Nat.le_refl _)
  ·rcases List.mem_cons.mp ha with rfl | ha
   ·exact hlo _ (Nat.le_succ _)
   ·obtain⟨p,hp,rfl⟩:=List.mem_map.mp ha
    exact hlo _ (by have:=(ok.empty p.1 p.2 hp).2;omega)
 have sr₄:=zj3 (C:=D+1) (D:=D) (tgt:=tgt) (t:=t) fit sr₁ hsc honce ka1.kept hns ok (fun a ha=>hlo a (Nat.le_of_succ_le ha)) (hlo _ (Nat.le_refl _)) hDo rfl
 have fit':=zau (tgt:=tgt) (t:=t) (scope:=scope) fit sr₁.fm.kind hsc (D+1) D
 have hz1:=W.itr _ _ _ _ st
 have st₄:St 0 (zj cx F tgt t scope (D+1) D).B β₁ s₄.heap:=W.keep 0 F.B _ β₁ β₁ s₁.heap s₄.heap st (fun z hz o e=>ka1.kept z o e) (fun v x r=>(r.grow hM).keepAll ka1.kept) (List.prefix_refl _)
 have loop:codeAny (model G.prog G.w) A (.compLoop (.ListComp elt [⟨t,iter,ifs,0⟩] scope pos) 0 (.ref I) (.ref D) (zj cx F tgt t scope (D+1) D).env) (RR (.ref D) (D+1)) s₄:=
  zgs g hh fit' hc (ht _ _) (he _ _) W hz1 hz0 hzB hM (Nat.ne_of_lt (Nat.lt_succ_self D)) (fun x hm=>by have:=(ok.empty x D hm).2;omega) hlen (ka1.step _ _) sr₄ has st₄ ⟨_,hDo⟩ hgo (hR _ _)
 exact codeAny_compStart_list loop (W.self 0 _ _ _ _ _ st₄ loop)
end
theorem BR.addBox{G:Gl}{N β:List Addr}{O:za}{h:Heap}{D:Addr}{xs:List PyData}(b:BR G (D::N) β O h)(l:ListAt h (D::N) β D xs)(hb:D∉β)(h0:G.h₀.get? D=none)(hpl:Plain h D):BR G N (β++[D]) (O++[.lst xs]) h:=by
 have ap:∀ {as:List Addr},(∀ a∈as,a∉β∧a∉D::N)→∀ a∈as,a∉β++[D]∧a∉N:=fun q a ha=>by
  obtain⟨q1,q2⟩:=q a ha
  refine⟨fun hm=>?_,fun hm=>q2 (List.mem_cons_of_mem _ hm)⟩
  rcases List.mem_append.mp hm with hm | hm
  ·exact q1 hm
  ·rw[List.mem_singleton.mp hm] at q2;exact q2 List.mem_cons_self
 refine⟨b.keep,by simp[b.len],?_,fun a ha=>?_,fun i a bx h1 h2=>?_,fun a ha=>(List.mem_append.mp ha).elim (b.plain a) fun h=>by rw[List.mem_singleton.mp h];exact hpl⟩
 ·rw[List.nodup_append]
  exact⟨b.nodup,by simp,fun a ha c hc=>by rw[List.mem_singleton.mp hc];exact fun e=>hb (e ▸ ha)⟩
 ·rcases List.mem_append.mp ha with h | h
  ·exact b.new a h
  ·rw[List.mem_singleton.mp h];exact h0
 ·rcases Nat.lt_or_ge i β.length with hi | hi
  ·rw[List.getElem?_append_left hi] at h1
   rw[List.getElem?_append_left (by rw[← b.len];exact hi)] at h2
   have hx:=b.at_ i a bx h1 h2
   cases bx with
   | lst ys=>obtain⟨o,vs,n,e1,e2,e3,as,e4,e5⟩:=hx;exact⟨o,vs,n,e1,e2,e3,as,e4,ap e5⟩
  ·rw[List.getElem?_append_right hi] at h1
   rw[List.getElem?_append_right (by rw[← b.len];exact hi)] at h2
   have hi0:i - β.length=0:=by
    rcases Nat.eq_zero_or_pos (i - β.length) with h | h
    ·exact h
    ·rw[List.getElem?_eq_none (show [D].length≤i - β.length from h)] at h1;cases h1
   rw[hi0] at h1
   rw[← b.len,hi0] at h2
   cases h1;cases h2
   obtain⟨o,vs,n,e1,e2,e3,as,e4,e5⟩:=l
   exact⟨o,vs,n,e1,e2,e3,as,e4,ap e5⟩
section
variable{G:Gl}{F:Fm}{A:Around}{cx:Cx}{tgt:CT}{t:Expr}{scope:Scope}{gval:Nat→Option PyData}{gname:Nat→Option Str}
variable{Z β₁ β':List Addr}{s₁ s':Shared}{C D:Addr}{res:List PyData}{O₁ O':za}{ρ:Loc}
noncomputable abbrev yy(scope:Scope)(C:Addr):List Addr:=C::(cellsFrom (C+1) scope.names []).map (·.2)
theorem CompEnd.sr(e:CompEnd G F scope Z β₁ s₁ C D res O' s' β')(sr₁:SR G F β₁ ρ O₁ s₁.heap)(hz:∀ z∈Z,Itr s₁.heap z)(hzB:∀ z∈Z,z∉F.B)(hc:∀ c,∃ C,G.cls c=.ref C)(hDM:D∉yy scope C) :
 SR G (F.plus (yy scope C)) β' ρ O' s'.heap∧VR G (F.plus (yy scope C)).B β' s'.heap (.ref D) (.d (.list res)):=by
 refine⟨SR.outerZ hz hc e.step sr₁ hzB (fun a ha=>e.new a (List.mem_cons_of_mem _ ha)) (e.br.less fun a ha=>List.mem_cons_of_mem _ ha) (fun a ha=>e.notBox a (List.mem_cons_of_mem _ ha)) e.stor,?_⟩
 obtain⟨o,vs,n,e1,e2,e3,as,e4,e5⟩:=e.list
 refine xl e1 e2 e3 e4 (fun a ha=>⟨(e5 a ha).1,fun hm=>(e5 a ha).2 (List.mem_cons_of_mem _ hm)⟩) ⟨e.notBox D List.mem_cons_self,fun hm=>?_⟩
 rcases List.mem_append.mp hm with hm | hm
 ·exact hDM hm
 ·obtain⟨o',q,_⟩:=sr₁.fm.stor D hm
  rw[e.new D List.mem_cons_self] at q;cases q
theorem CompEnd.srB(e:CompEnd G F scope Z β₁ s₁ C D res O' s' β')(sr₁:SR G F β₁ ρ O₁ s₁.heap)(hz:∀ z∈Z,Itr s₁.heap z)(hzB:∀ z∈Z,z∉F.B)(hc:∀ c,∃ C,G.cls c=.ref C)(hDM:D∉yy scope C) :
 StepZ Z β₁ s₁ s' (β'++[D])∧SR G (F.plus (yy scope C)) (β'++[D]) ρ (O'++[.lst res]) s'.heap∧VR G (F.plus (yy scope C)).B (β'++[D]) s'.heap (.ref D) (.box O'.length):=by
 have hDn:=e.new D List.mem_cons_self
 have hDb:=e.notBox D List.mem_cons_self
 have sz:StepZ Z β₁ s₁ s' (β'++[D]):=⟨e.step.gens,e.step.os,e.step.pre.trans (List.prefix_append _ _),fun a ha=>by
  rcases List.mem_append.mp ha with h | h
  ·exact e.step.fresh a h
  ·rw[List.mem_singleton.mp h];exact .inr hDn,e.step.alive,e.step.kept⟩
 have h0:G.h₀.get? D=none:=by
  cases q:G.h₀.get? D with
  | none=>rfl
  | some o=>have:=sr₁.br.keep D o q;rw[hDn] at this;cases this
 have br:=e.br.addBox (N:=yy scope C++F.B) e.list hDb h0 e.plain
 refine⟨sz,SR.outerZ hz hc sz sr₁ hzB (fun a ha=>e.new a (List.mem_cons_of_mem _ ha)) br (fun a ha hm=>?_) e.stor,⟨D,by rw[← e.br.len];simp,rfl⟩⟩
 rcases List.mem_append.mp hm with hm | hm
 ·exact e.notBox a (List.mem_cons_of_mem _ ha) hm
 ·rw[List.mem_singleton.mp hm] at ha
  rcases List.mem_append.mp ha with ha | ha
  ·exact hDM ha
  ·obtain⟨o',q,_⟩:=sr₁.fm.stor D ha
   rw[hDn] at q;cases q
theorem gs{sc:Scope}(hsc:xg scope sc=true):∀ x∈scope.names,x.2=.local→scope.names.lookup x.1=some .local:=fun x hx h=>by
 obtain⟨_,k2,_⟩:=yn hsc
 obtain⟨n,k⟩:=x
 cases h
 exact (lookup_mem k2).mp hx
theorem zcn{β:List Addr}{h:Heap}{sc:Scope}(fit:Fits F cx)(fm:FmOk G F β h)(hsc:xg scope cx.sc=true):∀ p∈scope.names,p.2=.free→(F.env.cells.lookup p.1).isSome=true:=fun p hp hf=>by
 obtain⟨n,k⟩:=p
 obtain⟨_,_,k3⟩:=yn hsc
 cases hf
 rcases k3 n _ hp with h | h | h | ⟨_,h⟩
 ·cases h
 ·cases h
 ·cases h
 ·obtain⟨c,v,q,_⟩:=fm.cell n ((fit.kind n).trans h)
  rw[q];rfl
inductive Fin2:(V→za→R za V)→Prop
 | plain:Fin2 fun v O=>.ok v O
 | box:Fin2 boxK
theorem k7{src:Src}{turn:PyData→za→R za (Option PyData)}:∀ (xs acc:List PyData) (O:za),(∃ ys O',z7 src turn xs acc O=.ok (.d (.list ys)) O')∨z7 src turn xs acc O=.stuck
 | [],acc,O=>.inl ⟨acc,O,rfl⟩
 | x::xs,acc,O=>by
   unfold z7
   split
   ·split
    ·exact k7 xs _ _
    ·exact .inr rfl
   ·exact .inr rfl
set_option tactic.hygienic true in
theorem zrc{elt iter:Expr}{ifs:List Expr}{pos:Pos}{r:R za Src}{evT:Loc→za→R za Bool}{evX:Loc→za→R za V}{K:V→za→R za V}{s:Shared}{β:List Addr}{O:za}
 (g:GOk G gval gname) (hh:A.handled=none) (fit:Fits F cx) (hsc:xg scope cx.sc=true) (honce:xo (cx.inner tgt t scope).names=true) (hc:chkT (cx.inner tgt t scope) (ownOf scope) tgt t=true) (hset:∀ l k p,iter≠.Set l k p)
 (ht:∀ C D s β ρ O,SR G (zj cx F tgt t scope C D) β ρ O s.heap→Does G (zj cx F tgt t scope C D) A s β (xf ifs (zj cx F tgt t scope C D).env) ((evT ρ O).lift ρ) BRel)
 (he:∀ C D s β ρ O,SR G (zj cx F tgt t scope C D) β ρ O s.heap→Does G (zj cx F tgt t scope C D) A s β (eval elt (zj cx F tgt t scope C D).env) ((evX ρ O).lift ρ) (VRel G (zj cx F tgt t scope C D)))
 (sr:SR G F β ρ O s.heap) (hI:DoesW G F s β (zcd G A iter F.env) (r.lift ρ) (IRel G F A t s)) (has:∀ src O',r=.ok src O'→src.Has O') (hK:Fin2 K) :
 Does G F A s β (eval (.ListComp elt [⟨t,iter,ifs,0⟩] scope pos) F.env) (((r.bind fun src O=>if src.xs.length≤line then z7 src (yz tgt evT evX ρ) src.xs [] O else .stuck).bind K).lift ρ) (VRel G F):=by
 obtain⟨k1,k2,k3⟩:=yn hsc
 have hclos:=we (zcn (sc:=cx.sc) fit sr.fm hsc)
 have hfold:∀ x,foldedSetIterable iter F.env x=pure x:=fun x=>qn hset _ _
 cases r with
 | stuck=>trivial
 | ok src O₁=>
   show DoesW G F s β _ (R.lift ρ (R.bind (if src.xs.length≤line then z7 src (yz tgt evT evX ρ) src.xs [] O₁ else .stuck) K)) _
   split
   ·rename_i hlen
    rcases k7 (src:=src) (turn:=yz tgt evT evX ρ) src.xs [] O₁ with ⟨res,O',hgo⟩ | hgo
    ·rw[hgo]
     show DoesW G F s β _ (R.lift ρ (K (.d (.list res)) O')) _
     have run:∀ (Q:Value→Shared→Prop) (E:Value→Shared→Prop),(∀ s₁ β₁ Z C D s' β' h',Step F.W β s s₁ β₁→SR G F β₁ ρ O₁ s₁.heap→(∀ z∈Z,Itr s₁.heap z)→(∀ z∈Z,z∉F.B)→(∀ z∈Z,s.heap.get? z=none) →
      CompEnd G F scope Z β₁ s₁ C D res O' s' β'→D∉yy scope C→Heap.SameBut C s'.heap h'→Q (.ref D) { s' with heap:=h' })→wpAny (model G.prog G.w) A (eval (.ListComp elt [⟨t,iter,ifs,0⟩] scope pos) F.env) Q E s:=by
      intro Q E k
      rw[eval_ListComp]
      refine wpAny_comprehension_free (use:=none) rfl hfold hclos k1 (gs hsc) (hI _ _ fun s₁ β₁ it st sr₁ ⟨I,Z,St,e,W,h0,hz⟩=>?_)
      subst e
      have hz0:∀ z∈Z,G.h₀.get? z=none:=fun z hz'=>by
       cases e:G.h₀.get? z with
       | none=>rfl
       | some o=>have:=sr.br.keep z o e;rw[hz z hz'] at this;cases this
      have hzB:∀ z∈Z,z∉F.B:=fun z hz' hB=>by
       obtain⟨o,e,_⟩:=sr.fm.stor z hB
       rw[hz z hz'] at e;cases e
      refine zcl (RR:=fun acc C=>compPost (model G.prog G.w) A E none Q acc C) g hh fit hsc honce hc ht he W sr₁ hz0 hzB hlen (has _ _ rfl) h0 hgo fun C D s' β' ce=>?_
      obtain⟨m,hm⟩:=ce.ns
      have hDM:D∉yy scope C:=fun hm'=>by
       obtain⟨o,vs,n,q1,q2,q3,_⟩:=ce.list
       rcases List.mem_cons.mp hm' with e | hm'
       ·subst e
        obtain⟨o',es,ep,p1,p2,_⟩:=hm
        rw[q1] at p1;cases p1;rw[q3] at p2;cases p2
       ·exact ce.notCell hm'
      exact⟨m,hm,fun h' hs=>k s₁ β₁ Z C D s' β' h' st sr₁ (W.itr _ _ _ _ h0) hzB hz ce hDM hs⟩
     cases hK with
     | plain=>
       intro Q E k
       refine run Q E fun s₁ β₁ Z C D s' β' h' st sr₁ hz1 hzB hz ce hDM hs=>?_
       obtain⟨srp,vr⟩:=ce.sr sr₁ hz1 hzB g.clsRef hDM
       have hCM:C∈yy scope C:=List.mem_cons_self
       have hCB:C∉F.B:=fun hB=>by
        obtain⟨o,e,_⟩:=sr₁.fm.stor C hB
        rw[ce.new C (List.mem_cons_of_mem _ List.mem_cons_self)] at e;cases e
       have hs':∀ b o,b≠C→s'.heap.get? b=some o→h'.get? b=some o:=fun b o hb e=>(hs.2 b hb).trans e
       have srF:=SR.drop sr₁.fm srp hCM hCB hs'
       have stF:Step F.W β s { s' with heap:=h' } β':=by
        have s1:=st.thenStepZ ce.step hz
        exact s1.thenZ (Z:=[C]) ⟨rfl,rfl,fun b o hb e=>hs' b o (fun e'=>hb (by simp [e'])) e⟩ fun z hz'=>by
         rw [List.mem_singleton.mp hz']
         cases e:s.heap.get? C with
         | none=>rfl
         | some o=>obtain⟨o',e'⟩:=st.alive _ _ e;rw[ce.new C (List.mem_cons_of_mem _ List.mem_cons_self)] at e';cases e'
       refine k _ β' _ stF srF ?_
       have hCMp:C∈(F.plus (yy scope C)).B:=List.mem_append_left _ hCM
       exact (vr.but hs' hCMp (fun o vs n e hd=>by
        obtain⟨o',e',q⟩:=srp.fm.stor C hCMp
        rw[e] at e';cases e';exact q vs n hd)).less fun a ha=>List.mem_append_right _ ha
     | box=>
       intro Q E k
       refine run Q E fun s₁ β₁ Z C D s' β' h' st sr₁ hz1 hzB hz ce hDM hs=>?_
       obtain⟨sz,srp,vr⟩:=ce.srB sr₁ hz1 hzB g.clsRef hDM
       have hCM:C∈yy scope C:=List.mem_cons_self
       have hCB:C∉F.B:=fun hB=>by
        obtain⟨o,e,_⟩:=sr₁.fm.stor C hB
        rw[ce.new C (List.mem_cons_of_mem _ List.mem_cons_self)] at e;cases e
       have hs':∀ b o,b≠C→s'.heap.get? b=some o→h'.get? b=some o:=fun b o hb e=>(hs.2 b hb).trans e
       have srF:=SR.drop sr₁.fm srp hCM hCB hs'
       have stF:Step F.W β s { s' with heap:=h' } (β'++[D]):=by
        have s1:=st.thenStepZ sz hz
        exact s1.thenZ (Z:=[C]) ⟨rfl,rfl,fun b o hb e=>hs' b o (fun e'=>hb (by simp [e'])) e⟩ fun z hz'=>by
         rw [List.mem_singleton.mp hz']
         cases e:s.heap.get? C with
         | none=>rfl
         | some o=>obtain⟨o',e'⟩:=st.alive _ _ e;rw[ce.new C (List.mem_cons_of_mem _ List.mem_cons_self)] at e';cases e'
       exact k _ _ _ stF srF vr
    ·rw[hgo];trivial
   ·trivial
end
theorem ze6{M:Model}{A:Around}{E:Value→Shared→Prop}{s:Shared}{op:BoolOp}{x y:Expr}{r:List Expr}{pos:Pos}{env:Env}{Q:Value→Shared→Prop}
 (h:wpAny M A (eval x env) (fun v s₁=>wpAny M A (truthy v) (fun t s₂=>if t=(op == .Or) then Q v s₂ else wpAny M A (boolOp pos op (evalEach (y::r) env)) Q E s₂) E s₁) E s) :
 wpAny M A (eval (.BoolOp op (x::y::r) pos) env) Q E s:=by
 show wpAny M A (do
  let v ← eval x env
  standAt pos
  let t ← holding [v] (truthy v)
  match op,t with
  | .And,false | .Or,true=>pure v
  | _,_=>boolOp pos op (evalEach (y::r) env)) Q E s
 refine wpAny_bind (wpAny_mono h (fun v s₁ h₁=>wpAny_bind (wpAny_standAt (wpAny_bind (wpAny_holding (wpAny_mono h₁ (fun t s₂ h₂=>?_) fun _ _ x=>x))))) fun _ _ x=>x)
 cases op <;> cases t
 ·rw[if_pos (by decide)] at h₂;exact wpAny_pure h₂
 ·rw[if_neg (by decide)] at h₂;exact h₂
 ·rw[if_neg (by decide)] at h₂;exact h₂
 ·rw[if_pos (by decide)] at h₂;exact wpAny_pure h₂
section
variable{G:Gl}{F:Fm}{A:Around}{s:Shared}{β:List Addr}{ρ:Loc}{O:za}
theorem zoy{x y:Expr}{r:List Expr}{p:Pos}{ra:R za V}{rb:za→R za V}(h1:Does G F A s β (eval x F.env) (ra.lift ρ) (VRel G F))
 (h2:∀ s' β' O',SR G F β' ρ O' s'.heap→Does G F A s' β' (boolOp p .And (evalEach (y::r) F.env)) ((rb O').lift ρ) (VRel G F)) :
 Does G F A s β (eval (.BoolOp .And (x::y::r) p) F.env) ((ra.bind fun v O=>(opt (truth v) O).bind (andK rb)).lift ρ) (VRel G F):=by
 refine DoesW.seqE (T₂:=fun v Q E s'=>wpAny (model G.prog G.w) A (truthy v) (fun t s₂=>if t=(BoolOp.And == .Or) then Q v s₂ else wpAny (model G.prog G.w) A (boolOp p .And (evalEach (y::r) F.env)) Q E s₂) E s') (fun Q E h=>ze6 h) h1 fun s' β' v d O' e st sr rv=>?_
 refine DoesW.seqE (T₂:=fun t Q E s₂=>if t=(BoolOp.And == .Or) then Q v s₂ else wpAny (model G.prog G.w) A (boolOp p .And (evalEach (y::r) F.env)) Q E s₂) (fun Q E h=>h) (kl sr rv) fun s₂ β₂ b b' O₂ e₂ st₂ sr₂ hb=>?_
 have hb:b=b':=hb
 subst hb
 have hd:truth d=some b:=by cases h:truth d with
  | none=>rw[h] at e₂;cases e₂
  | some c=>rw[h] at e₂;cases e₂;rfl
 have:=w0 rv hd
 subst this
 cases b with
 | true=>exact (h2 s₂ β₂ O₂ sr₂).weaken (fun Q E h=>by show if _ then _ else _;rw[if_neg (by decide)];exact h) fun _ _ _ _ h=>h
 | false=>exact d_ok sr₂ VR.bool fun Q E h=>by show if _ then _ else _;rw[if_pos (by decide)];exact h
theorem zte{op:Cop}{o:CmpOp}{x y:Expr}{p:Pos}{ra:R za V}{rb:za→R za V}{k:Nat}(ro:Room A k)(ho:jc op o=true)(hs:∀ l k p,y≠.Set l k p)
 (h1:Does G F A s β (eval x F.env) (ra.lift ρ) (VRel G F)) (h2:∀ s' β' O',SR G F β' ρ O' s'.heap→Does G F A s' β' (eval y F.env) ((rb O').lift ρ) (VRel G F)) :
 Does G F A s β (eval (.Compare x [o] [y] p) F.env) ((ra.bind fun v O=>(rb O).bind fun u O=>cmpV op v u O).lift ρ) (VRel G F):=by
 refine DoesW.seqE (T₂:=fun a Q E s₁=>wpAny (model G.prog G.w) A (eval y F.env) (fun b s₂=>wpAny (model G.prog G.w) A (compareOp o a b) Q E s₂) E s₁) (fun Q E h=>wpAny_Compare1 h (jf hs o)) h1 fun s' β' v d O' e st sr rv=>?_
 refine DoesW.seqE (T₁:=tr G A (eval y F.env)) (T₂:=fun b=>tr G A (compareOp o v b)) (fun Q E h=>h) (h2 s' β' O' sr) fun s₂ β₂ u d₂ O₂ e₂ st₂ sr₂ ru=>?_
 exact uz ro ho sr₂ (rv.step sr.br sr.fm st₂) ru
theorem v0{M:Model}{E:Value→Shared→Prop}{x y z:Expr}{o1 o2:CmpOp}{pos:Pos}{env:Env}{Q:Value→Shared→Prop}
 (h:wpAny M A (eval x env) (fun a s₁=>wpAny M A (eval y env) (fun b s₂=>wpAny M A (compareOp o1 a b) (fun c s₃=>wpAny M A (truthy c) (fun t s₄=>if t=true then wpAny M A (eval z env) (fun d s₅=>wpAny M A (compareOp o2 b d) Q E s₅) E s₄ else Q c s₄) E s₃) E s₂) E s₁) E s)
 (hy:∀ l k p,y≠.Set l k p) (hz:∀ l k p,z≠.Set l k p):wpAny M A (eval (.Compare x [o1,o2] [y,z] pos) env) Q E s:=by
 show wpAny M A (do compareChain pos (← eval x env) [o1,o2] (markedEach [o1,o2] [y,z] (evalEach [y,z] env))) Q E s
 have hm:markedEach [o1,o2] [y,z] (evalEach [y,z] env)=[eval y env,eval z env]:=by
  show [eval y env,markedBehindIn o2 z (eval z env)]=_
  rw[markedBehindIn_of_false (jf hz o2)]
 rw[hm]
 refine wpAny_bind (wpAny_mono h (fun a s₁ h₁=>?_) fun _ _ x=>x)
 show wpAny M A (do
  let rv ← holding [a] (eval y env)
  standAt pos
  let c ← holding [a,rv] (compareOp o1 a rv)
  release [a,rv] [c]
  if ← holding [c,rv] (truthy c) then compareChain pos rv [o2] [eval z env] else pure c) Q E s₁
 refine wpAny_bind (wpAny_holding (wpAny_mono h₁ (fun b s₂ h₂=>wpAny_bind (wpAny_standAt (wpAny_bind (wpAny_holding (wpAny_mono h₂ (fun c s₃ h₃=>?_) fun _ _ x=>x))))) fun _ _ x=>x))
 refine wpAny_bind (wpAny_release (wpAny_bind (wpAny_holding (wpAny_mono h₃ (fun t s₄ h₄=>?_) fun _ _ x=>x))))
 cases t with
 | false=>rw[if_neg (by decide)] at h₄;exact wpAny_pure h₄
 | true=>
   rw[if_pos rfl] at h₄
   show wpAny M A (do
    let rv ← holding [b] (eval z env)
    standAt pos
    operate [b,rv] (compareOp o2 b rv)) Q E s₄
   exact wpAny_bind (wpAny_holding (wpAny_mono h₄ (fun d s₅ h₅=>wpAny_bind (wpAny_standAt (wpAny_operating h₅))) fun _ _ x=>x))
end
noncomputable def tv(r:R za V):R za Bool:=r.bind fun v O=>opt (truth v) O
section
variable{G:Gl}{F:Fm}{A:Around}{s:Shared}{β:List Addr}{ρ:Loc}{O:za}
theorem zn9{p q:Cop}{o1 o2:CmpOp}{x y z:Expr}{ps:Pos}{ra:R za V}{rb rc:za→R za V}{k:Nat}(ro:Room A k)(h1o:jc p o1=true)(h2o:jc q o2=true)
 (hy:∀ l k p,y≠.Set l k p) (hz:∀ l k p,z≠.Set l k p)
 (h1:Does G F A s β (eval x F.env) (ra.lift ρ) (VRel G F)) (h2:∀ s' β' O',SR G F β' ρ O' s'.heap→Does G F A s' β' (eval y F.env) ((rb O').lift ρ) (VRel G F))
 (h3:∀ s' β' O',SR G F β' ρ O' s'.heap→Does G F A s' β' (eval z F.env) ((rc O').lift ρ) (VRel G F)) :
 Does G F A s β (eval (.Compare x [o1,o2] [y,z] ps) F.env) ((ra.bind fun v O=>(rb O).bind fun u O=>(cmpV p v u O).bind fun t O=>(opt (truth t) O).bind (andK fun O=>(rc O).bind fun y O=>cmpV q u y O)).lift ρ) (VRel G F):=by
 refine DoesW.seqE (T₂:=fun a Q E s₁=>wpAny (model G.prog G.w) A (eval y F.env) (fun b s₂=>wpAny (model G.prog G.w) A (compareOp o1 a b) (fun c s₃=>wpAny (model G.prog G.w) A (truthy c) (fun t s₄=>if t=true then wpAny (model G.prog G.w) A (eval z F.env) (fun d s₅=>wpAny (model G.prog G.w) A (compareOp o2 b d) Q E s₅) E s₄ else Q c s₄) E s₃) E s₂) E s₁)
  (fun Q E h=>v0 h hy hz) h1 fun s' β' v d O' e st sr rv=>?_
 refine DoesW.seqE (T₁:=tr G A (eval y F.env)) (T₂:=fun b Q E s₂=>wpAny (model G.prog G.w) A (compareOp o1 v b) (fun c s₃=>wpAny (model G.prog G.w) A (truthy c) (fun t s₄=>if t=true then wpAny (model G.prog G.w) A (eval z F.env) (fun d s₅=>wpAny (model G.prog G.w) A (compareOp o2 b d) Q E s₅) E s₄ else Q c s₄) E s₃) E s₂) (fun Q E h=>h) (h2 s' β' O' sr) fun s₂ β₂ u d₂ O₂ e₂ st₂ sr₂ ru=>?_
 refine DoesW.seqE (T₁:=tr G A (compareOp o1 v u)) (T₂:=fun c Q E s₃=>wpAny (model G.prog G.w) A (truthy c) (fun t s₄=>if t=true then wpAny (model G.prog G.w) A (eval z F.env) (fun d s₅=>wpAny (model G.prog G.w) A (compareOp o2 u d) Q E s₅) E s₄ else Q c s₄) E s₃) (fun Q E h=>h) (uz ro h1o sr₂ (rv.step sr.br sr.fm st₂) ru) fun s₃ β₃ c d₃ O₃ e₃ st₃ sr₃ rc'=>?_
 refine DoesW.seqE (T₁:=tr G A (truthy c)) (T₂:=fun t Q E s₄=>if t=true then wpAny (model G.prog G.w) A (eval z F.env) (fun d s₅=>wpAny (model G.prog G.w) A (compareOp o2 u d) Q E s₅) E s₄ else Q c s₄) (fun Q E h=>h) (kl sr₃ rc') fun s₄ β₄ b b' O₄ e₄ st₄ sr₄ hb=>?_
 have hb:b=b':=hb
 subst hb
 have hd:truth d₃=some b:=by cases h:truth d₃ with
  | none=>rw[h] at e₄;cases e₄
  | some c=>rw[h] at e₄;cases e₄;rfl
 have:=w0 rc' hd
 subst this
 have ru':=(ru.step sr₂.br sr₂.fm (st₃.trans st₄))
 cases b with
 | false=>exact d_ok sr₄ VR.bool fun Q E h=>by show if _ then _ else _;rw[if_neg (by decide)];exact h
 | true=>
   refine DoesW.seqE (T₁:=tr G A (eval z F.env)) (T₂:=fun d=>tr G A (compareOp o2 u d)) (fun Q E h=>by show if _ then _ else _;rw[if_pos rfl];exact h) (h3 s₄ β₄ O₄ sr₄) fun s₅ β₅ w d₅ O₅ e₅ st₅ sr₅ rw'=>?_
   exact uz ro h2o sr₅ (ru'.step sr₄.br sr₄.fm st₅) rw'
theorem ztb{x y z:Expr}{p:Pos}{rt:R za V}{ra rb:za→R za V}(h1:Does G F A s β (isTrue x F.env (eval x F.env)) ((tv rt).lift ρ) BRel)
 (h2:∀ s' β' O',SR G F β' ρ O' s'.heap→Does G F A s' β' (eval y F.env) ((ra O').lift ρ) (VRel G F))
 (h3:∀ s' β' O',SR G F β' ρ O' s'.heap→Does G F A s' β' (eval z F.env) ((rb O').lift ρ) (VRel G F)) :
 Does G F A s β (eval (.IfExp x y z p) F.env) ((rt.bind fun v O=>(opt (truth v) O).bind (iteK ra rb)).lift ρ) (VRel G F):=by
 have e:(rt.bind fun v O=>(opt (truth v) O).bind (iteK ra rb))=(tv rt).bind (iteK ra rb):=by cases rt <;> rfl
 rw[e]
 refine DoesW.seqE (T₂:=fun b Q E s₁=>if b=true then wpAny (model G.prog G.w) A (eval y F.env) Q E s₁ else wpAny (model G.prog G.w) A (eval z F.env) Q E s₁) (fun Q E h=>?_) h1 fun s' β' b b' O' e st sr rb'=>?_
 ·show wpAny (model G.prog G.w) A (do if ← isTrue x F.env (eval x F.env) then eval y F.env else eval z F.env) Q E s
  refine wpAny_bind (wpAny_mono h (fun b s₁ h₁=>?_) fun _ _ x=>x)
  cases b with
  | true=>rw[if_pos rfl] at h₁;exact h₁
  | false=>rw[if_neg (by decide)] at h₁;exact h₁
 have hb:b=b':=rb'
 subst hb
 cases b with
 | true=>exact (h2 s' β' O' sr).weaken (fun Q E h=>by show if _ then _ else _;rw[if_pos rfl];exact h) fun _ _ _ _ h=>h
 | false=>exact (h3 s' β' O' sr).weaken (fun Q E h=>by show if _ then _ else _;rw[if_neg (by decide)];exact h) fun _ _ _ _ h=>h
theorem zmq{e:Expr}{r:R za V}(he:isTrue e F.env (eval e F.env)=(do let v ← eval e F.env;standAt e.pos;holding [v] (truthy v)))
 (h1:Does G F A s β (eval e F.env) (r.lift ρ) (VRel G F)):Does G F A s β (isTrue e F.env (eval e F.env)) ((tv r).lift ρ) BRel:=
 DoesW.seqE (T₂:=fun v=>tr G A (truthy v)) (fun Q E h=>wpAny_isTrue_value h he) h1 fun s' β' v d O' e st sr rv=>kl sr rv
theorem zrx{x:Expr}{p:Pos}{r:R za V}(h1:Does G F A s β (isTrue x F.env (eval x F.env)) ((tv r).lift ρ) BRel) :
 Does G F A s β (isTrue (.UnaryOp .Not x p) F.env (eval (.UnaryOp .Not x p) F.env)) ((tv (r.bind fun v O=>opt ((truth v).map fun b=>V.d (.bool !b)) O)).lift ρ) BRel:=by
 have e:tv (r.bind fun v O=>opt ((truth v).map fun b=>V.d (.bool !b)) O)=(tv r).bind fun b O=>.ok (!b) O:=by
  cases r with
  | ok v O=>show R.bind (opt ((truth v).map fun b=>V.d (.bool !b)) O) _=R.bind (opt (truth v) O) _;cases truth v <;> rfl
  | stuck=>rfl
 rw[e]
 refine DoesW.seqE (T₂:=fun b Q E s₁=>Q (!b) s₁) (fun Q E h=>wpAny_isTrue_Not h) h1 fun s' β' b b' O' e st sr hb=>?_
 have hb:b=b':=hb
 subst hb
 exact Does.leaf sr fun Q E q=>q _ _ (KeepsAll.refl s') rfl
theorem zby{op:BoolOp}(sr:SR G F β ρ O s.heap):Does G F A s β (allTrue op [] F.env) ((R.ok (op == .And) O).lift ρ) BRel:=
 Does.leaf sr fun Q E q=>wpAny_pure (q _ _ (KeepsAll.refl s) rfl)
theorem ug{x:Expr}{rest:List Expr}{ra:R za V}{rb:za→R za Bool}(h1:Does G F A s β (isTrue x F.env (eval x F.env)) ((tv ra).lift ρ) BRel)
 (h2:∀ s' β' O',SR G F β' ρ O' s'.heap→Does G F A s' β' (allTrue .And rest F.env) ((rb O').lift ρ) BRel) :
 Does G F A s β (allTrue .And (x::rest) F.env) (((tv ra).bind fun t O=>(match t with | true=>rb O | false=>.ok false O)).lift ρ) BRel:=by
 refine DoesW.seqE (T₂:=fun t Q E s₁=>if t=true then wpAny (model G.prog G.w) A (allTrue .And rest F.env) Q E s₁ else Q false s₁) (fun Q E h=>?_) h1 fun s' β' b b' O' e st sr hb=>?_
 ·show wpAny (model G.prog G.w) A (do
   match BoolOp.And,← isTrue x F.env (eval x F.env) with
   | .And,false=>pure false
   | .Or,true=>pure true
   | _,_=>allTrue .And rest F.env) Q E s
  refine wpAny_bind (wpAny_mono h (fun t s₁ h₁=>?_) fun _ _ x=>x)
  cases t with
  | true=>rw[if_pos rfl] at h₁;exact h₁
  | false=>rw[if_neg (by decide)] at h₁;exact wpAny_pure h₁
 have hb:b=b':=hb
 subst hb
 cases b with
 | true=>exact (h2 s' β' O' sr).weaken (fun Q E h=>by show if _ then _ else _;rw[if_pos rfl];exact h) fun _ _ _ _ h=>h
 | false=>exact Does.leaf sr fun Q E q=>by show if _ then _ else _;rw[if_neg (by decide)];exact q _ _ (KeepsAll.refl s') rfl
theorem d7{x:Expr}{rest:List Expr}{ra:R za V}{rb:za→R za Bool}(h1:Does G F A s β (isTrue x F.env (eval x F.env)) ((tv ra).lift ρ) BRel)
 (h2:∀ s' β' O',SR G F β' ρ O' s'.heap→Does G F A s' β' (allTrue .Or rest F.env) ((rb O').lift ρ) BRel) :
 Does G F A s β (allTrue .Or (x::rest) F.env) (((tv ra).bind fun t O=>(match t with | true=>.ok true O | false=>rb O)).lift ρ) BRel:=by
 refine DoesW.seqE (T₂:=fun t Q E s₁=>if t=true then Q true s₁ else wpAny (model G.prog G.w) A (allTrue .Or rest F.env) Q E s₁) (fun Q E h=>?_) h1 fun s' β' b b' O' e st sr hb=>?_
 ·show wpAny (model G.prog G.w) A (do
   match BoolOp.Or,← isTrue x F.env (eval x F.env) with
   | .And,false=>pure false
   | .Or,true=>pure true
   | _,_=>allTrue .Or rest F.env) Q E s
  refine wpAny_bind (wpAny_mono h (fun t s₁ h₁=>?_) fun _ _ x=>x)
  cases t with
  | true=>rw[if_pos rfl] at h₁;exact wpAny_pure h₁
  | false=>rw[if_neg (by decide)] at h₁;exact h₁
 have hb:b=b':=hb
 subst hb
 cases b with
 | false=>exact (h2 s' β' O' sr).weaken (fun Q E h=>by show if _ then _ else _;rw[if_neg (by decide)];exact h) fun _ _ _ _ h=>h
 | true=>exact Does.leaf sr fun Q E q=>by show if _ then _ else _;rw[if_pos rfl];exact q _ _ (KeepsAll.refl s') rfl
theorem zry{op:Cop}{o:CmpOp}{x y:Expr}{p:Pos}{ra:R za V}{rb:za→R za V}{k:Nat}(ro:Room A k)(ho:jc op o=true)(hs:∀ l k p,y≠.Set l k p)
 (h1:Does G F A s β (eval x F.env) (ra.lift ρ) (VRel G F)) (h2:∀ s' β' O',SR G F β' ρ O' s'.heap→Does G F A s' β' (eval y F.env) ((rb O').lift ρ) (VRel G F)) :
 Does G F A s β (isTrue (.Compare x [o] [y] p) F.env (eval (.Compare x [o] [y] p) F.env)) ((tv (ra.bind fun v O=>(rb O).bind fun u O=>cmpV op v u O)).lift ρ) BRel:=by
 have e:tv (ra.bind fun v O=>(rb O).bind fun u O=>cmpV op v u O)=ra.bind fun v O=>(rb O).bind fun u O=>(cmpV op v u O).bind fun c O=>opt (truth c) O:=by
  cases ra with
  | ok v O=>show R.bind (R.bind (rb O) _) _=R.bind (rb O) _;cases rb O <;> rfl
  | stuck=>rfl
 rw[e]
 refine DoesW.seqE (T₂:=fun a Q E s₁=>wpAny (model G.prog G.w) A (eval y F.env) (fun b s₂=>wpAny (model G.prog G.w) A (compareOp o a b) (fun c s₃=>wpAny (model G.prog G.w) A (truthy c) Q E s₃) E s₂) E s₁) (fun Q E h=>wpAny_isTrue_Compare1 h (jf hs o)) h1 fun s' β' v d O' e st sr rv=>?_
 refine DoesW.seqE (T₁:=tr G A (eval y F.env)) (T₂:=fun b Q E s₂=>wpAny (model G.prog G.w) A (compareOp o v b) (fun c s₃=>wpAny (model G.prog G.w) A (truthy c) Q E s₃) E s₂) (fun Q E h=>h) (h2 s' β' O' sr) fun s₂ β₂ u d₂ O₂ e₂ st₂ sr₂ ru=>?_
 refine DoesW.seqE (T₁:=tr G A (compareOp o v u)) (T₂:=fun c=>tr G A (truthy c)) (fun Q E h=>h) (uz ro ho sr₂ (rv.step sr.br sr.fm st₂) ru) fun s₃ β₃ c d₃ O₃ e₃ st₃ sr₃ rc=>?_
 exact kl sr₃ rc
end
section
variable{G:Gl}{F:Fm}{A:Around}{s:Shared}{β:List Addr}{ρ:Loc}{O:za}
theorem ue{M:Model}{E:Value→Shared→Prop}{x y z:Expr}{o1 o2:CmpOp}{pos:Pos}{env:Env}{whole:Sem Value}{Q:Bool→Shared→Prop}
 (h:wpAny M A (eval x env) (fun a s₁=>wpAny M A (eval y env) (fun b s₂=>wpAny M A (compareOp o1 a b) (fun c s₃=>wpAny M A (truthy c) (fun t s₄=>if t=true then wpAny M A (eval z env) (fun d s₅=>wpAny M A (compareOp o2 b d) (fun e s₆=>wpAny M A (truthy e) Q E s₆) E s₅) E s₄ else Q false s₄) E s₃) E s₂) E s₁) E s)
 (hy:∀ l k p,y≠.Set l k p) (hz:∀ l k p,z≠.Set l k p):wpAny M A (isTrue (.Compare x [o1,o2] [y,z] pos) env whole) Q E s:=by
 show wpAny M A (do testChain pos (← eval x env) [o1,o2] (markedEach [o1,o2] [y,z] (evalEach [y,z] env))) Q E s
 have hm:markedEach [o1,o2] [y,z] (evalEach [y,z] env)=[eval y env,eval z env]:=by
  show [eval y env,markedBehindIn o2 z (eval z env)]=_
  rw[markedBehindIn_of_false (jf hz o2)]
 rw[hm]
 refine wpAny_bind (wpAny_mono h (fun a s₁ h₁=>?_) fun _ _ x=>x)
 show wpAny M A (do
  let rv ← holding [a] (eval y env)
  standAt pos
  let c ← holding [a,rv] (compareOp o1 a rv)
  release [a,rv] [c]
  if ← holding [c,rv] (truthy c) then testChain pos rv [o2] [eval z env] else pure false) Q E s₁
 refine wpAny_bind (wpAny_holding (wpAny_mono h₁ (fun b s₂ h₂=>wpAny_bind (wpAny_standAt (wpAny_bind (wpAny_holding (wpAny_mono h₂ (fun c s₃ h₃=>?_) fun _ _ x=>x))))) fun _ _ x=>x))
 refine wpAny_bind (wpAny_release (wpAny_bind (wpAny_holding (wpAny_mono h₃ (fun t s₄ h₄=>?_) fun _ _ x=>x))))
 cases t with
 | false=>rw[if_neg (by decide)] at h₄;exact wpAny_pure h₄
 | true=>
   rw[if_pos rfl] at h₄
   show wpAny M A (do
    let rv ← holding [b] (eval z env)
    standAt pos
    let c ← operate [b,rv] (compareOp o2 b rv)
    holding [c] (truthy c)) Q E s₄
   exact wpAny_bind (wpAny_holding (wpAny_mono h₄ (fun d s₅ h₅=>wpAny_bind (wpAny_standAt (wpAny_bind (wpAny_operating (wpAny_mono h₅ (fun e s₆ h₆=>wpAny_holding h₆) fun _ _ x=>x))))) fun _ _ x=>x))
theorem zms{p q:Cop}{o1 o2:CmpOp}{x y z:Expr}{ps:Pos}{ra:R za V}{rb rc:za→R za V}{k:Nat}(ro:Room A k)(h1o:jc p o1=true)(h2o:jc q o2=true)
 (hy:∀ l k p,y≠.Set l k p) (hz:∀ l k p,z≠.Set l k p)
 (h1:Does G F A s β (eval x F.env) (ra.lift ρ) (VRel G F)) (h2:∀ s' β' O',SR G F β' ρ O' s'.heap→Does G F A s' β' (eval y F.env) ((rb O').lift ρ) (VRel G F))
 (h3:∀ s' β' O',SR G F β' ρ O' s'.heap→Does G F A s' β' (eval z F.env) ((rc O').lift ρ) (VRel G F)) :
 Does G F A s β (isTrue (.Compare x [o1,o2] [y,z] ps) F.env (eval (.Compare x [o1,o2] [y,z] ps) F.env)) ((tv (ra.bind fun v O=>(rb O).bind fun u O=>(cmpV p v u O).bind fun t O=>(opt (truth t) O).bind (andK fun O=>(rc O).bind fun y O=>cmpV q u y O))).lift ρ) BRel:=by
 have e:tv (ra.bind fun v O=>(rb O).bind fun u O=>(cmpV p v u O).bind fun t O=>(opt (truth t) O).bind (andK fun O=>(rc O).bind fun y O=>cmpV q u y O))=ra.bind fun v O=>(rb O).bind fun u O=>(cmpV p v u O).bind fun t O=>(opt (truth t) O).bind fun z O=>(match z with
  | false=>R.ok false O
  | true=>(rc O).bind fun y O=>(cmpV q u y O).bind fun c O=>opt (truth c) O):=by
  cases ra with
  | ok v O=>
    show R.bind (R.bind (rb O) _) _=R.bind (rb O) _
    cases rb O with
    | ok u O=>
      show R.bind (R.bind (cmpV p v u O) _) _=R.bind (cmpV p v u O) _
      cases cmpV p v u O with
      | ok t O=>
        show R.bind (R.bind (opt (truth t) O) _) _=R.bind (opt (truth t) O) _
        cases truth t with
        | none=>rfl
        | some b=>cases b with
          | false=>rfl
          | true=>show R.bind (R.bind (rc O) _) _=R.bind (rc O) _;cases rc O <;> rfl
      | stuck=>rfl
    | stuck=>rfl
  | stuck=>rfl
 rw[e]
 refine DoesW.seqE (T₂:=fun a Q E s₁=>wpAny (model G.prog G.w) A (eval y F.env) (fun b s₂=>wpAny (model G.prog G.w) A (compareOp o1 a b) (fun c s₃=>wpAny (model G.prog G.w) A (truthy c) (fun t s₄=>if t=true then wpAny (model G.prog G.w) A (eval z F.env) (fun d s₅=>wpAny (model G.prog G.w) A (compareOp o2 b d) (fun e s₆=>wpAny (model G.prog G.w) A (truthy e) Q E s₆) E s₅) E s₄ else Q false s₄) E s₃) E s₂) E s₁)
  (fun Q E h=>ue h hy hz) h1 fun s' β' v d O' e st sr rv=>?_
 refine DoesW.seqE (T₁:=tr G A (eval y F.env)) (T₂:=fun b Q E s₂=>wpAny (model G.prog G.w) A (compareOp o1 v b) (fun c s₃=>wpAny (model G.prog G.w) A (truthy c) (fun t s₄=>if t=true then wpAny (model G.prog G.w) A (eval z F.env) (fun d s₅=>wpAny (model G.prog G.w) A (compareOp o2 b d) (fun e s₆=>wpAny (model G.prog G.w) A (truthy e) Q E s₆) E s₅) E s₄ else Q false s₄) E s₃) E s₂) (fun Q E h=>h) (h2 s' β' O' sr) fun s₂ β₂ u d₂ O₂ e₂ st₂ sr₂ ru=>?_
 refine DoesW.seqE (T₁:=tr G A (compareOp o1 v u)) (T₂:=fun c Q E s₃=>wpAny (model G.prog G.w) A (truthy c) (fun t s₄=>if t=true then wpAny (model G.prog G.w) A (eval z F.env) (fun d s₅=>wpAny (model G.prog G.w) A (compareOp o2 u d) (fun e s₆=>wpAny (model G.prog G.w) A (truthy e) Q E s₆) E s₅) E s₄ else Q false s₄) E s₃) (fun Q E h=>h) (uz ro h1o sr₂ (rv.step sr.br sr.fm st₂) ru) fun s₃ β₃ c d₃ O₃ e₃ st₃ sr₃ rc'=>?_
 refine DoesW.seqE (T₁:=tr G A (truthy c)) (T₂:=fun t Q E s₄=>if t=true then wpAny (model G.prog G.w) A (eval z F.env) (fun d s₅=>wpAny (model G.prog G.w) A (compareOp o2 u d) (fun e s₆=>wpAny (model G.prog G.w) A (truthy e) Q E s₆) E s₅) E s₄ else Q false s₄) (fun Q E h=>h) (kl sr₃ rc') fun s₄ β₄ b b' O₄ e₄ st₄ sr₄ hb=>?_
 have hb:b=b':=hb
 subst hb
 have ru':=(ru.step sr₂.br sr₂.fm (st₃.trans st₄))
 cases b with
 | false=>exact Does.leaf sr₄ fun Q E q=>by show if _ then _ else _;rw[if_neg (by decide)];exact q _ _ (KeepsAll.refl _) rfl
 | true=>
   refine DoesW.seqE (T₁:=tr G A (eval z F.env)) (T₂:=fun d Q E s₅=>wpAny (model G.prog G.w) A (compareOp o2 u d) (fun e s₆=>wpAny (model G.prog G.w) A (truthy e) Q E s₆) E s₅) (fun Q E h=>by show if _ then _ else _;rw[if_pos rfl];exact h) (h3 s₄ β₄ O₄ sr₄) fun s₅ β₅ w d₅ O₅ e₅ st₅ sr₅ rw'=>?_
   refine DoesW.seqE (T₁:=tr G A (compareOp o2 u w)) (T₂:=fun e=>tr G A (truthy e)) (fun Q E h=>h) (uz ro h2o sr₅ (ru'.step sr₄.br sr₄.fm st₅) rw') fun s₆ β₆ c' d₆ O₆ e₆ st₆ sr₆ rc''=>?_
   exact kl sr₆ rc''
end
section
variable{G:Gl}{F:Fm}{A:Around}{cx:Cx}{tgt:CT}{t:Expr}{scope:Scope}{gval:Nat→Option PyData}{gname:Nat→Option Str}{s:Shared}{β:List Addr}{ρ:Loc}{O:za}
theorem gh(env:Env):∀ (ifs:List Expr),(forIn ifs false fun c r=>if r=true then do let ok ← isTrue c env (eval c env);pure (ForInStep.yield ok) else pure (ForInStep.yield r):Sem Bool)=pure false
 | []=>by rw[List.forIn_nil]
 | c::rest=>by
   rw[List.forIn_cons]
   simp only[Bool.false_eq_true,if_false,pure_bind]
   exact gh env rest
theorem zev(sr:SR G F β ρ O s.heap):Does G F A s β (xf [] F.env) ((R.ok true O).lift ρ) BRel:=
 Does.leaf sr fun Q E q=>wpAny_pure (q _ _ (KeepsAll.refl s) rfl)
theorem zdm{x:Expr}{rest:List Expr}{ra:R za V}{rb:za→R za Bool}(h1:Does G F A s β (isTrue x F.env (eval x F.env)) ((tv ra).lift ρ) BRel)
 (h2:∀ s' β' O',SR G F β' ρ O' s'.heap→Does G F A s' β' (xf rest F.env) ((rb O').lift ρ) BRel) :
 Does G F A s β (xf (x::rest) F.env) (((tv ra).bind fun t O=>(match t with | true=>rb O | false=>.ok false O)).lift ρ) BRel:=by
 refine DoesW.seqE (T₂:=fun t Q E s₁=>if t=true then wpAny (model G.prog G.w) A (xf rest F.env) Q E s₁ else Q false s₁) (fun Q E h=>?_) h1 fun s' β' b b' O' e st sr hb=>?_
 ·show wpAny (model G.prog G.w) A (xf (x::rest) F.env) Q E s
  unfold xf
  rw[List.forIn_cons]
  simp only[if_true]
  refine wpAny_bind (wpAny_bind (wpAny_mono h (fun t s₁ h₁=>?_) fun _ _ x=>x))
  cases t with
  | true=>rw[if_pos rfl] at h₁;exact wpAny_pure h₁
  | false=>
    rw[if_neg (by decide)] at h₁
    refine wpAny_pure ?_
    show wpAny _ _ (forIn rest false _) Q E s₁
    rw[gh];exact wpAny_pure h₁
 have hb:b=b':=hb
 subst hb
 cases b with
 | true=>exact (h2 s' β' O' sr).weaken (fun Q E h=>by show if _ then _ else _;rw[if_pos rfl];exact h) fun _ _ _ _ h=>h
 | false=>exact Does.leaf sr fun Q E q=>by show if _ then _ else _;rw[if_neg (by decide)];exact q _ _ (KeepsAll.refl s') rfl
theorem Fits.plus(fit:Fits F cx)(M:List Addr):Fits (F.plus M) cx:=⟨fit.names,fit.kind,fit.sck⟩
set_option tactic.hygienic true in
theorem zjd{elt iter:Expr}{ifs:List Expr}{pos spos px:Pos}{x:Str}{i:Nat}{own:Str→Bool}{r:R za Src}{evT:Loc→za→R za Bool}{evX:Loc→za→R za V}{K:V→za→R za V}
 (g:GOk G gval gname) (hh:A.handled=none) (fit:Fits F cx) (hown:∀ x,own x=true→F.own x=true) (hx:chkT cx own (.name i) (.Name x px)=true) (hsc:xg scope cx.sc=true) (honce:xo (cx.inner tgt t scope).names=true) (hc:chkT (cx.inner tgt t scope) (ownOf scope) tgt t=true) (hset:∀ l k p,iter≠.Set l k p)
 (ht:∀ C D s β ρ O,SR G (zj cx F tgt t scope C D) β ρ O s.heap→Does G (zj cx F tgt t scope C D) A s β (xf ifs (zj cx F tgt t scope C D).env) ((evT ρ O).lift ρ) BRel)
 (he:∀ C D s β ρ O,SR G (zj cx F tgt t scope C D) β ρ O s.heap→Does G (zj cx F tgt t scope C D) A s β (eval elt (zj cx F tgt t scope C D).env) ((evX ρ O).lift ρ) (VRel G (zj cx F tgt t scope C D)))
 (sr:SR G F β ρ O s.heap) (hI:DoesW G F s β (zcd G A iter F.env) (r.lift ρ) (IRel G F A t s)) (has:∀ src O',r=.ok src O'→src.Has O') (hK:Fin2 K)
 (hsw:swapsWith (.ListComp elt [⟨t,iter,ifs,0⟩] scope pos) (some (.Name x px)) spos.line F.env=pure true) :
 Does G F A s β (exec (.Assign [.Name x px] (.ListComp elt [⟨t,iter,ifs,0⟩] scope pos) spos) F.env) ((((r.bind fun src O=>if src.xs.length≤line then z7 src (yz tgt evT evX ρ) src.xs [] O else .stuck).bind K).lift ρ).bind (asgR (.name i))) (yv G F):=by
 obtain⟨k1,k2,k3⟩:=yn hsc
 have hclos:=we (zcn (sc:=cx.sc) fit sr.fm hsc)
 have hfold:∀ x,foldedSetIterable iter F.env x=pure x:=fun x=>qn hset _ _
 have open_:∀ (Q:Flow→Shared→Prop) (E:Value→Shared→Prop),
  wpAny (model G.prog G.w) A (comprehension (.ListComp elt [⟨t,iter,ifs,0⟩] scope pos) scope F.env iter.pos (newList []) false (eval iter F.env) (some (assign (.Name x px) F.env))) (fun _ s'=>Q .next s') E s →
  wpAny (model G.prog G.w) A (exec (.Assign [.Name x px] (.ListComp elt [⟨t,iter,ifs,0⟩] scope pos) spos) F.env) Q E s:=fun Q E h=>by
  rw[exec_Assign_Name_used _ _ _ _ hsw]
  refine wpAny_bind (wpAny_standAt (wpAny_bind ?_))
  show wpAny _ A (do let _ ← comprehension (.ListComp elt [⟨t,iter,ifs,0⟩] scope pos) scope F.env _ (newList []) false (eval iter F.env) (some (assign (.Name x px) F.env))) _ _ s
  exact wpAny_bind (wpAny_mono h (fun _ s' hq=>wpAny_pure (wpAny_pure hq)) fun _ _ e=>e)
 cases r with
 | stuck=>trivial
 | ok src O₁=>
   show DoesW G F s β _ ((R.lift ρ (R.bind (if src.xs.length≤line then z7 src (yz tgt evT evX ρ) src.xs [] O₁ else .stuck) K)).bind (asgR (.name i))) _
   split
   ·rename_i hlen
    rcases k7 (src:=src) (turn:=yz tgt evT evX ρ) src.xs [] O₁ with ⟨res,O',hgo⟩ | hgo
    ·rw[hgo]
     show DoesW G F s β _ ((R.lift ρ (K (.d (.list res)) O')).bind (asgR (.name i))) _
     have run:∀ (Q:Flow→Shared→Prop) (E:Value→Shared→Prop),(∀ s₁ β₁ Z C D s' β',Step F.W β s s₁ β₁→SR G F β₁ ρ O₁ s₁.heap→(∀ z∈Z,Itr s₁.heap z)→(∀ z∈Z,z∉F.B)→(∀ z∈Z,s.heap.get? z=none) →
      CompEnd G F scope Z β₁ s₁ C D res O' s' β'→D∉yy scope C→wpAny (model G.prog G.w) A (assign (.Name x px) F.env (.ref D)) (fun _ s''=>∃ m,s''.heap.Ns C m∧∀ h',Heap.SameBut C s''.heap h'→Q .next { s'' with heap:=h' }) E s') →
      wpAny (model G.prog G.w) A (exec (.Assign [.Name x px] (.ListComp elt [⟨t,iter,ifs,0⟩] scope pos) spos) F.env) Q E s:=by
      intro Q E k
      refine open_ Q E ?_
      refine wpAny_comprehension_free (use:=some _) rfl hfold hclos k1 (gs hsc) (hI _ _ fun s₁ β₁ it st sr₁ ⟨I,Z,St,e,W,h0,hz⟩=>?_)
      subst e
      have hz0:∀ z∈Z,G.h₀.get? z=none:=fun z hz'=>by
       cases e:G.h₀.get? z with
       | none=>rfl
       | some o=>have:=sr.br.keep z o e;rw[hz z hz'] at this;cases this
      have hzB:∀ z∈Z,z∉F.B:=fun z hz' hB=>by
       obtain⟨o,e,_⟩:=sr.fm.stor z hB
       rw[hz z hz'] at e;cases e
      refine zcl (RR:=fun acc C=>compPost (model G.prog G.w) A E (some (assign (.Name x px) F.env)) (fun _ s'=>Q .next s') acc C) g hh fit hsc honce hc ht he W sr₁ hz0 hzB hlen (has _ _ rfl) h0 hgo fun C D s' β' ce=>?_
      obtain⟨m,hm⟩:=ce.ns
      have hDM:D∉yy scope C:=fun hm'=>by
       obtain⟨o,vs,n,q1,q2,q3,_⟩:=ce.list
       rcases List.mem_cons.mp hm' with e | hm'
       ·subst e
        obtain⟨o',es,ep,p1,p2,_⟩:=hm
        rw[q1] at p1;cases p1;rw[q3] at p2;cases p2
       ·exact ce.notCell hm'
      exact k s₁ β₁ Z C D s' β' st sr₁ (W.itr _ _ _ _ h0) hzB hz ce hDM
     have fin:∀ (Q:Flow→Shared→Prop) (E:Value→Shared→Prop) (s₁:Shared) (β₁ Z:List Addr) (C D:Addr) (s':Shared) (β' β₂:List Addr) (v:V) (O₂:za) (S:Loc×za),Step F.W β s s₁ β₁→SR G F β₁ ρ O₁ s₁.heap→(∀ z∈Z,s.heap.get? z=none) →
      CompEnd G F scope Z β₁ s₁ C D res O' s' β'→StepZ Z β₁ s₁ s' β₂→SR G (F.plus (yy scope C)) β₂ ρ O₂ s'.heap→VR G (F.plus (yy scope C)).B β₂ s'.heap (.ref D) v→asgR (.name i) v (ρ,O₂)=.ok .next S →
      (∀ s' β' a,Step F.W β s s' β'→SR G F β' S.1 S.2 s'.heap→yv G F β' s'.heap a .next→Q a s') →
      wpAny (model G.prog G.w) A (assign (.Name x px) F.env (.ref D)) (fun _ s''=>∃ m,s''.heap.Ns C m∧∀ h',Heap.SameBut C s''.heap h'→Q .next { s'' with heap:=h' }) E s':=by
      intro Q E s₁ β₁ Z C D s' β' β₂ v O₂ S st sr₁ hz ce sz srp vr hasg k
      have hCM:C∈yy scope C:=List.mem_cons_self
      have hCn:=ce.new C (List.mem_cons_of_mem _ List.mem_cons_self)
      have hCB:C∉F.B:=fun hB=>by
       obtain⟨o,e,_⟩:=sr₁.fm.stor C hB
       rw[hCn] at e;cases e
      have hCMp:C∈(F.plus (yy scope C)).B:=List.mem_append_left _ hCM
      have da:=jo (A:=A) hh (fit.plus (yy scope C)) hown (.name i) hx srp vr
      unfold asgR at hasg
      unfold bindR at da
      dsimp only at hasg da
      cases hbt:zp (.name i) v ρ with
      | none=>rw[hbt] at hasg;cases hasg
      | some ρ'=>
        rw[hbt] at hasg da
        cases hasg
        refine da _ _ fun s₃ β₃ _ st₃ sr₃ _=>?_
        obtain⟨m,hm⟩:=ce.ns
        refine⟨m,Kin.ns hm fun o p1=>st₃.kept C o p1 (srp.fm.notBox C hCMp) fun hw=>hCB (sr₁.fm.sub C hw),fun h' hs=>?_⟩
        have hs':∀ b o,b≠C→s₃.heap.get? b=some o→h'.get? b=some o:=fun b o hb e=>(hs.2 b hb).trans e
        have srF:=SR.drop sr₁.fm sr₃ hCM hCB hs'
        refine k _ β₃ _ ?_ srF rfl
        have s1:Step F.W β s s₃ β₃:=(st.thenStepZ sz hz).trans st₃
        exact s1.thenZ (Z:=[C]) ⟨rfl,rfl,fun b o hb e=>hs' b o (fun e'=>hb (by simp [e'])) e⟩ fun z hz'=>by
         rw [List.mem_singleton.mp hz']
         cases e:s.heap.get? C with
         | none=>rfl
         | some o=>obtain⟨o',e'⟩:=st.alive _ _ e;rw[hCn] at e';cases e'
     cases hK with
     | plain=>
       show DoesW G F s β _ (asgR (.name i) (.d (.list res)) (ρ,O')) _
       cases hasg:asgR (.name i) (.d (.list res)) (ρ,O') with
       | stuck=>trivial
       | ok fl S=>
         have hfl:fl=.next:=by unfold asgR at hasg;split at hasg <;> cases hasg;rfl
         subst hfl
         intro Q E k
         refine run Q E fun s₁ β₁ Z C D s' β' st sr₁ hz1 hzB hz ce hDM=>?_
         obtain ⟨srp,vr⟩:=ce.sr sr₁ hz1 hzB g.clsRef hDM
         exact fin Q E s₁ β₁ Z C D s' β' β' _ O' S st sr₁ hz ce ce.step srp vr hasg k
     | box=>
       show DoesW G F s β _ (asgR (.name i) (.box O'.length) (ρ,O'++[.lst res])) _
       cases hasg:asgR (.name i) (.box O'.length) (ρ,O'++[.lst res]) with
       | stuck=>trivial
       | ok fl S=>
         have hfl:fl=.next:=by unfold asgR at hasg;split at hasg <;> cases hasg;rfl
         subst hfl
         intro Q E k
         refine run Q E fun s₁ β₁ Z C D s' β' st sr₁ hz1 hzB hz ce hDM=>?_
         obtain ⟨sz,srp,vr⟩:=ce.srB sr₁ hz1 hzB g.clsRef hDM
         exact fin Q E s₁ β₁ Z C D s' β' _ _ _ S st sr₁ hz ce sz srp vr hasg k
    ·rw[hgo];trivial
   ·trivial
end
section
variable{G:Gl}{F:Fm}{A:Around}{s:Shared}{β:List Addr}{ρ:Loc}{O:za}
theorem ye{s:Shared}{h':Heap}{tk:Nat}(hk:∀ b o,s.heap.get? b=some o→h'.get? b=some o):KeepsAll s { s with heap:=h',toks:=tk }:=⟨rfl,rfl,hk⟩
noncomputable def zoi:Ty→String
 | .int=>"int"
 | .bool=>"bool"
 | .tuple=>"tuple"
 | .list=>"list"
 | .str=>"str"
theorem zpb(t:Ty):(wh t,Value.type (zoi t))∈bis:=by cases t <;> decide
theorem zku{t:Ty}{v:Value}{d:V}{x:PyData}(sr:SR G F β ρ O s.heap)(rv:VR G F.B β s.heap v d)(hx:look O d=some x) :
 LeafD G F s β (tr G A (call (.builtin "isinstance") [v,.type (zoi t)])) (V.d (.bool (isTy t x))) (FRel G F s):=by
 obtain⟨as,r⟩:=wo sr rv hx
 have kT:∀ (Q:Value→Shared→Prop) b,(∀ v' s',KeepsAll s s'→FRel G F s β s'.heap v' (V.d (.bool b))→Q v' s')→Q (.bool b) s∧Q (.bool b) { s with toks:=s.toks+1 }:=fun Q b k=>
  ⟨k _ _ (KeepsAll.refl s) ⟨VR.bool,fun _ h=>by cases h⟩,k _ _ (KeepsAll.toks s _) ⟨VR.bool,fun _ h=>by cases h⟩⟩
 refine LeafD.leaf sr fun Q E k=>?_
 obtain⟨k1,k2⟩:=kT Q _ k
 cases r with
 | none=>cases t <;> first | exact IsiPair.NoneType_int k2 | exact IsiPair.NoneType_bool k2 | exact IsiPair.NoneType_tuple k2 | exact IsiPair.NoneType_list k2 | exact IsiPair.NoneType_str k2
 | bool b=>cases t <;> first | exact IsiPair.bool_int k1 | exact IsiPair.bool_bool k1 | exact IsiPair.bool_tuple k2 | exact IsiPair.bool_list k2 | exact IsiPair.bool_str k2
 | int i u=>cases t <;> first | exact IsiPair.int_int k1 | exact IsiPair.int_bool k2 | exact IsiPair.int_tuple k2 | exact IsiPair.int_list k2 | exact IsiPair.int_str k2
 | str x u=>cases t <;> first | exact IsiPair.str_int k2 | exact IsiPair.str_bool k2 | exact IsiPair.str_tuple k2 | exact IsiPair.str_list k2 | exact IsiPair.str_str k1
 | list h1 h2 h3 h4=>cases t <;> first | exact IsiPair.list_int h1 h2 k2 | exact IsiPair.list_bool h1 h2 k2 | exact IsiPair.list_tuple h1 h2 k2 | exact IsiPair.list_list h1 h2 k1 | exact IsiPair.list_str h1 h2 k2
 | tuple h1 h2 h3 h4=>cases t <;> first | exact IsiPair.tuple_int h1 h2 k2 | exact IsiPair.tuple_bool h1 h2 k2 | exact IsiPair.tuple_tuple h1 h2 k1 | exact IsiPair.tuple_list h1 h2 k2 | exact IsiPair.tuple_str h1 h2 k2
 | dict h1 h2 h3 h4 h5=>cases t <;> first | exact IsiPair.dict_int h1 h2 k2 | exact IsiPair.dict_bool h1 h2 k2 | exact IsiPair.dict_tuple h1 h2 k2 | exact IsiPair.dict_list h1 h2 k2 | exact IsiPair.dict_str h1 h2 k2
theorem zga{v:Value}{d:V}{xs:List PyData}(sr:SR G F β ρ O s.heap)(rv:VR G F.B β s.heap v d)(hx:look O d=some (.list xs))(hl:xs.length≤line) :
 LeafD G F s β (tr G A (call (.builtin "len") [v])) (V.d (.int xs.length)) (FRel G F s):=by
 obtain⟨a,rfl,o,vs,n,h1,h2,h3,as,h4,h5⟩:=z8 sr rv hx
 have hsz:vs.size=xs.length:=by rw[← Array.length_toList,zd h4]
 refine LeafD.leaf sr fun Q E k=>Calls.call_len_list ⟨o,h1,h2,n,h3⟩ (by rw[hsz];have:line=1000000:=rfl;omega) ?_
 rw[hsz]
 exact k _ _ (KeepsAll.toks s _) ⟨VR.int,fun _ h=>by cases h⟩
theorem zed{v:Value}{xs:List PyData}(sr:SR G F β ρ O s.heap)(rv:VR G F.B β s.heap v (.d (.tuple xs)))(hl:xs.length≤line) :
 LeafD G F s β (tr G A (call (.builtin "len") [v])) (V.d (.int xs.length)) (FRel G F s):=by
 obtain⟨a,o,vs,n,rfl,h1,h2,h3,as,h4,h5⟩:=rv.tuple_inv
 have hsz:vs.size=xs.length:=by rw[← Array.length_toList,zd h4]
 refine LeafD.leaf sr fun Q E k=>PyProof.Rows.len_tuple ⟨o,h1,h2,n,h3⟩ (by rw[hsz];have:line=1000000:=rfl;omega) ?_
 rw[hsz]
 exact k _ _ (KeepsAll.toks s _) ⟨VR.int,fun _ h=>by cases h⟩
theorem zcp{h:Heap}{vs:List Value}{xs:List PyData}{as:List Addr}(r:ReadsAll h vs xs as):∀ {bs:List Bool},wf xs=some bs→vs=bs.map Value.bool:=by
 refine z6 (motive:=fun vs xs _=>∀ {bs:List Bool},wf xs=some bs→vs=bs.map Value.bool) (fun e=>by cases e;rfl) ?_ r
 intro v d as vs ds bs r _ ih is e
 cases d with
 | bool i=>
   obtain⟨bs,e1,rfl⟩:=Option.map_eq_some_iff.mp e
   cases r
   rw[ih e1];rfl
 | _=>cases e
theorem ints_get{h:Heap}{vs:List Value}{xs:List PyData}{as:List Addr}(r:ReadsAll h vs xs as):∀ {is:List Int},Mine.intsOf xs=some is→IntsAre vs is:=by
 refine z6 (motive:=fun vs xs _=>∀ {is:List Int},Mine.intsOf xs=some is→IntsAre vs is) (fun e=>by cases e;exact .nil) ?_ r
 intro v d as vs ds bs r _ ih is e
 cases d with
 | int i=>
   obtain⟨bs,e1,rfl⟩:=Option.map_eq_some_iff.mp e
   cases r
   exact .cons _ _ (ih e1)
 | _=>cases e
theorem ints_length:∀ {xs:List PyData} {is:List Int},Mine.intsOf xs=some is→xs=is.map PyData.int
 | [],_,e=>by cases e;rfl
 | x::xs,is,e=>by
   cases x with
   | int i=>
     obtain⟨bs,e1,rfl⟩:=Option.map_eq_some_iff.mp e
     rw[ints_length e1];rfl
   | _=>cases e
theorem range_all(bs:List Bool):(List.range bs.length).all (fun i=>bs[i]?.getD false)=bs.all id:=by
 rw[Bool.eq_iff_iff,List.all_eq_true,List.all_eq_true]
 constructor
 ·intro h b hb
  obtain⟨i,hi,rfl⟩:=List.getElem_of_mem hb
  have:=h i (List.mem_range.mpr hi)
  rwa [List.getElem?_eq_getElem hi] at this
 ·intro h i hi
  have hi:=List.mem_range.mp hi
  rw[List.getElem?_eq_getElem hi]
  exact h _ (List.getElem_mem hi)
theorem range_any(bs:List Bool):(List.range bs.length).any (fun i=>bs[i]?.getD false)=bs.any id:=by
 rw[Bool.eq_iff_iff,List.any_eq_true,List.any_eq_true]
 constructor
 ·rintro⟨i,hi,h⟩
  have hi:=List.mem_range.mp hi
  rw[List.getElem?_eq_getElem hi] at h
  exact⟨_,List.getElem_mem hi,h⟩
 ·rintro⟨b,hb,h⟩
  obtain⟨i,hi,rfl⟩:=List.getElem_of_mem hb
  exact⟨i,List.mem_range.mpr hi,by rw[List.getElem?_eq_getElem hi];exact h⟩
theorem zge{s:Shared}{h':Heap}{tk:Nat}{o:Obj}(hk:∀ b o',b∉[s.heap.objs.size]→(s.heap.push o).get? b=some o'→h'.get? b=some o'):KeepsAll s { ({ s with heap:=s.heap.push o }:Shared) with heap:=h',toks:=tk }:=
 ⟨rfl,rfl,fun b o' e=>hk b o' (fun hm=>by rw[List.mem_singleton.mp hm,Heap.get?_none_of_le (Nat.le_refl _)] at e;cases e) (Heap.get?_push_of_some _ e)⟩
theorem zsn{v:Value}{d:V}{xs:List PyData}{bs:List Bool}(hh:A.handled=none)(sr:SR G F β ρ O s.heap)(rv:VR G F.B β s.heap v d)(hx:look O d=some (.list xs))(hb:wf xs=some bs) :
 LeafD G F s β (tr G A (call (.builtin "all") [v])) (V.d (.bool (bs.all id))) (FRel G F s):=by
 obtain⟨a,rfl,o,vs,n,h1,h2,h3,as,h4,h5⟩:=z8 sr rv hx
 have hvs:=zcp h4 hb
 have hsz:vs.size=bs.length:=by rw[← Array.length_toList,hvs];simp
 refine LeafD.leaf sr fun Q E k=>call_all_walk (wpAny_pyIter_list ⟨o,h1,h2,n,h3⟩ ?_)
 refine⟨_,_,_,_,_,_,fun i=>bs[i]?.getD false,rfl,Walks.list (A:=A.in1) hh s.heap.objs.size a (Nat.ne_of_lt (Heap.lt_size h1)) vs,⟨⟨_,Heap.get?_push_size _ rfl,rfl,rfl⟩,⟨o,Heap.get?_push_of_some _ h1,h2,n,h3⟩⟩,?_,fun h' tk hk=>?_⟩
 ·intro i v s' Q E hv q
  rw[← Array.getElem?_toList,hvs,List.getElem?_map] at hv
  cases hi:bs[i]? with
  | none=>rw[hi] at hv;cases hv
  | some b=>rw[hi] at hv;cases hv;dsimp only at q;rw[hi] at q;exact wpAny_truthy_bool q
 ·rw[hsz,range_all]
  exact k _ _ (zge hk) ⟨VR.bool,fun _ h=>by cases h⟩
theorem zsm{v:Value}{d:V}{xs:List PyData}{bs:List Bool}(hh:A.handled=none)(sr:SR G F β ρ O s.heap)(rv:VR G F.B β s.heap v d)(hx:look O d=some (.list xs))(hb:wf xs=some bs) :
 LeafD G F s β (tr G A (call (.builtin "any") [v])) (V.d (.bool (bs.any id))) (FRel G F s):=by
 obtain⟨a,rfl,o,vs,n,h1,h2,h3,as,h4,h5⟩:=z8 sr rv hx
 have hvs:=zcp h4 hb
 have hsz:vs.size=bs.length:=by rw[← Array.length_toList,hvs];simp
 refine LeafD.leaf sr fun Q E k=>call_any_walk (wpAny_pyIter_list ⟨o,h1,h2,n,h3⟩ ?_)
 refine⟨_,_,_,_,_,_,fun i=>bs[i]?.getD false,rfl,Walks.list (A:=A.in1) hh s.heap.objs.size a (Nat.ne_of_lt (Heap.lt_size h1)) vs,⟨⟨_,Heap.get?_push_size _ rfl,rfl,rfl⟩,⟨o,Heap.get?_push_of_some _ h1,h2,n,h3⟩⟩,?_,fun h' tk hk=>?_⟩
 ·intro i v s' Q E hv q
  rw[← Array.getElem?_toList,hvs,List.getElem?_map] at hv
  cases hi:bs[i]? with
  | none=>rw[hi] at hv;cases hv
  | some b=>rw[hi] at hv;cases hv;dsimp only at q;rw[hi] at q;exact wpAny_truthy_bool q
 ·rw[hsz,range_any]
  exact k _ _ (zge hk) ⟨VR.bool,fun _ h=>by cases h⟩
theorem qm:∀ {vs:List Value} {is:List Int},IntsAre vs is→∀ (i:Nat) v,vs[i]?=some v→∃ n t,is[i]?=some n∧v=.int n t
 | _,_,.nil,i,v,e=>by simp at e
 | _,_,.cons n t r,0,v,e=>by simp at e;exact⟨n,t,by simp,e.symm⟩
 | _,_,.cons _ _ r,i+1,v,e=>by simp at e;simpa using qm r i v e
theorem preSum_eq(is:List Int):preSum (fun i=>is[i]?.getD 0) is.length=is.sum:=by
 have:∀ k,k≤is.length→preSum (fun i=>is[i]?.getD 0) k=(is.take k).sum:=by
  intro k
  induction k with
  | zero=>intro _;simp[preSum]
  | succ k ih=>
    intro hk
    have hk':k < is.length:=hk
    show preSum _ k+_=_
    rw[ih (Nat.le_of_lt hk'),List.take_add_one,List.sum_append,List.getElem?_eq_getElem hk']
    simp[List.getElem?_eq_getElem hk']
 rw[this _ (Nat.le_refl _),List.take_length]
theorem jw:∀ {vs:List Value} {is:List Int},IntsAre vs is→vs.length=is.length
 | _,_,.nil=>rfl
 | _,_,.cons _ _ r=>by simp[jw r]
theorem l_sum{v:Value}{d:V}{xs:List PyData}{is:List Int}(hh:A.handled=none)(sr:SR G F β ρ O s.heap)(rv:VR G F.B β s.heap v d)(hx:look O d=some (.list xs))(hb:Mine.intsOf xs=some is) :
 LeafD G F s β (tr G A (call (.builtin "sum") [v])) (V.d (.int is.sum)) (FRel G F s):=by
 obtain⟨a,rfl,o,vs,n,h1,h2,h3,as,h4,h5⟩:=z8 sr rv hx
 have hvs:=ints_get h4 hb
 have hsz:vs.size=is.length:=by rw[← Array.length_toList,jw hvs]
 refine LeafD.leaf sr fun Q E k=>call_sum_walkG (wpAny_pyIter_list ⟨o,h1,h2,n,h3⟩ ?_)
 refine⟨_,_,_,_,_,_,fun i=>is[i]?.getD 0,rfl,Walks.list (A:=A.in1) hh s.heap.objs.size a (Nat.ne_of_lt (Heap.lt_size h1)) vs,⟨⟨_,Heap.get?_push_size _ rfl,rfl,rfl⟩,⟨o,Heap.get?_push_of_some _ h1,h2,n,h3⟩⟩,fun b hb=>?_,fun i v hv=>?_,fun h' tk t' hk=>?_⟩
 ·show b < (s.heap.push _).objs.size
  rw[Heap.size_push]
  rcases List.mem_cons.mp hb with rfl | hb
  ·exact Nat.lt_succ_self _
  ·rw[List.mem_singleton.mp hb];exact Nat.lt_succ_of_lt (Heap.lt_size h1)
 ·rw[← Array.getElem?_toList] at hv
  obtain⟨n,t,e1,e2⟩:=qm hvs i v hv
  exact⟨t,by dsimp only;rw[e1];exact e2⟩
 ·rw[hsz,preSum_eq]
  exact k _ _ (zge hk) ⟨VR.int,fun _ h=>by cases h⟩
theorem zkt{v:Value}{d:V}{x:PyData}{xs:List PyData}(sr:SR G F β ρ O s.heap)(rv:VR G F.B β s.heap v d)(hx:look O d=some x)(hi:items x=some xs)(hl:xs.length≤line) :
 LeafD G F s β (tr G A (call (.type "list") [v])) (V.d (.list xs)) (FRel G F s):=by
 have key:∀ (a:Addr) (o:Obj) (vs:Array Value) (n:Nat) (T:String) (as:List Addr),T = "list"∨T = "tuple"→s.heap.get? a=some o→o.cls=.type T→o.data=.seq vs n→ReadsAll s.heap vs.toList xs as→(∀ b∈as,b∉β∧b∉F.B) →
  LeafD G F s β (tr G A (call (.type "list") [.ref a])) (V.d (.list xs)) (FRel G F s):=by
  intro a o vs n T as hT h1 h2 h3 h4 h5
  have hsz:vs.size≤sizeLine:=by rw[← Array.length_toList,zd h4];exact Nat.le_trans hl (by decide)
  refine LeafD.leaf sr fun Q E k=>call_list_seq (hsz:=hsz) a hT h1 h2 h3 fun h' c' hk hS=>?_
  exact k _ _ (ye (tk:=s.toks) hk) ⟨xl hS rfl rfl (zt hk h4) h5 sr.size_new,fun _ _=>⟨_,rfl,Heap.get?_none_of_le (Nat.le_refl _),_,hS,rfl,rfl⟩⟩
 cases x with
 | list ys=>
   cases hi
   obtain⟨a,rfl,o,vs,n,h1,h2,h3,as,h4,h5⟩:=z8 sr rv hx
   exact key a o vs n _ as (.inl rfl) h1 h2 h3 h4 h5
 | tuple ys=>
   cases hi
   have:=z9 hx (fun _ h=>by cases h);subst this
   obtain⟨a,o,vs,n,rfl,h1,h2,h3,as,h4,h5⟩:=rv.tuple_inv
   exact key a o vs n _ as (.inr rfl) h1 h2 h3 h4 h5
 | _=>cases hi
theorem zdb{v:Value}{d:V}{xs:List PyData}(sr:SR G F β ρ O s.heap)(rv:VR G F.B β s.heap v d)(hx:look O d=some (.list xs))(hl:xs.length≤line) :
 LeafD G F s β (tr G A (call (.type "tuple") [v])) (V.d (.tuple xs)) (FRel G F s):=by
 obtain⟨a,rfl,o,vs,n,h1,h2,h3,as,h4,h5⟩:=z8 sr rv hx
 have hsz:vs.size≤sizeLine:=by rw[← Array.length_toList,zd h4];exact Nat.le_trans hl (by decide)
 refine LeafD.leaf sr fun Q E k=>call_tuple_list (hsz:=hsz) ⟨o,h1,h2,n,h3⟩ fun h' hk=>?_
 have hk':∀ b o,s.heap.get? b=some o→(h'.push { cls:=.type "tuple",data:=.seq vs }).get? b=some o:=fun b o e=>Heap.get?_push_of_some _ (hk b o e)
 exact k _ _ (ye (tk:=s.toks) hk') ⟨qh (Heap.get?_push_size _ rfl) rfl rfl (zt hk' h4) h5,fun _ h=>by cases h⟩
theorem zbo{v:Value}{xs:List PyData}(sr:SR G F β ρ O s.heap)(rv:VR G F.B β s.heap v (.d (.tuple xs))) :
 LeafD G F s β (tr G A (call (.type "tuple") [v])) (V.d (.tuple xs)) (FRel G F s):=by
 obtain⟨a,o,vs,n,rfl,h1,h2,h3,as,h4,h5⟩:=id rv.tuple_inv
 refine LeafD.leaf sr fun Q E k=>call_tuple_tup ⟨o,h1,h2,n,h3⟩ (k _ _ (KeepsAll.refl s) ⟨rv,fun _ h=>by cases h⟩)
end
section
variable{G:Gl}{F:Fm}{A:Around}{cx:Cx}{s:Shared}{β:List Addr}{ρ:Loc}{O:za}{gval:Nat→Option PyData}{gname:Nat→Option Str}
theorem jx(sr:SR G F β ρ O s.heap):Does G F A s β (execs [] F.env) (.ok .next (ρ,O)) (yv G F):=
 Does.leaf sr fun Q E q=>wpAny_execs_nil (q _ _ (KeepsAll.refl s) rfl)
theorem k6{x:Stmt}{xs:List Stmt}{r:R (Loc×za) Fl}{g:Loc→za→R (Loc×za) Fl}(h1:Does G F A s β (exec x F.env) r (yv G F))
 (h2:∀ s' β' ρ' O',SR G F β' ρ' O' s'.heap→Does G F A s' β' (execs xs F.env) (g ρ' O') (yv G F)) :
 Does G F A s β (execs (x::xs) F.env) (r.bind (seqK fun S=>g S.1 S.2)) (yv G F):=by
 refine DoesW.seq (T₂:=fun f Q E s'=>match f with | .next=>wpAny (model G.prog G.w) A (execs xs F.env) Q E s' | f=>Q f s') (fun Q E h=>wpAny_execs_cons h) h1 fun s' β' f d S e st sr rf=>?_
 cases d with
 | next=>
   have:f=.next:=rf
   subst this
   exact h2 s' β' S.1 S.2 sr
 | ret v=>
   obtain⟨val,rfl,rv⟩:=rf
   exact Does.leaf sr fun Q E q=>q _ _ (KeepsAll.refl s') ⟨val,rfl,rv⟩
theorem zov{e:Expr}{p:Pos}{r:R za V}(h1:Does G F A s β (eval e F.env) (r.lift ρ) (VRel G F)) :
 Does G F A s β (exec (.Return (some e) p) F.env) ((r.lift ρ).bind fun v S=>.ok (.ret v) S) (yv G F):=
 DoesW.by (f:=Flow.ret) (q:=Fl.ret) (fun Q E h=>wpAny_Return_some h) h1 fun β h a d rv=>⟨a,rfl,rv⟩
theorem zox{t:Expr}{a b:List Stmt}{p:Pos}{r:R za V}{ga gb:Loc→za→R (Loc×za) Fl}(h1:Does G F A s β (isTrue t F.env (eval t F.env)) ((tv r).lift ρ) BRel)
 (h2:∀ s' β' ρ' O',SR G F β' ρ' O' s'.heap→Does G F A s' β' (execs a F.env) (ga ρ' O') (yv G F)) (h3:∀ s' β' ρ' O',SR G F β' ρ' O' s'.heap→Does G F A s' β' (execs b F.env) (gb ρ' O') (yv G F)) :
 Does G F A s β (exec (.If t a b p) F.env) (((tv r).lift ρ).bind (ifeK (fun S=>ga S.1 S.2) fun S=>gb S.1 S.2)) (yv G F):=by
 refine DoesW.seq (T₂:=fun z Q E s₂=>if z then wpAny (model G.prog G.w) A (execs a F.env) Q E s₂ else wpAny (model G.prog G.w) A (execs b F.env) Q E s₂) (fun Q E h=>wpAny_If h) h1 fun s' β' z d S e st sr hz=>?_
 have hz:z=d:=hz
 subst hz
 cases z with
 | true=>exact (h2 s' β' S.1 S.2 sr).weaken (fun Q E h=>by show if _ then _ else _;rw[if_pos rfl];exact h) fun _ _ _ _ h=>h
 | false=>exact (h3 s' β' S.1 S.2 sr).weaken (fun Q E h=>by show if _ then _ else _;rw[if_neg (by decide)];exact h) fun _ _ _ _ h=>h
theorem zdx{e:Expr}(h:∀ a b c d,e≠.ListComp a b c d)(h2:∀ a b c d,e≠.SetComp a b c d)(h3:∀ a b c d f,e≠.DictComp a b c d f)(t:Option Expr)(n:Nat)(env:Env):swapsWith e t n env=pure false:=by
 cases e <;> first | rfl | exact absurd rfl (h _ _ _ _) | exact absurd rfl (h2 _ _ _ _) | exact absurd rfl (h3 _ _ _ _ _)
theorem zra{e:Expr}{p:Pos}{r:R za V}(hk:F.env.scope.kind=.function)(hi:interactive F.env=false)(hs:swapsWith e none p.line F.env=pure false)(h1:Does G F A s β (eval e F.env) (r.lift ρ) (VRel G F)) :
 Does G F A s β (exec (.Expr e p) F.env) ((r.lift ρ).bind fun _ S=>.ok .next S) (yv G F):=by
 refine DoesW.seq (T₂:=fun _ Q E s'=>Q .next s') (fun Q E h=>wpAny_Expr_any h hi hs) h1 fun s' β' v d S e st sr rv=>?_
 exact Does.leaf sr fun Q E q=>q _ _ (KeepsAll.refl s') rfl
set_option tactic.hygienic true in
theorem za8{x:Str}{px spos:Pos}{i:Nat}{own:Str→Bool}{value:Expr}{r:R za V}(fit:Fits F cx)(hown:∀ x,own x=true→F.own x=true)(hx:chkT cx own (.name i) (.Name x px)=true)
 (hs:swapsWith value (some (.Name x px)) spos.line F.env=pure false) (h1:Does G F A s β (eval value F.env) (r.lift ρ) (VRel G F)) :
 Does G F A s β (exec (.Assign [.Name x px] value spos) F.env) ((r.lift ρ).bind (asgR (.name i))) (yv G F):=by
 obtain⟨y,p,e,h2,h3⟩:=u4 hx
 cases e
 obtain⟨g1,g2⟩:=ju fit h2
 refine DoesW.seq (T₂:=fun v Q E s'=>wpAny (model G.prog G.w) A (storeName F.env x v) (fun _=>Q .next) E s') (fun Q E h=>wpAny_Assign_Name h hs) h1 fun s' β' v d S e st sr rv=>?_
 have ds:=zh1 (A:=A) sr g1 g2 (hown x h3) rv
 unfold asgR zp
 split
 ·rename_i ρ' heq
  split at heq
  ·cases heq
   intro Q E k
   exact ds _ _ fun s'' β'' _ st' sr' _=>k s'' β'' .next st' sr' rfl
  ·cases heq
 ·trivial
theorem zey{elts:List Expr}{k:Nat}{tpos spos:Pos}{c:CT}{own:Str→Bool}{value:Expr}{r:R za V}(hh:A.handled=none)(fit:Fits F cx)(hown:∀ x,own x=true→F.own x=true)(hx:chkT cx own c (.Tuple elts k tpos)=true)
 (hs:swapsWithSole [.Tuple elts k tpos] value spos.line F.env=pure false) (hw:swappedStores [.Tuple elts k tpos] value F.env=pure none) (h1:Does G F A s β (eval value F.env) (r.lift ρ) (VRel G F)) :
 Does G F A s β (exec (.Assign [.Tuple elts k tpos] value spos) F.env) ((r.lift ρ).bind (asgR c)) (yv G F):=by
 refine DoesW.seq (T₂:=fun v Q E s'=>wpAny (model G.prog G.w) A (assign (.Tuple elts k tpos) F.env v) (fun _=>Q .next) E s') (fun Q E h=>Assign_Tuple h hs hw) h1 fun s' β' v d S e st sr rv=>?_
 have da:=jo (A:=A) hh fit hown c hx sr rv
 unfold bindR at da
 unfold asgR
 cases hb:zp c d S.1 with
 | none=>trivial
 | some ρ'=>
   rw[hb] at da
   intro Q E k
   exact da _ _ fun s'' β'' _ st' sr' _=>k s'' β'' .next st' sr' rfl
theorem zn3{t:Expr}{body:List Stmt}{p:Pos}{ev:Loc→za→R za V}{evb:Loc→za→R (Loc×za) Fl}{N:Nat}
 (ht:∀ s β ρ O,SR G F β ρ O s.heap→Does G F A s β (isTrue t F.env (eval t F.env)) ((tv (ev ρ O)).lift ρ) BRel)
 (hb:∀ s β ρ O,SR G F β ρ O s.heap→Does G F A s β (execs body F.env) (evb ρ O) (yv G F)) (sr:SR G F β ρ O s.heap) :
 Does G F A s β (exec (.While t body [] p) F.env) (y9 (fun ρ O=>(tv (ev ρ O)).lift ρ) evb N ρ O) (yv G F):=by
 cases hgo:y9 (fun ρ O=>(tv (ev ρ O)).lift ρ) evb N ρ O with
 | stuck=>trivial
 | ok fl S=>
   intro Q E k
   refine wpAny_While (codeAny_whileLoop (fun n s'=>∃ β' ρ' O',Step F.W β s s' β'∧SR G F β' ρ' O' s'.heap∧y9 (fun ρ O=>(tv (ev ρ O)).lift ρ) evb n ρ' O'=.ok fl S) ?_ N ⟨β,ρ,O,Step.refl _ _ _,sr,hgo⟩)
   rintro n s' ⟨β',ρ',O',st,sr',hgo'⟩
   cases n with
   | zero=>cases hgo'
   | succ n=>
     unfold y9 at hgo'
     have dt:=ht s' β' ρ' O' sr'
     cases he:(tv (ev ρ' O')).lift ρ' with
     | stuck=>rw[he] at hgo';cases hgo'
     | ok b S'=>
       rw[he] at hgo' dt
       refine dt _ _ fun s₂ β₂ b' st₂ sr₂ hb'=>?_
       have hb':b'=b:=hb'
       subst hb'
       cases b' with
       | false=>
         cases hgo'
         rw [if_neg (by decide)]
         exact wpAny_execs_nil (k s₂ β₂ .next (st.trans st₂) sr₂ rfl)
       | true=>
         rw [if_pos rfl]
         dsimp only at hgo'
         have db:=hb s₂ β₂ S'.1 S'.2 sr₂
         cases he2:evb S'.1 S'.2 with
         | stuck=>rw [he2] at hgo';cases hgo'
         | ok f S''=>
           rw [he2] at hgo' db
           refine db _ _ fun s₃ β₃ f' st₃ sr₃ rf=>?_
           cases f with
           | ret u=>
             cases hgo'
             obtain ⟨val,rfl,rv⟩:=rf
             exact k s₃ β₃ (.ret val) (st.trans (st₂.trans st₃)) sr₃ ⟨val,rfl,rv⟩
           | next=>
             have rf:f'=.next:=rf
             subst rf
             exact⟨n,Nat.lt_succ_self n,β₃,S''.1,S''.2,st.trans (st₂.trans st₃),sr₃,hgo'⟩
end
theorem zcr{kindOf:Str→Option NameKind}:∀ {binds:List (Str×Value)} {m:Str→Option Value} {x:Str} {v:Value},(binds.map (·.1)).Nodup→(x,v)∈binds→kindOf x=some .local→bindL kindOf binds m x=some v
 | (n,u)::r,m,x,v,hn,hm,hk=>by
   obtain⟨h1,h2⟩:=List.nodup_cons.mp hn
   unfold bindL
   rcases List.mem_cons.mp hm with e | hm
   ·have hx:x=n:=(Prod.mk.inj e).1
    have hv:v=u:=(Prod.mk.inj e).2
    subst hx;subst hv
    rw[if_pos hk]
    have:∀ (r:List (Str×Value)) (m:Str→Option Value),x∉r.map (·.1)→bindL kindOf r m x=m x:=by
     intro r
     induction r with
     | nil=>intro m _;rfl
     | cons p r ih=>
       intro m hx
       obtain⟨n',u'⟩:=p
       have hx':x≠n'∧x∉r.map (·.1):=by simpa using hx
       unfold bindL
       rw[ih _ hx'.2]
       split
       ·exact if_neg hx'.1
       ·rfl
    rw[this r _ h1];simp
   ·exact zcr h2 hm hk
theorem zjm{kindOf:Str→Option NameKind}{x:Str}(r:List (Str×Value)):∀ (m:Str→Option Value),x∉r.map (·.1)→bindC kindOf r m x=m x:=by
 induction r with
 | nil=>exact fun m _=>rfl
 | cons p r ih=>
   intro m hx
   obtain⟨n',u'⟩:=p
   have hx':x≠n'∧x∉r.map (·.1):=by simpa using hx
   unfold bindC
   rw[ih _ hx'.2]
   split
   ·rfl
   ·exact if_neg hx'.1
theorem zjl{kindOf:Str→Option NameKind}{binds:List (Str×Value)}{x:Str}{v:Value}(hk:kindOf x=some .cell):∀ {m:Str→Option Value},(binds.map (·.1)).Nodup→(x,v)∈binds→bindC kindOf binds m x=some v:=by
 induction binds with
 | nil=>exact fun _ hm=>absurd hm List.not_mem_nil
 | cons p r ih=>
   intro m hn hm
   obtain⟨n,u⟩:=p
   obtain⟨h1,h2⟩:=List.nodup_cons.mp hn
   unfold bindC
   rcases List.mem_cons.mp hm with e | hm
   ·obtain⟨hx,hv⟩:=Prod.mk.inj e
    subst hx;subst hv
    rw[if_neg (by rw[hk];decide),zjm r _ h1]
    exact if_pos rfl
   ·exact ih h2 hm
theorem VRs.get{G:Gl}{N β:List Addr}{h:Heap}{vs:List Value}{ds:List V}(r:VRs G N β h vs ds):∀ (i:Nat) (h1:i < vs.length) (h2:i < ds.length),VR G N β h vs[i] ds[i]:=by
 induction r with
 | nil=>intro i h1;simp at h1
 | cons r rs ih=>
   intro i h1 h2
   cases i with
   | zero=>exact r
   | succ i=>exact ih i (by simpa using h1) (by simpa using h2)
theorem BoxAt.less2{N N' β β':List Addr}{h:Heap}(hs:∀ a∈N,a∈N')(hb:∀ a∈β,a∈β'){a:Addr}{bx:Box}(r:BoxAt h N' β' a bx):BoxAt h N β a bx:=by
 cases bx with
 | lst xs=>obtain⟨o,vs,n,h1,h2,h3,as,h4,h5⟩:=r;exact⟨o,vs,n,h1,h2,h3,as,h4,fun b hb'=>⟨fun hm=>(h5 b hb').1 (hb b hm),fun hn=>(h5 b hb').2 (hs b hn)⟩⟩
noncomputable def xk(fd:FuncData)(L a:Addr)(names:List (Option Str))(B fr:List Addr):Fm:=
 { env:=callEnvC fd L a,names:=names,own:=ownOf fd.scope,W:=L::(cellsFrom (L+1) fd.scope.names []).map (·.2),B:=(L::(cellsFrom (L+1) fd.scope.names []).map (·.2))++B,fr:=L::fr }
structure FnOk(G:Gl)(J:Cx→List Stmt→CSs→Prop)(fname gname cname:Nat→Option Str)(x:Str)(fn:Fn)(a:Addr)(o:Obj)(fd:FuncData)(body:List Stmt)(names:List Str):Prop where
 at_:FnAt G x a o fd
 code:G.h₀.CodeRec fd.code fd.qualname
 body_:fd.body=.stmts body
 clos:fd.closure=[]
 globals:fd.globals=mainGlobals
 builtins:fd.builtins=builtinsNs
 defaults:fd.defaults=.none
 chk:zh4 fn names fd.params fd.scope=true
 js:J { names:=yq fn names,sc:=fd.scope,fname,gname,cname } body fn.body
noncomputable def zic(G:Gl)(J:Cx→List Stmt→CSs→Prop)(fname gname cname:Nat→Option Str)(T:Nat→Option Fn):Prop:=
 ∀ f x,fname f=some x→(∃ a o fd,FnAt G x a o fd)∧∀ fn,T f=some fn→∃ a o fd body names,FnOk G J fname gname cname x fn a o fd body names
structure HdOk(fn:Fn)(names:List Str)(a:Arguments)(sc:Scope):Prop where
 p1:a.posonlyargs=[]
 p2:a.vararg=none
 p3:a.kwonlyargs=[]
 p4:a.kwarg=none
 p5:a.args.map (·.arg)=names.take fn.arity
 k1:sc.kind=.function
 k2:sc.isGenerator=false
 k3:sc.isCoroutine=false
 k4:(sc.names.map (·.1)).Nodup
 k5:∀ x k,(x,k)∈sc.names→k=.local∨k=.cell∨k=.globalImplicit
 n1:names.Nodup
 n2:names.length≤fn.slots
 n3:fn.arity≤names.length
 n4:∀ x∈names,ownOf sc x=true
theorem qx{fn:Fn}{names:List Str}{a:Arguments}{sc:Scope}(h:zh4 fn names a sc=true):HdOk fn names a sc:=by
 unfold zh4 at h
 simp only[Bool.and_eq_true,decide_eq_true_eq] at h
 obtain⟨⟨⟨⟨⟨h1,h2⟩,h3⟩,h4⟩,h5⟩,h6⟩:=h
 unfold gq at h1
 simp only[Bool.and_eq_true,List.isEmpty_iff,Option.isNone_iff_eq_none,beq_iff_eq] at h1
 unfold zcg at h2
 simp only[Bool.and_eq_true,Bool.not_eq_true',decide_eq_true_eq,beq_iff_eq] at h2
 refine⟨h1.1.1.1.1.1.1.1,h1.1.1.1.1.1.1.2,h1.1.1.1.1.1.2,h1.1.1.1.2,h1.1.2,h2.1.1.1.1,h2.1.1.1.2,h2.1.1.2,h2.1.2,fun x k hm=>?_,h3,h4,h5,List.all_eq_true.mp h6⟩
 have:=List.all_eq_true.mp h2.2 (x,k) hm
 simpa [Bool.or_eq_true,beq_iff_eq,or_assoc] using this
section
variable{G:Gl}{J:Cx→List Stmt→CSs→Prop}{F:Fm}{A:Around}{gval:Nat→Option PyData}{fname gname cname:Nat→Option Str}{T:Nat→Option Fn}{P:Pg}
structure Out(G:Gl)(B fr β:List Addr)(h:Heap):Prop where
 new:(∀ a∈B,a≠sysModules→G.h₀.get? a=none)∧sysModules∈B∧sysModules∉fr
 notBox:∀ a∈B,a∉β
 stor:∀ a∈B,∃ o,h.get? a=some o∧∀ vs n,o.data=.seq vs n→o.cls≠.type "tuple"
 frB:∀ a∈fr,a∈B
 frs:∀ a∈fr,∃ m,h.Ns a m
theorem FmOk.out{β:List Addr}{h:Heap}(fm:FmOk G F β h):Out G F.B F.fr β h:=⟨⟨fm.new.1,fm.new.2.1,fm.new.2.2.2⟩,fm.notBox,fm.stor,fm.frB,fm.frs⟩
theorem zbz{fn:Fn}{x:Str}{a:Addr}{o:Obj}{fd:FuncData}{body:List Stmt}{names:List Str}(fo:FnOk G J fname gname cname x fn a o fd body names){s s₁:Shared}{β B fr:List Addr}{O:za}{vals:List Value}{vs:List V}(br:BR G B β O s.heap)(fm:Out G B fr β s.heap)
 (rvs:VRs G B β s.heap vals vs) (hlen:vs.length=fn.arity)
 (ic:InCallC s (callEnvC fd s.heap.objs.size a).locals (bindL (callEnvC fd s.heap.objs.size a).kindOf ((names.take fn.arity).zip vals) fun _=>none) (callEnvC fd s.heap.objs.size a).cells
   (bindC (callEnvC fd s.heap.objs.size a).kindOf ((names.take fn.arity).zip vals) fun _=>none) s₁) :
 SR G (xk fd s.heap.objs.size a (yq fn names) B fr) β (vs.map some++List.replicate (fn.slots - fn.arity) none) O s₁.heap∧KeepsAll s s₁:=by
 obtain⟨_,_,_,_,_,k1,k2,k3,k4,k5,n1,n2,n3,n4⟩:=qx fo.chk
 have kept:∀ b o,s.heap.get? b=some o→s₁.heap.get? b=some o:=ic.toInCall.keep
 obtain⟨h₁,tk,e₁⟩:=ic.toInCall.same
 have ka:KeepsAll s s₁:=⟨by rw[e₁],by rw[e₁],kept⟩
 refine⟨?_,ka⟩
 have hns:=ic.toInCall.ns
 have hLn:s.heap.get? s.heap.objs.size=none:=yo s
 have hcn:∀ y c,(y,c)∈cellsFrom (s.heap.objs.size+1) fd.scope.names []→s.heap.get? c=none:=fun y c hm=>Heap.get?_none_of_le (Nat.le_of_lt (ic.above y c hm))
 have hM:∀ b∈s.heap.objs.size::(cellsFrom (s.heap.objs.size+1) fd.scope.names []).map (·.2),s.heap.get? b=none:=fun b hb=>by
  rcases List.mem_cons.mp hb with rfl | hb
  ·exact hLn
  ·obtain⟨p,hp,rfl⟩:=List.mem_map.mp hb
   exact hcn p.1 p.2 hp
 have h0:∀ b,s.heap.get? b=none→G.h₀.get? b=none:=fun b hb=>by
  cases e:G.h₀.get? b with
  | none=>rfl
  | some o=>have:=br.keep b o e;rw[hb] at this;cases this
 have hnames:(yq fn names)=names.map some++List.replicate (fn.slots - names.length) none:=rfl
 have nget:∀ (i:Nat) y,(yq fn names)[i]?=some (some y)→names[i]?=some y:=fun i y h=>by
  rw[hnames] at h
  rcases Nat.lt_or_ge i names.length with hi | hi
  ·rw[List.getElem?_append_left (by simpa using hi),List.getElem?_map] at h
   cases hn:names[i]? with
   | none=>rw[hn] at h;cases h
   | some z=>rw[hn] at h;cases h;rfl
  ·rw[List.getElem?_append_right (by simpa using hi),List.getElem?_replicate] at h
   split at h <;> cases h
 have cellok:∀ y c,(y,c)∈cellsFrom (s.heap.objs.size+1) fd.scope.names []→(cellsFrom (s.heap.objs.size+1) fd.scope.names []).lookup y=some c→∃ v,s₁.heap.IsCell c v:=fun y c _ hl=>⟨_,ic.cell y c hl⟩
 refine⟨(br.grow hM).keepAll kept,⟨k1,fo.globals,fo.builtins,fun i j y h1 h2=>?_,⟨_,hns⟩,List.mem_cons_self,fun y hy=>?_,fun y z c hy hz=>?_,fun b hb=>List.mem_append_left _ hb,?_,fun b hb hb'=>?_,fun b hb=>?_,fun b hb=>?_,fun b hb=>?_,fun m e=>nomatch e⟩,fun i y v h1 h2=>?_⟩
 ·have e1:=nget i y h1
  have e2:=nget j y h2
  have hi:i < names.length:=(List.getElem?_eq_some_iff.mp e1).1
  have hj:j < names.length:=(List.getElem?_eq_some_iff.mp e2).1
  rw[List.getElem?_eq_getElem hi] at e1
  rw[List.getElem?_eq_getElem hj] at e2
  exact (List.getElem_inj (h₀:=hi) (h₁:=hj) n1).mp ((Option.some.inj e1).trans (Option.some.inj e2).symm)
 ·have hy':fd.scope.names.lookup y=some .cell:=hy
  obtain⟨c,hc⟩:=Option.isSome_iff_exists.mp (yd fd.scope.names (s.heap.objs.size+1) [] (.inl ((lookup_mem k4).mpr hy')))
  have hW:c∈s.heap.objs.size::(cellsFrom (s.heap.objs.size+1) fd.scope.names []).map (·.2):=List.mem_cons_of_mem _ (List.mem_map.mpr ⟨(y,c),mem_of_lookup hc,rfl⟩)
  exact⟨c,_,hc,ic.cell y c hc,List.mem_append_left _ hW,fun _=>hW⟩
 ·exact name_of_addr ic.apart (mem_of_lookup hy) (mem_of_lookup hz)
 ·refine⟨fun b hb hs=>?_,List.mem_append_right _ fm.new.2.1,fun hm=>br.notSys (hM _ hm) rfl,fun hm=>?_⟩
  ·rcases List.mem_append.mp hb with hb | hb
   ·exact h0 b (hM b hb)
   ·exact fm.new.1 b hb hs
  ·rcases List.mem_cons.mp hm with q | hm
   ·exact br.notSys hLn q.symm
   ·exact fm.new.2.2 hm
 ·rcases List.mem_append.mp hb with hb | hb
  ·obtain⟨o,e,_⟩:=br.alive b hb'
   rw[hM b hb] at e;cases e
  ·exact fm.notBox b hb hb'
 ·rcases List.mem_append.mp hb with hb | hb
  ·rcases List.mem_cons.mp hb with rfl | hb
   ·obtain⟨o,es,ep,q1,q2,_⟩:=hns
    exact⟨o,q1,fun vs n q=>by rw[q2] at q;cases q⟩
   ·obtain⟨p,hp,rfl⟩:=List.mem_map.mp hb
    obtain⟨c,hc⟩:=Option.isSome_iff_exists.mp (yd fd.scope.names (s.heap.objs.size+1) [] (x:=p.1) (by
     rcases xz _ _ _ (show (p.1,p.2)∈_ from hp) with h | h
     ·exact .inl h
     ·cases h))
    have hpc:c=p.2:=by
     have hkeys:∀ (names:List (Str×NameKind)) (n:Nat) (acc:List (Str×Addr)),(names.map (·.1)).Nodup→(∀ q∈acc,q.1∉names.map (·.1))→(acc.map (·.1)).Nodup→((cellsFrom n names acc).map (·.1)).Nodup:=by
      intro names
      induction names with
      | nil=>intro n acc _ _ h;exact h
      | cons z r ih=>
        intro n acc hn ha hacc
        obtain⟨zn,zk⟩:=z
        obtain⟨hz1,hz2⟩:=List.nodup_cons.mp hn
        unfold cellsFrom
        split
        ·refine ih _ _ hz2 (fun q hq=>?_) ?_
         ·rcases List.mem_cons.mp hq with rfl | hq
          ·exact hz1
          ·exact fun hm=>ha q hq (List.mem_cons_of_mem _ hm)
         ·rw [List.map_cons,List.nodup_cons]
          exact⟨fun hm=>by obtain⟨q,hq,e⟩:=List.mem_map.mp hm;exact ha q hq (by rw[e];exact List.mem_cons_self),hacc⟩
        ·exact ih _ _ hz2 (fun q hq hm=>ha q hq (List.mem_cons_of_mem _ hm)) hacc
     have hk:=hkeys fd.scope.names (s.heap.objs.size+1) [] k4 (fun _ h=>nomatch h) (by simp)
     have e1:=(lookup_mem hk (x:=p.1) (k:=p.2)).mp hp
     rw[hc] at e1;cases e1;rfl
    subst hpc
    obtain⟨o,q1,q2⟩:=ic.cell p.1 p.2 hc
    exact⟨o,q1,fun vs n q=>by rw[q2] at q;cases q⟩
  ·obtain⟨o,q1,q2⟩:=fm.stor b hb
   exact⟨o,kept _ _ q1,q2⟩
 ·rcases List.mem_cons.mp hb with rfl | hb
  ·exact List.mem_append_left _ List.mem_cons_self
  ·exact List.mem_append_right _ (fm.frB b hb)
 ·rcases List.mem_cons.mp hb with rfl | hb
  ·exact⟨_,hns⟩
  ·obtain⟨m,hm⟩:=fm.frs b hb
   exact⟨m,hm.keeps kept⟩
 ·have hvl:vals.length=vs.length:=rvs.length
  have hi:i < vs.length:=by
   rcases Nat.lt_or_ge i vs.length with h | h
   ·exact h
   ·rw[List.getElem?_append_right (by simpa using h),List.getElem?_replicate] at h2
    split at h2 <;> cases h2
  rw[List.getElem?_append_left (by simpa using hi),List.getElem?_map,List.getElem?_eq_getElem hi] at h2
  cases h2
  have hiv:i < vals.length:=by rw[hvl];exact hi
  have hy:=nget i y h1
  have hz:(y,vals[i])∈(names.take fn.arity).zip vals:=by
   have:((names.take fn.arity).zip vals)[i]?=some (y,vals[i]):=by
    rw[List.getElem?_zip_eq_some]
    refine⟨?_,List.getElem?_eq_getElem hiv⟩
    rw[List.getElem?_take_of_lt (by rw[← hlen];exact hi)];exact hy
   exact List.mem_of_getElem? this
  have hnd:(((names.take fn.arity).zip vals).map (·.1)).Nodup:=by
   have:((names.take fn.arity).zip vals).map (·.1)=names.take fn.arity:=by
    rw[List.map_fst_zip]
    rw[List.length_take,hvl,hlen];exact Nat.min_le_left _ _
   rw[this];exact n1.sublist (List.take_sublist _ _)
  refine⟨vals[i],?_,((rvs.get i hiv hi).grow hM).keepAll kept⟩
  have how:=n4 y (List.mem_of_getElem? hy)
  unfold ownOf at how
  simp only[Bool.or_eq_true,beq_iff_eq] at how
  rcases how with how | how
  ·exact .inl ⟨how,_,hns,zcr hnd hz how⟩
  ·obtain⟨c,hc⟩:=Option.isSome_iff_exists.mp (yd fd.scope.names (s.heap.objs.size+1) [] (.inl ((lookup_mem k4).mpr how)))
   refine .inr ⟨how,c,hc,?_⟩
   have:=ic.cell y c hc
   rwa [zjl how hnd hz] at this
end
section
variable{G:Gl}{N N' β β':List Addr}{O':za}{h:Heap}{base:Nat}
theorem pre_take{β β':List Addr}(hp:β <+: β'):β=β'.take β.length:=by obtain⟨t,rfl⟩:=hp;simp
theorem BR.short(br:BR G N' β' O' h)(hN:∀ a∈N,a∈N')(hp:β <+: β')(hl:β.length=base):BR G N β (O'.take base) h:=by
 have hle:β.length≤β'.length:=hp.length_le
 have hget:∀ {i:Nat} {a:Addr},β[i]?=some a→β'[i]?=some a:=fun e=>jd hp e
 refine⟨br.keep,by rw[List.length_take,← br.len,hl];omega,br.nodup.sublist hp.sublist,fun a ha=>br.new a (hp.subset ha),fun i a bx h1 h2=>?_,fun a ha=>br.plain a (hp.subset ha)⟩
 have h2':O'[i]?=some bx:=by
  rw[List.getElem?_take] at h2
  split at h2
  ·exact h2
  ·cases h2
 exact (br.at_ i a bx (hget h1) h2').less2 hN fun a ha=>hp.subset ha
theorem zfb{n:Nat}{b:Addr}(br:BR G N' β' O' h)(hp:β <+: β')(hn:β.length≤n)(hb:β'[n]?=some b):b∉β:=fun hm=>by
 obtain⟨i,hi⟩:=List.getElem?_of_mem hm
 have hi':=jd hp hi
 have hil:i < β.length:=(List.getElem?_eq_some_iff.mp hi).1
 have h1:i < β'.length:=(List.getElem?_eq_some_iff.mp hi').1
 have h2:n < β'.length:=(List.getElem?_eq_some_iff.mp hb).1
 rw[List.getElem?_eq_getElem h1] at hi'
 rw[List.getElem?_eq_getElem h2] at hb
 have:=(List.getElem_inj (h₀:=h1) (h₁:=h2) br.nodup).mp ((Option.some.inj hi').trans (Option.some.inj hb).symm)
 omega
theorem BR.shortB{n:Nat}{b:Addr}{xs:List PyData}(br:BR G N' β' O' h)(hN:∀ a∈N,a∈N')(hp:β <+: β')(hl:β.length=base)(hn:base≤n)(hb:β'[n]?=some b)(hx:O'[n]?=some (.lst xs)) :
 BR G N (β++[b]) (O'.take base++[.lst xs]) h∧(∀ a∈β++[b],a∈β'):=by
 have s:=br.short (base:=base) hN hp hl
 have hbm:b∈β':=List.mem_of_getElem? hb
 have sub:∀ a∈β++[b],a∈β':=fun a ha=>(List.mem_append.mp ha).elim (fun h=>hp.subset h) fun h=>by rw[List.mem_singleton.mp h];exact hbm
 have hbβ:b∉β:=zfb br hp (by rw[hl];exact hn) hb
 refine⟨⟨br.keep,by simp[s.len],?_,fun a ha=>br.new a (sub a ha),fun i a bx h1 h2=>?_,fun a ha=>br.plain a (sub a ha)⟩,sub⟩
 ·rw[List.nodup_append]
  exact⟨s.nodup,by simp,fun a ha c hc=>by rw[List.mem_singleton.mp hc];exact fun e=>hbβ (e ▸ ha)⟩
 ·rcases Nat.lt_or_ge i β.length with hi | hi
  ·rw[List.getElem?_append_left hi] at h1
   rw[List.getElem?_append_left (by rw[← s.len];exact hi),List.getElem?_take] at h2
   split at h2
   ·exact (br.at_ i a bx (jd hp h1) h2).less2 hN sub
   ·cases h2
  ·rw[List.getElem?_append_right hi] at h1
   rw[List.getElem?_append_right (by rw[← s.len];exact hi)] at h2
   have hi0:i - β.length=0:=by
    rcases Nat.eq_zero_or_pos (i - β.length) with h | h
    ·exact h
    ·rw[List.getElem?_eq_none (show [b].length≤i - β.length from h)] at h1;cases h1
   rw[hi0] at h1
   rw[← s.len,hi0] at h2
   cases h1;cases h2
   exact (br.at_ n b (.lst xs) hb hx).less2 hN sub
theorem zbe{n:Nat}{b:Addr}{xs:List PyData}(br:BR G N' β' O' h)(hN:∀ a∈N,a∈N')(nb:∀ a∈N',a∉β')(hp:β <+: β')(hn:β.length≤n)(hb:β'[n]?=some b)(hx:O'[n]?=some (.lst xs)):VR G N β h (.ref b) (.d (.list xs)):=by
 obtain⟨o,vs,k,e1,e2,e3,as,e4,e5⟩:=br.at_ n b (.lst xs) hb hx
 exact⟨b::as,.list e1 e2 e3 e4,fun a ha=>(List.mem_cons.mp ha).elim (fun e=>e ▸ ⟨zfb br hp hn hb,fun hm=>nb b (hN b hm) (List.mem_of_getElem? hb)⟩) fun ha=>⟨fun hm=>(e5 a ha).1 (hp.subset hm),fun hm=>(e5 a ha).2 (hN a hm)⟩⟩
theorem zis{O:za}{n:Nat}{x:PyData}(e:qb O n=some x):∃ xs,x=.list xs∧O[n]?=some (.lst xs):=by
 unfold qb at e
 cases ho:O[n]? with
 | none=>rw[ho] at e;cases e
 | some bx=>
   rw[ho] at e
   cases bx with
   | lst xs=>cases e;exact⟨xs,rfl,rfl⟩
set_option tactic.hygienic true in
theorem zqq(br:BR G N' β' O' h)(hN:∀ a∈N,a∈N')(nb:∀ a∈N',a∉β')(hp:β <+: β')(hl:β.length=base){vs:List Value}{its:List It}(r:ItsR N' β' h vs its):∀ {ds:List PyData},frz O' base its=some ds→∃ as,ReadsAll h vs ds as∧∀ a∈as,a∉β∧a∉N:=by
 induction r with
 | nil=>intro ds e;cases e;exact⟨[],.nil,fun _ h=>nomatch h⟩
 | b hb _ ih=>
   rename_i n a vs its _
   intro ds e
   have e:(if base≤n then (qb O' n).bind fun x=>(frz O' base its).map (x::·) else none)=some ds:=e
   by_cases hn:base≤n
   ·rw[if_pos hn] at e
    obtain⟨x,h1,e⟩:=Option.bind_eq_some_iff.mp e
    obtain⟨ds',h2,rfl⟩:=Option.map_eq_some_iff.mp e
    obtain⟨xs,rfl,hx⟩:=zis h1
    obtain⟨as,r,q⟩:=zbe br hN nb hp (by rw[hl];exact hn) hb hx
    obtain⟨bs,rs,qs⟩:=ih h2
    exact⟨as++bs,.cons r rs,fun a ha=>(List.mem_append.mp ha).elim (q a) (qs a)⟩
   ·rw[if_neg hn] at e;cases e
 | x r q _ ih=>
   intro ds e
   obtain⟨ds',h2,rfl⟩:=Option.map_eq_some_iff.mp e
   obtain⟨bs,rs,qs⟩:=ih h2
   exact⟨_++bs,.cons r rs,fun a ha=>(List.mem_append.mp ha).elim (fun ha=>⟨fun hm=>(q a ha).1 (hp.subset hm),fun hm=>(q a ha).2 (hN a hm)⟩) (qs a)⟩
inductive zo2(G:Gl)(N β β':List Addr)(O'':za)(h:Heap)(val:Value)(v':V):Prop
 | mk (β'':List Addr) (q1:β <+: β'') (q2:∀ a∈β'',a∈β') (q3:BR G N β'' O'' h) (q4:VR G N β'' h val v')
theorem zi2{keep:Bool}{n:Nat}{b:Addr}{v':V}{O'':za}(br:BR G N' β' O' h)(hN:∀ a∈N,a∈N')(nb:∀ a∈N',a∉β')(hp:β <+: β')(hl:β.length=base)(hb:β'[n]?=some b)(hf:wt base keep n O'=.ok v' O''):zo2 G N β β' O'' h (.ref b) v':=by
 unfold wt at hf
 by_cases hn:n < base
 ·rw[if_pos hn] at hf
  cases hf
  refine⟨β,List.prefix_refl _,fun a ha=>hp.subset ha,br.short hN hp hl,b,?_,rfl⟩
  rw[pre_take hp,List.getElem?_take,if_pos (by rw[hl];exact hn)];exact hb
 ·rw[if_neg hn] at hf
  cases hx:O'[n]? with
  | none=>rw[hx] at hf;cases hf
  | some bx=>
    rw[hx] at hf
    cases bx with
    | lst xs=>
      cases keep with
      | true=>
        cases hf
        obtain⟨b1,b2⟩:=br.shortB hN hp hl (Nat.not_lt.mp hn) hb hx
        exact⟨β++[b],List.prefix_append _ _,b2,b1,b,by rw[← hl,List.getElem?_append_right (Nat.le_refl _),Nat.sub_self];rfl,rfl⟩
      | false=>
        cases hf
        exact⟨β,List.prefix_refl _,fun a ha=>hp.subset ha,br.short hN hp hl,zbe br hN nb hp (by rw[hl];exact Nat.not_lt.mp hn) hb hx⟩
theorem zlc{keep:Bool}{val:Value}{v v':V}{O'':za}(br:BR G N' β' O' h)(hN:∀ a∈N,a∈N')(nb:∀ a∈N',a∉β')(hp:β <+: β')(hl:β.length=base)(rv:VR G N' β' h val v)(hf:fin base keep v O'=.ok v' O'') :
 zo2 G N β β' O'' h val v':=by
 cases v with
 | d x=>
   cases hf
   obtain⟨as,r,q⟩:=rv
   exact⟨β,List.prefix_refl _,fun a ha=>hp.subset ha,br.short hN hp hl,as,r,fun a ha=>⟨fun hm=>(q a ha).1 (hp.subset hm),fun hm=>(q a ha).2 (hN a hm)⟩⟩
 | box n=>
   obtain⟨b,hb,rfl⟩:=rv
   exact zi2 br hN nb hp hl hb hf
 | tm its=>
   obtain⟨a,o,vs,k,rfl,e1,e2,e3,e4⟩:=rv
   have hf:(match frz O' base its with
    | some ds=>.ok (.d (.tuple ds)) (O'.take base)
    | none=>.stuck)=R.ok v' O'':=hf
   cases hz:frz O' base its with
   | none=>rw[hz] at hf;cases hf
   | some ds=>
     rw[hz] at hf
     cases hf
     obtain⟨as,r,q⟩:=zqq br hN nb hp hl e4 hz
     exact⟨β,List.prefix_refl _,fun a ha=>hp.subset ha,br.short hN hp hl,as,.tuple e1 e2 e3 r,q⟩
end
section
variable{G:Gl}{J:Cx→List Stmt→CSs→Prop}{gval:Nat→Option PyData}{fname gname cname:Nat→Option Str}{T:Nat→Option Fn}{P:Pg}
theorem FrA.deeper{A:Around}{F:Fm}{fd:FuncData}{L a:Addr}{names:List (Option Str)}(fr:FrA A F)(k1:fd.scope.kind=.function):FrA (A.deeper (callEnvC fd L a)) (xk fd L a names F.B F.fr):=by
 obtain⟨l,h1,h2⟩:=fr
 refine⟨_,Around.frames_deeper h1,fun env he=>?_⟩
 rcases List.mem_cons.mp he with rfl | he
 ·exact⟨by show fd.scope.kind≠.module;rw[k1];decide,L,rfl,List.mem_cons_self⟩
 ·obtain⟨h3,L',h4,h5⟩:=h2 env he
  exact⟨h3,L',h4,List.mem_cons_of_mem _ h5⟩
noncomputable def TopA(A:Around)(F:Fm):Prop:=(∃ outer,A.frames=some (F.env::outer))∧∃ L,F.env.frame=some L
noncomputable def BodyOk(G:Gl)(J:Cx→List Stmt→CSs→Prop)(A:Around)(fname gname cname:Nat→Option Str)(P:Pg):Prop:=
 ∀ (F:Fm) (cx:Cx) (c:CSs) (body:List Stmt) (s:Shared) (β:List Addr) (ρ:Loc) (O:za),cx.fname=fname→cx.gname=gname→cx.cname=cname→Fits F cx→FrA A F→TopA A F→(∀ x,ownOf cx.sc x=true→F.own x=true)→J cx body c→SR G F β ρ O s.heap →
  Does G F A s β (execs body F.env) (evSs P c ρ O) (yv G F)
theorem zld{base:Nat}{keep:Bool}{O:za}:fin base keep (.d .none) O=.ok (.d .none) (O.take base):=rfl
theorem zdv{A:Around}{F:Fm}{fd:FuncData}{L a:Addr}{names:List (Option Str)}{B fr:List Addr}(frA:FrA A F):TopA (A.deeper (callEnvC fd L a)) (xk fd L a names B fr):=by
 obtain⟨l,h1,_⟩:=frA
 exact⟨⟨l,Around.frames_deeper h1⟩,L,rfl⟩
theorem zen{Fc F:Fm}{β β':List Addr}{ρ:Loc}{O O'':za}{S:Loc×za}{s s₁ s':Shared}{keep:Bool}{val:Value}{v res:V}(sr:SR G F β ρ O s.heap)(hWn:∀ b∈Fc.W,s.heap.get? b=none)(subB:∀ b∈F.B,b∈Fc.B)(ka:KeepsAll s s₁)
 (st:Step Fc.W β s₁ s' β') (srE:SR G Fc β' S.1 S.2 s'.heap) (rv:VR G Fc.B β' s'.heap val v) (hf:Mine.fin O.length keep v S.2=.ok res O''):∃ β'',Step F.W β s s' β''∧SR G F β'' ρ O'' s'.heap∧VR G F.B β'' s'.heap val res:=by
 obtain⟨β'',q1,q2,q3,q4⟩:=zlc srE.br subB srE.fm.notBox st.pre sr.br.len rv hf
 have st0:Step [] β s s' β':=((ka.step [] β).thenW st hWn)
 have st1:Step [] β s s' β'':=⟨st0.gens,st0.os,q1,fun b hb'=>st0.fresh b (q2 b hb'),st0.alive,st0.kept⟩
 exact⟨β'',⟨st1.gens,st1.os,st1.pre,st1.fresh,st1.alive,fun b o e hb' _=>st1.kept b o e hb' List.not_mem_nil⟩,sr.outer st1 q3 fun b hb' hm=>srE.fm.notBox b (subB b hb') (q2 b hm),q4⟩
inductive Callee(G:Gl)(F:Fm)(A':Around)(cx:Cx)(β:List Addr)(ρ:Loc)(O:za)(env:Env)(s s₁:Shared):Prop
 | mk (Fc:Fm) (hE:Fc.env=env) (ka:KeepsAll s s₁) (srC:SR G Fc β ρ O s₁.heap) (fit:Fits Fc cx) (fr:FrA A' Fc) (top:TopA A' Fc) (own:∀ x,ownOf cx.sc x=true→Fc.own x=true) (hWn:∀ b∈Fc.W,s.heap.get? b=none) (subB:∀ b∈F.B,b∈Fc.B)
set_option tactic.hygienic true in
theorem call_one(g:GOk G gval gname)(fns:zic G J fname gname cname T){A:Around}{k:Nat}(ro:Room A (k+1)){call:Bool→Nat→List V→za→R za V}{hd:Bool}
 (hb:∀ env,BodyOk G J (A.deeper env) fname gname cname { P with call:=call,hd:=hd }):u8 G A fname (fun f args O=>match T f with
   | some fn=>if args.length=fn.arity∧fn.arity≤fn.slots then evFn { P with call:=call,hd:=hd } fn args O else .stuck
   | none=>.stuck):=by
 intro F s β ρ O f x vals vs sr frA hf rvs
 obtain⟨⟨a,o,fd,fa⟩,hfn⟩:=fns f x hf
 cases hT:T f with
 | none=>exact⟨a,o,fd,fa,by dsimp only;rw[hT];trivial⟩
 | some fn=>
   obtain⟨a,o,fd,body,names,fo⟩:=hfn fn hT
   refine⟨a,o,fd,fo.at_,?_⟩
   dsimp only
   rw[hT]
   dsimp only
   split
   ·rename_i hlen
    obtain⟨p1,p2,p3,p4,p5,k1,k2,k3,k4,k5,n1,n2,n3,n4⟩:=qx fo.chk
    have hget:s.heap.get? a=some o:=sr.br.keep _ _ fo.at_.get
    have hnt:(names.take fn.arity).length=fn.arity:=by rw[List.length_take];omega
    have hbind:bindArgs fd ⟨vals,[]⟩=pure ((names.take fn.arity).zip vals):=q9 p1 p2 p3 p4 p5 (by rw[rvs.length,hnt];exact hlen.1) (n1.sublist (List.take_sublist _ _)) fo.defaults
    have hkind:∀ y∈(names.take fn.arity).zip vals,fd.scope.names.lookup y.1=some .local∨(fd.scope.names.lookup y.1=some .cell∧((cellsFrom (s.heap.objs.size+1) fd.scope.names []).lookup y.1).isSome=true):=fun y hy=>by
     have hy':y.1∈names:=List.mem_of_mem_take (List.of_mem_zip hy).1
     have how:=n4 y.1 hy'
     unfold ownOf at how
     simp only[Bool.or_eq_true,beq_iff_eq] at how
     rcases how with how | how
     ·exact .inl how
     ·exact .inr ⟨how,yd _ _ _ (.inl ((lookup_mem k4).mpr how))⟩
    have enter:∀ (Q:Value→Shared→Prop) (E:Value→Shared→Prop),_→wpAny (model G.prog G.w) A (PySem.call (.ref a) vals) Q E s:=fun Q E h=>wpAny_call (codeAny_call_cells ro.room hget fo.at_.data (g.nolimit.keeps sr.br.keep) (Heap.CodeRec.keeps fo.code sr.br.keep) fo.body_ hbind fo.clos hkind h k3 k2 k1)
    have facts:∀ s₁,InCallC s (callEnvC fd s.heap.objs.size a).locals (bindL (callEnvC fd s.heap.objs.size a).kindOf ((names.take fn.arity).zip vals) fun _=>none) (callEnvC fd s.heap.objs.size a).cells (bindC (callEnvC fd s.heap.objs.size a).kindOf ((names.take fn.arity).zip vals) fun _=>none) s₁→Callee G F (A.deeper (callEnvC fd s.heap.objs.size a)) { names:=yq fn names,sc:=fd.scope,fname:=fname,gname:=gname,cname:=cname } β (vs.map some++List.replicate (fn.slots - fn.arity) none) O (callEnvC fd s.heap.objs.size a) s s₁:=fun s₁ ic=>by
     obtain⟨srC,ka⟩:=zbz fo sr.br sr.fm.out rvs hlen.1 ic
     refine⟨xk fd s.heap.objs.size a (yq fn names) F.B F.fr,rfl,ka,srC,⟨rfl,fun _=>rfl,k1⟩,frA.deeper k1,zdv frA,fun _ h=>h,fun b hb'=>?_,fun b hb'=>List.mem_append_right _ hb'⟩
     rcases List.mem_cons.mp hb' with rfl | hb'
     ·exact yo s
     ·obtain⟨p,hp,rfl⟩:=List.mem_map.mp hb'
      exact Heap.get?_none_of_le (Nat.le_of_lt (ic.above p.1 p.2 hp))
    obtain⟨l₀,hfr₀,_⟩:=id frA
    have hfr':(A.deeper (callEnvC fd s.heap.objs.size a)).frames=some (callEnvC fd s.heap.objs.size a::l₀):=Around.frames_deeper hfr₀
    have hrun:=hb (callEnvC fd s.heap.objs.size a)
    unfold evFn
    cases he:evSs { P with call:=call,hd:=hd } fn.body (vs.map some++List.replicate (fn.slots - fn.arity) none) O with
    | stuck=>trivial
    | ok fl S=>
      cases fl with
      | ret v=>
        show DoesW G F s β _ ((Mine.fin O.length fn.keep v S.2).lift ρ) _
        cases hev:Mine.fin O.length fn.keep v S.2 with
        | stuck=>trivial
        | ok res O''=>
          intro Q E kk
          refine enter Q E fun s₁ ic=>?_
          obtain ⟨Fc,hE,ka,srC,fitC,frC,topC,own,hWn,subB⟩:=facts s₁ ic
          have db:=hrun Fc _ fn.body body s₁ β _ O rfl rfl rfl fitC frC topC own fo.js srC
          rw [he,hE] at db
          refine db _ _ fun s' β' fl' st srE rf=>?_
          obtain ⟨val,rfl,rv⟩:=rf
          obtain ⟨β'',a1,a2,a3⟩:=zen sr hWn subB ka st srE rv hev
          exact kk s' β'' val a1 a2 a3
      | next=>
        intro Q E kk
        refine enter Q E fun s₁ ic=>?_
        obtain⟨Fc,hE,ka,srC,fitC,frC,topC,own,hWn,subB⟩:=facts s₁ ic
        have db:=hrun Fc _ fn.body body s₁ β _ O rfl rfl rfl fitC frC topC own fo.js srC
        rw[he,hE] at db
        refine db _ _ fun s' β' fl' st srE rf=>?_
        have rf:fl'=.next:=rf
        subst rf
        obtain⟨β'',a1,a2,a3⟩:=zen (keep:=fn.keep) sr hWn subB ka st srE VR.none zld
        exact kk s' β'' .none a1 a2 a3
   ·trivial
structure Like(A A':Around):Prop where
 depth:A'.depth=A.depth
 units:A'.units=A.units
 frames:A'.frames=A.frames
 guards:A'.guards=A.guards
theorem Like.refl(A:Around):Like A A:=⟨rfl,rfl,rfl,rfl⟩
theorem Room.like{A A':Around}{k:Nat}(r:Room A k)(l:Like A A'):Room A' k:=⟨by rw[l.depth];exact r.depth,by rw[l.units];exact r.units,by rw[l.guards];exact r.guards⟩
theorem ze4(g:GOk G gval gname)(fns:zic G J fname gname cname T)
 (body:∀ (A:Around) (call:Bool→Nat→List V→za→R za V) (hd:Bool),Room A 0→(hd=false→A.handled=none) →
   (∀ A' hd',Like A A'→(hd'=false→A'.handled=none)→u8 G A' fname (call hd'))→BodyOk G J A fname gname cname { P with call:=call,hd:=hd }) :
 ∀ (k:Nat) (A:Around) (hd:Bool),Room A k→(hd=false→A.handled=none)→u8 G A fname (ze P T k hd)
 | 0,A,hd,ro,hm=>fun F s β ρ O f x vals vs sr fr hf rvs=>let ⟨⟨a,o,fd,fa⟩,_⟩:=fns f x hf;⟨a,o,fd,fa,trivial⟩
 | k+1,A,hd,ro,hm=>by
   have:=call_one (P:=P) g fns ro (call:=ze P T k) (hd:=hd) fun env=>body _ _ _ ⟨by have:=(ro.deeper env).depth;omega,by have:=(ro.deeper env).units;omega,(ro.deeper env).guards⟩ hm
    fun A' hd' lk hm'=>ze4 g fns body k A' hd' ((ro.deeper env).like lk) hm'
   exact this
end
section
variable{G:Gl}{F:Fm}{A:Around}{s:Shared}{β:List Addr}{ρ:Loc}{O:za}{cx:Cx}{gval:Nat→Option PyData}{gname:Nat→Option Str}
theorem SR.setBox{n:Nat}{a:Addr}{bx:Box}{s':Shared}(sr:SR G F β ρ O s.heap)(hn:β[n]?=some a)(hs:Heap.SameBut a s.heap s'.heap)(hg:s'.gens=s.gens)(hos:s'.os=s.os)
 (hx:Step F.W β s s' β→BoxAt s'.heap F.B β a bx) (hp:Plain s'.heap a):Step F.W β s s' β∧SR G F β ρ (O.set n bx) s'.heap:=by
 have ha:a∈β:=List.mem_of_getElem? hn
 have kp:∀ b o,b≠a→s.heap.get? b=some o→s'.heap.get? b=some o:=fun b o hb e=>(hs.2 b hb).trans e
 have st0:Step [] β s s' β:=⟨hg,hos,List.prefix_refl _,fun _ h=>.inl h,fun b o e=>by
  by_cases hb:b=a
  ·subst hb;obtain⟨o',e',_⟩:=hp;exact⟨o',e'⟩
  ·exact⟨o,kp b o hb e⟩,fun b o e hb _=>⟨o,kp b o (fun h=>hb (h ▸ ha)) e,Kin.refl o⟩⟩
 have st:Step F.W β s s' β:=⟨st0.gens,st0.os,st0.pre,st0.fresh,st0.alive,fun b o e hb _=>st0.kept b o e hb (by simp)⟩
 refine⟨st,sr.outer st0 ⟨fun c o e=>kp c o (fun h=>?_) (sr.br.keep c o e),by rw[List.length_set];exact sr.br.len,sr.br.nodup,sr.br.new,fun i b bx' h1 h2=>?_,fun b hb=>?_⟩ sr.fm.notBox⟩
 ·subst h
  have:=sr.br.new c ha
  rw[e] at this;cases this
 ·by_cases hi:n=i
  ·subst hi
   have hl:n < O.length:=by rw[← sr.br.len];exact (List.getElem?_eq_some_iff.mp hn).1
   rw[List.getElem?_set_self hl] at h2
   cases h2
   rw[hn] at h1;cases h1
   exact hx st
  ·rw[List.getElem?_set_ne hi] at h2
   have hne:b≠a:=fun e=>by
    subst e
    have e1:=(List.getElem?_eq_some_iff.mp hn)
    have e2:=(List.getElem?_eq_some_iff.mp h1)
    exact hi ((List.getElem_inj (h₀:=e1.1) (h₁:=e2.1) sr.br.nodup).mp (e1.2.trans e2.2.symm))
   have hb:=sr.br.at_ i b bx' h1 h2
   cases bx' with
   | lst xs=>
     obtain⟨o,vs,n,e1,e2,e3,as,e4,e5⟩:=hb
     exact⟨o,vs,n,kp _ _ hne e1,e2,e3,as,(zy sr.br sr.fm st e4 e5).1,e5⟩
 ·by_cases hba:b=a
  ·subst hba;exact hp
  ·exact (sr.br.plain b hb).at fun o e=>kp b o hba e
theorem kv{h:Heap}{N:List Addr}{a:Addr}{xs:List PyData}(hp:Plain h a)(hl:ListAt h N β a xs):∃ vs as,h.PlainList a vs∧ReadsAll h vs.toList xs as∧∀ b∈as,b∉β∧b∉N:=by
 obtain⟨o,vs,n,e1,e2,e3,as,e4,e5⟩:=hl
 obtain⟨o₉,g1,g2,g3⟩:=hp
 rw[e1] at g1;cases g1
 obtain⟨cl,di,da,sl⟩:=o
 simp only at e2 e3 g2 g3
 subst e2 e3 g2 g3
 exact⟨vs,as,⟨n,e1⟩,e4,e5⟩
set_option tactic.hygienic true in
theorem zl3{o e:Expr}{p q:Pos}{ra:R za V}{rb:za→R za V}(hm:zc8 o p q=true)(hs:starEach [e] F.env=[(false,eval e F.env)])
 (h1:Does G F A s β (eval o F.env) (ra.lift ρ) (VRel G F)) (h2:∀ s' β' O',SR G F β' ρ O' s'.heap→Does G F A s' β' (eval e F.env) ((rb O').lift ρ) (VRel G F)) :
 Does G F A s β (eval (.Call (.Attribute o "append" p) [e] [] q) F.env) ((ra.bind fun v O=>if recv .append v O=true then (rb O).bind fun u O=>meth .append v [u] O else .stuck).lift ρ) (VRel G F):=by
 have hline:(p.endLine == q.line)=true:=(and2 hm).1
 have hbase:attributeBase o "append" F.env (eval o F.env)=eval o F.env:=by
  unfold zc8 at hm
  have:=(and2 hm).2
  cases o <;> first | rfl | exact (Bool.false_ne_true this).elim
 have htrees:backTo q (starEach [e] F.env)=[(false,eval e F.env)]:=by rw[hs];rfl
 refine DoesW.seqE (T₂:=fun ov Q E s₁=>∃ D its,ov=.ref D∧PlainL s₁.heap D its∧wpAny (model G.prog G.w) A (eval e F.env) (fun y s₂=>wpAny (model G.prog G.w) A (call (.builtin "list.append") [.ref D,y]) Q E s₂) E s₁)
  (fun Q E h=>wpAny_Call_append hbase (by rw[htrees];rfl) hline htrees h) h1 fun s' β' v d O' _ st sr rv=>?_
 split
 ·rename_i hr
  cases d with
  | box n=>
    have hr:zef O' n=true:=hr
    unfold zef at hr
    cases hx:O'[n]? with
    | none=>rw[hx] at hr;cases hr
    | some bx=>
      rw[hx] at hr
      cases bx with
      | lst xs=>
        obtain⟨a,hn,rfl⟩:=rv
        obtain⟨vs,as,hpl,r1,q1⟩:=kv (sr.br.plain a (List.mem_of_getElem? hn)) (sr.br.at_ n a _ hn hx)
        obtain⟨k0,e0⟩:=hpl
        refine DoesW.seqE (T₁:=tr G A (eval e F.env)) (T₂:=fun y Q E s₂=>wpAny (model G.prog G.w) A (call (.builtin "list.append") [.ref a,y]) Q E s₂) (fun Q E h=>⟨a,vs,rfl,⟨_,_,e0,rfl,rfl,rfl⟩,h⟩) (h2 s' β' O' sr) fun s₂ β₂ y u O₂ _ st₂ sr₂ ry=>?_
        have hn₂:=jd st₂.pre hn
        show DoesW _ _ _ _ _ (R.lift ρ (boxL (.box n) O₂ fun n xs=>oneD (fun x=>if xs.length < line then .ok (.d .none) (O₂.set n (.lst (xs++[x]))) else .stuck) [u])) _
        unfold boxL
        dsimp only
        cases hy:O₂[n]? with
        | none=>trivial
        | some bx₂=>
          cases bx₂ with
          | lst ys=>
            cases u with
            | d x'=>
              show DoesW _ _ _ _ _ (R.lift ρ (if ys.length < line then R.ok (V.d .none) (O₂.set n (.lst (ys++[x']))) else .stuck)) _
              by_cases hlen:ys.length < line
              ·rw [if_pos hlen]
               obtain ⟨ws,bs,hpl₂,r2,q2⟩:=kv (sr₂.br.plain a (List.mem_of_getElem? hn₂)) (sr₂.br.at_ n a _ hn₂ hy)
               intro Q E k
               have hsz:ws.size≤sizeLine:=by rw [← Array.length_toList,zd r2];exact Nat.le_trans (Nat.le_of_lt hlen) (by decide)
               refine wpAny_list_append_plain hpl₂ (fun h' hl' hs'=>?_) hsz
               obtain ⟨k',e'⟩:=hl'
               obtain ⟨cs,r3,q3⟩:=ry
               have hb:Step F.W β₂ s₂ { s₂ with heap:=h' } β₂→BoxAt h' F.B β₂ a (.lst (ys++[x'])):=fun st₃=>by
                refine ⟨_,_,k',e',rfl,rfl,bs++(cs++[]),?_,fun b hb=>?_⟩
                ·rw [Array.toList_push]
                 exact yj (zy sr₂.br sr₂.fm st₃ r2 q2).1 (.cons (kq sr₂.br sr₂.fm st₃ r3 q3).1 .nil)
                ·rw [List.append_nil] at hb
                 exact (List.mem_append.mp hb).elim (q2 b) (q3 b)
               obtain ⟨st₃,sr₃⟩:=SR.setBox (bx:=.lst (ys++[x'])) (s':={ s₂ with heap:=h' }) sr₂ hn₂ hs' rfl rfl hb ⟨_,e',rfl,rfl⟩
               exact k _ β₂ .none st₃ sr₃ VR.none
              ·rw [if_neg hlen];trivial
            | _=>trivial
  | _=>cases hr
 ·trivial
theorem zgb{v:Value}{b:Bool}(sr:SR G F β ρ O s.heap)(rv:VR G F.B β s.heap v (.d (.bool b))) :
 LeafD G F s β (tr G A (call (.type "int") [v])) (V.d (.int (if b then 1 else 0))) (FRel G F s):=by
 obtain⟨as,r,_⟩:=rv
 cases r
 exact LeafD.leaf sr fun Q E k=>call_int_bool (k _ _ (KeepsAll.toks s _) ⟨VR.int,fun _ h=>by cases h⟩)
theorem zrb{p:Pos}(sr:SR G F β ρ O s.heap):Does G F A s β (eval (.Dict [] [] p) F.env) ((R.ok (V.d (.dict [])) O).lift ρ) (VRel G F):=by
 refine Does.leaf sr fun Q E q=>wpAny_Dict_empty (q _ _ (KeepsAll.push s _ s.toks) ⟨_,.dict (kvs:=[]) (Heap.get?_push_size _ rfl) rfl rfl .nil .nil,fun a ha=>?_⟩)
 rw[show a=s.heap.objs.size by simpa using ha]
 exact sr.size_new
end
theorem R.bind_ok{σ α:Type}(r:R σ α):(r.bind fun v O=>R.ok v O)=r:=by cases r <;> rfl
section
variable{G:Gl}{F:Fm}{A:Around}{s:Shared}{β:List Addr}{ρ:Loc}{O:za}{cx:Cx}{gval:Nat→Option PyData}{gname:Nat→Option Str}{P:Pg}{K:V→za→R za V}
theorem LeafD.fin2{T:WT Value}{c:PyData}(hK:Fin2 K)(sr:SR G F β ρ O s.heap)(h:LeafD G F s β T (V.d c) (FRel G F s)):DoesW G F s β T ((K (.d c) O).lift ρ) (VRel G F):=by
 cases hK with
 | plain=>exact (h.does sr).weaken (fun _ _ h=>h) fun _ _ _ _ r=>r.1
 | box=>exact h.box sr
theorem zap{T:WT Value}{o:Option PyData}(hK:Fin2 K)(sr:SR G F β ρ O s.heap)(h:∀ c,o=some c→LeafD G F s β T (V.d c) (FRel G F s)):DoesW G F s β T (((opt (o.map V.d) O).bind K).lift ρ) (VRel G F):=by
 cases o with
 | none=>trivial
 | some c=>exact (h c rfl).fin2 hK sr
theorem zn8{elts:List Expr}{pos:Pos}{r:R za (List V)}(hK:Fin2 K)(hl:∀ vs O,r=.ok vs O→vs.length≤line)
 (h1:Does G F A s β (spliced (backTo pos (starEach elts F.env))) (r.lift ρ) (VRsl G F)) :
 Does G F A s β (eval (.List elts pos) F.env) (((r.bind fun vs O=>opt ((allD vs).map fun xs=>V.d (.list xs)) O).bind K).lift ρ) (VRel G F):=by
 rw[R.bind_assoc]
 refine DoesW.seqE (T₂:=fun vs Q E s₁=>vs.length≤sizeLine∧Q (.ref s₁.heap.objs.size) { s₁ with heap:=s₁.heap.push { cls:=.type "list",data:=.seq vs.toArray } }) (fun Q E h=>wpAny_List h) h1 fun s' β' vs ds O' e st sr rv=>?_
 have hz:vs.length≤sizeLine:=by rw[rv.length];exact Nat.le_trans (hl _ _ e) (by decide)
 have:((allD ds).map fun xs=>V.d (.list xs))=((allD ds).map PyData.list).map V.d:=by rw[Option.map_map];rfl
 rw[this]
 refine zap hK sr fun c hc=>?_
 cases hd:allD ds with
 | none=>rw[hd] at hc;cases hc
 | some xs=>
   rw[hd] at hc;cases hc
   exact LeafD.leaf sr fun Q E q=>⟨hz,q _ _ (KeepsAll.push s' _ s'.toks) ⟨zdt sr rv hd,fun _ _=>⟨_,rfl,yo s',_,Heap.get?_push_size _ rfl,rfl,rfl⟩⟩⟩
theorem zrf{op:Bop}{o:Operator}{x y:Expr}{p:Pos}{ra:R za V}{rb:za→R za V}(hK:Fin2 K)(ho:ze5 op o=true)
 (h1:Does G F A s β (eval x F.env) (ra.lift ρ) (VRel G F)) (h2:∀ s' β' O',SR G F β' ρ O' s'.heap→Does G F A s' β' (eval y F.env) ((rb O').lift ρ) (VRel G F)) :
 Does G F A s β (eval (.BinOp x o y p) F.env) (((ra.bind fun v O=>(rb O).bind fun u O=>opt (((look O v).bind fun x=>(look O u).bind fun y=>zcq op x y).map V.d) O).bind K).lift ρ) (VRel G F):=by
 rw[R.bind_assoc]
 refine DoesW.seqE (T₂:=fun v Q E s₁=>wpAny (model G.prog G.w) A (eval y F.env) (fun u s₂=>wpAny (model G.prog G.w) A (binaryOp o v u) Q E s₂) E s₁) (fun Q E h=>wpAny_BinOp h) h1 fun s' β' v d O' _ st sr rv=>?_
 rw[R.bind_assoc]
 refine DoesW.seqE (T₂:=fun u=>tr G A (binaryOp o v u)) (fun Q E h=>h) (h2 s' β' O' sr) fun s₂ β₂ u d₂ O₂ _ st₂ sr₂ ru=>?_
 exact zap hK sr₂ fun c hc=>zna ho sr₂ (rv.step sr.br sr.fm st₂) ru hc
noncomputable def fvOf:Prim→Value
 | .isinst _ | .isexc _=>.builtin "isinstance"
 | .len | .lenset=>.builtin "len"
 | .all=>.builtin "all"
 | .any=>.builtin "any"
 | .sum=>.builtin "sum"
 | .sorted | .sortedset=>.builtin "sorted"
 | .list=>.type "list"
 | .tuple=>.type "tuple"
 | .min2 | .min=>.builtin "min"
 | .max=>.builtin "max"
 | .int=>.type "int"
 | .str=>.type "str"
theorem zgl(p:Prim):(jl p,fvOf p)∈bis:=by cases p <;> first | decide | exact (by decide:(("isinstance" : Str),Value.builtin "isinstance")∈bis)
theorem znm(p:Prim):(∃ id,fvOf p=.builtin id)∨∃ T,fvOf p=.type T:=by cases p <;> first | exact .inl ⟨_,rfl⟩ | exact .inr ⟨_,rfl⟩
end
section
variable{G:Gl}{F:Fm}{A:Around}{s:Shared}{β:List Addr}{ρ:Loc}{O:za}{cx:Cx}{gval:Nat→Option PyData}{gname:Nat→Option Str}{P:Pg}{K:V→za→R za V}
theorem zhg{p:Prim}{v:V}(hp:∀ c,p≠.isexc c):prim P p [v] O=opt (((look O v).bind fun x=>wb P p [x]).map V.d) O:=by
 have:prim P p [v] O=(match ([v].mapM (look O)).bind (wb P p) with | some y=>R.ok (V.d y) O | none=>.stuck):=by
  cases p <;> first | rfl | exact absurd rfl (hp _)
 rw[this]
 cases hl:look O v with
 | none=>simp[List.mapM_cons,hl,opt]
 | some x=>
   simp only[List.mapM_cons,List.mapM_nil,hl]
   show (match wb P p [x] with | some y=>R.ok (V.d y) O | none=>.stuck)=opt ((wb P p [x]).map V.d) O
   cases wb P p [x] <;> rfl
noncomputable def zcu(G:Gl)(P:Pg):Prop:=∀ (A:Around) (F:Fm) (s:Shared) (β:List Addr) (ρ:Loc) (O:za) (v:Value) (d:V) (xs ys:List PyData) (k:Nat),Room A k→SR G F β ρ O s.heap→VR G F.B β s.heap v d→look O d=some (.list xs)→xs.length < 64→P.srt xs=some ys →
 LeafD G F s β (tr G A (call (.builtin "sorted") [v])) (V.d (.list ys)) (FRel G F s)
noncomputable def zff(G:Gl)(P:Pg):Prop:=P.sets=true→∀ (A:Around) (F:Fm) (s:Shared) (β:List Addr) (ρ:Loc) (O:za) (v:Value) (xs:List PyData) (is:List Int) (k:Nat),Room A k→A.handled=none→SR G F β ρ O s.heap→VR G F.B β s.heap v (.d (.tuple xs))→Mine.intsOf xs=some is→small is=true →
 LeafD G F s β (fun Q E s=>wpAny (model G.prog G.w) A (call (.type "set") [v]) (fun S s₁=>wpAny (model G.prog G.w) A (call (.builtin "len") [S]) Q E s₁) E s) (V.d (.int (x9 is).length)) (FRel G F s) ∧
 LeafD G F s β (fun Q E s=>wpAny (model G.prog G.w) A (call (.type "set") [v]) (fun S s₁=>wpAny (model G.prog G.w) A (call (.builtin "sorted") [S]) Q E s₁) E s) (V.d (.list ((x9 is).map .int))) (FRel G F s)
noncomputable def zmf(G:Gl)(z:Str)(v:Value):Prop:=G.mg z=some v∨(G.mg z=none∧G.mb z=some v)
structure zid(G:Gl)(P:Pg)(cname:Nat→Option Str):Prop where
 inst:∀ c z,cname c=some z→∃ cv,zmf G z cv∧∀ (A:Around) (s:Shared) (x:Nat) (b:Bool) (e:Addr) (oe:Obj) (Q:Value→Shared→Prop) (E:Value→Shared→Prop),P.sub x c=some b→(∀ b o,G.h₀.get? b=some o→s.heap.get? b=some o) →
  s.heap.get? e=some oe→oe.cls=G.cls x→oe.dict=none→(∃ fs,oe.data=.fields fs)→(∀ s',KeepsAll s s'→Q (.bool b) s')→wpAny (model G.prog G.w) A (call (.builtin "isinstance") [.ref e,cv]) Q E s
 matches_:∀ c z,cname c=some z→∃ cv,zmf G z cv∧∀ (A:Around) (s:Shared) (x:Nat) (b:Bool) (e:Addr) (oe:Obj) (Q:Bool→Shared→Prop) (E:Value→Shared→Prop),P.sub x c=some b→(∀ b o,G.h₀.get? b=some o→s.heap.get? b=some o) →
  s.heap.get? e=some oe→oe.cls=G.cls x→Q b s→wpAny (model G.prog G.w) A (excMatches (.ref e) cv) Q E s
 raise:∀ (c:Nat) (z:Str) (A:Around) (s:Shared) (env:Env) (x:Str) (y:Str) (np cpos pos yp:Pos) (yk:Nat) (Q:Flow→Shared→Prop) (E:Value→Shared→Prop),cname c=some z→c≠0→A.handled=none→(∀ b o,G.h₀.get? b=some o→s.heap.get? b=some o) →
  env.scope.kind=.function→env.globals=mainGlobals→env.kindOf z=some .globalImplicit→(z == ("__debug__" : Str))=false →
  (∀ h' tk e t oe,(∀ b o,s.heap.get? b=some o→h'.get? b=some o)→s.heap.get? e=none→h'.get? e=some oe→oe.cls=G.cls c→oe.dict=none→oe.data=.fields t→t[1]?=some .none→E (.ref e) { s with heap:=h',toks:=tk }) →
  wpAny (model G.prog G.w) A (exec (.Raise (some (.Call (.Name z np) [.Constant (.str y) yk yp] [] cpos)) none pos) env) Q E s
theorem vg{f:List PyData→Option PyData}{x y:PyData}(h:zea f x=some y):∃ xs,x=.list xs∧f xs=some y:=by
 cases x <;> first | (cases h;done) | skip
 exact⟨_,rfl,h⟩
theorem zp5{p:Prim}{v:Value}{d:V}{x y:PyData}{k:Nat}(hp:p.plain=true)(hh:p.calm=true∨A.handled=none)(so:zcu G P)(ro:Room A k)(sr:SR G F β ρ O s.heap)(rv:VR G F.B β s.heap v d)(hx:look O d=some x)(e:zb5 P p x=some y) :
 LeafD G F s β (tr G A (call (fvOf p) [v])) (V.d y) (FRel G F s):=by
 have hh':p.calm=false→A.handled=none:=fun h=>by
  rcases hh with hh | hh
  ·rw[h] at hh;cases hh
  ·exact hh
 cases p with
 | len=>
   cases x with
   | list xs=>obtain⟨h1,rfl⟩:=yf e;exact zga sr rv hx h1
   | tuple xs=>
     obtain⟨h1,rfl⟩:=yf e
     have:=z9 hx (fun _ h=>by cases h);subst this
     exact zed sr rv h1
   | _=>cases e
 | all=>
   obtain⟨xs,rfl,e⟩:=vg e
   obtain⟨bs,hb,rfl⟩:=Option.map_eq_some_iff.mp e
   exact zsn (hh' rfl) sr rv hx hb
 | any=>
   obtain⟨xs,rfl,e⟩:=vg e
   obtain⟨bs,hb,rfl⟩:=Option.map_eq_some_iff.mp e
   exact zsm (hh' rfl) sr rv hx hb
 | sum=>
   obtain⟨xs,rfl,e⟩:=vg e
   obtain⟨bs,hb,rfl⟩:=Option.map_eq_some_iff.mp e
   exact l_sum (hh' rfl) sr rv hx hb
 | sorted=>
   obtain⟨xs,rfl,e⟩:=vg e
   have e:(if xs.length < 64 then (P.srt xs).map PyData.list else none)=some y:=e
   by_cases hl:xs.length < 64
   ·rw[if_pos hl] at e
    obtain⟨ys,hs,rfl⟩:=Option.map_eq_some_iff.mp e
    exact so A F s β ρ O v d xs ys k ro sr rv hx hl hs
   ·rw[if_neg hl] at e;cases e
 | list=>
   cases x with
   | list xs=>obtain⟨h1,rfl⟩:=yf e;exact zkt sr rv hx rfl h1
   | tuple xs=>obtain⟨h1,rfl⟩:=yf e;exact zkt sr rv hx rfl h1
   | _=>cases e
 | tuple=>
   cases x with
   | list xs=>obtain⟨h1,rfl⟩:=yf e;exact zdb sr rv hx h1
   | tuple xs=>
     cases e
     have:=z9 hx (fun _ h=>by cases h);subst this
     exact zbo sr rv
   | _=>cases e
 | int=>
   cases x with
   | bool b=>
     cases e
     have:=z9 hx (fun _ h=>by cases h);subst this
     exact zgb sr rv
   | _=>cases e
 | min=>cases e
 | max=>cases e
 | str=>cases e
 | isinst _=>cases hp
 | isexc _=>cases hp
 | min2=>cases hp
 | lenset=>cases hp
 | sortedset=>cases hp
set_option tactic.hygienic true in
theorem zn6{p:Prim}{y:Expr}{ps q:Pos}{r:R za V}{k:Nat}(hK:Fin2 K)(hp:p.plain=true)(hh:p.calm=true∨A.handled=none)(so:zcu G P)(ro:Room A k)(g:GOk G gval gname)(sr:SR G F β ρ O s.heap)(fit:Fits F cx)(hx:cx.isGlob (jl p)=true)
 (he:starEach [y] F.env=(false,eval y F.env)::starEach [] F.env) (h1:Does G F A s β (eval y F.env) (r.lift ρ) (VRel G F)) :
 Does G F A s β (eval (.Call (.Name (jl p) ps) [y] [] q) F.env) ((((r.bind fun v O=>R.ok [v] O).bind fun vs O=>prim P p vs O).bind K).lift ρ) (VRel G F):=by
 rw[R.bind_assoc]
 refine p9 (r:=r.bind fun v O=>R.ok [v] O) g sr fit hx (zgl p) (znm p) he rfl (yl he h1 fun s' β' O' sr'=>xp sr') fun s' β' vals vs O' e st sr' rvs=>?_
 cases r with
 | stuck=>cases e
 | ok v O₁=>
   cases (e)
   cases rvs with
   | cons rv rs=>cases rs with
     | nil=>
       rename_i val
       have hpr:=zhg (P:=P) (v:=v) (O:=O') (p:=p) (fun c e=>by subst e;cases hp)
       rw[hpr]
       refine zap hK sr' fun c hc=>?_
       cases hl:look O' v with
       | none=>rw[hl] at hc;cases hc
       | some x=>rw[hl] at hc;exact zp5 hp hh so ro sr' rv hl (show zb5 P p x=some c from hc)
theorem zl2{t:Ty}{y:Expr}{ps pz q:Pos}{r:R za V}(g:GOk G gval gname)(sr:SR G F β ρ O s.heap)(fit:Fits F cx)(hx:cx.isGlob "isinstance" = true)(hz:cx.isGlob (wh t)=true)
 (he:∀ rest,starEach (y::rest) F.env=(false,eval y F.env)::starEach rest F.env) (h1:Does G F A s β (eval y F.env) (r.lift ρ) (VRel G F)) :
 Does G F A s β (eval (.Call (.Name "isinstance" ps) [y,.Name (wh t) pz] [] q) F.env) (((r.bind fun v O=>R.ok [v] O).bind fun vs O=>prim P (.isinst t) vs O).lift ρ) (VRel G F):=by
 obtain⟨b1,b2⟩:=g.bi _ (zgl (.isinst t))
 have e1:((r.bind fun v O=>R.ok [v] O).bind fun vs O=>prim P (.isinst t) vs O)=r.bind fun v O=>opt (((look O v).map fun x=>V.d (.bool (isTy t x)))) O:=by
  rw[R.bind_assoc]
  cases r with
  | ok v O₁=>
    show prim P (.isinst t) [v] O₁=opt (((look O₁ v).map fun x=>V.d (.bool (isTy t x)))) O₁
    unfold prim
    cases hl:look O₁ v with
    | none=>simp[List.mapM_cons,hl,opt]
    | some x=>simp[List.mapM_cons,hl,opt,wb,zb5]
  | _=>rfl
 rw[e1]
 have hne:starEach [Expr.Name (wh t) pz] F.env=(false,eval (.Name (wh t) pz) F.env)::starEach [] F.env:=rfl
 obtain⟨c1,c2⟩:=g.bi _ (zpb t)
 refine DoesW.seqE (T₂:=fun v Q E s₁=>wpAny (model G.prog G.w) A (eval (.Name (wh t) pz) F.env) (fun c s₂=>wpAny (model G.prog G.w) A (call (.builtin "isinstance") [v,c]) Q E s₂) E s₁)
  (fun Q E h=>Call_Name rfl (yb g sr fit hx b1 b2 (callWith_builtin1 (spliced_more (wpAny_mono h (fun v s₁ h₁=>spliced_more (wpAny_mono h₁ (fun c s₂ h₂=>spliced_none h₂) (fun _ _ x=>x)) hne) (fun _ _ x=>x)) (he _)) (he _) rfl))) h1 fun s' β' val v O' _ st sr' rv=>?_
 cases hl:look O' v with
 | none=>trivial
 | some x=>exact ((zku sr' rv hl).does sr').weaken (fun Q E h=>yb g sr' fit hz c1 c2 h) fun _ _ _ _ r=>r.1
theorem zn7{p:Prim}{y:Expr}{ps pz q q':Pos}{r:R za V}{k:Nat}(hp:p=.lenset∨p=.sortedset)(se:zff G P)(ro:Room A k)(hh:A.handled=none)(g:GOk G gval gname)(sr:SR G F β ρ O s.heap)(fit:Fits F cx)(hx:cx.isGlob (jl p)=true)(hz:cx.isGlob "set" = true)
 (he:starEach [y] F.env=(false,eval y F.env)::starEach [] F.env) (h1:Does G F A s β (eval y F.env) (r.lift ρ) (VRel G F)) :
 Does G F A s β (eval (.Call (.Name (jl p) ps) [.Call (.Name "set" pz) [y] [] q'] [] q) F.env) (((r.bind fun v O=>R.ok [v] O).bind fun vs O=>prim P p vs O).lift ρ) (VRel G F):=by
 obtain⟨b1,b2⟩:=g.bi _ (zgl p)
 obtain ⟨c1,c2⟩:=g.bi ("set",.type "set") (by decide)
 obtain⟨id,hid⟩ : ∃ id,fvOf p=.builtin id:=by rcases hp with rfl | rfl <;> exact⟨_,rfl⟩
 have hne:starEach [Expr.Call (.Name "set" pz) [y] [] q'] F.env=(false,eval (.Call (.Name "set" pz) [y] [] q') F.env)::starEach [] F.env:=rfl
 have e1:((r.bind fun v O=>R.ok [v] O).bind fun vs O=>prim P p vs O)=r.bind fun v O=>prim P p [v] O:=by rw[R.bind_assoc];cases r <;> rfl
 rw[e1]
 refine DoesW.seqE (T₂:=fun v Q E s=>wpAny (model G.prog G.w) A (call (.type "set") [v]) (fun S s₁=>wpAny (model G.prog G.w) A (call (.builtin id) [S]) Q E s₁) E s)
  (fun Q E h=>?_) h1 fun s' β' val v O' _ st sr' rv=>?_
 ·rw[hid] at b2
  refine Call_Name rfl (yb g sr fit hx b1 b2 (callWith_builtin1 (spliced_more (wpAny_mono (Call_Name rfl (yb g sr fit hz c1 c2 (callWith_type1 (spliced_more (wpAny_mono h (fun v s₁ h₁=>spliced_none h₁) (fun _ _ x=>x)) he) he rfl))) (fun v s₁ h₁=>spliced_none h₁) (fun _ _ x=>x)) hne) hne rfl))
 ·have hpr:=zhg (P:=P) (v:=v) (O:=O') (p:=p) (fun c e=>by rcases hp with hp | hp <;> (rw[hp] at e;cases e))
  rw[hpr]
  cases hl:look O' v with
  | none=>trivial
  | some x=>
    show DoesW _ _ _ _ _ ((opt ((wb P p [x]).map V.d) O').lift ρ) _
    cases hd:wb P p [x] with
    | none=>trivial
    | some c=>
      have hset:P.sets=true:=by
       rcases hp with rfl | rfl
       ·have hd:(match P.sets with | true=>zda x | false=>none)=some c:=hd
        cases h:P.sets with
        | true=>rfl
        | false=>rw[h] at hd;cases hd
       ·have hd:(match P.sets with | true=>wi x | false=>none)=some c:=hd
        cases h:P.sets with
        | true=>rfl
        | false=>rw[h] at hd;cases hd
      have inv:∀ (f:List Int→PyData) (xs:List PyData),setT f xs=some c→∃ is,Mine.intsOf xs=some is∧small is=true∧f is=c:=fun f xs h=>by
       obtain⟨is,h1,h2⟩:=Option.bind_eq_some_iff.mp h
       obtain⟨h3,h4⟩:=yf h2
       exact⟨is,h1,h3,h4⟩
      have key:∃ xs is,x=.tuple xs∧Mine.intsOf xs=some is∧small is=true∧((p=.lenset∧c=.int (x9 is).length)∨(p=.sortedset∧c=.list ((x9 is).map .int))):=by
       rcases hp with rfl | rfl
       ·have hd:(match P.sets with | true=>zda x | false=>none)=some c:=hd
        rw[hset] at hd
        cases x <;> first | (cases hd;done) | skip
        obtain⟨is,h1,h2,rfl⟩:=inv _ _ hd
        exact⟨_,is,rfl,h1,h2,.inl ⟨rfl,rfl⟩⟩
       ·have hd:(match P.sets with | true=>wi x | false=>none)=some c:=hd
        rw[hset] at hd
        cases x <;> first | (cases hd;done) | skip
        obtain⟨is,h1,h2,rfl⟩:=inv _ _ hd
        exact⟨_,is,rfl,h1,h2,.inr ⟨rfl,rfl⟩⟩
      obtain⟨xs,is,rfl,hi,hsm,hc⟩:=key
      have:=z9 hl (fun _ h=>by cases h);subst this
      obtain⟨s1,s2⟩:=se hset A F s' β' ρ O' val xs is k ro hh sr' rv hi hsm
      rcases hc with ⟨rfl,rfl⟩ | ⟨rfl,rfl⟩
      ·cases hid
       exact (s1.does sr').weaken (fun _ _ h=>h) fun _ _ _ _ r=>r.1
      ·cases hid
       exact (s2.does sr').weaken (fun _ _ h=>h) fun _ _ _ _ r=>r.1
end
structure Run(G:Gl)(A:Around)(P:Pg)(fname gname cname:Nat→Option Str):Prop where
 g:GOk G P.gval gname
 ro:Room A 0
 hm:P.hd=false→A.handled=none
 ck:∀ A' hd,Like A A'→(hd=false→A'.handled=none)→u8 G A' fname (P.call hd)
 so:zcu G P
 se:zff G P
 cl:zid G P cname
noncomputable def zkd:Expr→Bool
 | .Set _ _ _=>false
 | .Starred _ _=>false
 | .Slice _ _ _ _=>false
 | _=>true
noncomputable def PX(e:Expr):Prop:=zkd e=true
theorem PX.star{e:Expr}(h:PX e){env:Env}{rest:List Expr}:starEach (e::rest) env=(false,eval e env)::starEach rest env:=by
 cases e <;> first | rfl | cases h
theorem PX.set{e:Expr}(h:PX e):∀ l k p,e≠.Set l k p:=fun _ _ _ q=>by subst q;cases h
theorem PX.slice{e:Expr}(h:PX e):∀ l u t p,e≠.Slice l u t p:=fun _ _ _ _ q=>by subst q;cases h
theorem zjt(ra:R za V)(rb:za→R za V):tv (ra.bind fun v O=>(opt (truth v) O).bind (andK rb))=(tv ra).bind fun t O=>(match t with | true=>tv (rb O) | false=>R.ok false O):=by
 cases ra with
 | ok v O=>
   show tv ((opt (truth v) O).bind (andK rb))=(opt (truth v) O).bind _
   cases truth v with
   | none=>rfl
   | some b=>cases b <;> rfl
 | _=>rfl
theorem zoj(ra:R za V)(rb:za→R za V):tv (ra.bind fun v O=>(opt (truth v) O).bind (orK rb))=(tv ra).bind fun t O=>(match t with | true=>R.ok true O | false=>tv (rb O)):=by
 cases ra with
 | ok v O=>
   show tv ((opt (truth v) O).bind (orK rb))=(opt (truth v) O).bind _
   cases truth v with
   | none=>rfl
   | some b=>cases b <;> rfl
 | _=>rfl
theorem zh6(r:R za Bool):(r.bind fun t O=>(match t with | true=>R.ok true O | false=>R.ok false O))=r:=by
 cases r with
 | ok t O=>cases t <;> rfl
 | _=>rfl
section
variable{G:Gl}{F:Fm}{A:Around}{s:Shared}{β:List Addr}{ρ:Loc}{O:za}
end
noncomputable def CEs.len:CEs→Nat
 | .nil=>0
 | .cons _ es=>es.len+1
theorem zep{P:Pg}{ρ:Loc}:∀ (es:CEs) (O:za) (vs:List V) (O':za),evEs P ρ es O=.ok vs O'→vs.length=es.len
 | .nil,O,vs,O',h=>by cases h;rfl
 | .cons e es,O,vs,O',h=>by
   unfold evEs at h
   cases he:evE P ρ e O with
   | stuck=>rw[he] at h;cases h
   | ok v O₁=>
     rw[he] at h
     cases hes:evEs P ρ es O₁ with
     | stuck=>simp only[R.bind,hes] at h;cases h
     | ok ws O₂=>
       simp only[R.bind,hes] at h
       cases h
       exact congrArg (· + 1) (zep es O₁ ws _ hes)
set_option tactic.hygienic true in
theorem zj2{v:V}{O O':za}{src:Src}(h:srcV v O=.ok src O'):src.Has O':=by
 unfold srcV at h
 split at h
 ·rename_i x
  cases hi:items x with
  | none=>rw[hi] at h;cases h
  | some xs=>rw[hi] at h;cases h;trivial
 ·split at h
  ·cases h;assumption
  ·cases h
 ·cases h
theorem uc{α β:Type}{r:R za α}{f:α→za→R za β}{b:β}{O:za}(h:r.bind f=.ok b O):∃ a O₁,r=.ok a O₁∧f a O₁=.ok b O:=by
 cases r with
 | ok a O₁=>exact⟨a,O₁,rfl,h⟩
 | _=>cases h
section
variable{G:Gl}{F:Fm}{A:Around}{s:Shared}{β:List Addr}{ρ:Loc}{O:za}{cx:Cx}{gval:Nat→Option PyData}{gname:Nat→Option Str}{K:V→za→R za V}
end
structure Here(G:Gl)(A:Around)(P:Pg)(F:Fm)(cx:Cx):Prop where
 run:Run G A P cx.fname cx.gname cx.cname
 fit:Fits F cx
 fr:FrA A F
structure zib(G:Gl)(A:Around)(P:Pg)(F:Fm)(cx:Cx):Prop extends Here G A P F cx where
 top:TopA A F
 own:∀ x,ownOf cx.sc x=true→F.own x=true
structure JK(cx:Cx)(x:Expr)(c:CE):Prop where
 px:PX x
 d:∀ {G:Gl} {A:Around} {P:Pg} {F:Fm} {s:Shared} {β:List Addr} {ρ:Loc} {O:za} {K:V→za→R za V},Here G A P F cx→SR G F β ρ O s.heap→Fin2 K→Does G F A s β (eval x F.env) (((evE P ρ c O).bind K).lift ρ) (VRel G F)
structure JE(cx:Cx)(x:Expr)(c:CE):Prop where
 px:PX x
 d:∀ {G:Gl} {A:Around} {P:Pg} {F:Fm} {s:Shared} {β:List Addr} {ρ:Loc} {O:za},Here G A P F cx→SR G F β ρ O s.heap→Does G F A s β (eval x F.env) ((evE P ρ c O).lift ρ) (VRel G F)
structure JT(cx:Cx)(x:Expr)(c:CE):Prop where
 d:∀ {G:Gl} {A:Around} {P:Pg} {F:Fm} {s:Shared} {β:List Addr} {ρ:Loc} {O:za},Here G A P F cx→SR G F β ρ O s.heap→Does G F A s β (isTrue x F.env (eval x F.env)) ((tv (evE P ρ c O)).lift ρ) BRel
structure JEs(cx:Cx)(l:List Expr)(es:CEs):Prop where
 d:∀ {G:Gl} {A:Around} {P:Pg} {F:Fm} {s:Shared} {β:List Addr} {ρ:Loc} {O:za} {pos:Pos},Here G A P F cx→SR G F β ρ O s.heap→Does G F A s β (spliced (backTo pos (starEach l F.env))) ((evEs P ρ es O).lift ρ) (VRsl G F)
structure JIfs(cx:Cx)(l:List Expr)(es:CEs):Prop where
 d:∀ {G:Gl} {A:Around} {P:Pg} {F:Fm} {s:Shared} {β:List Addr} {ρ:Loc} {O:za},Here G A P F cx→SR G F β ρ O s.heap→Does G F A s β (xf l F.env) ((xd P ρ es O).lift ρ) BRel
structure JI(cx:Cx)(x:Expr)(it:CI):Prop where
 px:PX x
 d:∀ {G:Gl} {A:Around} {P:Pg} {F:Fm} {s:Shared} {β:List Addr} {ρ:Loc} {O:za} {target:Expr},A.handled=none→Here G A P F cx→SR G F β ρ O s.heap→DoesW G F s β (zcd G A x F.env) ((evI P ρ it O).lift ρ) (IRel G F A target s)
 has:∀ {P:Pg} {ρ:Loc} {O O':za} {src:Src},evI P ρ it O=.ok src O'→src.Has O'
structure JR(cx:Cx)(x:Expr)(a b:CE):Prop where
 px:PX x
 d:∀ {G:Gl} {A:Around} {P:Pg} {F:Fm} {s:Shared} {β:List Addr} {ρ:Loc} {O:za},Here G A P F cx→SR G F β ρ O s.heap→Does G F A s β (eval x F.env) ((rng a b P ρ O).lift ρ) (RRel s)
structure JS(cx:Cx)(st:Stmt)(c:CS):Prop where
 d:∀ {G:Gl} {A:Around} {P:Pg} {F:Fm} {s:Shared} {β:List Addr} {ρ:Loc} {O:za},zib G A P F cx→SR G F β ρ O s.heap→Does G F A s β (exec st F.env) (evS P c ρ O) (yv G F)
structure JSs(cx:Cx)(l:List Stmt)(c:CSs):Prop where
 d:∀ {G:Gl} {A:Around} {P:Pg} {F:Fm} {s:Shared} {β:List Addr} {ρ:Loc} {O:za},zib G A P F cx→SR G F β ρ O s.heap→Does G F A s β (execs l F.env) (evSs P c ρ O) (yv G F)
section
variable{cx:Cx}{x y z u:Expr}{a b c:CE}{p q ps pz:Pos}
theorem JK.e(h:JK cx x c):JE cx x c:=⟨h.px,fun hr sr=>by have:=h.d hr sr .plain;rwa [R.bind_ok] at this⟩
theorem znf(h:JK cx x c):JE cx x (.boxed c):=⟨h.px,fun hr sr=>h.d hr sr .box⟩
theorem zqc{k:Nat}:JE cx (.Constant .none k p) .none:=⟨rfl,fun {G A P F s β ρ O} hr sr=>Does.leaf sr fun Q E q=>wpAny_Constant_none (q _ _ (KeepsAll.refl s) VR.none)⟩
theorem zqk{k:Nat}{v:Bool}:JE cx (.Constant (.bool v) k p) (.bool v):=⟨rfl,fun {G A P F s β ρ O} hr sr=>Does.leaf sr fun Q E q=>wpAny_Constant_bool (q _ _ (KeepsAll.refl s) VR.bool)⟩
theorem zsv{k:Nat}{v:Int}:JE cx (.Constant (.int v) k p) (.int v):=⟨rfl,fun {G A P F s β ρ O} hr sr=>Does.leaf sr fun Q E q=>wpAny_Constant_int (q _ _ (KeepsAll.toks s _) VR.int)⟩
theorem zsr{k:Nat}{v:Str}:JE cx (.Constant (.str v) k p) (.str v):=⟨rfl,fun {G A P F s β ρ O} hr sr=>Does.leaf sr fun Q E q=>wpAny_Constant_str (q _ _ (KeepsAll.toks s _) VR.str)⟩
theorem zst{i:Nat}{n:Str}(h:cx.isLoc i n=true):JE cx (.Name n p) (.loc i):=⟨rfl,fun hr sr=>zta sr hr.fit h⟩
theorem zqh{k:Nat}{n:Str}(h:(cx.gname k == some n && cx.isGlob n)=true):JE cx (.Name n p) (.glob k):=⟨rfl,fun hr sr=>zq8 hr.run.g sr hr.fit (beq_iff_eq.mp (and2 h).1) (and2 h).2⟩
theorem zko{es:CEs}(hl:Nat.ble es.len 1000=true){P:Pg}{ρ:Loc}{O:za}(vs:List V)(O':za)(e:evEs P ρ es O=.ok vs O'):vs.length≤line:=by
 rw[zep es O vs O' e];exact Nat.le_trans (Nat.le_of_ble_eq_true hl) (by decide)
theorem zsq{l:List Expr}{es:CEs}{k:Nat}(h:JEs cx l es)(hl:Nat.ble es.len 1000=true):JE cx (.Tuple l k p) (.tup es):=⟨rfl,fun hr sr=>zs7 (zko hl) (h.d hr sr)⟩
theorem zp4{l:List Expr}{es:CEs}(h:JEs cx l es)(hl:Nat.ble es.len 1000=true):JK cx (.List l p) (.list es):=⟨rfl,fun hr sr k=>zn8 k (zko hl) (h.d hr sr)⟩
theorem zqi:JE cx (.Dict [] [] p) .dict:=⟨rfl,fun hr sr=>zrb sr⟩
theorem zss(h:JE cx x a):JE cx (.UnaryOp .USub x p) (.neg a):=⟨rfl,fun hr sr=>zs8 (h.d hr sr)⟩
theorem j_nt(h:JE cx x a):JE cx (.UnaryOp .Not x p) (.nt a):=⟨rfl,fun hr sr=>d_nt (h.d hr sr)⟩
theorem zqm(h1:JE cx x a)(h2:JE cx y b):JE cx (.BoolOp .And [x,y] p) (.and_ a b):=⟨rfl,fun {G A P F s β ρ O} hr sr=>zoy (rb:=fun O=>evE P ρ b O) (h1.d hr sr) fun s' β' O' sr'=>h2.d hr sr'⟩
theorem zql{r:List Expr}(h1:JE cx x a)(h2:JE cx (.BoolOp .And (y::z::r) p) b):JE cx (.BoolOp .And (x::y::z::r) p) (.and_ a b):=⟨rfl,fun {G A P F s β ρ O} hr sr=>zoy (rb:=fun O=>evE P ρ b O) (h1.d hr sr) fun s' β' O' sr'=>h2.d hr sr'⟩
theorem zsj{op:Bop}{o:Operator}(h1:JE cx x a)(h2:JE cx y b)(ho:ze5 op o=true):JK cx (.BinOp x o y p) (.bin op a b):=⟨rfl,fun {G A P F s β ρ O K} hr sr k=>zrf (rb:=fun O=>evE P ρ b O) k ho (h1.d hr sr) fun s' β' O' sr'=>h2.d hr sr'⟩
theorem zsx{op:Cop}{o:CmpOp}(h1:JE cx x a)(h2:JE cx y b)(ho:jc op o=true):JE cx (.Compare x [o] [y] p) (.cmp op a b):=⟨rfl,fun {G A P F s β ρ O} hr sr=>zte (rb:=fun O=>evE P ρ b O) hr.run.ro ho h2.px.set (h1.d hr sr) fun s' β' O' sr'=>h2.d hr sr'⟩
theorem zne{op1 op2:Cop}{o1 o2:CmpOp}(h1:JE cx x a)(h2:JE cx y b)(h3:JE cx z c)(ho:jc op1 o1=true)(ho2:jc op2 o2=true):JE cx (.Compare x [o1,o2] [y,z] p) (.chain op1 op2 a b c):=
 ⟨rfl,fun {G A P F s β ρ O} hr sr=>zn9 (rb:=fun O=>evE P ρ b O) (rc:=fun O=>evE P ρ c O) hr.run.ro ho ho2 h2.px.set h3.px.set (h1.d hr sr) (fun s' β' O' sr'=>h2.d hr sr') fun s' β' O' sr'=>h3.d hr sr'⟩
theorem zsu(h1:JT cx x a)(h2:JE cx y b)(h3:JE cx z c):JE cx (.IfExp x y z p) (.ite a b c):=
 ⟨rfl,fun {G A P F s β ρ O} hr sr=>ztb (ra:=fun O=>evE P ρ b O) (rb:=fun O=>evE P ρ c O) (h1.d hr sr) (fun s' β' O' sr'=>h2.d hr sr') fun s' β' O' sr'=>h3.d hr sr'⟩
theorem zsw(h1:JE cx x a)(h2:JE cx y b):JE cx (.Subscript x y p) (.idx a b):=⟨rfl,fun {G A P F s β ρ O} hr sr=>ztc (rb:=fun O=>evE P ρ b O) hr.run.ro h2.px.slice (h1.d hr sr) fun s' β' O' sr'=>h2.d hr sr'⟩
structure JP(cx:Cx)(o:Option Expr)(c:CE):Prop where
 d:∀ {G:Gl} {A:Around} {P:Pg} {F:Fm} {s:Shared} {β:List Addr} {ρ:Loc} {O:za},Here G A P F cx→SR G F β ρ O s.heap→Does G F A s β (evalPart o F.env) ((evE P ρ c O).lift ρ) (VRel G F)
theorem zp0:JP cx none .none:=⟨fun hr sr=>zex sr⟩
theorem zpz(h:JE cx x c):JP cx (some x) c:=⟨fun hr sr=>h.d hr sr⟩
theorem znc{lo hi:Option Expr}(h1:JE cx x a)(h2:JP cx lo b)(h3:JP cx hi c):JE cx (.Subscript x (.Slice lo hi none ps) p) (.slice a b c):=
 ⟨rfl,fun {G A P F s β ρ O} hr sr=>zn4 (rl:=fun O=>evE P ρ b O) (rh:=fun O=>evE P ρ c O) (h1.d hr sr) (fun s' β' O' sr'=>h2.d hr sr') fun s' β' O' sr'=>h3.d hr sr'⟩
theorem Here.inner{G:Gl}{A:Around}{P:Pg}{F:Fm}{tgt:CT}{t:Expr}{scope:Scope}(hr:Here G A P F cx)(hk:F.env.scope.kind=.function)(h1:xg scope cx.sc=true)(C D:Addr):Here G A P (zj cx F tgt t scope C D) (cx.inner tgt t scope):=
 ⟨hr.run,zau hr.fit hk h1 C D,hr.fr⟩
theorem zkk{t:Expr}{fs:List Expr}{scope:Scope}{tgt:CT}{it:CI}{ifs:CEs}(hi:JI cx y it)(hf:JIfs (cx.inner tgt t scope) fs ifs)(hx:JE (cx.inner tgt t scope) x c)
 (hc:(xg scope cx.sc && xo (cx.inner tgt t scope).names && chkT (cx.inner tgt t scope) (ownOf scope) tgt t)=true):JK cx (.ListComp x [⟨t,y,fs,0⟩] scope p) (.comp c tgt it ifs):=
 ⟨rfl,fun {G A P F s β ρ O K} hr sr k=>by
   obtain⟨h1,h2,h3⟩:=and3 hc
   show Does G F A s β _ (R.lift ρ ((if P.hd=true then .stuck else _:R za V).bind K)) _
   by_cases hd:P.hd=true
   ·rw[if_pos hd];trivial
   rw[if_neg hd]
   have hh:=hr.run.hm (Bool.eq_false_iff.mpr hd)
   exact zrc (r:=evI P ρ it O) (evT:=fun ρ O=>xd P ρ ifs O) (evX:=fun ρ O=>evE P ρ c O) hr.run.g hh hr.fit h1 h2 h3 hi.px.set (fun C D s' β' ρ' O' sr'=>hf.d (hr.inner sr.fm.kind h1 C D) sr') (fun C D s' β' ρ' O' sr'=>hx.d (hr.inner sr.fm.kind h1 C D) sr') sr (hi.d hh hr sr) (fun _ _ e=>hi.has e) k⟩
theorem zij{P:Pg}{ρ:Loc}{O O':za}{pr:Int×Int}(h:rng a b P ρ O=.ok pr O'):zfe pr:=by
 obtain⟨v,O₁,_,h⟩:=uc h
 obtain⟨w,O₂,_,h⟩:=uc h
 exact (zc6 h).1
theorem zr8(h:JE cx y b)(hg:cx.isGlob "range" = true):JR cx (.Call (.Name "range" ps) [y] [] q) (.int 0) b:=⟨rfl,fun hr sr=>zlz hr.run.g sr hr.fit hg rfl h.px.star (h.d hr sr)⟩
theorem zr7(h1:JE cx x a)(h2:JE cx y b)(hg:cx.isGlob "range" = true):JR cx (.Call (.Name "range" ps) [x,y] [] q) a b:=⟨rfl,fun {G A P F s β ρ O} hr sr=>zly (rb:=fun O=>evE P ρ b O) hr.run.g sr hr.fit hg rfl h1.px.star h2.px.star (h1.d hr sr) fun s' β' O' sr'=>h2.d hr sr'⟩
theorem znl(h:JR cx x a b):JI cx x (.range a b):=⟨h.px,fun hh hr sr=>zdn hr.run.g hh (fun _ _ e=>zij e) (h.d hr sr),fun e=>by obtain⟨_,_,_,e⟩:=uc e;cases e;trivial⟩
theorem i_e(h:JE cx x a):JI cx x (.e a):=⟨h.px,fun hh hr sr=>zl1 hr.run.g hh (h.d hr sr),fun e=>by obtain⟨_,_,_,e⟩:=uc e;exact zj2 e⟩
theorem zqj{f:Nat}{n:Str}{l:List Expr}{es:CEs}(h:JEs cx (x::l) es)(hx:zkd x=true)(hf:(cx.fname f == some n && cx.isGlob n)=true):JE cx (.Call (.Name n p) (x::l) [] q) (.call f es):=
 ⟨rfl,fun {G A P F s β ρ O} hr sr=>zre (fname:=cx.fname) hr.run.g (hr.run.ck A P.hd (Like.refl A) hr.run.hm) hr.fr sr hr.fit (beq_iff_eq.mp (and2 hf).1) (and2 hf).2 (PX.star hx) (h.d hr sr)⟩
theorem zp1{P:Pg}{ρ:Loc}{O:za}:evEs P ρ (.cons a .nil) O=(evE P ρ a O).bind fun v O=>R.ok [v] O:=rfl
theorem zh5{G:Gl}{A:Around}{P:Pg}{f g h:Nat→Option Str}{pr:Prim}(run:Run G A P f g h)(hd:¬(P.hd && !pr.calm)=true):pr.calm=true∨A.handled=none:=by
 cases hc:pr.calm with
 | true=>exact .inl rfl
 | false=>
   rw[hc] at hd
   exact .inr (run.hm (by cases hh:P.hd with | false=>rfl | true=>rw[hh] at hd;exact absurd rfl hd))
theorem zm6{pr:Prim}{n:Str}(h:JE cx y a)(hp:(n == jl pr && pr.plain && cx.isGlob n)=true):JK cx (.Call (.Name n ps) [y] [] q) (.prim pr (.cons a .nil)):=
 ⟨rfl,fun {G A P F s β ρ O K} hr sr k=>by
   obtain⟨h1,h2,h3⟩:=and3 hp
   have:=beq_iff_eq.mp h1;subst this
   show Does G F A s β _ (R.lift ρ ((if (P.hd && !pr.calm)=true then .stuck else _:R za V).bind K)) _
   by_cases hd:(P.hd && !pr.calm)=true
   ·rw[if_pos hd];trivial
   rw[if_neg hd]
   exact zn6 k h2 (zh5 hr.run hd) hr.run.so hr.run.ro hr.run.g sr hr.fit h3 h.px.star (h.d hr sr)⟩
theorem zkz{t:Ty}{n:Str}(h:JE cx y a)(hp:(n == wh t && cx.isGlob "isinstance" && cx.isGlob n)=true):JE cx (.Call (.Name "isinstance" ps) [y,.Name n pz] [] q) (.prim (.isinst t) (.cons a .nil)):=
 ⟨rfl,fun {G A P F s β ρ O} hr sr=>by
   obtain⟨h1,h2,h3⟩:=and3 hp
   have:=beq_iff_eq.mp h1;subst this
   have hd:(P.hd && !(Prim.isinst t).calm)=false:=by cases P.hd <;> rfl
   show Does G F A s β _ (R.lift ρ (if (P.hd && !(Prim.isinst t).calm)=true then .stuck else _:R za V)) _
   rw[hd,if_neg (by decide)]
   exact zl2 hr.run.g sr hr.fit h2 h3 (fun rest=>h.px.star) (h.d hr sr)⟩
theorem znd{pr:Prim}{n:Str}{q':Pos}(h:JE cx y a)(hp:pr=.lenset∨pr=.sortedset)(hg:(n == jl pr && cx.isGlob n && cx.isGlob "set")=true):JE cx (.Call (.Name n ps) [.Call (.Name "set" pz) [y] [] q'] [] q) (.prim pr (.cons a .nil)):=
 ⟨rfl,fun {G A P F s β ρ O} hr sr=>by
   obtain⟨h1,h2,h3⟩:=and3 hg
   have:=beq_iff_eq.mp h1;subst this
   show Does G F A s β _ (R.lift ρ (if (P.hd && !pr.calm)=true then .stuck else _:R za V)) _
   by_cases hd:(P.hd && !pr.calm)=true
   ·rw[if_pos hd];trivial
   rw[if_neg hd]
   have hc:pr.calm=false:=by rcases hp with rfl | rfl <;> rfl
   exact zn7 hp hr.run.se hr.run.ro ((zh5 hr.run hd).resolve_left (by rw[hc];decide)) hr.run.g sr hr.fit h2 h3 h.px.star (h.d hr sr)⟩
theorem zk0(h1:JE cx x a)(h2:JE cx y b)(hm:zc8 x p q=true):JE cx (.Call (.Attribute x "append" p) [y] [] q) (.meth .append a (.cons b .nil)):=
 ⟨rfl,fun {G A P F s β ρ O} hr sr=>by
   have e1:∀ (v:V) (O:za),((evEs P ρ (.cons b .nil) O).bind fun vs O=>meth .append v vs O)=(evE P ρ b O).bind fun u O=>meth .append v [u] O:=fun v O=>by
    rw[zp1,R.bind_assoc];cases evE P ρ b O <;> rfl
   have e2:evE P ρ (.meth .append a (.cons b .nil)) O=(evE P ρ a O).bind fun v O=>if recv .append v O=true then (evE P ρ b O).bind fun u O=>meth .append v [u] O else .stuck:=by
    show ((evE P ρ a O).bind fun v O=>if recv .append v O=true then (evEs P ρ (.cons b .nil) O).bind fun vs O=>meth .append v vs O else .stuck)=_
    simp only[e1]
   rw[e2]
   exact zl3 (rb:=fun O=>evE P ρ b O) hm h2.px.star (h1.d hr sr) fun s' β' O' sr'=>h2.d hr sr'⟩
theorem zqv:JEs cx [] .nil:=⟨fun hr sr=>xp sr⟩
theorem znq{l:List Expr}{es:CEs}(h1:JE cx x a)(h2:JEs cx l es):JEs cx (x::l) (.cons a es):=⟨fun {G A P F s β ρ O pos} hr sr=>yl (g:=fun O=>evEs P ρ es O) h1.px.star (h1.d hr sr) fun s' β' O' sr'=>h2.d hr sr'⟩
theorem znj:JIfs cx [] .nil:=⟨fun hr sr=>zev sr⟩
theorem zk5{l:List Expr}{es:CEs}(h1:JT cx x a)(h2:JIfs cx l es):JIfs cx (x::l) (.cons a es):=⟨fun {G A P F s β ρ O} hr sr=>by
 have:=zdm (rb:=fun O=>xd P ρ es O) (h1.d hr sr) fun s' β' O' sr'=>h2.d hr sr'
 unfold tv at this
 rw[R.bind_assoc] at this
 exact this⟩
noncomputable def zok:Expr→Bool
 | .UnaryOp o _ _=>(match o with
    | .Not=>true
    | _=>false)
 | .BoolOp _ _ _=>true
 | .IfExp _ _ _ _=>true
 | .Compare _ _ _ _=>true
 | _=>false
theorem isTrue_plain{e:Expr}{env:Env}(h:zok e=false):isTrue e env (eval e env)=(do let v ← eval e env;standAt e.pos;holding [v] (truthy v)):=by
 cases e with
 | UnaryOp o x p=>cases o <;> first | rfl | cases h
 | BoolOp o l p=>cases h
 | IfExp a b c p=>cases h
 | Compare a b c p=>cases h
 | _=>rfl
theorem zmr(h:JE cx x c)(ht:zok x=false):JT cx x c:=⟨fun hr sr=>zmq (isTrue_plain ht) (h.d hr sr)⟩
theorem zrw(h:JT cx x a):JT cx (.UnaryOp .Not x p) (.nt a):=⟨fun hr sr=>zrx (h.d hr sr)⟩
theorem vi{G:Gl}{F:Fm}{A:Around}{s:Shared}{β:List Addr}{ρ:Loc}{t:Sem Bool}{r r':R za Bool}(e:r=r')(h:Does G F A s β t (r'.lift ρ) BRel):Does G F A s β t (r.lift ρ) BRel:=e ▸ h
theorem zmo(h1:JT cx x a)(h2:JT cx y b):JT cx (.BoolOp .And [x,y] p) (.and_ a b):=⟨fun {G A P F s β ρ O} hr sr=>
 vi (zjt (evE P ρ a O) fun O=>evE P ρ b O) (ug (rb:=fun O=>tv (evE P ρ b O)) (h1.d hr sr) fun s' β' O' sr'=>
  vi (zh6 (tv (evE P ρ b O'))).symm (ug (rb:=fun O=>R.ok true O) (h2.d hr sr') fun s'' β'' O'' sr''=>zby (op:=.And) sr''))⟩
theorem zmn{r:List Expr}(h1:JT cx x a)(h2:JT cx (.BoolOp .And (y::z::r) p) b):JT cx (.BoolOp .And (x::y::z::r) p) (.and_ a b):=⟨fun {G A P F s β ρ O} hr sr=>
 vi (zjt (evE P ρ a O) fun O=>evE P ρ b O) (ug (rb:=fun O=>tv (evE P ρ b O)) (h1.d hr sr) fun s' β' O' sr'=>h2.d hr sr')⟩
theorem zpd(h1:JT cx x a)(h2:JT cx y b):JT cx (.BoolOp .Or [x,y] p) (.or_ a b):=⟨fun {G A P F s β ρ O} hr sr=>
 vi (zoj (evE P ρ a O) fun O=>evE P ρ b O) (d7 (rb:=fun O=>tv (evE P ρ b O)) (h1.d hr sr) fun s' β' O' sr'=>
  vi (zh6 (tv (evE P ρ b O'))).symm (d7 (rb:=fun O=>R.ok false O) (h2.d hr sr') fun s'' β'' O'' sr''=>zby (op:=.Or) sr''))⟩
theorem zpc{r:List Expr}(h1:JT cx x a)(h2:JT cx (.BoolOp .Or (y::z::r) p) b):JT cx (.BoolOp .Or (x::y::z::r) p) (.or_ a b):=⟨fun {G A P F s β ρ O} hr sr=>
 vi (zoj (evE P ρ a O) fun O=>evE P ρ b O) (d7 (rb:=fun O=>tv (evE P ρ b O)) (h1.d hr sr) fun s' β' O' sr'=>h2.d hr sr')⟩
theorem zpe{op:Cop}{o:CmpOp}(h1:JE cx x a)(h2:JE cx y b)(ho:jc op o=true):JT cx (.Compare x [o] [y] p) (.cmp op a b):=⟨fun {G A P F s β ρ O} hr sr=>zry (rb:=fun O=>evE P ρ b O) hr.run.ro ho h2.px.set (h1.d hr sr) fun s' β' O' sr'=>h2.d hr sr'⟩
theorem zjw{op1 op2:Cop}{o1 o2:CmpOp}(h1:JE cx x a)(h2:JE cx y b)(h3:JE cx z c)(ho:jc op1 o1=true)(ho2:jc op2 o2=true):JT cx (.Compare x [o1,o2] [y,z] p) (.chain op1 op2 a b c):=⟨fun {G A P F s β ρ O} hr sr=>
 zms (rb:=fun O=>evE P ρ b O) (rc:=fun O=>evE P ρ c O) hr.run.ro ho ho2 h2.px.set h3.px.set (h1.d hr sr) (fun s' β' O' sr'=>h2.d hr sr') fun s' β' O' sr'=>h3.d hr sr'⟩
end
section
variable{cx:Cx}{x y z u:Expr}{a b c:CE}{p q ps pz:Pos}
theorem zrz(h:JE cx x a):JS cx (.Return (some x) p) (.ret a):=⟨fun hr sr=>zov (h.d hr.toHere sr)⟩
noncomputable def noCompX:Expr→Bool
 | .ListComp _ _ _ _=>false
 | .SetComp _ _ _ _=>false
 | .DictComp _ _ _ _ _=>false
 | _=>true
theorem noCompX.swaps{e:Expr}(h:noCompX e=true)(t:Option Expr)(n:Nat)(env:Env):swapsWith e t n env=pure false:=
 zdx (fun _ _ _ _ q=>by subst q;cases h) (fun _ _ _ _ q=>by subst q;cases h) (fun _ _ _ _ _ q=>by subst q;cases h) t n env
theorem zps(h:JE cx x a)(hx:noCompX x=true):JS cx (.Expr x p) (.expr a):=⟨fun hr sr=>zra sr.fm.kind (by unfold interactive;rw[sr.fm.kind];rfl) (noCompX.swaps hx _ _ _) (h.d hr.toHere sr)⟩
theorem zhs{h:Bool}{i:Nat}:(h && !(CT.name i).isName)=false:=by cases h <;> rfl
theorem zr2{n:Str}{i:Nat}(h:JE cx x a)(hx:(chkT cx (ownOf cx.sc) (.name i) (.Name n ps) && noCompX x)=true):JS cx (.Assign [.Name n ps] x p) (.asg (.name i) a):=⟨fun {G A P F s β ρ O} hr sr=>by
 obtain⟨h1,h2⟩:=and2 hx
 show Does G F A s β _ (if (P.hd && !(CT.name i).isName)=true then .stuck else _:R (Loc×za) Fl) _
 rw[zhs,if_neg Bool.false_ne_true]
 exact za8 hr.fit hr.own h1 (noCompX.swaps h2 _ _ _) (h.d hr.toHere sr)⟩
noncomputable def unpX:Expr→Bool
 | .Name _ _=>true
 | .Subscript _ _ _=>true
 | .Call _ _ _ _=>true
 | _=>false
theorem zdw{l:List Expr}{k n:Nat}{ps:Pos}{x:Expr}{env:Env}(h:unpX x=true):swapsWithSole [.Tuple l k ps] x n env=pure false∧swappedStores [.Tuple l k ps] x env=pure none:=by
 cases x <;> first | exact⟨rfl,rfl⟩ | cases h
theorem zpt{l:List Expr}{k:Nat}{t:CT}(h:JE cx x a)(hx:(chkT cx (ownOf cx.sc) t (.Tuple l k ps) && unpX x && !t.isName)=true):JS cx (.Assign [.Tuple l k ps] x p) (.asg t a):=⟨fun {G A P F s β ρ O} hr sr=>by
 obtain⟨h1,h2,h3⟩:=and3 hx
 show Does G F A s β _ (if (P.hd && !t.isName)=true then .stuck else _:R (Loc×za) Fl) _
 rw[h3,Bool.and_true]
 by_cases hd:P.hd=true
 ·rw[if_pos hd];trivial
 rw[if_neg hd]
 have e:=zdw (l:=l) (k:=k) (n:=p.line) (ps:=ps) (env:=F.env) h2
 exact zey (hr.run.hm (Bool.eq_false_iff.mpr hd)) hr.fit hr.own h1 e.1 e.2 (h.d hr.toHere sr)⟩
theorem zmb{n:Str}{i:Nat}{t:Expr}{fs:List Expr}{scope:Scope}{tgt:CT}{it:CI}{ifs:CEs}(hi:JI cx y it)(hf:JIfs (cx.inner tgt t scope) fs ifs)(hx:JE (cx.inner tgt t scope) x c)
 (hc:(xg scope cx.sc && xo (cx.inner tgt t scope).names && chkT (cx.inner tgt t scope) (ownOf scope) tgt t)=true) (hn:chkT cx (ownOf cx.sc) (.name i) (.Name n ps)=true)
 {G:Gl} {A:Around} {P:Pg} {F:Fm} {s:Shared} {β:List Addr} {ρ:Loc} {O:za} {K:V→za→R za V} (hr:zib G A P F cx) (sr:SR G F β ρ O s.heap) (hK:Fin2 K) :
 Does G F A s β (exec (.Assign [.Name n ps] (.ListComp x [⟨t,y,fs,0⟩] scope q) p) F.env) ((((evE P ρ (.comp c tgt it ifs) O).bind K).lift ρ).bind (asgR (.name i))) (yv G F):=by
 obtain⟨b,hb⟩ : ∃ b,swapsWith (.ListComp x [⟨t,y,fs,0⟩] scope q) (some (.Name n ps)) p.line F.env=pure b:=⟨_,rfl⟩
 cases b with
 | false=>exact za8 hr.fit hr.own hn hb ((zkk hi hf hx hc).d hr.toHere sr hK)
 | true=>
   obtain⟨h1,h2,h3⟩:=and3 hc
   show Does G F A s β _ ((R.lift ρ ((if P.hd=true then .stuck else _:R za V).bind K)).bind _) _
   by_cases hd:P.hd=true
   ·rw[if_pos hd];trivial
   rw[if_neg hd]
   have hh:=hr.run.hm (Bool.eq_false_iff.mpr hd)
   exact zjd (evT:=fun ρ O=>xd P ρ ifs O) (evX:=fun ρ O=>evE P ρ c O) hr.run.g hh hr.fit hr.own hn h1 h2 h3 hi.px.set (fun C D s' β' ρ' O' sr'=>hf.d (hr.toHere.inner sr.fm.kind h1 C D) sr') (fun C D s' β' ρ' O' sr'=>hx.d (hr.toHere.inner sr.fm.kind h1 C D) sr') sr (hi.d hh hr.toHere sr) (fun _ _ e=>hi.has e) hK hb
theorem zpu{n:Str}{i:Nat}{t:Expr}{fs:List Expr}{scope:Scope}{tgt:CT}{it:CI}{ifs:CEs}(hi:JI cx y it)(hf:JIfs (cx.inner tgt t scope) fs ifs)(hx:JE (cx.inner tgt t scope) x c)
 (hc:(xg scope cx.sc && xo (cx.inner tgt t scope).names && chkT (cx.inner tgt t scope) (ownOf scope) tgt t)=true) (hn:chkT cx (ownOf cx.sc) (.name i) (.Name n ps)=true) :
 JS cx (.Assign [.Name n ps] (.ListComp x [⟨t,y,fs,0⟩] scope q) p) (.asg (.name i) (.comp c tgt it ifs)):=⟨fun {G A P F s β ρ O} hr sr=>by
 have:=zmb hi hf hx hc hn (p:=p) (q:=q) hr sr .plain
 rw[R.bind_ok] at this
 show Does G F A s β _ (if (P.hd && !(CT.name i).isName)=true then .stuck else _:R (Loc×za) Fl) _
 rw[zhs,if_neg Bool.false_ne_true]
 exact this⟩
theorem zr0{l m:List Stmt}{d e:CSs}(h1:JT cx x a)(h2:JSs cx l d)(h3:JSs cx m e):JS cx (.If x l m p) (.ife a d e):=⟨fun {G A P F s β ρ O} hr sr=>
 zox (ga:=fun ρ O=>evSs P d ρ O) (gb:=fun ρ O=>evSs P e ρ O) (h1.d hr.toHere sr) (fun s' β' ρ' O' sr'=>h2.d hr sr') fun s' β' ρ' O' sr'=>h3.d hr sr'⟩
theorem zr1{l:List Stmt}{d:CSs}{t:CT}{it:CI}(h1:JI cx x it)(h2:JSs cx l d)(hc:chkT cx (ownOf cx.sc) t y=true):JS cx (.For y x l [] p) (.for_ t it d):=⟨fun {G A P F s β ρ O} hr sr=>by
 show Does G F A s β _ (if P.hd=true then .stuck else _:R (Loc×za) Fl) _
 by_cases hd:P.hd=true
 ·rw[if_pos hd];trivial
 rw[if_neg hd]
 have hh:=hr.run.hm (Bool.eq_false_iff.mpr hd)
 exact ztd (evb:=fun ρ O=>evSs P d ρ O) hr.run.g hh hr.fit hr.own hc h1.px.set (fun s' β' ρ' O' sr'=>h2.d hr sr') sr (h1.d hh hr.toHere sr) fun _ _ e=>h1.has e⟩
theorem zmy{l:List Stmt}{d:CSs}(h1:JT cx x a)(h2:JSs cx l d):JS cx (.While x l [] p) (.while_ a d):=⟨fun {G A P F s β ρ O} hr sr=>
 zn3 (ev:=fun ρ O=>evE P ρ a O) (evb:=fun ρ O=>evSs P d ρ O) (fun s' β' ρ' O' sr'=>h1.d hr.toHere sr') (fun s' β' ρ' O' sr'=>h2.d hr sr') sr⟩
theorem zpk:JSs cx [] .nil:=⟨fun hr sr=>jx sr⟩
theorem zhb{st:Stmt}{l:List Stmt}{d:CS}{e:CSs}(h1:JS cx st d)(h2:JSs cx l e):JSs cx (st::l) (.cons d e):=⟨fun {G A P F s β ρ O} hr sr=>
 k6 (g:=fun ρ O=>evSs P e ρ O) (h1.d hr sr) fun s' β' ρ' O' sr'=>h2.d hr sr'⟩
end
theorem d9{G:Gl}{P:Pg}{fname gname cname:Nat→Option Str}(g:GOk G P.gval gname)(so:zcu G P)(se:zff G P)(cl:zid G P cname)(A:Around)(call:Bool→Nat→List V→za→R za V)(hd:Bool)(ro:Room A 0)(hm:hd=false→A.handled=none)
 (ck:∀ A' hd',Like A A'→(hd'=false→A'.handled=none)→u8 G A' fname (call hd')):BodyOk G JSs A fname gname cname { P with call:=call,hd:=hd }:=by
 intro F cx c body s β ρ O e1 e2 e3 fit fr top own hc sr
 subst e1;subst e2;subst e3
 exact hc.d ⟨⟨⟨g,ro,hm,ck,so,se,⟨cl.inst,cl.matches_,cl.raise⟩⟩,fit,fr⟩,top,own⟩ sr
section
variable{G:Gl}{fname gname cname:Nat→Option Str}{T:Nat→Option Fn}{P:Pg}
set_option tactic.hygienic true in
theorem go_top(g:GOk G P.gval gname)(fns:zic G JSs fname gname cname T)(so:zcu G P)(se:zff G P)(cl:zid G P cname){k:Nat}{A:Around}(ro:Room A (k+1))(hm:A.handled=none)(hfr:A.frames=some []){s:Shared}(hs:s.heap=G.h₀)
 {f:Nat} {x:Str} (hf:fname f=some x) {vals:List Value} {vs:List V} (rvs:VRs G [sysModules] [] s.heap vals vs) {d:PyData} {O'':za} (hev:ze P T (k+1) false f vs []=.ok (.d d) O'') {Q:Value→Shared→Prop} {E:Value→Shared→Prop}
 (kk:∀ s' val as,s'.gens=s.gens→s'.os=s.os→(∀ b o,s.heap.get? b=some o→s'.heap.get? b=some o)→Reads s'.heap val d as→Q val s') :
 ∀ a,G.mg x=some (.ref a)→wpAny (model G.prog G.w) A (call (.ref a) vals) Q E s:=by
 intro a₀ ha₀
 rw[ze] at hev
 cases hT:T f with
 | none=>rw[hT] at hev;cases hev
 | some fn=>
   obtain⟨a,o,fd,body,names,fo⟩:=(fns f x hf).2 fn hT
   have haa:a=a₀:=by have:=fo.at_.name.symm.trans ha₀;cases this;rfl
   subst haa
   rw[hT] at hev
   dsimp only at hev
   split at hev
   ·rename_i hlen
    obtain⟨p1,p2,p3,p4,p5,k1,k2,k3,k4,k5,n1,n2,n3,n4⟩:=qx fo.chk
    have kp:∀ b o,G.h₀.get? b=some o→s.heap.get? b=some o:=by rw[hs];exact fun _ _ h=>h
    have br:BR G [sysModules] [] [] s.heap:=⟨kp,rfl,.nil,fun _ h=>(nomatch h),fun i a bx h=>by simp at h,fun _ h=>(nomatch h)⟩
    have ou:Out G [sysModules] [] [] s.heap:=⟨⟨fun a ha hs=>absurd (List.mem_singleton.mp ha) hs,List.mem_singleton.mpr rfl,fun h=>(nomatch h)⟩,fun _ _ h=>(nomatch h),fun a ha=>by
     obtain⟨o',es,n,e1,e2⟩:=br.sysAlive
     exact⟨o',by rw[List.mem_singleton.mp ha];exact e1,fun vs n q=>by rw[e2] at q;cases q⟩,fun _ h=>(nomatch h),fun _ h=>(nomatch h)⟩
    have hget:s.heap.get? a=some o:=kp _ _ fo.at_.get
    have hnt:(names.take fn.arity).length=fn.arity:=by rw[List.length_take];omega
    have hbind:bindArgs fd ⟨vals,[]⟩=pure ((names.take fn.arity).zip vals):=q9 p1 p2 p3 p4 p5 (by rw[rvs.length,hnt];exact hlen.1) (n1.sublist (List.take_sublist _ _)) fo.defaults
    have hkind:∀ y∈(names.take fn.arity).zip vals,fd.scope.names.lookup y.1=some .local∨(fd.scope.names.lookup y.1=some .cell∧((cellsFrom (s.heap.objs.size+1) fd.scope.names []).lookup y.1).isSome=true):=fun y hy=>by
     have hy':y.1∈names:=List.mem_of_mem_take (List.of_mem_zip hy).1
     have how:=n4 y.1 hy'
     unfold ownOf at how
     simp only[Bool.or_eq_true,beq_iff_eq] at how
     rcases how with how | how
     ·exact .inl how
     ·exact .inr ⟨how,yd _ _ _ (.inl ((lookup_mem k4).mpr how))⟩
    refine wpAny_call (codeAny_call_cells ro.room hget fo.at_.data (g.nolimit.keeps kp) (Heap.CodeRec.keeps fo.code kp) fo.body_ hbind fo.clos hkind (fun s₁ ic=>?_) k3 k2 k1)
    obtain⟨srC,ka⟩:=zbz fo br ou rvs hlen.1 ic
    have fitC:Fits (xk fd s.heap.objs.size a (yq fn names) [sysModules] []) { names:=yq fn names,sc:=fd.scope,fname:=fname,gname:=gname,cname:=cname }:=⟨rfl,fun _=>rfl,k1⟩
    have frC:FrA (A.deeper (callEnvC fd s.heap.objs.size a)) (xk fd s.heap.objs.size a (yq fn names) [sysModules] []):=⟨_,Around.frames_deeper hfr,fun env he=>by
     have he':=List.mem_singleton.mp he
     subst he'
     exact⟨by show fd.scope.kind≠.module;rw[k1];decide,_,rfl,List.mem_cons_self⟩⟩
    have topC:TopA (A.deeper (callEnvC fd s.heap.objs.size a)) (xk fd s.heap.objs.size a (yq fn names) [sysModules] []):=⟨⟨[],Around.frames_deeper hfr⟩,_,rfl⟩
    have roD:=ro.deeper (callEnvC fd s.heap.objs.size a)
    have db:=d9 g so se cl (A.deeper (callEnvC fd s.heap.objs.size a)) (ze P T k) false ⟨by have:=roD.depth;omega,by have:=roD.units;omega,roD.guards⟩ (fun _=>hm) (fun A' hd' lk hm'=>ze4 g fns (d9 g so se cl) k A' hd' (roD.like lk) hm')
     _ _ fn.body body s₁ [] _ [] rfl rfl rfl fitC frC topC (fun _ h=>h) fo.js srC
    unfold evFn at hev
    cases he:evSs { P with call:=ze P T k,hd:=false } fn.body (vs.map some++List.replicate (fn.slots - fn.arity) none) [] with
    | stuck=>rw[he] at hev;cases hev
    | ok fl S=>
      rw[he] at hev db
      have fin:∀ (s':Shared) (β':List Addr) (val:Value) (v:V),Step (xk fd s.heap.objs.size a (yq fn names) [sysModules] []).W [] s₁ s' β'→SR G (xk fd s.heap.objs.size a (yq fn names) [sysModules] []) β' S.1 S.2 s'.heap →
       VR G (xk fd s.heap.objs.size a (yq fn names) [sysModules] []).B β' s'.heap val v→Mine.fin 0 fn.keep v S.2=.ok (.d d) O''→Q val s':=by
       intro s' β' val v st srE rv hf
       obtain⟨β'',q1,q2,q3,as,q4,q5⟩:=zlc srE.br (N:=[sysModules]) (fun a ha=>List.mem_append_right _ ha) srE.fm.notBox st.pre rfl rv hf
       exact kk s' val as (st.gens.trans ka.gens) (st.os.trans ka.os) (by rw[hs];exact srE.br.keep) q4
      refine db _ _ fun s' β' fl' st srE rf=>?_
      cases fl with
      | ret v=>
        obtain⟨val,rfl,rv⟩:=rf
        exact fin s' β' val v st srE rv hev
      | next=>
        have rf:fl'=.next:=rf
        subst rf
        exact fin s' β' .none (.d .none) st srE VR.none hev
   ·cases hev
end
noncomputable def zgm(p:Program)(fname:Nat→Option Str)(T:Nat→Option Fn)(slots:Nat→List Str)(at_:Nat→Nat)(f:Nat):Bool:=match fname f,T f,(recsOf p)[at_ f]? with
 | some x,some fn,some d=>d.name == x && zh4 fn (slots f) d.params d.scope
 | _,_,_=>false
noncomputable def zbj(p:Program)(fname gname cname:Nat→Option Str)(T:Nat→Option Fn)(slots:Nat→List Str)(at_:Nat→Nat):Prop:=
 ∀ f fn d,T f=some fn→(recsOf p)[at_ f]?=some d→JSs { names:=yq fn (slots f),sc:=d.scope,fname,gname,cname } d.body fn.body
set_option tactic.hygienic true in
theorem zqr{G:Gl}{p:Program}{loose:List Str}{mean:ExcName→Option Value}{fname gname cname:Nat→Option Str}{T:Nat→Option Fn}{slots:Nat→List Str}{at_:Nat→Nat}(t:Top p loose mean G.mg G.mb G.h₀)(n:Nat)(h0:∀ f,n≤f→fname f=none)
 (h:(List.range n).all (zgm p fname T slots at_)=true) (hb:zbj p fname gname cname T slots at_):zic G JSs fname gname cname T:=by
 intro f x hf
 have hn:f < n:=by
  rcases Nat.lt_or_ge f n with h | h
  ·exact h
  ·rw[h0 f h] at hf;cases hf
 have hh:=List.all_eq_true.mp h f (List.mem_range.mpr hn)
 unfold zgm at hh
 rw[hf] at hh
 split at hh
 ·rename_i x' fn d e1 e2 e3
  cases e1
  obtain⟨q1,q2⟩:=and2 hh
  have hx:d.name=x:=beq_iff_eq.mp q1
  obtain⟨a,o,pm,code,doc,h1,h2,h3,h4⟩:=t.fn d (List.mem_of_getElem? e3)
  rw[hx] at h1
  exact⟨⟨a,o,_,h1,h2,h3⟩,fun fn' hfn'=>by
   rw[e2] at hfn';cases hfn'
   exact⟨a,o,_,_,slots f,⟨⟨h1,h2,h3⟩,h4,rfl,rfl,rfl,rfl,rfl,q2,hb f fn d e2 e3⟩⟩⟩
 ·cases hh
noncomputable def zl8(K:W.Frag):Bool:=bis.all fun p=>W.nsIn K mainGlobals p.1 == some none && bootBuiltins p.1 == some p.2 && p.1 != "__name__"
theorem zce{h:Heap}:∀ {is:List Int} {vs:List Value} {as:List Addr},ReadsAll h vs (is.map .int) as→as=[]
 | [],_,_,.nil=>rfl
 | _::_,_,_,.cons r rs=>by cases r;rw[zce rs];rfl
theorem zfu{h:Heap}{is:List Int}{a:Addr}{rs:List Addr}{m:Str→Option Value}(hm:h.Ns sysModules m)(r:Reads h (.ref a) (.list (is.map .int)) rs):sysModules∉rs:=by
 cases r with
 | list h1 h2 h3 h4=>
   rw[zce h4]
   intro hs
   have e:sysModules=a:=List.mem_singleton.mp hs
   obtain⟨o,es,ep,q1,q2,_⟩:=hm
   rw[e,h1] at q1;cases q1
   rw[h3] at q2;cases q2
end Mine
end
section
namespace Mine
open PySem PyProof.Rows PySem.W
noncomputable def lexI:List Int→List Int→Bool
 | [],[]=>false
 | [],_::_=>true
 | _::_,[]=>false
 | x::xs,y::ys=>if x=y then lexI xs ys else decide (x < y)
section
variable{prog:Program}{w:World}{A:Around}{E:Value→Shared→Prop}{s:Shared}
theorem zes{x y:Int}{t u:Tok}{Q:Bool→Shared→Prop}(hu:A.units < cLine)(h:Q (decide (x=y)) s):wpAny (model prog w) A (eqBool (.int x t) (.int y u)) Q E s:=by
 have:=SeqAt.eqBoolOverData prog w A E s (.int x t) (.int y u) (.int x) (.int y) [] [] Q (.int x t) (.int y u) rfl rfl (by show A.units+min 0 0 < cLine;simpa using hu)
 refine this ?_
 exact h
theorem zbk{a b:Addr}{oa ob:Obj}{xs ys:Array Value}{na nb:Nat}{x y:List Int}{P:PySem.Fin→Shared→Prop}(hu:A.units < cLine)(hoa:s.heap.get? a=some oa)(hca:oa.cls=.type "tuple")(hda:oa.data=.seq xs na)(hia:IntsAre xs.toList x)
 (hob:s.heap.get? b=some ob) (hcb:ob.cls=.type "tuple") (hdb:ob.data=.seq ys nb) (hib:IntsAre ys.toList y) (h:P (.done (.ret (.bool (lexI x y)))) s) :
 wpAny (model prog w) A (Builtin.«tuple.__lt__» ⟨[.ref a,.ref b],[]⟩) P E s:=by
 have hTb:s.TypeIs (.ref b) "tuple":=⟨ob,hob,hcb⟩
 show wpAny _ _ (isInstance (.ref b) (.type "tuple") >>= _) _ _ s
 refine wpAny_bind (wpAny_isInstance hTb isSubtype_tuple_tuple ?_)
 simp only[Bool.not_true,Bool.false_eq_true,if_false]
 refine wpAny_bind (wpAny_tupleItemsOf hoa hda ?_)
 refine wpAny_bind (wpAny_tupleItemsOf hob hdb ?_)
 refine wpAny_bind ?_
 refine wpAny_forIn_list _
  (fun rest r s'=>r.1=none∧s'=s∧∃ x' y' xs' ys',rest=List.zip xs' ys'∧IntsAre xs' x'∧IntsAre ys' y'∧lexI x' y'=lexI x y∧(decide (xs'.length < ys'.length))=(decide (xs.size < ys.size)))
  _ ?_ ?_ _ _ ⟨rfl,rfl,x,y,xs.toList,ys.toList,rfl,hia,hib,rfl,by simp⟩
 ·rintro⟨u,v⟩ rest r s' ⟨hr,rfl,x',y',xs',ys',hz,hx',hy',hdec,hlen⟩
  cases hx' with
  | nil=>simp at hz
  | cons k1 t1 hx''=>
    cases hy' with
    | nil=>simp at hz
    | cons k2 t2 hy''=>
      simp only[List.zip_cons_cons,List.cons.injEq,Prod.mk.injEq] at hz
      obtain⟨⟨rfl,rfl⟩,rfl⟩:=hz
      refine wpAny_bind (zes hu ?_)
      by_cases hk:k1=k2
      ·subst hk
       rw[decide_eq_true rfl]
       simp only[Bool.not_true,Bool.false_eq_true,if_false]
       refine wpAny_pure ⟨rfl,rfl,_,_,_,_,rfl,hx'',hy'',?_,by simpa using hlen⟩
       rw[← hdec]
       simp[lexI]
      ·rw[decide_eq_false hk]
       simp only[Bool.not_false,if_true]
       have hf:lexI x y=decide (k1 < k2):=by rw[← hdec];simp[lexI,hk]
       rw[hf] at h
       refine wpAny_bind (wpAny_rule (wpAny_bind ?_))
       refine wpAny_lt_int (A:=A) ?_
       exact wpAny_bind (wpAny_pure (wpAny_pure (wpAny_pure h)))
 ·rintro⟨r1,r2⟩ s' ⟨hr,rfl,x',y',xs',ys',hz,hx',hy',hdec,hlen⟩
  simp only at hr
  subst hr
  refine wpAny_pure ?_
  have hfin:decide (xs.size < ys.size)=lexI x y:=by
   rw[← hdec,← hlen]
   cases hx' with
   | nil=>
     cases hy' with
     | nil=>simp[lexI]
     | cons _ _ _=>simp[lexI]
   | cons _ _ _=>
     cases hy' with
     | nil=>simp[lexI]
     | cons _ _ _=>simp at hz
  show P (.done (.ret (.bool (decide (xs.size < ys.size))))) s'
  rw[hfin];exact h
theorem zir{a b:Addr}{oa ob:Obj}{xs ys:Array Value}{na nb:Nat}{x y:List Int}{Q:Value→Shared→Prop}(hu:A.units+1 < cLine)(hoa:s.heap.get? a=some oa)(hca:oa.cls=.type "tuple")(hda:oa.data=.seq xs na)(hia:IntsAre xs.toList x)
 (hob:s.heap.get? b=some ob) (hcb:ob.cls=.type "tuple") (hdb:ob.data=.seq ys nb) (hib:IntsAre ys.toList y) (h:Q (.bool (lexI x y)) s):wpAny (model prog w) A (compareOp .Lt (.ref a) (.ref b)) Q E s:=by
 show wpAny _ _ (richCompare .Lt (.ref a) (.ref b)) Q E s
 have hTa:s.TypeIs (.ref a) "tuple":=⟨oa,hoa,hca⟩
 have hTb:s.TypeIs (.ref b) "tuple":=⟨ob,hob,hcb⟩
 exact wpAny_richCompare_same_room (op:=.Lt) hTa hTb F.slot_tuple_lt (wpAny_call_entry F.slot_tuple_lt hTa F.entry_tuple_lt (zbk (A:=A.in1) hu hoa hca hda hia hob hcb hdb hib ⟨_,rfl,(fun e=>nomatch e),h⟩) (F.args_tuple_lt_2 _ _)) (by omega)
noncomputable def pe{α:Type}(lt:Nat→Nat→Option Bool):KasT α→Option α
 | .ret a=>some a
 | .ask i j k=>match lt i j with
   | some b=>pe lt (k b)
   | none=>none
theorem zkv{α:Type}{cmp:Nat→Nat→(Bool→Shared→Prop)→Shared→Prop}{lt:Nat→Nat→Option Bool}{s:Shared}(hc:∀ i j b (C:Bool→Shared→Prop),lt i j=some b→C b s→cmp i j C s){Q:α→Shared→Prop}{a:α}(hq:Q a s) :
 ∀ (t:KasT α),pe lt t=some a→t.kasWp cmp Q s
 | .ret b,h=>by cases h;exact hq
 | .ask i j k,h=>by
   unfold pe at h
   cases hl:lt i j with
   | none=>rw[hl] at h;cases h
   | some b=>
     rw[hl] at h
     exact hc i j b _ hl (zkv hc hq (k b) h)
theorem zif{a:Addr}{vs:List Value}{n:Nat}{κ:SortKind}{lt:Nat→Nat→Option Bool}{out:List Value}{P:PySem.Fin→Shared→Prop}(ho:s.heap.get? a=some (seqObj "list" vs.toArray n))(h64:vs.length < 64)
 (hk:∀ (s':Shared),(∀ b o,b≠a→s.heap.get? b=some o→s'.heap.get? b=some o)→2≤vs.length→∀ (Q:SortKind→Shared→Prop),Q κ s'→wpAny (model prog w) A (keyKind' vs.toArray) Q E s')
 (hc:∀ (s':Shared),(∀ b o,b≠a→s.heap.get? b=some o→s'.heap.get? b=some o)→∀ i j b (C:Bool→Shared→Prop),lt i j=some b→C b s'→wpAny (model prog w) A (keyLt' κ (vs.getD i Value.none) (vs.getD j Value.none)) C (fun _ _=>False) s')
 (hev:(vs.length < 2∧out=vs)∨(2≤vs.length∧∃ p,pe lt (kas_sort vs.length)=some p∧out=p.toList.map fun i=>vs.getD i Value.none))
 (h:P (.done (.ret .none)) { s with heap:=sortedHeap s.heap a vs out.toArray }):wpAny (model prog w) A (Builtin.«list.sort» ⟨[.ref a],[]⟩) P E s:=by
 rw[list_sort_plain]
 have ha:a < s.heap.objs.size:=Heap.lt_size ho
 refine wpAny_bind (listItems_at ho rfl ?_)
 refine wpAny_bind (listUpdate_at ho rfl ?_ (by rw[List.size_toArray,sizeLine_eq];omega) (Nat.zero_le _))
 obtain ⟨e1,ho1⟩ : ∃ e1,(s.heap.update a (Obj.mapSeq fun _=>#[])).get? a=some (seqObj "list" #[] e1):=⟨_,get?_update_seq ho (fun _=>#[])⟩
 refine wpAny_bind (seqEpoch_at ho1 rfl ?_)
 refine wpAny_bind (wpAny_newTuple ?_ (by show vs.length≤_;rw[sizeLine_eq];omega))
 refine wpAny_bind (wpAny_newList ?_ (Nat.zero_le _))
 refine wpAny_holding ?_
 have ho6:(((s.heap.update a (Obj.mapSeq fun _=>#[])).push (seqObj "tuple" vs.toArray 0)).push (seqObj "list" #[] 0)).get? a=some (seqObj "list" #[] e1):=by
  rw[Heap.get?_push_ne _ _ _ (by rw[size_push',Heap.size_update];exact Nat.ne_of_lt (Nat.lt_succ_of_lt ha)),Heap.get?_push_ne _ _ _ (by rw[Heap.size_update];exact Nat.ne_of_lt ha)]
  exact ho1
 show wpAny (model prog w) A _ P E { s with heap:=((s.heap.update a (Obj.mapSeq fun _=>#[])).push (seqObj "tuple" vs.toArray 0)).push (seqObj "list" #[] 0) }
 have keep:∀ b o,b≠a→s.heap.get? b=some o→(((s.heap.update a (Obj.mapSeq fun _=>#[])).push (seqObj "tuple" vs.toArray 0)).push (seqObj "list" #[] 0)).get? b=some o:=fun b o hb e=>
  Heap.get?_push_of_some _ (Heap.get?_push_of_some _ ((Heap.get?_update_ne _ _ _ _ hb).trans e))
 dsimp only
 have hsz:vs.toArray.size=vs.length:=by simp
 rcases hev with ⟨h2,hout⟩ | ⟨h2,p,hp,rfl⟩
 ·rw[hout] at h
  have h2':vs.toArray.size < 2:=by rw[hsz];exact h2
  rw[if_pos h2',if_pos h2']
  refine wpAny_bind (wpAny_pure ?_)
  rw[StateT.run_pure]
  refine wpAny_bind (wpAny_pure ?_)
  dsimp only
  refine wpAny_bind (seqEpoch_at ho6 rfl ?_)
  have hmap:Array.map (fun x=>x.2) (arrOf (SortSt.mk' general' (vs.toArray.zip vs.toArray) #[] 7 none))=vs.toArray:=by
   show Array.map (fun x=>x.2) (vs.toArray.zip vs.toArray)=vs.toArray
   apply Array.toList_inj.mp
   simp[List.map_snd_zip]
  rw[hmap]
  refine wpAny_bind (listUpdate_at ho6 rfl ?_ (Nat.zero_le _) (by rw[List.size_toArray,sizeLine_eq];omega))
  simp only[bne_self_eq_false,Bool.false_eq_true,if_false]
  exact wpAny_pure h
 ·have h2':¬ vs.toArray.size < 2:=by rw[hsz];omega
  rw[if_neg h2',if_neg h2']
  refine wpAny_bind (hk _ keep h2 _ ?_)
  refine wpAny_bind (wpAny_mono (kat_run (ks:=vs) (Q:=fun st' s'=>s' = { s with heap:=((s.heap.update a (Obj.mapSeq fun _=>#[])).push (seqObj "tuple" vs.toArray 0)).push (seqObj "list" #[] 0) }∧p.size=vs.length∧arrOf st'=p.map (kas_item (vs.toArray.zip vs.toArray))∧failedOf st'=none)
   (G:=fun q s'=>q=p∧s' = { s with heap:=((s.heap.update a (Obj.mapSeq fun _=>#[])).push (seqObj "tuple" vs.toArray 0)).push (seqObj "list" #[] 0) }) rfl h2 h64 (fun q st' s' a1 a2 a3 a4=>by obtain ⟨rfl,rfl⟩:=a4;exact ⟨rfl,a1,a2,a3⟩)
   (zkv (fun i j b C hl hC=>hc _ keep i j b C hl hC) ⟨rfl,rfl⟩ _ hp)) ?_ fun _ _ e=>e)
  rintro⟨⟨⟩,st'⟩ s' ⟨rfl,hps,har,hf⟩
  dsimp only
  refine wpAny_bind (seqEpoch_at ho6 rfl ?_)
  rw[kat_snds rfl har]
  refine wpAny_bind (listUpdate_at ho6 rfl ?_ (Nat.zero_le _) (by rw[List.size_toArray,List.length_map,Array.length_toList,hps,sizeLine_eq];omega))
  rw[hf]
  simp only[bne_self_eq_false,Bool.false_eq_true,if_false]
  exact wpAny_pure h
theorem gj{h:Heap}{a:Addr}{vs out:List Value}{n:Nat}(ho:h.get? a=some (seqObj "list" vs.toArray n)) :
 (∀ b o,b≠a→h.get? b=some o→(sortedHeap h a vs out.toArray).get? b=some o)∧∃ c,(sortedHeap h a vs out.toArray).get? a=some (seqObj "list" out.toArray c):=by
 have ha:a < h.objs.size:=Heap.lt_size ho
 obtain ⟨e1,ho1⟩ : ∃ e1,(h.update a (Obj.mapSeq fun _=>#[])).get? a=some (seqObj "list" #[] e1):=⟨_,get?_update_seq ho (fun _=>#[])⟩
 have ho6:(((h.update a (Obj.mapSeq fun _=>#[])).push (seqObj "tuple" vs.toArray 0)).push (seqObj "list" #[] 0)).get? a=some (seqObj "list" #[] e1):=by
  rw[Heap.get?_push_ne _ _ _ (by rw[size_push',Heap.size_update];exact Nat.ne_of_lt (Nat.lt_succ_of_lt ha)),Heap.get?_push_ne _ _ _ (by rw[Heap.size_update];exact Nat.ne_of_lt ha)]
  exact ho1
 refine⟨fun b o hb e=>?_,_,get?_update_seq ho6 fun _=>out.toArray⟩
 unfold sortedHeap
 rw[Heap.get?_update_ne _ _ _ _ hb]
 exact Heap.get?_push_of_some _ (Heap.get?_push_of_some _ ((Heap.get?_update_ne _ _ _ _ hb).trans e))
theorem zd1{l:Addr}{vs:List Value}{κ:SortKind}{lt:Nat→Nat→Option Bool}{out:List Value}{Q:Value→Shared→Prop}(hl:s.heap.IsList l vs.toArray)(h64:vs.length < 64)
 (hk:∀ (s':Shared),(∀ b o,s.heap.get? b=some o→s'.heap.get? b=some o)→2≤vs.length→∀ (Q:SortKind→Shared→Prop),Q κ s'→wpAny (model prog w) A.in1.in1 (keyKind' vs.toArray) Q (fun _ _=>False) s')
 (hc:∀ (s':Shared),(∀ b o,s.heap.get? b=some o→s'.heap.get? b=some o)→∀ i j b (C:Bool→Shared→Prop),lt i j=some b→C b s'→wpAny (model prog w) A.in1.in1 (keyLt' κ (vs.getD i Value.none) (vs.getD j Value.none)) C (fun _ _=>False) s')
 (hev:(vs.length < 2∧out=vs)∨(2≤vs.length∧∃ p,pe lt (kas_sort vs.length)=some p∧out=p.toList.map fun i=>vs.getD i Value.none))
 (h:∀ D h' c,s.heap.get? D=none→(∀ b o,s.heap.get? b=some o→h'.get? b=some o)→h'.get? D=some (seqObj "list" out.toArray c)→Q (.ref D) { s with heap:=h' }) :
 wpAny (model prog w) A (call (.builtin "sorted") [.ref l]) Q E s:=by
 refine Calls.call_function_entry kind_sorted plain_sorted entry_sorted (args_sorted1 _) ?_
 unfold Builtin.«sorted»
 refine wpAny_bind (m:=checkCount "sorted" 1 1 _) (wpAny_pure ?_)
 refine wpAny_bind (collect_list hl ?_ (by rw[sizeLine_eq];omega))
 refine wpAny_bind (wpAny_newList ?_ (by rw[sizeLine_eq];omega))
 have hsz:((s.heap.push (seqObj "list" #[] 0)).update s.heap.objs.size (Obj.mapSeq (·++vs.toArray))).objs.size=s.heap.objs.size+1:=by
  rw[Heap.size_update,size_push']
 have hoL:(((s.heap.push (seqObj "list" #[] 0)).update s.heap.objs.size (Obj.mapSeq (·++vs.toArray))).push (seqObj "list" vs.toArray 0)).get? (s.heap.objs.size+1)=some (seqObj "list" vs.toArray 0):=by
  rw[← hsz];exact Heap.get?_push_size _ rfl
 have keep:∀ b o,s.heap.get? b=some o→(((s.heap.push (seqObj "list" #[] 0)).update s.heap.objs.size (Obj.mapSeq (·++vs.toArray))).push (seqObj "list" vs.toArray 0)).get? b=some o:=fun b o q=>by
  have hlt:b < s.heap.objs.size:=Heap.lt_size q
  rw[Heap.get?_push_ne _ _ _ (by rw[hsz];exact Nat.ne_of_lt (Nat.lt_succ_of_lt hlt)),Heap.get?_update_ne _ _ _ _ (Nat.ne_of_lt hlt),Heap.get?_push_ne _ _ _ (Nat.ne_of_lt hlt)]
  exact q
 have ne:∀ b o,s.heap.get? b=some o→b≠s.heap.objs.size+1:=fun b o q=>Nat.ne_of_lt (Nat.lt_succ_of_lt (Heap.lt_size q))
 show wpAny _ _ _ _ _ { s with heap:=((s.heap.push (seqObj "list" #[] 0)).update s.heap.objs.size (Obj.mapSeq (·++vs.toArray))).push (seqObj "list" vs.toArray 0) }
 rw[hsz]
 obtain⟨k1,c,k2⟩:=gj (out:=out) hoL
 refine wpAny_bind (wpAny_holding (wpAny_call_entry slot_list_sort ⟨_,hoL,rfl⟩ entry_list_sort ?body (args_list_sort _)))
 case body=>
  refine wpAny_mono (zif (E:=fun _ _=>False) (P:=fun r s'=>r=.done (.ret .none)∧s'=_) hoL h64 (fun s' hk' h2 Q q=>hk s' (fun b o e=>hk' b o (ne b o e) (keep b o e)) h2 Q q) (fun s' hk' i j b C hl hC=>hc s' (fun b o e=>hk' b o (ne b o e) (keep b o e)) i j b C hl hC) hev ⟨rfl,rfl⟩) (fun r s' hr=>?_) fun _ _ x=>x.elim
  obtain⟨rfl,rfl⟩:=hr
  exact⟨_,rfl,wpAny_pure ⟨_,rfl,h _ _ c (Heap.get?_none_of_le (Nat.le_succ _)) (fun b o e=>k1 b o (ne b o e) (keep b o e)) k2⟩⟩
end
noncomputable def zbx:PyData→Option (List Int)
 | .tuple a=>Mine.intsOf a
 | _=>none
noncomputable def zon:List PyData→Option (List Int×List Int)
 | [x,y]=>(zbx x).bind fun a=>(zbx y).map fun b=>(a,b)
 | _=>none
noncomputable def pairOf:PyData→Option (List Int×List Int)
 | .tuple xs=>zon xs
 | _=>none
noncomputable def ltP(p q:List Int×List Int):Bool:=if p.1=q.1 then (if p.2=q.2 then false else lexI p.2 q.2) else lexI p.1 q.1
noncomputable def ltAt(ps:List (List Int×List Int))(i j:Nat):Option Bool:=match ps[i]?,ps[j]? with
 | some p,some q=>some (ltP p q)
 | _,_=>none
noncomputable def ki:List PyData→Option (List (List Int×List Int))
 | []=>some []
 | x::r=>(pairOf x).bind fun p=>(ki r).map (p::·)
noncomputable def zdz(xs:List PyData):Option (List PyData):=(ki xs).bind fun ps=>if xs.length < 2 then some xs else (pe (ltAt ps) (kas_sort xs.length)).map fun p=>p.toList.map fun i=>xs.getD i .none
theorem lays:∀ is:List Int,PyData.canLayAll0 (is.map .int)=true
 | []=>rfl
 | _::is=>lays is
theorem qr:∀ a b:List Int,PyData.eqvAll (a.map .int) (b.map .int)=decide (a=b)
 | [],[]=>rfl
 | [],_::_=>rfl
 | _::_,[]=>rfl
 | x::a,y::b=>by
   show (decide (x=y) && PyData.eqvAll (a.map .int) (b.map .int))=_
   rw[qr a b]
   by_cases h:x=y <;> by_cases h':a=b <;> simp[h,h']
theorem xe:∀ a:List Int,PyData.depthAll (a.map .int)≤0
 | []=>Nat.le_refl 0
 | _::a=>Nat.max_le.mpr ⟨Nat.le_refl 0,xe a⟩
theorem zeg{a:List PyData}{x:List Int}(h:Mine.intsOf a=some x):PyData.canLayAll0 a=true:=by rw[ints_length h];exact lays x
theorem zk3{a b:List PyData}{x y:List Int}(h1:Mine.intsOf a=some x)(h2:Mine.intsOf b=some y):PyData.eqvAll a b=decide (x=y):=by rw[ints_length h1,ints_length h2];exact qr x y
theorem zgi{a:List PyData}{x:List Int}(h:Mine.intsOf a=some x):PyData.depthAll a≤0:=by rw[ints_length h];exact xe x
inductive TupI(h:Heap)(b:Addr)(p:List Int):Prop
 | mk (o:Obj) (n:Nat) (vs:Array Value) (g1:h.get? b=some o) (g2:o.cls=.type "tuple") (g3:o.data=.seq vs n) (g4:IntsAre vs.toList p) (xs:List PyData) (as:List Addr) (r:Reads h (.ref b) (.tuple xs) as) (i:Mine.intsOf xs=some p)
inductive PairAt(h:Heap)(v:Value)(p:List Int×List Int):Prop
 | mk (a b c:Addr) (o:Obj) (n:Nat) (e:v=.ref a) (h1:h.get? a=some o) (h2:o.cls=.type "tuple") (h3:o.data=.seq #[.ref b,.ref c] n) (t1:TupI h b p.1) (t2:TupI h c p.2)
theorem zcw{h:Heap}{v:Value}{x:PyData}{as:List Addr}{p:List Int}(r:Reads h v x as)(e:zbx x=some p):∃ b,v=.ref b∧TupI h b p:=by
 cases x <;> first | (cases e;done) | skip
 have r':=r
 cases r with
 | tuple h1 h2 h3 h4=>exact⟨_,rfl,_,_,_,h1,h2,h3,ints_get h4 e,_,_,r',e⟩
theorem zin{xs:List PyData}{p:List Int×List Int}(e:zon xs=some p):∃ x y,xs=[x,y]∧zbx x=some p.1∧zbx y=some p.2:=by
 cases xs with
 | nil=>cases e
 | cons x xs=>cases xs with
   | nil=>cases e
   | cons y xs=>cases xs with
     | cons _ _=>cases e
     | nil=>
       obtain⟨a,h1,e⟩:=Option.bind_eq_some_iff.mp e
       obtain⟨b,h2,rfl⟩:=Option.map_eq_some_iff.mp e
       exact⟨x,y,rfl,h1,h2⟩
set_option tactic.hygienic true in
theorem zm1{h:Heap}{v:Value}{x:PyData}{as:List Addr}{p:List Int×List Int}(r:Reads h v x as)(e:pairOf x=some p):PairAt h v p:=by
 cases x <;> first | (cases e;done) | skip
 obtain⟨x,y,rfl,hx,hy⟩:=zin e
 cases r with
 | tuple h1 h2 h3 h4=>
   rename_i ad o vs n
   obtain⟨v1,v2,bs,cs,hvs,r1,_,r2,_⟩:=w4 (P:=fun _=>True) h4 fun _ _=>trivial
   obtain⟨b,rfl,t1⟩:=zcw r1 hx
   obtain⟨c,rfl,t2⟩:=zcw r2 hy
   exact⟨_,b,c,o,n,rfl,h1,h2,by rw[h3,Array.toList_inj.mp (show vs.toList = #[Value.ref b,.ref c].toList from hvs)],t1,t2⟩
theorem TupI.keeps{h h':Heap}{b:Addr}{p:List Int}(hk:∀ b o,h.get? b=some o→h'.get? b=some o)(x:TupI h b p):TupI h' b p:=
 let ⟨o,n,vs,g1,g2,g3,g4,xs,as,r,i⟩:=x;⟨o,n,vs,hk _ _ g1,g2,g3,g4,xs,as,ya hk r,i⟩
theorem PairAt.keeps{h h':Heap}{v:Value}{p:List Int×List Int}(hk:∀ b o,h.get? b=some o→h'.get? b=some o)(x:PairAt h v p):PairAt h' v p:=
 let ⟨a,b,c,o,n,e,h1,h2,h3,t1,t2⟩:=x;⟨a,b,c,o,n,e,hk _ _ h1,h2,h3,t1.keeps hk,t2.keeps hk⟩
theorem pairs_at{h:Heap}{vs:List Value}{xs:List PyData}{as:List Addr}(r:ReadsAll h vs xs as):∀ {ps:List (List Int×List Int)},ki xs=some ps→vs.length=ps.length∧∀ (i:Nat) p,ps[i]?=some p→∃ v,vs[i]?=some v∧PairAt h v p:=by
 refine z6 (motive:=fun vs xs _=>∀ {ps:List (List Int×List Int)},ki xs=some ps→vs.length=ps.length∧∀ (i:Nat) p,ps[i]?=some p→∃ v,vs[i]?=some v∧PairAt h v p) ?_ ?_ r
 ·intro ps e;cases e;exact⟨rfl,fun i p h=>by rw[List.getElem?_nil] at h;cases h⟩
 ·intro v d as vs ds bs r _ ih ps e
  obtain⟨p,hx,e⟩:=Option.bind_eq_some_iff.mp e
  obtain⟨q,hr,rfl⟩:=Option.map_eq_some_iff.mp e
  obtain⟨l,k⟩:=ih hr
  refine⟨congrArg (· + 1) l,fun i p' h=>?_⟩
  cases i with
  | zero=>have h:some p=some p':=h
          cases h;exact⟨v,rfl,zm1 r hx⟩
  | succ i=>exact k i p' h
section
variable{prog:Program}{w:World}{A:Around}{E:Value→Shared→Prop}{s:Shared}
theorem zhw{b b':Addr}{p q:List Int}{C:Bool→Shared→Prop}(hu:A.units+10 < cLine)(t:TupI s.heap b p)(t':TupI s.heap b' q)(h:C (decide (p=q)) s):wpAny (model prog w) A (eqBool (.ref b) (.ref b')) C E s:=by
 obtain⟨_,_,_,_,_,_,_,xs,as,r,i⟩:=t
 obtain⟨_,_,_,_,_,_,_,xs',as',r',i'⟩:=t'
 have d1:(PyData.tuple xs).depth≤1:=Nat.succ_le_succ (zgi i)
 refine SeqAt.eqBoolOverData prog w A _ s _ _ _ _ _ _ _ r r' (zeg i) (zeg i') (by omega) ?_
 have e1:PyData.eqv (.tuple xs) (.tuple xs')=decide (p=q):=zk3 i i'
 rw[e1];exact h
theorem zhn{b b':Addr}{p q:List Int}{Q:Value→Shared→Prop}(hu:A.units+1 < cLine)(t:TupI s.heap b p)(t':TupI s.heap b' q)(h:Q (.bool (lexI p q)) s):wpAny (model prog w) A (compareOp .Lt (.ref b) (.ref b')) Q E s:=by
 obtain⟨_,_,_,g1,g2,g3,g4,_,_,_,_⟩:=t
 obtain⟨_,_,_,k1,k2,k3,k4,_,_,_,_⟩:=t'
 exact zir hu g1 g2 g3 g4 k1 k2 k3 k4 h
theorem zkl{v u:Value}{p q:List Int×List Int}{C:Bool→Shared→Prop}(hu:A.units+10 < cLine)(hv:PairAt s.heap v p)(hw:PairAt s.heap u q)(h:C (ltP p q) s):wpAny (model prog w) A (keyLt' (tuples' false) v u) C E s:=by
 obtain⟨a,b,c,o,n,rfl,h1,h2,h3,t1,t2⟩:=hv
 obtain⟨a',b',c',o',n',rfl,h1',h2',h3',t1',t2'⟩:=hw
 have hu1:A.units+1 < cLine:=by omega
 refine kat_lt h1 h3 h1' h3' ?_
 show KatLex prog w A false (decide (2 < 2)) C [(.ref b,.ref b'),(.ref c,.ref c')] 0 s
 refine kat_cons (zhw hu t1 t1' ?_)
 unfold ltP at h
 by_cases hp:p.1=q.1
 ·rw[if_pos hp] at h
  rw[decide_eq_true hp]
  refine kat_yes (kat_cons (zhw hu t2 t2' ?_))
  by_cases hq:p.2=q.2
  ·rw[if_pos hq] at h
   rw[decide_eq_true hq]
   exact kat_yes (kat_nil h)
  ·rw[if_neg hq] at h
   rw[decide_eq_false hq]
   exact kat_no (kat_one _ _ (zhn hu1 t2 t2' h))
 ·rw[if_neg hp] at h
  rw[decide_eq_false hp]
  exact kat_no (kat_one _ _ (zhn hu1 t1 t1' h))
theorem zgd{vs:List Value}{ps:List (List Int×List Int)}{Q:SortKind→Shared→Prop}(hl:vs.length=ps.length)(hp:∀ (i:Nat) p,ps[i]?=some p→∃ v,vs[i]?=some v∧PairAt s.heap v p)(h2:2≤vs.length)(h:Q (tuples' false) s) :
 wpAny (model prog w) A (keyKind' vs.toArray) Q E s:=by
 have key:∀ (vs:List Value) (ps:List (List Int×List Int)),vs.length=ps.length→(∀ (i:Nat) p,ps[i]?=some p→∃ v,vs[i]?=some v∧PairAt s.heap v p)→∃ fs,KatTups s.heap vs fs∧fs.length=vs.length∧∀ f∈fs,∃ b o,f=Value.ref b∧s.heap.get? b=some o∧o.cls=.type "tuple":=by
  intro vs
  induction vs with
  | nil=>intro ps _ _;exact⟨[],trivial,rfl,fun _ h=>nomatch h⟩
  | cons v vs ih=>
    intro ps hl hp
    cases ps with
    | nil=>cases hl
    | cons p ps=>
      obtain⟨fs,k1,k2,k3⟩:=ih ps (Nat.succ.inj hl) fun i p' h=>hp (i+1) p' h
      obtain⟨v',e,a,b,c,o,n,rfl,h1,h2,h3,⟨o1,_,_,g1,g2,_,_,_,_,_,_⟩,_⟩:=hp 0 p rfl
      have e:some v=some _:=e
      cases e
      refine⟨.ref b::fs,KatTups.cons h1 h2 h3 (by simp) k1,by simp[k2],fun f hf=>?_⟩
      rcases List.mem_cons.mp hf with rfl | hf
      ·exact⟨b,o1,rfl,g1,g2⟩
      ·exact k3 f hf
 obtain⟨fs,k1,k2,k3⟩:=key vs ps hl hp
 refine kat_kind (T:=.type "tuple") k1 (by rw [k2];omega) (fun f hf=>?_) (by decide) h
 obtain⟨b,o,rfl,h1,h2⟩:=k3 f hf
 rw[← h2]
 exact (Looks.ld h1).andThen .now
end
theorem zd7{h:Heap}{P:Addr→Prop}{vs:List Value}{xs:List PyData}{as:List Addr}(r:ReadsAll h vs xs as)(q:∀ a∈as,P a)(i:Nat)(x:PyData)(e:xs[i]?=some x):∃ v bs,vs[i]?=some v∧Reads h v x bs∧∀ b∈bs,P b:=zv r q e
theorem v9{h:Heap}{P:Addr→Prop}{vs:List Value}{xs:List PyData}{as:List Addr}(r:ReadsAll h vs xs as)(q:∀ a∈as,P a):∀ (l:List Nat),(∀ i∈l,i < xs.length)→∃ bs,ReadsAll h (l.map fun i=>vs.getD i Value.none) (l.map fun i=>xs.getD i .none) bs∧∀ b∈bs,P b
 | [],_=>⟨[],.nil,fun _ h=>nomatch h⟩
 | i::l,hl=>by
   have hi:=hl i List.mem_cons_self
   obtain⟨v,bs,e1,r1,q1⟩:=zd7 r q i _ (List.getElem?_eq_getElem hi)
   obtain⟨cs,r2,q2⟩:=v9 r q l fun j hj=>hl j (List.mem_cons_of_mem _ hj)
   refine⟨bs++cs,?_,fun b hb=>(List.mem_append.mp hb).elim (q1 b) (q2 b)⟩
   have ev:vs.getD i Value.none=v:=by simp[List.getD,e1]
   have ex:xs.getD i .none=xs[i]:=by simp[List.getD,hi]
   rw[List.map_cons,List.map_cons,ev,ex]
   exact .cons r1 r2
noncomputable def zfp(xs:List PyData):Bool:=match pe (ltAt ((ki xs).getD [])) (kas_sort xs.length) with
 | some p=>p.toList.all fun i=>decide (i < xs.length)
 | none=>true
noncomputable def zfq(xs:List PyData):Option (List PyData):=if zfp xs=true then zdz xs else none
set_option tactic.hygienic true in
theorem zpl{G:Gl}{P:Pg}(hP:P.srt=zfq):zcu G P:=by
 intro A F s β ρ O v d xs ys k ro sr rv hx h64 hs
 obtain⟨a,rfl,o,vs,n,h1,h2,h3,as,h4,h5⟩:=z8 sr rv hx
 rw[hP] at hs
 unfold zfq at hs
 by_cases hcond:zfp xs=true
 ·rw[if_pos hcond] at hs
  ·have hy:=hs
   unfold zdz at hy
   cases hps:ki xs with
   | none=>rw[hps] at hy;cases hy
   | some ps=>
     rw[hps] at hy
     simp only[Option.bind_some] at hy
     obtain⟨hl,hat⟩:=pairs_at h4 hps
     have hvl:vs.toList.length=xs.length:=zd h4
     have hu:=ro.c (n:=200)
     have hL:s.heap.IsList a vs.toList.toArray:=⟨o,h1,h2,n,by simpa using h3⟩
     have fin:∀ (out:List Value) (bs:List Addr),(∀ h',(∀ b o,s.heap.get? b=some o→h'.get? b=some o)→ReadsAll h' out ys bs)→(∀ b∈bs,b∉β∧b∉F.B) →
      ((vs.toList.length < 2∧out=vs.toList)∨(2≤vs.toList.length∧∃ p,pe (ltAt ps) (kas_sort vs.toList.length)=some p∧out=p.toList.map fun i=>vs.toList.getD i Value.none)) →
      LeafD G F s β (tr G A (call (.builtin "sorted") [.ref a])) (V.d (.list ys)) (FRel G F s):=by
      intro out bs hrd hq hev
      refine LeafD.leaf sr fun Q E kk=>zd1 (κ:=tuples' false) (lt:=ltAt ps) (out:=out) hL (by rw[hvl];exact h64) (fun s' hk h2' Q q=>zgd hl (fun i p hi=>let ⟨v,e,pa⟩:=hat i p hi;⟨v,e,pa.keeps hk⟩) h2' q)
       (fun s' hk i j b C hlt hC=>?_) hev fun D h' c hDn hk hD=>?_
      ·unfold ltAt at hlt
       split at hlt
       ·rename_i p q hp hq'
        cases hlt
        obtain⟨v,e,pv⟩:=hat i p hp
        obtain⟨u,e',pu⟩:=hat j q hq'
        have ev:vs.toList.getD i Value.none=v:=by simp only[List.getD,e,Option.getD_some]
        have eu:vs.toList.getD j Value.none=u:=by simp only[List.getD,e',Option.getD_some]
        rw[ev,eu]
        exact zkl (by show A.units+1+1+10 < cLine;omega) (pv.keeps hk) (pu.keeps hk) hC
       ·cases hlt
      ·have hDβ:D∉β∧D∉F.B:=⟨fun hm=>(by obtain⟨o,e,_⟩:=sr.br.alive D hm;rw[hDn] at e;cases e),fun hm=>(by obtain⟨o,e,_⟩:=sr.fm.stor D hm;rw[hDn] at e;cases e)⟩
       exact kk _ _ (ye (tk:=s.toks) hk) ⟨xl hD rfl rfl (by simpa using hrd h' hk) hq hDβ,fun _ _=>⟨D,rfl,hDn,_,hD,rfl,rfl⟩⟩
     split at hy
     ·rename_i hlt
      cases hy
      exact fin vs.toList as (fun h' hk=>zt hk h4) h5 (.inl ⟨by rw[hvl];exact hlt,rfl⟩)
     ·rename_i hge
      cases hev:pe (ltAt ps) (kas_sort xs.length) with
      | none=>rw[hev] at hy;cases hy
      | some p=>
        rw[hev] at hy
        cases hy
        have hall:∀ i∈p.toList,i < xs.length:=by
         have:=hcond
         unfold zfp at this
         rw [hps] at this
         simp only [Option.getD_some,hev] at this
         intro i hi
         exact of_decide_eq_true (List.all_eq_true.mp this i hi)
        obtain⟨bs,r1,q1⟩:=v9 h4 h5 p.toList hall
        exact fin _ bs (fun h' hk=>zt hk r1) q1 (.inr ⟨by rw[hvl];omega,p,by rw[hvl];exact hev,rfl⟩)
 ·rw[if_neg hcond] at hs;cases hs
noncomputable def tabOf(L:List Int)(led:Bool):SetTable:={ mask:=7,place:=(L.map Int.toNat).toArray,dummies:=#[],finger:=0,led:=led,moves:=0,plain:=true }
noncomputable def vz(L:List Int)(k:Int)(led:Bool):Bool:=
 decide ((tabOf L led).freeSlot k=some (k.toNat,false)) && decide ((tabOf L led).put k.toNat=(tabOf (addI k L) led,(L.filter fun x=>decide (x < k)).length)) && (tabOf (addI k L) led).fits (L.length+1) && !(tabOf (addI k L) led).tooFull
theorem add0:∀ (led:Bool) (k:_root_.Fin 5),vz [] (k.val:Int) led=true:=by decide +kernel
theorem add1:∀ (led:Bool) (a k:_root_.Fin 5),a≠k→vz [(a.val:Int)] (k.val:Int) led=true:=by decide +kernel
theorem add2:∀ (led:Bool) (a b k:_root_.Fin 5),a < b→a≠k→b≠k→vz [(a.val:Int),(b.val:Int)] (k.val:Int) led=true:=by decide +kernel
theorem add3:∀ (led:Bool) (a b c k:_root_.Fin 5),a < b→b < c→a≠k→b≠k→c≠k→vz [(a.val:Int),(b.val:Int),(c.val:Int)] (k.val:Int) led=true:=by decide +kernel
structure Few(L:List Int)(n:Nat):Prop where
 up:L.Pairwise (· < ·)
 lo:∀ x∈L,0≤x∧x < 5
 len:L.length≤n
theorem y8{x:Int}(h:0≤x∧x < 5):∃ a:_root_.Fin 5,x=(a.val:Int):=⟨⟨x.toNat,by omega⟩,by simp;omega⟩
theorem Few.fact{L:List Int}{k:Int}(f:Few L 3)(hk:0≤k∧k < 5)(hn:k∉L)(led:Bool):vz L k led=true:=by
 obtain⟨k,rfl⟩:=y8 hk
 match L,f,hn with
 | [],_,_=>exact add0 led k
 | [a],f,hn=>
   obtain⟨a,rfl⟩:=y8 (f.lo a (by simp))
   exact add1 led a k fun e=>hn (by simp[e])
 | [a,b],f,hn=>
   obtain⟨a,rfl⟩:=y8 (f.lo a (by simp))
   obtain⟨b,rfl⟩:=y8 (f.lo b (by simp))
   have hab:=(List.pairwise_cons.mp f.up).1 (b.val:Int) (by simp)
   exact add2 led a b k (by exact_mod_cast hab) (fun e=>hn (by simp[e])) fun e=>hn (by simp[e])
 | [a,b,c],f,hn=>
   obtain⟨a,rfl⟩:=y8 (f.lo a (by simp))
   obtain⟨b,rfl⟩:=y8 (f.lo b (by simp))
   obtain⟨c,rfl⟩:=y8 (f.lo c (by simp))
   have hab:=(List.pairwise_cons.mp f.up).1 (b.val:Int) (by simp)
   have hbc:=(List.pairwise_cons.mp (List.pairwise_cons.mp f.up).2).1 (c.val:Int) (by simp)
   exact add3 led a b c k (by exact_mod_cast hab) (by exact_mod_cast hbc) (fun e=>hn (by simp[e])) (fun e=>hn (by simp[e])) fun e=>hn (by simp[e])
 | _::_::_::_::_,f,_=>exact absurd f.len (by simp)
set_option tactic.hygienic true in
theorem zbh:∀ (k:Int) (L:List Int) (x:Int),x∈addI k L↔x=k∨x∈L
 | k,[],x=>by simp[addI]
 | k,b::r,x=>by
   unfold addI
   split
   ·simp
   ·split
    ·rename_i h;subst h;simp
    ·simp only[List.mem_cons,zbh k r x]
     constructor
     ·rintro (h | h | h) <;> simp[h]
     ·rintro (h | h | h) <;> simp[h]
set_option tactic.hygienic true in
theorem zh9:∀ (k:Int) (L:List Int),L.Pairwise (· < ·)→(addI k L).Pairwise (· < ·)
 | k,[],_=>by simp[addI]
 | k,b::r,h=>by
   obtain⟨h1,h2⟩:=List.pairwise_cons.mp h
   unfold addI
   split
   ·rename_i hk
    refine List.pairwise_cons.mpr ⟨fun x hx=>?_,h⟩
    rcases List.mem_cons.mp hx with rfl | hx
    ·exact hk
    ·exact Int.lt_trans hk (h1 x hx)
   ·split
    ·exact h
    ·rename_i hk hne
     refine List.pairwise_cons.mpr ⟨fun x hx=>?_,zh9 k r h2⟩
     rcases (zbh k r x).mp hx with rfl | hx
     ·omega
     ·exact h1 x hx
theorem zct:∀ (k:Int) (L:List Int),L.Pairwise (· < ·)→k∈L→addI k L=L
 | k,b::r,h,hk=>by
   obtain⟨h1,h2⟩:=List.pairwise_cons.mp h
   unfold addI
   rcases List.mem_cons.mp hk with rfl | hk
   ·simp
   ·have:=h1 k hk
    rw[if_neg (by omega),if_neg (by omega),zct k r h2 hk]
theorem zfd:∀ (k:Int) (L:List Int),(addI k L).length≤L.length+1
 | k,[]=>by simp[addI]
 | k,b::r=>by
   unfold addI
   split
   ·simp
   ·split
    ·simp
    ·have:=zfd k r;simp;omega
theorem Few.add{L:List Int}{k:Int}{n:Nat}(f:Few L n)(hk:0≤k∧k < 5):Few (addI k L) (n+1):=
 ⟨zh9 k L f.up,fun x hx=>by rcases (zbh k L x).mp hx with rfl | hx;exact hk;exact f.lo x hx,Nat.le_trans (zfd k L) (Nat.succ_le_succ f.len)⟩
noncomputable def SmallSet(h:Heap)(S:Addr)(L:List Int)(led:Bool):Prop:=
 ∃ o es ep,h.get? S=some o∧o.ExactSet∧o.data=.set es ep (tabOf L led)∧es.toList.map (·.1)=L∧∀ e∈es.toList,∃ t,e.2=.int e.1 t
theorem zcf:∀ (es:List (Int×Value)) (k:Int) (x:Value),(es.map (·.1)).Pairwise (· < ·)→k∉es.map (·.1) →
 ((es.take ((es.map (·.1)).filter fun y=>decide (y < k)).length)++(k,x)::es.drop ((es.map (·.1)).filter fun y=>decide (y < k)).length).map (·.1)=addI k (es.map (·.1))
 | [],k,x,_,_=>rfl
 | (b,y)::r,k,x,h,hn=>by
   obtain⟨h1,h2⟩:=List.pairwise_cons.mp h
   have hkb:k≠b:=fun e=>hn (by simp[e])
   have hkr:k∉r.map (·.1):=fun hm=>hn (List.mem_cons_of_mem _ hm)
   show _=addI k (b::r.map (·.1))
   unfold addI
   by_cases hb:k < b
   ·rw[if_pos hb]
    have hf:((((b,y)::r).map (·.1)).filter fun y=>decide (y < k))=[]:=by
     rw[List.filter_eq_nil_iff]
     intro z hz
     have:b≤z:=by
      rcases List.mem_cons.mp hz with rfl | hz
      ·exact Int.le_refl _
      ·exact Int.le_of_lt (h1 z hz)
     simp;omega
    rw[hf];simp
   ·rw[if_neg hb,if_neg hkb]
    have hf:((((b,y)::r).map (·.1)).filter fun y=>decide (y < k))=b::((r.map (·.1)).filter fun y=>decide (y < k)):=by
     rw[List.map_cons,List.filter_cons_of_pos (by simp;omega)]
    rw[hf]
    simp only[List.length_cons,List.take_succ_cons,List.drop_succ_cons,List.cons_append,List.map_cons]
    rw[zcf r k x h2 hkr]
section
variable{prog:Program}{w:World}{A:Around}{E:Value→Shared→Prop}{s:Shared}
theorem zav{k:Int}(hk:0≤k∧k < 5):(intKind prog w).hash k=k:=by
 obtain⟨k,rfl⟩:=y8 hk
 show hashInt (k.val:Int)=_
 revert k
 decide +kernel
theorem SmallSet.elems{es:List (Int×Value)}{L:List Int}{n:Nat}(f:Few L n)(h1:es.map (·.1)=L)(h2:∀ e∈es,∃ t,e.2=.int e.1 t):ElemsOf (intKind prog w) es:=fun e he=>by
 obtain⟨t,ht⟩:=h2 e he
 have hm:e.1∈L:=by rw[← h1];exact List.mem_map.mpr ⟨e,he,rfl⟩
 refine⟨⟨e.1,?_,(zav (f.lo _ hm)).symm⟩,by rw[ht];rfl⟩
 rw[ht];exact intKind_is _ _ _ _
theorem zjo{a:Addr}{L:List Int}{led:Bool}{k:Int}{t:Tok}{Q:Bool→Shared→Prop}(hS:SmallSet s.heap a L led)(f:Few L 3)(hk:0≤k∧k < 5)
 (h:∀ b h',Heap.SameBut a s.heap h'→SmallSet h' a (addI k L) led→Q b { s with heap:=h' }) :
 wpAny (model prog w) A (setAddHashed a (.int k t) ((intKind prog w).hash k)) Q E s:=by
 have same:k∈L→Q false s:=fun hkL=>h false s.heap (Heap.SameBut.refl a s.heap) (by rw[zct k L f.up hkL];exact hS)
 obtain⟨o,es,ep,ho,hex,hd,h1,h2⟩:=hS
 have hel:ElemsOf (intKind prog w) es.toList:=SmallSet.elems f h1 h2
 have hsz:es.size=L.length:=by rw[← Array.length_toList,← h1,List.length_map]
 have hf:(tabOf L led).fits es.size=true:=by
  rw[hsz]
  have:=f.len
  simp[tabOf,SetTable.fits,SetTable.fill];omega
 have hsc:(Value.int k t).scannable=true:=rfl
 have hb:es.size < scanBound:=by rw[hsz];exact Nat.lt_of_le_of_lt f.len (by decide)
 have hmemk:(∃ e∈es.toList,(intKind prog w).is k e.2=true)↔k∈L:=by
  constructor
  ·rintro⟨e,he,q⟩
   obtain⟨t',ht'⟩:=h2 e he
   rw[ht'] at q
   rw[(intKind prog w).inj _ _ _ q (intKind_is _ _ _ _),← h1];exact List.mem_map.mpr ⟨e,he,rfl⟩
  ·intro hm
   rw[← h1] at hm
   obtain⟨e,he,rfl⟩:=List.mem_map.mp hm
   obtain⟨t',ht'⟩:=h2 e he
   exact⟨e,he,by rw[ht'];exact intKind_is _ _ _ _⟩
 have more:k∉L→∃ es',layNew (tabOf L led) es ((intKind prog w).hash k) (.int k t)=(es',tabOf (addI k L) led,false,false)∧es'.size=L.length+1∧(tabOf (addI k L) led).tooFull=false∧SmallSet (s.heap.update a (Obj.putSet es' (tabOf (addI k L) led))) a (addI k L) led:=fun hkL=>by
  have fact:=f.fact hk hkL led
  unfold vz at fact
  simp only[Bool.and_eq_true,decide_eq_true_eq,Bool.not_eq_true'] at fact
  obtain⟨⟨⟨f1,f2⟩,f3⟩,f4⟩:=fact
  have hle:(L.filter fun x=>decide (x < k)).length≤L.length:=List.length_filter_le _ _
  have hins:=zcf es.toList k (Value.int k t) (by rw[h1];exact f.up) (by rw[h1];exact hkL)
  rw[h1] at hins
  generalize (L.filter fun x=>decide (x < k)).length=p at f2 hle hins
  have hes:(SetTable.insertAt es p (k,Value.int k t)).toList=es.toList.take p++(k,Value.int k t)::es.toList.drop p:=by
   unfold SetTable.insertAt
   rw[Array.toList_append,Array.toList_push,Array.toList_extract,Array.toList_extract]
   rw[List.extract_eq_take_drop,List.extract_eq_take_drop,List.drop_zero,Nat.sub_zero,List.append_assoc]
   congr 1
   rw[List.take_of_length_le (by rw[List.length_drop,Array.length_toList];exact Nat.le_refl _)]
   rfl
  have hsz':(SetTable.insertAt es p (k,Value.int k t)).size=L.length+1:=by
   rw[← Array.length_toList,hes,List.length_append,List.length_cons,List.length_take_of_le (by rw[Array.length_toList,hsz];exact hle),List.length_drop,Array.length_toList,hsz,← Nat.add_assoc,Nat.add_sub_of_le hle]
  rw[← hes] at hins
  have hall:∀ e∈(SetTable.insertAt es p (k,Value.int k t)).toList,∃ t,e.2=.int e.1 t:=fun e he=>by
   rw[hes] at he
   rcases List.mem_append.mp he with he | he
   ·exact h2 e (List.mem_of_mem_take he)
   ·rcases List.mem_cons.mp he with rfl | he
    ·exact⟨t,rfl⟩
    ·exact h2 e (List.mem_of_mem_drop he)
  clear hes
  have hL:layNew (tabOf L led) es ((intKind prog w).hash k) (.int k t)=(SetTable.insertAt es p (k,Value.int k t),tabOf (addI k L) led,false,false):=by
   rw[zav hk]
   unfold layNew
   rw[f1]
   dsimp only
   rw[f2]
   dsimp only
   rw[hsz']
   unfold SetTable.orStandIn
   rw[f3]
   rfl
  generalize SetTable.insertAt es p (k,Value.int k t)=es' at hsz' hL hins hall
  have hg:=Heap.get?_update_self (Obj.putSet es' (tabOf (addI k L) led)) ho (by rw[putSet_of _ _ hd];rfl)
  rw[putSet_of _ _ hd] at hg
  exact⟨es',hL,hsz',f4,_,_,ep+1,hg,hex,rfl,hins,hall⟩
 unfold setAddHashed setAddHashedIn
 refine wpAny_holding (wpAny_bind (wpAny_setState_of ho hd hf (wpAny_ite_true (by rw[byScan_of hsc hb hel];rfl) (wpAny_bind ?_))))
 unfold setAddByScan
 refine wpAny_bind (wpAny_rule (wpAny_bind (wpAny_setScan_of (intKind_is _ _ _ _) ho hd hf hel ?_)))
 cases hr:List.findIdx? (fun e=>(intKind prog w).is k e.2) es.toList with
 | some j=>
   obtain⟨hj,hpj,_⟩:=List.findIdx?_eq_some_iff_getElem.mp hr
   exact wpAny_pure (wpAny_pure (same (hmemk.mp ⟨es.toList[j],List.getElem_mem hj,hpj⟩)))
 | none=>
   obtain⟨es',e1,e2,e3,e4⟩:=more fun hm=>by
    obtain⟨e,he,q⟩:=hmemk.mpr hm
    have:=List.findIdx?_eq_none_iff.mp hr e he
    rw[q] at this;cases this
   dsimp only
   rw[e1]
   refine wpAny_bind (wpAny_pure (wpAny_ite_true rfl (wpAny_bind ?_)))
   rw[hashByValue_scannable 8 hsc]
   refine wpAny_pure ?_
   show wpAny _ _ (storeSet a es' (tabOf (addI k L) led) >>= _) _ _ _
   exact wpAny_bind (wpAny_storeSet_of ho hd (wpAny_ite_false (by show decide ((!false && (tabOf (addI k L) led).tooFull)=true)=false;rw[e3];rfl) (wpAny_pure (wpAny_pure (h _ _ (Heap.SameBut.update s.heap a _) e4)))) (by rw[e2,sizeLine_eq];have:=f.len;omega))
noncomputable def upTo(is:List Int)(i:Nat):List Int:=(is.take i).foldl (fun acc k=>addI k acc) []
theorem zbw{is:List Int}{i:Nat}{k:Int}(h:is[i]?=some k):upTo is (i+1)=addI k (upTo is i):=by
 unfold upTo
 rw[List.take_add_one,h,List.foldl_append]
 rfl
theorem wy{is:List Int}(hr:∀ x∈is,0≤x∧x < 5):∀ i,Few (upTo is i) i
 | 0=>⟨by simp[upTo],fun x hx=>by simp[upTo] at hx,by simp[upTo]⟩
 | i+1=>by
   cases h:is[i]? with
   | none=>
     have:upTo is (i+1)=upTo is i:=by unfold upTo;rw[List.take_add_one,h];simp
     rw[this]
     have f:=wy hr i
     exact⟨f.up,f.lo,Nat.le_succ_of_le f.len⟩
   | some k=>rw[zbw h];exact (wy hr i).add (hr k (List.mem_of_getElem? h))
variable{I:Addr}{fp wr:List Addr}{R:Result→Shared→Prop}{P:Nat→Value→Prop}{St:Nat→Heap→Prop}
theorem zgo{is:List Int}{led:Bool}(W:Walks prog w A.in1 I fp wr is.length P St)(S:Addr)(hSf:S∉fp)(hval:∀ (i:Nat) v,i < is.length→P i v→∃ t k,is[i]?=some k∧v=.int k t)(hr:∀ x∈is,0≤x∧x < 5)(h4:is.length≤4) :
 ∀ (k i:Nat) (s:Shared),is.length - i=k→i≤is.length→St i s.heap→SmallSet s.heap S (upTo is i) led →
  (∀ h' tk,(∀ b o,b∉S::wr→s.heap.get? b=some o→h'.get? b=some o)→SmallSet h' S (upTo is is.length) led→R (.ok (.ret .none)) { s with heap:=h',toks:=tk }) →
  codeAny (model prog w) A (.builtin "set.update.loop" ⟨[.ref S,.ref I],[]⟩) R s:=by
 have hSw:S∉wr:=fun h=>hSf (W.sub _ h)
 intro k
 induction k with
 | zero=>
   intro i s hk hi hst hS hR
   have hin:=zb8 hk hi
   subst hin
   refine codeAny_builtin F.entry_set_update_loop ?_
   rw[Around.under_plainId F.plain_set_update_loop _]
   show wpAny _ A.in1 (pyNext (.ref I) >>= _) _ _ s
   refine wpAny_bind (W.done s _ _ hst fun h' tk hm=>?_)
   show wpAny _ A.in1 (ret Value.none) _ _ _
   refine wpAny_pure (hR h' tk (fun b o hb e=>hm b o (fun h=>hb (List.mem_cons_of_mem _ h)) e) ?_)
   obtain⟨o,es,ep,ho,rest⟩:=hS
   exact⟨o,es,ep,hm S _ hSw ho,rest⟩
 | succ k ih=>
   intro i s hk hi hst hS hR
   have hlt:=zeb hk
   refine codeAny_builtin F.entry_set_update_loop ?_
   rw[Around.under_plainId F.plain_set_update_loop _]
   show wpAny _ A.in1 (pyNext (.ref I) >>= _) _ _ s
   refine wpAny_bind (W.item i s _ _ hlt hst fun v h₁ tk₁ hP hst' hm=>?_)
   obtain⟨t,x,hx,rfl⟩:=hval i v hlt hP
   have hS':SmallSet h₁ S (upTo is i) led:=by
    obtain⟨o,es,ep,ho,rest⟩:=hS
    exact⟨o,es,ep,hm S _ hSw ho,rest⟩
   have hxr:=hr x (List.mem_of_getElem? hx)
   have hfew:=wy hr i
   show wpAny _ A.in1 (holding [Value.int x t] (setAdd S (.int x t)) >>= _) _ _ _
   refine wpAny_bind (wpAny_holding ?_)
   unfold setAdd
   refine wpAny_holding ?_
   refine wpAny_bind ((intKind prog w).pyHash (k:=x) (intKind_is _ _ _ _) ?_)
   refine zjo (s:={ s with heap:=h₁,toks:=tk₁+1 }) hS' ⟨hfew.up,hfew.lo,by have:=hfew.len;omega⟩ hxr fun b h' hsb hS2=>?_
   rw[← zbw hx] at hS2
   refine wpAny_pure ⟨plainId_quiet F.plain_set_update_loop _,ih (i+1) _ (zb9 hk) hlt (W.frame _ _ _ hst' fun b hb o e=>?_) hS2 fun h'' tk hk'' hS''=>?_⟩
   ·exact (hsb.2 b (fun h:b=S=>hSf (by rw[← h];exact hb))).trans e
   ·refine hR h'' tk (fun b o hb e=>hk'' b o hb ?_) hS''
    exact (hsb.2 b (fun h:b=S=>hb (by rw[h];exact List.mem_cons_self))).trans (hm b o (fun h=>hb (List.mem_cons_of_mem _ h)) e)
end
section
variable{prog:Program}{w:World}{A:Around}{E:Value→Shared→Prop}{s:Shared}
theorem code_set_new(a:Value){Q₁:Value→Shared→Prop}
 (h:Q₁ (.ref s.heap.objs.size) { s with heap:=s.heap.push { cls:=.type "set",dict:=none,data:=.set #[] 0 (.fresh 0 0 (!w.params.followText "set-order")) } }) :
 codeAny (model prog w) A (.call (.builtin "set.__new__") ⟨[.type "set",a],[]⟩) (wants Q₁ E) s:=by
 refine codeAny_of_tree ?_
 show wpAny _ A.in1 (do checkBuiltinCall "set.__new__" ⟨[.type "set",a],[]⟩;again (.builtin "set.__new__" ⟨[.type "set",a],[]⟩)) _ _ s
 refine wpAny_bind (wpAny_of_eq (PySem.F.newCall_set_1 a) (wpAny_pure ⟨plainId_quiet PySem.F.plain_set_new _,codeAny_builtin PySem.F.entry_set_new ?_⟩))
 rw[Around.under_plainId PySem.F.plain_set_new _]
 unfold Builtin.«set.__new__» Builtin.Frozenset.newClass
 have hsub:=sub_set_self
 obtain⟨hp,g,d,tk,os⟩:=s
 dsimp only
 wp_walk
 refine wpAny_askSetting (wpAny_pure ?_)
 dsimp only
 simp only[newObj]
 refine wpAny_bind (wpAny_alloc (wpAny_pure ?_))
 exact wpAny_pure h
noncomputable abbrev newSet(w:World):Obj:={ cls:=.type "set",dict:=none,data:=.set #[] 0 (.fresh 0 0 (!w.params.followText "set-order")) }
noncomputable abbrev zkh(c:String)(l:Addr):Obj:={ cls:=.type c,data:=.fields #[.ref l,.int 0 0] }
theorem ua{l:Addr}{c ci:String}{ol:Obj}{T:Heap→Prop}{Q:Value→Shared→Prop}(hol:s.heap.get? l=some ol)(hcl:ol.cls=.type c)
 (hsls:isSubtype (.type c) (.type "set")=pure false) (hslf:isSubtype (.type c) (.type "frozenset")=pure false) (hne:(Value.type c == Value.type "dict")=false)
 (hit:∀ {A:Around} {E:Value→Shared→Prop} {s':Shared} {Q':Value→Shared→Prop},s'.heap.get? l=some ol→Q' (.ref s'.heap.objs.size) { s' with heap:=s'.heap.push (zkh ci l) }→wpAny (model prog w) A (pyIter (.ref l)) Q' E s')
 (fill:∀ (R:Result→Shared→Prop),(∀ h' tk,(∀ b o,s.heap.get? b=some o→h'.get? b=some o)→T h'→R (.ok (.ret .none)) { s with heap:=h',toks:=tk }) →
   codeAny (model prog w) A.in1.in1 (.builtin "set.update.loop" ⟨[.ref s.heap.objs.size,.ref (s.heap.push (newSet w)).objs.size],[]⟩) R { s with heap:=(s.heap.push (newSet w)).push (zkh ci l) })
 (h:∀ (h':Heap) (tk:Nat),T h'→(∀ b o,s.heap.get? b=some o→h'.get? b=some o)→Q (.ref s.heap.objs.size) { s with heap:=h',toks:=tk }) :
 wpAny (model prog w) A (call (.type "set") [.ref l]) Q E s:=by
 obtain⟨c',tl,hmro⟩:=PySem.F.called_set.mro
 have hmade:=PySem.F.called_set.made
 have hsub:=PySem.F.called_set.sub
 refine wpAny_call (codeAny_of_tree ?_)
 show wpAny _ _ (callAny (.type "set") _) _ _ _
 refine wpAny_pure ⟨Code.quiet_builtin _ (by decide +kernel),codeAny_builtin PySem.F.entry_type_call ?_⟩
 rw [Around.under_plain (weight_type_call_type "set" [.ref l] []) rfl]
 have h1:=PySem.F.called_set.notType
 have h2:=PySem.F.called_set.canCreate
 have hct:=PySem.F.typeCall_set_1 (.ref l)
 repeat (any_goals (first | assumption | wp_step))
 refine codeAny_mono (code_set_new (.ref l) (E:=E) (Q₁:=fun obj s₁=>obj=.ref s.heap.objs.size∧s₁ = { s with heap:=s.heap.push (newSet w) }) ⟨rfl,rfl⟩) fun r s₁ hr=>?_
 cases r with
 | error e=>exact hr
 | ok fl=>
   cases fl with
   | ret obj=>
     obtain⟨rfl,rfl⟩:=hr
     have hS:(s.heap.push (newSet w)).get? s.heap.objs.size=some (newSet w):=Heap.get?_push_size _ rfl
     have hT:Shared.TypeIs { s with heap:=s.heap.push (newSet w) } (.ref s.heap.objs.size) "set":=⟨_,hS,rfl⟩
     have hli:=PySem.F.called_set.init.lookup
     have hbi:=PySem.F.called_set.init.bind (.ref s.heap.objs.size)
     repeat (any_goals (first | assumption | wp_step))
     refine codeAny_mono (codeAny_call_builtin (R:=wants (fun r s₂=>r=.none∧∃ h' tk,s₂ = { s with heap:=h',toks:=tk }∧T h'∧(∀ b o,s.heap.get? b=some o→h'.get? b=some o)) E) PySem.F.called_set.init.plain PySem.F.entry_set_init (check_set_init_1 hT ?_)) fun r₂ s₂ hr₂=>?_
     ·have hol':(s.heap.push (newSet w)).get? l=some ol:=Heap.get?_push_of_some _ hol
      clear hol h
      obtain⟨ocls,odict,odata,oslots⟩:=ol
      have hcl:ocls=_:=hcl
      subst hcl
      unfold Builtin.«set.__init__» noKeywords Builtin.Frozenset.updateFrom
      generalize hPI:pyIter=PI
      wp_walk
      subst hPI
      refine hit hol' (wpAny_bind (wpAny_runValue (fill _ fun h' tk hk hT=>?_)))
      show wpAny _ _ _ _ _ _
      refine wpAny_pure ?_
      show wpAny _ _ (ret Value.none) _ _ _
      exact wpAny_pure ⟨rfl,h',tk,rfl,hT,hk⟩
     ·cases r₂ with
      | error e=>exact hr₂
      | ok fl₂=>
        cases fl₂ with
        | ret r=>
          obtain ⟨rfl,h',tk,rfl,hS',hk'⟩:=hr₂
          repeat (any_goals (first | assumption | wp_step))
          exact h _ _ hS' hk'
        | _=>exact hr₂.elim
   | _=>exact hr.elim
theorem zb1{h h':Heap}{w:World}{c:String}{l:Addr}(hm:∀ b o,b∉h.objs.size::[(h.push (newSet w)).objs.size]→((h.push (newSet w)).push (zkh c l)).get? b=some o→h'.get? b=some o):∀ b o,h.get? b=some o→h'.get? b=some o:=fun b o e=>by
 have hb:=Heap.lt_size e
 refine hm b o (fun hx=>?_) (Heap.get?_push_of_some _ (Heap.get?_push_of_some _ e))
 rw[Heap.size_push] at hx
 rcases List.mem_cons.mp hx with rfl | hx
 ·exact Nat.lt_irrefl _ hb
 ·rw[List.mem_singleton.mp hx] at hb
  exact Nat.lt_irrefl _ (Nat.lt_trans (Nat.lt_succ_self _) hb)
theorem zb2{h:Heap}{w:World}{l:Addr}(hl:l < h.objs.size):l≠(h.push (newSet w)).objs.size∧h.objs.size∉[(h.push (newSet w)).objs.size,l]:=by
 rw[Heap.size_push]
 refine⟨Nat.ne_of_lt (Nat.lt_succ_of_lt hl),fun hx=>?_⟩
 rcases List.mem_cons.mp hx with hx | hx
 ·exact absurd hx (Nat.ne_of_lt (Nat.lt_succ_self _))
 ·exact absurd (List.mem_singleton.mp hx) (Nat.ne_of_gt hl)
theorem q0{l:Addr}{items:Array Value}{is:List Int}{Q:Value→Shared→Prop}
 (hh:A.handled=none) (hl:s.heap.IsTuple l items) (hi:IntsAre items.toList is) (hr:∀ x∈is,0≤x∧x < 5) (h4:is.length≤4)
 (h:∀ (h':Heap) (tk:Nat),SmallSet h' s.heap.objs.size (upTo is is.length) (!w.params.followText "set-order") →
   (∀ b o,s.heap.get? b=some o→h'.get? b=some o)→Q (.ref s.heap.objs.size) { s with heap:=h',toks:=tk }) :
 wpAny (model prog w) A (call (.type "set") [.ref l]) Q E s:=by
 obtain⟨ol,hol,hcl,nl,hdl⟩:=hl
 refine ua (ci:="tuple_iterator") hol hcl PySem.F.sub_tuple_set PySem.F.sub_tuple_frozenset (by decide) (fun e hQ=>wpAny_pyIter_tuple ⟨_,e,hcl,nl,hdl⟩ hQ) (fun R hR=>?_) h
 have hsz:items.size=is.length:=by rw[← Array.length_toList,jw hi]
 obtain⟨hneI,hSf⟩:=zb2 (w:=w) (Heap.lt_size hol)
 have W:=Walks.tuple (prog:=prog) (w:=w) (A:=A.in1.in1.in1) (by simp[hh]) (s.heap.push (newSet w)).objs.size l hneI items
 rw[hsz] at W
 exact zgo (is:=is) (led:=!w.params.followText "set-order") W s.heap.objs.size hSf (fun i v hi' hv=>by
  obtain⟨n,t,e1,e2⟩:=qm hi i v (by rw[Array.getElem?_toList];exact hv)
  exact⟨t,n,e1,e2⟩) hr h4 is.length 0 _ rfl (Nat.zero_le _)
  ⟨⟨_,Heap.get?_push_size _ rfl,rfl,rfl⟩,ol,Heap.get?_push_of_some _ (Heap.get?_push_of_some _ hol),hcl,nl,hdl⟩
  ⟨_,#[],0,Heap.get?_push_of_some _ (Heap.get?_push_size _ rfl),⟨rfl,rfl,rfl⟩,rfl,rfl,fun e he=>by simp at he⟩ fun h' tk hm hS'=>hR h' tk (zb1 hm) hS'
end
theorem slot_setit_next:Slot "set_iterator" "__next__" "set_iterator.__next__":=
 .of (owner:="set_iterator") (n:="__next__") (by rw [typeLookup_type,builtinLookup_eq_fast];kernel_rfl) (by decide +kernel) (by decide +kernel) (by decide +kernel)
  (by first | exact .inl (by decide +kernel) | exact .inr (by decide +kernel)) (by rw[isSubtype_type];kernel_rfl)
theorem kj:entryFor table "set_iterator.__next__" = some Builtin.«set_iterator.__next__»:=entryFor_of_tree (by kernel_rfl)
theorem qe(a:Value):argsOk "set_iterator.__next__" ⟨[a],[]⟩:=by unfold argsOk;kernel_rfl
theorem qa:Slot "set_iterator" "__iter__" "set_iterator.__iter__":=
 .of (owner:="set_iterator") (n:="__iter__") (by rw [typeLookup_type,builtinLookup_eq_fast];kernel_rfl) (by decide +kernel) (by decide +kernel) (by decide +kernel)
  (by first | exact .inl (by decide +kernel) | exact .inr (by decide +kernel)) (by rw[isSubtype_type];kernel_rfl)
theorem uy:entryFor table "set_iterator.__iter__" = some Builtin.«dict_keyiterator.__iter__»:=
 entryFor_alias (id':="dict_keyiterator.__iter__") (by kernel_rfl) rfl (by decide +kernel) (by kernel_rfl)
theorem g9(a:Value):argsOk "set_iterator.__iter__" ⟨[a],[]⟩:=by unfold argsOk;kernel_rfl
theorem za1:entryFor table "set.__iter__" = some Builtin.«frozenset.__iter__»:=
 entryFor_alias (id':="frozenset.__iter__") (by kernel_rfl) rfl (by decide +kernel) (by kernel_rfl)
noncomputable def slotAt(L:List Int):Nat→Nat
 | 0=>0
 | i+1=>(L.getD i 0).toNat+1
noncomputable def ke(L:List Int)(led:Bool):Bool:=(List.range (L.length+1)).all fun i=>decide (SetTable.below (tabOf L led).place (slotAt L i)=i)
theorem zrr:∀ (led:Bool),ke [] led=true:=by decide +kernel
theorem walk1:∀ (led:Bool) (a:_root_.Fin 5),ke [(a.val:Int)] led=true:=by decide +kernel
theorem walk2:∀ (led:Bool) (a b:_root_.Fin 5),a < b→ke [(a.val:Int),(b.val:Int)] led=true:=by decide +kernel
theorem zrq:∀ (led:Bool) (a b c:_root_.Fin 5),a < b→b < c→ke [(a.val:Int),(b.val:Int),(c.val:Int)] led=true:=by decide +kernel
theorem zrp:∀ (led:Bool) (a b c d:_root_.Fin 5),a < b→b < c→c < d→ke [(a.val:Int),(b.val:Int),(c.val:Int),(d.val:Int)] led=true:=by decide +kernel
theorem Few.walk{L:List Int}(f:Few L 4)(led:Bool):∀ i,i≤L.length→SetTable.below (tabOf L led).place (slotAt L i)=i:=by
 have:ke L led=true:=by
  match L,f with
  | [],_=>exact zrr led
  | [a],f=>
    obtain⟨a,rfl⟩:=y8 (f.lo a (by simp))
    exact walk1 led a
  | [a,b],f=>
    obtain⟨a,rfl⟩:=y8 (f.lo a (by simp))
    obtain⟨b,rfl⟩:=y8 (f.lo b (by simp))
    have hab:=(List.pairwise_cons.mp f.up).1 (b.val:Int) (by simp)
    exact walk2 led a b (by exact_mod_cast hab)
  | [a,b,c],f=>
    obtain⟨a,rfl⟩:=y8 (f.lo a (by simp))
    obtain⟨b,rfl⟩:=y8 (f.lo b (by simp))
    obtain⟨c,rfl⟩:=y8 (f.lo c (by simp))
    have hab:=(List.pairwise_cons.mp f.up).1 (b.val:Int) (by simp)
    have hbc:=(List.pairwise_cons.mp (List.pairwise_cons.mp f.up).2).1 (c.val:Int) (by simp)
    exact zrq led a b c (by exact_mod_cast hab) (by exact_mod_cast hbc)
  | [a,b,c,d],f=>
    obtain⟨a,rfl⟩:=y8 (f.lo a (by simp))
    obtain⟨b,rfl⟩:=y8 (f.lo b (by simp))
    obtain⟨c,rfl⟩:=y8 (f.lo c (by simp))
    obtain⟨d,rfl⟩:=y8 (f.lo d (by simp))
    have hab:=(List.pairwise_cons.mp f.up).1 (b.val:Int) (by simp)
    have hbc:=(List.pairwise_cons.mp (List.pairwise_cons.mp f.up).2).1 (c.val:Int) (by simp)
    have hcd:=(List.pairwise_cons.mp (List.pairwise_cons.mp (List.pairwise_cons.mp f.up).2).2).1 (d.val:Int) (by simp)
    exact zrp led a b c d (by exact_mod_cast hab) (by exact_mod_cast hbc) (by exact_mod_cast hcd)
  | _::_::_::_::_::_,f=>exact absurd f.len (by simp)
 intro i hi
 exact of_decide_eq_true (List.all_eq_true.mp this i (List.mem_range.mpr (Nat.lt_succ_of_le hi)))
theorem zai{α:Type}:∀ (l:List α) (i:Nat) (h:i < l.length),([l[i]]++l.eraseIdx i).Perm l
 | a::l,0,_=>by simp
 | a::l,i+1,h=>by
   have:=zai l i (by simpa using h)
   simp only[List.getElem_cons_succ,List.eraseIdx_cons_succ,List.singleton_append]
   simp only[List.singleton_append] at this
   exact (List.Perm.swap _ _ _).trans (this.cons a)
theorem w8{α:Type}(next:Nat→Nat):∀ (fuel k:Nat) (left:List α) (out:Array α),left.length=fuel→(pickOrder.go next fuel k left out).toList.Perm (out.toList++left)
 | 0,k,left,out,h=>by
   have:left=[]:=List.eq_nil_of_length_eq_zero h
   subst this
   unfold pickOrder.go
   simp
 | fuel+1,k,left,out,h=>by
   unfold pickOrder.go
   have hlt:next k % left.length < left.length:=Nat.mod_lt _ (by omega)
   rw[List.getElem?_eq_getElem hlt]
   dsimp only
   refine (w8 next fuel (k+1) _ _ (by rw[List.length_eraseIdx_of_lt hlt];omega)).trans ?_
   rw[Array.toList_push,List.append_assoc]
   refine List.Perm.append_left _ ?_
   exact zai left _ hlt
theorem zah{α:Type}(next:Nat→Nat)(xs:Array α):(pickOrder next xs).toList.Perm xs.toList:=by
 have:=w8 next xs.size 0 xs.toList #[] (by simp)
 unfold pickOrder
 simpa using this
noncomputable def x6(w:World)(S ep:Nat)(es:Array (Int×Value)):List (Int×Value):=if w.params.followText "set-order" = true then (pickOrder (w.params.setOrder S ep) es).toList else es.toList
theorem ordOf_perm{w:World}{S ep:Nat}{es:Array (Int×Value)}:(x6 w S ep es).Perm es.toList:=by
 unfold x6
 split
 ·exact zah _ _
 ·exact List.Perm.refl _
noncomputable def posAt(w:World)(L:List Int)(i:Nat):Nat:=if w.params.followText "set-order" = true then 0 else slotAt L i
structure SetIt(w:World)(S I:Addr)(es:Array (Int×Value))(ep:Nat)(L:List Int)(i:Nat)(h:Heap):Prop where
 set:∃ o,h.get? S=some o∧o.ExactSet∧o.data=.set es ep (tabOf L (!w.params.followText "set-order"))
 it:∃ o,h.get? I=some o∧o.cls=.type "set_iterator"∧o.data=.fields #[.int (posAt w L i) 0,.int i 0,.ref S,.int es.size 0,.int ep 0]
section
variable{prog:Program}{w:World}{A:Around}{E:Value→Shared→Prop}{s:Shared}{S I:Addr}{es:Array (Int×Value)}{ep:Nat}{L:List Int}
theorem zab{i:Nat}{Q:Option (Value×Nat)→Shared→Prop}(f:Few L 4)(h1:es.toList.map (·.1)=L)(hS:∃ o,s.heap.get? S=some o∧o.ExactSet∧o.data=.set es ep (tabOf L (!w.params.followText "set-order")))
 (hi:i≤L.length) (h:Q (((x6 w S ep es)[i]?).map fun e=>(e.2,posAt w L (i+1))) s):wpAny (model prog w) A (setNext S (posAt w L i) i ep) Q E s:=by
 obtain⟨o,ho,hex,hd⟩:=hS
 have hsz:es.size=L.length:=by rw[← Array.length_toList,← h1,List.length_map]
 have hf:(tabOf L (!w.params.followText "set-order")).fits es.size=true:=by
  rw[hsz];have:=f.len;simp[tabOf,SetTable.fits,SetTable.fill];omega
 unfold setNext
 refine wpAny_bind (wpAny_setState_of ho hd hf ?_)
 dsimp only
 unfold setsByText
 refine wpAny_bind (wpAny_bind (wpAny_askSetting (wpAny_pure ?_)))
 unfold x6 posAt at *
 show wpAny _ _ (if w.params.followText "set-order" = true then _ else _) _ _ _
 by_cases hb:w.params.followText "set-order" = true
 ·rw[if_pos hb] at h ⊢
  simp only[bne_self_eq_false,Bool.false_eq_true,if_false]
  refine wpAny_bind ?_
  unfold setWalk
  refine wpAny_bind (wpAny_setState_of ho hd hf ?_)
  dsimp only
  unfold setsByText
  refine wpAny_bind (wpAny_bind (wpAny_askSetting (wpAny_pure ?_)))
  show wpAny _ _ (if w.params.followText "set-order" = true then _ else _) _ _ _
  rw[if_pos hb]
  refine wpAny_bind (wpAny_askSetting (wpAny_pure (wpAny_pure ?_)))
  rw[if_pos hb] at h ⊢
  rw[Array.getElem?_toList] at h
  exact h
 ·rw[if_neg hb] at h ⊢
  have hb':w.params.followText "set-order" = false:=Bool.eq_false_iff.mpr hb
  rw[hb']
  show wpAny _ _ (if (false:Bool)=true then _ else _) _ _ _
  rw[if_neg Bool.false_ne_true]
  refine wpAny_bind ?_
  show wpAny _ _ (if (false && !es.isEmpty)=true then _ else _) _ _ _
  rw[Bool.false_and,if_neg Bool.false_ne_true]
  refine wpAny_pure (wpAny_pure ?_)
  have hw:=f.walk true i hi
  show Q (match es[SetTable.below (tabOf L true).place (slotAt L i)]?,(tabOf L true).place[SetTable.below (tabOf L true).place (slotAt L i)]? with
   | some (_,x),some j=>some (x,j+1)
   | _,_=>none) s
  rw[hw]
  have hp:(tabOf L true).place[i]?=(L[i]?).map Int.toNat:=by
   show ((L.map Int.toNat).toArray)[i]?=_
   rw[List.getElem?_toArray,List.getElem?_map]
  rw[hp]
  rw[if_neg hb,Array.getElem?_toList] at h
  cases he:es[i]? with
  | none=>rw[he] at h;exact h
  | some e=>
    rw[he] at h
    have hl:L[i]?=some e.1:=by rw[← h1,List.getElem?_map,Array.getElem?_toList,he];rfl
    rw[hl]
    have:slotAt L (i+1)=e.1.toNat+1:=by show (L.getD i 0).toNat+1=_;rw[List.getD,hl];rfl
    rw[this] at h
    exact h
theorem SetIt.walks(hh:A.handled=none)(f:Few L 4)(h1:es.toList.map (·.1)=L)(hSI:S≠I):Walks prog w A I [I,S] [I] L.length (fun i v=>∃ e,(x6 w S ep es)[i]?=some e∧v=e.2) (fun i h=>SetIt w S I es ep L i h) where
 sub:=fun b hb=>by rw[List.mem_singleton.mp hb];exact List.mem_cons_self
 frame:=fun i h h' st hk=>by
  obtain⟨⟨o,ho,r⟩,o',ho',r'⟩:=st
  exact⟨⟨o,hk S (by simp) o ho,r⟩,o',hk I (by simp) o' ho',r'⟩
 item:=fun i s Q E hi st hQ=>by
  obtain⟨hS,o,ho,hc,hd⟩:=id st
  obtain⟨oS,hoS,hexS,hdS⟩:=id hS
  have hsz:es.size=L.length:=by rw[← Array.length_toList,← h1,List.length_map]
  have hf:(tabOf L (!w.params.followText "set-order")).fits es.size=true:=by
   rw[hsz];have:=f.len;simp[tabOf,SetTable.fits,SetTable.fill];omega
  have hT:s.TypeIs (.ref I) "set_iterator":=⟨o,ho,hc⟩
  unfold pyNext
  refine wpAny_bind (wpAny_attempt (wpAny_callSpecial?_slot (name:=Str.ofString "__next__") hT slot_setit_next
   (wpAny_call_entry slot_setit_next hT kj ?_ (qe _))))
  show wpAny _ _ (fieldsOf (.ref I) >>= _) _ _ s
  refine wpAny_bind (wpAny_fieldsOf ho hd ?_)
  show wpAny _ _ (setEntries S >>= _) _ _ s
  refine wpAny_bind (wpAny_setEntries_of hoS hdS hf ?_)
  simp only[bne_self_eq_false,Bool.false_eq_true,if_false]
  refine wpAny_bind ?_
  simp only[Int.toNat_natCast]
  refine zab f h1 hS (Nat.le_of_lt hi) ?_
  have hlen:(x6 w S ep es).length=L.length:=by rw[ordOf_perm.length_eq,← h1,List.length_map]
  have hii:i < (x6 w S ep es).length:=by rw[hlen];exact hi
  rw[List.getElem?_eq_getElem hii]
  dsimp only[Option.map]
  refine wpAny_bind (wpAny_setField ho hd (by simp) ?_)
  have hd1:=Obj.data_mapFields hd (·.setIfInBounds 0 (rawInt (posAt w L (i+1):Nat)))
  have ho1:=Heap.get?_update_self (Obj.mapFields (·.setIfInBounds 0 (rawInt (posAt w L (i+1):Nat)))) ho (Obj.isFreed_of_fields hd1)
  refine wpAny_bind (wpAny_setField ho1 hd1 (by simp) ?_)
  have hd2:=Obj.data_mapFields hd1 (·.setIfInBounds 1 (rawInt ((i:Int)+1)))
  have ho2:=Heap.get?_update_self (Obj.mapFields (·.setIfInBounds 1 (rawInt ((i:Int)+1)))) ho1 (Obj.isFreed_of_fields hd2)
  have hoth:∀ b o,b≠I→s.heap.get? b=some o→((s.heap.update I (Obj.mapFields (·.setIfInBounds 0 (rawInt (posAt w L (i+1):Nat))))).update I (Obj.mapFields (·.setIfInBounds 1 (rawInt ((i:Int)+1))))).get? b=some o:=fun b o hb e=>
   (Heap.get?_update_other _ _ (Ne.symm hb)).trans ((Heap.get?_update_other _ _ (Ne.symm hb)).trans e)
  refine wpAny_pure ⟨_,rfl,wpAny_pure (hQ _ _ s.toks ⟨_,List.getElem?_eq_getElem hii,rfl⟩ ⟨⟨oS,hoth S oS hSI hoS,hexS,hdS⟩,_,ho2,(Obj.cls_mapFields ..).trans ((Obj.cls_mapFields ..).trans hc),?_⟩ fun b o hb e=>hoth b o (fun q=>hb (by simp[q])) e)⟩
  rw[hd2]
  simp[rawInt]
 done:=fun s Q E st hQ=>by
  obtain⟨hS,o,ho,hc,hd⟩:=id st
  obtain⟨oS,hoS,hexS,hdS⟩:=id hS
  have hsz:es.size=L.length:=by rw[← Array.length_toList,← h1,List.length_map]
  have hf:(tabOf L (!w.params.followText "set-order")).fits es.size=true:=by
   rw[hsz];have:=f.len;simp[tabOf,SetTable.fits,SetTable.fill];omega
  have hT:s.TypeIs (.ref I) "set_iterator":=⟨o,ho,hc⟩
  unfold pyNext
  refine wpAny_bind (wpAny_attempt (wpAny_callSpecial?_slot (name:=Str.ofString "__next__") hT slot_setit_next
   (wpAny_call_entry slot_setit_next hT kj ?_ (qe _))))
  show wpAny _ _ (fieldsOf (.ref I) >>= _) _ _ s
  refine wpAny_bind (wpAny_fieldsOf ho hd ?_)
  show wpAny _ _ (setEntries S >>= _) _ _ s
  refine wpAny_bind (wpAny_setEntries_of hoS hdS hf ?_)
  simp only[bne_self_eq_false,Bool.false_eq_true,if_false]
  refine wpAny_bind ?_
  simp only[Int.toNat_natCast]
  refine zab f h1 hS (Nat.le_refl _) ?_
  have hlen:(x6 w S ep es).length=L.length:=by rw[ordOf_perm.length_eq,← h1,List.length_map]
  rw[List.getElem?_eq_none (by rw[hlen];exact Nat.le_refl _)]
  dsimp only[Option.map]
  refine wpAny_bind (wpAny_setField ho hd (by simp) ?_)
  show wpAny _ _ (newExc (.type "StopIteration") [] >>= _) _ _ _
  refine wpAny_bind ?_
  simp only[newExc,newTuple]
  refine wpAny_bind (wpAny_newObj_type ?_ (by size_fits))
  refine wpAny_bind (m:=firstArgMember _ _) (wpAny_of_eq (a:=Value.none) (by first | rfl | (simp only[firstArgMember];rfl)) ?_)
  refine wpAny_newObj_type ?_ (by size_fits)
  simp only[raiseNew]
  refine wpAny_bind (wpAny_handled ?_)
  first | rw[show A.in1.handled=none from hh] | rw[hh]
  refine wpAny_bind (wpAny_pure (wpAny_throw ?_))
  refine wpAny_bind (wpAny_isInstance (T:="StopIteration") (b:=true) ⟨_,Heap.get?_push_size _ rfl,rfl⟩ isSubtype_stop ?_)
  refine wpAny_pure (hQ _ s.toks fun b o hb e=>?_)
  exact Heap.get?_push_of_some _ (Heap.get?_push_of_some _ ((Heap.get?_update_other _ _ (fun q=>hb (by simp[← q]))).trans e))
 self:=fun i s Q E st q=>by
  obtain⟨hS,o,ho,hc,hd⟩:=id st
  have hT:s.TypeIs (.ref I) "set_iterator":=⟨o,ho,hc⟩
  refine wpAny_pyIter_slot hT qa (wpAny_call_entry qa hT uy ?_ (g9 _))
  show wpAny _ _ (ret (.ref I)) _ _ s
  exact wpAny_pure ⟨_,rfl,"set_iterator",_,hT,slot_setit_next.lookup,q⟩
end
section
variable{prog:Program}{w:World}{A:Around}{E:Value→Shared→Prop}{s:Shared}{S I:Addr}{es:Array (Int×Value)}{ep:Nat}{L:List Int}
theorem zk1{Q:Value→Shared→Prop}(f:Few L 4)(h1:es.toList.map (·.1)=L)(hS:∃ o,s.heap.get? S=some o∧o.ExactSet∧o.data=.set es ep (tabOf L (!w.params.followText "set-order")))
 (hQ:Q (.ref s.heap.objs.size) { s with heap:=s.heap.push { cls:=.type "set_iterator",data:=.fields #[.int 0 0,.int 0 0,.ref S,.int es.size 0,.int ep 0] } }):wpAny (model prog w) A (pyIter (.ref S)) Q E s:=by
 obtain⟨o,ho,hex,hd⟩:=hS
 have hsz:es.size=L.length:=by rw[← Array.length_toList,← h1,List.length_map]
 have hf:(tabOf L (!w.params.followText "set-order")).fits es.size=true:=by
  rw[hsz];have:=f.len;simp[tabOf,SetTable.fits,SetTable.fill];omega
 have hT:s.TypeIs (.ref S) "set":=⟨o,ho,hex.1⟩
 refine wpAny_pyIter_slot hT PySem.F.slot_set_iter (wpAny_call_entry PySem.F.slot_set_iter hT za1 ?_ (PySem.F.args_set_iter_1 _))
 show wpAny _ _ (Builtin.Frozenset.sizeOf S >>= _) _ _ s
 unfold Builtin.Frozenset.sizeOf
 refine wpAny_bind (wpAny_bind (wpAny_setEntries_of ho hd hf (wpAny_pure ?_)))
 refine wpAny_bind ?_
 unfold setDrawn
 refine wpAny_bind (wpAny_setState_of ho hd hf ?_)
 dsimp only
 unfold setsByText
 refine wpAny_bind (wpAny_bind (wpAny_askSetting (wpAny_pure (wpAny_pure ?_))))
 have hdr:∀ b:Bool,(b && false)=false:=fun b=>by cases b <;> rfl
 show wpAny _ _ (if (!(w.params.followText "set-order") && false)=true then _ else _) _ _ _
 rw[hdr,if_neg Bool.false_ne_true]
 refine wpAny_bind (wpAny_pure ?_)
 refine wpAny_bind (wpAny_setEpoch_of ho hd hf ?_)
 exact wpAny_bind (wpAny_newObj_type (wpAny_pure ⟨_,rfl,"set_iterator",_,⟨_,Heap.get?_push_size _ rfl,rfl⟩,slot_setit_next.lookup,hQ⟩))
theorem zk8{Q:Bool→Shared→Prop}{o:Obj}(ho:s.heap.get? S=some o)(hc:o.cls=.type "set")(h:Q false s):wpAny (model prog w) A (Builtin.List.listLengthHint (.ref S)) Q E s:=by
 have hT:s.TypeIs (.ref S) "set":=⟨o,ho,hc⟩
 unfold Builtin.List.listLengthHint
 refine wpAny_bind (wpAny_specialOf hT PySem.F.slot_set_len.lookup ?_)
 generalize hid:("set.__len__" : String)=id0
 wp_delta
 rw [show splitId id0=some ("set","__len__") from by subst hid;decide +kernel]
 subst hid
 refine wpAny_bind (wpAny_isInstance (T:="set") (b:=true) hT (by rw [isSubtype_type];kernel_rfl) ?_)
 refine wpAny_ite_split (fun hab=>absurd hab (by decide)) (fun _=>?_)
 refine wpAny_ite_split (fun _=>?_) (fun hab=>absurd (by decide +kernel) hab)
 refine wpAny_bind (wpAny_typeOf hT ?_)
 exact wpAny_pure h
theorem ze1{Q:List Value→Shared→Prop}(hh:A.handled=none)(f:Few L 4)(h1:es.toList.map (·.1)=L)(hS:∃ o,s.heap.get? S=some o∧o.ExactSet∧o.data=.set es ep (tabOf L (!w.params.followText "set-order")))
 (hQ:∀ h' tk,(∀ b o,s.heap.get? b=some o→h'.get? b=some o)→Q ((x6 w S ep es).map (·.2)) { s with heap:=h',toks:=tk }):wpAny (model prog w) A (collect (.ref S)) Q E s:=by
 obtain⟨o,ho,hex,hd⟩:=id hS
 have hSlt:=Heap.lt_size ho
 have hlen:(x6 w S ep es).length=L.length:=by rw[ordOf_perm.length_eq,← h1,List.length_map]
 unfold collect
 refine wpAny_bind (wpAny_runValue (codeAny_builtin entry_proto_collect' ?_))
 show wpAny _ _ (do again (.builtin "list.__iadd__" ⟨[← newList [],.ref S],[]⟩)) _ _ s
 refine wpAny_bind (wpAny_newList (wpAny_pure ⟨Code.quiet_builtin _ (by decide +kernel),codeAny_builtin entry_list_iadd' ?_⟩))
 rw[Around.under_plainId (by decide +kernel) _]
 show wpAny _ _ (Builtin.List.listExtendWith (.ref s.heap.objs.size) (.ref S) (.ref s.heap.objs.size)) _ _ { s with heap:=s.heap.push (seqObj "list" #[] 0) }
 unfold Builtin.List.listExtendWith
 have ho':(s.heap.push (seqObj "list" #[] 0)).get? S=some o:=Heap.get?_push_of_some _ ho
 refine wpAny_bind (wpAny_typeOf (T:="set") ⟨o,ho',hex.1⟩ ?_)
 have e1:Builtin.List.listSameRef (.ref s.heap.objs.size) (.ref S)=false:=by
  have:s.heap.objs.size≠S:=Nat.ne_of_gt hSlt
  simp[Builtin.List.listSameRef,this]
 have e2:(Value.type "set" == Value.type "list")=false:=by decide
 have e3:(Value.type "set" == Value.type "tuple")=false:=by decide
 simp only[e1,e2,e3,Bool.or_false,Bool.false_eq_true,if_false]
 refine wpAny_bind (zk1 (s:={ s with heap:=s.heap.push (seqObj "list" #[] 0) }) f h1 ⟨o,ho',hex,hd⟩ ?_)
 have hsz1:(s.heap.push (seqObj "list" #[] 0)).objs.size=s.heap.objs.size+1:=size_push' _ _
 generalize hI:(s.heap.push (seqObj "list" #[] 0)).objs.size=J at *
 have hDJ:s.heap.objs.size≠J:=by rw[hsz1];exact Nat.ne_of_lt (Nat.lt_succ_self _)
 have hSJ:S≠J:=by rw[hsz1];exact Nat.ne_of_lt (Nat.lt_succ_of_lt hSlt)
 have hS0:((s.heap.push (seqObj "list" #[] 0)).push { cls:=.type "set_iterator",data:=.fields #[.int 0 0,.int 0 0,.ref S,.int es.size 0,.int ep 0] }).get? S=some o:=Heap.get?_push_of_some _ ho'
 have hD0:((s.heap.push (seqObj "list" #[] 0)).push { cls:=.type "set_iterator",data:=.fields #[.int 0 0,.int 0 0,.ref S,.int es.size 0,.int ep 0] }).get? s.heap.objs.size=some { cls:=.type "list",data:=.seq #[] }:=Heap.get?_push_of_some _ (Heap.get?_push_size _ rfl)
 have hJ0:((s.heap.push (seqObj "list" #[] 0)).push { cls:=.type "set_iterator",data:=.fields #[.int 0 0,.int 0 0,.ref S,.int es.size 0,.int ep 0] }).get? J=some { cls:=.type "set_iterator",data:=.fields #[.int 0 0,.int 0 0,.ref S,.int es.size 0,.int ep 0] }:=by
  rw[← hI];exact Heap.get?_push_size _ rfl
 refine wpAny_bind (wpAny_holding (zk8 hS0 hex.1 ?_))
 refine wpAny_ite_split (fun _=>?_) (fun hab=>absurd (by decide +kernel) hab)
 refine wpAny_bind (wpAny_rule ?_)
 refine wpAny_bind ?_
 show wpAny _ _ (updateSeq s.heap.objs.size (·.push .none) >>= fun _=>updateSeq s.heap.objs.size (·.pop)) _ _ _
 refine wpAny_bind (wpAny_updateSeq hD0 rfl ?_)
 have hD2:=Heap.get?_update_self (Obj.mapSeq (·.push Value.none)) hD0 rfl
 refine wpAny_updateSeq (hz:=by seq_fits) hD2 rfl ?_
 have hD3:=Heap.get?_update_self (Obj.mapSeq (·.pop)) hD2 rfl
 have oth:∀ b o',b≠s.heap.objs.size→((s.heap.push (seqObj "list" #[] 0)).push { cls:=.type "set_iterator",data:=.fields #[.int 0 0,.int 0 0,.ref S,.int es.size 0,.int ep 0] }).get? b=some o' →
  ((((s.heap.push (seqObj "list" #[] 0)).push { cls:=.type "set_iterator",data:=.fields #[.int 0 0,.int 0 0,.ref S,.int es.size 0,.int ep 0] }).update s.heap.objs.size (Obj.mapSeq (·.push Value.none))).update s.heap.objs.size (Obj.mapSeq (·.pop))).get? b=some o':=fun b o' hb e=>
  (Heap.get?_update_other _ _ (Ne.symm hb)).trans ((Heap.get?_update_other _ _ (Ne.symm hb)).trans e)
 have W:=(SetIt.walks (prog:=prog) (w:=w) (A:=A.in1) (S:=S) (I:=J) (es:=es) (ep:=ep) hh f h1 hSJ).toS
 have hpos:posAt w L 0=0:=by unfold posAt;split <;> rfl
 refine wpAny_pure ⟨plainId_quiet PySem.F.plain_extend_loop _,codeAny_extend_loopS W (by rw[sizeLine_eq];have:=f.len;omega) s.heap.objs.size (by simp only[List.mem_cons,List.not_mem_nil,or_false,not_or];exact⟨hDJ,Nat.ne_of_gt hSlt⟩) _ L.length 0 _ #[] _ rfl (Nat.zero_le _)
  ⟨⟨o,oth S o (Nat.ne_of_lt hSlt) hS0,hex,hd⟩,_,oth J _ (Ne.symm hDJ) hJ0,rfl,by rw[hpos];rfl⟩ hD3 (ItemsOf.nil _) fun s' acc' c' hm hS' hacc=>?_⟩
 show wpAny (model prog w) A (do
  let o ← load s.heap.objs.size
  match o.data with
  | .seq xs _=>pure xs.toList
  | _=>unsupported "internal:collect") Q E s'
 refine wpAny_bind (wpAny_load hS' ?_)
 refine wpAny_pure ?_
 rw[Moved.eq_with hm]
 have hout:acc'.toList=(x6 w S ep es).map (·.2):=by
  refine List.ext_getElem? fun i=>?_
  rw[Array.getElem?_toList,List.getElem?_map]
  cases he:acc'[i]? with
  | none=>
    have:(x6 w S ep es)[i]?=none:=by
     rw[List.getElem?_eq_none_iff,hlen,← hacc.1]
     exact Array.getElem?_eq_none_iff.mp he
    rw[this];rfl
  | some v=>
    obtain⟨e,h2,h3⟩:=hacc.2 i v he
    rw[h2,h3];rfl
 rw[hout]
 refine hQ s'.heap s'.toks fun b o' e=>?_
 have hb:=Heap.lt_size e
 refine hm.heap b o' (fun hmem=>?_) (oth b o' (Nat.ne_of_lt hb) (Heap.get?_push_of_some _ (Heap.get?_push_of_some _ e)))
 rcases List.mem_cons.mp hmem with q | hmem
 ·exact Nat.ne_of_lt hb q
 ·have q:=List.mem_singleton.mp hmem
  rw[q,hsz1] at hb
  exact absurd hb (Nat.not_lt.mpr (Nat.le_succ _))
end
section
variable{prog:Program}{w:World}{A:Around}{E:Value→Shared→Prop}{s:Shared}{S:Addr}{L:List Int}
theorem qc:∀ (l:List (Int×Value)),(∀ e∈l,∃ t,e.2=.int e.1 t)→IntsAre (l.map (·.2)) (l.map (·.1))
 | [],_=>.nil
 | e::l,h=>by
   obtain⟨t,ht⟩:=h e List.mem_cons_self
   rw[List.map_cons,List.map_cons,ht]
   exact .cons _ _ (qc l fun e he=>h e (List.mem_cons_of_mem _ he))
theorem readsAll_ints{h:Heap}:∀ {vs:List Value} {ns:List Int},IntsAre vs ns→ReadsAll h vs (ns.map .int) []
 | _,_,.nil=>.nil
 | _,_,.cons n t r=>ReadsAll.cons (as:=[]) (bs:=[]) (.int n t) (readsAll_ints r)
theorem zfs{Q:Value→Shared→Prop}(hh:A.handled=none)(f:Few L 4)(hS:SmallSet s.heap S L (!w.params.followText "set-order"))
 (h:∀ D h' tk c out,s.heap.get? D=none→(∀ b o,s.heap.get? b=some o→h'.get? b=some o)→h'.get? D=some (seqObj "list" out c)→IntsAre out.toList L→Q (.ref D) { s with heap:=h',toks:=tk }) :
 wpAny (model prog w) A (call (.builtin "sorted") [.ref S]) Q E s:=by
 obtain⟨o,es,ep,ho,hex,hd,h1,h2⟩:=hS
 have hpl:(x6 w S ep es).Perm es.toList:=ordOf_perm
 have hint:=qc (x6 w S ep es) fun e he=>h2 e (hpl.mem_iff.mp he)
 have hlen:((x6 w S ep es).map (·.2)).length=L.length:=by rw[List.length_map,hpl.length_eq,← h1,List.length_map]
 have hl4:=f.len
 refine Calls.call_function_entry kind_sorted plain_sorted entry_sorted (args_sorted1 _) ?_
 unfold Builtin.«sorted»
 refine wpAny_bind (m:=checkCount "sorted" 1 1 _) (wpAny_pure ?_)
 refine wpAny_bind (ze1 (A:=A.in1) hh f h1 ⟨o,ho,hex,hd⟩ fun h₁ tk₁ hk₁=>?_)
 refine wpAny_bind (wpAny_newList ?_ (by rw[hlen,sizeLine_eq];omega))
 have hoL:(h₁.push (seqObj "list" ((x6 w S ep es).map (·.2)).toArray 0)).get? h₁.objs.size=some (seqObj "list" ((x6 w S ep es).map (·.2)).toArray 0):=Heap.get?_push_size _ rfl
 have hDn:s.heap.get? h₁.objs.size=none:=by
  cases e:s.heap.get? h₁.objs.size with
  | none=>rfl
  | some o'=>exact absurd (Heap.lt_size (hk₁ _ _ e)) (Nat.lt_irrefl _)
 refine wpAny_bind (wpAny_holding (wpAny_call_entry slot_list_sort ⟨_,hoL,rfl⟩ entry_list_sort (list_sort_tree hoL hint (by rw[hlen];omega) fun out ns' a1 a2 a3=>⟨_,rfl,?_⟩) (args_list_sort _)))
 obtain⟨k1,c,k2⟩:=gj (out:=out.toList) hoL
 have e1:out.toList.toArray=out:=by simp
 rw[e1] at k1 k2
 have hup:L.Pairwise (·≤·):=f.up.imp fun h=>Int.le_of_lt h
 have hns:ns'=L:=ksm_same (a2.trans (by rw[← h1];exact hpl.map _)) a3 hup
 subst hns
 refine wpAny_pure ⟨_,rfl,h _ _ _ c out hDn (fun b o' e=>?_) k2 a1⟩
 have hne:b≠h₁.objs.size:=fun q=>by rw[q,hDn] at e;cases e
 exact k1 b o' hne (Heap.get?_push_of_some _ (hk₁ b o' e))
end
theorem wd(is:List Int):upTo is is.length=x9 is:=by unfold upTo x9;rw[List.take_length]
theorem zpo{G:Gl}{P:Pg}:zff G P:=by
 intro _ A F s β ρ O v xs is k ro hh sr rv hi hsm
 obtain⟨a,o,vs,n,rfl,h1,h2,h3,as,h4,h5⟩:=rv.tuple_inv
 unfold small at hsm
 simp only[Bool.and_eq_true,decide_eq_true_eq,List.all_eq_true] at hsm
 obtain⟨h4',hr⟩:=hsm
 have hr':∀ x∈is,0≤x∧x < 5:=fun x hx=>hr x hx
 have hIs:=ints_get h4 hi
 have few:=wy hr' is.length
 have few4:Few (upTo is is.length) 4:=⟨few.up,few.lo,Nat.le_trans few.len h4'⟩
 have hT:s.heap.IsTuple a vs:=⟨o,h1,h2,n,h3⟩
 refine⟨LeafD.leaf sr fun Q E kk=>?_,LeafD.leaf sr fun Q E kk=>?_⟩
 ·refine q0 hh hT hIs hr' h4' fun h' tk hS hk=>?_
  obtain⟨o',es,ep,ho,hex,hd,g1,g2⟩:=hS
  have hsz:es.size=(upTo is is.length).length:=by rw[← Array.length_toList,← g1,List.length_map]
  have hf:(tabOf (upTo is is.length) (!G.w.params.followText "set-order")).fits es.size=true:=by
   rw[hsz];have:=few4.len;simp[tabOf,SetTable.fits,SetTable.fill];omega
  refine call_len_set (s:={ s with heap:=h',toks:=tk }) ho hex hd hf (by rw[hsz];have:=few4.len;omega) ?_
  refine kk _ _ (ye hk) ⟨?_,fun _ h=>by cases h⟩
  rw[hsz,wd]
  exact VR.int
 ·refine q0 hh hT hIs hr' h4' fun h' tk hS hk=>?_
  refine zfs (s:={ s with heap:=h',toks:=tk }) hh few4 hS fun D h'' tk'' c out hDn hk' hD hout=>?_
  have hkk:∀ b o,s.heap.get? b=some o→h''.get? b=some o:=fun b o e=>hk' b o (hk b o e)
  have hDs:s.heap.get? D=none:=by
   cases e:s.heap.get? D with
   | none=>rfl
   | some o'=>have:=hk D o' e;rw[hDn] at this;cases this
  have hDβ:D∉β∧D∉F.B:=⟨fun hm=>(by obtain⟨o,e,_⟩:=sr.br.alive D hm;rw[hDs] at e;cases e),fun hm=>(by obtain⟨o,e,_⟩:=sr.fm.stor D hm;rw[hDs] at e;cases e)⟩
  refine kk _ _ (ye hkk) ⟨?_,fun _ _=>⟨D,rfl,hDs,_,hD,rfl,rfl⟩⟩
  rw[wd] at hout
  exact xl hD rfl rfl (readsAll_ints hout) (fun _ h=>nomatch h) hDβ
end Mine
end
section
namespace Mine
open PySem PySem.SetTable
noncomputable abbrev Ent:=Nat×Int×Value
noncomputable def places(L:List Ent):Array Nat:=(L.map (·.1)).toArray
noncomputable def elems(L:List Ent):Array (Int×Value):=(L.map (·.2)).toArray
noncomputable def Rise(L:List Ent):Prop:=L.Pairwise fun a b=>a.1 < b.1
theorem zl9{xs:Array Nat}{j c:Nat}(h:∀ i (hi:i < xs.size),xs[i] < j↔i < c):∀ (fuel lo hi:Nat),lo≤c→c≤hi→hi≤xs.size→hi≤fuel+lo→below.go xs j fuel lo hi=c:=by
 intro fuel
 induction fuel with
 | zero=>exact fun lo hi h1 h2 _ h4=>Nat.le_antisymm h1 (Nat.le_trans h2 (Nat.zero_add lo ▸ h4))
 | succ fuel ih=>
   intro lo hi h1 h2 h3 h4
   show (if lo < hi then (if xs.getD ((lo+hi) / 2) j < j then below.go xs j fuel ((lo+hi) / 2+1) hi else below.go xs j fuel lo ((lo+hi) / 2)) else lo)=c
   by_cases hl:lo < hi
   ·have a1:lo≤(lo+hi) / 2:=by omega
    have a2:(lo+hi) / 2 < hi:=by omega
    generalize (lo+hi) / 2=m at a1 a2
    have hm:m < xs.size:=Nat.lt_of_lt_of_le a2 h3
    have e:xs.getD m j=xs[m]:=by rw[Array.getD_eq_getD_getElem?,Array.getElem?_eq_getElem hm];rfl
    rw[if_pos hl,e]
    by_cases hx:xs[m] < j
    ·rw[if_pos hx]
     exact ih _ hi ((h _ hm).mp hx) h2 h3 (Nat.le_trans h4 (by omega))
    ·rw[if_neg hx]
     exact ih lo _ h1 (Nat.le_of_not_lt fun q=>hx ((h _ hm).mpr q)) (Nat.le_of_lt hm) (Nat.le_of_lt_succ (Nat.lt_of_lt_of_le a2 (Nat.succ_add fuel lo ▸ h4)))
   ·rw[if_neg hl]
    exact Nat.le_antisymm h1 (Nat.le_trans h2 (Nat.le_of_not_lt hl))
theorem zma{xs:Array Nat}{j c:Nat}(hc:c≤xs.size)(h:∀ i (hi:i < xs.size),xs[i] < j↔i < c):below xs j=c:=
 zl9 h _ _ _ (Nat.zero_le _) hc (Nat.le_refl _) (Nat.le_refl _)
theorem j1{A B:List Ent}{j:Nat}(hA:∀ e∈A,e.1 < j)(hB:∀ e∈B,j≤e.1):below (places (A++B)) j=A.length:=by
 refine zma (by simp[places]) fun i hi=>?_
 have hs:i < (A++B).length:=by simpa [places] using hi
 have e:(places (A++B))[i]=((A++B)[i]).1:=by
  apply Option.some.inj
  rw[← Array.getElem?_eq_getElem hi]
  unfold places
  rw[List.getElem?_toArray,List.getElem?_map,List.getElem?_eq_getElem hs]
  rfl
 rw[e]
 by_cases h:i < A.length
 ·rw[List.getElem_append_left h]
  exact⟨fun _=>h,fun _=>hA _ (List.getElem_mem _)⟩
 ·rw[List.getElem_append_right (by omega)]
  have:=hB _ (List.getElem_mem (l:=B) (n:=i - A.length) (by simp at hs;omega))
  constructor
  ·intro q;omega
  ·intro q;omega
theorem wl(j:Nat):∀ (L:List Ent),Rise L→∃ A B,L=A++B∧(∀ e∈A,e.1 < j)∧∀ e∈B,j≤e.1
 | [],_=>⟨[],[],rfl,fun _ h=>(nomatch h),fun _ h=>(nomatch h)⟩
 | x::L,h=>by
   have h':Rise L:=(List.pairwise_cons.mp h).2
   by_cases hx:x.1 < j
   ·obtain⟨A,B,rfl,h1,h2⟩:=wl j L h'
    exact⟨x::A,B,rfl,fun e he=>by
     rcases List.mem_cons.mp he with rfl | he
     ·exact hx
     ·exact h1 e he,h2⟩
   ·refine⟨[],x::L,rfl,fun _ h=>(nomatch h),fun e he=>?_⟩
    rcases List.mem_cons.mp he with rfl | he
    ·omega
    ·have:=(List.pairwise_cons.mp h).1 e he;omega
structure j5(t:SetTable)(m:Nat)(ld:Bool)(L:List Ent):Prop where
 mask:t.mask=m
 place:t.place=places L
 dummies:t.dummies = #[]
 led:t.led=ld
 plain:t.plain=true
theorem zb0{t:SetTable}{m:Nat}{ld:Bool}{A B:List Ent}{e:Ent}(ht:j5 t m ld (A++e::B))(hr:Rise (A++e::B)):t.slot e.1=.live A.length:=by
 have hA:∀ x∈A,x.1 < e.1:=fun x hx=>(List.pairwise_append.mp hr).2.2 x hx e List.mem_cons_self
 have hB:∀ x∈e::B,e.1≤x.1:=fun x hx=>by
  rcases List.mem_cons.mp hx with rfl | hx
  ·exact Nat.le_refl _
  ·exact Nat.le_of_lt ((List.pairwise_cons.mp (List.pairwise_append.mp hr).2.1).1 x hx)
 unfold slot
 rw[ht.place,j1 hA hB]
 dsimp only
 rw[if_pos]
 simp[places]
theorem zft{t:SetTable}{m:Nat}{ld:Bool}{L:List Ent}{j:Nat}(ht:j5 t m ld L)(hr:Rise L)(hj:∀ e∈L,e.1≠j):t.slot j=.empty:=by
 obtain⟨A,B,rfl,hA,hB⟩:=wl j L hr
 unfold slot
 rw[ht.place,j1 hA hB,ht.dummies]
 dsimp only
 have h1:((places (A++B))[A.length]? == some j)=false:=by
  cases B with
  | nil=>simp[places]
  | cons b B=>
    have:(places (A++b::B))[A.length]?=some b.1:=by simp[places]
    rw[this]
    have hb:=hj b (by simp)
    simpa using hb
 rw[if_neg (by rw[h1];decide)]
 have h2:has #[] j=false:=by simp[has]
 rw[if_neg (by rw[h2];decide)]
theorem zpx{t:SetTable}{m:Nat}{ld:Bool}{L:List Ent}{j:Nat}(ht:j5 t m ld L)(hr:Rise L)(hj:∀ e∈L,e.1≠j)(h:Int)(x:Value):∃ A B,L=A++B∧(t.put j).2=A.length∧j5 (t.put j).1 m ld (A++(j,h,x)::B)∧Rise (A++(j,h,x)::B) ∧
 insertAt (elems L) A.length (h,x)=elems (A++(j,h,x)::B):=by
 obtain⟨A,B,rfl,hA,hB⟩:=wl j L hr
 have hB':∀ e∈B,j < e.1:=fun e he=>Nat.lt_of_le_of_ne (hB e he) (fun q=>hj e (List.mem_append_right _ he) q.symm)
 have ins:∀ {α:Type} (f:Ent→α) (z:α),insertAt ((A++B).map f).toArray A.length z=(A.map f++z::B.map f).toArray:=by
  intro α f z
  unfold insertAt
  apply Array.toList_inj.mp
  simp
  exact List.take_of_length_le (by simp)
 refine⟨A,B,rfl,?_,⟨ht.mask,?_,?_,ht.led,ht.plain⟩,?_,?_⟩
 ·unfold put;dsimp only;rw[ht.place,j1 hA hB]
 ·unfold put;dsimp only
  rw[ht.place,j1 hA hB]
  unfold places
  rw[ins];simp
 ·unfold put;dsimp only
  rw[ht.dummies]
  rfl
 ·refine List.pairwise_append.mpr ⟨(List.pairwise_append.mp hr).1,List.pairwise_cons.mpr ⟨hB',(List.pairwise_append.mp hr).2.1⟩,fun a ha b hb=>?_⟩
  rcases List.mem_cons.mp hb with rfl | hb
  ·exact hA a ha
  ·exact (List.pairwise_append.mp hr).2.2 a ha b hb
 ·unfold elems
  rw[ins];simp
noncomputable def advM(m:Nat)(p:Probe):Probe:=
 if p.more > 0 then { p with j:=p.j+1,more:=p.more - 1 } else
 { p with j:=(leap m p.i p.perturb).1,more:=runEnd m (leap m p.i p.perturb).1 - (leap m p.i p.perturb).1,i:=(leap m p.i p.perturb).1,perturb:=(leap m p.i p.perturb).2 }
theorem zg0(t:SetTable)(p:Probe):t.advance p=advM t.mask p:=by unfold advance advM;split <;> rfl
noncomputable def lp(m i pt:Nat):Probe:={ j:=i,more:=runEnd m i - i,i:=i,perturb:=pt,dummy:=none }
noncomputable def advN(m:Nat):Nat→Probe→Probe
 | 0,p=>p
 | n+1,p=>advN m n (advM m p)
theorem ja(m:Nat):∀ (a b:Nat) (p:Probe),advN m (a+b) p=advN m b (advN m a p)
 | 0,b,p=>by rw[Nat.zero_add];rfl
 | a+1,b,p=>by rw[Nat.succ_add];exact ja m a b (advM m p)
theorem zbg(m:Nat):∀ (k:Nat) (p:Probe),k≤p.more→advN m k p = { p with j:=p.j+k,more:=p.more - k }
 | 0,p,_=>rfl
 | k+1,p,h=>by
   rw[advN,zbg m k _ (by unfold advM;rw[if_pos (by omega)];show k≤p.more - 1;omega)]
   unfold advM
   rw[if_pos (by omega)]
   simp only[Probe.mk.injEq]
   refine⟨by omega,by omega,trivial,trivial,trivial⟩
theorem u7(m:Nat)(p:Probe)(hd:p.dummy=none):advN m (p.more+1) p=lp m (leap m p.i p.perturb).1 (leap m p.i p.perturb).2:=by
 rw[ja,zbg m _ _ (Nat.le_refl _)]
 show advM m _=_
 unfold advM lp
 rw[if_neg (by show ¬ (p.more - p.more > 0);omega)]
 simp[hd]
theorem more_le{m i:Nat}:runEnd m i - i≤9:=by unfold runEnd;split <;> omega
noncomputable def lpN(m:Nat):Nat→Nat×Nat→Nat×Nat
 | 0,x=>x
 | q+1,x=>lpN m q (leap m x.1 x.2)
theorem zho(m:Nat):∀ (a b:Nat) (x:Nat×Nat),lpN m (a+b) x=lpN m b (lpN m a x)
 | 0,b,x=>by rw[Nat.zero_add];rfl
 | a+1,b,x=>by rw[Nat.succ_add];exact zho m a b _
theorem zop(m:Nat):∀ (q i pt:Nat),∃ n,n≤10 * q∧advN m n (lp m i pt)=lp m (lpN m q (i,pt)).1 (lpN m q (i,pt)).2
 | 0,i,pt=>⟨0,Nat.le_refl _,rfl⟩
 | q+1,i,pt=>by
   obtain⟨n,h1,h2⟩:=zop m q (leap m i pt).1 (leap m i pt).2
   refine⟨(lp m i pt).more+1+n,?_,?_⟩
   ·have:(lp m i pt).more≤9:=more_le
    omega
   ·rw[ja,u7 m _ rfl]
    exact h2
theorem zkm(m:Nat):∀ (q i pt:Nat),(lpN m q (i,pt)).2=pt / 32 ^ q
 | 0,i,pt=>by simp[lpN]
 | q+1,i,pt=>by
   show (lpN m q ((leap m i pt).1,(leap m i pt).2)).2=_
   rw[zkm m q]
   show pt / 32 / 32 ^ q=_
   rw[Nat.div_div_eq_div_mul,Nat.pow_succ,Nat.mul_comm]
theorem zkn(m:Nat):∀ (q i pt:Nat),i≤m→(lpN m q (i,pt)).1≤m
 | 0,i,pt,h=>h
 | q+1,i,pt,h=>zkn m q _ _ (by show (i * 5+1+pt / 32) % (m+1)≤m;have:=Nat.mod_lt (i * 5+1+pt / 32) (show 0 < m+1 by omega);omega)
noncomputable def full(m:Nat):Bool:=(List.range (m+1)).all fun i=>(List.range (m+1)).all fun j=>(List.range (m+1)).any fun q=>(lpN m q (i,0)).1 == j
theorem zs2:full 7=true:=by decide +kernel
theorem zla:full 31=true:=by decide +kernel
theorem zao{m:Nat}(hf:full m=true){i pt j:Nat}(hi:i≤m)(hp:pt < 2 ^ 64)(hj:j≤m):∃ q,q≤13+m∧(lpN m q (i,pt)).1=j:=by
 have h0:(lpN m 13 (i,pt)).2=0:=by rw[zkm];exact Nat.div_eq_of_lt (Nat.lt_of_lt_of_le hp (by decide))
 have h1:=zkn m 13 i pt hi
 unfold full at hf
 have h2:=List.all_eq_true.mp (List.all_eq_true.mp hf _ (List.mem_range.mpr (Nat.lt_succ_of_le h1))) j (List.mem_range.mpr (Nat.lt_succ_of_le hj))
 obtain⟨q,hq,h3⟩:=List.any_eq_true.mp h2
 rw[List.mem_range] at hq
 refine⟨13+q,by omega,?_⟩
 rw[zho]
 have:lpN m 13 (i,pt)=((lpN m 13 (i,pt)).1,0):=Prod.ext rfl h0
 rw[this]
 exact beq_iff_eq.mp h3
structure Stand(m:Nat)(p:Probe):Prop where
 d:p.dummy=none
 i:p.i≤m
 pt:p.perturb < 2 ^ 64
 more:p.more≤9
theorem zh7(h:Int):bits h < 2 ^ 64:=by
 unfold bits
 have h1:0≤h % (2 ^ 64:Int):=Int.emod_nonneg _ (by decide)
 have h2:h % (2 ^ 64:Int) < 2 ^ 64:=Int.emod_lt_of_pos _ (by decide)
 omega
theorem Stand.lp{m i pt:Nat}(hi:i≤m)(hp:pt < 2 ^ 64):Stand m (lp m i pt):=⟨rfl,hi,hp,more_le⟩
theorem Stand.adv{m:Nat}{p:Probe}(h:Stand m p):Stand m (advM m p):=by
 unfold advM
 split
 ·exact⟨h.d,h.i,h.pt,by show p.more - 1≤9;have:=h.more;omega⟩
 ·refine⟨h.d,?_,?_,more_le⟩
  ·show (p.i * 5+1+p.perturb / 32) % (m+1)≤m
   have:=Nat.mod_lt (p.i * 5+1+p.perturb / 32) (show 0 < m+1 by omega);omega
  ·show p.perturb / 32 < 2 ^ 64
   have:=h.pt;omega
theorem Stand.advN{m:Nat}:∀ (n:Nat) {p:Probe},Stand m p→Stand m (advN m n p)
 | 0,_,h=>h
 | n+1,_,h=>Stand.advN n h.adv
theorem meets{m:Nat}(hf:full m=true){p:Probe}(hp:Stand m p){j:Nat}(hj:j≤m):∃ n,n < 10 * turns m∧(advN m n p).j=j:=by
 have hl:(leap m p.i p.perturb).1≤m:=by
  show (p.i * 5+1+p.perturb / 32) % (m+1)≤m
  have:=Nat.mod_lt (p.i * 5+1+p.perturb / 32) (show 0 < m+1 by omega);omega
 have h2:(leap m p.i p.perturb).2 < 2 ^ 64:=by
  show p.perturb / 32 < 2 ^ 64
  have:=hp.pt;omega
 obtain⟨q,hq,e⟩:=zao hf hl h2 hj
 obtain⟨n,hn,en⟩:=zop m q (leap m p.i p.perturb).1 (leap m p.i p.perturb).2
 refine⟨p.more+1+n,?_,?_⟩
 ·have:=hp.more
  unfold turns
  omega
 ·rw[ja,u7 m p hp.d,en]
  exact e
theorem qk:∀ {l l':List Nat},l.Nodup→(∀ x∈l,x∈l')→l.length≤l'.length
 | [],_,_,_=>Nat.zero_le _
 | a::l,l',hn,hs=>by
   obtain⟨h1,h2⟩:=List.nodup_cons.mp hn
   have:=qk (l':=l'.erase a) h2 fun x hx=>(List.mem_erase_of_ne (fun e=>h1 (by rw[← e];exact hx))).mpr (hs x (List.mem_cons_of_mem _ hx))
   rw[List.length_erase_of_mem (hs a List.mem_cons_self)] at this
   have hp:0 < l'.length:=List.length_pos_of_mem (hs a List.mem_cons_self)
   rw[List.length_cons]
   omega
noncomputable def FirstFree(L:List Ent)(m n:Nat)(p:Probe):Prop:=(∀ e∈L,e.1≠(advN m n p).j)∧∀ k,k < n→∃ e∈L,e.1=(advN m k p).j
theorem zi1{L:List Ent}{m:Nat}(hf:full m=true)(hl:L.length≤m){p:Probe}(hp:Stand m p):∃ n,n < 10 * turns m∧FirstFree L m n p:=by
 have hfree:∃ j,j≤m∧∀ e∈L,e.1≠j:=by
  refine Classical.byContradiction fun hn=>?_
  have hall:∀ j,j∈List.range (m+1)→j∈L.map (·.1):=fun j hj=>by
   refine Classical.byContradiction fun hc=>hn ⟨j,Nat.lt_succ_iff.mp (List.mem_range.mp hj),fun e he q=>hc (List.mem_map.mpr ⟨e,he,q⟩)⟩
  have:=qk List.nodup_range hall
  simp at this
  omega
 obtain⟨j,hj,hfr⟩:=hfree
 obtain⟨n,hn,e⟩:=meets hf hp hj
 have key:∀ n,(∀ e∈L,e.1≠(advN m n p).j)→∃ k,k≤n∧FirstFree L m k p:=by
  intro n
  induction n using Nat.strongRecOn with
  | ind n ih=>
    intro h
    by_cases hx:∃ k,k < n∧∀ e∈L,e.1≠(advN m k p).j
    ·obtain⟨k,hk,h'⟩:=hx
     obtain⟨k',h1,h2⟩:=ih k hk h'
     exact⟨k',by omega,h2⟩
    ·refine⟨n,Nat.le_refl _,h,fun k hk=>?_⟩
     refine Classical.byContradiction fun hc=>hx ⟨k,hk,fun e he q=>hc ⟨e,he,q⟩⟩
 obtain⟨k,h1,h2⟩:=key n (by rw[e];exact hfr)
 exact⟨k,by omega,h2⟩
noncomputable def yw(m:Nat)(h:Int):Probe:=lp m (bits h % (m+1)) (bits h)
theorem zdy(m:Nat)(h:Int):Stand m (yw m h):=.lp (by have:=Nat.mod_lt (bits h) (show 0 < m+1 by omega);omega) (zh7 h)
noncomputable def Reach(L:List Ent)(m:Nat):Prop:=∀ e∈L,∃ n,(advN m n (yw m e.2.1)).j=e.1∧∀ k,k < n→∃ e'∈L,e'.1=(advN m k (yw m e.2.1)).j
theorem Reach.before{L:List Ent}{m n:Nat}{e:Ent}(hr:Reach L m)(he:e∈L)(hf:FirstFree L m n (yw m e.2.1)):∃ k,k < n∧(advN m k (yw m e.2.1)).j=e.1:=by
 obtain⟨k,h1,h2⟩:=hr e he
 refine⟨k,?_,h1⟩
 rcases Nat.lt_trichotomy k n with h | h | h
 ·exact h
 ·subst h;exact absurd h1.symm (hf.1 e he)
 ·obtain⟨e',he',h3⟩:=h2 n h
  exact absurd h3 (hf.1 e' he')
theorem Reach.put{A B:List Ent}{m n:Nat}{h:Int}{x:Value}(hr:Reach (A++B) m)(hf:FirstFree (A++B) m n (yw m h)):Reach (A++((advN m n (yw m h)).j,h,x)::B) m:=by
 have sub:∀ e∈A++B,e∈A++((advN m n (yw m h)).j,h,x)::B:=fun e he=>by
  rcases List.mem_append.mp he with he | he
  ·exact List.mem_append_left _ he
  ·exact List.mem_append_right _ (List.mem_cons_of_mem _ he)
 have old:∀ e∈A++B,∃ n',(advN m n' (yw m e.2.1)).j=e.1∧∀ k,k < n'→∃ e'∈A++((advN m n (yw m h)).j,h,x)::B,e'.1=(advN m k (yw m e.2.1)).j:=fun e he=>by
  obtain⟨k,h1,h2⟩:=hr e he
  exact⟨k,h1,fun i hi=>let ⟨e',he',q⟩:=h2 i hi;⟨e',sub e' he',q⟩⟩
 intro e he
 rcases List.mem_append.mp he with he | he
 ·exact old e (List.mem_append_left _ he)
 ·rcases List.mem_cons.mp he with rfl | he
  ·exact⟨n,rfl,fun k hk=>let ⟨e',he',q⟩:=hf.2 k hk;⟨e',sub e' he',q⟩⟩
  ·exact old e (List.mem_append_right _ he)
section
variable{m:Nat}{owner:Array (Option Nat)}
noncomputable def Fr(owner:Array (Option Nat))(j:Nat):Prop:=owner[j]?=some none
noncomputable def Oc(owner:Array (Option Nat))(j:Nat):Prop:=∃ i,owner[j]?=some (some i)
theorem zpw{i:Nat}(hi:i≤m):runEnd m i≤m:=by unfold runEnd;split <;> omega
theorem zj8{i:Nat}:i≤runEnd m i:=by unfold runEnd;split <;> omega
theorem uv(hs:owner.size=m+1){j:Nat}(hj:j≤m):((owner.getD j (some 0)).isNone=true∧Fr owner j)∨((owner.getD j (some 0)).isNone=false∧Oc owner j):=by
 have hl:j < owner.size:=by omega
 have e:owner[j]?=some owner[j]:=Array.getElem?_eq_getElem hl
 rw[Array.getD_eq_getD_getElem?]
 unfold Fr Oc
 rw[e]
 cases owner[j] with
 | none=>exact .inl ⟨rfl,rfl⟩
 | some i=>exact .inr ⟨rfl,i,rfl⟩
theorem znn(hs:owner.size=m+1):∀ (fuel i pt q:Nat),i≤m→q < fuel→Fr owner (lpN m q (i,pt)).1→∃ n,layClean.free m owner fuel i pt=some (advN m n (lp m i pt)).j∧Fr owner (advN m n (lp m i pt)).j∧∀ k,k < n→Oc owner (advN m k (lp m i pt)).j:=by
 intro fuel
 induction fuel with
 | zero=>exact fun _ _ _ _ h=>absurd h (Nat.not_lt_zero _)
 | succ fuel ih=>
   intro i pt q hi hq hfr
   have hin:∀ k,k < runEnd m i - i+1→i+k≤m:=fun k hk=>Nat.le_trans (Nat.add_le_add_left (Nat.le_of_lt_succ hk) i) (Nat.le_trans (Nat.le_of_eq (Nat.add_sub_of_le zj8)) (zpw hi))
   have ef:layClean.free m owner (fuel+1) i pt=((List.range (runEnd m i+1 - i)).find? fun k=>(owner.getD (i+k) (some 0)).isNone).elim (layClean.free m owner fuel (leap m i pt).1 (leap m i pt).2) (fun k=>some (i+k)):=by
    show (match (List.range (runEnd m i+1 - i)).find? fun k=>(owner.getD (i+k) (some 0)).isNone with | some k=>some (i+k) | none=>layClean.free m owner fuel (leap m i pt).1 (leap m i pt).2)=_
    cases (List.range (runEnd m i+1 - i)).find? fun k=>(owner.getD (i+k) (some 0)).isNone <;> rfl
   rw[ef,Nat.succ_sub zj8]
   clear ef
   have hr:(lp m i pt).more=runEnd m i - i:=rfl
   generalize runEnd m i - i=r at hin hr
   have e:∀ k,k≤r→(advN m k (lp m i pt)).j=i+k:=fun k hk=>by
    rw[zbg m k _ (hr ▸ hk)];rfl
   cases hfind:(List.range (r+1)).find? fun k=>(owner.getD (i+k) (some 0)).isNone with
   | some k=>
     obtain⟨h1,h2,h3⟩:=List.find?_range_eq_some.mp hfind
     have h2:=List.mem_range.mp h2
     refine⟨k,congrArg some (e k (Nat.le_of_lt_succ h2)).symm,?_,fun k' hk'=>?_⟩
     ·rw[e k (Nat.le_of_lt_succ h2)]
      rcases uv hs (hin k h2) with h | h
      ·exact h.2
      ·exact absurd (h1.symm.trans h.1) nofun
     ·have h4:=Nat.lt_trans hk' h2
      rw[e k' (Nat.le_of_lt_succ h4)]
      rcases uv hs (hin k' h4) with h | h
      ·have:=h3 k' hk'
       rw[h.1] at this;cases this
      ·exact h.2
   | none=>
     have hall:∀ k,k < r+1→Oc owner (i+k):=fun k hk=>
      (uv hs (hin k hk)).elim (fun h=>absurd h.1 (List.find?_eq_none.mp hfind k (List.mem_range.mpr hk))) (·.2)
     cases q with
     | zero=>
       obtain⟨i',h⟩:=hall 0 (Nat.succ_pos _)
       exact absurd ((show owner[i]?=some none from hfr).symm.trans h) nofun
     | succ q=>
       obtain⟨n,h1,h2,h3⟩:=ih (leap m i pt).1 (leap m i pt).2 q (Nat.le_of_lt_succ (Nat.mod_lt _ (Nat.succ_pos m))) (Nat.lt_of_succ_lt_succ hq) hfr
       have e':∀ k,advN m (r+1+k) (lp m i pt)=advN m k (lp m (leap m i pt).1 (leap m i pt).2):=fun k=>by
        rw[← hr,ja,u7 m _ rfl];rfl
       refine⟨r+1+n,?_,?_,fun k hk=>?_⟩
       ·rw[e'];exact h1
       ·rw[e'];exact h2
       ·by_cases hk':k < r+1
        ·rw [e k (Nat.le_of_lt_succ hk')]
         exact hall k hk'
        ·obtain ⟨k',rfl⟩:=Nat.exists_eq_add_of_le (Nat.le_of_not_lt hk')
         rw [e']
         exact h3 k' (Nat.lt_of_add_lt_add_left hk)
end
structure Own(m:Nat)(owner:Array (Option Nat))(hs:List Int)(js:List Nat):Prop where
 size:owner.size=m+1
 len:js.length=hs.length
 nd:js.Nodup
 at_:∀ (j i:Nat),owner[j]?=some (some i)↔js[i]?=some j
 le:∀ j∈js,j≤m
 way:∀ (i:Nat) (h:Int) (j:Nat),hs[i]?=some h→js[i]?=some j→∃ n,(advN m n (yw m h)).j=j∧∀ k,k < n→Oc owner (advN m k (yw m h)).j
theorem zkq{m:Nat}(hf:full m=true){owner:Array (Option Nat)}{hs:List Int}{js:List Nat}(o:Own m owner hs js)(hl:hs.length≤m)(h:Int) :
 ∃ j,layClean.free m owner (turns m) (bits h % (m+1)) (bits h)=some j∧Own m (owner.setIfInBounds j (some hs.length)) (hs++[h]) (js++[j]):=by
 have hi:bits h % (m+1)≤m:=by have:=Nat.mod_lt (bits h) (show 0 < m+1 by omega);omega
 have hfree:∃ j,j≤m∧j∉js:=by
  refine Classical.byContradiction fun hn=>?_
  have:=qk (l:=List.range (m+1)) (l':=js) List.nodup_range fun x hx=>by
   refine Classical.byContradiction fun hc=>hn ⟨x,by have:=List.mem_range.mp hx;omega,hc⟩
  rw[List.length_range,o.len] at this
  omega
 obtain⟨j0,hj0,hn0⟩:=hfree
 have hfr0:Fr owner j0:=by
  have hlt:j0 < owner.size:=by rw[o.size];omega
  have e:owner[j0]?=some owner[j0]:=Array.getElem?_eq_getElem hlt
  unfold Fr
  rw[e]
  cases hx:owner[j0] with
  | none=>rfl
  | some i=>
    rw[hx] at e
    exact absurd (List.mem_of_getElem? ((o.at_ j0 i).mp e)) hn0
 obtain⟨q,hq,eq⟩:=zao hf hi (zh7 h) hj0
 obtain⟨n,h1,h2,h3⟩:=znn o.size (turns m) (bits h % (m+1)) (bits h) q hi (by unfold turns;omega) (by rw[eq];exact hfr0)
 generalize hj:(advN m n (lp m (bits h % (m+1)) (bits h))).j=j at h1 h2
 have hjlt:j < owner.size:=by
  unfold Fr at h2
  exact (Array.getElem?_eq_some_iff.mp h2).1
 have hjn:j∉js:=fun hm=>by
  obtain⟨i,hi'⟩:=List.getElem?_of_mem hm
  have:=(o.at_ j i).mpr hi'
  unfold Fr at h2
  rw[h2] at this;cases this
 have grow:∀ k,Oc owner k→Oc (owner.setIfInBounds j (some hs.length)) k:=fun k ⟨i,hk⟩=>by
  by_cases e:j=k
  ·subst e;exact⟨hs.length,by rw[Array.getElem?_setIfInBounds_self,if_pos hjlt]⟩
  ·exact⟨i,by rw[Array.getElem?_setIfInBounds_ne e];exact hk⟩
 refine⟨j,h1,?_⟩
 constructor
 ·rw[Array.size_setIfInBounds];exact o.size
 ·simp[o.len]
 ·exact List.nodup_append.mpr ⟨o.nd,by simp,fun a ha b hb=>by rw[List.mem_singleton.mp hb];rintro rfl;exact hjn ha⟩
 ·intro k i
  by_cases e:j=k
  ·subst e
   rw[Array.getElem?_setIfInBounds_self,if_pos hjlt]
   constructor
   ·intro q;cases q;rw[← o.len];simp
   ·intro q
    by_cases hi':i < js.length
    ·rw[List.getElem?_append_left hi'] at q
     exact absurd (List.mem_of_getElem? q) hjn
    ·have:i=js.length:=by
      have:=(List.getElem?_eq_some_iff.mp q).1
      simp at this;omega
     subst this;rw[o.len]
  ·rw[Array.getElem?_setIfInBounds_ne e,o.at_]
   constructor
   ·intro q
    have:=(List.getElem?_eq_some_iff.mp q).1
    rw[List.getElem?_append_left this];exact q
   ·intro q
    by_cases hi':i < js.length
    ·rw[List.getElem?_append_left hi'] at q;exact q
    ·have:i=js.length:=by
      have:=(List.getElem?_eq_some_iff.mp q).1
      simp at this;omega
     subst this
     simp at q
     exact absurd q e
 ·intro k hk
  rcases List.mem_append.mp hk with hk | hk
  ·exact o.le k hk
  ·rw[List.mem_singleton.mp hk];have:=o.size;omega
 ·intro i h' j' e1 e2
  by_cases hi':i < js.length
  ·rw[List.getElem?_append_left hi'] at e2
   rw[List.getElem?_append_left (by rw[← o.len];exact hi')] at e1
   obtain⟨n',q1,q2⟩:=o.way i h' j' e1 e2
   exact⟨n',q1,fun k hk=>grow _ (q2 k hk)⟩
  ·have:i=js.length:=by
    have:=(List.getElem?_eq_some_iff.mp e2).1
    simp at this;omega
   subst this
   rw[List.getElem?_append_right (Nat.le_refl _),Nat.sub_self] at e2
   rw[o.len,List.getElem?_append_right (Nat.le_refl _),Nat.sub_self] at e1
   cases e1;cases e2
   exact⟨n,hj,fun k hk=>grow _ (h3 k hk)⟩
theorem lay_all{m:Nat}(hf:full m=true):∀ (rest hs:List Int) (owner:Array (Option Nat)) (js:List Nat),Own m owner hs js→hs.length+rest.length≤m →
 ∃ owner' js',rest.foldl (init:=some (owner,hs.length)) (fun acc h=>do
  let (owner,k) ← acc
  let j ← layClean.free m owner (turns m) (bits h % (m+1)) (bits h)
  pure (owner.setIfInBounds j (some k),k+1))=some (owner',hs.length+rest.length)∧Own m owner' (hs++rest) js'
 | [],hs,owner,js,o,_=>⟨owner,js,rfl,by rw[List.append_nil];exact o⟩
 | h::rest,hs,owner,js,o,hl=>by
   rw[List.length_cons] at hl
   obtain⟨j,h1,h2⟩:=zkq hf o (by omega) h
   obtain⟨owner',js',e,o'⟩:=lay_all hf rest (hs++[h]) _ _ h2 (by simp;omega)
   refine⟨owner',js',?_,by rw[List.append_assoc] at o';exact o'⟩
   rw[List.foldl_cons]
   rw[List.length_append,List.length_singleton] at e
   have:(do
    let (owner,k) ← some (owner,hs.length)
    let j ← layClean.free m owner (turns m) (bits h % (m+1)) (bits h)
    pure (owner.setIfInBounds j (some k),k+1))=some (owner.setIfInBounds j (some hs.length),hs.length+1):=by
    show (layClean.free m owner (turns m) (bits h % (m+1)) (bits h)).bind _=_
    rw[h1];rfl
   rw[this,e,List.length_cons]
   congr 2
   omega
theorem own0(m:Nat):Own m (Array.replicate (m+1) none) [] [] where
 size:=by simp
 len:=rfl
 nd:=List.nodup_nil
 at_:=fun j i=>by
  constructor
  ·intro q
   rw[Array.getElem?_replicate] at q
   split at q <;> cases q
  ·intro q;simp at q
 le:=fun _ h=>nomatch h
 way:=fun i h j e=>by simp at e
theorem zik{ld:Bool}{t:SetTable}{m wanted:Nat}{es:Array (Int×Value)}(hf:full m=true)(hm:sizeAbove wanted - 1=m)(hl:es.size≤m)(hled:t.led=ld)(hplain:t.plain=true) :
 ∃ t' order L,t.relaid (es.map (·.1)) wanted=some (t',order)∧order.filterMap (es[·]?)=elems L∧L.length=es.size∧j5 t' m ld L∧Rise L∧Reach L m∧(∀ e∈L,e.1≤m)∧(∀ p,(∃ e∈L,e.2=p)↔p∈es):=by
 obtain⟨owner,js,e1,o⟩:=lay_all hf (es.toList.map (·.1)) [] _ _ (own0 m) (by simp;exact hl)
 rw[List.nil_append] at o
 have hn:js.length=es.size:=by rw[o.len];simp
 have elay:layClean m (es.map (·.1))=some owner:=by
  unfold layClean
  have:(es.map (·.1))=(es.toList.map (·.1)).toArray:=by apply Array.toList_inj.mp;simp
  rw[this,← Array.foldl_toList]
  rw[List.toList_toArray]
  rw[show (0:Nat)=([]:List Int).length from rfl,e1]
  rfl
 let live:=(List.range (m+1)).filterMap fun j=>(owner.getD j none).map (j,·)
 have mem_live:∀ j i,(j,i)∈live↔js[i]?=some j:=fun j i=>by
  rw[← o.at_]
  simp only[live,List.mem_filterMap,List.mem_range]
  constructor
  ·rintro⟨k,hk,e⟩
   rw[Array.getD_eq_getD_getElem?,Array.getElem?_eq_getElem (by rw[o.size];exact hk)] at e
   simp only[Option.getD_some,Option.map_eq_some_iff,Prod.mk.injEq] at e
   obtain⟨i',h1,rfl,rfl⟩:=e
   rw[Array.getElem?_eq_getElem (by rw[o.size];exact hk),h1]
  ·intro q
   have hk:=(Array.getElem?_eq_some_iff.mp q).1
   refine⟨j,by rw[← o.size];exact hk,?_⟩
   rw[Array.getD_eq_getD_getElem?,q];rfl
 have idx_lt:∀ j i,(j,i)∈live→i < es.size:=fun j i h=>by
  have:=(List.getElem?_eq_some_iff.mp ((mem_live j i).mp h)).1
  omega
 let entOf:Nat×Nat→Ent:=fun x=>(x.1,es.getD x.2 (0,.none))
 have get_es:∀ i,i < es.size→es[i]?=some (es.getD i (0,.none)):=fun i hi=>by
  rw[Array.getD_eq_getD_getElem?,Array.getElem?_eq_getElem hi];rfl
 have rise_live:live.Pairwise fun a b=>a.1 < b.1:=by
  refine List.Pairwise.filterMap _ ?_ List.pairwise_lt_range
  intro a b hab x hx y hy
  simp only[Option.map_eq_some_iff] at hx hy
  obtain⟨_,_,rfl⟩:=hx
  obtain⟨_,_,rfl⟩:=hy
  exact hab
 have len_live:live.length=es.size:=by
  have nd1:(live.map (·.1)).Nodup:=by
   refine List.Pairwise.imp (R:=(· < ·)) (fun h=>Nat.ne_of_lt h) (List.pairwise_map.mpr rise_live)
  have a1:=qk nd1 (l':=js) fun x hx=>by
   obtain⟨p,hp,rfl⟩:=List.mem_map.mp hx
   exact List.mem_of_getElem? ((mem_live p.1 p.2).mp hp)
  have a2:=qk o.nd (l':=live.map (·.1)) fun x hx=>by
   obtain⟨i,hi⟩:=List.getElem?_of_mem hx
   exact List.mem_map.mpr ⟨(x,i),(mem_live x i).mpr hi,rfl⟩
  rw[List.length_map] at a1 a2
  omega
 refine⟨{ mask:=m,place:=(live.map (·.1)).toArray,dummies:=#[],finger:=t.finger,led:=t.led,moves:=t.movedTo m,plain:=t.plain },(live.map (·.2)).toArray,live.map entOf,?_,?_,by rw[List.length_map,len_live],⟨rfl,?_,rfl,hled,hplain⟩,?_,?_,?_,?_⟩
 ·unfold relaid laid
  rw[hm,elay]
  rfl
 ·-- the order
  unfold elems
  show Array.filterMap (fun x=>es[x]?) (live.map (·.2)).toArray=_
  rw[List.filterMap_toArray,List.map_map,List.filterMap_map]
  congr 1
  have:∀ l:List (Nat×Nat),(∀ x∈l,x∈live)→l.filterMap ((fun x=>es[x]?)∘fun x=>x.2)=l.map ((fun x=>x.2)∘entOf):=by
   intro l
   induction l with
   | nil=>intro _;rfl
   | cons x l ih=>
     intro hx
     rw[List.filterMap_cons,List.map_cons]
     have e9:((fun x=>es[x]?)∘fun x:Nat×Nat=>x.2) x=some (es.getD x.2 (0,.none)):=get_es x.2 (idx_lt x.1 x.2 (hx x List.mem_cons_self))
     rw[e9]
     dsimp only
     rw[ih fun y hy=>hx y (List.mem_cons_of_mem _ hy)]
     rfl
  exact this live fun _ h=>h
 ·unfold places
  rw[List.map_map];rfl
 ·exact List.pairwise_map.mpr rise_live
 ·intro e he
  obtain⟨x,hx,rfl⟩:=List.mem_map.mp he
  have hx':=(mem_live x.1 x.2).mp hx
  have hlt:=idx_lt x.1 x.2 hx
  obtain⟨n,h1,h2⟩:=o.way x.2 (es.getD x.2 (0,.none)).1 x.1 (by
   rw[List.getElem?_map,Array.getElem?_toList,get_es x.2 hlt];rfl) hx'
  refine⟨n,h1,fun k hk=>?_⟩
  obtain⟨i,hi⟩:=h2 k hk
  exact⟨entOf ((advN m k (yw m (es.getD x.2 (0,.none)).1)).j,i),List.mem_map.mpr ⟨_,(mem_live _ i).mpr ((o.at_ _ i).mp hi),rfl⟩,rfl⟩
 ·intro e he
  obtain⟨x,hx,rfl⟩:=List.mem_map.mp he
  exact o.le x.1 (List.mem_of_getElem? ((mem_live x.1 x.2).mp hx))
 ·intro p
  constructor
  ·rintro⟨e,he,rfl⟩
   obtain⟨x,hx,rfl⟩:=List.mem_map.mp he
   exact Array.mem_of_getElem? (get_es x.2 (idx_lt x.1 x.2 hx))
  ·intro hp
   obtain⟨i,hi,e⟩:=Array.getElem_of_mem hp
   have hj:i < js.length:=by omega
   refine⟨entOf (js[i],i),List.mem_map.mpr ⟨(js[i],i),(mem_live _ _).mpr (List.getElem?_eq_getElem hj),rfl⟩,?_⟩
   show es.getD i (0,.none)=p
   rw[Array.getD_eq_getD_getElem?,Array.getElem?_eq_getElem hi,← e];rfl
theorem Rise.unique{L:List Ent}(h:Rise L):∀ {e e':Ent},e∈L→e'∈L→e.1=e'.1→e=e':=by
 induction L with
 | nil=>intro e e' he;exact absurd he List.not_mem_nil
 | cons x L ih=>
   intro e e' he he' q
   obtain⟨h1,h2⟩:=List.pairwise_cons.mp h
   rcases List.mem_cons.mp he with r | r
   ·rcases List.mem_cons.mp he' with r' | r'
    ·rw[r,r']
    ·subst r;have:=h1 e' r';omega
   ·rcases List.mem_cons.mp he' with r' | r'
    ·subst r';have:=h1 e r;omega
    ·exact ih h2 r r' q
theorem FirstFree.next{L:List Ent}{m n:Nat}{p:Probe}(h:FirstFree L m (n+1) p):FirstFree L m n (advM m p):=
 ⟨h.1,fun k hk=>h.2 (k+1) (by omega)⟩
theorem FirstFree.drop{L:List Ent}{m:Nat}:∀ (k:Nat) {n:Nat} {p:Probe},FirstFree L m n p→k≤n→FirstFree L m (n - k) (advN m k p)
 | 0,n,p,h,_=>h
 | k+1,n,p,h,hk=>by
   obtain⟨n,rfl⟩ : ∃ n',n=n' + 1:=⟨n - 1,by omega⟩
   have:=FirstFree.drop k h.next (by omega)
   rw[show n+1 - (k+1)=n - k by omega]
   exact this
theorem advM_dummy{m:Nat}{p:Probe}:(advM m p).dummy=p.dummy:=by unfold advM;split <;> rfl
theorem zoq{t:SetTable}{hashAt:Nat→Int}{h:Int}{fuel:Nat}{p:Probe}{x:Slot}(hs:t.slot p.j=x):probe.go t hashAt h (fuel+1) p=match (generalizing:=false) x with
 | .empty=>some (.empty p.j p.dummy)
 | .dummy=>probe.go t hashAt h fuel (t.advance { p with dummy:=some p.j })
 | .live i=>if hashAt i == h then some (.candidate p.j i (t.advance p)) else probe.go t hashAt h fuel (t.advance p):=by subst hs;rfl
theorem zs0{t:SetTable}{m:Nat}{ld:Bool}{L:List Ent}(ht:j5 t m ld L)(hr:Rise L){hashAt:Nat→Int}(hh:∀ (i:Nat) (e:Int×Value),(elems L)[i]?=some e→hashAt i=e.1){h:Int} :
 ∀ (fuel n:Nat) (p:Probe),n < fuel→p.dummy=none→FirstFree L m n p →
  (∃ k A e B,k < n∧L=A++e::B∧e.1=(advN m k p).j∧e.2.1=h∧probe.go t hashAt h fuel p=some (.candidate e.1 A.length (advM m (advN m k p)))∧∀ k',k' < k→∀ e'∈L,e'.1=(advN m k' p).j→e'.2.1≠h) ∨
  ((∀ k,k < n→∀ e∈L,e.1=(advN m k p).j→e.2.1≠h)∧probe.go t hashAt h fuel p=some (.empty (advN m n p).j none)):=by
 intro fuel
 induction fuel with
 | zero=>exact fun n _ hn=>absurd hn (Nat.not_lt_zero _)
 | succ fuel ih=>
   intro n p hn hd hf
   cases n with
   | zero=>
     exact .inr ⟨fun k hk=>absurd hk (Nat.not_lt_zero _),(zoq (zft ht hr (fun e he=>hf.1 e he))).trans (hd ▸ rfl)⟩
   | succ n=>
     obtain⟨e,he,hej⟩:=hf.2 0 (Nat.succ_pos n)
     have hej:e.1=p.j:=hej
     obtain⟨A,B,hL⟩:=List.append_of_mem he
     have hs:t.slot p.j=.live A.length:=hej ▸ zb0 (hL ▸ ht) (hL ▸ hr)
     have hhe:hashAt A.length=e.2.1:=hh A.length e.2 (by rw[hL];simp[elems])
     have ego:=zoq (hashAt:=hashAt) (h:=h) (fuel:=fuel) hs
     dsimp only at ego
     rw[zg0,ht.mask] at ego
     by_cases hq:e.2.1=h
     ·have ego:=ego.trans (if_pos (by rw[hhe,hq];exact beq_self_eq_true _))
      exact .inl ⟨0,A,e,B,Nat.succ_pos n,hL,hej,hq,hej ▸ ego,fun k' hk'=>absurd hk' (Nat.not_lt_zero _)⟩
     ·have zero:∀ e'∈L,e'.1=p.j→e'.2.1≠h:=fun e' he' q=>hr.unique he' he (q.trans hej.symm) ▸ hq
      have ego:=ego.trans (if_neg (by rw[hhe];exact fun q=>hq (beq_iff_eq.mp q)))
      rw[ego]
      rcases ih n (advM m p) (Nat.lt_of_succ_lt_succ hn) (advM_dummy.trans hd) hf.next with ⟨k,A',e',B',h1,h2,h3,h4,h5,h6⟩ | ⟨h1,h2⟩
      ·refine .inl ⟨k+1,A',e',B',Nat.succ_lt_succ h1,h2,h3,h4,h5,fun k' hk'=>?_⟩
       cases k' with
       | zero=>exact zero
       | succ k'=>exact h6 k' (Nat.lt_of_succ_lt_succ hk')
      ·refine .inr ⟨fun k hk=>?_,h2⟩
       cases k with
       | zero=>exact zero
       | succ k=>exact h1 k (Nat.lt_of_succ_lt_succ hk)
section
variable{prog:Program}{w:World}{A:Around}{E:Value→Shared→Prop}{s:Shared}
variable(prog w) in
noncomputable abbrev TK(h:Heap)(ks:List Int)(a:Addr):Prop:=IsTupleKey (intKind prog w) h ks a
variable(prog w) in
noncomputable abbrev tkh(ks:List Int):Int:=tupleKeyHash (intKind prog w) ks
variable(prog w) in
noncomputable def Ents(h:Heap)(L:List Ent):Prop:=∀ e∈L,∃ a ks,e.2.2=.ref a∧TK prog w h ks a∧e.2.1=tkh prog w ks
theorem zbq(n:Nat){v:Value}(h:carriedByValue v=true):ofAClassStatement n v=pure false:=by
 cases v with
 | ref a=>simp[carriedByValue] at h
 | _=>cases n <;> rfl
theorem gz{d:Nat}{ks:List Int}{a:Addr}{Q:Bool→Shared→Prop}(hk:TK prog w s.heap ks a)(h:Q false s):wpAny (model prog w) A (ofAClassStatement (d+1) (.ref a)) Q E s:=by
 have hT:=IsTupleKey.typeIs hk
 obtain⟨o,items,n,ho,_,hd,hi⟩:=hk
 unfold ofAClassStatement
 refine wpAny_bind (wpAny_typeOf hT ?_)
 refine wpAny_ite_true rfl (wpAny_bind (wpAny_pure (wpAny_ite_false rfl ?_)))
 refine wpAny_bind (wpAny_seqItems ho hd (wpAny_bind ?_))
 show wpAny _ _ (forIn items _ _) _ _ s
 rw[← Array.forIn_toList]
 refine wpAny_forIn_list _ (fun rest r s'=>r.1=none∧s'=s∧∀ v∈rest,carriedByValue v=true) _ ?_ ?_ _ _ ⟨rfl,rfl,hi.byValue⟩
 ·rintro v rest r s' ⟨hr,rfl,hall⟩
  rw[zbq _ (hall v List.mem_cons_self)]
  refine wpAny_bind (wpAny_pure (wpAny_ite_false rfl ?_))
  exact wpAny_pure ⟨rfl,rfl,fun u hu'=>hall u (List.mem_cons_of_mem _ hu')⟩
 ·rintro⟨r1,r2⟩ s' ⟨hr,rfl,_⟩
  simp only at hr
  subst hr
  exact wpAny_pure h
theorem zmx{ks:List Int}{a:Addr}{l:List Value}{Q:Bool→Shared→Prop}(hk:TK prog w s.heap ks a)(hl:∀ y∈l,∃ b ks',y=.ref b∧TK prog w s.heap ks' b)(h:Q false s) :
 wpAny (model prog w) A (searchCouldBeSeen (.ref a) l) Q E s:=by
 unfold searchCouldBeSeen
 refine wpAny_bind ?_
 refine wpAny_forIn_list _ (fun rest r s'=>r.1=none∧s'=s∧∀ y∈rest,∃ b ks',y=.ref b∧TK prog w s.heap ks' b) _ ?_ ?_ _ _ ⟨rfl,rfl,hl⟩
 ·rintro v rest r s' ⟨hr,rfl,hall⟩
  obtain⟨b,ks',rfl,hb⟩:=hall v List.mem_cons_self
  have next:∀ r:Option Bool×PUnit,r.1=none→∀ y∈rest,∃ b ks',y=Value.ref b∧TK prog w s'.heap ks' b:=fun _ _ y hy=>hall y (List.mem_cons_of_mem _ hy)
  dsimp only
  refine wpAny_ite_split (fun _=>wpAny_pure ⟨rfl,rfl,next (none,()) rfl⟩) fun _=>?_
  refine wpAny_bind (wpAny_eqIsQuiet_tuple hk (wpAny_ite_false rfl ?_))
  refine wpAny_bind (wpAny_eqIsQuiet_tuple hb (wpAny_ite_false rfl ?_))
  refine wpAny_bind (gz hk (wpAny_ite_false rfl ?_))
  refine wpAny_bind (gz hb (wpAny_ite_false rfl ?_))
  exact wpAny_pure ⟨rfl,rfl,next (none,()) rfl⟩
 ·rintro⟨r1,r2⟩ s' ⟨hr,rfl,_⟩
  simp only at hr
  subst hr
  exact wpAny_pure h
theorem zg1{m:Nat}(n:Nat):∀ (p:Probe),(advN m n p).dummy=p.dummy:=by
 induction n with
 | zero=>exact fun _=>rfl
 | succ n ih=>exact fun p=>(ih _).trans advM_dummy
theorem zmv{α:Type}{o:Option (Int×Value)}{x:Int}{y:Value}{f:Int→Value→Sem α}{g:Sem α}{Q:α→Shared→Prop}(h:o=some (x,y))(k:wpAny (model prog w) A (f x y) Q E s) :
 wpAny (model prog w) A (match o with | some (x,y)=>f x y | none=>g) Q E s:=by subst h;exact k
theorem zj5{α:Type}{o:Option (Int×Value)}{x:Int}{y:Value}{f:Value→Sem α}{g:Sem α}{Q:α→Shared→Prop}(h:o=some (x,y))(k:wpAny (model prog w) A (f y) Q E s) :
 wpAny (model prog w) A (match o with | some (_,y)=>f y | _=>g) Q E s:=by subst h;exact k
theorem zii{S:Addr}{o:Obj}{ep m:Nat}{t:SetTable}{ld:Bool}{L:List Ent}(ho:s.heap.get? S=some o)(hd:o.data=.set (elems L) ep t)(ht:j5 t m ld L)(hr:Rise L)(hL:L.length≤m)(hodd:m % 2=1)
 (he:Ents prog w s.heap L) (hu:A.units < cLine) {a:Addr} {ks:List Int} (hk:TK prog w s.heap ks a) {Q:SetFound→Shared→Prop} (hQ1:(∃ e∈L,∃ b,e.2.2=.ref b∧TK prog w s.heap ks b)→Q (.there none) s) :
 ∀ (fuel n:Nat) (st:Option Probe) (p:Probe),st.getD (t.probeStart (tkh prog w ks))=p→n < fuel→n < 10 * turns m→p.dummy=none→FirstFree L m n p →
  ((∀ k,k < n→∀ e∈L,e.1=(advN m k p).j→∀ b,e.2.2=.ref b→¬ TK prog w s.heap ks b)→Q (.free (advN m n p).j false) s) →
  wpAny (model prog w) A (setSearchFrom S (.ref a) (tkh prog w ks) true fuel st) Q E s:=by
 have hfit:t.fits (elems L).size=true:=by
  simp only[SetTable.fits,SetTable.fill,ht.place,ht.dummies,ht.mask,places,elems,Bool.and_eq_true,beq_iff_eq,decide_eq_true_eq]
  simp;exact hL
 have hgw:t.gaveWay=false:=by unfold gaveWay;rw[ht.mask,hodd];decide
 have other:∀ e∈L,e.2.1≠tkh prog w ks→∀ b,e.2.2=.ref b→¬ TK prog w s.heap ks b:=fun e heL hne b hb hkb=>by
  obtain⟨b',ks',e1,e2,e3⟩:=he e heL
  rw[hb] at e1;cases e1
  rw[IsTupleKey.inj e2 hkb] at e3
  exact hne e3
 have hseen:∀ y∈((elems L).filter (·.1 == tkh prog w ks)).toList.map (·.2),∃ b ks',y=.ref b∧TK prog w s.heap ks' b:=fun y hy=>by
  obtain⟨z,hz,rfl⟩:=List.mem_map.mp hy
  have hz':z∈elems L:=(Array.mem_filter.mp (Array.mem_toList_iff.mp hz)).1
  unfold elems at hz'
  rw[List.mem_toArray] at hz'
  obtain⟨e',he',rfl⟩:=List.mem_map.mp hz'
  obtain⟨b',ks'',q1,q2,_⟩:=he e' he'
  exact⟨b',ks'',q1,q2⟩
 intro fuel
 induction fuel with
 | zero=>exact fun n _ _ _ hn=>absurd hn (Nat.not_lt_zero _)
 | succ fuel ih=>
   intro n st p hst hn hn' hpd hf hQ2
   have hgo:=zs0 ht hr (hashAt:=fun i=>((elems L)[i]?.map (·.1)).getD 0) (fun i e he=>by rw[he];rfl) (h:=tkh prog w ks) (10 * turns t.mask) n p (by rw[ht.mask];exact hn') hpd hf
   rcases hgo with ⟨k,A',e,B',h1,h2,h3,h4,h5,h6⟩ | ⟨h1,h2⟩
   ·have heL:e∈L:=by rw[h2];simp
    obtain⟨b,ks',e1,e2,e3⟩:=he e heL
    have hget:(elems L)[A'.length]?=some e.2:=by rw[h2];simp[elems]
    have hsl:t.slot e.1=.live A'.length:=zb0 (h2 ▸ ht) (h2 ▸ hr)
    have hle:=Nat.succ_le_of_lt h1
    have hadv:advM m (advN m k p)=advN m (k+1) p:=by rw[ja];rfl
    have again:ks'≠ks→wpAny (model prog w) A (setSearchFrom S (.ref a) (tkh prog w ks) true fuel (some (advM m (advN m k p)))) Q E s:=fun hkk=>by
     refine ih (n - (k+1)) _ (advN m (k+1) p) hadv (Nat.lt_of_le_of_lt (Nat.sub_le_sub_left (Nat.succ_pos k) n) (Nat.sub_lt_left_of_lt_add (Nat.lt_of_le_of_lt (Nat.zero_le _) h1) (Nat.add_comm _ _ ▸ hn))) (Nat.lt_of_le_of_lt (Nat.sub_le _ _) hn') ((zg1 _ p).trans hpd) (hf.drop (k+1) hle) fun hno=>?_
     rw[← ja,Nat.add_sub_of_le hle]
     refine hQ2 fun i hi e' he' q=>?_
     rcases Nat.lt_trichotomy i k with hik | rfl | hik
     ·exact other e' he' (h6 i hik e' he' q)
     ·rw[hr.unique he' heL (q.trans h3.symm)]
      intro b' hb' hkb'
      rw[e1] at hb';cases hb'
      exact hkk (IsTupleKey.inj e2 hkb')
     ·exact hno (i - (k+1)) (Nat.sub_lt_sub_right hik hi) e' he' (by rw[← ja,Nat.add_sub_of_le hik];exact q)
    clear ih hQ2 hf hpd hn hn' h6 h3 h4 hadv
    obtain⟨ej,eh,ev⟩:=e
    have e1:ev=.ref b:=e1
    subst e1
    have hsm:t.sameMemory t.moves t.mask=some true:=by unfold sameMemory;rw[if_pos (beq_self_eq_true _)]
    have hlast:wpAny (model prog w) A (do
     if true && decide (ks'=ks) then return .there none
     let some same:=t.sameMemory t.moves t.mask | unsupported "set.changed-during-lookup:is-the-new-block-at-the-old-address"
     let still ← match (if same then t.slot ej else .empty) with
      | .live i'=>match (elems L)[i']? with
        | some (_,y')=>do pure (if ← isSame y' (.ref b) then some i' else none)
        | none=>pure none
      | _=>pure none
     match still with
     | none=>rule "set.search.anew";setSearchFrom S (.ref a) (tkh prog w ks) true fuel none
     | some i'=>if decide (ks'=ks) then return .there (some i') else setSearchFrom S (.ref a) (tkh prog w ks) true fuel (some (advM m (advN m k p)))) Q E s:=by
     rw[hsm,hsl]
     by_cases hkk:ks'=ks
     ·exact wpAny_ite_true (by rw[decide_eq_true hkk];rfl) (wpAny_pure (hQ1 ⟨_,heL,b,rfl,hkk ▸ e2⟩))
     ·exact wpAny_ite_false (by rw[decide_eq_false hkk];rfl) (zmv hget (wpAny_bind (wpAny_isSame_ref_self (wpAny_bind (wpAny_pure (wpAny_ite_false (by rw[decide_eq_false hkk];rfl) (again hkk)))))))
    clear again hsm hsl
    show wpAny _ _ (setState S >>= _) _ _ _
    refine wpAny_bind (wpAny_setState_of ho hd hfit ?_)
    refine wpAny_ite_false (by rw[hgw];rfl) ?_
    dsimp only
    rw[hst]
    unfold probe
    erw [h5]
    refine wpAny_ite_split (fun _=>wpAny_bind (zmx hk hseen (wpAny_ite_false rfl ?_))) fun _=>?_ <;> (refine zj5 hget ?_;exact (wpAny_bind (wpAny_holding (wpAny_eqBool_tuple hu e2 hk (wpAny_bind (wpAny_setState_of ho hd hfit hlast))))))
   ·show wpAny _ _ (setState S >>= _) _ _ _
    refine wpAny_bind (wpAny_setState_of ho hd hfit ?_)
    refine wpAny_ite_false (by rw[hgw];rfl) ?_
    dsimp only
    rw[hst]
    unfold probe
    erw [h2]
    exact wpAny_pure (hQ2 fun k hk e' he' q=>other e' he' (h1 k hk e' he' q))
end
section
variable{prog:Program}{w:World}{A:Around}{E:Value→Shared→Prop}{s:Shared}
theorem zbs{ks:List Int}{a:Addr}{Q:Bool→Shared→Prop}(hk:TK prog w s.heap ks a)(h:Q true s):wpAny (model prog w) A (hashByValue 8 (.ref a)) Q E s:=by
 have hT:=IsTupleKey.typeIs hk
 obtain⟨o,items,n,ho,_,hd,hi⟩:=hk
 have hint:∀ v∈items.toList,∃ i t,v=.int i t:=by
  generalize items.toList=l at hi
  induction hi with
  | nil=>intro v hv;simp at hv
  | @cons k v' ks vs h1 _ ih=>
    intro v hv
    rcases List.mem_cons.mp hv with rfl | hv
    ·cases v with
     | int i t=>exact⟨i,t,rfl⟩
     | _=>cases h1
    ·exact ih v hv
 unfold hashByValue
 refine wpAny_bind (wpAny_specialOf hT F.slot_tuple_hash.lookup ?_)
 dsimp only
 refine wpAny_bind (wpAny_seqItems ho hd ?_)
 refine wpAny_bind ?_
 show wpAny _ _ (forIn items _ _) _ _ s
 rw[← Array.forIn_toList]
 refine wpAny_forIn_list _ (fun rest r s'=>r.1=none∧s'=s∧∀ v∈rest,∃ i t,v=Value.int i t) _ ?_ ?_ _ _ ⟨rfl,rfl,hint⟩
 ·rintro v rest r s' ⟨hr,rfl,hall⟩
  obtain⟨i,t,rfl⟩:=hall v List.mem_cons_self
  have e:hashByValue 7 (.int i t)=pure true:=by first | rfl | simp[hashByValue]
  rw[e]
  exact wpAny_bind (wpAny_pure (wpAny_ite_false rfl (wpAny_pure ⟨rfl,rfl,fun u hu'=>hall u (List.mem_cons_of_mem _ hu')⟩)))
 ·rintro⟨r1,r2⟩ s' ⟨hr,rfl,_⟩
  simp only at hr
  subst hr
  exact wpAny_pure h
variable(prog w) in
inductive TSet(h:Heap)(S:Addr)(ld:Bool)(K:List (List Int)):Prop
 | mk (o:Obj) (ep:Nat) (t:SetTable) (m:Nat) (L:List Ent) (ho:h.get? S=some o) (hex:o.ExactSet) (hd:o.data=.set (elems L) ep t) (ht:j5 t m ld L) (hr:Rise L) (hre:Reach L m) (hlen:L.length=K.length) (hnd:K.Nodup) (hent:Ents prog w h L)
   (hmem:∀ ks,ks∈K↔∃ e∈L,∃ b,e.2.2=.ref b∧TK prog w h ks b) (hm:(m=7∧L.length≤4)∨(m=31∧L.length≤18))
theorem zcy{h h':Heap}{S:Addr}{o:Obj}(ho:h.get? S=some o)(hc:o.ExactSet)(hs:Heap.SameBut S h h'){ks:List Int}{b:Addr}(hk:TK prog w h ks b):TK prog w h' ks b:=by
 obtain⟨o',items,n,ho',hc',r⟩:=hk
 refine⟨o',items,n,(hs.2 b fun q=>?_).trans ho',hc',r⟩
 subst q
 rw[ho] at ho';cases ho'
 rw[hc.1] at hc';exact absurd hc' (by decide)
theorem zmp{h h':Heap}{S:Addr}{o':Obj}(ho:h'.get? S=some o')(hc:o'.ExactSet)(hs:Heap.SameBut S h h'){ks:List Int}{b:Addr}(hk:TK prog w h' ks b):TK prog w h ks b:=by
 obtain⟨o,items,n,ho',hc',r⟩:=hk
 refine⟨o,items,n,(hs.2 b fun q=>?_).symm.trans ho',hc',r⟩
 subst q
 rw[ho] at ho';cases ho'
 rw[hc.1] at hc';exact absurd hc' (by decide)
theorem zfx(a:Addr)(wanted:Nat):setRelay a wanted=(do
 let (es,_,t) ← setState a
 if SetTable.sizeAbove wanted > sizeLine then unsupported "set:memory"
 let (es,t) ← (do
  let some (t,order):=t.relaid (es.map (·.1)) wanted | unsupported "internal:set-table-without-room"
  let es':=order.filterMap (es[·]?)
  if es'.size != es.size then unsupported "internal:set-table-lost-an-element"
  pure (es',t):Sem (Array (Int×Value)×SetTable))
 storeSet a es t):=rfl
theorem zj9{S:Addr}{o:Obj}{ep:Nat}{t:SetTable}{ld:Bool}{L:List Ent}(ho:s.heap.get? S=some o)(hd:o.data=.set (elems L) ep t)(ht:j5 t 7 ld L)(h5:L.length=5){Q:Unit→Shared→Prop}
 (h:∀ t' L',j5 t' 31 ld L'→Rise L'→Reach L' 31→L'.length=5→(∀ p,(∃ e∈L',e.2=p)↔∃ e∈L,e.2=p)→Q () { s with heap:=s.heap.update S (Obj.putSet (elems L') t') }) :
 wpAny (model prog w) A (setRelay S (grown 5)) Q E s:=by
 have hsz:(elems L).size=5:=by simp[elems,h5]
 have hfit:t.fits (elems L).size=true:=by
  simp only[SetTable.fits,SetTable.fill,ht.place,ht.dummies,ht.mask,places,elems,Bool.and_eq_true,beq_iff_eq,decide_eq_true_eq]
  simp[h5]
 have h32:sizeAbove (grown 5)=32:=by decide
 obtain⟨t',order,L',e1,e2,e3,e4,e5,e6,e7,e8⟩:=zik (t:=t) (wanted:=grown 5) (es:=elems L) zla (by rw[h32]) (by rw[hsz];decide) ht.led ht.plain
 have hl':(elems L').size=(elems L).size:=by rw[← e3];simp[elems]
 have fin:=h t' L' e4 e5 e6 (by rw[e3,hsz]) fun p=>by
  rw[e8]
  unfold elems
  rw[List.mem_toArray,List.mem_map]
 rw[← e2] at fin hl'
 clear h e2 e3 e4 e5 e6 e7 e8
 rw[zfx]
 refine wpAny_bind (wpAny_setState_of ho hd hfit (wpAny_ite_false (by rw[h32,sizeLine_eq];rfl) (wpAny_bind ?_)))
 dsimp only
 rw[e1]
 exact wpAny_ite_false (by rw[hl',bne_self_eq_false];rfl) (wpAny_pure (wpAny_storeSet_of ho hd fin (by rw[hl',hsz,sizeLine_eq];decide)))
theorem zbi(a:Addr)(x:Value)(h:Int)(fuel:Nat):setAddHashedIn a x h (fuel+1)=(do
 let (es₀,_,t₀) ← setState a
 if byScan x es₀ then
  match ← setAddByScan a x h es₀ t₀ with
  | some added=>return added
  | none=>return ← setAddHashedIn a x h fuel
 let .free slot wasDummy ← setSearch a x h (adding:=true) | return false
 let (es,_,t) ← setState a
 let (t,p):=t.put slot
 let byValue ← if t.plain then hashByValue 8 x else pure true
 let t:=if byValue then t else { t with plain:=false }
 storeSet a (SetTable.insertAt es p (h,x)) t
 if !wasDummy && t.tooFull then setRelay a (SetTable.grown (es.size+1))
 return true):=rfl
theorem zkb{t:SetTable}{m n:Nat}{ld:Bool}{L:List Ent}{h:Int}{x:Value}(ht:j5 t m ld L)(hr:Rise L)(hre:Reach L m)(hf:FirstFree L m n (yw m h)) :
 ∃ p t₁ L',t.put (advN m n (yw m h)).j=(t₁,p)∧insertAt (elems L) p (h,x)=elems L'∧j5 t₁ m ld L'∧Rise L'∧Reach L' m∧L'.length=L.length+1∧∀ y,(∃ e∈L',e.2=y)↔y=(h,x)∨∃ e∈L,e.2=y:=by
 obtain⟨A,B,rfl,p1,p2,p3,p4⟩:=zpx ht hr hf.1 h x
 refine⟨A.length,_,_,Prod.ext rfl p1,p4,p2,p3,hre.put hf,?_,fun y=>?_⟩
 ·rw[List.length_append,List.length_append];rfl
 ·constructor
  ·rintro⟨e,he,rfl⟩
   rcases List.mem_append.mp he with he | he
   ·exact .inr ⟨e,List.mem_append_left _ he,rfl⟩
   ·rcases List.mem_cons.mp he with rfl | he
    ·exact .inl rfl
    ·exact .inr ⟨e,List.mem_append_right _ he,rfl⟩
  ·rintro (rfl | ⟨e,he,rfl⟩)
   ·exact⟨_,List.mem_append_right _ List.mem_cons_self,rfl⟩
   ·refine⟨e,?_,rfl⟩
    rcases List.mem_append.mp he with he | he
    ·exact List.mem_append_left _ he
    ·exact List.mem_append_right _ (List.mem_cons_of_mem _ he)
theorem TSet.more{h h':Heap}{S a:Addr}{ld:Bool}{K:List (List Int)}{ks:List Int}{o o':Obj}{ep' m':Nat}{t':SetTable}{L L' L'':List Ent}(ho:h.get? S=some o)(hex:o.ExactSet)(hk:TK prog w h ks a)(hlen:L.length=K.length)(hnd:K.Nodup)(hent:Ents prog w h L)
 (hmem:∀ ks,ks∈K↔∃ e∈L,∃ b,e.2.2=.ref b∧TK prog w h ks b) (hnK:ks∉K) (hnew:∀ y,(∃ e∈L',e.2=y)↔y=(tkh prog w ks,Value.ref a)∨∃ e∈L,e.2=y)
 (hsb:Heap.SameBut S h h') (ho':h'.get? S=some o') (hex':o'.ExactSet) (hd':o'.data=.set (elems L'') ep' t') (ht':j5 t' m' ld L'') (hr':Rise L'') (hre':Reach L'' m') (hl':L''.length=L.length+1)
 (hsame:∀ p,(∃ e∈L'',e.2=p)↔∃ e∈L',e.2=p) (hm':(m'=7∧L''.length≤4)∨(m'=31∧L''.length≤18)):TSet prog w h' S ld (K++[ks]):=by
 have hn:∀ y,(∃ e∈L'',e.2=y)↔y=(tkh prog w ks,Value.ref a)∨∃ e∈L,e.2=y:=fun y=>(hsame y).trans (hnew y)
 have tk:=zcy ho hex hsb hk
 refine⟨o',ep',t',m',L'',ho',hex',hd',ht',hr',hre',by rw[hl',hlen,List.length_append];rfl,?_,?_,fun ks'=>?_,hm'⟩
 ·exact List.nodup_append.mpr ⟨hnd,List.nodup_cons.mpr ⟨List.not_mem_nil,List.nodup_nil⟩,fun x hx y hy=>by rw[List.mem_singleton.mp hy];rintro rfl;exact hnK hx⟩
 ·intro e he
  rcases (hn e.2).mp ⟨e,he,rfl⟩ with q | ⟨e₁,he₁,q⟩
  ·rw[q];exact⟨a,ks,rfl,tk,rfl⟩
  ·rw[← q]
   obtain⟨b,ks',q1,q2,q3⟩:=hent e₁ he₁
   exact⟨b,ks',q1,zcy ho hex hsb q2,q3⟩
 ·rw[List.mem_append,List.mem_singleton,hmem]
  constructor
  ·rintro (⟨e,he,b,hb,hkb⟩ | rfl)
   ·obtain⟨e₁,he₁,q⟩:=(hn e.2).mpr (.inr ⟨e,he,rfl⟩)
    exact⟨e₁,he₁,b,q ▸ hb,zcy ho hex hsb hkb⟩
   ·obtain⟨e₁,he₁,q⟩:=(hn _).mpr (.inl rfl)
    exact⟨e₁,he₁,a,q ▸ rfl,tk⟩
  ·rintro⟨e,he,b,hb,hkb⟩
   have hkb':TK prog w h ks' b:=zmp ho' hex' hsb hkb
   rcases (hn e.2).mp ⟨e,he,rfl⟩ with q | ⟨e₁,he₁,q⟩
   ·rw[q] at hb
    cases hb
    exact .inr (IsTupleKey.inj hkb' hk)
   ·exact .inl ⟨e₁,he₁,b,q ▸ hb,hkb'⟩
theorem zfm{t:SetTable}{m:Nat}{ld:Bool}{L:List Ent}(ht:j5 t m ld L):t.tooFull=decide (m * 3≤L.length * 5):=by
 unfold tooFull fill
 rw[ht.place,ht.dummies,ht.mask]
 simp[places]
theorem zoe{S:Addr}{ld:Bool}{K:List (List Int)}(hS:TSet prog w s.heap S ld K)(hu:A.units < cLine){a:Addr}{ks:List Int}(hk:TK prog w s.heap ks a)(hK:K.length≤17){Q:Bool→Shared→Prop}
 (h:∀ b h',Heap.SameBut S s.heap h'→TSet prog w h' S ld (if ks∈K then K else K++[ks])→Q b { s with heap:=h' }) :
 wpAny (model prog w) A (setAddHashed S (.ref a) (tkh prog w ks)) Q E s:=by
 have old:ks∈K→∀ b,Q b s:=fun hin b=>h b s.heap (Heap.SameBut.refl S s.heap) (by rw[if_pos hin];exact hS)
 have new:ks∉K→∀ b h',Heap.SameBut S s.heap h'→TSet prog w h' S ld (K++[ks])→Q b { s with heap:=h' }:=fun hin b h' hs hT=>h b h' hs (by rw[if_neg hin];exact hT)
 clear h
 obtain⟨o,ep,t,m,L,ho,hex,hd,ht,hr,hre,hlen,hnd,hent,hmem,hm⟩:=hS
 have hLm:L.length≤m:=by rcases hm with ⟨rfl,h⟩ | ⟨rfl,h⟩ <;> exact Nat.le_trans h (by decide)
 have hfull:full m=true:=by rcases hm with ⟨rfl,_⟩ | ⟨rfl,_⟩ <;> first | exact zs2 | exact zla
 have hodd:m % 2=1:=by rcases hm with ⟨rfl,_⟩ | ⟨rfl,_⟩ <;> rfl
 have hfit:t.fits (elems L).size=true:=by
  simp only[SetTable.fits,SetTable.fill,ht.place,ht.dummies,ht.mask,places,elems,Bool.and_eq_true,beq_iff_eq,decide_eq_true_eq]
  simp;exact hLm
 have hstart:t.probeStart (tkh prog w ks)=yw m (tkh prog w ks):=by
  show lp t.mask (bits (tkh prog w ks) % (t.mask+1)) (bits (tkh prog w ks))=_
  rw[ht.mask];rfl
 obtain⟨n,hn,hff⟩:=zi1 (L:=L) hfull hLm (zdy m (tkh prog w ks))
 have hturn:n < 100000:=Nat.lt_of_lt_of_le hn (by rcases hm with ⟨rfl,_⟩ | ⟨rfl,_⟩ <;> decide)
 have hnot:(∀ k,k < n→∀ e∈L,e.1=(advN m k (yw m (tkh prog w ks))).j→∀ b,e.2.2=.ref b→¬ TK prog w s.heap ks b)→ks∉K:=fun hno hin=>by
  obtain⟨e,he,b,hb,hkb⟩:=(hmem ks).mp hin
  obtain⟨b',ks',q1,q2,q3⟩:=hent e he
  rw[hb] at q1;cases q1
  rw[IsTupleKey.inj q2 hkb] at q3
  obtain⟨k,hk1,hk2⟩:=hre.before he (q3.symm ▸ hff)
  rw[q3] at hk2
  exact hno k hk1 e he hk2.symm b hb hkb
 obtain⟨p,t₁,L',eput,eins,p2,p3,p4,hlen',hnew⟩:=zkb (x:=.ref a) ht hr hre hff
 have hsz':(elems L').size=L.length+1:=by rw[← hlen'];simp[elems]
 have hsb1:=Heap.SameBut.update s.heap S (Obj.putSet (elems L') t₁)
 have hg1:=Heap.get?_update_self (Obj.putSet (elems L') t₁) ho (by rw[putSet_of _ _ hd];rfl)
 rw[putSet_of _ _ hd] at hg1
 have last:ks∉K→wpAny (model prog w) A (if (!false && t₁.tooFull)=true then setRelay S (grown ((elems L).size+1)) >>= fun _=>pure true else pure true) Q E { s with heap:=s.heap.update S (Obj.putSet (elems L') t₁) }:=fun hnK=>by
  have size:(elems L).size=L.length:=by simp[elems]
  rw[zfm p2,hlen']
  by_cases hfl:m * 3≤(L.length+1) * 5
  ·have h74:m=7∧L.length=4:=by rcases hm with ⟨rfl,h⟩ | ⟨rfl,h⟩ <;> omega
   obtain⟨rfl,h4⟩:=h74
   rw[size,h4]
   refine wpAny_ite_true (by rw[← h4,decide_eq_true hfl];rfl) (wpAny_bind (zj9 (s:={ s with heap:=s.heap.update S (Obj.putSet (elems L') t₁) }) hg1 rfl p2 (hlen'.trans (congrArg (· + 1) h4)) fun t' L'' q1 q2 q3 q4 q5=>wpAny_pure ?_))
   have hsb2:=Heap.SameBut.update (s.heap.update S (Obj.putSet (elems L') t₁)) S (Obj.putSet (elems L'') t')
   have hg2:=Heap.get?_update_self (Obj.putSet (elems L'') t') hg1 (by rw[putSet_of (es:=elems L') (ep:=ep+1) _ _ rfl];rfl)
   rw[putSet_of (es:=elems L') (ep:=ep+1) _ _ rfl] at hg2
   exact new hnK _ _ (hsb1.trans hsb2) (.more ho hex hk hlen hnd hent hmem hnK hnew (hsb1.trans hsb2) hg2 hex rfl q1 q2 q3 (q4.trans (congrArg (· + 1) h4.symm)) q5 (.inr ⟨rfl,q4 ▸ (by decide)⟩))
  ·exact wpAny_ite_false (by rw[decide_eq_false hfl];rfl) (wpAny_pure (new hnK _ _ hsb1 (.more ho hex hk hlen hnd hent hmem hnK hnew hsb1 hg1 hex rfl p2 p3 p4 hlen' (fun _=>Iff.rfl) (by rw[hlen'];rcases hm with ⟨rfl,h⟩ | ⟨rfl,h⟩ <;> omega))))
 clear hnew p3 p4 hsb1 hg1 new hfull
 unfold setAddHashed
 rw[zbi]
 refine wpAny_holding (wpAny_bind (wpAny_setState_of ho hd hfit (wpAny_ite_false rfl ?_)))
 refine wpAny_bind (zii ho hd ht hr hLm hodd hent hu hk (fun hin=>wpAny_pure (old ((hmem ks).mpr hin) _)) 100000 n none (yw m (tkh prog w ks)) hstart hturn hn rfl hff fun hno=>?_)
 refine wpAny_bind (wpAny_setState_of ho hd hfit ?_)
 dsimp only
 rw[eput]
 refine wpAny_ite_true (by rw[p2.plain];rfl) (wpAny_bind (zbs hk ?_))
 show wpAny _ _ (storeSet S (insertAt (elems L) p (tkh prog w ks,.ref a)) t₁ >>= _) _ _ _
 rw[eins]
 exact wpAny_bind (wpAny_storeSet_of ho hd (last (hnot hno)) (by rw[hsz',sizeLine_eq];omega))
end
end Mine
end
section
namespace Mine
open PySem PyProof.Rows PySem.W
noncomputable def addK(K:List (List Int))(ks:List Int):List (List Int):=if ks∈K then K else K++[ks]
noncomputable def ym(kss:List (List Int))(i:Nat):List (List Int):=(kss.take i).foldl addK []
theorem gg{kss:List (List Int)}{i:Nat}{k:List Int}(h:kss[i]?=some k):ym kss (i+1)=addK (ym kss i) k:=by
 unfold ym
 rw[List.take_add_one,h,List.foldl_append]
 rfl
theorem uf(kss:List (List Int)):∀ i,(ym kss i).length≤i
 | 0=>by simp[ym]
 | i+1=>by
   have ih:=uf kss i
   cases h:kss[i]? with
   | none=>
     have:ym kss (i+1)=ym kss i:=by unfold ym;rw[List.take_add_one,h];simp
     rw[this];omega
   | some k=>
     rw[gg h]
     unfold addK
     split
     ·omega
     ·rw[List.length_append,List.length_singleton];omega
section
variable{prog:Program}{w:World}{A:Around}{E:Value→Shared→Prop}{s:Shared}
variable{I:Addr}{fp wr:List Addr}{R:Result→Shared→Prop}{P:Nat→Value→Prop}{St:Nat→Heap→Prop}
theorem TK.keep{h h':Heap}{ks:List Int}{b:Addr}(hk:TK prog w h ks b)(hs:∀ b o,h.get? b=some o→h'.get? b=some o):TK prog w h' ks b:=by
 obtain⟨o,items,n,ho,r⟩:=hk
 exact⟨o,items,n,hs b o ho,r⟩
theorem TSet.keep{h h':Heap}{S:Addr}{ld:Bool}{K:List (List Int)}(hS:TSet prog w h S ld K)(z:List Addr)(hz:∀ b∈z,∀ o,h.get? b=some o→o.cls≠.type "tuple")(hSz:S∉z)(hs:∀ b o,b∉z→h.get? b=some o→h'.get? b=some o):TSet prog w h' S ld K:=by
 obtain⟨o,ep,t,m,L,ho,hex,hd,ht,hr,hre,hlen,hnd,hent,hmem,hm⟩:=hS
 have up:∀ {ks:List Int} {b:Addr},TK prog w h ks b→TK prog w h' ks b:=fun {ks b} ⟨o',items,n,ho',hc',r⟩=>⟨o',items,n,hs b o' (fun hb=>hz b hb o' ho' hc') ho',hc',r⟩
 refine⟨o,ep,t,m,L,hs S o hSz ho,hex,hd,ht,hr,hre,hlen,hnd,fun e he=>?_,fun ks=>?_,hm⟩
 ·obtain⟨a,ks,q1,q2,q3⟩:=hent e he
  exact⟨a,ks,q1,up q2,q3⟩
 ·rw[hmem]
  constructor
  ·rintro⟨e,he,b,hb,hk⟩
   exact⟨e,he,b,hb,up hk⟩
  ·rintro⟨e,he,b,hb,hk⟩
   obtain⟨a,ks',q1,q2,q3⟩:=hent e he
   rw[hb] at q1;cases q1
   have:=IsTupleKey.inj (up q2) hk
   subst this
   exact⟨e,he,b,hb,q2⟩
theorem zle{kss:List (List Int)}{ld:Bool}(W:Walks prog w A.in1 I fp wr kss.length P St)(S:Addr)(hSf:S∉fp)(h0:Heap)(hu:A.in1.units < cLine)
 (hval:∀ (i:Nat) v,i < kss.length→P i v→∃ b ks,kss[i]?=some ks∧v=.ref b∧TK prog w h0 ks b) (hwr:∀ i h,St i h→∀ z∈wr,∀ o,h.get? z=some o→o.cls≠.type "tuple") (hS0:h0.get? S=none) (hw0:∀ z∈wr,h0.get? z=none) (h4:kss.length≤17) :
 ∀ (k i:Nat) (s:Shared),kss.length - i=k→i≤kss.length→St i s.heap→TSet prog w s.heap S ld (ym kss i)→(∀ b o,h0.get? b=some o→s.heap.get? b=some o) →
  (∀ h' tk,(∀ b o,b∉S::wr→s.heap.get? b=some o→h'.get? b=some o)→TSet prog w h' S ld (ym kss kss.length)→R (.ok (.ret .none)) { s with heap:=h',toks:=tk }) →
  codeAny (model prog w) A (.builtin "set.update.loop" ⟨[.ref S,.ref I],[]⟩) R s:=by
 have hSw:S∉wr:=fun h=>hSf (W.sub _ h)
 intro k
 induction k with
 | zero=>
   intro i s hk hi hst hS hkp hR
   have hin:=zb8 hk hi
   subst hin
   refine codeAny_builtin F.entry_set_update_loop ?_
   rw[Around.under_plainId F.plain_set_update_loop _]
   show wpAny _ A.in1 (pyNext (.ref I) >>= _) _ _ s
   refine wpAny_bind (W.done s _ _ hst fun h' tk hm=>?_)
   show wpAny _ A.in1 (ret Value.none) _ _ _
   refine wpAny_pure (hR h' tk (fun b o hb e=>hm b o (fun h=>hb (List.mem_cons_of_mem _ h)) e) ?_)
   exact hS.keep wr (hwr _ _ hst) hSw hm
 | succ k ih=>
   intro i s hk hi hst hS hkp hR
   have hlt:=zeb hk
   refine codeAny_builtin F.entry_set_update_loop ?_
   rw[Around.under_plainId F.plain_set_update_loop _]
   show wpAny _ A.in1 (pyNext (.ref I) >>= _) _ _ s
   refine wpAny_bind (W.item i s _ _ hlt hst fun v h₁ tk₁ hP hst' hm=>?_)
   obtain⟨b,ks,hx,rfl,hkb⟩:=hval i v hlt hP
   have hS':TSet prog w h₁ S ld (ym kss i):=hS.keep wr (hwr _ _ hst) hSw hm
   have hkp1:∀ b o,h0.get? b=some o→h₁.get? b=some o:=fun b o e=>hm b o (fun hb=>by rw[hw0 b hb] at e;cases e) (hkp b o e)
   have hk1:TK prog w h₁ ks b:=hkb.keep hkp1
   show wpAny _ A.in1 (holding [Value.ref b] (setAdd S (.ref b)) >>= _) _ _ _
   refine wpAny_bind (wpAny_holding ?_)
   unfold setAdd
   refine wpAny_holding ?_
   refine wpAny_bind (wpAny_pyHash_tuple (s:={ s with heap:=h₁,toks:=tk₁ }) hu hk1 ?_)
   refine zoe (s:={ s with heap:=h₁,toks:=tk₁+(ks.length+1) }) hS' hu hk1 (Nat.le_trans (uf kss i) (Nat.le_trans hi h4)) fun b' h' hsb hS2=>?_
   have hS2:TSet prog w h' S ld (ym kss (i+1)):=by rw[gg hx];exact hS2
   refine wpAny_pure ⟨plainId_quiet F.plain_set_update_loop _,ih (i+1) _ (zb9 hk) hlt (W.frame _ _ _ hst' fun b hb o e=>?_) hS2 (fun b o e=>?_) fun h'' tk hk'' hS''=>?_⟩
   ·exact (hsb.2 b (fun h:b=S=>hSf (by rw[← h];exact hb))).trans e
   ·exact (hsb.2 b (fun h:b=S=>by rw[h,hS0] at e;cases e)).trans (hkp1 b o e)
   ·refine hR h'' tk (fun b o hb e=>hk'' b o hb ?_) hS''
    exact (hsb.2 b (fun h:b=S=>hb (by rw[h];exact List.mem_cons_self))).trans (hm b o (fun h=>hb (List.mem_cons_of_mem _ h)) e)
theorem zbr{l:Addr}{items:Array Value}{kss:List (List Int)}{Q:Value→Shared→Prop}
 (hh:A.handled=none) (hu:A.units+10 < cLine) (hl:s.heap.IsList l items) (hsz:items.size=kss.length) (hi:∀ (i:Nat) v,items[i]?=some v→∃ b ks,kss[i]?=some ks∧v=.ref b∧TK prog w s.heap ks b) (h4:kss.length≤17)
 (h:∀ (h':Heap) (tk:Nat),TSet prog w h' s.heap.objs.size (!w.params.followText "set-order") (ym kss kss.length) →
   (∀ b o,s.heap.get? b=some o→h'.get? b=some o)→Q (.ref s.heap.objs.size) { s with heap:=h',toks:=tk }) :
 wpAny (model prog w) A (call (.type "set") [.ref l]) Q E s:=by
 obtain⟨ol,hol,hcl,nl,hdl⟩:=hl
 refine ua (ci:="list_iterator") hol hcl PySem.F.sub_list_set PySem.F.sub_list_frozenset (by decide) (fun e hQ=>wpAny_pyIter_list ⟨_,e,hcl,nl,hdl⟩ hQ) (fun R hR=>?_) h
 obtain⟨hneI,hSf⟩:=zb2 (w:=w) (Heap.lt_size hol)
 have W:=Walks.list (prog:=prog) (w:=w) (A:=A.in1.in1.in1) (by simp[hh]) (s.heap.push (newSet w)).objs.size l hneI items
 rw[hsz] at W
 have nn:∀ j,s.heap.objs.size≤j→s.heap.get? j=none:=fun j hj=>by
  cases e:s.heap.get? j with
  | none=>rfl
  | some o'=>exact absurd (Heap.lt_size e) (Nat.not_lt.mpr hj)
 refine zle (kss:=kss) (ld:=!w.params.followText "set-order") W s.heap.objs.size hSf s.heap (by simp only [Around.in1_units];omega) (fun i v hi' hv=>hi i v hv) (fun i h' st z hz o' e=>?_) (nn _ (Nat.le_refl _)) (fun z hz=>nn z (by rw [List.mem_singleton.mp hz,Heap.size_push];exact Nat.le_succ _)) h4 kss.length 0 _ rfl (Nat.zero_le _)
  ⟨⟨_,Heap.get?_push_size _ rfl,rfl,rfl⟩,ol,Heap.get?_push_of_some _ (Heap.get?_push_of_some _ hol),hcl,nl,hdl⟩ ?_ (fun b o e=>Heap.get?_push_of_some _ (Heap.get?_push_of_some _ e)) fun h' tk hm hS'=>hR h' tk (zb1 hm) hS'
 ·obtain⟨⟨oI,hoI,hcI,_⟩,_⟩:=st
  rw[List.mem_singleton.mp hz] at e
  rw[e] at hoI;cases hoI
  rw[hcI];decide
 ·exact⟨_,0,_,7,[],Heap.get?_push_of_some _ (Heap.get?_push_size _ rfl),⟨rfl,rfl,rfl⟩,rfl,⟨rfl,rfl,rfl,rfl,rfl⟩,.nil,fun _ h=>(nomatch h),rfl,by simp[ym],fun _ h=>(nomatch h),fun ks=>by simp[ym],.inl ⟨rfl,Nat.zero_le _⟩⟩
end
end Mine
end
section
namespace Mine
open PySem PyProof.Rows
noncomputable def CSs.stuck:CSs:=fun _ _ _=>.stuck
theorem zj1{cx:Cx}{l:List Stmt}:JSs cx l .stuck:=⟨fun _ _=>trivial⟩
section
variable{G:Gl}{F:Fm}{A:Around}{s:Shared}{β:List Addr}{ρ:Loc}{O:za}{cx:Cx}{gval:Nat→Option PyData}{gname:Nat→Option Str}
theorem zh2{α:Type}{x:Str}{fv:Value}{y:Expr}{ps q:Pos}{r:R za V}{k:V→za→R za α}{Rel:List Addr→Heap→Value→α→Prop}(g:GOk G gval gname)(sr:SR G F β ρ O s.heap)(fit:Fits F cx)(hx:cx.isGlob x=true)(hb:(x,fv)∈bis)(hfv:(∃ id,fv=.builtin id)∨∃ T,fv=.type T)
 (he:starEach [y] F.env=(false,eval y F.env)::starEach [] F.env) (h1:Does G F A s β (eval y F.env) (r.lift ρ) (VRel G F))
 (h2:∀ s' β' val v O',SR G F β' ρ O' s'.heap→VR G F.B β' s'.heap val v→Does G F A s' β' (call fv [val]) ((k v O').lift ρ) Rel) :
 Does G F A s β (eval (.Call (.Name x ps) [y] [] q) F.env) ((r.bind k).lift ρ) Rel:=by
 have e1:r.bind k=(r.bind fun v O=>(R.ok ([]:List V) O).bind fun vs O=>R.ok (v::vs) O).bind fun vs O=>(match vs with | [u]=>k u O | _=>.stuck):=by cases r <;> rfl
 rw[e1]
 refine p9 g sr fit hx hb hfv he rfl (yl he h1 fun s' β' O' sr'=>xp sr') fun s' β' vals vs O' e' st sr' rvs=>?_
 cases vs with
 | nil=>trivial
 | cons u vs=>cases vs with
   | cons _ _=>trivial
   | nil=>
     obtain⟨v,rfl,ru⟩:=rvs.one
     exact h2 s' β' v u O' sr' ru
theorem zoa{α:Type}{x:Str}{fv:Value}{y z:Expr}{ps q:Pos}{ra:R za V}{rb:za→R za V}{k:V→V→za→R za α}{Rel:List Addr→Heap→Value→α→Prop}(g:GOk G gval gname)(sr:SR G F β ρ O s.heap)(fit:Fits F cx)(hx:cx.isGlob x=true)(hb:(x,fv)∈bis)(hfv:(∃ id,fv=.builtin id)∨∃ T,fv=.type T)
 (he:starEach [y,z] F.env=(false,eval y F.env)::starEach [z] F.env) (he':starEach [z] F.env=(false,eval z F.env)::starEach [] F.env)
 (h1:Does G F A s β (eval y F.env) (ra.lift ρ) (VRel G F)) (h2:∀ s' β' O',SR G F β' ρ O' s'.heap→Does G F A s' β' (eval z F.env) ((rb O').lift ρ) (VRel G F))
 (h3:∀ s' β' val wal v w O',SR G F β' ρ O' s'.heap→VR G F.B β' s'.heap val v→VR G F.B β' s'.heap wal w→Does G F A s' β' (call fv [val,wal]) ((k v w O').lift ρ) Rel) :
 Does G F A s β (eval (.Call (.Name x ps) [y,z] [] q) F.env) ((ra.bind fun v O=>(rb O).bind fun u O=>k v u O).lift ρ) Rel:=by
 have d1:Does G F A s β (spliced (backTo q (starEach [y,z] F.env))) ((ra.bind fun v O=>((rb O).bind fun v O=>(R.ok ([]:List V) O).bind fun vs O=>.ok (v::vs) O).bind fun vs O=>.ok (v::vs) O).lift ρ) (VRsl G F):=
  yl he h1 fun s' β' O' sr'=>yl he' (h2 s' β' O' sr') fun s' β' O' sr'=>xp sr'
 have e1:(ra.bind fun v O=>(rb O).bind fun u O=>k v u O)=(ra.bind fun v O=>((rb O).bind fun v O=>(R.ok ([]:List V) O).bind fun vs O=>.ok (v::vs) O).bind fun vs O=>.ok (v::vs) O).bind fun vs O=>(match vs with | [v,u]=>k v u O | _=>.stuck):=by
  cases ra with
  | ok v O=>
    show (rb O).bind (fun u O=>k v u O)=(((rb O).bind fun v O=>(R.ok ([]:List V) O).bind fun vs O=>R.ok (v::vs) O).bind fun vs O=>R.ok (v::vs) O).bind _
    cases rb O <;> rfl
  | stuck=>rfl
 rw[e1]
 refine p9 g sr fit hx hb hfv he (by rw[he'];rfl) d1 fun s' β' vals vs O' e' st sr' rvs=>?_
 cases vs with
 | nil=>trivial
 | cons u vs=>cases vs with
   | nil=>trivial
   | cons w vs=>cases vs with
     | cons _ _=>trivial
     | nil=>
       obtain⟨v,v',rfl,rv,ru⟩:=rvs.two
       exact h3 s' β' v v' u w O' sr' rv ru
end
noncomputable def minV(v u:V)(O:za):R za V:=match intV v with
 | some i=>(match intV u with
    | some j=>.ok (.d (.int (min i j))) O
    | none=>.stuck)
 | none=>.stuck
noncomputable def CE.min2(a b:CE):CE:=fun P ρ O=>if P.hd=true then .stuck else (evE P ρ a O).bind fun v O=>(evE P ρ b O).bind fun u O=>minV v u O
section
variable{cx:Cx}{x y:Expr}{a b:CE}{p q ps pz:Pos}
theorem zq6{G:Gl}{F:Fm}{A:Around}{s:Shared}{β:List Addr}{ρ:Loc}{O:za}{v u:Value}{d e:V}(hh:A.handled=none)(sr:SR G F β ρ O s.heap)(rv:VR G F.B β s.heap v d)(ru:VR G F.B β s.heap u e) :
 Does G F A s β (call (.builtin "min") [v,u]) ((minV d e O).lift ρ) (VRel G F):=by
 unfold minV
 cases h1:intV d with
 | none=>trivial
 | some i=>
   cases h2:intV e with
   | none=>trivial
   | some j=>
     obtain⟨t,rfl⟩:=rv.intV h1
     obtain⟨t',rfl⟩:=ru.intV h2
     refine Does.leaf sr fun Q E q=>min_two_ints hh fun h' tk hk=>?_
     by_cases hij:j < i
     ·rw[if_pos hij]
      rw[show min i j=j from Int.min_eq_right (Int.le_of_lt hij)] at q
      exact q _ _ (ye hk) VR.int
     ·rw[if_neg hij]
      rw[show min i j=i from Int.min_eq_left (Int.not_lt.mp hij)] at q
      exact q _ _ (ye hk) VR.int
theorem zqd(h1:JE cx x a)(h2:JE cx y b)(hg:cx.isGlob "min" = true):JE cx (.Call (.Name "min" ps) [x,y] [] q) (.min2 a b):=
 ⟨rfl,fun {G A P F s β ρ O} hr sr=>by
   show Does G F A s β _ (R.lift ρ (if P.hd=true then .stuck else _:R za V)) _
   by_cases hd:P.hd=true
   ·rw[if_pos hd];trivial
   rw[if_neg hd]
   exact zoa (rb:=fun O=>evE P ρ b O) (fv:=.builtin "min") hr.run.g sr hr.fit hg (by decide) (.inl ⟨_,rfl⟩) h1.px.star h2.px.star (h1.d hr sr) (fun s' β' O' sr'=>h2.d hr sr') fun s' β' v w d e O' sr' rv rw=>zq6 (hr.run.hm (Bool.eq_false_iff.mpr hd)) sr' rv rw⟩
end
noncomputable def xa:PyData→Str
 | .str y=>y
 | x=>x.shown
noncomputable def strD(x:PyData):Option PyData:=if (x.showable && decide (x.depth≤100) && decide (x.shown.length≤1000000))=true then some (.str (xa x)) else none
noncomputable def strV(v:V)(O:za):R za V:=match v with
 | .d x=>opt ((strD x).map .d) O
 | _=>.stuck
noncomputable def CE.strC(a:CE):CE:=fun P ρ O=>(evE P ρ a O).bind strV
section
variable{cx:Cx}{x y:Expr}{a b:CE}{p q ps pz:Pos}
set_option tactic.hygienic true in
theorem zq4{G:Gl}{F:Fm}{A:Around}{s:Shared}{β:List Addr}{ρ:Loc}{O:za}{v:Value}{d:V}{k:Nat}(ro:Room A k)(sr:SR G F β ρ O s.heap)(rv:VR G F.B β s.heap v d) :
 Does G F A s β (call (.type "str") [v]) ((strV d O).lift ρ) (VRel G F):=by
 cases d <;> first | trivial | skip
 rename_i x
 show DoesW G F s β _ ((opt ((strD x).map V.d) O).lift ρ) _
 unfold strD
 by_cases hc:(x.showable && decide (x.depth≤100) && decide (x.shown.length≤1000000))=true
 ·rw[if_pos hc]
  rw[Bool.and_eq_true,Bool.and_eq_true,decide_eq_true_eq,decide_eq_true_eq] at hc
  obtain⟨⟨hs,hd⟩,hl⟩:=hc
  obtain⟨as,r,q⟩:=rv
  have hsm:sysModules∉as:=fun hm=>(q _ hm).2 sr.fm.new.2.1
  have hu:=ro.c (n:=200)
  refine Does.leaf sr fun Q E kk=>?_
  have obj:∀ {a:Addr} {z:PyData},Reads s.heap (.ref a) z as→z.showable=true→z.depth≤100→z.shown.length≤1000000→(∀ t,Q (.str z.shown t) s→True)→(∀ h' u tk,(∀ b o,s.heap.get? b=some o→h'.get? b=some o)→Q (.str z.shown u) { s with heap:=h',toks:=tk })→wpAny (model G.prog G.w) A (call (.type "str") [.ref a]) Q E s:=
   fun r hs hd hl _ hq=>str_of_reads r hs (fun _=>hsm) ro.guards (by omega) (fun _ _ e=>e) hq (Nat.le_trans hl (by decide))
  cases x with
  | none=>cases r;exact PySem.P.str_of_none (kk _ _ (KeepsAll.toks s _) VR.str)
  | bool b=>cases r;exact PySem.P.str_of_bool (kk _ _ (KeepsAll.toks s _) VR.str)
  | int i=>cases r;exact PySem.P.str_of_int (of_decide_eq_true hs) (kk _ _ (KeepsAll.toks s _) VR.str)
  | str y=>cases r;exact PySem.P.str_of_str (kk _ _ (KeepsAll.refl s) VR.str)
  | list xs=>
    have r':=r
    cases r
    exact obj r' hs hd hl (fun _ _=>trivial) fun h' u tk hk=>kk _ _ (ye hk) VR.str
  | tuple xs=>
    have r':=r
    cases r
    exact obj r' hs hd hl (fun _ _=>trivial) fun h' u tk hk=>kk _ _ (ye hk) VR.str
  | dict kvs=>
    have r':=r
    cases r
    exact obj r' hs hd hl (fun _ _=>trivial) fun h' u tk hk=>kk _ _ (ye hk) VR.str
 ·rw[if_neg hc];trivial
theorem zqb(h1:JE cx y a)(hg:cx.isGlob "str" = true):JE cx (.Call (.Name "str" ps) [y] [] q) (.strC a):=
 ⟨rfl,fun {G A P F s β ρ O} hr sr=>zh2 (fv:=.type "str") (k:=strV) hr.run.g sr hr.fit hg (by decide) (.inr ⟨_,rfl⟩) h1.px.star (h1.d hr sr) fun s' β' val v O' sr' rv=>zq4 hr.run.ro sr' rv⟩
end
section
variable{prog:Program}{w:World}{A:Around}{E:Value→Shared→Prop}{s:Shared}
theorem zbm{l:Addr}{items:Array Value}{k:Int}{t:Tok}{v:Value}{Q:Unit→Shared→Prop}(hl:s.heap.PlainList l items)(h0:0≤k)(hfit:k < 2 ^ 63)(hn:k < items.size)
 (hQ:∀ h',h'.PlainList l (items.setIfInBounds k.toNat v)→Heap.SameBut l s.heap h'→Q () { s with heap:=h' }):wpAny (model prog w) A (setItem (.ref l) (.int k t) v) Q E s:=by
 obtain⟨n,ho⟩:=hl
 have hT:s.TypeIs (.ref l) "list":=⟨_,ho,rfl⟩
 unfold setItem
 try with_reducible refine wpAny_holding ?_
 first | refine wpAny_bind (wpAny_pure ?_) | skip
 refine wpAny_bind (wpAny_sequenceKey hT (by decide) ?_)
 refine wpAny_bind (wpAny_callSpecial?_slot (name:=Str.ofString "__setitem__") hT slot_list_setitem (wpAny_call_entry slot_list_setitem hT entry_list_setitem ?_ (args_list_setitem _ _ _)))
 show wpAny _ _ (Builtin.List.listSubscript? (.int k t) >>= _) _ _ s
 refine wpAny_bind (wpAny_listSubscript_int (fitsIndex_of h0 hfit) ?_)
 clear hfit
 obtain⟨j,rfl⟩:=Int.eq_ofNat_of_zero_le h0
 have hj:j < items.size:=by omega
 show wpAny _ _ ((seqItemAt l j >>= fun r=>pure (r.map (j,·))) >>= _) _ _ s
 refine wpAny_bind (wpAny_bind (wpAny_seqItemAt ho rfl (wpAny_pure ?_)))
 rw[Array.getElem?_eq_getElem hj]
 show wpAny _ _ (setSeqItemAt l j v >>= _) _ _ s
 have hfin:(s.heap.update l (Obj.mapSeq (·.setIfInBounds j v))).PlainList l (items.setIfInBounds j v):=⟨_,Heap.get?_update_self _ ho rfl⟩
 refine wpAny_bind (wpAny_setSeqItemAt ho rfl ?_)
 first
  | exact wpAny_bind (wpAny_pure (wpAny_pure ⟨.none,rfl,wpAny_pure (hQ _ hfin (Heap.SameBut.update ..))⟩))
  | exact wpAny_pure ⟨.none,rfl,wpAny_pure (hQ _ hfin (Heap.SameBut.update ..))⟩
end
theorem zc4{h:Heap}{P:Addr→Prop}{v:Value}{y:PyData}{cs:List Addr}(rv:Reads h v y cs)(qv:∀ a∈cs,P a){vs:List Value}{xs:List PyData}{as:List Addr}(r:ReadsAll h vs xs as):(∀ a∈as,P a)→∀ (j:Nat),∃ bs,ReadsAll h (vs.set j v) (xs.set j y) bs∧∀ a∈bs,P a:=by
 refine z6 (motive:=fun vs xs as=>(∀ a∈as,P a)→∀ (j:Nat),∃ bs,ReadsAll h (vs.set j v) (xs.set j y) bs∧∀ a∈bs,P a) ?_ ?_ r
 ·intro _ j;exact⟨[],.nil,fun _ h=>nomatch h⟩
 ·intro u d as vs ds bs r rs ih q j
  cases j with
  | zero=>exact⟨cs++bs,.cons rv rs,fun a ha=>(List.mem_append.mp ha).elim (qv a) fun h=>q a (List.mem_append_right _ h)⟩
  | succ j=>
    obtain⟨b,r',q'⟩:=ih (fun a ha=>q a (List.mem_append_right _ ha)) j
    exact⟨as++b,.cons r r',fun a ha=>(List.mem_append.mp ha).elim (fun h=>q a (List.mem_append_left _ h)) (q' a)⟩
noncomputable def zom(n:Nat)(xs:List PyData)(k x:V)(O:za):R za Unit:=match intV k with
 | some j=>(match x with
    | .d y=>if 0≤j∧j < xs.length∧xs.length≤line then .ok () (O.set n (.lst (xs.set j.toNat y))) else .stuck
    | _=>.stuck)
 | none=>.stuck
noncomputable def zhc(w k x:V)(O:za):R za Unit:=match w with
 | .box n=>(match O[n]? with
    | some (.lst xs)=>zom n xs k x O
    | _=>.stuck)
 | _=>.stuck
noncomputable def CS.setI(o i e:CE):CS:=fun P ρ O=>(((evE P ρ e O).bind fun x O=>(evE P ρ o O).bind fun w O=>(evE P ρ i O).bind fun k O=>zhc w k x O).lift ρ).bind fun _ S=>.ok .next S
section
variable{G:Gl}{F:Fm}{A:Around}{s:Shared}{β:List Addr}{ρ:Loc}{O:za}
set_option tactic.hygienic true in
theorem zn5{v u z:Value}{w k x:V}(sr:SR G F β ρ O s.heap)(rw_:VR G F.B β s.heap v w)(rk:VR G F.B β s.heap u k)(rx:VR G F.B β s.heap z x) :
 Does G F A s β (setItem v u z) ((zhc w k x O).lift ρ) (fun _ _ _ _=>True):=by
 cases w <;> first | trivial | skip
 rename_i n
 unfold zhc
 dsimp only
 cases hx:O[n]? with
 | none=>trivial
 | some bx=>
   cases bx with
   | lst xs=>
     dsimp only
     unfold zom
     cases hk:intV k with
     | none=>trivial
     | some j=>
       cases x <;> first | trivial | skip
       rename_i y
       dsimp only
       by_cases hj:0≤j∧j < xs.length∧xs.length≤line
       ·rw[if_pos hj]
        obtain⟨a,hn,rfl⟩:=rw_
        obtain⟨t,rfl⟩:=rk.intV hk
        obtain⟨vs,as,hpl,r1,q1⟩:=kv (sr.br.plain a (List.mem_of_getElem? hn)) (sr.br.at_ n a _ hn hx)
        have hsz:vs.size=xs.length:=by rw[← Array.length_toList,zd r1]
        intro Q E kk
        have hline:line < 2 ^ 63:=by decide
        refine zbm hpl hj.1 (by omega) (by rw[hsz];exact hj.2.1) fun h' hl' hs'=>?_
        obtain⟨k',e'⟩:=hl'
        obtain⟨cs,r3,q3⟩:=rx
        have hb:Step F.W β s { s with heap:=h' } β→BoxAt h' F.B β a (.lst (xs.set j.toNat y)):=fun st₃=>by
         obtain ⟨bs,r4,q4⟩:=zc4 (kq sr.br sr.fm st₃ r3 q3).1 q3 (zy sr.br sr.fm st₃ r1 q1).1 q1 j.toNat
         exact⟨_,_,k',e',rfl,rfl,bs,by rw[Array.toList_setIfInBounds];exact r4,q4⟩
        obtain⟨st₃,sr₃⟩:=SR.setBox (bx:=.lst (xs.set j.toNat y)) (s':={ s with heap:=h' }) sr hn hs' rfl rfl hb ⟨_,e',rfl,rfl⟩
        exact kk _ β () st₃ sr₃ trivial
       ·rw[if_neg hj];trivial
theorem zq5{o i value:Expr}{p spos:Pos}{re:R za V}{ro ri:za→R za V}(hs:swapsWith value (some (.Subscript o i p)) spos.line F.env=pure false)
 (h1:Does G F A s β (eval value F.env) (re.lift ρ) (VRel G F)) (h2:∀ s' β' O',SR G F β' ρ O' s'.heap→Does G F A s' β' (eval o F.env) ((ro O').lift ρ) (VRel G F)) (h3:∀ s' β' O',SR G F β' ρ O' s'.heap→Does G F A s' β' (eval i F.env) ((ri O').lift ρ) (VRel G F)) :
 Does G F A s β (exec (.Assign [.Subscript o i p] value spos) F.env) (((re.bind fun x O=>(ro O).bind fun w O=>(ri O).bind fun k O=>zhc w k x O).lift ρ).bind fun _ S=>.ok .next S) (yv G F):=by
 refine DoesW.seq (T₁:=fun Q E s=>wpAny (model G.prog G.w) A (eval value F.env) (fun v s₁=>wpAny (model G.prog G.w) A (eval o F.env) (fun ov s₂=>wpAny (model G.prog G.w) A (eval i F.env) (fun iv s₃=>wpAny (model G.prog G.w) A (setItem ov iv v) Q E s₃) E s₂) E s₁) E s)
  (T₂:=fun _ Q E s'=>Q .next s') (Rel₁:=fun _ _ _ _=>True) (fun Q E h=>wpAny_Assign_Subscript h hs) ?_ fun s' β' v d S e st sr rv=>Does.leaf sr fun Q E q=>q .next _ (KeepsAll.refl s') rfl
 refine DoesW.seqE (T₂:=fun v Q E s₁=>wpAny (model G.prog G.w) A (eval o F.env) (fun ov s₂=>wpAny (model G.prog G.w) A (eval i F.env) (fun iv s₃=>wpAny (model G.prog G.w) A (setItem ov iv v) Q E s₃) E s₂) E s₁) (fun Q E h=>h) h1 fun s₁ β₁ v x O₁ _ st₁ sr₁ rx=>?_
 refine DoesW.seqE (T₁:=tr G A (eval o F.env)) (T₂:=fun ov Q E s₂=>wpAny (model G.prog G.w) A (eval i F.env) (fun iv s₃=>wpAny (model G.prog G.w) A (setItem ov iv v) Q E s₃) E s₂) (fun Q E h=>h) (h2 s₁ β₁ O₁ sr₁) fun s₂ β₂ ov w O₂ _ st₂ sr₂ rw_=>?_
 refine DoesW.seqE (T₁:=tr G A (eval i F.env)) (T₂:=fun iv=>tr G A (setItem ov iv v)) (fun Q E h=>h) (h3 s₂ β₂ O₂ sr₂) fun s₃ β₃ iv k O₃ _ st₃ sr₃ rk=>?_
 exact zn5 sr₃ (rw_.step sr₂.br sr₂.fm st₃) rk (rx.step sr₁.br sr₁.fm (st₂.trans st₃))
end
theorem zpq{cx:Cx}{x y z:Expr}{a b c:CE}{p ps:Pos}(h1:JE cx x a)(h2:JE cx y b)(h3:JE cx z c)(hx:noCompX z=true):JS cx (.Assign [.Subscript x y ps] z p) (.setI a b c):=
 ⟨fun {G A P F s β ρ O} hr sr=>zq5 (ro:=fun O=>evE P ρ a O) (ri:=fun O=>evE P ρ b O) (noCompX.swaps hx _ _ _) (h3.d hr.toHere sr) (fun s' β' O' sr'=>h1.d hr.toHere sr') fun s' β' O' sr'=>h2.d hr.toHere sr'⟩
end Mine
end
section
namespace Mine
open PySem PyProof.Rows PySem.W
section
variable{prog:Program}{w:World}
theorem zk2{vs:List Value}{is:List Int}(h:IntsAre vs is):ItemsAre (intKind prog w) is vs:=by
 induction h with
 | nil=>exact .nil
 | cons i t _ ih=>exact .cons (by show Value.isInt i (.int i t)=true;unfold Value.isInt;exact decide_eq_true rfl) ih
theorem zjv{h:Heap}{vs:List Value}{xs:List PyData}{as:List Addr}(r:ReadsAll h vs xs as):∀ {kss:List (List Int)},wz xs=some kss→vs.length=kss.length∧∀ (i:Nat) v,vs[i]?=some v→∃ b ks,kss[i]?=some ks∧v=.ref b∧TK (prog:=prog) (w:=w) h ks b:=by
 refine z6 (motive:=fun vs xs _=>∀ {kss:List (List Int)},wz xs=some kss→vs.length=kss.length∧∀ (i:Nat) v,vs[i]?=some v→∃ b ks,kss[i]?=some ks∧v=.ref b∧TK (prog:=prog) (w:=w) h ks b) ?_ ?_ r
 ·intro kss e;cases e;exact⟨rfl,fun i v h=>by rw[List.getElem?_nil] at h;cases h⟩
 ·intro v d as vs ds bs r _ ih kss e
  obtain⟨p,hx,e⟩:=Option.bind_eq_some_iff.mp e
  obtain⟨q,hr,rfl⟩:=Option.map_eq_some_iff.mp e
  obtain⟨l,k⟩:=ih hr
  refine⟨congrArg (· + 1) l,fun i u h=>?_⟩
  cases i with
  | succ i=>exact k i u h
  | zero=>
    have h:some v=some u:=h
    cases h
    have hx:zbx d=some p:=hx
    obtain⟨b,rfl,o,n,us,g1,g2,g3,g4,_⟩:=zcw r hx
    exact⟨b,p,rfl,rfl,o,us,n,g1,g2,g3,zk2 g4⟩
end
noncomputable def zan(x:PyData):Option PyData:=ofList (fun xs=>(wz xs).bind fun kss=>if kss.length≤17 then some (.int (ym kss kss.length).length) else none) x
noncomputable def CE.lenS(a:CE):CE:=fun P ρ O=>if P.hd=true then .stuck else (evE P ρ a O).bind fun v O=>opt (((look O v).bind zan).map .d) O
section
variable{G:Gl}{F:Fm}{A:Around}{s:Shared}{β:List Addr}{ρ:Loc}{O:za}{cx:Cx}{gval:Nat→Option PyData}{gname:Nat→Option Str}
theorem zp7{v:Value}{d:V}{x y:PyData}{k:Nat}(ro:Room A k)(hh:A.handled=none)(sr:SR G F β ρ O s.heap)(rv:VR G F.B β s.heap v d)(hx:look O d=some x)(hy:zan x=some y) :
 DoesW G F s β (fun Q E s=>wpAny (model G.prog G.w) A (call (.type "set") [v]) (fun S s₁=>wpAny (model G.prog G.w) A (call (.builtin "len") [S]) Q E s₁) E s) (.ok (V.d y) (ρ,O)) (VRel G F):=by
 obtain⟨xs,rfl,h⟩:=kx (f:=fun xs=>(wz xs).bind fun kss=>if kss.length≤17 then some (.int (ym kss kss.length).length) else none) hy
 obtain⟨kss,h1,h⟩:=Option.bind_eq_some_iff.mp h
 obtain⟨h17,rfl⟩:=yf h
 obtain⟨a,rfl,o,vs,n,e1,e2,e3,as,r,q⟩:=z8 sr rv hx
 obtain⟨l,hk⟩:=zjv (prog:=G.prog) (w:=G.w) r h1
 have hu:=ro.c (n:=200)
 refine Does.leaf sr fun Q E kk=>zbr hh (by omega) ⟨o,e1,e2,n,e3⟩ (by rw[← Array.length_toList];exact l) (fun i v hv=>hk i v (by rw[← hv];exact Array.getElem?_toList)) h17 fun h' tk hS hkeep=>?_
 obtain⟨o',ep,t,m,L,ho,hex,hd,ht,hr,hre,hlen,hnd,hent,hmem,hm⟩:=hS
 have hsz:(elems L).size=(ym kss kss.length).length:=by rw[← hlen];unfold elems;rw[List.size_toArray,List.length_map]
 have hle:=uf kss kss.length
 have hfit:t.fits (elems L).size=true:=by
  simp only[SetTable.fits,SetTable.fill,ht.place,ht.dummies,ht.mask,places,elems,Bool.and_eq_true,beq_iff_eq,decide_eq_true_eq]
  constructor
  ·simp
  ·simp;omega
 refine call_len_set (s:={ s with heap:=h',toks:=tk }) ho hex hd hfit (by rw[hsz];omega) ?_
 rw[hsz]
 exact kk _ _ ⟨rfl,rfl,hkeep⟩ VR.int
theorem zqf{y:Expr}{a:CE}{ps pz q q':Pos}(h:JE cx y a)(hg:(cx.isGlob "len" && cx.isGlob "set")=true):JE cx (.Call (.Name "len" ps) [.Call (.Name "set" pz) [y] [] q'] [] q) (.lenS a):=
 ⟨rfl,fun {G A P F s β ρ O} hr sr=>by
   obtain⟨hx,hz⟩:=and2 hg
   show Does G F A s β _ (R.lift ρ (if P.hd=true then .stuck else _:R za V)) _
   by_cases hd:P.hd=true
   ·rw[if_pos hd];trivial
   rw[if_neg hd]
   have hh:=hr.run.hm (Bool.eq_false_iff.mpr hd)
   obtain ⟨b1,b2⟩:=hr.run.g.bi ("len",.builtin "len") (by decide)
   obtain ⟨c1,c2⟩:=hr.run.g.bi ("set",.type "set") (by decide)
   have hne:starEach [Expr.Call (.Name "set" pz) [y] [] q'] F.env=(false,eval (.Call (.Name "set" pz) [y] [] q') F.env)::starEach [] F.env:=rfl
   refine DoesW.seqE (T₂:=fun v Q E s=>wpAny (model G.prog G.w) A (call (.type "set") [v]) (fun S s₁=>wpAny (model G.prog G.w) A (call (.builtin "len") [S]) Q E s₁) E s)
    (fun Q E h'=>?_) (h.d hr sr) fun s' β' val v O' _ st sr' rv=>?_
   ·exact Call_Name rfl (yb hr.run.g sr hr.fit hx b1 b2 (callWith_builtin1 (spliced_more (wpAny_mono (Call_Name rfl (yb hr.run.g sr hr.fit hz c1 c2 (callWith_type1 (spliced_more (wpAny_mono h' (fun v s₁ h₁=>spliced_none h₁) (fun _ _ x=>x)) h.px.star) h.px.star rfl))) (fun v s₁ h₁=>spliced_none h₁) (fun _ _ x=>x)) hne) hne rfl))
   ·cases hl:(look O' v).bind zan with
    | none=>trivial
    | some y=>
      obtain⟨x,h1,h2⟩:=Option.bind_eq_some_iff.mp hl
      exact zp7 hr.run.ro hh sr' rv h1 h2⟩
end
end Mine
end
section
namespace Mine
open PySem PyProof.Rows
theorem zc9:∀ (r:List Int) (a:Int),(r.foldl max a=a∨r.foldl max a∈r)∧a≤r.foldl max a∧∀ b∈r,b≤r.foldl max a
 | [],a=>⟨.inl rfl,Int.le_refl _,fun _ h=>nomatch h⟩
 | c::r,a=>by
   obtain⟨h1,h2,h3⟩:=zc9 r (max a c)
   rw[List.foldl_cons]
   refine⟨?_,Int.le_trans (Int.le_max_left a c) h2,fun b hb=>?_⟩
   ·rcases h1 with h1 | h1
    ·rw[h1]
     rcases Int.le_total a c with h | h
     ·rw[Int.max_eq_right h];exact .inr (.head _)
     ·rw[Int.max_eq_left h];exact .inl rfl
    ·exact .inr (.tail _ h1)
   ·rcases List.mem_cons.mp hb with rfl | hb
    ·exact Int.le_trans (Int.le_max_right a b) h2
    ·exact h3 b hb
theorem zd9{is:List Int}{M N:Int}(h:maxI is=some M)(h1:N∈is)(h2:∀ a∈is,a≤N):N=M:=by
 cases is with
 | nil=>cases h
 | cons a r=>
   cases h
   obtain⟨g1,g2,g3⟩:=zc9 r a
   refine Int.le_antisymm ?_ (h2 _ ?_)
   ·rcases List.mem_cons.mp h1 with rfl | h1
    ·exact g2
    ·exact g3 _ h1
   ·rcases g1 with g1 | g1
    ·rw[g1];exact .head _
    ·exact .tail _ g1
noncomputable def zkj(xs:List PyData):Option PyData:=(intsOf xs).bind fun is=>(maxI is).map .int
noncomputable def CE.maxL(a:CE):CE:=fun P ρ O=>if P.hd=true then .stuck else (evE P ρ a O).bind fun v O=>opt (((look O v).bind (ofList zkj)).map .d) O
section
variable{G:Gl}{F:Fm}{A:Around}{s:Shared}{β:List Addr}{ρ:Loc}{O:za}
theorem zs9{v:Value}{d:V}(hh:A.handled=none)(sr:SR G F β ρ O s.heap)(rv:VR G F.B β s.heap v d) :
 Does G F A s β (call (.builtin "max") [v]) ((opt (((look O d).bind (ofList zkj)).map V.d) O).lift ρ) (VRel G F):=by
 cases hl:(look O d).bind (ofList zkj) with
 | none=>trivial
 | some y=>
   obtain⟨x,h1,h2⟩:=Option.bind_eq_some_iff.mp hl
   obtain⟨xs,rfl,h⟩:=kx h2
   obtain⟨is,h3,h⟩:=Option.bind_eq_some_iff.mp h
   obtain⟨M,h4,rfl⟩:=Option.map_eq_some_iff.mp h
   obtain⟨a,rfl,o,vs,n,e1,e2,e3,as,r,q⟩:=z8 sr rv h1
   have hi:=ints_get r h3
   obtain⟨ys,rfl⟩:=AllInts.items (vs:=vs) hi.allInts
   have hn:ys.toList.map (·.1)=is:=by rw[← nums_intItems,hi.numsOf]
   have hp:0 < ys.size:=by
    rw[← Array.length_toList,← List.length_map (f:=(·.1)),hn]
    cases is with
    | nil=>cases h4
    | cons _ _=>exact Nat.succ_pos _
   refine Does.leaf sr fun Q E k=>max_intList hh ⟨o,e1,e2,n,e3⟩ hp fun v h' tk hv hk=>?_
   obtain⟨t,rfl⟩:=intItems_at hv
   obtain⟨g1,g2⟩:=argBest_gt (numAt ys) (ys.size - 1)
   have hl:is.length=ys.size:=by rw[← hn,List.length_map,Array.length_toList]
   have hM:numAt ys (argBest (fun i j=>decide (numAt ys i > numAt ys j)) (ys.size - 1))=M:=zd9 h4 (by rw[numAt_eq,hn];exact getD_mem (by omega)) fun b hb=>by
    obtain⟨j,hj,rfl⟩:=mem_getD hb
    rw[← hn,← numAt_eq];exact g2 j (by omega)
   rw[hM]
   exact k _ _ (ye hk) VR.int
end
theorem zqe{cx:Cx}{x:Expr}{a:CE}{q ps:Pos}(h1:JE cx x a)(hg:cx.isGlob "max" = true):JE cx (.Call (.Name "max" ps) [x] [] q) (.maxL a):=
 ⟨rfl,fun {G A P F s β ρ O} hr sr=>by
   show Does G F A s β _ (R.lift ρ (if P.hd=true then .stuck else _:R za V)) _
   by_cases hd:P.hd=true
   ·rw[if_pos hd];trivial
   rw[if_neg hd]
   exact zh2 (fv:=.builtin "max") hr.run.g sr hr.fit hg (by decide) (.inl ⟨_,rfl⟩) h1.px.star (h1.d hr sr) fun s' β' v d O' sr' rv=>zs9 (hr.run.hm (Bool.eq_false_iff.mpr hd)) sr' rv⟩
noncomputable def zkp(xs:List PyData):Option PyData:=(intsOf xs).bind fun is=>if is.length≤20 then some (.int (firstMet (fun i=>is.getD i 0) is.length).length) else none
noncomputable def CE.lenI(a:CE):CE:=fun P ρ O=>if P.hd=true then .stuck else (evE P ρ a O).bind fun v O=>opt (((look O v).bind (ofList zkp)).map .d) O
section
variable{G:Gl}{F:Fm}{A:Around}{s:Shared}{β:List Addr}{ρ:Loc}{O:za}{cx:Cx}
theorem zp8{v:Value}{d:V}{x y:PyData}(hh:A.handled=none)(sr:SR G F β ρ O s.heap)(rv:VR G F.B β s.heap v d)(hx:look O d=some x)(hy:ofList zkp x=some y) :
 DoesW G F s β (fun Q E s=>wpAny (model G.prog G.w) A (call (.type "set") [v]) (fun S s₁=>wpAny (model G.prog G.w) A (call (.builtin "len") [S]) Q E s₁) E s) (.ok (V.d y) (ρ,O)) (VRel G F):=by
 obtain⟨xs,rfl,h⟩:=kx hy
 obtain⟨is,h1,h⟩:=Option.bind_eq_some_iff.mp h
 obtain⟨h20,rfl⟩:=yf h
 obtain⟨a,rfl,o,vs,n,e1,e2,e3,as,r,q⟩:=z8 sr rv hx
 have hi:=ints_get r h1
 have hsz:vs.size=is.length:=by rw[← Array.length_toList,jw hi]
 refine Does.leaf sr fun Q E kk=>call_set_list hh ⟨o,e1,e2,n,e3⟩ hi (by rw[hsz];unfold scanBound;omega) fun h' tk hS hkeep=>?_
 obtain⟨o',es,ep,t,ho,hex,hd,hel,hS',hb,hf,hn⟩:=hS
 refine call_len_set (s:={ s with heap:=h',toks:=tk }) ho hex hd hf (by unfold scanBound at hb;omega) ?_
 rw[hn,hsz]
 exact kk _ _ ⟨rfl,rfl,fun b o e=>hkeep b o (Heap.lt_size e) e⟩ VR.int
theorem zqg{y:Expr}{a:CE}{ps pz q q':Pos}(h:JE cx y a)(hg:(cx.isGlob "len" && cx.isGlob "set")=true):JE cx (.Call (.Name "len" ps) [.Call (.Name "set" pz) [y] [] q'] [] q) (.lenI a):=
 ⟨rfl,fun {G A P F s β ρ O} hr sr=>by
   obtain⟨hx,hz⟩:=and2 hg
   show Does G F A s β _ (R.lift ρ (if P.hd=true then .stuck else _:R za V)) _
   by_cases hd:P.hd=true
   ·rw[if_pos hd];trivial
   rw[if_neg hd]
   have hh:=hr.run.hm (Bool.eq_false_iff.mpr hd)
   obtain ⟨b1,b2⟩:=hr.run.g.bi ("len",.builtin "len") (by decide)
   obtain ⟨c1,c2⟩:=hr.run.g.bi ("set",.type "set") (by decide)
   have hne:starEach [Expr.Call (.Name "set" pz) [y] [] q'] F.env=(false,eval (.Call (.Name "set" pz) [y] [] q') F.env)::starEach [] F.env:=rfl
   refine DoesW.seqE (T₂:=fun v Q E s=>wpAny (model G.prog G.w) A (call (.type "set") [v]) (fun S s₁=>wpAny (model G.prog G.w) A (call (.builtin "len") [S]) Q E s₁) E s)
    (fun Q E h'=>?_) (h.d hr sr) fun s' β' val v O' _ st sr' rv=>?_
   ·exact Call_Name rfl (yb hr.run.g sr hr.fit hx b1 b2 (callWith_builtin1 (spliced_more (wpAny_mono (Call_Name rfl (yb hr.run.g sr hr.fit hz c1 c2 (callWith_type1 (spliced_more (wpAny_mono h' (fun v s₁ h₁=>spliced_none h₁) (fun _ _ x=>x)) h.px.star) h.px.star rfl))) (fun v s₁ h₁=>spliced_none h₁) (fun _ _ x=>x)) hne) hne rfl))
   ·cases hl:(look O' v).bind (ofList zkp) with
    | none=>trivial
    | some y=>
      obtain⟨x,h1,h2⟩:=Option.bind_eq_some_iff.mp hl
      exact zp8 hh sr' rv h1 h2⟩
end
noncomputable def gr(f:List PyData→Option PyData):PyData→Option PyData
 | .tuple xs=>f xs
 | _=>none
theorem zb6{f:List PyData→Option PyData}{x y:PyData}(h:gr f x=some y):∃ xs,x=.tuple xs∧f xs=some y:=by
 cases x <;> first | (cases h;done) | exact⟨_,rfl,h⟩
noncomputable def w1(xs:List PyData)(lo hi:PyData):Option PyData:=if xs.length≤line then (clip xs.length 0 lo).bind fun l=>(clip xs.length xs.length hi).map fun h=>.tuple (ui xs l h) else none
noncomputable def zhf(xs:List PyData):Option PyData:=if xs.length≤line then some (.tuple xs.reverse) else none
noncomputable def w2(v l h:V)(O:za):R za V:=match l with
 | .d l=>(match h with
    | .d h=>opt (((look O v).bind (gr fun xs=>w1 xs l h)).map .d) O
    | _=>.stuck)
 | _=>.stuck
noncomputable def CE.sliceT(a lo hi:CE):CE:=fun P ρ O=>(evE P ρ a O).bind fun v O=>(evE P ρ lo O).bind fun l O=>(evE P ρ hi O).bind fun h O=>w2 v l h O
noncomputable def CE.revT(a:CE):CE:=fun P ρ O=>(evE P ρ a O).bind fun v O=>opt (((look O v).bind (gr zhf)).map .d) O
inductive zmd(xs:List PyData)(l h y:PyData):Prop
 | mk (a b:Nat) (hl:xs.length≤line) (h1:clip xs.length 0 l=some a) (h2:clip xs.length xs.length h=some b) (e:y=.tuple (ui xs a b))
theorem zd2{xs:List PyData}{l h y:PyData}(e:w1 xs l h=some y):zmd xs l h y:=by
 unfold w1 at e
 by_cases hl:xs.length≤line
 ·rw[if_pos hl] at e
  obtain⟨a,h1,e⟩:=Option.bind_eq_some_iff.mp e
  obtain⟨b,h2,e⟩:=Option.map_eq_some_iff.mp e
  exact⟨a,b,hl,h1,h2,e.symm⟩
 ·rw[if_neg hl] at e;cases e
section
variable{G:Gl}{F:Fm}{A:Around}{s:Shared}{β:List Addr}{ρ:Loc}{O:za}
theorem zaa{value:Expr}{lo hi st:Option Expr}{ps:Pos}{vl vu vk:Value}{D:Addr}{o:Obj}{vs:Array Value}{n:Nat}{klo khi kst:Option Int}{ys:List PyData}{us:List Value}{bs:List Addr}{ops:List Value}(sr:SR G F β ρ O s.heap)
 (e1:s.heap.get? D=some o) (e2:o.cls=.type "tuple") (e3:o.data=.seq vs n) (hops:subscripted (.Slice lo hi st ps) false (.ref D) (.ref s.heap.objs.size)=operate ops (getItem (.ref D) (.ref s.heap.objs.size)))
 (hl:vs.size≤sizeLine) (pl:IsPart vl klo) (pu:IsPart vu khi) (pk:IsPart vk kst)
 (hy:(kst=none∧us=(vs.toList.drop (klo.elim 0 (clipAt vs.size))).take (khi.elim vs.size (clipAt vs.size) - klo.elim 0 (clipAt vs.size)))∨(kst=some (-1)∧klo=none∧khi=none∧us=vs.toList.reverse))
 (r2:ReadsAll s.heap us ys bs) (q2:∀ a∈bs,a∉β∧a∉F.B) :
 DoesW G F s β (fun Q E s=>wpAny (model G.prog G.w) A (subscriptTail value (.Slice lo hi st ps) (.ref D) (.ref s.heap.objs.size)) Q E { s with heap:=s.heap.push { cls:=.type "slice",data:=.fields #[vl,vu,vk] } }) (.ok (V.d (.tuple ys)) (ρ,O)) (VRel G F):=by
 refine Does.leaf sr fun Q E q=>?_
 refine tail_any (T:="tuple") ⟨o,Heap.get?_push_of_some _ e1,e2⟩ slot_tuple_getitem.lookup ?_ hops
 refine v4 (ys:=us) ⟨o,Heap.get?_push_of_some _ e1,e2,n,e3⟩ (Heap.IsSliceOf.new ..) pl pu pk hy (fun e=>?_) ?_ hl
 ·exact q _ _ (KeepsAll.push s _ _) ⟨bs,.tuple (Heap.get?_push_of_some _ e1) e2 e3 (zt (fun _ _ e=>Heap.get?_push_of_some _ e) (e ▸ r2)),q2⟩
 ·exact q _ _ ⟨rfl,rfl,fun b o e=>Heap.get?_push_of_some _ (Heap.get?_push_of_some _ e)⟩ ⟨bs,.tuple (Heap.get?_push_size _ rfl) rfl rfl (zt (fun _ _ e=>Heap.get?_push_of_some _ (Heap.get?_push_of_some _ e)) r2),q2⟩
theorem zja{value:Expr}{lo hi:Option Expr}{ps:Pos}{v vl vu:Value}{x:V}{l h:PyData}(sr:SR G F β ρ O s.heap)(rv:VR G F.B β s.heap v x)(rl:VR G F.B β s.heap vl (.d l))(rh:VR G F.B β s.heap vu (.d h)) :
 DoesW G F s β (fun Q E s=>wpAny (model G.prog G.w) A (subscriptTail value (.Slice lo hi none ps) v (.ref s.heap.objs.size)) Q E { s with heap:=s.heap.push { cls:=.type "slice",data:=.fields #[vl,vu,.none] } })
  ((opt (((look O x).bind (gr fun xs=>w1 xs l h)).map V.d) O).lift ρ) (VRel G F):=by
 cases h3:(look O x).bind (gr fun xs=>w1 xs l h) with
 | none=>trivial
 | some c=>
   obtain⟨a,h1,h3⟩:=Option.bind_eq_some_iff.mp h3
   obtain⟨xs,rfl,h4⟩:=zb6 h3
   obtain⟨a,b,hl,hc1,hc2,rfl⟩:=zd2 h4
   rw[z9 h1 fun _ e=>nomatch e] at rv
   obtain⟨D,o,vs,n,rfl,e1,e2,e3,as,r1,q1⟩:=rv.tuple_inv
   have hsz:vs.size=xs.length:=by rw[← zd r1,Array.length_toList]
   obtain⟨klo,pl,rfl⟩:=part_of rl hc1
   obtain⟨khi,pu,rfl⟩:=part_of rh hc2
   obtain⟨b1,s1,t1⟩:=wa r1 q1 (klo.elim 0 (clipAt xs.length))
   obtain⟨b2,s2,t2⟩:=v8 s1 t1 (khi.elim xs.length (clipAt xs.length) - klo.elim 0 (clipAt xs.length))
   exact zaa sr e1 e2 e3 rfl (by rw[hsz];exact Nat.le_trans hl (by decide)) pl pu .none (.inl ⟨rfl,rfl⟩) (by rw[hsz];exact s2) t2
theorem zjb{value:Expr}{e:Expr}{ps:Pos}{v:Value}{x:V}{t:Tok}(sr:SR G F β ρ O s.heap)(rv:VR G F.B β s.heap v x) :
 DoesW G F s β (fun Q E s=>wpAny (model G.prog G.w) A (subscriptTail value (.Slice none none (some e) ps) v (.ref s.heap.objs.size)) Q E { s with heap:=s.heap.push { cls:=.type "slice",data:=.fields #[.none,.none,.int (-1) t] } })
  ((opt (((look O x).bind (gr zhf)).map V.d) O).lift ρ) (VRel G F):=by
 cases h3:(look O x).bind (gr zhf) with
 | none=>trivial
 | some c=>
   obtain⟨a,h1,h3⟩:=Option.bind_eq_some_iff.mp h3
   obtain⟨xs,rfl,h4⟩:=zb6 h3
   obtain⟨hl,rfl⟩:=yf h4
   rw[z9 h1 fun _ e=>nomatch e] at rv
   obtain⟨D,o,vs,n,rfl,e1,e2,e3,as,r1,q1⟩:=rv.tuple_inv
   have hsz:vs.size=xs.length:=by rw[← zd r1,Array.length_toList]
   obtain⟨b1,s1,t1⟩:=ul r1 q1
   exact zaa (klo:=none) (khi:=none) (kst:=some (-1)) sr e1 e2 e3 rfl (by rw[hsz];exact Nat.le_trans hl (by decide)) .none .none (.int _ _) (.inr ⟨rfl,rfl,rfl,rfl⟩) s1 t1
end
section
variable{cx:Cx}{x y:Expr}{a b c:CE}{p q ps:Pos}
theorem zky{lo hi:Option Expr}(h1:JE cx x a)(h2:JP cx lo b)(h3:JP cx hi c):JE cx (.Subscript x (.Slice lo hi none ps) p) (.sliceT a b c):=
 ⟨rfl,fun {G A P F s β ρ O} hr sr=>by
 refine DoesW.seqE (T₂:=fun a Q E s₁=>wpAny (model G.prog G.w) A (evalPart lo F.env) (fun l s₂=>wpAny (model G.prog G.w) A (evalPart hi F.env) (fun u s₃=>
  wpAny (model G.prog G.w) A (subscriptTail x (.Slice lo hi none ps) a (.ref s₃.heap.objs.size)) Q E { s₃ with heap:=s₃.heap.push { cls:=.type "slice",data:=.fields #[l,u,.none] } }) E s₂) E s₁)
  (fun Q E h=>Subscript_ (wpAny_mono h (fun a s₁ h=>wpAny_Slice (wpAny_mono h (fun l s₂ h=>wpAny_mono h (fun u s₃ h=>wpAny_pure h) fun _ _ x=>x) fun _ _ x=>x)) fun _ _ x=>x)) (h1.d hr sr) fun s' β' v d O' e st' sr rv=>?_
 refine DoesW.seqE (T₁:=tr G A (evalPart lo F.env)) (T₂:=fun l Q E s₂=>wpAny (model G.prog G.w) A (evalPart hi F.env) (fun u s₃=>
  wpAny (model G.prog G.w) A (subscriptTail x (.Slice lo hi none ps) v (.ref s₃.heap.objs.size)) Q E { s₃ with heap:=s₃.heap.push { cls:=.type "slice",data:=.fields #[l,u,.none] } }) E s₂) (fun Q E h=>h) (h2.d hr sr) fun s₂ β₂ vl dl O₂ e₂ st₂ sr₂ rvl=>?_
 refine DoesW.seqE (T₁:=tr G A (evalPart hi F.env)) (T₂:=fun u Q E s₃=>
  wpAny (model G.prog G.w) A (subscriptTail x (.Slice lo hi none ps) v (.ref s₃.heap.objs.size)) Q E { s₃ with heap:=s₃.heap.push { cls:=.type "slice",data:=.fields #[vl,u,.none] } }) (fun Q E h=>h) (h3.d hr sr₂) fun s₃ β₃ vh dh O₃ e₃ st₃ sr₃ rvh=>?_
 cases dl <;> first | trivial | skip
 cases dh <;> first | trivial | skip
 exact zja sr₃ (rv.step sr.br sr.fm (st₂.trans st₃)) (rvl.step sr₂.br sr₂.fm st₃) rvh⟩
theorem zng{k:Nat}{p' q':Pos}(h1:JE cx x a):JE cx (.Subscript x (.Slice none none (some (.UnaryOp .USub (.Constant (.int 1) k p') q')) ps) p) (.revT a):=
 ⟨rfl,fun {G A P F s β ρ O} hr sr=>by
 refine DoesW.seqE (T₂:=fun a Q E s₁=>wpAny (model G.prog G.w) A (subscriptTail x (.Slice none none (some (.UnaryOp .USub (.Constant (.int 1) k p') q')) ps) a (.ref s₁.heap.objs.size)) Q E
  { s₁ with heap:=s₁.heap.push { cls:=.type "slice",data:=.fields #[.none,.none,.int (-1) (s₁.toks+1)] },toks:=s₁.toks+1+1 })
  (fun Q E h=>Subscript_ (wpAny_mono h (fun a s₁ h=>wpAny_Slice (wpAny_pure (wpAny_pure (wpAny_UnaryOp (wpAny_Constant_int (PySem.P.neg_int h)))))) fun _ _ x=>x)) (h1.d hr sr) fun s' β' v d O' e st' sr rv=>?_
 cases hr:((opt (((look O' d).bind (gr zhf)).map V.d) O').lift ρ) with
 | stuck=>trivial
 | ok c S=>
   intro Q E kk
   have kp:=KeepsAll.toks s' (s'.toks+1+1)
   have dd:=zjb (A:=A) (s:={ s' with toks:=s'.toks+1+1 }) (value:=x) (e:=.UnaryOp .USub (.Constant (.int 1) k p') q') (ps:=ps) (t:=s'.toks+1) (sr.keepAll kp.kept) (rv.keepAll kp.kept)
   rw[hr] at dd
   exact dd Q E fun s₅ β₅ a st₅ sr₅ r=>kk s₅ β₅ a ((kp.step _ _).trans st₅) sr₅ r⟩
end
noncomputable def ztn(i j k:Nat)(v:V)(S:Loc×za):R (Loc×za) Fl:=match v with
 | .d (.tuple [x,y,z])=>if i < S.1.length∧j < S.1.length∧k < S.1.length then .ok .next (((S.1.set i (some (.d x))).set j (some (.d y))).set k (some (.d z)),S.2) else .stuck
 | _=>.stuck
noncomputable def CS.asg3(i j k:Nat)(e:CE):CS:=fun P ρ O=>if P.hd=true then .stuck else ((evE P ρ e O).lift ρ).bind (ztn i j k)
theorem zsk{α:Type}{l:List α}{a b c:α}(hl:l.length=3)(h0:l[0]?=some a)(h1:l[1]?=some b)(h2:l[2]?=some c):l=[a,b,c]:=by
 cases l with
 | nil=>cases h0
 | cons x l=>
   cases l with
   | nil=>cases h1
   | cons y l=>
     cases l with
     | nil=>cases h2
     | cons z l=>
       rw[List.eq_nil_of_length_eq_zero (Nat.succ.inj (Nat.succ.inj (Nat.succ.inj hl))),Option.some.inj h0,Option.some.inj h1,Option.some.inj h2]
inductive R3(h:Heap)(P:Addr→Prop)(vs:List Value)(x y z:PyData):Prop
 | mk (v1 v2 v3:Value) (b1 b2 b3:List Addr) (hv:vs=[v1,v2,v3]) (r1:Reads h v1 x b1) (q1:∀ a∈b1,P a) (r2:Reads h v2 y b2) (q2:∀ a∈b2,P a) (r3:Reads h v3 z b3) (q3:∀ a∈b3,P a)
theorem zad{h:Heap}{P:Addr→Prop}{vs:List Value}{x y z:PyData}{as:List Addr}(r:ReadsAll h vs [x,y,z] as)(q:∀ a∈as,P a):R3 h P vs x y z:=by
 obtain⟨v1,b1,e1,r1,q1⟩:=zv r q (i:=0) rfl
 obtain⟨v2,b2,e2,r2,q2⟩:=zv r q (i:=1) rfl
 obtain⟨v3,b3,e3,r3,q3⟩:=zv r q (i:=2) rfl
 refine⟨v1,v2,v3,b1,b2,b3,?_,r1,q1,r2,q2,r3,q3⟩
 exact zsk (zd r) e1 e2 e3
set_option tactic.hygienic true in
theorem zpv{cx:Cx}{x:Expr}{a:CE}{p ps pa pb pc:Pos}{kt i j k:Nat}{na nb nc:Str}(h:JE cx x a)(hx:(chkT cx (ownOf cx.sc) (.name i) (.Name na pa) && chkT cx (ownOf cx.sc) (.name j) (.Name nb pb) && chkT cx (ownOf cx.sc) (.name k) (.Name nc pc) && unpX x)=true) :
 JS cx (.Assign [.Tuple [.Name na pa,.Name nb pb,.Name nc pc] kt ps] x p) (.asg3 i j k a):=⟨fun {G A P F s β ρ O} hr sr=>by
 obtain⟨hx,h2⟩:=and2 hx
 obtain⟨ha,hb,hc⟩:=and3 hx
 show Does G F A s β _ (if P.hd=true then .stuck else _:R (Loc×za) Fl) _
 by_cases hd:P.hd=true
 ·rw[if_pos hd];trivial
 rw[if_neg hd]
 have e:=zdw (l:=[.Name na pa,.Name nb pb,.Name nc pc]) (k:=kt) (n:=p.line) (ps:=ps) (env:=F.env) h2
 have hh:=hr.run.hm (Bool.eq_false_iff.mpr hd)
 refine DoesW.seq (T₂:=fun v Q E s'=>wpAny (model G.prog G.w) A (assign (.Tuple [.Name na pa,.Name nb pb,.Name nc pc] kt ps) F.env v) (fun _=>Q .next) E s') (fun Q E h=>Assign_Tuple h e.1 e.2) (h.d hr.toHere sr) fun s' β' v d S e st sr rv=>?_
 cases d <;> first | trivial | skip
 rename_i z
 cases z <;> first | trivial | skip
 rename_i l
 match l,rv with
 | [y1,y2,y3],rv=>
   by_cases hl:i < S.1.length∧j < S.1.length∧k < S.1.length
   ·show DoesW G F s' β' _ (if i < S.1.length∧j < S.1.length∧k < S.1.length then _ else _) _
    rw[if_pos hl]
    intro Q E kk
    obtain⟨a,o,vs,n,rfl,g1,g2,g3,as,r,q⟩:=rv.tuple_inv
    obtain⟨v1,v2,v3,b1,b2,b3,hvs,r1,q1,r2,q2,r3,q3⟩:=zad r q
    have hsz:vs.size=3:=by rw[← Array.length_toList,hvs];rfl
    refine ko (M:=model G.prog G.w) hh g1 (.inl g2) g3 (by rw[hsz];rfl) rfl fun s₁ ka=>?_
    show wpAny _ A (assignInOrder [assign (.Name na pa) F.env,assign (.Name nb pb) F.env,assign (.Name nc pc) F.env] vs.toList) _ _ s₁
    rw[hvs]
    have da:=jo (A:=A) hh hr.fit hr.own (.name i) ha (sr.keepAll ka.kept) (v:=v1) (d:=.d y1) ⟨b1,ya ka.kept r1,q1⟩
    unfold bindR zp at da
    dsimp only at da
    rw[if_pos hl.1] at da
    refine assignInOrder_cons (da _ _ fun s₂ β₂ _ st₂ sr₂ _=>?_)
    have db:=jo (A:=A) hh hr.fit hr.own (.name j) hb sr₂ (v:=v2) (d:=.d y2) (VR.step (sr.keepAll ka.kept).br (sr.keepAll ka.kept).fm st₂ ⟨b2,ya ka.kept r2,q2⟩)
    unfold bindR zp at db
    dsimp only at db
    rw[if_pos (by rw[List.length_set];exact hl.2.1)] at db
    refine assignInOrder_cons (db _ _ fun s₃ β₃ _ st₃ sr₃ _=>?_)
    have dc:=jo (A:=A) hh hr.fit hr.own (.name k) hc sr₃ (v:=v3) (d:=.d y3) (VR.step (sr.keepAll ka.kept).br (sr.keepAll ka.kept).fm (st₂.trans st₃) ⟨b3,ya ka.kept r3,q3⟩)
    unfold bindR zp at dc
    dsimp only at dc
    rw[if_pos (by rw[List.length_set,List.length_set];exact hl.2.2)] at dc
    refine assignInOrder_cons (dc _ _ fun s₄ β₄ _ st₄ sr₄ _=>?_)
    exact assignInOrder_nil (kk s₄ β₄ .next ((ka.step _ _).trans ((st₂.trans st₃).trans st₄)) sr₄ rfl)
   ·show DoesW G F s' β' _ (if i < S.1.length∧j < S.1.length∧k < S.1.length then _ else _) _
    rw[if_neg hl];trivial
 | [],_=>trivial
 | [_],_=>trivial
 | [_,_],_=>trivial
 | _::_::_::_::_,_=>trivial⟩
structure ZAt(h:Heap)(z TI TO i1 i2 l t:Addr)(k:Nat)(f:Value):Prop where
 zip:IsZip h z TI TO f
 ti:IsPair h TI (.ref i1) (.ref i2)
 to:∃ a b,IsPair h TO a b
 it1:h.IsListIter i1 l k
 it2:IsTupIter h i2 t k
section
variable{prog:Program}{w:World}{A:Around}{E:Value→Shared→Prop}{s:Shared}
theorem zf4{it t:Addr}{i:Nat}{items:Array Value}{x:Value}{Q:Value→Shared→Prop}(hit:IsTupIter s.heap it t i)(ht:IsTup s.heap t items)(hx:items[i]?=some x)
 (hQ:∀ h',IsTupIter h' it t (i+1)→Heap.SameBut it s.heap h'→Q x { s with heap:=h' }):wpAny (model prog w) A (Builtin.SmallTypes.nextOf (.ref it)) Q E s:=by
 obtain⟨o,ho,hc,hd⟩:=id hit
 obtain⟨ol,hol,_,nl,hdl⟩:=ht
 unfold Builtin.SmallTypes.nextOf
 refine wpAny_bind (wpAny_callSpecial?_slot (name:=Str.ofString "__next__") hit.typeIs slot_tupleiter_next (wpAny_call_entry slot_tupleiter_next hit.typeIs entry_tupleiter_next ?_ (args_tupleiter_next _)))
 show wpAny _ _ (field (.ref it) 0 >>= _) _ _ s
 refine wpAny_bind (wpAny_field ho hd (x:=.ref t) rfl ?_)
 show wpAny _ _ (if (Value.ref t == Value.none)=true then _ else _) _ _ s
 rw[if_neg (show ¬ ((Value.ref t == Value.none)=true) from Bool.false_ne_true)]
 refine wpAny_bind (wpAny_field ho hd (x:=.int i 0) rfl (wpAny_bind (wpAny_seqItems hol hdl ?_)))
 simp only[Int.toNat_natCast,hx]
 refine wpAny_bind (wpAny_setField ho hd (by simp) (wpAny_pure ⟨x,rfl,wpAny_pure (hQ _ ?_ (Heap.SameBut.update ..))⟩))
 exact⟨_,Heap.get?_update_self _ ho (Obj.isFreed_of_fields (Obj.data_mapFields hd _)),(Obj.cls_mapFields ..).trans hc,by
  rw[Obj.data_mapFields hd];simp[rawInt]⟩
variable{z TI TO i1 i2 l t:Addr}{k:Nat}{xs ys:Array Value}{x y:Value}
theorem zjp{Q:Option Value→Shared→Prop}(D:ZipApart z TI TO i1 i2 l t)(Z:ZAt s.heap z TI TO i1 i2 l t k .none)(hl1:s.heap.IsList l xs)(hl2:IsTup s.heap t ys)(hx:xs[k]?=some x)(hy:ys[k]?=some y)
 (hQ:∀ h',ZAt h' z TI TO i1 i2 l t (k+1) (rawInt s.heap.objs.size)→IsPair h' s.heap.objs.size x y →
   (∀ c o,c≠z→c≠TO→c≠i1→c≠i2→s.heap.get? c=some o→h'.get? c=some o)→Q (some (.ref s.heap.objs.size)) { s with heap:=h' }) :
 wpAny (model prog w) A (pyNext (.ref z)) Q E s:=by
 obtain⟨hz,hTI,⟨a,b,hTO⟩,h1,h2⟩:=Z
 have hT:s.TypeIs (.ref z) "zip":=⟨_,hz,rfl⟩
 unfold pyNext
 refine wpAny_bind (wpAny_attempt (wpAny_callSpecial?_slot (name:=Str.ofString "__next__") hT F.slot_zip_next (wpAny_call_entry F.slot_zip_next hT F.entry_zip_next ?_ (F.args_zip_next_1 _))))
 show wpAny _ _ (field (.ref z) 2 >>= _) _ _ _
 refine wpAny_bind (wpAny_field hz rfl (x:=.bool false) rfl ?_)
 show wpAny _ _ (field (.ref z) 3 >>= _) _ _ _
 refine wpAny_bind (wpAny_field hz rfl (x:=.ref TI) rfl (wpAny_bind (wpAny_seqItems hTI rfl ?_)))
 show wpAny _ _ (Builtin.SmallTypes.ownedTupleIsFree (.ref z) >>= _) _ _ _
 refine wpAny_bind ?_
 unfold Builtin.SmallTypes.ownedTupleIsFree
 refine wpAny_bind (wpAny_field hz rfl (x:=.none) rfl (wpAny_pure ?_))
 simp only[if_true]
 refine wpAny_bind (wpAny_rule (wpAny_bind (wpAny_field hz rfl (x:=.ref TO) rfl (wpAny_bind (wpAny_setField_rec hz (by simp) fun h₁ hz₁ hs₁=>?_)))))
 replace hz₁:IsZip h₁ z TI TO .ellipsis:=hz₁
 refine wpAny_bind ?_
 simp only[List.zipIdx_cons,List.zipIdx_nil,List.forIn_cons,List.forIn_nil]
 refine wpAny_bind (wpAny_bind (wpAny_onRaise ?_))
 show wpAny _ _ (Builtin.SmallTypes.nextOf (.ref i1) >>= _) _ _ _
 refine wpAny_bind (wpAny_nextOf_list_item (h1.extBut hs₁.extBut D.i1z) (hl1.extBut hs₁.extBut D.l1z) hx fun h₂ h1₂ hs₂=>wpAny_pure ?_)
 have hTO₂:IsPair h₂ TO a b:=hs₂.extBut _ _ D.TOi1 (hs₁.extBut _ _ D.TOz hTO)
 refine wpAny_bind (wpAny_seqItems hTO₂ rfl (wpAny_bind (wpAny_updateSeq_pair hTO₂ fun h₃ hTO₃ hs₃=>?_)))
 replace hTO₃:IsPair h₃ TO x b:=hTO₃
 refine wpAny_bind (wpAny_letGo (wpAny_pure ?_))
 refine wpAny_bind (wpAny_bind (wpAny_onRaise ?_))
 show wpAny _ _ (Builtin.SmallTypes.nextOf (.ref i2) >>= _) _ _ _
 refine wpAny_bind (zf4 (((h2.extBut hs₁.extBut D.i2z).extBut hs₂.extBut D.i12.symm).extBut hs₃.extBut D.TOi2.symm)
  (((hl2.extBut hs₁.extBut D.l2z).extBut hs₂.extBut D.l2i1).extBut hs₃.extBut D.l2TO) hy fun h₄ h2₄ hs₄=>wpAny_pure ?_)
 have hTO₄:IsPair h₄ TO x b:=hs₄.extBut _ _ D.TOi2 hTO₃
 refine wpAny_bind (wpAny_seqItems hTO₄ rfl (wpAny_bind (wpAny_updateSeq_pair hTO₄ fun h₅ hTO₅ hs₅=>?_)))
 replace hTO₅:IsPair h₅ TO x y:=hTO₅
 refine wpAny_bind (wpAny_letGo (wpAny_pure (wpAny_pure ?_)))
 refine wpAny_bind (wpAny_seqItems hTO₅ rfl (wpAny_bind (wpAny_newTuple ?_)))
 have hsz:h₅.objs.size=s.heap.objs.size:=by rw[hs₅.1,hs₄.1,hs₃.1,hs₂.1,hs₁.1]
 have hk₅:∀ c o,c≠z→c≠TO→c≠i1→c≠i2→s.heap.get? c=some o→h₅.get? c=some o:=fun c o c1 c2 c3 c4 e=>
  hs₅.extBut _ _ c2 (hs₄.extBut _ _ c4 (hs₃.extBut _ _ c2 (hs₂.extBut _ _ c3 (hs₁.extBut _ _ c1 e))))
 have hz₅:IsZip h₅ z TI TO .ellipsis:=hs₅.extBut _ _ D.TOz.symm (hs₄.extBut _ _ D.i2z.symm (hs₃.extBut _ _ D.TOz.symm (hs₂.extBut _ _ D.i1z.symm hz₁)))
 have h1₅:h₅.IsListIter i1 l (k+1):=((h1₂.extBut hs₃.extBut D.TOi1.symm).extBut hs₄.extBut D.i12).extBut hs₅.extBut D.TOi1.symm
 have h2₅:IsTupIter h₅ i2 t (k+1):=h2₄.extBut hs₅.extBut D.TOi2.symm
 have hTI₅:IsPair h₅ TI (.ref i1) (.ref i2):=hk₅ _ _ D.TIz D.TITO D.TIi1 D.TIi2 hTI
 have hzlt:z < h₅.objs.size:=Heap.lt_size hz₅
 show wpAny _ _ (Builtin.SmallTypes.ownedTupleHandOut (.ref z) (.ref h₅.objs.size) >>= _) _ _ _
 refine wpAny_bind ?_
 unfold Builtin.SmallTypes.ownedTupleHandOut
 have hz₆:IsZip (h₅.push { cls:=.type "tuple",data:=.seq #[x,y] }) z TI TO .ellipsis:=Heap.get?_push_of_some _ hz₅
 refine wpAny_bind (wpAny_setField_rec hz₆ (by simp) fun h₇ hz₇ hs₇=>?_)
 replace hz₇:IsZip h₇ z TI TO (rawInt h₅.objs.size):=hz₇
 refine wpAny_setField_rec hz₇ (by simp) fun h₈ hz₈ hs₈=>?_
 replace hz₈:IsZip h₈ z TI TO (rawInt h₅.objs.size):=hz₈
 have up:∀ c o,c≠z→h₅.get? c=some o→h₈.get? c=some o:=fun c o c1 e=>hs₈.extBut _ _ c1 (hs₇.extBut _ _ c1 (Heap.get?_push_of_some _ e))
 have hT₈:IsPair h₈ h₅.objs.size x y:=hs₈.extBut _ _ (Nat.ne_of_gt hzlt) (hs₇.extBut _ _ (Nat.ne_of_gt hzlt) (Heap.get?_push_size _ rfl))
 rw[hsz] at hz₈ hT₈
 refine wpAny_pure ⟨_,rfl,?_⟩
 rw[hsz]
 refine wpAny_pure (hQ h₈ ⟨hz₈,up _ _ D.TIz hTI₅,⟨_,_,up _ _ D.TOz hTO₅⟩,h1₅.at fun o e=>up _ o D.i1z e,?_⟩ hT₈ fun c o c1 c2 c3 c4 e=>up c o c1 (hk₅ c o c1 c2 c3 c4 e))
 obtain⟨o,e,r⟩:=h2₅
 exact⟨o,up _ _ D.i2z e,r⟩
theorem zmg{Q:Option Value→Shared→Prop}(hh:A.handled=none)(D:ZipApart z TI TO i1 i2 l t)(Z:ZAt s.heap z TI TO i1 i2 l t k .none)(hl1:s.heap.IsList l xs)(hx:xs[k]?=none)
 (hQ:∀ h',(∀ c o,c≠z→c≠TO→c≠i1→c≠i2→s.heap.get? c=some o→h'.get? c=some o)→Q none { s with heap:=h' }) :
 wpAny (model prog w) A (pyNext (.ref z)) Q E s:=by
 obtain⟨hz,hTI,⟨a,b,hTO⟩,h1,h2⟩:=Z
 have hT:s.TypeIs (.ref z) "zip":=⟨_,hz,rfl⟩
 unfold pyNext
 refine wpAny_bind (wpAny_attempt (wpAny_callSpecial?_slot (name:=Str.ofString "__next__") hT F.slot_zip_next (wpAny_call_entry F.slot_zip_next hT F.entry_zip_next ?_ (F.args_zip_next_1 _))))
 show wpAny _ _ (field (.ref z) 2 >>= _) _ _ _
 refine wpAny_bind (wpAny_field hz rfl (x:=.bool false) rfl ?_)
 show wpAny _ _ (field (.ref z) 3 >>= _) _ _ _
 refine wpAny_bind (wpAny_field hz rfl (x:=.ref TI) rfl (wpAny_bind (wpAny_seqItems hTI rfl ?_)))
 show wpAny _ _ (Builtin.SmallTypes.ownedTupleIsFree (.ref z) >>= _) _ _ _
 refine wpAny_bind ?_
 unfold Builtin.SmallTypes.ownedTupleIsFree
 refine wpAny_bind (wpAny_field hz rfl (x:=.none) rfl (wpAny_pure ?_))
 simp only[if_true]
 refine wpAny_bind (wpAny_rule (wpAny_bind (wpAny_field hz rfl (x:=.ref TO) rfl (wpAny_bind (wpAny_setField_rec hz (by simp) fun h₁ hz₁ hs₁=>?_)))))
 replace hz₁:IsZip h₁ z TI TO .ellipsis:=hz₁
 refine wpAny_bind ?_
 simp only[List.zipIdx_cons,List.zipIdx_nil,List.forIn_cons,List.forIn_nil]
 refine wpAny_bind (wpAny_bind (wpAny_onRaise ?_))
 show wpAny _ _ (Builtin.SmallTypes.nextOf (.ref i1) >>= _) _ _ _
 refine wpAny_bind (wpAny_nextOf_list_end hh (h1.extBut hs₁.extBut D.i1z) (hl1.extBut hs₁.extBut D.l1z) hx fun h₂ e hs₂ he=>?_)
 obtain⟨oe,hoe,hce⟩:=he
 have hz₂:IsZip h₂ z TI TO .ellipsis:=hs₂ _ _ D.i1z.symm hz₁
 have hez:e≠z:=fun x=>by subst x;rw[hz₂] at hoe;cases hoe;simp at hce
 refine wpAny_setField_rec hz₂ (by simp) fun h₃ _ hs₃=>?_
 refine wpAny_bind (wpAny_isInstance (T:="StopIteration") (b:=true) ⟨oe,hs₃.extBut _ _ hez hoe,hce⟩ isSubtype_stop ?_)
 exact wpAny_pure (hQ h₃ fun c o c1 _ c3 _ x=>hs₃.extBut _ _ c1 (hs₂ _ _ c3 (hs₁.extBut _ _ c1 x)))
noncomputable abbrev zH1(h:Heap)(l:Addr):Heap:=h.push { cls:=.type "list_iterator",data:=.fields #[.ref l,.int 0 0] }
noncomputable abbrev zH2(h:Heap)(l t:Addr):Heap:=(zH1 h l).push { cls:=.type "tuple_iterator",data:=.fields #[.ref t,.int 0 0] }
noncomputable abbrev zH3(h:Heap)(l t:Addr):Heap:=(zH2 h l t).push { cls:=.type "tuple",data:=.seq #[.ref h.objs.size,.ref (zH1 h l).objs.size] }
noncomputable abbrev zH4(h:Heap)(l t:Addr):Heap:=(zH3 h l t).push { cls:=.type "tuple",data:=.seq #[.none,.none] }
noncomputable abbrev zH5(h:Heap)(l t:Addr):Heap:=(zH4 h l t).push { cls:=.type "zip",data:=.fields #[.none,.bool false,.bool false,.ref (zH2 h l t).objs.size,.ref (zH3 h l t).objs.size] }
theorem ziq(l t:Addr)(xs ys:Array Value) :
 Meets (Builtin.«zip.__new__» ⟨[.type "zip",.ref l,.ref t],[]⟩) (fun _ R s=>s.heap.IsList l xs∧IsTup s.heap t ys ∧
  R (.ok (.ret (.ref (zH4 s.heap l t).objs.size))) { s with heap:=zH5 s.heap l t }):=
 .of_wp fun prog w A R s h=>by
  obtain⟨hp,g,d,tk,os⟩:=s;obtain⟨hl1,hl2,h⟩:=h
  have hsub:=sub_zip
  have hL1:Heap.IsList (Shared.heap ⟨hp,g,d,tk,os⟩) l xs:=hl1
  have hL2:IsTup (Shared.heap ⟨hp.push { cls:=.type "list_iterator",data:=.fields #[.ref l,.int 0 0] },g,d,tk,os⟩) t ys:=hl2.keeps fun _ _ e=>Heap.get?_push_of_some _ e
  wp_walk using wpAny_pyIter_list hL1,iter_tuple hL2
  exact⟨_,rfl,h⟩
theorem zl6{Q:Value→Shared→Prop}(hl1:s.heap.IsList l xs)(hl2:IsTup s.heap t ys)
 (h:∀ h' z TI TO i1 i2,ZAt h' z TI TO i1 i2 l t 0 .none→ZipApart z TI TO i1 i2 l t→(∀ c∈[z,TI,TO,i1,i2],s.heap.get? c=none)→(∀ c o,s.heap.get? c=some o→h'.get? c=some o)→Q (.ref z) { s with heap:=h' }) :
 wpAny (model prog w) A (call (.type "zip") [.ref l,.ref t]) Q E s:=by
 refine callType_new F.called_zip (by decide) (F.typeCall_zip_2 _ _) (F.newCall_zip_2 _ _) (fun obj=>F.args_object_init_3 obj _ _) F.entry_zip_new (ziq l t xs ys) ⟨hl1,hl2,?_⟩
 have hl:l < s.heap.objs.size:=by obtain⟨_,e,_⟩:=hl1;exact Heap.lt_size e
 have ht:t < s.heap.objs.size:=by obtain⟨_,e,_⟩:=hl2;exact Heap.lt_size e
 have z1:(zH1 s.heap l).objs.size=s.heap.objs.size+1:=Heap.size_push ..
 have z2:(zH2 s.heap l t).objs.size=s.heap.objs.size+2:=by rw[Heap.size_push,z1]
 have z3:(zH3 s.heap l t).objs.size=s.heap.objs.size+3:=by rw[Heap.size_push,z2]
 have z4:(zH4 s.heap l t).objs.size=s.heap.objs.size+4:=by rw[Heap.size_push,z3]
 have g5:(zH5 s.heap l t).get? (zH4 s.heap l t).objs.size=some _:=Heap.get?_push_size _ rfl
 have g4:(zH5 s.heap l t).get? (zH3 s.heap l t).objs.size=some _:=Heap.get?_push_of_some _ (Heap.get?_push_size _ rfl)
 have g3:(zH5 s.heap l t).get? (zH2 s.heap l t).objs.size=some _:=Heap.get?_push_of_some _ (Heap.get?_push_of_some _ (Heap.get?_push_size _ rfl))
 have g2:(zH5 s.heap l t).get? (zH1 s.heap l).objs.size=some _:=Heap.get?_push_of_some _ (Heap.get?_push_of_some _ (Heap.get?_push_of_some _ (Heap.get?_push_size _ rfl)))
 have g1:(zH5 s.heap l t).get? s.heap.objs.size=some _:=Heap.get?_push_of_some _ (Heap.get?_push_of_some _ (Heap.get?_push_of_some _ (Heap.get?_push_of_some _ (Heap.get?_push_size _ rfl))))
 refine⟨⟨_,g5,rfl⟩,h _ _ _ _ _ _ ⟨g5,g3,⟨_,_,g4⟩,⟨_,g1,rfl,rfl⟩,⟨_,g2,rfl,rfl⟩⟩ ?_ (fun c hc=>Heap.get?_none_of_le ?_) fun c o x=>
  Heap.get?_push_of_some _ (Heap.get?_push_of_some _ (Heap.get?_push_of_some _ (Heap.get?_push_of_some _ (Heap.get?_push_of_some _ x))))⟩
 ·rw[z4,z3,z2,z1];exact zipApart_new hl ht
 ·simp only[List.mem_cons,List.not_mem_nil,or_false] at hc
  rcases hc with rfl | rfl | rfl | rfl | rfl
  ·rw[z4];exact Nat.le_add_right _ _
  ·rw[z2];exact Nat.le_add_right _ _
  ·rw[z3];exact Nat.le_add_right _ _
  ·exact Nat.le_refl _
  ·rw[z1];exact Nat.le_add_right _ _
end
structure JQ(cx:Cx)(l:List Stmt)(c:CSs):Prop where
 d:∀ {G:Gl} {A:Around} {P:Pg} {F:Fm} {s:Shared} {β:List Addr} {ρ:Loc} {O:za},Here G A P F cx→SR G F β ρ O s.heap→Does G F A s β (execs l F.env) (evSs P c ρ O) (yv G F)
section
variable{cx:Cx}{x:Expr}{a:CE}{p:Pos}
theorem zsa:JQ cx [] .nil:=⟨fun hr sr=>jx sr⟩
theorem zr9(h:JE cx x a):JQ cx [.Return (some x) p] (.cons (.ret a) .nil):=⟨fun {G A P F s β ρ O} hr sr=>k6 (g:=fun ρ O=>evSs P .nil ρ O) (zov (h.d hr sr)) fun s' β' ρ' O' sr'=>jx sr'⟩
theorem q_if{l r:List Stmt}{d e:CSs}(h1:JT cx x a)(h2:JQ cx l d)(h3:JQ cx r e):JQ cx (.If x l [] p::r) (.cons (.ife a d .nil) e):=⟨fun {G A P F s β ρ O} hr sr=>
 k6 (g:=fun ρ O=>evSs P e ρ O) (zox (ga:=fun ρ O=>evSs P d ρ O) (gb:=fun ρ O=>evSs P .nil ρ O) (h1.d hr sr) (fun s' β' ρ' O' sr'=>h2.d hr sr') fun s' β' ρ' O' sr'=>jx sr') fun s' β' ρ' O' sr'=>h3.d hr sr'⟩
end
noncomputable def xr(ia ib:Nat)(evb:Loc→R (Loc×za) Fl):List PyData→List PyData→Loc→R (Loc×za) Fl
 | x::xs,y::ys,ρ=>(match evb ((ρ.set ia (some (.d x))).set ib (some (.d y))) with
    | .ok (.ret v) S=>.ok (.ret v) S
    | .ok .next _=>xr ia ib evb xs ys ((ρ.set ia (some (.d x))).set ib (some (.d y)))
    | _=>.stuck)
 | [],[],ρ=>.ok .next (ρ,[])
 | _,_,_=>.stuck
noncomputable def zht(ia ib:Nat)(evb:Loc→R (Loc×za) Fl)(p:V×V)(S:Loc×za):R (Loc×za) Fl:=match p,S.2 with
 | (.d (.list xs),.d (.tuple ys)),[]=>xr ia ib evb xs ys S.1
 | _,_=>.stuck
noncomputable def CS.forZ(ia ib:Nat)(a b:CE)(c:CSs):CS:=fun P ρ O=>if P.hd=true then .stuck else (((evE P ρ a O).bind fun v O=>(evE P ρ b O).bind fun u O=>.ok (v,u) O).lift ρ).bind (zht ia ib fun ρ=>evSs P c ρ [])
inductive zia(ia ib:Nat)(evb:Loc→R (Loc×za) Fl)(fl:Fl)(S:Loc×za):List PyData→List PyData→Loc→Prop
 | done (ρ:Loc) (h:fl=.next) (e:S=(ρ,[])):zia ia ib evb fl S [] [] ρ
 | ret (x y:PyData) (xs ys:List PyData) (ρ:Loc) (v:V) (h:fl=.ret v) (he:evb ((ρ.set ia (some (.d x))).set ib (some (.d y)))=.ok (.ret v) S):zia ia ib evb fl S (x::xs) (y::ys) ρ
 | next (x y:PyData) (xs ys:List PyData) (ρ:Loc) (S':Loc×za) (he:evb ((ρ.set ia (some (.d x))).set ib (some (.d y)))=.ok .next S') (hr:xr ia ib evb xs ys ((ρ.set ia (some (.d x))).set ib (some (.d y)))=.ok fl S):zia ia ib evb fl S (x::xs) (y::ys) ρ
theorem zlb{ia ib:Nat}{evb:Loc→R (Loc×za) Fl}{fl:Fl}{S:Loc×za}{xs ys:List PyData}{ρ:Loc}(h:xr ia ib evb xs ys ρ=.ok fl S):zia ia ib evb fl S xs ys ρ:=by
 cases xs with
 | nil=>cases ys with
   | nil=>cases h;exact .done ρ rfl rfl
   | cons y ys=>cases h
 | cons x xs=>cases ys with
   | nil=>cases h
   | cons y ys=>
     have h:(match evb ((ρ.set ia (some (.d x))).set ib (some (.d y))) with
      | .ok (.ret v) S=>.ok (.ret v) S
      | .ok .next _=>xr ia ib evb xs ys ((ρ.set ia (some (.d x))).set ib (some (.d y)))
      | _=>.stuck)=R.ok fl S:=h
     cases he:evb ((ρ.set ia (some (.d x))).set ib (some (.d y))) with
     | ok f S'=>
       rw[he] at h
       cases f with
       | ret v=>cases h;exact .ret _ _ _ _ _ v rfl he
       | next=>exact .next _ _ _ _ _ S' he h
     | _=>rw[he] at h;cases h
section
variable{G:Gl}{F:Fm}{A:Around}{s₀ s:Shared}{ρ₀ ρ:Loc}{m:Str→Option Value}
noncomputable def Held(F:Fm)(h₀:Heap)(m:Str→Option Value)(x:Str)(val:Value):Prop:=
 (F.env.kindOf x=some .local∧m x=some val)∨(F.env.kindOf x=some .cell∧∃ c,F.env.cells.lookup x=some c∧h₀.IsCell c (some val))
structure Since(G:Gl)(F:Fm)(s₀ s:Shared)(ρ:Loc)(m:Str→Option Value):Prop where
 gens:s.gens=s₀.gens
 os:s.os=s₀.os
 keep:∀ b o,G.h₀.get? b=some o→s.heap.get? b=some o
 kept:∀ b o,s₀.heap.get? b=some o→b≠F.env.locals→∃ o',s.heap.get? b=some o'∧Kin o o'
 ns:s.heap.Ns F.env.locals m
 get:∀ (j:Nat) x v,F.names[j]?=some (some x)→ρ[j]?=some (some v)→∃ val,Held F s₀.heap m x val∧VR G F.B [] s₀.heap val v
theorem Since.sr(sr:SR G F [] ρ₀ [] s₀.heap)(hpin:F.pin=none)(c:Since G F s₀ s ρ m):SR G F [] ρ [] s.heap∧Step F.W [] s₀ s []:=by
 have cellL:∀ {a v},s₀.heap.IsCell a v→a≠F.env.locals:=fun {a v} ⟨o,h1,h2⟩ e=>by
  obtain⟨m',o',es,ep,q1,q2,_⟩:=sr.fm.ns
  rw[e,q1] at h1;cases h1;rw[q2] at h2;cases h2
 have st:Step F.W [] s₀ s []:=⟨c.gens,c.os,List.prefix_refl _,fun _ h=>.inl h,fun b o e=>by
  by_cases hb:b=F.env.locals
  ·subst hb;obtain⟨o',_,_,h,_⟩:=c.ns;exact⟨o',h⟩
  ·obtain⟨o',h,_⟩:=c.kept b o e hb;exact⟨o',h⟩,fun b o e _ hW=>c.kept b o e fun h=>hW (h ▸ sr.fm.nsW)⟩
 refine⟨⟨⟨c.keep,rfl,.nil,fun _ h=>(nomatch h),fun i a bx h=>(by simp at h),fun _ h=>(nomatch h)⟩,⟨sr.fm.kind,sr.fm.globals,sr.fm.builtins,sr.fm.once,⟨m,c.ns⟩,sr.fm.nsW,fun x hx=>?_,sr.fm.apart,sr.fm.sub,sr.fm.new,fun _ _ h=>(nomatch h),fun a ha=>?_,sr.fm.frB,fun a ha=>?_,fun m e=>by rw[hpin] at e;cases e⟩,fun j x v h1 h2=>?_⟩,st⟩
 ·obtain⟨a,v,h3,h4,h6,h7⟩:=sr.fm.cell x hx
  exact⟨a,v,h3,Kin.cell h4 fun o e=>c.kept a o e (cellL h4),h6,h7⟩
 ·obtain⟨o,h1,h2⟩:=sr.fm.stor a ha
  by_cases hb:a=F.env.locals
  ·subst hb
   obtain⟨o',es,ep,h,hd,_⟩:=c.ns
   exact⟨o',h,fun vs n hv=>by rw[hd] at hv;cases hv⟩
  ·obtain⟨o',e',kn⟩:=c.kept a o h1 hb
   exact⟨o',e',fun vs n hv=>by rw[kn.cls];exact h2 vs n (kn.data.symm.trans hv)⟩
 ·obtain⟨m',hm'⟩:=sr.fm.frs a ha
  by_cases hb:a=F.env.locals
  ·subst hb;exact⟨m,c.ns⟩
  ·exact⟨m',Kin.ns hm' fun o e=>c.kept a o e hb⟩
 ·obtain⟨val,g,r⟩:=c.get j x v h1 h2
  refine⟨val,?_,r.step sr.br sr.fm st⟩
  rcases g with ⟨g1,g2⟩ | ⟨g1,a,g2,g3⟩
  ·exact .inl ⟨g1,m,c.ns,g2⟩
  ·exact .inr ⟨g1,a,g2,Kin.cell g3 fun o e=>c.kept a o e (cellL g3)⟩
theorem Since.after{s':Shared}(cs:Since G F s₀ s ρ m)(h0:∀ b o,G.h₀.get? b=some o→s₀.heap.get? b=some o)(hL:∃ o,s₀.heap.get? F.env.locals=some o)(g:s'.gens=s.gens)(os:s'.os=s.os)
 (k:∀ b o,s₀.heap.get? b=some o→∀ o',s.heap.get? b=some o'→s'.heap.get? b=some o'):Since G F s₀ s' ρ m:=
 ⟨g.trans cs.gens,os.trans cs.os,fun b o e=>k b o (h0 b o e) o (cs.keep b o e),fun b o e hb=>(cs.kept b o e hb).elim fun o' e'=>⟨o',k b o e o' e'.1,e'.2⟩,by
   obtain⟨o,es,ep,h,r⟩:=cs.ns
   obtain⟨oL,hL⟩:=hL
   exact⟨o,es,ep,k _ _ hL _ h,r⟩,cs.get⟩
theorem Since.two{na nb:Str}{ia ib tk:Nat}{vx vy:Value}{x y:V}{h₅ h₆:Heap}(cs:Since G F s₀ s ρ m)(once:∀ (j i:Nat) x,F.names[j]?=some (some x)→F.names[i]?=some (some x)→j=i)(h0L:∀ b o,G.h₀.get? b=some o→b≠F.env.locals)
 (hs₅:∀ b,b≠F.env.locals→h₅.get? b=s.heap.get? b) (hs₆:∀ b,b≠F.env.locals→h₆.get? b=h₅.get? b) (ns:h₆.Ns F.env.locals fun n=>if n=nb then some vy else if n=na then some vx else m n)
 (ha:F.names[ia]?=some (some na)) (hbn:F.names[ib]?=some (some nb)) (ka:F.env.kindOf na=some .local) (kb:F.env.kindOf nb=some .local) (hne:na≠nb) (rx:VR G F.B [] s₀.heap vx x) (ry:VR G F.B [] s₀.heap vy y) :
 Since G F s₀ { s with heap:=h₆,toks:=tk } ((ρ.set ia (some x)).set ib (some y)) fun n=>if n=nb then some vy else if n=na then some vx else m n:=by
 refine⟨cs.gens,cs.os,fun b o e=>(hs₆ b (h0L b o e)).trans ((hs₅ b (h0L b o e)).trans (cs.keep b o e)),fun b o e hL=>(cs.kept b o e hL).elim fun o' e'=>⟨o',(hs₆ b hL).trans ((hs₅ b hL).trans e'.1),e'.2⟩,ns,fun j n v h1 h2=>?_⟩
 rcases dg h2 with ⟨rfl,rfl⟩ | ⟨hj,h2⟩
 ·rw[hbn] at h1;cases h1
  exact⟨vy,.inl ⟨kb,if_pos rfl⟩,ry⟩
 ·have hnb:n≠nb:=fun e=>hj (once j ib nb (e ▸ h1) hbn)
  rcases dg h2 with ⟨rfl,rfl⟩ | ⟨hj',h2⟩
  ·rw[ha] at h1;cases h1
   exact⟨vx,.inl ⟨ka,(if_neg hne).trans (if_pos rfl)⟩,rx⟩
  ·obtain⟨val,g,r⟩:=cs.get j n v h1 h2
   refine⟨val,?_,r⟩
   rcases g with ⟨g1,g2⟩ | g
   ·exact .inl ⟨g1,(if_neg hnb).trans ((if_neg (fun (e:n=na)=>hj' (once j ia na (e ▸ h1) ha))).trans g2)⟩
   ·exact .inr g
noncomputable def Fm.still(F:Fm)(m:Str→Option Value):Fm:={ F with own:=fun _=>false,W:=[F.env.locals],pin:=some m }
theorem SR.still{β:List Addr}{O:za}{h:Heap}(sr:SR G F β ρ O h)(hn:h.Ns F.env.locals m):SR G (F.still m) β ρ O h:=
 ⟨sr.br,⟨sr.fm.kind,sr.fm.globals,sr.fm.builtins,sr.fm.once,sr.fm.ns,List.mem_singleton.mpr rfl,fun x hx=>let ⟨c,v,h3,h4,h6,_⟩:=sr.fm.cell x hx;⟨c,v,h3,h4,h6,fun h=>nomatch h⟩,sr.fm.apart,
   fun a ha=>by rw[List.mem_singleton.mp ha];exact sr.fm.sub _ sr.fm.nsW,⟨sr.fm.new.1,sr.fm.new.2.1,fun h=>sr.fm.new.2.2.1 (by rw[List.mem_singleton.mp h];exact sr.fm.nsW),sr.fm.new.2.2.2⟩,sr.fm.notBox,sr.fm.stor,sr.fm.frB,sr.fm.frs,fun m' e=>by cases e;exact⟨hn,fun _=>rfl⟩⟩,sr.get⟩
theorem SR.unstill{β β₀:List Addr}{O:za}{h h₀:Heap}(f:FmOk G F β₀ h₀)(hpin:F.pin=none)(sr:SR G (F.still m) β ρ O h):SR G F β ρ O h:=
 ⟨sr.br,⟨sr.fm.kind,sr.fm.globals,sr.fm.builtins,sr.fm.once,sr.fm.ns,f.nsW,fun x hx=>by
   obtain⟨c,v,h3,h4,h6,_⟩:=sr.fm.cell x hx
   obtain⟨c',v',g3,_,_,g7⟩:=f.cell x hx
   have h3:F.env.cells.lookup x=some c:=h3
   rw[h3] at g3;cases g3
   exact⟨c,v,h3,h4,h6,g7⟩,f.apart,f.sub,f.new,sr.fm.notBox,sr.fm.stor,f.frB,sr.fm.frs,fun m' e=>by rw[hpin] at e;cases e⟩,sr.get⟩
end
section
variable{G:Gl}{F:Fm}{A:Around}{cx:Cx}{gval:Nat→Option PyData}{gname:Nat→Option Str}
structure OffZ(z TO i1 i2 b:Addr):Prop where
 z:b≠z
 TO:b≠TO
 i1:b≠i1
 i2:b≠i2
theorem OffZ.of{z TO i1 i2 b:Addr}(h:∀ c,c=z∨c∈[TO,i1,i2]→b≠c):OffZ z TO i1 i2 b:=⟨h z (.inl rfl),h TO (.inr (.head _)),h i1 (.inr (.tail _ (.head _))),h i2 (.inr (.tail _ (.tail _ (.head _))))⟩
inductive ZInv(G:Gl)(F:Fm)(s₀:Shared)(z TI TO i1 i2 l t:Addr)(N:Nat)(go:Nat→Loc→Prop)(k:Nat)(s:Shared):Prop
 | mk (i:Nat) (m:Str→Option Value) (ρ:Loc) (hk:k=N+1 - i) (c:Since G F s₀ s ρ m) (Z:ZAt s.heap z TI TO i1 i2 l t i .none) (hgo:go i ρ)
theorem ZAt.at{h h':Heap}{z TI TO i1 i2 l t:Addr}{k:Nat}{f:Value}(Z:ZAt h z TI TO i1 i2 l t k f)(hk:∀ c∈[z,TI,TO,i1,i2],∀ o,(∀ es n,o.data≠.dict es n)→h.get? c=some o→h'.get? c=some o):ZAt h' z TI TO i1 i2 l t k f:=by
 obtain⟨h1,h2,⟨a,b,h3⟩,⟨o4,h4,c4,d4⟩,⟨o5,h5,c5,d5⟩⟩:=Z
 exact⟨hk z (by simp) _ (fun _ _ e=>nomatch e) h1,hk TI (by simp) _ (fun _ _ e=>nomatch e) h2,⟨a,b,hk TO (by simp) _ (fun _ _ e=>nomatch e) h3⟩,
  ⟨o4,hk i1 (by simp) _ (fun _ _ e=>by rw[d4] at e;cases e) h4,c4,d4⟩,⟨o5,hk i2 (by simp) _ (fun _ _ e=>by rw[d5] at e;cases e) h5,c5,d5⟩⟩
set_option tactic.hygienic true in
theorem zq9{c:CSs}{body:List Stmt}{na nb:Str}{pa pb pt:Pos}{kt ia ib:Nat}{P:Pg}{s:Shared}{β:List Addr}{ρ:Loc}{O:za}{v u:Value}{d e:V}(hr:zib G A P F cx)(hh:A.handled=none)(hb:JQ cx body c)
 (ha:F.names[ia]?=some (some na)) (hbn:F.names[ib]?=some (some nb)) (ka:F.env.kindOf na=some .local) (kb:F.env.kindOf nb=some .local) (hpin:F.pin=none) (hne:na≠nb)
 (sr:SR G F β ρ O s.heap) (rv:VR G F.B β s.heap v d) (ru:VR G F.B β s.heap u e) :
 DoesW G F s β (fun Q E s=>wpAny (model G.prog G.w) A (call (.type "zip") [v,u]) (fun z s₁=>wpAny (model G.prog G.w) A (pyIter z) (fun it s₂=>codeAny (model G.prog G.w) A (.forLoop (.Tuple [.Name na pa,.Name nb pb] kt pt) it body [] F.env)
  (fun r s'=>match r with | .ok f=>Q f s' | .error e=>cameBackBy (model G.prog G.w) A F.env E e s') s₂) E s₁) E s) (zht ia ib (fun ρ=>evSs P c ρ []) (d,e) (ρ,O)) (yv G F):=by
 cases d <;> first | trivial | skip
 rename_i x
 cases x <;> first | trivial | skip
 rename_i xs
 cases e <;> first | trivial | skip
 rename_i y
 cases y <;> first | trivial | skip
 rename_i ys
 cases O <;> first | trivial | skip
 have hβ:β=[]:=List.length_eq_zero_iff.mp sr.br.len
 subst hβ
 show DoesW G F s [] _ (xr ia ib (fun ρ=>evSs P c ρ []) xs ys ρ) _
 cases hgo:xr ia ib (fun ρ=>evSs P c ρ []) xs ys ρ with
 | stuck=>trivial
 | ok fl S=>
   intro Q E kk
   obtain⟨l,rfl,⟨ol,vl,nl,l1,l2,l3,al,l4,l5⟩,_⟩:=rv.list_inv
   obtain⟨t,ot,vt,nt,rfl,t1,t2,t3,at',t4,t5⟩:=ru.tuple_inv
   refine zl6 ⟨ol,l1,l2,nl,l3⟩ ⟨ot,t1,t2,nt,t3⟩ fun h₁ z TI TO i1 i2 Z D fresh kept=>wpAny_pyIter_zip Z.zip ?_
   obtain⟨m₀,hm₀⟩:=sr.fm.ns
   have nL:∀ c∈[z,TI,TO,i1,i2],c≠F.env.locals:=fun c hc e=>by
    obtain⟨o,_,_,h,_⟩:=hm₀
    rw[← e,fresh c hc] at h;cases h
   have hLs:∃ o,s.heap.get? F.env.locals=some o:=hm₀.elim fun o h=>⟨o,h.elim fun _ h=>h.elim fun _ h=>h.1⟩
   have notZ:∀ {b o},s.heap.get? b=some o→OffZ z TO i1 i2 b:=fun {b o} e=>.of (fun c hc h=>by rw[h,fresh c (List.mem_cons.mpr (hc.imp id fun hc=>List.mem_cons_of_mem _ hc))] at e;cases e)
   have h0s:∀ b o,G.h₀.get? b=some o→s.heap.get? b=some o:=sr.br.keep
   have seqL:∀ {b o vs n},s.heap.get? b=some o→o.data=.seq vs n→b≠F.env.locals:=fun {b o vs n} h hd e=>by
    obtain⟨o',_,_,h',hd',_⟩:=hm₀
    rw[e,h'] at h;cases h;rw[hd'] at hd;cases hd
   have h0L:∀ b o,G.h₀.get? b=some o→b≠F.env.locals:=fun b o e h=>by
    have:=sr.fm.newW sr.fm.nsW
    rw[← h,e] at this;cases this
   have init:ZInv G F s z TI TO i1 i2 l t xs.length (fun i ρ=>xr ia ib (fun ρ=>evSs P c ρ []) (xs.drop i) (ys.drop i) ρ=.ok fl S) (xs.length+1) { s with heap:=h₁ }:=by
    refine⟨0,m₀,ρ,rfl,⟨rfl,rfl,fun b o e=>kept b o (h0s b o e),fun b o e _=>⟨o,kept b o e,Kin.refl o⟩,hm₀.keeps kept,fun j x v h1 h2=>?_⟩,Z,hgo⟩
    obtain⟨val,g,r⟩:=sr.get j x v h1 h2
    refine⟨val,?_,r⟩
    rcases g with ⟨g1,m',g2,g3⟩ | ⟨g1,a,g2,g3⟩
    ·rw[un g2 hm₀] at g3;exact .inl ⟨g1,g3⟩
    ·exact .inr ⟨g1,a,g2,g3⟩
   refine codeAny_forLoop_any (ZInv G F s z TI TO i1 i2 l t xs.length fun i ρ=>xr ia ib (fun ρ=>evSs P c ρ []) (xs.drop i) (ys.drop i) ρ=.ok fl S) ?_ (xs.length+1) init
   clear hgo Z init
   intro k s' hI
   obtain⟨i,m,ρ',rfl,cs,Z,hgo⟩:=hI
   have hl':s'.heap.IsList l vl:=by
    obtain⟨o',e',kn⟩:=cs.kept l ol l1 (seqL l1 l3)
    exact⟨o',e',kn.cls.trans l2,nl,kn.data.trans l3⟩
   have ht':IsTup s'.heap t vt:=by
    obtain⟨o',e',kn⟩:=cs.kept t ot t1 (seqL t1 t3)
    exact⟨o',e',kn.cls.trans t2,nt,kn.data.trans t3⟩
   generalize hX:xs.drop i=X at hgo
   generalize hY:ys.drop i=Y at hgo
   have hrest:=zlb hgo
   clear hgo
   cases X with
   | nil=>
     have hnone:vl[i]?=none:=by
      rw[← Array.getElem?_toList,List.getElem?_eq_none]
      rw[zd l4];exact List.drop_eq_nil_iff.mp hX
     cases hrest with
     | done _ h1 h2=>
       subst h1;subst h2
       refine zmg hh D Z hl' hnone fun h' hk=>wpAny_execs_nil ?_
       have cs':Since G F s { s' with heap:=h' } ρ' m:=cs.after h0s hLs rfl rfl fun b o e o' e'=>hk b o' (notZ e).z (notZ e).TO (notZ e).i1 (notZ e).i2 e'
       obtain⟨a1,a2⟩:=cs'.sr sr hpin
       exact kk _ _ _ a2 a1 rfl
   | cons x X=>
     cases Y with
     | nil=>cases hrest
     | cons y Y=>
       have hxi:xs[i]?=some x:=by rw[← List.head?_drop,hX];rfl
       have hyi:ys[i]?=some y:=by rw[← List.head?_drop,hY];rfl
       obtain⟨vx,bx,x1,x2,x3⟩:=zv l4 l5 hxi
       obtain⟨vy,by',y1,y2,y3⟩:=zv t4 t5 hyi
       rw[Array.getElem?_toList] at x1 y1
       refine zjp D Z hl' ht' x1 y1 fun h₂ Z₂ hT hk₂=>?_
       have zlt:s'.heap.objs.size≠z:=Nat.ne_of_gt (Heap.lt_size Z.zip)
       refine wpAny_letOwnedTupleGo_zip (s:={ s' with heap:=h₂ }) Z₂.zip fun h₃ hz₃ hs₃=>?_
       have Z₃:ZAt h₃ z TI TO i1 i2 l t (i+1) .none:=by
        obtain⟨_,q2,⟨a,b,q3⟩,q4,o5,q5,q6⟩:=Z₂
        exact⟨hz₃,hs₃.extBut _ _ D.TIz q2,⟨a,b,hs₃.extBut _ _ D.TOz q3⟩,q4.extBut hs₃.extBut D.i1z,o5,hs₃.extBut _ _ D.i2z q5,q6⟩
       have hT₃:IsPair h₃ s'.heap.objs.size vx vy:=hs₃.extBut _ _ zlt hT
       refine ko (M:=model G.prog G.w) (s:={ s' with heap:=h₃ }) hh hT₃ (.inl rfl) rfl rfl rfl fun s₄ ka₄=>?_
       show wpAny _ A (assignInOrder [assign (.Name na pa) F.env,assign (.Name nb pb) F.env] [vx,vy]) _ _ s₄
       have cs₄:Since G F s s₄ ρ' m:=cs.after h0s hLs ka₄.gens ka₄.os fun b o e o' e'=>ka₄.kept b o' (hs₃.extBut _ _ (notZ e).z (hk₂ b o' (notZ e).z (notZ e).TO (notZ e).i1 (notZ e).i2 e'))
       have hp:(F.env.scope.kind == .class || (F.env.scope.kind == .module && F.env.locals != F.env.globals))=false:=by rw[sr.fm.kind];rfl
       refine assignInOrder_cons (wpAny_assign_Name (wpAny_storeName_local ka cs₄.ns (fun h₅ ns₅ hs₅=>?_) hp))
       refine assignInOrder_cons (wpAny_assign_Name (wpAny_storeName_local kb ns₅ (fun h₆ ns₆ hs₆=>assignInOrder_nil ?_) hp))
       have cs₆:=cs₄.two (tk:=s₄.toks+1+1) (x:=.d x) (y:=.d y) sr.fm.once h0L hs₅.2 hs₆.2 ns₆ ha hbn ka kb hne ⟨bx,x2,x3⟩ ⟨by',y2,y3⟩
       have Z₆:ZAt h₆ z TI TO i1 i2 l t (i+1) .none:=Z₃.at fun c hc o _ e=>(hs₆.2 c (nL c hc)).trans ((hs₅.2 c (nL c hc)).trans (ka₄.kept c o e))
       obtain⟨sr₆,st₆⟩:=cs₆.sr sr hpin
       have hr₆:Here G A P (F.still fun n=>if n=nb then some vy else if n=na then some vx else m n) cx:=⟨hr.run,⟨hr.fit.names,hr.fit.kind,hr.fit.sck⟩,hr.fr⟩
       have db:=hb.d (s:={ s₄ with heap:=h₆,toks:=s₄.toks+1+1 }) hr₆ (sr₆.still ns₆)
       have wk:∀ {s₇ β₇},Step [F.env.locals] [] { s₄ with heap:=h₆,toks:=s₄.toks+1+1 } s₇ β₇→Step F.W [] s s₇ β₇:=fun {s₇ β₇} st₇=>st₆.trans ⟨st₇.gens,st₇.os,st₇.pre,st₇.fresh,st₇.alive,fun b o e hb' hW=>st₇.kept b o e hb' fun h=>hW (by rw[List.mem_singleton.mp h];exact sr.fm.nsW)⟩
       cases hrest with
       | ret _ _ _ _ _ w h1 he=>
         subst h1
         have he:evSs P c ((ρ'.set ia (some (.d x))).set ib (some (.d y))) []=.ok (.ret w) S:=he
         rw [he] at db
         refine db _ _ fun s₇ β₇ f st₇ sr₇ rf=>?_
         obtain ⟨val,rfl,rv'⟩:=rf
         exact kk s₇ β₇ (.ret val) (wk st₇) (sr₇.unstill sr.fm hpin) ⟨val,rfl,rv'⟩
       | next _ _ _ _ _ S' he hgo=>
         have he:evSs P c ((ρ'.set ia (some (.d x))).set ib (some (.d y))) []=.ok .next S':=he
         rw [he] at db
         refine db _ _ fun s₇ β₇ f st₇ sr₇ rf=>?_
         have rf:f=.next:=rf
         subst rf
         have hix:i < xs.length:=(List.getElem?_eq_some_iff.mp hxi).1
         refine ⟨xs.length+1 - (i+1),uh hix,i+1,_,_,rfl,⟨st₇.gens.trans cs₆.gens,st₇.os.trans cs₆.os,sr₇.br.keep,fun b o e hL=>?_,(sr₇.fm.pin _ rfl).1,cs₆.get⟩,Z₆.at fun c hc o hd e=>st₇.keptE e List.not_mem_nil (fun h=>nL c hc (List.mem_singleton.mp h)) hd,?_⟩
         ·obtain ⟨o',e',kn⟩:=cs₆.kept b o e hL
          obtain ⟨o'',e'',kn'⟩:=st₇.kept b o' e' List.not_mem_nil fun h=>hL (List.mem_singleton.mp h)
          exact ⟨o'',e'',kn.trans kn'⟩
         ·rw[← List.drop_drop,← List.drop_drop,hX,hY];exact hgo
end
theorem zpr{cx:Cx}{x y:Expr}{a b:CE}{c:CSs}{body:List Stmt}{na nb:Str}{pa pb pt ps q pos:Pos}{kt ia ib:Nat}(h1:JE cx x a)(h2:JE cx y b)(hb:JQ cx body c)
 (hg:(cx.isGlob "zip" && cx.isLoc ia na && cx.isLoc ib nb && cx.kind na == some .local && cx.kind nb == some .local && ownOf cx.sc na && na != nb)=true) :
 JS cx (.For (.Tuple [.Name na pa,.Name nb pb] kt pt) (.Call (.Name "zip" ps) [x,y] [] q) body [] pos) (.forZ ia ib a b c):=⟨fun {G A P F s β ρ O} hr sr=>by
 simp only[Bool.and_eq_true] at hg
 obtain⟨⟨⟨⟨⟨⟨hz,hla⟩,hlb⟩,ka⟩,kb⟩,how⟩,hne⟩:=hg
 show Does G F A s β _ (if P.hd=true then .stuck else _:R (Loc×za) Fl) _
 by_cases hd:P.hd=true
 ·rw[if_pos hd];trivial
 rw[if_neg hd]
 have hh:=hr.run.hm (Bool.eq_false_iff.mpr hd)
 obtain ⟨b1,b2⟩:=hr.run.g.bi ("zip",.type "zip") (by decide)
 have hpin:F.pin=none:=by
  cases e:F.pin with
  | none=>rfl
  | some m=>have:=(sr.fm.pin m e).2 na;rw[hr.own na how] at this;cases this
 have e1:(((evE P ρ a O).bind fun v O=>(evE P ρ b O).bind fun u O=>R.ok (v,u) O).lift ρ).bind (zht ia ib fun ρ=>evSs P c ρ [])=((evE P ρ a O).lift ρ).bind fun v S=>((evE P ρ b S.2).lift ρ).bind fun u S'=>zht ia ib (fun ρ=>evSs P c ρ []) (v,u) (ρ,S'.2):=by
  cases evE P ρ a O with
  | ok v O'=>
    show (((evE P ρ b O').bind fun u O=>R.ok (v,u) O).lift ρ).bind _=((evE P ρ b O').lift ρ).bind _
    cases evE P ρ b O' <;> rfl
  | stuck=>rfl
 rw[e1]
 let tail:Value→Value→WT Flow:=fun v u Q E s=>wpAny (model G.prog G.w) A (call (.type "zip") [v,u]) (fun z s₁=>wpAny (model G.prog G.w) A (pyIter z) (fun it s₂=>codeAny (model G.prog G.w) A (.forLoop (.Tuple [.Name na pa,.Name nb pb] kt pt) it body [] F.env)
  (fun r s'=>match r with | .ok f=>Q f s' | .error e=>cameBackBy (model G.prog G.w) A F.env E e s') s₂) E s₁) E s
 refine DoesW.seq (T₂:=fun v Q E s=>wpAny (model G.prog G.w) A (eval y F.env) (fun u s₁=>tail v u Q E s₁) E s) (fun Q E h=>?_) (h1.d hr.toHere sr) fun s₁ β₁ v d S e st sr₁ rv=>?_
 ·exact wpAny_For (Call_Name rfl (yb hr.run.g sr hr.fit hz b1 b2 (callWith_type1 (spliced_more (wpAny_mono h (fun v s₁ h₁=>spliced_more (wpAny_mono h₁ (fun u s₂ h₂=>spliced_none h₂) fun _ _ x=>x) h2.px.star) fun _ _ x=>x) h1.px.star) h1.px.star (by rw[h2.px.star];rfl)))) fun v=>rfl
 ·have hS:S=(ρ,S.2):=by
   cases hv:evE P ρ a O with
   | ok _ _=>rw[hv] at e;cases e;rfl
   | stuck=>rw[hv] at e;cases e
  rw[hS] at sr₁
  refine DoesW.seq (T₁:=tr G A (eval y F.env)) (T₂:=fun u=>tail v u) (fun Q E h=>h) (h2.d hr.toHere sr₁) fun s₂ β₂ u d₂ S₂ e₂ st₂ sr₂ ru=>?_
  have hS₂:S₂.1=ρ:=by
   cases hv:evE P ρ b S.2 with
   | ok _ _=>rw[hv] at e₂;cases e₂;rfl
   | stuck=>rw[hv] at e₂;cases e₂
  rw[hS₂] at sr₂
  obtain⟨g1,_⟩:=ju hr.fit hla
  obtain⟨g2,_⟩:=ju hr.fit hlb
  exact zq9 hr hh hb g1 g2 ((hr.fit.kind na).trans (beq_iff_eq.mp ka)) ((hr.fit.kind nb).trans (beq_iff_eq.mp kb)) hpin (bne_iff_ne.mp hne) sr₂ (rv.step sr₁.br sr₁.fm st₂) ru⟩
end Mine
end
section
namespace Mine.L04
open PySem Mine
noncomputable def c0:Fn:=⟨3,3,false,(.cons (.ret (.and_ (.prim (.isinst .int) (.cons (.loc 0) .nil)) (.and_ (.nt (.prim (.isinst .bool) (.cons (.loc 0) .nil))) (.chain .le .le (.loc 1) (.loc 0) (.loc 2))))) .nil)⟩
noncomputable def c1:Fn:=⟨1,1,false,(.cons (.ife (.nt (.call 0 (.cons (.loc 0) (.cons (.glob 0) (.cons (.glob 1) .nil))))) .stuck .nil) .nil)⟩
noncomputable def c2:Fn:=⟨2,3,false,(.cons (.ret (.and_ (.prim (.isinst .tuple) (.cons (.loc 1) .nil)) (.and_ (.cmp .eq (.prim .len (.cons (.loc 1) .nil)) (.loc 0)) (.prim .all (.cons (.comp (.call 0 (.cons (.loc 2) (.cons (.neg (.int 1)) (.cons (.int 1) .nil)))) (.name 2) (.e (.loc 1)) .nil) .nil))))) .nil)⟩
noncomputable def c3:Fn:=⟨2,3,false,(.cons (.expr (.call 1 (.cons (.loc 0) .nil))) (.cons (.ife (.or_ (.nt (.prim (.isinst .list) (.cons (.loc 1) .nil))) (.nt (.chain .le .le (.int 1) (.prim .len (.cons (.loc 1) .nil)) (.glob 2)))) .stuck .nil) (.cons (.ife (.nt (.prim .all (.cons (.comp (.call 2 (.cons (.loc 0) (.cons (.loc 2) .nil))) (.name 2) (.e (.loc 1)) .nil) .nil))) .stuck .nil) (.cons (.ife (.cmp .lt (.lenS (.loc 1)) (.prim .len (.cons (.loc 1) .nil))) .stuck .nil) .nil))))⟩
noncomputable def c4:Fn:=⟨2,4,false,(.cons (.ife (.or_ (.nt (.prim (.isinst .tuple) (.cons (.loc 1) .nil))) (.or_ (.cmp .eq (.prim .len (.cons (.loc 1) .nil)) (.int 0)) (.nt (.prim .all (.cons (.comp (.call 0 (.cons (.loc 2) (.cons (.int 0) (.cons (.bin .sub (.loc 0) (.int 1)) .nil)))) (.name 2) (.e (.loc 1)) .nil) .nil))))) (.cons (.ret (.bool false)) .nil) .nil) (.cons (.ret (.prim .all (.cons (.comp (.cmp .lt (.idx (.loc 1) (.bin .sub (.loc 3) (.int 1))) (.idx (.loc 1) (.loc 3))) (.name 3) (.range (.int 1) (.prim .len (.cons (.loc 1) .nil))) .nil) .nil))) .nil))⟩
noncomputable def c5:Fn:=⟨2,5,false,(.cons (.ife (.or_ (.nt (.prim (.isinst .tuple) (.cons (.loc 1) .nil))) (.cmp .ne (.prim .len (.cons (.loc 1) .nil)) (.int 2))) (.cons (.ret (.bool false)) .nil) .nil) (.cons (.asg (.two (.name 2) (.name 3)) (.loc 1)) (.cons (.ife (.or_ (.nt (.call 4 (.cons (.loc 0) (.cons (.loc 2) .nil)))) (.or_ (.nt (.call 4 (.cons (.loc 0) (.cons (.loc 3) .nil)))) (.cmp .ne (.prim .len (.cons (.loc 2) .nil)) (.prim .len (.cons (.loc 3) .nil))))) (.cons (.ret (.bool false)) .nil) .nil) (.cons (.ret (.nt (.prim .any (.cons (.comp (.cmp .in_ (.loc 4) (.loc 3)) (.name 4) (.e (.loc 2)) .nil) .nil)))) .nil))))⟩
noncomputable def c6:Fn:=⟨2,7,false,(.cons (.asg (.two (.name 2) (.name 3)) (.loc 0)) (.cons (.asg (.name 4) (.bin .sub (.prim .sum (.cons (.comp (.idx (.loc 1) (.loc 5)) (.name 5) (.e (.loc 2)) .nil) .nil)) (.prim .sum (.cons (.comp (.idx (.loc 1) (.loc 6)) (.name 6) (.e (.loc 3)) .nil) .nil)))) (.cons (.ife (.cmp .gt (.loc 4) (.int 0)) (.cons (.ret (.int 1)) .nil) .nil) (.cons (.ret (.ite (.cmp .lt (.loc 4) (.int 0)) (.neg (.int 1)) (.int 0))) .nil))))⟩
noncomputable def c7:Fn:=⟨2,5,false,(.cons (.asg (.name 2) (.boxed (.list .nil))) (.cons (.for_ (.name 3) (.e (.glob 3)) (.cons (.expr (.meth .append (.loc 2) (.cons (.comp (.loc 4) (.name 4) (.e (.loc 1)) (.cons (.cmp .eq (.call 6 (.cons (.loc 0) (.cons (.loc 4) .nil))) (.loc 3)) .nil)) .nil))) .nil)) (.cons (.ret (.loc 2)) .nil)))⟩
noncomputable def c8:Fn:=⟨3,5,false,(.cons (.ife (.or_ (.nt (.prim (.isinst .tuple) (.cons (.loc 2) .nil))) (.or_ (.cmp .lt (.prim .len (.cons (.loc 2) .nil)) (.int 2)) (.nt (.prim (.isinst .str) (.cons (.idx (.loc 2) (.int 0)) .nil))))) (.cons (.ret (.bool false)) .nil) .nil) (.cons (.ife (.cmp .eq (.idx (.loc 2) (.int 0)) (.str (Str.ofString "told"))) (.cons (.ret (.and_ (.cmp .eq (.prim .len (.cons (.loc 2) .nil)) (.int 2)) (.and_ (.call 2 (.cons (.loc 0) (.cons (.idx (.loc 2) (.int 1)) .nil))) (.cmp .eq (.loc 1) (.list (.cons (.idx (.loc 2) (.int 1)) .nil)))))) .nil) .nil) (.cons (.ife (.or_ (.cmp .ne (.idx (.loc 2) (.int 0)) (.str (Str.ofString "weigh"))) (.or_ (.cmp .ne (.prim .len (.cons (.loc 2) .nil)) (.int 3)) (.nt (.call 5 (.cons (.loc 0) (.cons (.idx (.loc 2) (.int 1)) .nil)))))) (.cons (.ret (.bool false)) .nil) .nil) (.cons (.ife (.or_ (.nt (.prim (.isinst .tuple) (.cons (.idx (.loc 2) (.int 2)) .nil))) (.cmp .ne (.prim .len (.cons (.idx (.loc 2) (.int 2)) .nil)) (.int 3))) (.cons (.ret (.bool false)) .nil) .nil) (.cons (.forZ 3 4 (.call 7 (.cons (.idx (.loc 2) (.int 1)) (.cons (.loc 1) .nil))) (.idx (.loc 2) (.int 2)) (.cons (.ife (.and_ (.cmp .eq (.loc 3) (.list .nil)) (.cmp .isnot (.loc 4) .none)) (.cons (.ret (.bool false)) .nil) .nil) (.cons (.ife (.and_ (.cmp .ne (.loc 3) (.list .nil)) (.nt (.call 8 (.cons (.loc 0) (.cons (.loc 3) (.cons (.loc 4) .nil)))))) (.cons (.ret (.bool false)) .nil) .nil) .nil))) (.cons (.ret (.bool true)) .nil))))))⟩
noncomputable def c9:Fn:=⟨3,3,false,(.cons (.expr (.call 3 (.cons (.loc 0) (.cons (.loc 1) .nil)))) (.cons (.ret (.call 8 (.cons (.loc 0) (.cons (.loc 1) (.cons (.loc 2) .nil))))) .nil))⟩
noncomputable def c10:Fn:=⟨1,2,false,(.cons (.ife (.cmp .eq (.idx (.loc 0) (.int 0)) (.str (Str.ofString "told"))) (.cons (.ret (.int 0)) .nil) .nil) (.cons (.ret (.bin .add (.int 1) (.maxL (.comp (.call 10 (.cons (.loc 1) .nil)) (.name 1) (.e (.idx (.loc 0) (.int 2))) (.cons (.cmp .isnot (.loc 1) .none) .nil))))) .nil))⟩
noncomputable def c11:Fn:=⟨2,5,true,(.cons (.asg (.name 2) (.boxed (.list .nil))) (.cons (.asg (.name 3) (.loc 0)) (.cons (.while_ (.cmp .eq (.idx (.loc 3) (.int 0)) (.str (Str.ofString "weigh"))) (.cons (.asg (.name 4) (.call 6 (.cons (.idx (.loc 3) (.int 1)) (.cons (.loc 1) .nil)))) (.cons (.expr (.meth .append (.loc 2) (.cons (.tup (.cons (.idx (.loc 3) (.int 1)) (.cons (.loc 4) .nil))) .nil))) (.cons (.asg (.name 3) (.idx (.idx (.loc 3) (.int 2)) (.bin .add (.loc 4) (.int 1)))) .nil)))) (.cons (.ret (.loc 2)) .nil))))⟩
noncomputable def c12:Fn:=⟨2,2,false,(.cons (.ife (.cmp .lt (.loc 1) (.prim .len (.cons (.loc 0) .nil))) (.cons (.ret (.idx (.loc 0) (.loc 1))) .nil) .nil) (.cons (.ret (.int 0)) .nil))⟩
noncomputable def c13:Fn:=⟨2,2,false,(.cons (.ret (.bin .fdiv (.bin .mod (.bin .mul (.bin .add (.bin .add (.call 12 (.cons (.loc 0) (.cons (.loc 1) .nil))) (.bin .mul (.int 7919) (.loc 1))) (.int 13)) (.int 48271)) (.int 2147483647)) (.int 3))) .nil)⟩
noncomputable def c14:Fn:=⟨1,1,false,(.cons (.ret (.and_ (.prim (.isinst .int) (.cons (.loc 0) .nil)) (.nt (.prim (.isinst .bool) (.cons (.loc 0) .nil))))) .nil)⟩
noncomputable def c15:Fn:=⟨2,4,false,(.cons (.asg (.name 2) (.int 0)) (.cons (.for_ (.name 3) (.e (.idx (.loc 0) (.int 0))) (.cons (.asg (.name 2) (.bin .add (.loc 2) (.idx (.loc 1) (.loc 3)))) .nil)) (.cons (.for_ (.name 3) (.e (.idx (.loc 0) (.int 1))) (.cons (.asg (.name 2) (.bin .sub (.loc 2) (.idx (.loc 1) (.loc 3)))) .nil)) (.cons (.ret (.ite (.cmp .gt (.loc 2) (.int 0)) (.int 1) (.ite (.cmp .lt (.loc 2) (.int 0)) (.neg (.int 1)) (.int 0)))) .nil))))⟩
noncomputable def c16:Fn:=⟨1,9,false,(.cons (.asg (.name 1) (.boxed (.list .nil))) (.cons (.for_ (.name 2) (.range (.int 0) (.idx (.list (.cons (.int 9) (.cons (.int 27) (.cons (.int 81) (.cons (.int 243) .nil))))) (.bin .sub (.loc 0) (.int 2)))) (.cons (.asg (.name 3) (.comp (.bin .mod (.bin .fdiv (.loc 2) (.idx (.list (.cons (.int 1) (.cons (.int 3) (.cons (.int 9) (.cons (.int 27) (.cons (.int 81) .nil)))))) (.loc 6))) (.int 3)) (.name 6) (.range (.int 0) (.loc 0)) .nil)) (.cons (.asg (.name 4) (.prim .tuple (.cons (.comp (.loc 7) (.name 7) (.range (.int 0) (.loc 0)) (.cons (.cmp .eq (.idx (.loc 3) (.loc 7)) (.int 1)) .nil)) .nil))) (.cons (.asg (.name 5) (.prim .tuple (.cons (.comp (.loc 8) (.name 8) (.range (.int 0) (.loc 0)) (.cons (.cmp .eq (.idx (.loc 3) (.loc 8)) (.int 2)) .nil)) .nil))) (.cons (.ife (.and_ (.cmp .eq (.prim .len (.cons (.loc 4) .nil)) (.prim .len (.cons (.loc 5) .nil))) (.and_ (.cmp .ne (.loc 4) (.tup .nil)) (.cmp .lt (.idx (.loc 4) (.int 0)) (.idx (.loc 5) (.int 0))))) (.cons (.expr (.meth .append (.loc 1) (.cons (.tup (.cons (.loc 4) (.cons (.loc 5) .nil))) .nil))) .nil) .nil) .nil))))) (.cons (.ret (.prim .sorted (.cons (.loc 1) .nil))) .nil)))⟩
noncomputable def c17:Fn:=⟨2,6,false,(.cons (.asg (.name 2) (.boxed (.list .nil))) (.cons (.for_ (.name 3) (.range (.int 0) (.loc 0)) (.cons (.for_ (.name 4) (.range (.int 0) (.loc 0)) (.cons (.asg (.name 5) (.boxed (.bin .mul (.list (.cons (.int 0) .nil)) (.loc 0)))) (.cons (.setI (.loc 5) (.loc 3) (.idx (.list (.cons (.int 1) (.cons (.neg (.int 1)) (.cons (.idx (.list (.cons (.int 1) (.cons (.neg (.int 1)) .nil))) (.bin .mod (.loc 4) (.int 2))) (.cons (.int 1) (.cons (.int 1) .nil)))))) (.loc 1))) (.cons (.ife (.and_ (.cmp .gt (.loc 1) (.int 2)) (.cmp .ne (.loc 3) (.loc 4))) (.cons (.setI (.loc 5) (.loc 4) (.idx (.list (.cons (.int 1) (.cons (.neg (.int 1)) .nil))) (.bin .sub (.loc 1) (.int 3)))) .nil) .nil) (.cons (.ife (.and_ (.cmp .notin (.prim .tuple (.cons (.loc 5) .nil)) (.loc 2)) (.or_ (.cmp .lt (.loc 1) (.int 3)) (.cmp .ne (.loc 3) (.loc 4)))) (.cons (.expr (.meth .append (.loc 2) (.cons (.prim .tuple (.cons (.loc 5) .nil)) .nil))) .nil) .nil) .nil))))) .nil)) (.cons (.ife (.cmp .eq (.loc 1) (.int 2)) (.cons (.expr (.meth .append (.loc 2) (.cons (.bin .mul (.tup (.cons (.int 0) .nil)) (.loc 0)) .nil))) .nil) .nil) (.cons (.ret (.loc 2)) .nil))))⟩
noncomputable def c18:Fn:=⟨3,12,false,(.cons (.asg (.name 3) (.call 13 (.cons (.loc 0) (.cons (.loc 1) .nil)))) (.cons (.asg (.name 4) (.min2 (.loc 2) (.idx (.list (.cons (.int 2) (.cons (.int 3) (.cons (.int 3) (.cons (.int 4) (.cons (.int 4) (.cons (.int 5) .nil))))))) (.bin .mod (.loc 3) (.int 6))))) (.cons (.asg (.name 5) (.idx (.list (.cons (.int 9) (.cons (.int 12) (.cons (.int 8) (.cons (.int 5) .nil))))) (.bin .sub (.loc 4) (.int 2)))) (.cons (.asg (.name 6) (.boxed (.list .nil))) (.cons (.for_ (.name 7) (.range (.int 0) (.int 12)) (.cons (.asg (.name 8) (.call 13 (.cons (.loc 0) (.cons (.bin .add (.bin .add (.loc 1) (.int 1)) (.loc 7)) .nil)))) (.cons (.expr (.meth .append (.loc 6) (.cons (.prim .tuple (.cons (.comp (.bin .sub (.bin .mod (.bin .fdiv (.loc 8) (.idx (.list (.cons (.int 1) (.cons (.int 3) (.cons (.int 9) (.cons (.int 27) (.cons (.int 81) .nil)))))) (.loc 11))) (.int 3)) (.int 1)) (.name 11) (.range (.int 0) (.loc 4)) .nil) .nil)) .nil))) .nil))) (.cons (.ife (.cmp .gt (.bin .mod (.bin .fdiv (.loc 3) (.int 6)) (.int 6)) (.int 0)) (.cons (.asg (.name 6) (.call 17 (.cons (.loc 4) (.cons (.bin .sub (.bin .mod (.bin .fdiv (.loc 3) (.int 6)) (.int 6)) (.int 1)) .nil)))) .nil) .nil) (.cons (.asg (.name 9) (.boxed (.list .nil))) (.cons (.asg (.name 8) (.bin .fdiv (.loc 3) (.int 36))) (.cons (.ife (.and_ (.cmp .gt (.loc 4) (.int 3)) (.and_ (.cmp .eq (.bin .mod (.bin .fdiv (.loc 8) (.int 256)) (.int 4)) (.int 1)) (.cmp .gt (.bin .mod (.bin .fdiv (.loc 3) (.int 6)) (.int 6)) (.int 0)))) (.cons (.asg (.name 5) (.int 12)) .nil) .nil) (.cons (.for_ (.name 7) (.range (.int 0) (.idx (.list (.cons (.bin .add (.int 1) (.bin .mod (.loc 8) (.loc 5))) (.cons (.loc 5) .nil))) (.prim .int (.cons (.and_ (.cmp .eq (.loc 5) (.int 12)) (.cmp .gt (.loc 4) (.int 3))) .nil)))) (.cons (.asg (.name 10) (.idx (.loc 6) (.bin .mod (.bin .add (.bin .fdiv (.loc 8) (.int 8)) (.bin .mul (.loc 7) (.bin .add (.int 1) (.bin .mod (.bin .fdiv (.loc 8) (.int 64)) (.int 2))))) (.prim .len (.cons (.loc 6) .nil))))) (.cons (.ife (.cmp .notin (.loc 10) (.loc 9)) (.cons (.expr (.meth .append (.loc 9) (.cons (.loc 10) .nil))) .nil) .nil) .nil))) (.cons (.ret (.tup (.cons (.loc 4) (.cons (.loc 9) .nil)))) .nil)))))))))))⟩
noncomputable def c19:Fn:=⟨3,4,false,(.cons (.ret (.cmp .eq (.comp (.loc 3) (.name 3) (.e (.loc 0)) (.cons (.cmp .ne (.call 15 (.cons (.loc 3) (.cons (.loc 1) .nil))) (.call 15 (.cons (.loc 3) (.cons (.loc 2) .nil)))) .nil)) (.list .nil))) .nil)⟩
noncomputable def c20:Fn:=⟨2,3,false,(.cons (.ife (.or_ (.nt (.prim (.isinst .tuple) (.cons (.loc 1) .nil))) (.cmp .eq (.loc 1) (.tup .nil))) (.cons (.ret (.bool false)) .nil) .nil) (.cons (.ife (.nt (.prim .all (.cons (.comp (.and_ (.call 14 (.cons (.loc 2) .nil)) (.chain .le .lt (.int 0) (.loc 2) (.loc 0))) (.name 2) (.e (.loc 1)) .nil) .nil))) (.cons (.ret (.bool false)) .nil) .nil) (.cons (.ret (.cmp .eq (.prim .list (.cons (.loc 1) .nil)) (.prim .sortedset (.cons (.loc 1) .nil)))) .nil)))⟩
noncomputable def c21:Fn:=⟨2,2,false,(.cons (.ife (.or_ (.nt (.prim (.isinst .tuple) (.cons (.loc 1) .nil))) (.or_ (.cmp .ne (.prim .len (.cons (.loc 1) .nil)) (.int 2)) (.nt (.call 20 (.cons (.loc 0) (.cons (.idx (.loc 1) (.int 0)) .nil)))))) (.cons (.ret (.bool false)) .nil) .nil) (.cons (.ife (.or_ (.nt (.call 20 (.cons (.loc 0) (.cons (.idx (.loc 1) (.int 1)) .nil)))) (.cmp .ne (.prim .len (.cons (.idx (.loc 1) (.int 0)) .nil)) (.prim .len (.cons (.idx (.loc 1) (.int 1)) .nil)))) (.cons (.ret (.bool false)) .nil) .nil) (.cons (.ret (.cmp .eq (.prim .lenset (.cons (.bin .add (.idx (.loc 1) (.int 0)) (.idx (.loc 1) (.int 1))) .nil)) (.bin .mul (.int 2) (.prim .len (.cons (.idx (.loc 1) (.int 0)) .nil))))) .nil)))⟩
noncomputable def c22:Fn:=⟨2,3,false,(.cons (.ret (.and_ (.prim (.isinst .tuple) (.cons (.loc 0) .nil)) (.and_ (.cmp .eq (.loc 0) (.loc 1)) (.prim .all (.cons (.comp (.call 14 (.cons (.loc 2) .nil)) (.name 2) (.e (.loc 0)) .nil) .nil))))) .nil)⟩
noncomputable def c23:Fn:=⟨3,7,false,(.cons (.ife (.or_ (.nt (.prim (.isinst .tuple) (.cons (.loc 2) .nil))) (.or_ (.cmp .lt (.prim .len (.cons (.loc 2) .nil)) (.int 2)) (.nt (.prim (.isinst .str) (.cons (.idx (.loc 2) (.int 0)) .nil))))) (.cons (.ret (.bool false)) .nil) .nil) (.cons (.ife (.cmp .eq (.idx (.loc 2) (.int 0)) (.str (Str.ofString "told"))) (.cons (.ret (.and_ (.cmp .eq (.prim .len (.cons (.loc 2) .nil)) (.int 2)) (.and_ (.cmp .eq (.prim .len (.cons (.loc 1) .nil)) (.int 1)) (.call 22 (.cons (.idx (.loc 2) (.int 1)) (.cons (.idx (.loc 1) (.int 0)) .nil)))))) .nil) .nil) (.cons (.ife (.or_ (.cmp .ne (.idx (.loc 2) (.int 0)) (.str (Str.ofString "weigh"))) (.or_ (.cmp .ne (.prim .len (.cons (.loc 2) .nil)) (.int 3)) (.nt (.call 21 (.cons (.loc 0) (.cons (.idx (.loc 2) (.int 1)) .nil)))))) (.cons (.ret (.bool false)) .nil) .nil) (.cons (.ife (.or_ (.nt (.prim (.isinst .tuple) (.cons (.idx (.loc 2) (.int 2)) .nil))) (.cmp .ne (.prim .len (.cons (.idx (.loc 2) (.int 2)) .nil)) (.int 3))) (.cons (.ret (.bool false)) .nil) .nil) (.cons (.for_ (.name 3) (.range (.int 0) (.int 3)) (.cons (.asg (.name 4) (.comp (.loc 6) (.name 6) (.e (.loc 1)) (.cons (.cmp .eq (.call 15 (.cons (.idx (.loc 2) (.int 1)) (.cons (.loc 6) .nil))) (.bin .sub (.loc 3) (.int 1))) .nil))) (.cons (.asg (.name 5) (.idx (.idx (.loc 2) (.int 2)) (.loc 3))) (.cons (.ife (.or_ (.and_ (.cmp .eq (.loc 4) (.list .nil)) (.cmp .isnot (.loc 5) .none)) (.and_ (.cmp .ne (.loc 4) (.list .nil)) (.nt (.call 23 (.cons (.loc 0) (.cons (.loc 4) (.cons (.loc 5) .nil))))))) (.cons (.ret (.bool false)) .nil) .nil) .nil)))) (.cons (.ret (.bool true)) .nil))))))⟩
noncomputable def c24:Fn:=⟨1,2,false,(.cons (.ife (.cmp .eq (.idx (.loc 0) (.int 0)) (.str (Str.ofString "told"))) (.cons (.ret (.int 0)) .nil) .nil) (.cons (.ret (.bin .add (.int 1) (.maxL (.comp (.call 24 (.cons (.loc 1) .nil)) (.name 1) (.e (.idx (.loc 0) (.int 2))) (.cons (.cmp .isnot (.loc 1) .none) .nil))))) .nil))⟩
noncomputable def c25:Fn:=⟨2,5,false,(.cons (.asg (.name 2) (.boxed (.list .nil))) (.cons (.for_ (.name 3) (.e (.loc 1)) (.cons (.ife (.cmp .eq (.comp (.loc 4) (.name 4) (.e (.loc 2)) (.cons (.call 19 (.cons (.loc 0) (.cons (.loc 3) (.cons (.loc 4) .nil)))) .nil)) (.list .nil)) (.cons (.expr (.meth .append (.loc 2) (.cons (.loc 3) .nil))) .nil) .nil) .nil)) (.cons (.ret (.loc 2)) .nil)))⟩
noncomputable def c26:Fn:=⟨4,14,false,(.cons (.asg (.name 4) (.loc 0)) (.cons (.ife (.or_ (.cmp .gt (.bin .mod (.loc 2) (.int 7)) (.int 0)) (.cmp .eq (.loc 3) (.int 0))) (.cons (.ife (.cmp .eq (.prim .len (.cons (.loc 1) .nil)) (.int 1)) (.cons (.ret (.tup (.cons (.str (Str.ofString "told")) (.cons (.idx (.loc 1) (.int 0)) .nil)))) .nil) .nil) (.cons (.asg (.name 4) (.comp (.loc 11) (.name 11) (.e (.loc 0)) (.cons (.cmp .gt (.lenI (.comp (.call 15 (.cons (.loc 11) (.cons (.loc 12) .nil))) (.name 12) (.e (.loc 1)) .nil)) (.int 1)) .nil))) .nil)) (.cons (.asg (.name 3) (.bin .sub (.loc 3) (.int 1))) .nil)) (.cons (.asg (.two (.name 5) (.name 6)) (.idx (.loc 4) (.bin .mod (.bin .fdiv (.loc 2) (.int 7)) (.prim .len (.cons (.loc 4) .nil))))) (.cons (.asg (.name 7) (.idx (.list (.cons (.tup (.cons (.loc 5) (.cons (.loc 6) .nil))) (.cons (.tup (.cons (.loc 6) (.cons (.loc 5) .nil))) .nil))) (.bin .mod (.bin .fdiv (.loc 2) (.int 200)) (.int 2)))) (.cons (.asg (.name 8) (.boxed (.list .nil))) (.cons (.for_ (.name 9) (.e (.list (.cons (.neg (.int 1)) (.cons (.int 0) (.cons (.int 1) .nil))))) (.cons (.asg (.name 10) (.comp (.loc 13) (.name 13) (.e (.loc 1)) (.cons (.cmp .eq (.call 15 (.cons (.loc 7) (.cons (.loc 13) .nil))) (.loc 9)) .nil))) (.cons (.asg (.name 2) (.bin .mod (.bin .add (.bin .mul (.loc 2) (.int 16807)) (.int 5)) (.int 1000003))) (.cons (.expr (.meth .append (.loc 8) (.cons (.ite (.cmp .eq (.loc 10) (.list .nil)) .none (.call 26 (.cons (.loc 0) (.cons (.loc 10) (.cons (.loc 2) (.cons (.loc 3) .nil)))))) .nil))) .nil)))) (.cons (.ret (.tup (.cons (.str (Str.ofString "weigh")) (.cons (.loc 7) (.cons (.prim .tuple (.cons (.loc 8) .nil)) .nil))))) .nil)))))))⟩
noncomputable def c27:Fn:=⟨4,9,false,(.cons (.asg (.name 4) (.idx (.loc 2) (.bin .mod (.bin .fdiv (.loc 3) (.int 16)) (.prim .len (.cons (.loc 2) .nil))))) (.cons (.ife (.and_ (.cmp .eq (.idx (.loc 0) (.int 0)) (.str (Str.ofString "told"))) (.cmp .eq (.bin .mod (.bin .fdiv (.loc 3) (.int 16)) (.int 2)) (.int 1))) (.cons (.asg (.name 4) (.idx (.loc 0) (.int 1))) .nil) .nil) (.cons (.asg (.name 5) (.idx (.loc 1) (.bin .mod (.bin .fdiv (.loc 3) (.int 16)) (.prim .len (.cons (.loc 1) .nil))))) (.cons (.asg (.name 6) (.prim .tuple (.cons (.comp (.ite (.cmp .lt (.loc 8) (.int 0)) (.loc 8) (.cmp .eq (.loc 8) (.int 1))) (.name 8) (.e (.loc 4)) .nil) .nil))) (.cons (.asg (.name 7) (.list (.cons (.tup (.cons (.str (Str.ofString "told")) (.cons (.loc 4) .nil))) (.cons .none (.cons (.tup (.cons (.str (Str.ofString "told")) (.cons (.loc 6) .nil))) (.cons (.tup (.cons (.str (Str.ofString "told")) (.cons (.prim .list (.cons (.loc 4) .nil)) .nil))) (.cons (.tup (.cons (.str (Str.ofString "told")) .nil)) (.cons (.tup (.cons (.str (Str.ofString "told")) (.cons (.loc 4) (.cons (.loc 4) .nil)))) .nil)))))))) (.cons (.asg (.name 7) (.bin .add (.loc 7) (.list (.cons (.tup (.cons (.str (Str.ofString "weigh")) (.cons (.loc 5) (.cons (.tup (.cons .none (.cons (.tup (.cons (.str (Str.ofString "told")) (.cons (.loc 4) .nil))) (.cons .none .nil)))) .nil)))) (.cons (.tup (.cons (.str (Str.ofString "weigh")) (.cons (.loc 5) (.cons (.tup (.cons (.loc 0) (.cons (.loc 0) (.cons (.loc 0) .nil)))) .nil)))) (.cons (.tup .nil) .nil)))))) (.cons (.asg (.name 7) (.bin .add (.loc 7) (.list (.cons (.tup (.cons (.str (Str.ofString "weigh")) (.cons (.loc 5) .nil))) (.cons (.str (Str.ofString "told")) (.cons (.int 5) (.cons (.list (.cons (.str (Str.ofString "told")) (.cons (.loc 4) .nil))) (.cons (.tup (.cons (.str (Str.ofString "tell")) (.cons (.loc 4) .nil))) (.cons (.tup (.cons .none (.cons (.loc 4) .nil))) (.cons .dict .nil)))))))))) (.cons (.ret (.idx (.loc 7) (.bin .mod (.loc 3) (.int 16)))) .nil))))))))⟩
noncomputable def c28:Fn:=⟨1,1,false,(.cons (.ife (.cmp .is (.loc 0) .none) (.cons (.ret (.list .nil)) .nil) .nil) (.cons (.ife (.cmp .eq (.idx (.loc 0) (.int 0)) (.str (Str.ofString "told"))) (.cons (.ret (.list (.cons (.idx (.loc 0) (.int 1)) .nil))) .nil) .nil) (.cons (.ret (.bin .add (.bin .add (.call 28 (.cons (.idx (.idx (.loc 0) (.int 2)) (.int 0)) .nil)) (.call 28 (.cons (.idx (.idx (.loc 0) (.int 2)) (.int 1)) .nil))) (.call 28 (.cons (.idx (.idx (.loc 0) (.int 2)) (.int 2)) .nil)))) .nil)))⟩
noncomputable def c29:Fn:=⟨4,12,false,(.cons (.ife (.cmp .eq (.bin .mod (.loc 3) (.int 7)) (.int 6)) (.cons (.asg (.name 4) (.call 28 (.cons (.loc 0) .nil))) (.cons (.ret (.tup (.cons (.str (Str.ofString "told")) (.cons (.idx (.comp (.loc 11) (.name 11) (.e (.loc 2)) (.cons (.cmp .in_ (.loc 11) (.loc 4)) .nil)) (.int 0)) .nil)))) .nil)) .nil) (.cons (.ife (.or_ (.cmp .eq (.idx (.loc 0) (.int 0)) (.str (Str.ofString "told"))) (.cmp .eq (.bin .mod (.loc 3) (.int 6)) (.int 0))) (.cons (.ret (.call 27 (.cons (.loc 0) (.cons (.loc 1) (.cons (.loc 2) (.cons (.bin .fdiv (.loc 3) (.int 6)) .nil)))))) .nil) .nil) (.cons (.asg3 5 6 7 (.loc 0)) (.cons (.asg (.name 8) (.idx (.loc 1) (.bin .mod (.bin .fdiv (.loc 3) (.int 36)) (.prim .len (.cons (.loc 1) .nil))))) (.cons (.ife (.cmp .eq (.bin .mod (.loc 3) (.int 6)) (.int 1)) (.cons (.asg (.name 9) (.tup (.cons (.idx (.loc 6) (.int 1)) (.cons (.idx (.loc 6) (.int 0)) .nil)))) (.cons (.ret (.tup (.cons (.loc 5) (.cons (.idx (.list (.cons (.loc 9) (.cons (.loc 8) (.cons (.prim .list (.cons (.loc 6) .nil)) (.cons (.tup (.cons (.idx (.loc 6) (.int 0)) (.cons (.idx (.loc 6) (.int 0)) .nil))) (.cons .none (.cons (.loc 9) .nil))))))) (.bin .mod (.bin .fdiv (.loc 3) (.int 6)) (.int 6))) (.cons (.loc 7) .nil))))) .nil)) .nil) (.cons (.ife (.cmp .eq (.bin .mod (.loc 3) (.int 6)) (.int 2)) (.cons (.ret (.tup (.cons (.loc 5) (.cons (.loc 6) (.cons (.idx (.list (.cons (.revT (.loc 7)) (.cons (.prim .list (.cons (.loc 7) .nil)) (.cons (.bin .add (.loc 7) (.tup (.cons .none .nil))) (.cons (.sliceT (.loc 7) .none (.int 2)) (.cons .none (.cons (.tup .nil) .nil))))))) (.bin .mod (.bin .fdiv (.loc 3) (.int 6)) (.int 6))) .nil))))) .nil) .nil) (.cons (.ife (.cmp .eq (.bin .mod (.loc 3) (.int 6)) (.int 3)) (.cons (.ret (.idx (.list (.cons (.bin .add (.loc 0) (.tup (.cons .none .nil))) (.cons (.sliceT (.loc 0) .none (.int 2)) (.cons (.prim .list (.cons (.loc 0) .nil)) (.cons (.bin .add (.tup (.cons (.str (Str.ofString "Weigh")) .nil)) (.sliceT (.loc 0) (.int 1) .none)) (.cons (.bin .add (.tup (.cons (.int 5) .nil)) (.sliceT (.loc 0) (.int 1) .none)) (.cons (.revT (.loc 0)) .nil))))))) (.bin .mod (.bin .fdiv (.loc 3) (.int 6)) (.int 6)))) .nil) .nil) (.cons (.asg (.name 10) (.bin .mod (.bin .fdiv (.loc 3) (.int 6)) (.int 3))) (.cons (.ife (.cmp .eq (.bin .mod (.loc 3) (.int 6)) (.int 4)) (.cons (.ret (.tup (.cons (.loc 5) (.cons (.tup (.cons (.idx (.loc 6) (.int 1)) (.cons (.idx (.loc 6) (.int 0)) .nil))) (.cons (.revT (.loc 7)) .nil))))) .nil) .nil) (.cons (.ret (.tup (.cons (.loc 5) (.cons (.loc 6) (.cons (.bin .add (.bin .add (.sliceT (.loc 7) .none (.loc 10)) (.tup (.cons (.call 27 (.cons (.loc 0) (.cons (.loc 1) (.cons (.loc 2) (.cons (.bin .fdiv (.loc 3) (.int 18)) .nil))))) .nil))) (.sliceT (.loc 7) (.bin .add (.loc 10) (.int 1)) .none)) .nil))))) .nil))))))))))⟩
noncomputable def c30:Fn:=⟨4,8,false,(.cons (.ife (.and_ (.cmp .eq (.idx (.loc 0) (.int 0)) (.str (Str.ofString "weigh"))) (.cmp .gt (.bin .mod (.loc 3) (.int 3)) (.int 0))) (.cons (.asg (.name 4) (.comp (.loc 7) (.name 7) (.range (.int 0) (.int 3)) (.cons (.cmp .isnot (.idx (.idx (.loc 0) (.int 2)) (.loc 7)) .none) .nil))) (.cons (.asg (.name 5) (.idx (.loc 4) (.bin .mod (.bin .fdiv (.loc 3) (.int 3)) (.prim .len (.cons (.loc 4) .nil))))) (.cons (.asg (.name 6) (.call 30 (.cons (.idx (.idx (.loc 0) (.int 2)) (.loc 5)) (.cons (.loc 1) (.cons (.loc 2) (.cons (.bin .fdiv (.loc 3) (.int 9)) .nil)))))) (.cons (.ret (.tup (.cons (.idx (.loc 0) (.int 0)) (.cons (.idx (.loc 0) (.int 1)) (.cons (.bin .add (.bin .add (.sliceT (.idx (.loc 0) (.int 2)) .none (.loc 5)) (.tup (.cons (.loc 6) .nil))) (.sliceT (.idx (.loc 0) (.int 2)) (.bin .add (.loc 5) (.int 1)) .none)) .nil))))) .nil)))) .nil) (.cons (.ret (.call 29 (.cons (.loc 0) (.cons (.loc 1) (.cons (.loc 2) (.cons (.bin .fdiv (.loc 3) (.int 3)) .nil)))))) .nil))⟩
noncomputable def c31:Fn:=⟨2,3,false,(.cons (.asg (.name 2) (.boxed (.list .nil))) (.cons (.while_ (.cmp .eq (.idx (.loc 0) (.int 0)) (.str (Str.ofString "weigh"))) (.cons (.expr (.meth .append (.loc 2) (.cons (.tup (.cons (.idx (.loc 0) (.int 1)) (.cons (.call 15 (.cons (.idx (.loc 0) (.int 1)) (.cons (.loc 1) .nil))) .nil))) .nil))) (.cons (.asg (.name 0) (.idx (.idx (.loc 0) (.int 2)) (.bin .add (.idx (.idx (.loc 2) (.neg (.int 1))) (.int 1)) (.int 1)))) .nil))) (.cons (.ret (.loc 2)) .nil)))⟩
noncomputable def c32:Fn:=⟨2,9,false,(.cons (.asg (.name 2) (.call 10 (.cons (.loc 0) .nil))) (.cons (.asg (.name 3) (.comp (.call 31 (.cons (.loc 0) (.cons (.loc 6) .nil))) (.name 6) (.e (.loc 1)) .nil)) (.cons (.ife (.or_ (.nt (.call 14 (.cons (.loc 2) .nil))) (.or_ (.cmp .ne (.loc 2) (.maxL (.comp (.prim .len (.cons (.loc 7) .nil)) (.name 7) (.e (.loc 3)) .nil))) (.cmp .ne (.loc 2) (.call 24 (.cons (.loc 0) .nil))))) (.cons (.ret (.bool false)) .nil) .nil) (.cons (.for_ (.name 4) (.range (.int 0) (.prim .len (.cons (.loc 1) .nil))) (.cons (.asg (.name 5) (.call 11 (.cons (.loc 0) (.cons (.idx (.loc 1) (.loc 4)) .nil)))) (.cons (.ife (.or_ (.nt (.prim (.isinst .list) (.cons (.loc 5) .nil))) (.cmp .ne (.loc 5) (.idx (.loc 3) (.loc 4)))) (.cons (.ret (.bool false)) .nil) .nil) (.cons (.ife (.cmp .ne (.comp (.loc 8) (.name 8) (.e (.loc 5)) (.cons (.or_ (.nt (.prim (.isinst .tuple) (.cons (.loc 8) .nil))) (.nt (.call 14 (.cons (.idx (.loc 8) (.int 1)) .nil)))) .nil)) (.list .nil)) (.cons (.ret (.bool false)) .nil) .nil) (.cons (.expr (.meth .append (.loc 5) (.cons .none .nil))) (.cons (.ife (.cmp .ne (.call 11 (.cons (.loc 0) (.cons (.idx (.loc 1) (.loc 4)) .nil))) (.idx (.loc 3) (.loc 4))) (.cons (.ret (.bool false)) .nil) .nil) .nil)))))) (.cons (.ret (.bool true)) .nil)))))⟩
noncomputable def c33:Fn:=⟨1,13,false,(.cons (.asg (.two (.name 1) (.name 2)) (.call 18 (.cons (.loc 0) (.cons (.int 3) (.cons (.int 5) .nil))))) (.cons (.asg (.name 3) (.call 16 (.cons (.loc 1) .nil))) (.cons (.asg (.name 2) (.call 25 (.cons (.loc 3) (.cons (.loc 2) .nil)))) (.cons (.asg (.name 4) (.call 26 (.cons (.loc 3) (.cons (.loc 2) (.cons (.bin .mod (.call 13 (.cons (.loc 0) (.cons (.int 0) .nil))) (.int 1000003)) (.cons (.int 2) .nil)))))) (.cons (.asg (.name 5) (.loc 4)) (.cons (.asg (.name 6) (.call 12 (.cons (.loc 0) (.cons (.int 1) .nil)))) (.cons (.ife (.cmp .gt (.bin .mod (.loc 6) (.int 4)) (.int 0)) (.cons (.asg (.name 5) (.call 30 (.cons (.loc 4) (.cons (.loc 3) (.cons (.loc 2) (.cons (.call 13 (.cons (.loc 0) (.cons (.int 2) .nil))) .nil)))))) .nil) .nil) (.cons (.asg (.name 7) (.ite (.and_ (.cmp .eq (.bin .mod (.loc 6) (.int 16)) (.int 4)) (.cmp .gt (.prim .len (.cons (.loc 2) .nil)) (.int 1))) (.slice (.loc 2) (.int 1) .none) (.loc 2))) (.cons (.asg (.name 8) (.call 23 (.cons (.loc 1) (.cons (.loc 7) (.cons (.loc 5) .nil))))) (.cons (.asg (.name 9) (.strC (.loc 5))) (.cons (.asg (.name 10) (.prim .list (.cons (.loc 7) .nil))) (.cons (.for_ (.name 11) (.range (.int 0) (.int 2)) (.cons (.asg (.name 12) (.call 9 (.cons (.loc 1) (.cons (.loc 10) (.cons (.loc 5) .nil))))) (.cons (.ife (.or_ (.nt (.prim (.isinst .bool) (.cons (.loc 12) .nil))) (.or_ (.cmp .ne (.loc 12) (.loc 8)) (.or_ (.cmp .ne (.loc 10) (.loc 7)) (.cmp .ne (.strC (.loc 5)) (.loc 9))))) (.cons (.ret (.bool false)) .nil) .nil) (.cons (.ife (.cmp .isnot (.call 9 (.cons (.loc 1) (.cons (.prim .list (.cons (.loc 2) .nil)) (.cons (.loc 4) .nil)))) (.bool true)) (.cons (.ret (.bool false)) .nil) .nil) (.cons (.ife (.cmp .isnot (.call 9 (.cons (.loc 1) (.cons (.loc 10) (.cons (.idx (.list (.cons .none (.cons (.tup .nil) (.cons (.int 5) (.cons (.str (Str.ofString "told")) .nil))))) (.bin .mod (.bin .fdiv (.loc 6) (.int 16)) (.int 4))) .nil)))) (.bool false)) (.cons (.ret (.bool false)) .nil) .nil) .nil))))) (.cons (.ife (.and_ (.loc 8) (.nt (.call 32 (.cons (.loc 5) (.cons (.loc 7) .nil))))) (.cons (.ret (.bool false)) .nil) .nil) (.cons (.ret (.call 32 (.cons (.loc 4) (.cons (.loc 2) .nil)))) .nil))))))))))))))⟩
noncomputable def zqs:List Str:=[("is_among" : Str),("need_count" : Str),("is_case" : Str),("need_cases" : Str),("is_pan" : Str),("is_weighing" : Str),("came" : Str),("parted" : Str),("is_plan_for" : Str),("is_plan" : Str),("length_of" : Str),("walked" : Str),("_law_cell_at" : Str),("_law_mixed" : Str),("_law_whole" : Str),("_law_came" : Str),("_law_pans" : Str),("_law_pool" : Str),("_law_puzzle" : Str),("_law_alike" : Str),("_law_is_pan" : Str),("_law_is_weighing" : Str),("_law_is_case_told" : Str),("_law_is_plan" : Str),("_law_length" : Str),("_law_apart" : Str),("_law_planned" : Str),("_law_thing" : Str),("_law_told_in" : Str),("_law_here_changed" : Str),("_law_changed" : Str),("_law_walk" : Str),("_law_goes" : Str),("law" : Str)]
noncomputable def wp(f:Nat):Option Str:=zqs[f]?
noncomputable def zj6:List (List Str):=[[("thing" : Str),("least" : Str),("most" : Str)],[("many" : Str)],[("many" : Str),("thing" : Str)],[("many" : Str),("cases" : Str)],[("many" : Str),("thing" : Str)],[("many" : Str),("thing" : Str),("left" : Str),("right" : Str)],[("weighing" : Str),("case" : Str),("left" : Str),("right" : Str),("more" : Str)],[("weighing" : Str),("cases" : Str),("found" : Str),("outcome" : Str)],[("many" : Str),("cases" : Str),("thing" : Str),("some" : Str),("part" : Str)],[("many" : Str),("cases" : Str),("thing" : Str)],[("plan" : Str)],[("plan" : Str),("case" : Str),("found" : Str),("here" : Str),("outcome" : Str)],[("_law_script" : Str),("_law_k" : Str)],[("_law_script" : Str),("_law_k" : Str)],[("_law_found" : Str)],[("_law_weighing" : Str),("_law_case" : Str),("_law_more" : Str),("_law_one" : Str)],[("_law_many" : Str),("_law_found" : Str),("_law_number" : Str),("_law_sides" : Str),("_law_left" : Str),("_law_right" : Str)],[("_law_many" : Str),("_law_kind" : Str),("_law_found" : Str),("_law_one" : Str),("_law_other" : Str),("_law_case" : Str)],[("_law_script" : Str),("_law_at" : Str),("_law_greatest" : Str),("_law_first" : Str),("_law_many" : Str),("_law_most" : Str),("_law_pool_here" : Str),("_law_k" : Str),("_law_number" : Str),("_law_found" : Str),("_law_case" : Str)],[("_law_pans_here" : Str),("_law_one" : Str),("_law_other" : Str)],[("_law_many" : Str),("_law_thing_here" : Str)],[("_law_many" : Str),("_law_thing_here" : Str)],[("_law_thing_here" : Str),("_law_case" : Str)],[("_law_many" : Str),("_law_cases" : Str),("_law_thing_here" : Str),("_law_place" : Str),("_law_some" : Str),("_law_part" : Str)],[("_law_plan" : Str)],[("_law_pans_here" : Str),("_law_cases" : Str),("_law_found" : Str),("_law_case" : Str)],[("_law_pans_here" : Str),("_law_cases" : Str),("_law_seed" : Str),("_law_wastes" : Str),("_law_some" : Str),("_law_left" : Str),("_law_right" : Str),("_law_weighing" : Str),("_law_parts" : Str),("_law_due" : Str),("_law_part" : Str)],[("_law_plan" : Str),("_law_pans_here" : Str),("_law_cases" : Str),("_law_cell" : Str),("_law_case" : Str),("_law_weighing" : Str),("_law_truths" : Str),("_law_some" : Str)],[("_law_plan" : Str)],[("_law_plan" : Str),("_law_pans_here" : Str),("_law_cases" : Str),("_law_cell" : Str),("_law_some" : Str),("_law_word" : Str),("_law_weighing" : Str),("_law_parts" : Str),("_law_other" : Str),("_law_turned" : Str),("_law_at" : Str)],[("_law_plan" : Str),("_law_pans_here" : Str),("_law_cases" : Str),("_law_cell" : Str),("_law_some" : Str),("_law_at" : Str),("_law_part" : Str)],[("_law_plan" : Str),("_law_case" : Str),("_law_found" : Str)],[("_law_plan" : Str),("_law_cases" : Str),("_law_size" : Str),("_law_walks" : Str),("_law_k" : Str),("_law_found" : Str)],[("_law_script" : Str),("_law_many" : Str),("_law_cases" : Str),("_law_pans_here" : Str),("_law_plan" : Str),("_law_thing_here" : Str),("_law_way" : Str),("_law_asked" : Str),("_law_due" : Str),("_law_kept" : Str),("_law_handed" : Str),("_law_turn" : Str),("_law_found" : Str)]]
noncomputable def kh(f:Nat):List Str:=zj6[f]?.getD []
noncomputable def zqp:List Str:=[("LEAST_THINGS" : Str),("MOST_THINGS" : Str),("MOST_CASES" : Str),("OUTCOMES" : Str)]
noncomputable def uu(k:Nat):Option Str:=zqp[k]?
noncomputable def zrh:List Str:=[]
noncomputable def zba(k:Nat):Option Str:=zrh[k]?
noncomputable def table:Nat→Option Fn
 | 0=>some c0
 | 1=>some c1
 | 2=>some c2
 | 3=>some c3
 | 4=>some c4
 | 5=>some c5
 | 6=>some c6
 | 7=>some c7
 | 8=>some c8
 | 9=>some c9
 | 10=>some c10
 | 11=>some c11
 | 12=>some c12
 | 13=>some c13
 | 14=>some c14
 | 15=>some c15
 | 16=>some c16
 | 17=>some c17
 | 18=>some c18
 | 19=>some c19
 | 20=>some c20
 | 21=>some c21
 | 22=>some c22
 | 23=>some c23
 | 24=>some c24
 | 25=>some c25
 | 26=>some c26
 | 27=>some c27
 | 28=>some c28
 | 29=>some c29
 | 30=>some c30
 | 31=>some c31
 | 32=>some c32
 | 33=>some c33
 | _+34=>none
noncomputable def zqn:List PyData:=[.int (2),.int (5),.int (12),.tuple [.int (-1),.int (0),.int (1)]]
noncomputable def zsz(k:Nat):Option PyData:=zqn[k]?
noncomputable def zkr:Nat:=33
noncomputable def zrl:List Nat:=[0,1,2,3,4,5,6,7,8,9,10,11,12,13,14,15,16,17,18,19,20,21,22,23,24,25,26,27,28,29,30,31,32,33]
noncomputable def at_(f:Nat):Nat:=zrl[f]?.getD 0
noncomputable def subs(x c:Nat):Option Bool:=match x with
 | _=>none
noncomputable def P:Pg:={ call:=fun _ _ _ _=>.stuck,hd:=false,gval:=zsz,turns:=200,sub:=subs,srt:=zfq,sets:=true,txt:=fun _=>none }
end Mine.L04
end
section
namespace Mine.L04
open PySem Mine PyProof.Rows
noncomputable def prog:Program:=PySem.Challenge.pw_uf050003_04
noncomputable def fnOf:Option Stmt→List Stmt×Scope
 | some (.FunctionDef _ _ b _ _ _ s _ _ _)=>(b,s)
 | _=>([],⟨.module,[],false,false,[]⟩)
noncomputable def bd(k:Nat):List Stmt:=(fnOf (prog.main.body[k]?)).1
noncomputable def sp(k:Nat):Scope:=(fnOf (prog.main.body[k]?)).2
noncomputable def cxOf(fn:Fn)(f k:Nat):Cx:={ names:=yq fn (kh f),sc:=sp k,fname:=wp,gname:=uu,cname:=zba }
theorem bs:JSs (cxOf c0 0 8) (bd 8) c0.body∧JSs (cxOf c1 1 9) (bd 9) c1.body∧JSs (cxOf c2 2 10) (bd 10) c2.body∧JSs (cxOf c3 3 11) (bd 11) c3.body∧JSs (cxOf c4 4 14) (bd 14) c4.body∧JSs (cxOf c5 5 15) (bd 15) c5.body∧JSs (cxOf c6 6 16) (bd 16) c6.body∧JSs (cxOf c7 7 17) (bd 17) c7.body∧JSs (cxOf c8 8 19) (bd 19) c8.body∧JSs (cxOf c9 9 20) (bd 20) c9.body∧JSs (cxOf c10 10 21) (bd 21) c10.body∧JSs (cxOf c11 11 22) (bd 22) c11.body∧JSs (cxOf c12 12 24) (bd 24) c12.body∧JSs (cxOf c13 13 25) (bd 25) c13.body∧JSs (cxOf c14 14 26) (bd 26) c14.body∧JSs (cxOf c15 15 27) (bd 27) c15.body∧JSs (cxOf c16 16 28) (bd 28) c16.body∧JSs (cxOf c17 17 29) (bd 29) c17.body∧JSs (cxOf c18 18 30) (bd 30) c18.body∧JSs (cxOf c19 19 31) (bd 31) c19.body∧JSs (cxOf c20 20 32) (bd 32) c20.body∧JSs (cxOf c21 21 33) (bd 33) c21.body∧JSs (cxOf c22 22 34) (bd 34) c22.body∧JSs (cxOf c23 23 35) (bd 35) c23.body∧JSs (cxOf c24 24 36) (bd 36) c24.body∧JSs (cxOf c25 25 37) (bd 37) c25.body∧JSs (cxOf c26 26 38) (bd 38) c26.body∧JSs (cxOf c27 27 39) (bd 39) c27.body∧JSs (cxOf c28 28 40) (bd 40) c28.body∧JSs (cxOf c29 29 41) (bd 41) c29.body∧JSs (cxOf c30 30 42) (bd 42) c30.body∧JSs (cxOf c31 31 43) (bd 43) c31.body∧JSs (cxOf c32 32 44) (bd 44) c32.body∧JSs (cxOf c33 33 45) (bd 45) c33.body:=by
 refine⟨?_,?_,?_,?_,?_,?_,?_,?_,?_,?_,?_,?_,?_,?_,?_,?_,?_,?_,?_,?_,?_,?_,?_,?_,?_,?_,?_,?_,?_,?_,?_,?_,?_,?_⟩ <;> apply zhb
 all_goals with_reducible repeat' first
  | apply zsa | apply zr9 | apply q_if | apply zpk | apply zhb | apply zj1 | apply s_ret0 | apply zrz | apply zr0 | apply zpu | apply s_asgB | apply zpv | apply zpt | apply zpq | apply zr2 | apply zpr | apply zr1 | apply zmy | apply zps
  | apply zrw | apply zmo | apply zmn | apply zpd | apply zpc | apply zpe | apply zjw | apply tt_ite | apply zmr
  | apply zqc | apply zqk | apply zsv | apply zsr | apply zst | apply zqh | apply zsq | apply zqi | apply zss | apply j_nt | apply zqm | apply zql | apply j_or2 | apply j_orN | apply zsx | apply zne | apply zsu
  | apply zky | apply zng | apply zqe | apply zqg | apply znc | apply j_back | apply zsw | apply zkz | apply zqf | apply zqb | apply zqd | apply znd | apply zk0 | apply zqj | apply znf | apply JK.e
  | apply zp4 | apply zsj | apply zkk | apply m_listI | apply zm6
  | apply zqv | apply znq | apply znj | apply zk5 | apply zp0 | apply zpz | apply znl | apply i_e | apply zr8 | apply zr7
  | exact .inl rfl | exact .inr rfl | kernel_rfl
theorem b0:JSs (cxOf c0 0 8) (bd 8) c0.body:=bs.1
theorem b1:JSs (cxOf c1 1 9) (bd 9) c1.body:=bs.2.1
theorem b2:JSs (cxOf c2 2 10) (bd 10) c2.body:=bs.2.2.1
theorem b3:JSs (cxOf c3 3 11) (bd 11) c3.body:=bs.2.2.2.1
theorem b4:JSs (cxOf c4 4 14) (bd 14) c4.body:=bs.2.2.2.2.1
theorem b5:JSs (cxOf c5 5 15) (bd 15) c5.body:=bs.2.2.2.2.2.1
theorem b6:JSs (cxOf c6 6 16) (bd 16) c6.body:=bs.2.2.2.2.2.2.1
theorem b7:JSs (cxOf c7 7 17) (bd 17) c7.body:=bs.2.2.2.2.2.2.2.1
theorem b8:JSs (cxOf c8 8 19) (bd 19) c8.body:=bs.2.2.2.2.2.2.2.2.1
theorem b9:JSs (cxOf c9 9 20) (bd 20) c9.body:=bs.2.2.2.2.2.2.2.2.2.1
theorem b10:JSs (cxOf c10 10 21) (bd 21) c10.body:=bs.2.2.2.2.2.2.2.2.2.2.1
theorem b11:JSs (cxOf c11 11 22) (bd 22) c11.body:=bs.2.2.2.2.2.2.2.2.2.2.2.1
theorem b12:JSs (cxOf c12 12 24) (bd 24) c12.body:=bs.2.2.2.2.2.2.2.2.2.2.2.2.1
theorem b13:JSs (cxOf c13 13 25) (bd 25) c13.body:=bs.2.2.2.2.2.2.2.2.2.2.2.2.2.1
theorem b14:JSs (cxOf c14 14 26) (bd 26) c14.body:=bs.2.2.2.2.2.2.2.2.2.2.2.2.2.2.1
theorem b15:JSs (cxOf c15 15 27) (bd 27) c15.body:=bs.2.2.2.2.2.2.2.2.2.2.2.2.2.2.2.1
theorem b16:JSs (cxOf c16 16 28) (bd 28) c16.body:=bs.2.2.2.2.2.2.2.2.2.2.2.2.2.2.2.2.1
theorem b17:JSs (cxOf c17 17 29) (bd 29) c17.body:=bs.2.2.2.2.2.2.2.2.2.2.2.2.2.2.2.2.2.1
theorem b18:JSs (cxOf c18 18 30) (bd 30) c18.body:=bs.2.2.2.2.2.2.2.2.2.2.2.2.2.2.2.2.2.2.1
theorem b19:JSs (cxOf c19 19 31) (bd 31) c19.body:=bs.2.2.2.2.2.2.2.2.2.2.2.2.2.2.2.2.2.2.2.1
theorem b20:JSs (cxOf c20 20 32) (bd 32) c20.body:=bs.2.2.2.2.2.2.2.2.2.2.2.2.2.2.2.2.2.2.2.2.1
theorem b21:JSs (cxOf c21 21 33) (bd 33) c21.body:=bs.2.2.2.2.2.2.2.2.2.2.2.2.2.2.2.2.2.2.2.2.2.1
theorem b22:JSs (cxOf c22 22 34) (bd 34) c22.body:=bs.2.2.2.2.2.2.2.2.2.2.2.2.2.2.2.2.2.2.2.2.2.2.1
theorem b23:JSs (cxOf c23 23 35) (bd 35) c23.body:=bs.2.2.2.2.2.2.2.2.2.2.2.2.2.2.2.2.2.2.2.2.2.2.2.1
theorem b24:JSs (cxOf c24 24 36) (bd 36) c24.body:=bs.2.2.2.2.2.2.2.2.2.2.2.2.2.2.2.2.2.2.2.2.2.2.2.2.1
theorem b25:JSs (cxOf c25 25 37) (bd 37) c25.body:=bs.2.2.2.2.2.2.2.2.2.2.2.2.2.2.2.2.2.2.2.2.2.2.2.2.2.1
theorem b26:JSs (cxOf c26 26 38) (bd 38) c26.body:=bs.2.2.2.2.2.2.2.2.2.2.2.2.2.2.2.2.2.2.2.2.2.2.2.2.2.2.1
theorem b27:JSs (cxOf c27 27 39) (bd 39) c27.body:=bs.2.2.2.2.2.2.2.2.2.2.2.2.2.2.2.2.2.2.2.2.2.2.2.2.2.2.2.1
theorem b28:JSs (cxOf c28 28 40) (bd 40) c28.body:=bs.2.2.2.2.2.2.2.2.2.2.2.2.2.2.2.2.2.2.2.2.2.2.2.2.2.2.2.2.1
theorem b29:JSs (cxOf c29 29 41) (bd 41) c29.body:=bs.2.2.2.2.2.2.2.2.2.2.2.2.2.2.2.2.2.2.2.2.2.2.2.2.2.2.2.2.2.1
theorem b30:JSs (cxOf c30 30 42) (bd 42) c30.body:=bs.2.2.2.2.2.2.2.2.2.2.2.2.2.2.2.2.2.2.2.2.2.2.2.2.2.2.2.2.2.2.1
theorem b31:JSs (cxOf c31 31 43) (bd 43) c31.body:=bs.2.2.2.2.2.2.2.2.2.2.2.2.2.2.2.2.2.2.2.2.2.2.2.2.2.2.2.2.2.2.2.1
theorem b32:JSs (cxOf c32 32 44) (bd 44) c32.body:=bs.2.2.2.2.2.2.2.2.2.2.2.2.2.2.2.2.2.2.2.2.2.2.2.2.2.2.2.2.2.2.2.2.1
theorem b33:JSs (cxOf c33 33 45) (bd 45) c33.body:=bs.2.2.2.2.2.2.2.2.2.2.2.2.2.2.2.2.2.2.2.2.2.2.2.2.2.2.2.2.2.2.2.2.2
theorem zq{f k:Nat}{fn fn':Fn}{d:DefRec}(h:((recsOf prog)[at_ f]?.map fun d=>(d.body,d.scope))=some (bd k,sp k))(hb:JSs (cxOf fn f k) (bd k) fn.body)(hT:some fn=some fn')(hd:(recsOf prog)[at_ f]?=some d) :
 JSs { names:=yq fn' (kh f),sc:=d.scope,fname:=wp,gname:=uu,cname:=zba } d.body fn'.body:=by
 cases hT
 rw[hd] at h
 injection h with h
 injection h with h1 h2
 rw[h1,h2];exact hb
theorem zrk:zbj prog wp uu zba table kh at_:=fun f fn d=>match f with
 | 0=>zq (k:=8) (by kernel_rfl) b0
 | 1=>zq (k:=9) (by kernel_rfl) b1
 | 2=>zq (k:=10) (by kernel_rfl) b2
 | 3=>zq (k:=11) (by kernel_rfl) b3
 | 4=>zq (k:=14) (by kernel_rfl) b4
 | 5=>zq (k:=15) (by kernel_rfl) b5
 | 6=>zq (k:=16) (by kernel_rfl) b6
 | 7=>zq (k:=17) (by kernel_rfl) b7
 | 8=>zq (k:=19) (by kernel_rfl) b8
 | 9=>zq (k:=20) (by kernel_rfl) b9
 | 10=>zq (k:=21) (by kernel_rfl) b10
 | 11=>zq (k:=22) (by kernel_rfl) b11
 | 12=>zq (k:=24) (by kernel_rfl) b12
 | 13=>zq (k:=25) (by kernel_rfl) b13
 | 14=>zq (k:=26) (by kernel_rfl) b14
 | 15=>zq (k:=27) (by kernel_rfl) b15
 | 16=>zq (k:=28) (by kernel_rfl) b16
 | 17=>zq (k:=29) (by kernel_rfl) b17
 | 18=>zq (k:=30) (by kernel_rfl) b18
 | 19=>zq (k:=31) (by kernel_rfl) b19
 | 20=>zq (k:=32) (by kernel_rfl) b20
 | 21=>zq (k:=33) (by kernel_rfl) b21
 | 22=>zq (k:=34) (by kernel_rfl) b22
 | 23=>zq (k:=35) (by kernel_rfl) b23
 | 24=>zq (k:=36) (by kernel_rfl) b24
 | 25=>zq (k:=37) (by kernel_rfl) b25
 | 26=>zq (k:=38) (by kernel_rfl) b26
 | 27=>zq (k:=39) (by kernel_rfl) b27
 | 28=>zq (k:=40) (by kernel_rfl) b28
 | 29=>zq (k:=41) (by kernel_rfl) b29
 | 30=>zq (k:=42) (by kernel_rfl) b30
 | 31=>zq (k:=43) (by kernel_rfl) b31
 | 32=>zq (k:=44) (by kernel_rfl) b32
 | 33=>zq (k:=45) (by kernel_rfl) b33
 | _+34=>fun hT _=>nomatch hT
end Mine.L04
end
section
namespace Mine.L04
open PySem PySem.W PySem.Calls PyProof.Rows Mine
theorem zs1{G:Gl}{p:Program}{loose:List Str}{mean:ExcName→Option Value}{gval:Nat→Option PyData}{gname:Nat→Option Str}{K:W.Frag}(X:K.In G.h₀)(t:Top p loose mean G.mg G.mb G.h₀)(hc:∀ c,∃ C,G.cls c=.ref C)(hb:zl8 K=true)
 (hv:∀ k d x,gval k=some d→gname k=some x→valOf p x=some d∨∃ v,nsIn K mainGlobals x=some (some v)∧∀ h,K.In h→Reads h v d []):GOk G gval gname where
 nolimit:=t.nolimit
 g:=t.g
 b:=t.b
 gl:=fun k d x h1 h2=>by
  rcases hv k d x h1 h2 with h | ⟨v,h,r⟩
  ·obtain⟨v,q1,q2⟩:=t.const x d h;exact⟨v,q1,q2 _⟩
  ·exact⟨v,W.mg_of X t.g h,r _ X⟩
 clsRef:=hc
 bi:=fun q hq=>by
  have:=List.all_eq_true.mp hb q hq
  simp only[Bool.and_eq_true,beq_iff_eq,bne_iff_ne,ne_eq] at this
  exact⟨W.mg_none_of X t.g this.1.1,by rw[t.builtins _ this.2];exact this.1.2⟩
 digits:=t.nodigits
theorem cl0{G:Gl}:zid G P zba:=⟨fun c z h=>(nomatch h),fun c z h=>(nomatch h),fun c z A s env x y np cpos pos yp yk Q E h=>(nomatch h)⟩
noncomputable abbrev oOut:Obj:=PySem.Obj.mk (Value.type "tuple") Option.none (PySem.Data.seq #[Value.int (-1) 278,Value.int 0 279,Value.int 1 280]) #[]
theorem h_gv{p:Program}{K:W.Frag}(h0:valOf p "LEAST_THINGS" = some (.int 2))(h1:valOf p "MOST_THINGS" = some (.int 5))(h2:valOf p "MOST_CASES" = some (.int 12))(h3:nsIn K mainGlobals "OUTCOMES" = some (some (.ref 76)))(h4:K.lookup 76=some oOut):∀ k d x,P.gval k=some d→uu k=some x→valOf p x=some d∨∃ v,nsIn K mainGlobals x=some (some v)∧∀ h,K.In h→Reads h v d []:=fun k d x e1 e2=>by
 match k,e1,e2 with
 | 0,e1,e2=>cases e1;cases e2;exact .inl h0
 | 1,e1,e2=>cases e1;cases e2;exact .inl h1
 | 2,e1,e2=>cases e1;cases e2;exact .inl h2
 | 3,e1,e2=>
   cases e1;cases e2
   exact .inr ⟨_,h3,fun h X=>.tuple (X 76 _ h4) rfl rfl (.cons (.int _ _) (.cons (.int _ _) (.cons (.int _ _) .nil)))⟩
 | n+4,e1,_=>cases e1
theorem h_no:∀ f,34≤f→wp f=none:=fun f hf=>List.getElem?_eq_none hf
theorem zm9{p:Program}{loose:List Str}{mean:ExcName→Option Value}{K:W.Frag}{prog:Program}{w:World}{s:Shared}{mg mb:Str→Option Value}
 (t:Top p loose mean mg mb s.heap) (X:K.In s.heap) (hf:(List.range 34).all (zgm p wp table kh at_)=true) (hbo:zbj p wp uu zba table kh at_) (hb:zl8 K=true) (hv:∀ k d x,P.gval k=some d→uu k=some x→valOf p x=some d∨∃ v,nsIn K mainGlobals x=some (some v)∧∀ h,K.In h→Reads h v d [])
 (himp:importsNone p=true) {x:Str} (hfx:wp zkr=some x) {script:List Int} {a:Addr} {rs:List Addr} (r0:Reads s.heap (.ref a) (.list (script.map .int)) rs) {d:PyData} {O'':za}
 (hev:ze P table 61 false zkr [.d (.list (script.map .int))] []=.ok (.d d) O'') {Q:Value→Shared→Prop} {E:Value→Shared→Prop}
 (kk:∀ s' val as,s'.gens=s.gens→s'.os=s.os→(∀ b o,s.heap.get? b=some o→s'.heap.get? b=some o)→Reads s'.heap val d as→Q val s') {fa:Addr} (hmg:mg x=some (.ref fa)):wpAny (model prog w) callerA (call (.ref fa) [.ref a]) Q E s:=
 go_top (G:={ prog:=prog,w:=w,h₀:=s.heap,mg:=mg,mb:=mb,cls:=fun _=>.ref 0,sys:=let ⟨m,h,_⟩:=(t.seer himp).mods;⟨m,h⟩ }) (zs1 X t (fun _=>⟨0,rfl⟩) hb hv) (zqr t 34 h_no hf hbo) (zpl rfl) zpo cl0 (k:=60) ⟨by decide,by decide,rfl⟩ rfl rfl rfl hfx
  (vals:=[.ref a]) (vs:=[.d (.list (script.map .int))]) (.cons ⟨rs,r0,fun b hb=>⟨fun h=>(nomatch h),fun h=>by rw[List.mem_singleton.mp h] at hb;obtain⟨m,hm,_⟩:=(t.seer himp).mods;exact zfu hm r0 hb⟩⟩ .nil) hev kk fa hmg
set_option tactic.hygienic true in
theorem holds_of(hE:∀ script:List Int,script.length≤63→∃ O,ze P table 61 false zkr [.d (.list (script.map .int))] []=.ok (.d (.bool true)) O):PySem.Challenge.rw_uf050003_04.Holds:=by
 w_on
 refine holds_law ws fun said=>?_
 refine holds_open (q:=view) (loose:=[]) (Xt:=fun s=>xlAt view [] s && recOk (RowW.records (OpenRow.toRowW (OpenLaw.row PySem.Challenge.rw_uf050003_04))) s) (XP:=XL view []) (Yf:=Hook.obs hook) (Ya:=Hook.val hook) (YP:=Hook.says hook) (N:=3600) ?hl (Hook.of hook) (Hook.keeps hook) (fun s e=>xl_of s (Bool.and_eq_true_iff.mp e).1) XL.keeps (by rfl) (by rfl) (by rfl) (fun s e=>recFacts_of (Bool.and_eq_true_iff.mp e).2) (by rfl) (by assumption) (by decide +kernel) ⟨rfl,rfl,rfl,rfl,rfl,by decide +kernel⟩ ?hw ?hc
 case hw=>w_witness2
 case hl=>exact zm7
 case hc=>
  intro w s₀ s₁ mg mb G Y fa o pm cd doc dV kV ho hd hcd hD hmg hg args vals as hpre hlay hrd hwl hlo
  have KX:=kIn_of Y
  have X:=(Ground.X G).1
  have V:=(Ground.X G).2
  refine Ground.open G ?_
  intro T B D TE TW
  clear hd hcd hD
  wrow_args hpre hlay hrd hwl hlo
  clear Y G X V B D TE TW ho
  rename_i script _ _ _ _ _ rs _ a vs _ hL ra _ r0 _ _ hlen _
  have hlen':script.length≤63:=by omega
  obtain⟨O,hev⟩:=hE script hlen'
  refine zm9 T KX (by kernel_rfl) zrk (by kernel_rfl) (h_gv (by kernel_rfl) (by kernel_rfl) (by kernel_rfl) (by kernel_rfl) (by kernel_rfl)) (by kernel_rfl) rfl r0 hev ?_ hmg
  intro s' val as' hgens hos hkeep hread
  have hread':=readsW_of_reads (R:=Challenge.rw_uf050003_04.row.claim.records) (cl:=classAt s₀.heap) hread
  cases hread
  refine⟨.inl ⟨_,.bool true,[],rfl,fun _=>rfl,?_,?_,fun _=>⟨.nil,fun _ h=>(nomatch h)⟩⟩,.of_keep hkeep,hos,.of_eq (hgens.trans hg)⟩
  ·exact hread'
  ·kernel_rfl
end Mine.L04
end
section
namespace Mine
open PySem
theorem za9{ys:List PyData}{turn:PyData→za→R za (Option PyData)}{f:PyData→PyData}{O:za}:∀ (xs acc:List PyData),(∀ x∈xs,turn x O=.ok (some (f x)) O)→z7 (.plain ys) turn xs acc O=.ok (.d (.list (acc++xs.map f))) O
 | [],acc,_=>by simp[z7]
 | x::xs,acc,h=>by
   rw[z7,h x List.mem_cons_self]
   show (if (Src.plain ys).still O=true then _ else _)=_
   rw[if_pos (show (Src.plain ys).still _=true from rfl),za9 xs _ fun y hy=>h y (List.mem_cons_of_mem _ hy)]
   simp
theorem zaw{α:Type}{ys:List PyData}{turn:PyData→Loc→za→R (Loc×za) Fl}(st:α→Loc×za)(f:α→PyData→α):∀ (xs:List PyData) (a:α),(∀ a,∀ x∈xs,turn x (st a).1 (st a).2=.ok .next (st (f a x))) →
 y6 (.plain ys) turn xs (st a).1 (st a).2=.ok .next (st (xs.foldl f a))
 | [],a,_=>rfl
 | x::xs,a,h=>by
   rw[y6,h a x List.mem_cons_self]
   show (if (Src.plain ys).still _=true then _ else _)=_
   rw[if_pos (show (Src.plain ys).still _=true from rfl),zaw st f xs (f a x) fun a y hy=>h a y (List.mem_cons_of_mem _ hy)]
   rfl
section
variable{P:Pg}{ρ:Loc}{O:za}{a b c t:CE}{es:CEs}
theorem zfi:evE P ρ .none O=.ok (.d .none) O:=rfl
theorem jr{i:Int}:evE P ρ (.int i) O=.ok (.d (.int i)) O:=rfl
theorem xq{i:Nat}:evE P ρ (.loc i) O=opt (ρ[i]?.join) O:=rfl
theorem zbt:evE P ρ (.tup es) O=(evEs P ρ es O).bind fun vs O=>opt (tupV vs) O:=rfl
theorem ud:evE P ρ (.list es) O=(evEs P ρ es O).bind fun vs O=>opt ((allD vs).map fun xs=>.d (.list xs)) O:=rfl
theorem zml:evE P ρ (.boxed a) O=(evE P ρ a O).bind boxK:=rfl
theorem x_nt:evE P ρ (.nt a) O=(evE P ρ a O).bind fun v O=>opt ((truth v).map fun b=>.d (.bool !b)) O:=rfl
theorem zrn:evE P ρ (.and_ a b) O=(evE P ρ a O).bind fun v O=>(opt (truth v) O).bind (andK fun O=>evE P ρ b O):=rfl
theorem x_or:evE P ρ (.or_ a b) O=(evE P ρ a O).bind fun v O=>(opt (truth v) O).bind (orK fun O=>evE P ρ b O):=rfl
theorem u9:evE P ρ (.ite t a b) O=(evE P ρ t O).bind fun v O=>(opt (truth v) O).bind (iteK (fun O=>evE P ρ a O) fun O=>evE P ρ b O):=rfl
theorem dw{op:Bop}:evE P ρ (.bin op a b) O=(evE P ρ a O).bind fun v O=>(evE P ρ b O).bind fun u O=>binK op v u O:=rfl
theorem zds{op:Cop}:evE P ρ (.cmp op a b) O=(evE P ρ a O).bind fun v O=>(evE P ρ b O).bind fun u O=>cmpV op v u O:=rfl
theorem zmk{p q:Cop}:evE P ρ (.chain p q a b c) O=(evE P ρ a O).bind fun v O=>(evE P ρ b O).bind fun u O=>(cmpV p v u O).bind fun t O=>(opt (truth t) O).bind (andK fun O=>(evE P ρ c O).bind fun y O=>cmpV q u y O):=rfl
theorem zbv:evE P ρ (.idx a b) O=(evE P ρ a O).bind fun v O=>(evE P ρ b O).bind fun u O=>idxV v u O:=rfl
theorem zmi:evE P ρ (.slice a b c) O=(evE P ρ a O).bind fun v O=>(evE P ρ b O).bind fun l O=>(evE P ρ c O).bind fun h O=>zc0 v l h O:=rfl
theorem zmm{v:V}{l h:PyData}:zc0 v (.d l) (.d h) O=opt (((look O v).bind fun x=>zc1 x l h).map .d) O:=rfl
theorem x_call{f:Nat}:evE P ρ (.call f es) O=(evEs P ρ es O).bind fun vs O=>P.call P.hd f vs O:=rfl
theorem zfh{p:Prim}:evE P ρ (.prim p es) O=if (P.hd && !p.calm)=true then .stuck else (evEs P ρ es O).bind fun vs O=>prim P p vs O:=rfl
theorem zo4{m:Meth}:evE P ρ (.meth m a es) O=(evE P ρ a O).bind fun v O=>if recv m v O then (evEs P ρ es O).bind fun vs O=>meth m v vs O else .stuck:=rfl
theorem qf:evEs P ρ .nil O=.ok [] O:=rfl
theorem ji:evEs P ρ (.cons a es) O=(evE P ρ a O).bind fun v O=>(evEs P ρ es O).bind fun vs O=>.ok (v::vs) O:=rfl
theorem zrm:xd P ρ .nil O=.ok true O:=rfl
theorem gd:xd P ρ (.cons a es) O=(evE P ρ a O).bind fun v O=>(opt (truth v) O).bind fun t O=>(match t with
 | true=>xd P ρ es O
 | false=>.ok false O):=rfl
theorem x_e:evI P ρ (.e a) O=(evE P ρ a O).bind srcV:=rfl
theorem zmu{n:Nat}{xs:List PyData}(h:O[n]?=some (.lst xs)):srcV (.box n) O=.ok (.box n xs) O:=by unfold srcV;dsimp only;rw[h]
noncomputable def zka(v u:V)(O:za):R za Src:=(xj v u O).bind fun p O=>.ok (.plain (zw p.1 p.2)) O
theorem kr{i j:Int}(h : -(10 ^ 9)≤i∧i≤10 ^ 9∧-(10 ^ 9)≤j∧j≤10 ^ 9):zka (.d (.int i)) (.d (.int j)) O=.ok (.plain (zw i j)) O:=by
 have:xj (.d (.int i)) (.d (.int j)) O=.ok (i,j) O:=if_pos h
 unfold zka;rw[this];rfl
theorem de:evI P ρ (.range a b) O=((evE P ρ a O).bind fun v O=>(evE P ρ b O).bind fun u O=>xj v u O).bind fun p O=>.ok (.plain (zw p.1 p.2)) O:=rfl
theorem zo8{elt:CE}{tgt:CT}{it:CI}{ifs:CEs}{xs:List PyData}{O':za}(hd:P.hd=false)(hit:evI P ρ it O=.ok (.plain xs) O')(hl:xs.length≤line)(f:PyData→PyData)
 (h:∀ x∈xs,∃ ρ',zp tgt (.d x) ρ=some ρ'∧xd P ρ' ifs O'=.ok true O'∧evE P ρ' elt O'=.ok (.d (f x)) O'):evE P ρ (.comp elt tgt it ifs) O=.ok (.d (.list (xs.map f))) O':=by
 show (if P.hd=true then .stuck else _:R za V)=_
 rw[if_neg (by rw[hd];decide),hit]
 show (if xs.length≤line then _ else _)=_
 rw[if_pos hl]
 refine za9 (f:=f) xs [] fun x hx=>?_
 obtain⟨ρ',h1,h2,h3⟩:=h x hx
 unfold yz
 rw[h1]
 dsimp only
 rw[h2]
 simp only[R.bind,h3]
theorem zg4:evS P (.ret a) ρ O=((evE P ρ a O).lift ρ).bind fun v S=>.ok (.ret v) S:=rfl
theorem gf{y:CT}:evS P (.asg y a) ρ O=if (P.hd && !y.isName)=true then .stuck else ((evE P ρ a O).lift ρ).bind (asgR y):=rfl
theorem zbu{p q:CSs}:evS P (.ife t p q) ρ O=(((evE P ρ t O).bind fun v O=>opt (truth v) O).lift ρ).bind (ifeK (fun S=>evSs P p S.1 S.2) fun S=>evSs P q S.1 S.2):=rfl
noncomputable def jb(P:Pg)(y:CT)(p:CSs):PyData→Loc→za→R (Loc×za) Fl:=kf y fun ρ O=>evSs P p ρ O
theorem ww{y:CT}{it:CI}{p:CSs}:evS P (.for_ y it p) ρ O=if P.hd=true then .stuck else ((evI P ρ it O).lift ρ).bind fun src S=>y6 src (jb P y p) src.xs S.1 S.2:=rfl
theorem zo7:evS P (.expr a) ρ O=((evE P ρ a O).lift ρ).bind fun _ S=>.ok .next S:=rfl
theorem du:evSs P .nil ρ O=.ok .next (ρ,O):=rfl
theorem jq{s:CS}{ss:CSs}:evSs P (.cons s ss) ρ O=(evS P s ρ O).bind (seqK fun S=>evSs P ss S.1 S.2):=rfl
end
section
variable{P:Pg}{ρ:Loc}{O:za}
theorem zu{σ α β:Type}{a:α}{s:σ}{f:α→σ→R σ β}:(R.ok a s).bind f=f a s:=rfl
theorem ku{α:Type}{a:α}:(R.ok a O).lift ρ=.ok a (ρ,O):=rfl
theorem j9{α:Type}{a:α}:opt (some a) O=.ok a O:=rfl
theorem zcz{b:Bool}:truth (.d (.bool b))=some b:=rfl
theorem zlf{p q:Loc×za→R (Loc×za) Fl}{S:Loc×za}:ifeK p q true S=p S:=rfl
theorem zhu{p q:Loc×za→R (Loc×za) Fl}{S:Loc×za}:ifeK p q false S=q S:=rfl
theorem zfv{p:Loc×za→R (Loc×za) Fl}{v:V}{S:Loc×za}:seqK p (.ret v) S=.ok (.ret v) S:=rfl
theorem zfw{p:Loc×za→R (Loc×za) Fl}{S:Loc×za}:seqK p .next S=p S:=rfl
theorem zbf{i:Nat}{v:V}:zp (.name i) v ρ=if i < ρ.length then some (ρ.set i (some v)) else none:=rfl
theorem zdo:allD []=some []:=rfl
theorem zdp{x:PyData}{r:List V}:allD (.d x::r)=(allD r).map (x::·):=rfl
theorem zl5:Prim.calm .len=true:=rfl
theorem nm_1{i:Nat}:CT.isName (.name i)=true:=rfl
theorem zhj{p:Prim}{x y:PyData}(h:zb5 P p x=some y):prim P p [.d x] O=.ok (.d y) O:=by
 have e:∀ (o:Option PyData),o=some y→(match o with | some y=>R.ok (V.d y) O | none=>.stuck)=R.ok (V.d y) O:=fun o h=>by rw[h]
 cases p with
 | isexc _=>cases h
 | _=>exact e _ h
theorem zkg{xs:List PyData}(h:xs.length≤line):prim P .len [.d (.list xs)] O=.ok (.d (.int xs.length)) O:=zhj (if_pos h)
theorem zco{α:Type}(g:α→Bool):∀ xs:List α,wf (xs.map fun x=>.bool (g x))=some (xs.map g)
 | []=>rfl
 | x::xs=>by rw[List.map_cons,wf,zco g xs];rfl
theorem ints_map{α:Type}(g:α→Int):∀ xs:List α,Mine.intsOf (xs.map fun x=>.int (g x))=some (xs.map g)
 | []=>rfl
 | x::xs=>by rw[List.map_cons,Mine.intsOf,ints_map g xs];rfl
theorem vj:∀ xs:List Int,Mine.intsOf (xs.map .int)=some xs
 | []=>rfl
 | x::xs=>by rw[List.map_cons,Mine.intsOf,vj xs];rfl
theorem zsh{α:Type}{g:α→Bool}{xs:List α}:prim P .all [.d (.list (xs.map fun x=>.bool (g x)))] O=.ok (.d (.bool (xs.all g))) O:=by
 have e:(xs.map g).all id=xs.all g:=by rw[List.all_map];rfl
 rw[← e]
 exact zhj (show (wf (xs.map fun x=>.bool (g x))).map (fun bs=>PyData.bool (bs.all id))=_ by rw[zco];rfl)
theorem zsg{α:Type}{g:α→Int}{xs:List α}:prim P .sum [.d (.list (xs.map fun x=>.int (g x)))] O=.ok (.d (.int (xs.map g).sum)) O:=
 zhj (show (Mine.intsOf (xs.map fun x=>.int (g x))).map (fun is=>PyData.int is.sum)=_ by rw[ints_map];rfl)
theorem zpy{xs:List PyData}(h:xs.length≤line):prim P .tuple [.d (.list xs)] O=.ok (.d (.tuple xs)) O:=zhj (if_pos h)
theorem v_eq{x y:PyData}:cmpV .eq (.d x) (.d y) O=opt ((jy .eq x y).map fun b=>.d (.bool b)) O:=rfl
theorem v_ne{x y:PyData}:cmpV .ne (.d x) (.d y) O=opt ((jy .ne x y).map fun b=>.d (.bool b)) O:=rfl
theorem v_lt{x y:Int}:cmpV .lt (.d (.int x)) (.d (.int y)) O=.ok (.d (.bool (decide (x < y)))) O:=rfl
theorem v_le{x y:Int}:cmpV .le (.d (.int x)) (.d (.int y)) O=.ok (.d (.bool (decide (x≤y)))) O:=rfl
theorem v_gt{x y:Int}:cmpV .gt (.d (.int x)) (.d (.int y)) O=.ok (.d (.bool (decide (x > y)))) O:=rfl
theorem x4{x k:PyData}:idxV (.d x) (.d k) O=opt ((idxD x k).map .d) O:=rfl
theorem wc{a b:Int}:binK .add (.d (.int a)) (.d (.int b)) O=.ok (.d (.int (a+b))) O:=rfl
theorem zcc{a b:Int}:binK .sub (.d (.int a)) (.d (.int b)) O=.ok (.d (.int (a - b))) O:=rfl
theorem zkx{op:Bop}{x y:PyData}:binK op (.d x) (.d y) O=opt ((zcq op x y).map V.d) O:=rfl
theorem zhq{a b:Int}(h:a.natAbs < 2 ^ 64∨b.natAbs < 2 ^ 64):binK .mul (.d (.int a)) (.d (.int b)) O=.ok (.d (.int (a * b))) O:=by rw[zkx];show opt (Option.map V.d (if _ then _ else _)) O=_;rw[if_pos h];rfl
theorem zdc{a b:Int}(h:b≠0∧b.natAbs < 1073741824):binK .fdiv (.d (.int a)) (.d (.int b)) O=.ok (.d (.int (Int.fdiv a b))) O:=by rw[zkx];show opt (Option.map V.d (if _ then _ else _)) O=_;rw[if_pos h];rfl
theorem zkw{a b:Int}(h:b≠0):binK .mod (.d (.int a)) (.d (.int b)) O=.ok (.d (.int (Int.fmod a b))) O:=by rw[zkx];show opt (Option.map V.d (if _ then _ else _)) O=_;rw[if_neg h];rfl
theorem zer{a b:Int}:eqOk (.int a) (.int b)=true:=by unfold eqOk;rfl
theorem zhv{a b:Int}:PyData.eqv (.int a) (.int b)=decide (a=b):=by first | rfl | simp[PyData.eqv]
theorem eq_int{a b:Int}:cmpV .eq (.d (.int a)) (.d (.int b)) O=.ok (.d (.bool (decide (a=b)))) O:=by rw[v_eq,jy,zer,zhv];rfl
theorem ne_int{a b:Int}:cmpV .ne (.d (.int a)) (.d (.int b)) O=.ok (.d (.bool (!decide (a=b)))) O:=by rw[v_ne,jy,zer,zhv];rfl
end
section
variable{P:Pg}{ρ ρ':Loc}{O O' O'':za}{a b c e t:CE}{es:CEs}{v u:V}
theorem j8(h:evE P ρ e O=.ok v O'):evS P (.expr e) ρ O=.ok .next (ρ,O'):=by rw[zo7,h];rfl
theorem zr{i:Nat}(h:evE P ρ e O=.ok v O')(hi:Nat.blt i ρ.length=true)(hr:ρ.set i (some v)=ρ'):evS P (.asg (.name i) e) ρ O=.ok .next (ρ',O'):=by
 subst hr
 rw[gf,h]
 have:(P.hd && !(CT.name i).isName)=false:=by cases P.hd <;> rfl
 rw[this,if_neg Bool.false_ne_true]
 show (match (if i < ρ.length then some (ρ.set i (some v)) else none) with | some ρ'=>R.ok Fl.next (ρ',O') | none=>.stuck)=_
 rw[if_pos (show i < ρ.length from Nat.le_of_ble_eq_true hi)]
theorem zm{p:CSs}(h:evE P ρ t O=.ok (.d (.bool false)) O'):evS P (.ife t p .nil) ρ O=.ok .next (ρ,O'):=by rw[zbu,h];rfl
theorem w_if{p q:CSs}{bb:Bool}(h:evE P ρ t O=.ok (.d (.bool bb)) O'):evS P (.ife t p q) ρ O=if bb then evSs P p ρ O' else evSs P q ρ O':=by rw[zbu,h];cases bb <;> rfl
theorem yr(h:evE P ρ e O=.ok v O'):evS P (.ret e) ρ O=.ok (.ret v) (ρ,O'):=by rw[zg4,h];rfl
theorem zc{st:CS}{ss:CSs}(h:evS P st ρ O=.ok .next (ρ',O')):evSs P (.cons st ss) ρ O=evSs P ss ρ' O':=by rw[jq,h];rfl
theorem zg{st:CS}{ss:CSs}{S:Loc×za}(h:evS P st ρ O=.ok (.ret v) S):evSs P (.cons st ss) ρ O=.ok (.ret v) S:=by rw[jq,h];rfl
theorem zi{f:Nat}{vs:List V}{r:R za V}(he:evEs P ρ es O=.ok vs O')(hc:P.call P.hd f vs O'=r):evE P ρ (.call f es) O=r:=by rw[x_call,he];exact hc
theorem zf{vs:List V}(h:evE P ρ a O=.ok v O')(h':evEs P ρ es O'=.ok vs O''):evEs P ρ (.cons a es) O=.ok (v::vs) O'':=by rw[ji,h,zu,h',zu]
theorem w_nt{bb:Bool}(h:evE P ρ a O=.ok (.d (.bool bb)) O'):evE P ρ (.nt a) O=.ok (.d (.bool !bb)) O':=by rw[x_nt,h];rfl
theorem w_or{bb:Bool}(h:evE P ρ a O=.ok (.d (.bool bb)) O'):evE P ρ (.or_ a b) O=if bb then .ok (.d (.bool true)) O' else evE P ρ b O':=by rw[x_or,h];cases bb <;> rfl
theorem w_and{bb:Bool}(h:evE P ρ a O=.ok (.d (.bool bb)) O'):evE P ρ (.and_ a b) O=if bb then evE P ρ b O' else .ok (.d (.bool false)) O':=by rw[zrn,h];cases bb <;> rfl
theorem yu{r:R za V}(h:evE P ρ a O=.ok (.d (.bool false)) O')(h':evE P ρ b O'=r):evE P ρ (.or_ a b) O=r:=(w_or h).trans h'
theorem zjs(h:evE P ρ a O=.ok (.d (.bool true)) O'):evE P ρ (.or_ a b) O=.ok (.d (.bool true)) O':=w_or h
theorem yh{r:R za V}(h:evE P ρ a O=.ok (.d (.bool true)) O')(h':evE P ρ b O'=r):evE P ρ (.and_ a b) O=r:=(w_and h).trans h'
theorem xt(h:evE P ρ a O=.ok (.d (.bool false)) O'):evE P ρ (.and_ a b) O=.ok (.d (.bool false)) O':=w_and h
theorem yt{p:Prim}{r:R za V}(hp:(P.hd && !p.calm)=false)(h:evE P ρ a O=.ok v O')(hr:prim P p [v] O'=r):evE P ρ (.prim p (.cons a .nil)) O=r:=by rw[zfh,hp,if_neg Bool.false_ne_true,ji,h,zu,qf,zu,zu];exact hr
theorem zh{op:Cop}{r:R za V}(h1:evE P ρ a O=.ok v O')(h2:evE P ρ b O'=.ok u O'')(h3:cmpV op v u O''=r):evE P ρ (.cmp op a b) O=r:=by rw[zds,h1,zu,h2,zu];exact h3
theorem zs{op:Bop}{r:R za V}(h1:evE P ρ a O=.ok v O')(h2:evE P ρ b O'=.ok u O'')(h3:binK op v u O''=r):evE P ρ (.bin op a b) O=r:=by rw[dw,h1,zu,h2,zu];exact h3
theorem xn{r:R za V}(h1:evE P ρ a O=.ok v O')(h2:evE P ρ b O'=.ok u O'')(h3:idxV v u O''=r):evE P ρ (.idx a b) O=r:=by rw[zbv,h1,zu,h2,zu];exact h3
theorem qg{m:Meth}{vs:List V}{r:R za V}(h1:evE P ρ a O=.ok v O')(hr:recv m v O'=true)(h2:evEs P ρ es O'=.ok vs O'')(h3:meth m v vs O''=r):evE P ρ (.meth m a es) O=r:=by rw[zo4,h1,zu,if_pos hr,h2];exact h3
theorem wn{p:Prim}{x y:PyData}(hv:look O v=some x)(hp:zb5 P p x=some y):prim P p [v] O=.ok (.d y) O:=by
 have e:([v].mapM (look O)).bind (wb P p)=some y:=by rw[List.mapM_cons,hv,List.mapM_nil];exact hp
 have e2:∀ (o:Option PyData),o=some y→(match o with | some y=>R.ok (V.d y) O | none=>.stuck)=R.ok (V.d y) O:=fun o h=>by rw[h]
 cases p with
 | isexc _=>cases hp
 | _=>exact e2 _ e
theorem zgv{op:Cop}{x y:PyData}{bb:Bool}(hop:op=.eq∨op=.ne)(hv:look O v=some x)(hu:look O u=some y)(h:jy op x y=some bb):cmpV op v u O=.ok (.d (.bool bb)) O:=by
 have:cmpG op v u O=.ok (.d (.bool bb)) O:=by unfold cmpG;rw[hv,hu];show opt ((jy op x y).map _) O=_;rw[h];rfl
 rcases hop with rfl | rfl <;> exact this
inductive Seen(O:za):V→List PyData→Prop
 | d (xs:List PyData):Seen O (.d (.list xs)) xs
 | box (n:Nat) (xs:List PyData) (h:O[n]?=some (.lst xs)):Seen O (.box n) xs
theorem Seen.look{xs:List PyData}(h:Seen O v xs):look O v=some (.list xs):=by
 cases h with
 | d xs=>rfl
 | box n xs h=>show qb O n=_;unfold qb;rw[h]
theorem Seen.src{xs:List PyData}(h:Seen O v xs):∃ src:Src,srcV v O=.ok src O∧src.xs=xs∧src.still O=true:=by
 cases h with
 | d xs=>exact⟨_,rfl,rfl,rfl⟩
 | box n xs h=>exact⟨_,zmu h,rfl,by unfold Src.still;exact @decide_eq_true _ (Classical.propDecidable _) h⟩
theorem Seen.more{xs:List PyData}{bx:Box}(h:Seen O v xs):Seen (O++[bx]) v xs:=by
 cases h with
 | d xs=>exact .d xs
 | box n xs h=>exact .box n xs (by rw[List.getElem?_append_left (vf h)];exact h)
theorem zee{xs:List PyData}(h:Seen O v xs):prim P (.isinst .list) [v] O=.ok (.d (.bool true)) O:=wn h.look rfl
theorem x7{xs:List PyData}(h:Seen O v xs)(hl:xs.length≤line):prim P .len [v] O=.ok (.d (.int xs.length)) O:=wn h.look (if_pos hl)
theorem zcm{src:Src}{turn:PyData→za→R za (Option PyData)}{f:PyData→Option PyData}(hs:src.still O=true):∀ (xs acc:List PyData),(∀ x∈xs,turn x O=.ok (f x) O)→z7 src turn xs acc O=.ok (.d (.list (acc++xs.filterMap f))) O
 | [],acc,_=>by rw[z7,List.filterMap_nil,List.append_nil]
 | x::xs,acc,h=>by
   rw[z7,h x List.mem_cons_self]
   show (if src.still O=true then _ else _)=_
   rw[if_pos hs,zcm hs xs _ fun y hy=>h y (List.mem_cons_of_mem _ hy),List.append_assoc]
   cases hx:f x with
   | none=>rw[List.filterMap_cons_none hx];rfl
   | some y=>rw[List.filterMap_cons_some hx];rfl
theorem km{elt:CE}{tgt:CT}{it:CI}{ifs:CEs}{src:Src}(hd:P.hd=false)(hit:evI P ρ it O=.ok src O)(hs:src.still O=true)(hl:src.xs.length≤line)(f:PyData→Option PyData)
 (h:∀ x∈src.xs,yz tgt (fun ρ O=>xd P ρ ifs O) (fun ρ O=>evE P ρ elt O) ρ x O=.ok (f x) O):evE P ρ (.comp elt tgt it ifs) O=.ok (.d (.list (src.xs.filterMap f))) O:=by
 show (if P.hd=true then .stuck else _:R za V)=_
 rw[if_neg (by rw[hd];decide),hit]
 show (if src.xs.length≤line then _ else _)=_
 rw[if_pos hl]
 exact zcm hs src.xs [] h
theorem va{elt:CE}{tgt:CT}{it:CI}{src:Src}(hd:P.hd=false)(hit:evI P ρ it O=.ok src O)(hs:src.still O=true)(hl:src.xs.length≤line)(f:PyData→PyData)
 (h:∀ x∈src.xs,∃ ρ',zp tgt (.d x) ρ=some ρ'∧evE P ρ' elt O=.ok (.d (f x)) O):evE P ρ (.comp elt tgt it .nil) O=.ok (.d (.list (src.xs.map f))) O:=by
 rw[← List.filterMap_eq_map]
 refine km hd hit hs hl _ fun x hx=>?_
 obtain⟨ρ',h1,h2⟩:=h x hx
 unfold yz
 rw[h1]
 show R.bind (evE P ρ' elt O) _=_
 rw[h2];rfl
theorem zg5{elt:CE}{tgt:CT}{it:CI}{src:Src}{xs:List PyData}(g:PyData→Bool)(hd:P.hd=false)(hit:evI P ρ it O=.ok src O)(hx:src.xs=xs)(hs:src.still O=true)(hl:xs.length≤line)
 (h:∀ x∈xs,∃ ρ',zp tgt (.d x) ρ=some ρ'∧evE P ρ' elt O=.ok (.d (.bool (g x))) O):evE P ρ (.prim .all (.cons (.comp elt tgt it .nil) .nil)) O=.ok (.d (.bool (xs.all g))) O:=by
 subst hx
 refine yt (by rw[hd];rfl) (va hd hit hs hl (fun x=>.bool (g x)) h) ?_
 exact zsh
end
end Mine
end
section
namespace Mine.L04
open PySem Mine
section
variable{P:Pg}{ρ:Loc}{O:za}{a b c:CE}
theorem zo3:evE P ρ (.min2 a b) O=if P.hd=true then .stuck else (evE P ρ a O).bind fun v O=>(evE P ρ b O).bind fun u O=>minV v u O:=rfl
theorem zo5:evE P ρ (.lenS a) O=if P.hd=true then .stuck else (evE P ρ a O).bind fun v O=>opt (((look O v).bind zan).map .d) O:=rfl
end
noncomputable abbrev PG(k:Nat)(hd:Bool):Pg:={ P with call:=ze P table k,hd:=hd }
theorem q7{k:Nat}{hd:Bool}{f:Nat}{fn:Fn}{args:List V}{O:za}(h:table f=some fn)(hl:args.length=fn.arity∧fn.arity≤fn.slots):ze P table (k+1) hd f args O=evFn (PG k hd) fn args O:=by
 rw[ze,h];exact if_pos hl
section
variable{k:Nat}{hd:Bool}{f:Nat}{fn:Fn}{args:List V}{O:za}{ρ ρ':Loc}{x:PyData}(h:table f=some fn)(hl:args.length=fn.arity∧fn.arity≤fn.slots)(hρ:args.map some++List.replicate (fn.slots - fn.arity) none=ρ)
include h hl hρ
theorem ub{O':za}(hb:evSs (PG k hd) fn.body ρ O=.ok (.ret (.d x)) (ρ',O++O')):ze P table (k+1) hd f args O=.ok (.d x) O:=by
 rw[q7 h hl,evFn,hρ,hb]
 show R.ok (V.d x) ((O++O').take O.length)=_
 rw[List.take_left']
 rfl
theorem zo(hb:evSs (PG k hd) fn.body ρ O=.ok (.ret (.d x)) (ρ',O)):ze P table (k+1) hd f args O=.ok (.d x) O:=
 ub (O':=[]) h hl hρ (by rw[List.append_nil];exact hb)
theorem zji(hb:evSs (PG k hd) fn.body ρ O=.ok .next (ρ',O)):ze P table (k+1) hd f args O=.ok (.d .none) O:=by
 rw[q7 h hl,evFn,hρ,hb]
 show R.ok (V.d .none) (O.take O.length)=_
 rw[List.take_length]
theorem zgu{xs:List PyData}(hk:fn.keep=true)(hb:evSs (PG k hd) fn.body ρ O=.ok (.ret (.box O.length)) (ρ',O++[.lst xs])):ze P table (k+1) hd f args O=.ok (.box O.length) (O++[.lst xs]):=by
 rw[q7 h hl,evFn,hρ,hb]
 show wt O.length fn.keep O.length (O++[.lst xs])=_
 unfold wt
 rw[if_neg (Nat.lt_irrefl _),hk,List.getElem?_append_right (Nat.le_refl _),Nat.sub_self]
 show R.ok (V.box O.length) ((O++[Box.lst xs]).take O.length++[.lst xs])=_
 rw[List.take_left']
 rfl
end
noncomputable def good(m:Nat)(c:List Int):Prop:=c.length=m∧∀ i∈c,-1≤i∧i≤1
noncomputable def m4(m:Nat):Prop:=2≤m∧m≤5
theorem gu{m:Nat}(h:m4 m):m=2∨m=3∨m=4∨m=5:=by have:=h.1;have:=h.2;omega
structure Found(m:Nat)(cs:List (List Int)):Prop where
 good:∀ c∈cs,good m c
 nodup:cs.Nodup
 pos:1≤cs.length
 le:cs.length≤12
noncomputable def caseD(c:List Int):PyData:=.tuple (c.map .int)
noncomputable def zb(cs:List (List Int)):List PyData:=cs.map caseD
theorem zx{cs:List (List Int)}:(zb cs).length=cs.length:=List.length_map _
theorem zax:∀ (kss K:List (List Int)),(K++kss).Nodup→kss.foldl addK K=K++kss
 | [],K,_=>(List.append_nil K).symm
 | k::kss,K,h=>by
   have hk:k∉K:=fun hm=>(List.nodup_append.mp h).2.2 k hm k List.mem_cons_self rfl
   rw[List.foldl_cons]
   have:addK K k=K++[k]:=by unfold addK;rw[if_neg hk]
   rw[this,zax kss (K++[k]) (by rw[List.append_assoc];exact h),List.append_assoc];rfl
theorem dy:∀ cs:List (List Int),wz (zb cs)=some cs
 | []=>rfl
 | c::cs=>by
   show ((intsOf (c.map .int)).bind fun a=>(wz (zb cs)).map (a::·))=_
   rw[vj,dy cs];rfl
theorem zf8{cs:List (List Int)}(h:cs.length≤17)(hn:cs.Nodup):zan (.list (zb cs))=some (.int cs.length):=by
 show ((wz (zb cs)).bind fun kss=>if kss.length≤17 then some (PyData.int (ym kss kss.length).length) else none)=_
 rw[dy]
 show (if cs.length≤17 then _ else _)=_
 rw[if_pos h,show ym cs cs.length=cs by unfold ym;rw[List.take_length];exact zax cs [] hn]
noncomputable def allC:Nat→List (List Int)
 | 0=>[[]]
 | n+1=>(allC n).flatMap fun c=>[-1::c,0::c,1::c]
theorem zal:∀ {m:Nat} {c:List Int},good m c→c∈allC m
 | 0,c,h=>by
   have:=List.length_eq_zero_iff.mp h.1
   subst this;exact List.mem_singleton.mpr rfl
 | m+1,c,h=>by
   cases c with
   | nil=>cases h.1
   | cons i c=>
     refine List.mem_flatMap.mpr ⟨c,zal ⟨Nat.succ.inj h.1,fun j hj=>h.2 j (List.mem_cons_of_mem _ hj)⟩,?_⟩
     have hi:=h.2 i List.mem_cons_self
     have:i = -1∨i=0∨i=1:=by omega
     rcases this with rfl | rfl | rfl <;> simp
theorem yx{α β:Type}{f g:α→β}{l:List α}(h:l.map f=l.map g){x:α}(hx:x∈l):f x=g x:=List.map_inj_left.mp h x hx
noncomputable def Tk:Nat→za→za
 | 0,O=>O
 | n+1,O=>Tk n (O.take O.length)
theorem zo1:∀ (n:Nat) (O:za),Tk n O=O
 | 0,_=>rfl
 | n+1,O=>by rw[Tk,List.take_length];exact zo1 n O
noncomputable abbrev ze3(m k:Nat)(O:za):Prop:=(allC m).map (fun c=>ze P table (k+2) false 2 [.d (.int m),.d (caseD c)] O)=(allC m).map fun _=>.ok (.d (.bool true)) ((Tk m O).take O.length)
theorem zti{k:Nat}{O:za}:ze3 2 k O:=by kernel_rfl
theorem zth{k:Nat}{O:za}:ze3 3 k O:=by kernel_rfl
theorem ztg{k:Nat}{O:za}:ze3 4 k O:=by kernel_rfl
theorem ztf{k:Nat}{O:za}:ze3 5 k O:=by kernel_rfl
theorem za6{k m:Nat}{c:List Int}{O:za}(hm:m4 m)(h:good m c):ze P table (k+2) false 2 [.d (.int m),.d (caseD c)] O=.ok (.d (.bool true)) O:=by
 have hc:=zal h
 have hq:ze3 m k O:=by
  rcases gu hm with rfl | rfl | rfl | rfl
  ·exact zti
  ·exact zth
  ·exact ztg
  ·exact ztf
 refine (yx hq hc).trans ?_
 rw[zo1,List.take_length]
theorem znz{k m:Nat}{O:za}(hm:m4 m):ze P table (k+2) false 1 [.d (.int m)] O=.ok (.d .none) O:=by
 have:ze P table (k+2) false 1 [.d (.int m)] O=.ok (.d .none) ((O.take O.length).take O.length):=by rcases gu hm with rfl | rfl | rfl | rfl <;> kernel_rfl
 rw[this,List.take_length,List.take_length]
theorem zq1{k m:Nat}{cs:List (List Int)}{v:V}{O:za}(hm:m4 m)(f:Found m cs)(h:Seen O v (zb cs)):ze P table (k+3) false 3 [.d (.int m),v] O=.ok (.d .none) O:=by
 have f1:=f.pos
 have f2:=f.le
 have hl:(zb cs).length≤line:=by rw[zx];exact Nat.le_trans f.le (by decide)
 obtain⟨src,s1,s2,s3⟩:=h.src
 have pl:prim (PG (k+2) false) .len [v] O=.ok (.d (.int cs.length)) O:=by rw[x7 h hl,zx]
 have le:evE (PG (k+2) false) [some (.d (.int m)),some v,none] (.prim .len (.cons (.loc 1) .nil)) O=.ok (.d (.int cs.length)) O:=yt rfl rfl pl
 have d1:decide ((1:Int)≤(cs.length:Int))=true:=decide_eq_true (by omega)
 have d2:decide ((cs.length:Int)≤12)=true:=decide_eq_true (by omega)
 have d3:decide ((cs.length:Int) < (cs.length:Int))=false:=decide_eq_false (by omega)
 have t1:evE (PG (k+2) false) [some (.d (.int m)),some v,none] (.chain .le .le (.int 1) (.prim .len (.cons (.loc 1) .nil)) (.glob 2)) O=.ok (.d (.bool true)) O:=by
  rw[zmk,jr,zu,le,zu,v_le,d1]
  show cmpV .le (.d (.int cs.length)) (.d (.int 12)) O=_
  rw[v_le,d2]
 have t2:evE (PG (k+2) false) [some (.d (.int m)),some v,none] (.prim .all (.cons (.comp (.call 2 (.cons (.loc 0) (.cons (.loc 2) .nil))) (.name 2) (.e (.loc 1)) .nil) .nil)) O=.ok (.d (.bool true)) O:=by
  have:=zg5 (P:=PG (k+2) false) (ρ:=[some (.d (.int m)),some v,none]) (elt:=.call 2 (.cons (.loc 0) (.cons (.loc 2) .nil))) (tgt:=.name 2) (it:=.e (.loc 1)) (O:=O) (fun _=>true) rfl s1 s2 s3 hl fun x hx=>⟨[some (.d (.int m)),some v,some (.d x)],rfl,by
   obtain⟨c,hc,rfl⟩:=List.mem_map.mp hx
   exact zi rfl (za6 hm (f.good c hc))⟩
  rw[this]
  congr 4
  exact List.all_eq_true.mpr fun _ _=>rfl
 have t3:evE (PG (k+2) false) [some (.d (.int m)),some v,none] (.lenS (.loc 1)) O=.ok (.d (.int cs.length)) O:=by
  rw[zo5,if_neg Bool.false_ne_true]
  show opt (((look O v).bind zan).map V.d) O=_
  rw[h.look]
  show opt ((zan (.list (zb cs))).map V.d) O=_
  rw[zf8 (by omega) f.nodup];rfl
 refine zji (fn:=c3) (ρ':=[some (.d (.int m)),some v,none]) rfl ⟨rfl,by decide⟩ rfl ?_
 refine (zc (j8 (zi rfl (znz hm)))).trans ?_
 refine (zc (zm (yu (w_nt (yt rfl rfl (zee h))) (w_nt t1)))).trans ?_
 refine (zc (zm (w_nt t2))).trans ?_
 refine (zc (zm (zh t3 le ?_))).trans rfl
 rw[v_lt,d3]
theorem zej{is:List Int}{j:Nat}(hl:is.length≤line)(hj:j < is.length):idxD (.list (is.map .int)) (.int j)=some (.int (is.getD j 0)):=by
 have e:(is.map PyData.int)[j]?=some (.int (is.getD j 0)):=by
  rw[List.getElem?_map,List.getD_eq_getElem?_getD,List.getElem?_eq_getElem hj];rfl
 unfold idxD items
 dsimp only
 rw[List.length_map,if_pos hl,if_pos (by omega)]
 exact e
theorem zel{a:Int}{n:Nat}(hn:0 < n):∃ j:Nat,j < n∧Int.fmod a (n:Int)=(j:Int):=by
 have h1:Int.fmod a (n:Int)=a % (n:Int):=Int.fmod_eq_emod_of_nonneg _ (by omega)
 have h2:=Int.emod_nonneg a (show (n:Int)≠0 by omega)
 have h3:=Int.emod_lt_of_pos a (show (0:Int) < n by omega)
 exact⟨(a % (n:Int)).toNat,by omega,by rw[h1];omega⟩
theorem dk{xs:List PyData}{j n:Nat}(hx:xs.length=n)(hl:n≤line)(hj:j < n):∃ y∈xs,idxD (.list xs) (.int j)=some y:=by
 have hj':j < xs.length:=by omega
 refine⟨xs[j],List.getElem_mem hj',?_⟩
 unfold idxD items
 dsimp only
 rw[hx,if_pos hl,if_pos (by omega)]
 exact List.getElem?_eq_getElem hj'
theorem zf5{a:Int}{n:Nat}{O:za}(hn:0 < n):∃ j:Nat,j < n∧Int.fmod a (n:Int)=(j:Int)∧binK .mod (.d (.int a)) (.d (.int (n:Int))) O=.ok (.d (.int (j:Int))) O:=by
 obtain⟨j,hj,e⟩:=zel (a:=a) hn
 exact⟨j,hj,e,by rw[zkw (by omega),e]⟩
theorem zls{k:Nat}{s:List Int}{j:Nat}{O:za}(hs:s.length≤63):ze P table (k+1) false 12 [.d (.list (s.map .int)),.d (.int j)] O=.ok (.d (.int (s.getD j 0))) O:=by
 refine zo (fn:=c12) (ρ:=[some (.d (.list (s.map .int))),some (.d (.int j))]) (ρ':=[some (.d (.list (s.map .int))),some (.d (.int j))]) rfl ⟨rfl,by decide⟩ rfl ?_
 have hlen:(s.map PyData.int).length≤line:=by rw[List.length_map];exact Nat.le_trans hs (by decide)
 by_cases h:j < s.length
 ·have hd:decide ((j:Int) < ((s.map PyData.int).length:Int))=true:=decide_eq_true (by rw[List.length_map];omega)
  simp only[c12,jr,xq,zds,zbv,zfh,qf,ji,zg4,zbu,du,jq,zu,ku,j9,zcz,zlf,zfv,v_lt,x4,Option.map_some,Option.join_some,List.getElem?_cons_zero,List.getElem?_cons_succ,Bool.not_true,Bool.and_false,Bool.false_eq_true,if_false,zl5,zkg hlen,hd,zej (Nat.le_trans hs (by decide)) h]
 ·have hd:decide ((j:Int) < ((s.map PyData.int).length:Int))=false:=decide_eq_false (by rw[List.length_map];omega)
  have e:s.getD j 0=0:=by rw[List.getD_eq_getElem?_getD,List.getElem?_eq_none (by omega)];rfl
  simp only[c12,jr,xq,zds,zbv,zfh,qf,ji,zg4,zbu,du,jq,zu,ku,j9,zcz,zhu,zfv,zfw,v_lt,Option.join_some,List.getElem?_cons_zero,List.getElem?_cons_succ,Bool.not_true,Bool.and_false,Bool.false_eq_true,if_false,zl5,zkg hlen,hd,e]
noncomputable def mixI(s:List Int)(j:Nat):Int:=Int.fdiv (Int.fmod ((s.getD j 0+7919 * (j:Int)+13) * 48271) 2147483647) 3
theorem dn{k:Nat}{s:List Int}{j:Nat}{O:za}(hs:s.length≤63):ze P table (k+2) false 13 [.d (.list (s.map .int)),.d (.int j)] O=.ok (.d (.int (mixI s j))) O:=by
 refine zo (fn:=c13) (ρ:=[some (.d (.list (s.map .int))),some (.d (.int j))]) (ρ':=[some (.d (.list (s.map .int))),some (.d (.int j))]) rfl ⟨rfl,by decide⟩ rfl ?_
 have e1:∀ n:Int,binK .mul (.d (.int 7919)) (.d (.int n)) O=.ok (.d (.int (7919 * n))) O:=fun n=>zhq (.inl (by decide))
 have e2:∀ n:Int,binK .mul (.d (.int n)) (.d (.int 48271)) O=.ok (.d (.int (n * 48271))) O:=fun n=>zhq (.inr (by decide))
 have e3:∀ n:Int,binK .mod (.d (.int n)) (.d (.int 2147483647)) O=.ok (.d (.int (Int.fmod n 2147483647))) O:=fun n=>zkw (by decide)
 have e4:∀ n:Int,binK .fdiv (.d (.int n)) (.d (.int 3)) O=.ok (.d (.int (Int.fdiv n 3))) O:=fun n=>zdc ⟨by decide,by decide⟩
 simp only[c13,jr,xq,dw,x_call,qf,ji,zg4,du,jq,zu,ku,j9,zfv,wc,Option.join_some,List.getElem?_cons_zero,List.getElem?_cons_succ,zls hs,e1,e2,e3,e4,mixI]
noncomputable def w7(m j:Nat):List (List Int):=match ze P table 1 false 17 [.d (.int m),.d (.int j)] [] with
 | .ok (.d (.list xs)) _=>(wz xs).getD []
 | _=>[]
noncomputable def mjs:List (Nat×Nat):=[2,3,4,5].flatMap fun m=>[0,1,2,3,4].map fun j=>(m,j)
theorem zhm{m j:Nat}(hm:m4 m)(hj:j < 5):(m,j)∈mjs:=by
 have h2:j=0∨j=1∨j=2∨j=3∨j=4:=by omega
 exact List.mem_flatMap.mpr ⟨m,by rcases gu hm with rfl | rfl | rfl | rfl <;> simp,List.mem_map.mpr ⟨j,by rcases h2 with rfl | rfl | rfl | rfl | rfl <;> simp,rfl⟩⟩
noncomputable def zk9(m:Nat)(c:List Int):Bool:=c.length == m && c.all fun i=>decide (-1≤i) && decide (i≤1)
theorem zgk{m:Nat}{c:List Int}(h:zk9 m c=true):good m c:=by
 unfold zk9 at h
 rw[Bool.and_eq_true,beq_iff_eq] at h
 refine⟨h.1,fun i hi=>?_⟩
 have:=List.all_eq_true.mp h.2 i hi
 rw[Bool.and_eq_true,decide_eq_true_eq,decide_eq_true_eq] at this
 exact this
theorem zkc:(mjs.all fun p=>(w7 p.1 p.2).all (zk9 p.1) && decide (1≤(w7 p.1 p.2).length) && decide ((w7 p.1 p.2).length≤30))=true:=by kernel_rfl
theorem zim{m j:Nat}(hm:m4 m)(hj:j < 5):(∀ c∈w7 m j,good m c)∧1≤(w7 m j).length∧(w7 m j).length≤30:=by
 have h:=List.all_eq_true.mp zkc _ (zhm hm hj)
 rw[Bool.and_eq_true,Bool.and_eq_true,decide_eq_true_eq,decide_eq_true_eq] at h
 exact⟨fun c hc=>zgk (List.all_eq_true.mp h.1.1 c hc),h.1.2,h.2⟩
theorem zm0{k:Nat}{xs:List PyData}:mjs.map (fun p=>ze P table (k+1) false 17 [.d (.int p.1),.d (.int p.2)] [Box.lst xs])=mjs.map fun p=>.ok (.d (.list (zb (w7 p.1 p.2)))) [Box.lst xs]:=by kernel_rfl
theorem zqz{k m j:Nat}{xs:List PyData}(hm:m4 m)(hj:j < 5):ze P table (k+1) false 17 [.d (.int m),.d (.int j)] [Box.lst xs]=.ok (.d (.list (zb (w7 m j)))) [Box.lst xs]:=yx zm0 (zhm hm hj)
theorem pj{ys:List PyData}{turn:PyData→Loc→za→R (Loc×za) Fl}(I:Nat→Loc→za→Prop):∀ (xs:List PyData) (i:Nat) (ρ:Loc) (O:za),(∀ j x,xs[j]?=some x→∀ ρ O,I (i+j) ρ O→∃ ρ' O',turn x ρ O=.ok .next (ρ',O')∧I (i+j+1) ρ' O')→I i ρ O →
 ∃ ρ' O',y6 (.plain ys) turn xs ρ O=.ok .next (ρ',O')∧I (i+xs.length) ρ' O'
 | [],i,ρ,O,_,hi=>⟨ρ,O,rfl,hi⟩
 | x::xs,i,ρ,O,h,hi=>by
   obtain⟨ρ',O',e,hi'⟩:=h 0 x rfl ρ O hi
   obtain⟨ρ₂,O₂,e₂,hi₂⟩:=pj I xs (i+1) ρ' O' (fun j y hy ρ O hI=>by
    have:=h (j+1) y hy ρ O (by rw[show i+(j+1)=i+1+j by omega];exact hI)
    rwa [show i+(j+1)+1=i+1+j+1 by omega] at this) hi'
   refine⟨ρ₂,O₂,?_,by rw[List.length_cons,show i+(xs.length+1)=i+1+xs.length by omega];exact hi₂⟩
   rw[y6,e]
   show (if (Src.plain ys).still _=true then _ else _)=_
   rw[if_pos (show (Src.plain ys).still _=true from rfl)];exact e₂
theorem zaf{a n:Int}{j:Nat}{x:PyData}(h:(zw a n)[j]?=some x):x=.int (a+j):=by
 unfold zw at h
 rw[List.getElem?_map] at h
 obtain⟨i,hi,rfl⟩:=Option.map_eq_some_iff.mp h
 have:=List.getElem?_eq_some_iff.mp hi
 obtain⟨h1,h2⟩:=this
 rw[List.getElem_range] at h2
 rw[h2]
theorem jg{a n:Int}:(zw a n).length=(n - a).toNat:=by unfold zw;rw[List.length_map,List.length_range]
noncomputable def toI:PyData→Int
 | .int n=>n
 | _=>0
noncomputable def pow3:List Int:=[1,3,9,27,81]
noncomputable def g6(n:Int)(m:Nat):List Int:=(List.range m).map fun i=>Int.fmod (Int.fdiv n (pow3.getD i 0)) 3 - 1
theorem zbd{n:Int}{m:Nat}:good m (g6 n m):=by
 refine⟨by unfold g6;rw[List.length_map,List.length_range],fun i hi=>?_⟩
 unfold g6 at hi
 obtain⟨j,_,rfl⟩:=List.mem_map.mp hi
 obtain⟨t,ht,e⟩:=zel (a:=Int.fdiv n (pow3.getD j 0)) (n:=3) (by decide)
 have e:Int.fmod (Int.fdiv n (pow3.getD j 0)) 3=(t:Int):=e
 rw[e]
 omega
theorem zjg{k:Nat}{ρ:Loc}{O:za}{n:Int}{m:Nat}{a b c:Nat}(hm:m4 m)(hc:c < ρ.length)(hac:a≠c)(ha:ρ[a]?=some (some (.d (.int n))))(hb:ρ[b]?=some (some (.d (.int m)))) :
 evE (PG k false) ρ (.comp (.bin .sub (.bin .mod (.bin .fdiv (.loc a) (.idx (.list (.cons (.int 1) (.cons (.int 3) (.cons (.int 9) (.cons (.int 27) (.cons (.int 81) .nil)))))) (.loc c))) (.int 3)) (.int 1)) (.name c) (.range (.int 0) (.loc b)) .nil) O=.ok (.d (.list ((g6 n m).map .int))) O:=by
 have key:(g6 n m).map PyData.int=(zw 0 m).map fun x=>.int (Int.fmod (Int.fdiv n (pow3.getD (toI x).toNat 0)) 3 - 1):=by
  unfold g6 zw
  rw[List.map_map,List.map_map]
  have:((m:Int) - 0).toNat=m:=by omega
  rw[this]
  refine List.map_congr_left fun i hi=>?_
  show PyData.int _=PyData.int (Int.fmod (Int.fdiv n (pow3.getD (toI (.int ((0:Int)+i))).toNat 0)) 3 - 1)
  have:(toI (.int ((0:Int)+i))).toNat=i:=by show ((0:Int)+i).toNat=i;omega
  rw[this]
 rw[key]
 have hm5:=hm.2
 have hb':opt (ρ[b]?.join) O=.ok (.d (.int m)) O:=by rw[hb];rfl
 refine zo8 rfl (O':=O) (xs:=zw 0 m) (by
  simp only[de,jr,xq,hb',zu]
  exact kr (by omega)) (by rw[jg];exact Nat.le_trans (show ((m:Int) - 0).toNat≤5 by omega) (by decide)) _ fun x hx=>⟨ρ.set c (some (.d x)),if_pos hc,zrm,?_⟩
 obtain⟨i',hi',rfl⟩:=List.mem_map.mp hx
 rw[List.mem_range] at hi'
 have e0:((0:Int)+(i':Int))=(i':Int):=by omega
 have hi5:i' < 5:=by omega
 have ip:idxD (.list [.int 1,.int 3,.int 9,.int 27,.int 81]) (.int (i':Int))=some (.int (pow3.getD i' 0)):=zej (is:=pow3) (by decide) hi5
 have hp3:pow3.getD i' 0≠0∧(pow3.getD i' 0).natAbs < 1073741824:=by
  have:i'=0∨i'=1∨i'=2∨i'=3∨i'=4:=by omega
  rcases this with rfl | rfl | rfl | rfl | rfl <;> decide
 have fp:binK .fdiv (.d (.int n)) (.d (.int (pow3.getD i' 0))) O=.ok (.d (.int (Int.fdiv n (pow3.getD i' 0)))) O:=zdc hp3
 have m3:∀ z:Int,binK .mod (.d (.int z)) (.d (.int 3)) O=.ok (.d (.int (Int.fmod z 3))) O:=fun z=>zkw (by decide)
 have et:(toI (.int (i':Int))).toNat=i':=by show (i':Int).toNat=i';omega
 rw[e0]
 have h1:opt ((ρ.set c (some (.d (.int (i':Int)))))[a]?.join) O=.ok (.d (.int n)) O:=by rw[List.getElem?_set_ne (Ne.symm hac),ha];rfl
 have h2:opt ((ρ.set c (some (.d (.int (i':Int)))))[c]?.join) O=.ok (.d (.int (i':Int))) O:=by rw[List.getElem?_set_self hc];rfl
 simp only[dw,zbv,ud,ji,qf,jr,xq,h1,h2,zu,j9,zdp,zdo,Option.map_some,x4,ip,fp,m3,zcc,et]
theorem app0{xs:List PyData}{x:PyData}(h:xs.length < line):meth .append (.box 0) [.d x] [Box.lst xs]=.ok (.d .none) [Box.lst (xs++[x])]:=by
 show (if xs.length < line then _ else _)=_
 rw[if_pos h];rfl
theorem app1{b:Box}{xs:List PyData}{x:PyData}(h:xs.length < line):meth .append (.box 1) [.d x] [b,Box.lst xs]=.ok (.d .none) [b,Box.lst (xs++[x])]:=by
 show (if xs.length < line then _ else _)=_
 rw[if_pos h];rfl
theorem rec0{xs:List PyData}:recv .append (.box 0) [Box.lst xs]=true:=rfl
theorem qy{cs:List (List Int)}{c:List Int}:zb cs++[.tuple (c.map .int)]=zb (cs++[c]):=by unfold zb;rw[List.map_append];rfl
theorem dv{c b:Int}{O:za}(h:b≠0∧b.natAbs < 1073741824):binK .fdiv (.d (.int c)) (.d (.int b)) O=.ok (.d (.int (Int.fdiv c b))) O:=zdc h
theorem md(a:Int)(n:Nat)(O:za)(hn:0 < n):∃ j:Nat,j < n∧binK .mod (.d (.int a)) (.d (.int (n:Int))) O=.ok (.d (.int (j:Int))) O:=let ⟨j,hj,_,e⟩:=zf5 (a:=a) (O:=O) hn;⟨j,hj,e⟩
noncomputable def x8:CSs:=(.cons (.asg (.name 8) (.call 13 (.cons (.loc 0) (.cons (.bin .add (.bin .add (.loc 1) (.int 1)) (.loc 7)) .nil)))) (.cons (.expr (.meth .append (.loc 6) (.cons (.prim .tuple (.cons (.comp (.bin .sub (.bin .mod (.bin .fdiv (.loc 8) (.idx (.list (.cons (.int 1) (.cons (.int 3) (.cons (.int 9) (.cons (.int 27) (.cons (.int 81) .nil)))))) (.loc 11))) (.int 3)) (.int 1)) (.name 11) (.range (.int 0) (.loc 4)) .nil) .nil)) .nil))) .nil))
noncomputable def L1(s:List Int)(n0:Int)(m w:Nat)(pv:V)(a b:Option V):Loc:=[some (.d (.list (s.map .int))),some (.d (.int 3)),some (.d (.int 5)),some (.d (.int n0)),some (.d (.int m)),some (.d (.int w)),some pv,a,b,none,none,none]
inductive AtD(s:List Int)(n0:Int)(m w:Nat)(i:Nat):Loc→za→Prop
 | mk (a b:Option V) (cs:List (List Int)) (g:∀ c∈cs,good m c) (len:cs.length=i):AtD s n0 m w i (L1 s n0 m w (.box 0) a b) [Box.lst (zb cs)]
theorem zpj{k:Nat}{s:List Int}{n0:Int}{m w i:Nat}{ρ:Loc}{O:za}(hs:s.length≤63)(hm:m4 m)(hi:i < 100)(h:AtD s n0 m w i ρ O) :
 ∃ ρ' O',jb (PG (k+2) false) (.name 7) x8 (.int (0+(i:Int))) ρ O=.ok .next (ρ',O')∧AtD s n0 m w (i+1) ρ' O':=by
 obtain⟨a,b,cs,g,len⟩:=h
 have n1:=dn (k:=k) (j:=4+i) (O:=[Box.lst (zb cs)]) hs
 rw[show ((4+i:Nat):Int)=(3:Int)+1+(0+(i:Int)) by omega] at n1
 generalize mixI s (4+i)=n at n1
 have hl':(zb cs).length < line:=by rw[zx,len];exact Nat.lt_of_lt_of_le hi (by decide)
 have cc:=zjg (k:=k+2) (ρ:=L1 s n0 m w (.box 0) (some (.d (.int (0+(i:Int))))) (some (.d (.int n)))) (O:=[Box.lst (zb cs)]) (n:=n) (m:=m) (a:=8) (b:=4) (c:=11) hm (by show 11 < 12;decide) (by decide) rfl rfl
 have ap:=app0 (x:=.tuple ((g6 n m).map .int)) hl'
 rw[qy] at ap
 refine⟨L1 s n0 m w (.box 0) (some (.d (.int (0+(i:Int))))) (some (.d (.int n))),_,?_,.mk _ _ (cs++[g6 n m]) (fun c hc=>(List.mem_append.mp hc).elim (g c) fun h=>List.mem_singleton.mp h ▸ zbd) (by rw[List.length_append,len];rfl)⟩
 show evSs (PG (k+2) false) x8 (L1 s n0 m w (.box 0) (some (.d (.int (0+(i:Int))))) b) [Box.lst (zb cs)]=_
 unfold x8
 exact (zc (zr (ρ':=L1 s n0 m w (.box 0) (some (.d (.int (0+(i:Int))))) (some (.d (.int n)))) (zi rfl n1) rfl rfl)).trans ((zc (j8 (qg rfl rfl (zf (yt rfl cc (zpy (by rw[List.length_map,(zbd (n:=n) (m:=m)).1];exact Nat.le_trans hm.2 (by decide)))) rfl) ap))).trans rfl)
theorem zp9{k:Nat}{s:List Int}{n0:Int}{m w:Nat}(hs:s.length≤63)(hm:m4 m):∃ a b cs,y6 (.plain (zw 0 12)) (jb (PG (k+2) false) (.name 7) x8) (zw 0 12) (L1 s n0 m w (.box 0) none none) [Box.lst []]=.ok .next (L1 s n0 m w (.box 0) a b,[Box.lst (zb cs)])∧(∀ c∈cs,good m c)∧cs.length=12:=by
 obtain⟨ρ',O',e,h⟩:=pj (ys:=zw 0 12) (turn:=jb (PG (k+2) false) (.name 7) x8) (AtD s n0 m w) (zw 0 12) 0 (L1 s n0 m w (.box 0) none none) [Box.lst []]
  (fun j x hx ρ O h=>by
    have hj:j < 12:=by have:=(List.getElem?_eq_some_iff.mp hx).1;rw[jg] at this;exact this
    rw[zaf hx]
    rw[Nat.zero_add] at h ⊢
    exact zpj hs hm (by omega) h) (.mk none none [] (fun _ h=>nomatch h) rfl)
 obtain⟨a,b,cs,g,len⟩:=h
 exact⟨a,b,cs,e,g,by rw[len,jg];rfl⟩
theorem za0{a c:List Int}:PyData.eqv (caseD a) (caseD c)=decide (a=c):=qr a c
theorem zaq{c:List Int}:(caseD c).canLay0=true:=lays c
theorem xu:∀ cs:List (List Int),PyData.canLayAll0 (zb cs)=true
 | []=>rfl
 | c::cs=>by
   show ((caseD c).canLay0 && PyData.canLayAll0 (zb cs))=true
   rw[zaq,xu cs];rfl
theorem jn(c:List Int):(caseD c).depth≤1:=Nat.succ_le_succ (xe c)
theorem zfc{c:List Int}:∀ cs:List (List Int),((zb cs).any fun y=>PyData.eqv y (caseD c))=decide (c∈cs)
 | []=>rfl
 | a::cs=>by
   show (PyData.eqv (caseD a) (caseD c) || (zb cs).any fun y=>PyData.eqv y (caseD c))=_
   rw[zfc cs,za0]
   by_cases h:a=c
   ·subst h;simp
   ·have h':¬ c=a:=fun e=>h e.symm
    simp[h,h']
theorem zei{c:List Int}{cs:List (List Int)}:inD (caseD c) (zb cs)=some (decide (c∈cs)):=by
 unfold inD
 have h:=jn c
 rw[zaq,xu,zfc,if_pos]
 rw[decide_eq_true (show (caseD c).depth≤100 by omega)];rfl
theorem zp2{b:Box}{c:List Int}{cs:List (List Int)}:cmpV .notin (.d (caseD c)) (.box 1) [b,Box.lst (zb cs)]=.ok (.d (.bool !decide (c∈cs))) [b,Box.lst (zb cs)]:=by
 show opt (((inD (caseD c) (zb cs)).map (!·)).map fun b=>V.d (.bool b)) _=_
 rw[zei];rfl
theorem zf3{k:Nat}{v:V}{xs:List PyData}{O:za}(h:look O v=some (.list xs))(hl:xs.length≤line):prim (PG k false) .len [v] O=.ok (.d (.int xs.length)) O:=wn h (if_pos hl)
theorem zk6{v:V}{k x:PyData}{O:za}(h:look O v=some x):idxV v (.d k) O=opt ((idxD x k).map .d) O:=by
 show opt (((look O v).bind fun x=>idxD x k).map V.d) O=_
 rw[h];rfl
noncomputable def jm:CSs:=(.cons (.asg (.name 10) (.idx (.loc 6) (.bin .mod (.bin .add (.bin .fdiv (.loc 8) (.int 8)) (.bin .mul (.loc 7) (.bin .add (.int 1) (.bin .mod (.bin .fdiv (.loc 8) (.int 64)) (.int 2))))) (.prim .len (.cons (.loc 6) .nil))))) (.cons (.ife (.cmp .notin (.loc 10) (.loc 9)) (.cons (.expr (.meth .append (.loc 9) (.cons (.loc 10) .nil))) .nil) .nil) .nil))
noncomputable def L2(s:List Int)(n0 nn:Int)(m w:Nat)(pv:V)(a b:Option V):Loc:=[some (.d (.list (s.map .int))),some (.d (.int 3)),some (.d (.int 5)),some (.d (.int n0)),some (.d (.int m)),some (.d (.int w)),some pv,a,some (.d (.int nn)),some (.box 1),b,none]
noncomputable def zdq(pv:V)(b0:Box)(pcs:List (List Int)):Prop:=∀ b1,look [b0,b1] pv=some (.list (zb pcs))
inductive AtP(s:List Int)(n0 nn:Int)(m w:Nat)(pv:V)(b0:Box)(i:Nat):Loc→za→Prop
 | mk (a b:Option V) (cs:List (List Int)) (g:∀ c∈cs,good m c) (nd:cs.Nodup) (le:cs.length≤i) (pos:0 < i→1≤cs.length):AtP s n0 nn m w pv b0 i (L2 s n0 nn m w pv a b) [b0,Box.lst (zb cs)]
theorem zph{k:Nat}{s:List Int}{n0 nn:Int}{m w i:Nat}{pv:V}{b0:Box}{ρ:Loc}{O:za}{pcs:List (List Int)}(hp:zdq pv b0 pcs)(h1:1≤pcs.length)(h2:pcs.length≤100)(hg:∀ c∈pcs,good m c)(hi:i < 100)(h:AtP s n0 nn m w pv b0 i ρ O) :
 ∃ ρ' O',jb (PG (k+2) false) (.name 7) jm (.int (0+(i:Int))) ρ O=.ok .next (ρ',O')∧AtP s n0 nn m w pv b0 (i+1) ρ' O':=by
 obtain⟨a,b,cs,g,nd,le,pos⟩:=h
 have hlp:(zb pcs).length≤line:=by rw[zx];exact Nat.le_trans h2 (by decide)
 have pl:=zf3 (k:=k+2) (hp (Box.lst (zb cs))) hlp
 obtain⟨j2,_,e2⟩:=md (Int.fdiv nn 64) 2 [b0,Box.lst (zb cs)] (by decide)
 obtain⟨j,hj,ej⟩:=md (Int.fdiv nn 8+(0+(i:Int)) * (1+(j2:Int))) (zb pcs).length [b0,Box.lst (zb cs)] (by rw[zx];exact h1)
 obtain⟨y,hy,ey⟩:=dk (xs:=zb pcs) rfl hlp hj
 obtain⟨c,hc,rfl⟩:=List.mem_map.mp hy
 have ix:=zk6 (k:=.int (j:Int)) (hp (Box.lst (zb cs)))
 rw[ey] at ix
 have ap:=app1 (b:=b0) (x:=caseD c) (xs:=zb cs) (by rw[zx];exact Nat.lt_of_le_of_lt le (Nat.lt_of_lt_of_le hi (by decide)))
 have apc:zb cs++[caseD c]=zb (cs++[c]):=qy
 rw[apc] at ap
 have e10:evS (PG (k+2) false) (.asg (.name 10) (.idx (.loc 6) (.bin .mod (.bin .add (.bin .fdiv (.loc 8) (.int 8)) (.bin .mul (.loc 7) (.bin .add (.int 1) (.bin .mod (.bin .fdiv (.loc 8) (.int 64)) (.int 2))))) (.prim .len (.cons (.loc 6) .nil))))) (L2 s n0 nn m w pv (some (.d (.int (0+(i:Int))))) b) [b0,Box.lst (zb cs)]=.ok .next (L2 s n0 nn m w pv (some (.d (.int (0+(i:Int))))) (some (.d (caseD c))),[b0,Box.lst (zb cs)]):=
  zr (xn rfl (zs (zs (zs rfl rfl (dv (by decide))) (zs rfl (zs rfl (zs (zs rfl rfl (dv (by decide))) rfl e2) wc) (zhq (.inl (by omega)))) wc) (yt rfl rfl pl) ej) ix) rfl rfl
 have ht:evE (PG (k+2) false) (L2 s n0 nn m w pv (some (.d (.int (0+(i:Int))))) (some (.d (caseD c)))) (.cmp .notin (.loc 10) (.loc 9)) [b0,Box.lst (zb cs)]=.ok (.d (.bool !decide (c∈cs))) [b0,Box.lst (zb cs)]:=zh rfl rfl zp2
 refine⟨L2 s n0 nn m w pv (some (.d (.int (0+(i:Int))))) (some (.d (caseD c))),[b0,Box.lst (zb (if c∈cs then cs else cs++[c]))],?_,?_⟩
 ·show evSs (PG (k+2) false) jm (L2 s n0 nn m w pv (some (.d (.int (0+(i:Int))))) b) [b0,Box.lst (zb cs)]=_
  unfold jm
  refine (zc e10).trans ?_
  by_cases hcm:c∈cs
  ·rw[decide_eq_true hcm] at ht
   rw[if_pos hcm]
   exact (zc (zm ht)).trans rfl
  ·rw[decide_eq_false hcm] at ht
   rw[if_neg hcm]
   have happ:evS (PG (k+2) false) (.expr (.meth .append (.loc 9) (.cons (.loc 10) .nil))) (L2 s n0 nn m w pv (some (.d (.int (0+(i:Int))))) (some (.d (caseD c)))) [b0,Box.lst (zb cs)]=.ok .next (L2 s n0 nn m w pv (some (.d (.int (0+(i:Int))))) (some (.d (caseD c))),[b0,Box.lst (zb (cs++[c]))]):=j8 (qg rfl rfl (zf rfl rfl) ap)
   rw[jq,w_if ht]
   show R.bind (evSs (PG (k+2) false) (.cons (.expr (.meth .append (.loc 9) (.cons (.loc 10) .nil))) .nil) _ _) _=_
   rw[zc happ]
   rfl
 ·by_cases hcm:c∈cs
  ·rw[if_pos hcm];exact .mk _ _ cs g nd (Nat.le_succ_of_le le) fun _=>List.length_pos_of_mem hcm
  ·rw[if_neg hcm]
   refine .mk _ _ (cs++[c]) (fun d hd=>(List.mem_append.mp hd).elim (g d) fun h=>List.mem_singleton.mp h ▸ hg c hc) (List.nodup_append.mpr ⟨nd,by simp,fun a ha b hb=>by rw[List.mem_singleton.mp hb];exact fun e=>hcm (e ▸ ha)⟩) ?_ fun _=>?_
   ·rw[List.length_append];exact Nat.succ_le_succ le
   ·rw[List.length_append];exact Nat.le_add_left _ _
theorem zp6{k:Nat}{s:List Int}{n0 nn:Int}{m w n:Nat}{pv:V}{b0:Box}{a:Option V}{pcs:List (List Int)}(hp:zdq pv b0 pcs)(h1:1≤pcs.length)(h2:pcs.length≤100)(hg:∀ c∈pcs,good m c)(hn:1≤n∧n≤12) :
 ∃ ρ' O',y6 (.plain (zw 0 n)) (jb (PG (k+2) false) (.name 7) jm) (zw 0 n) (L2 s n0 nn m w pv a none) [b0,Box.lst []]=.ok .next (ρ',O')∧AtP s n0 nn m w pv b0 n ρ' O':=by
 obtain⟨ρ',O',e,h⟩:=pj (ys:=zw 0 n) (turn:=jb (PG (k+2) false) (.name 7) jm) (AtP s n0 nn m w pv b0) (zw 0 n) 0 (L2 s n0 nn m w pv a none) [b0,Box.lst []]
  (fun j x hx ρ O h=>by
    have hj:j < n:=by have:=(List.getElem?_eq_some_iff.mp hx).1;rw[jg] at this;omega
    rw[zaf hx]
    rw[Nat.zero_add] at h ⊢
    exact zph hp h1 h2 hg (by omega) h) (.mk a none [] (fun _ h=>nomatch h) List.nodup_nil (Nat.le_refl _) fun h=>absurd h (Nat.lt_irrefl 0))
 refine⟨ρ',O',e,?_⟩
 rwa [jg,show (0:Nat)+((n:Int) - 0).toNat=n by omega] at h
noncomputable def zd4:CSs:=(.cons (.for_ (.name 7) (.range (.int 0) (.idx (.list (.cons (.bin .add (.int 1) (.bin .mod (.loc 8) (.loc 5))) (.cons (.loc 5) .nil))) (.prim .int (.cons (.and_ (.cmp .eq (.loc 5) (.int 12)) (.cmp .gt (.loc 4) (.int 3))) .nil)))) jm) (.cons (.ret (.tup (.cons (.loc 4) (.cons (.loc 9) .nil)))) .nil))
theorem zoo{k:Nat}{b:Bool}{O:za}:prim (PG k false) .int [.d (.bool b)] O=.ok (.d (.int (if b then 1 else 0))) O:=rfl
theorem zfk{P:Pg}{ρ:Loc}{O:za}{a b:CE}(h:∃ x,evE P ρ a O=.ok (.d (.bool x)) O)(h':∃ x,evE P ρ b O=.ok (.d (.bool x)) O):∃ x,evE P ρ (.and_ a b) O=.ok (.d (.bool x)) O:=by
 obtain⟨x,e⟩:=h
 cases x with
 | true=>exact let ⟨y,e'⟩:=h';⟨y,yh e e'⟩
 | false=>exact⟨false,xt e⟩
theorem znu{k:Nat}{s:List Int}{n0 nn:Int}{m w:Nat}{pv:V}{b0:Box}{a:Option V}{pcs:List (List Int)}(hp:zdq pv b0 pcs)(h1:1≤pcs.length)(h2:pcs.length≤100)(hg:∀ c∈pcs,good m c)(hw:1≤w∧w≤12) :
 ∃ ρ' cs,evSs (PG (k+2) false) zd4 (L2 s n0 nn m w pv a none) [b0,Box.lst []]=.ok (.ret (.tm [.x (.int m),.b 1])) (ρ',[b0,Box.lst (zb cs)])∧Found m cs:=by
 obtain⟨j,hj,ej⟩:=md nn w [b0,Box.lst []] (by omega)
 obtain⟨bb,hb⟩:=zfk (P:=PG (k+2) false) (ρ:=L2 s n0 nn m w pv a none) (O:=[b0,Box.lst []]) (a:=.cmp .eq (.loc 5) (.int 12)) (b:=.cmp .gt (.loc 4) (.int 3)) ⟨_,zh rfl rfl eq_int⟩ ⟨_,zh rfl rfl v_gt⟩
 have hn:∃ n:Nat,(1≤n∧n≤12)∧evE (PG (k+2) false) (L2 s n0 nn m w pv a none) (.idx (.list (.cons (.bin .add (.int 1) (.bin .mod (.loc 8) (.loc 5))) (.cons (.loc 5) .nil))) (.prim .int (.cons (.and_ (.cmp .eq (.loc 5) (.int 12)) (.cmp .gt (.loc 4) (.int 3))) .nil))) [b0,Box.lst []]=.ok (.d (.int (n:Int))) [b0,Box.lst []]:=by
  have hl:evE (PG (k+2) false) (L2 s n0 nn m w pv a none) (.list (.cons (.bin .add (.int 1) (.bin .mod (.loc 8) (.loc 5))) (.cons (.loc 5) .nil))) [b0,Box.lst []]=.ok (.d (.list [.int ((1+j:Nat):Int),.int (w:Int)])) [b0,Box.lst []]:=by
   rw[ud,zf (zs rfl (zs rfl rfl ej) wc) rfl,show (1:Int)+(j:Int)=((1+j:Nat):Int) by omega];rfl
  cases bb with
  | true=>exact⟨w,hw,xn hl (yt rfl hb zoo) rfl⟩
  | false=>exact⟨1+j,by omega,xn hl (yt rfl hb zoo) rfl⟩
 obtain⟨n,hn,en⟩:=hn
 obtain⟨ρ',O',ef,hat⟩:=zp6 (k:=k) (s:=s) (n0:=n0) (nn:=nn) (m:=m) (w:=w) (n:=n) (a:=a) hp h1 h2 hg hn
 have hI:evI (PG (k+2) false) (L2 s n0 nn m w pv a none) (.range (.int 0) (.idx (.list (.cons (.bin .add (.int 1) (.bin .mod (.loc 8) (.loc 5))) (.cons (.loc 5) .nil))) (.prim .int (.cons (.and_ (.cmp .eq (.loc 5) (.int 12)) (.cmp .gt (.loc 4) (.int 3))) .nil)))) [b0,Box.lst []]=.ok (.plain (zw 0 n)) [b0,Box.lst []]:=by
  rw[de,jr,zu,en,zu]
  exact kr (by omega)
 obtain⟨a',b',cs,g,nd,le,pos⟩:=hat
 refine⟨L2 s n0 nn m w pv a' b',cs,?_,g,nd,pos hn.1,Nat.le_trans le hn.2⟩
 generalize zw 0 (n:Int)=rs at ef hI
 unfold zd4
 refine (zc ?_).trans (zg (yr rfl))
 rw[ww,if_neg Bool.false_ne_true,hI]
 exact ef
noncomputable def zd5:CSs:=(.cons (.asg (.name 9) (.boxed (.list .nil))) (.cons (.asg (.name 8) (.bin .fdiv (.loc 3) (.int 36))) (.cons (.ife (.and_ (.cmp .gt (.loc 4) (.int 3)) (.and_ (.cmp .eq (.bin .mod (.bin .fdiv (.loc 8) (.int 256)) (.int 4)) (.int 1)) (.cmp .gt (.bin .mod (.bin .fdiv (.loc 3) (.int 6)) (.int 6)) (.int 0)))) (.cons (.asg (.name 5) (.int 12)) .nil) .nil) zd4)))
theorem zh0{k:Nat}{s:List Int}{n0:Int}{m w:Nat}{pv:V}{b0:Box}{a b:Option V}{pcs:List (List Int)}(hp:zdq pv b0 pcs)(h1:1≤pcs.length)(h2:pcs.length≤100)(hg:∀ c∈pcs,good m c)(hw:1≤w∧w≤12) :
 ∃ ρ' cs,evSs (PG (k+2) false) zd5 (L1 s n0 m w pv a b) [b0]=.ok (.ret (.tm [.x (.int m),.b 1])) (ρ',[b0,Box.lst (zb cs)])∧Found m cs:=by
 have st:=fun w hw=>znu (k:=k) (s:=s) (n0:=n0) (nn:=Int.fdiv n0 36) (w:=w) (a:=a) hp h1 h2 hg hw
 obtain⟨j4,_,e4⟩:=md (Int.fdiv (Int.fdiv n0 36) 256) 4 [b0,Box.lst []] (by decide)
 obtain⟨j6,_,e6⟩:=md (Int.fdiv n0 6) 6 [b0,Box.lst []] (by decide)
 have t2:∃ x,evE (PG (k+2) false) (L2 s n0 (Int.fdiv n0 36) m w pv a none) (.cmp .eq (.bin .mod (.bin .fdiv (.loc 8) (.int 256)) (.int 4)) (.int 1)) [b0,Box.lst []]=.ok (.d (.bool x)) [b0,Box.lst []]:=⟨_,zh (zs (zs rfl rfl (dv (by decide))) rfl e4) rfl eq_int⟩
 have t3:∃ x,evE (PG (k+2) false) (L2 s n0 (Int.fdiv n0 36) m w pv a none) (.cmp .gt (.bin .mod (.bin .fdiv (.loc 3) (.int 6)) (.int 6)) (.int 0)) [b0,Box.lst []]=.ok (.d (.bool x)) [b0,Box.lst []]:=⟨_,zh (zs (zs rfl rfl (dv (by decide))) rfl e6) rfl v_gt⟩
 obtain⟨bb,ht⟩:=zfk (a:=.cmp .gt (.loc 4) (.int 3)) ⟨_,zh rfl rfl v_gt⟩ (zfk t2 t3)
 have s12:evSs (PG (k+2) false) zd5 (L1 s n0 m w pv a b) [b0]=(evS (PG (k+2) false) (.ife (.and_ (.cmp .gt (.loc 4) (.int 3)) (.and_ (.cmp .eq (.bin .mod (.bin .fdiv (.loc 8) (.int 256)) (.int 4)) (.int 1)) (.cmp .gt (.bin .mod (.bin .fdiv (.loc 3) (.int 6)) (.int 6)) (.int 0)))) (.cons (.asg (.name 5) (.int 12)) .nil) .nil) (L2 s n0 (Int.fdiv n0 36) m w pv a none) [b0,Box.lst []]).bind (seqK fun S=>evSs (PG (k+2) false) zd4 S.1 S.2):=by
  unfold zd5
  exact (zc (zr (v:=.box 1) (O':=[b0,Box.lst []]) rfl rfl rfl)).trans (zc (zr (zs rfl rfl (dv (by decide))) rfl rfl))
 rw[s12]
 cases bb with
 | false=>rw[zm ht];exact st w hw
 | true=>
   have h12:evS (PG (k+2) false) (.asg (.name 5) (.int 12)) (L2 s n0 (Int.fdiv n0 36) m w pv a none) [b0,Box.lst []]=.ok .next (L2 s n0 (Int.fdiv n0 36) m 12 pv a none,[b0,Box.lst []]):=zr rfl rfl rfl
   rw[w_if ht]
   show ∃ ρ' cs,R.bind (evSs (PG (k+2) false) (.cons (.asg (.name 5) (.int 12)) .nil) _ _) _=_∧_
   rw[zc h12]
   exact st 12 ⟨by decide,by decide⟩
theorem zp3{m:Nat}{O:za}(hm:m4 m):minV (.d (.int 5)) (.d (.int m)) O=.ok (.d (.int m)) O:=by
 have:=hm.2
 show R.ok (V.d (.int (min 5 (m:Int)))) O=_
 rw[Int.min_eq_right (by omega)]
theorem zqu{m:Nat}{cs:List (List Int)}{b0:Box}:fin 0 false (.tm [.x (.int m),.b 1]) [b0,Box.lst (zb cs)]=.ok (.d (.tuple [.int m,.list (zb cs)])) []:=rfl
noncomputable def zd6:CSs:=(.cons (.ife (.cmp .gt (.bin .mod (.bin .fdiv (.loc 3) (.int 6)) (.int 6)) (.int 0)) (.cons (.asg (.name 6) (.call 17 (.cons (.loc 4) (.cons (.bin .sub (.bin .mod (.bin .fdiv (.loc 3) (.int 6)) (.int 6)) (.int 1)) .nil)))) .nil) .nil) zd5)
theorem znv{k:Nat}{s:List Int}{n0:Int}{m w:Nat}{a b:Option V}{dcs:List (List Int)}(hm:m4 m)(hw:1≤w∧w≤12)(hdg:∀ c∈dcs,good m c)(hdl:dcs.length=12) :
 ∃ ρ' b0 cs,evSs (PG (k+2) false) zd6 (L1 s n0 m w (.box 0) a b) [Box.lst (zb dcs)]=.ok (.ret (.tm [.x (.int m),.b 1])) (ρ',[b0,Box.lst (zb cs)])∧Found m cs:=by
 have d6:∀ O,binK .fdiv (.d (.int n0)) (.d (.int 6)) O=.ok (.d (.int (Int.fdiv n0 6))) O:=fun O=>zdc ⟨by decide,by decide⟩
 obtain⟨j6,hj6,_,ej⟩:=zf5 (a:=Int.fdiv n0 6) (n:=6) (O:=[Box.lst (zb dcs)]) (by decide)
 have ej:binK .mod (.d (.int (Int.fdiv n0 6))) (.d (.int 6)) [Box.lst (zb dcs)]=.ok (.d (.int (j6:Int))) [Box.lst (zb dcs)]:=ej
 cases hq:decide ((j6:Int) > 0) with
 | false=>
   obtain⟨ρ',cs,e,f⟩:=zh0 (k:=k) (s:=s) (n0:=n0) (m:=m) (w:=w) (pv:=.box 0) (b0:=Box.lst (zb dcs)) (a:=a) (b:=b) (pcs:=dcs) (fun _=>rfl) (by omega) (by omega) hdg hw
   unfold L1 at e
   exact⟨ρ',Box.lst (zb dcs),cs,by unfold zd6 L1;simp only[jr,xq,dw,zds,x_call,qf,ji,gf,zbu,du,jq,zu,ku,j9,zcz,zhu,zfw,v_gt,Option.join_some,List.getElem?_cons_zero,List.getElem?_cons_succ,Bool.not_true,Bool.and_false,Bool.false_eq_true,if_false,nm_1,d6,ej,hq,e],f⟩
 | true=>
   have hj1:1≤j6:=by have:=of_decide_eq_true hq;omega
   obtain⟨pg,pp,pl⟩:=zim (m:=m) (j:=j6 - 1) hm (by omega)
   have ep:=zqz (k:=k+1) (m:=m) (j:=j6 - 1) (xs:=zb dcs) hm (by omega)
   generalize w7 m (j6 - 1)=pcs at pg pp pl ep
   have ejj:((j6:Int) - 1)=((j6 - 1:Nat):Int):=by omega
   obtain⟨ρ',cs,e,f⟩:=zh0 (k:=k) (s:=s) (n0:=n0) (m:=m) (w:=w) (pv:=.d (.list (zb pcs))) (b0:=Box.lst (zb dcs)) (a:=a) (b:=b) (pcs:=pcs) (fun _=>rfl) pp (by omega) pg hw
   unfold L1 at e
   exact⟨ρ',Box.lst (zb dcs),cs,by unfold zd6 L1;simp only[jr,xq,dw,zds,x_call,qf,ji,gf,zbu,du,jq,zu,ku,j9,zcz,zlf,zfw,v_gt,zcc,Option.join_some,List.getElem?_cons_zero,List.getElem?_cons_succ,Bool.not_true,Bool.and_false,Bool.false_eq_true,if_true,if_false,nm_1,asgR,zbf,List.set_cons_zero,List.set_cons_succ,List.length_cons,List.length_nil,Nat.reduceAdd,Nat.reduceLT,Nat.zero_add,d6,ej,hq,ejj,ep,e],f⟩
theorem zi8{k:Nat}{s:List Int}{n0:Int}{m w:Nat}(hs:s.length≤63)(hm:m4 m):∃ a b cs,evS (PG (k+2) false) (.for_ (.name 7) (.range (.int 0) (.int 12)) x8) (L1 s n0 m w (.box 0) none none) [Box.lst []]=.ok .next (L1 s n0 m w (.box 0) a b,[Box.lst (zb cs)])∧(∀ c∈cs,good m c)∧cs.length=12:=by
 obtain⟨a,b,cs,ed,hg,hl⟩:=zp9 (k:=k) (s:=s) (n0:=n0) (m:=m) (w:=w) hs hm
 refine⟨a,b,cs,?_,hg,hl⟩
 have hI:evI (PG (k+2) false) (L1 s n0 m w (.box 0) none none) (.range (.int 0) (.int 12)) [Box.lst []]=.ok (.plain (zw 0 12)) [Box.lst []]:=by
  simp only[de,jr,zu]
  exact kr (by decide)
 generalize zw 0 12=rs at ed hI
 rw[ww,if_neg Bool.false_ne_true,hI]
 exact ed
theorem zrj:c18.body=(.cons (.asg (.name 3) (.call 13 (.cons (.loc 0) (.cons (.loc 1) .nil)))) (.cons (.asg (.name 4) (.min2 (.loc 2) (.idx (.list (.cons (.int 2) (.cons (.int 3) (.cons (.int 3) (.cons (.int 4) (.cons (.int 4) (.cons (.int 5) .nil))))))) (.bin .mod (.loc 3) (.int 6))))) (.cons (.asg (.name 5) (.idx (.list (.cons (.int 9) (.cons (.int 12) (.cons (.int 8) (.cons (.int 5) .nil))))) (.bin .sub (.loc 4) (.int 2)))) (.cons (.asg (.name 6) (.boxed (.list .nil))) (.cons (.for_ (.name 7) (.range (.int 0) (.int 12)) x8) zd6))))):=by
 unfold c18 zd6 zd5 zd4 x8 jm
 rfl
theorem tb1{k:Nat}{s:List Int}{n0:Int}(n1:ze P table (k+2) false 13 [.d (.list (s.map .int)),.d (.int 3)] []=.ok (.d (.int n0)) []):evS (PG (k+2) false) (.asg (.name 3) (.call 13 (.cons (.loc 0) (.cons (.loc 1) .nil)))) [some (.d (.list (s.map .int))),some (.d (.int 3)),some (.d (.int 5)),none,none,none,none,none,none,none,none,none] []=.ok .next ([some (.d (.list (s.map .int))),some (.d (.int 3)),some (.d (.int 5)),some (.d (.int n0)),none,none,none,none,none,none,none,none],[]):=by
 simp only[xq,x_call,qf,ji,gf,zu,ku,j9,Option.join_some,List.getElem?_cons_zero,List.getElem?_cons_succ,Bool.not_true,Bool.and_false,Bool.false_eq_true,if_true,if_false,nm_1,asgR,zbf,List.set_cons_zero,List.set_cons_succ,List.length_cons,List.length_nil,Nat.reduceAdd,Nat.reduceLT,Nat.zero_add,n1]
theorem tb2{k:Nat}{s:List Int}{n0:Int}{m i6:Nat}(hm:m4 m)(e6:binK .mod (.d (.int n0)) (.d (.int 6)) []=.ok (.d (.int (i6:Int))) [])(em:idxD (.list [.int 2,.int 3,.int 3,.int 4,.int 4,.int 5]) (.int (i6:Int))=some (.int (m:Int))):evS (PG (k+2) false) (.asg (.name 4) (.min2 (.loc 2) (.idx (.list (.cons (.int 2) (.cons (.int 3) (.cons (.int 3) (.cons (.int 4) (.cons (.int 4) (.cons (.int 5) .nil))))))) (.bin .mod (.loc 3) (.int 6))))) [some (.d (.list (s.map .int))),some (.d (.int 3)),some (.d (.int 5)),some (.d (.int n0)),none,none,none,none,none,none,none,none] []=.ok .next ([some (.d (.list (s.map .int))),some (.d (.int 3)),some (.d (.int 5)),some (.d (.int n0)),some (.d (.int m)),none,none,none,none,none,none,none],[]):=by
 simp only[jr,xq,ud,dw,zbv,qf,ji,gf,zu,ku,j9,x4,zdo,zdp,Option.map_some,Option.join_some,List.getElem?_cons_zero,List.getElem?_cons_succ,Bool.not_true,Bool.and_false,Bool.false_eq_true,if_true,if_false,nm_1,asgR,zbf,List.set_cons_zero,List.set_cons_succ,List.length_cons,List.length_nil,Nat.reduceAdd,Nat.reduceLT,Nat.zero_add,zo3,e6,em,zp3 hm]
theorem tb3{k:Nat}{s:List Int}{n0:Int}{m w:Nat}(ew:idxD (.list [.int 9,.int 12,.int 8,.int 5]) (.int ((m:Int) - 2))=some (.int (w:Int))):evS (PG (k+2) false) (.asg (.name 5) (.idx (.list (.cons (.int 9) (.cons (.int 12) (.cons (.int 8) (.cons (.int 5) .nil))))) (.bin .sub (.loc 4) (.int 2)))) [some (.d (.list (s.map .int))),some (.d (.int 3)),some (.d (.int 5)),some (.d (.int n0)),some (.d (.int m)),none,none,none,none,none,none,none] []=.ok .next ([some (.d (.list (s.map .int))),some (.d (.int 3)),some (.d (.int 5)),some (.d (.int n0)),some (.d (.int m)),some (.d (.int w)),none,none,none,none,none,none],[]):=by
 simp only[jr,xq,ud,dw,zbv,qf,ji,gf,zu,ku,j9,x4,zcc,zdo,zdp,Option.map_some,Option.join_some,List.getElem?_cons_zero,List.getElem?_cons_succ,Bool.not_true,Bool.and_false,Bool.false_eq_true,if_true,if_false,nm_1,asgR,zbf,List.set_cons_zero,List.set_cons_succ,List.length_cons,List.length_nil,Nat.reduceAdd,Nat.reduceLT,Nat.zero_add,ew]
theorem tb4{k:Nat}{s:List Int}{n0:Int}{m w:Nat}:evS (PG (k+2) false) (.asg (.name 6) (.boxed (.list .nil))) [some (.d (.list (s.map .int))),some (.d (.int 3)),some (.d (.int 5)),some (.d (.int n0)),some (.d (.int m)),some (.d (.int w)),none,none,none,none,none,none] []=.ok .next (L1 s n0 m w (.box 0) none none,[Box.lst []]):=by
 have bl:boxK (.d (.list [])) []=.ok (.box 0) [Box.lst []]:=rfl
 unfold L1
 simp only[ud,zml,qf,gf,zu,ku,j9,zdo,Option.map_some,Bool.not_true,Bool.and_false,Bool.false_eq_true,if_true,if_false,nm_1,asgR,zbf,List.set_cons_zero,List.set_cons_succ,List.length_cons,List.length_nil,Nat.reduceAdd,Nat.reduceLT,Nat.zero_add,bl]
theorem zi5{k:Nat}{s:List Int}{n0:Int}{m w i6:Nat}(hs:s.length≤63)(n1:ze P table (k+2) false 13 [.d (.list (s.map .int)),.d (.int 3)] []=.ok (.d (.int n0)) [])(e6:binK .mod (.d (.int n0)) (.d (.int 6)) []=.ok (.d (.int (i6:Int))) [])(hm:m4 m)
 (em:idxD (.list [.int 2,.int 3,.int 3,.int 4,.int 4,.int 5]) (.int (i6:Int))=some (.int (m:Int))) (hw:1≤w∧w≤12) (ew:idxD (.list [.int 9,.int 12,.int 8,.int 5]) (.int ((m:Int) - 2))=some (.int (w:Int))) :
 ∃ ρ' b0 cs,evSs (PG (k+2) false) c18.body [some (.d (.list (s.map .int))),some (.d (.int 3)),some (.d (.int 5)),none,none,none,none,none,none,none,none,none] []=.ok (.ret (.tm [.x (.int m),.b 1])) (ρ',[b0,Box.lst (zb cs)])∧Found m cs:=by
 obtain⟨a,b,dcs,ed,hdg,hdl⟩:=zi8 (k:=k) (s:=s) (n0:=n0) (m:=m) (w:=w) hs hm
 obtain⟨ρ',b0,cs,e,f⟩:=znv (k:=k) (s:=s) (n0:=n0) (m:=m) (w:=w) (a:=a) (b:=b) hm hw hdg hdl
 refine⟨ρ',b0,cs,?_,f⟩
 rw[zrj,zc (tb1 n1),zc (tb2 hm e6 em),zc (tb3 ew),zc tb4,zc ed]
 exact e
theorem zlm{k:Nat}{s:List Int}(hs:s.length≤63):∃ m cs,m4 m∧Found m cs∧ze P table (k+3) false 18 [.d (.list (s.map .int)),.d (.int 3),.d (.int 5)] []=.ok (.d (.tuple [.int m,.list (zb cs)])) []:=by
 have n1:ze P table (k+2) false 13 [.d (.list (s.map .int)),.d (.int 3)] []=.ok (.d (.int (mixI s 3))) []:=dn (k:=k) (j:=3) (O:=[]) hs
 generalize mixI s 3=n0 at n1
 obtain⟨i6,h6,_,e6⟩:=zf5 (a:=n0) (n:=6) (O:=[]) (by decide)
 have e6:binK .mod (.d (.int n0)) (.d (.int 6)) []=.ok (.d (.int (i6:Int))) []:=e6
 have hm:∃ m:Nat,m4 m∧idxD (.list [.int 2,.int 3,.int 3,.int 4,.int 4,.int 5]) (.int (i6:Int))=some (.int (m:Int)):=by
  have:i6=0∨i6=1∨i6=2∨i6=3∨i6=4∨i6=5:=by omega
  rcases this with rfl | rfl | rfl | rfl | rfl | rfl
  ·exact⟨2,⟨by decide,by decide⟩,rfl⟩
  ·exact⟨3,⟨by decide,by decide⟩,rfl⟩
  ·exact⟨3,⟨by decide,by decide⟩,rfl⟩
  ·exact⟨4,⟨by decide,by decide⟩,rfl⟩
  ·exact⟨4,⟨by decide,by decide⟩,rfl⟩
  ·exact⟨5,⟨by decide,by decide⟩,rfl⟩
 obtain⟨m,hm,em⟩:=hm
 have hw:∃ w:Nat,(1≤w∧w≤12)∧idxD (.list [.int 9,.int 12,.int 8,.int 5]) (.int ((m:Int) - 2))=some (.int (w:Int)):=by
  have:m=2∨m=3∨m=4∨m=5:=by have:=hm.1;have:=hm.2;omega
  rcases this with rfl | rfl | rfl | rfl
  ·exact⟨9,⟨by decide,by decide⟩,rfl⟩
  ·exact⟨12,⟨by decide,by decide⟩,rfl⟩
  ·exact⟨8,⟨by decide,by decide⟩,rfl⟩
  ·exact⟨5,⟨by decide,by decide⟩,rfl⟩
 obtain⟨w,hw,ew⟩:=hw
 obtain⟨ρ',b0,cs,e,f⟩:=zi5 hs n1 e6 hm em hw ew
 refine⟨m,cs,hm,f,?_⟩
 rw[q7 (fn:=c18) rfl ⟨rfl,by decide⟩]
 unfold evFn
 show (match evSs (PG (k+2) false) c18.body [some (.d (.list (s.map .int))),some (.d (.int 3)),some (.d (.int 5)),none,none,none,none,none,none,none,none,none] [] with | .ok (.ret v) S=>fin 0 false v S.2 | .ok .next S=>.ok (.d .none) (S.2.take 0) | .stuck=>.stuck)=_
 rw[e]
 exact zqu
noncomputable def sgn(d:Int):Int:=if d > 0 then 1 else if d < 0 then -1 else 0
theorem zmw(a b:Int):sgn (b - a)=0 - sgn (a - b):=by
 unfold sgn
 repeat' split
 all_goals omega
theorem zpn (d:Int) : -1≤sgn d∧sgn d≤1:=by unfold sgn;repeat' split
                                           all_goals omega
noncomputable def v6(cs is:List Int):Int:=(is.map fun i=>cs.getD i.toNat 0).sum
noncomputable def wOf(is js:List Int):PyData:=.tuple [.tuple (is.map .int),.tuple (js.map .int)]
structure InR(m:Nat)(is:List Int):Prop where
 len:is.length≤2
 at_:∀ i∈is,0≤i∧i < (m:Int)
theorem zh8{m:Nat}{cs is:List Int}{i:Int}(hm:m4 m)(hc:good m cs)(h:InR m is)(hi:i∈is):idxD (caseD cs) (.int i)=some (.int (cs.getD i.toNat 0)):=by
 have hb:=h.at_ i hi
 have hl:=hc.1
 have hj:i.toNat < cs.length:=by omega
 have h5:cs.length≤line:=by rw[hl];exact Nat.le_trans hm.2 (by decide)
 unfold caseD idxD items
 dsimp only
 rw[List.length_map,if_pos h5,if_pos hb.1,List.getElem?_map,List.getD_eq_getElem?_getD,List.getElem?_eq_getElem hj];rfl
theorem zos{k:Nat}{m:Nat}{cs ls:List Int}{a b:Nat}{ρ:Loc}{O:za}(hm:m4 m)(hc:good m cs)(hr:InR m ls)(ha:Nat.blt a ρ.length=true)(ha1:a≠1)(h1:ρ[1]?=some (some (.d (caseD cs))))(hb:ρ[b]?=some (some (.d (.tuple (ls.map .int))))) :
 evE (PG k false) ρ (.prim .sum (.cons (.comp (.idx (.loc 1) (.loc a)) (.name a) (.e (.loc b)) .nil) .nil)) O=.ok (.d (.int (v6 cs ls))) O:=by
 have ha:a < ρ.length:=Nat.le_of_ble_eq_true ha
 have hl:(ls.map PyData.int).length≤line:=by rw[List.length_map];exact Nat.le_trans hr.len (by decide)
 have hI:evI (PG k false) ρ (.e (.loc b)) O=.ok (.plain (ls.map .int)) O:=by rw[x_e,xq,hb];rfl
 refine yt rfl (va rfl hI rfl hl (fun x=>.int (cs.getD (toI x).toNat 0)) fun x hx=>⟨ρ.set a (some (.d x)),if_pos ha,?_⟩) ?_
 ·obtain⟨i,hi,rfl⟩:=List.mem_map.mp hx
  have e1:evE (PG k false) (ρ.set a (some (.d (.int i)))) (.loc 1) O=.ok (.d (caseD cs)) O:=by rw[xq,List.getElem?_set_ne ha1,h1];rfl
  have e2:evE (PG k false) (ρ.set a (some (.d (.int i)))) (.loc a) O=.ok (.d (.int i)) O:=by rw[xq,List.getElem?_set_self ha];rfl
  refine xn e1 e2 ?_
  rw[x4,zh8 hm hc hr hi];rfl
 ·refine (zsg (g:=fun x=>cs.getD (toI x).toNat 0)).trans ?_
  rw[show ((Src.plain (ls.map PyData.int)).xs.map fun x=>cs.getD (toI x).toNat 0).sum=v6 cs ls by show ((ls.map PyData.int).map _).sum=_;rw[List.map_map];rfl]
theorem zfj{P:Pg}{ρ ρ':Loc}{O O':za}{e:CE}{t:CT}{v:V}(hd:P.hd=false)(h:evE P ρ e O=.ok v O')(hb:zp t v ρ=some ρ'):evS P (.asg t e) ρ O=.ok .next (ρ',O'):=by
 rw[gf,hd,Bool.false_and,if_neg Bool.false_ne_true,h]
 show asgR t v (ρ,O')=_
 unfold asgR
 rw[hb]
theorem zqy{k:Nat}{a b c e f g:Option V}{O:za}{d:Int}:evSs (PG k false) (.cons (.ife (.cmp .gt (.loc 4) (.int 0)) (.cons (.ret (.int 1)) .nil) .nil) (.cons (.ret (.ite (.cmp .lt (.loc 4) (.int 0)) (.neg (.int 1)) (.int 0))) .nil)) [a,b,c,e,some (.d (.int d)),f,g] O=.ok (.ret (.d (.int (sgn d)))) ([a,b,c,e,some (.d (.int d)),f,g],O):=by
 have h1:evE (PG k false) [a,b,c,e,some (.d (.int d)),f,g] (.cmp .gt (.loc 4) (.int 0)) O=.ok (.d (.bool (decide (d > 0)))) O:=rfl
 have h2:evE (PG k false) [a,b,c,e,some (.d (.int d)),f,g] (.cmp .lt (.loc 4) (.int 0)) O=.ok (.d (.bool (decide (d < 0)))) O:=rfl
 unfold sgn
 by_cases hg:d > 0
 ·rw[if_pos hg]
  rw[decide_eq_true hg] at h1
  exact zg ((w_if h1).trans rfl)
 ·rw[if_neg hg]
  rw[decide_eq_false hg] at h1
  refine (zc (zm h1)).trans (zg (yr ?_))
  rw[u9,h2]
  by_cases hl:d < 0
  ·rw[if_pos hl,decide_eq_true hl];rfl
  ·rw[if_neg hl,decide_eq_false hl];rfl
theorem zq3{k m:Nat}{cs is js:List Int}{O:za}(hm:m4 m)(hc:good m cs)(hi:InR m is)(hj:InR m js):ze P table (k+1) false 6 [.d (wOf is js),.d (caseD cs)] O=.ok (.d (.int (sgn (v6 cs is - v6 cs js)))) O:=by
 have k1:=zos (k:=k) (a:=5) (b:=2) (O:=O) (ρ:=[some (.d (wOf is js)),some (.d (caseD cs)),some (.d (.tuple (is.map .int))),some (.d (.tuple (js.map .int))),none,none,none]) hm hc hi rfl (by decide) rfl rfl
 have k2:=zos (k:=k) (a:=6) (b:=3) (O:=O) (ρ:=[some (.d (wOf is js)),some (.d (caseD cs)),some (.d (.tuple (is.map .int))),some (.d (.tuple (js.map .int))),none,none,none]) hm hc hj rfl (by decide) rfl rfl
 refine zo (fn:=c6) rfl ⟨rfl,by decide⟩ rfl ((zc (zfj rfl rfl rfl)).trans ((zc (zr (zs k1 k2 zcc) rfl rfl)).trans zqy))
noncomputable def zj0(g:Int→Int→Int)(cs:List Int)(a:Int×Option V)(x:PyData):Int×Option V:=(g a.1 (cs.getD (toI x).toNat 0),some (V.d x))
theorem l_sum{k m:Nat}{op:Bop}{g:Int→Int→Int}{cs ls:List Int}{w:V}{i:CE}{O:za}{n:Int}{z:Option V}(hg:∀ a b,binK op (.d (.int a)) (.d (.int b)) O=.ok (.d (.int (g a b))) O)(hm:m4 m)(hc:good m cs)(hr:InR m ls)
 (hi:∀ n z,evE (PG k false) [some w,some (.d (caseD cs)),some (.d (.int n)),z] i O=.ok (.d (.tuple (ls.map .int))) O) :
 ∃ z',evS (PG k false) (.for_ (.name 3) (.e i) (.cons (.asg (.name 2) (.bin op (.loc 2) (.idx (.loc 1) (.loc 3)))) .nil)) [some w,some (.d (caseD cs)),some (.d (.int n)),z] O=.ok .next ([some w,some (.d (caseD cs)),some (.d (.int ((ls.map fun i=>cs.getD i.toNat 0).foldl g n))),z'],O):=by
 refine⟨((ls.map PyData.int).foldl (zj0 g cs) (n,z)).2,?_⟩
 have e1:∀ (ls:List Int) (a:Int×Option V),((ls.map PyData.int).foldl (zj0 g cs) a).1=(ls.map fun i=>cs.getD i.toNat 0).foldl g a.1:=fun ls=>by
  induction ls with
  | nil=>exact fun a=>rfl
  | cons x ls ih=>exact fun a=>ih _
 have:=zaw (ys:=ls.map PyData.int) (turn:=jb (PG k false) (.name 3) (.cons (.asg (.name 2) (.bin op (.loc 2) (.idx (.loc 1) (.loc 3)))) .nil)) (fun a:Int×Option V=>([some w,some (.d (caseD cs)),some (.d (.int a.1)),a.2],O)) (zj0 g cs) (ls.map PyData.int) (n,z) fun a x hx=>by
  obtain⟨i,hi,rfl⟩:=List.mem_map.mp hx
  refine (zc (zr (ρ:=[some w,some (.d (caseD cs)),some (.d (.int a.1)),some (.d (.int i))]) (zs rfl (xn rfl rfl ?_) (hg _ _)) rfl rfl)).trans rfl
  rw[x4,zh8 hm hc hr hi];rfl
 rw[e1] at this
 rw[ww,if_neg Bool.false_ne_true,x_e,hi]
 exact this
theorem znt{k:Nat}{a b c:Option V}{O:za}{d:Int}:evSs (PG k false) (.cons (.ret (.ite (.cmp .gt (.loc 2) (.int 0)) (.int 1) (.ite (.cmp .lt (.loc 2) (.int 0)) (.neg (.int 1)) (.int 0)))) .nil) [a,b,some (.d (.int d)),c] O=.ok (.ret (.d (.int (sgn d)))) ([a,b,some (.d (.int d)),c],O):=by
 have h1:evE (PG k false) [a,b,some (.d (.int d)),c] (.cmp .gt (.loc 2) (.int 0)) O=.ok (.d (.bool (decide (d > 0)))) O:=rfl
 have h2:evE (PG k false) [a,b,some (.d (.int d)),c] (.cmp .lt (.loc 2) (.int 0)) O=.ok (.d (.bool (decide (d < 0)))) O:=rfl
 refine zg (yr ?_)
 unfold sgn
 rw[u9,h1]
 by_cases hg:d > 0
 ·rw[if_pos hg,decide_eq_true hg];rfl
 ·rw[if_neg hg,decide_eq_false hg]
  show evE (PG k false) [a,b,some (.d (.int d)),c] (.ite (.cmp .lt (.loc 2) (.int 0)) (.neg (.int 1)) (.int 0)) O=_
  rw[u9,h2]
  by_cases hl:d < 0
  ·rw[if_pos hl,decide_eq_true hl];rfl
  ·rw[if_neg hl,decide_eq_false hl];rfl
theorem fold_add:∀ (l:List Int) (a:Int),l.foldl (· + ·) a=a+l.sum
 | [],a=>by simp
 | x::l,a=>by rw[List.foldl_cons,fold_add l,List.sum_cons];omega
theorem zek:∀ (l:List Int) (a:Int),l.foldl (· - ·) a=a - l.sum
 | [],a=>by simp
 | x::l,a=>by rw[List.foldl_cons,zek l,List.sum_cons];omega
theorem znx{k m:Nat}{cs is js:List Int}{O:za}(hm:m4 m)(hc:good m cs)(hi:InR m is)(hj:InR m js):ze P table (k+1) false 15 [.d (wOf is js),.d (caseD cs)] O=.ok (.d (.int (sgn (v6 cs is - v6 cs js)))) O:=by
 obtain⟨z1,e1⟩:=l_sum (k:=k) (op:=.add) (g:=(· + ·)) (w:=.d (wOf is js)) (i:=.idx (.loc 0) (.int 0)) (O:=O) (n:=0) (z:=none) (fun _ _=>wc) hm hc hi fun _ _=>rfl
 rw[fold_add,Int.zero_add] at e1
 obtain⟨z2,e2⟩:=l_sum (k:=k) (op:=.sub) (g:=(· - ·)) (w:=.d (wOf is js)) (i:=.idx (.loc 0) (.int 1)) (O:=O) (n:=(is.map fun i=>cs.getD i.toNat 0).sum) (z:=z1) (fun _ _=>zcc) hm hc hj fun _ _=>rfl
 rw[zek] at e2
 exact zo (fn:=c15) rfl ⟨rfl,by decide⟩ rfl ((zc (zr rfl rfl rfl)).trans ((zc e1).trans ((zc e2).trans znt)))
noncomputable abbrev Wg:=List Int×List Int
noncomputable abbrev Cs:=List (List Int)
noncomputable def wD(w:Wg):PyData:=wOf w.1 w.2
noncomputable def zl(w:Wg)(c:List Int):Int:=sgn (v6 c w.1 - v6 c w.2)
noncomputable def zz(w:Wg)(o:Int)(cs:Cs):Cs:=cs.filter fun c=>decide (zl w c=o)
noncomputable def dueI:Nat→List Wg
 | 2=>[([0],[1])]
 | 3=>[([0],[1]),([0],[2]),([1],[2])]
 | 4=>[([0],[1]),([0],[2]),([0],[3]),([0,1],[2,3]),([0,2],[1,3]),([0,3],[1,2]),([1],[2]),([1],[3]),([2],[3])]
 | 5=>[([0],[1]),([0],[2]),([0],[3]),([0],[4]),([0,1],[2,3]),([0,1],[2,4]),([0,1],[3,4]),([0,2],[1,3]),([0,2],[1,4]),([0,2],[3,4]),([0,3],[1,2]),([0,3],[1,4]),([0,3],[2,4]),([0,4],[1,2]),([0,4],[1,3]),([0,4],[2,3]),([1],[2]),([1],[3]),([1],[4]),([1,2],[3,4]),([1,3],[2,4]),([1,4],[2,3]),([2],[3]),([2],[4]),([3],[4])]
 | _=>[]
noncomputable def due(m:Nat):List PyData:=(dueI m).map wD
noncomputable def wsI(m:Nat):List Wg:=(dueI m).flatMap fun p=>[(p.1,p.2),(p.2,p.1)]
noncomputable def panB(m:Nat)(is:List Int):Bool:=decide (is.length≤2) && is.all fun i=>decide (0≤i) && decide (i < (m:Int))
theorem zhi{m:Nat}{is:List Int}(h:panB m is=true):InR m is:=by
 unfold panB at h
 rw[Bool.and_eq_true,decide_eq_true_eq] at h
 refine⟨h.1,fun i hi=>?_⟩
 have:=List.all_eq_true.mp h.2 i hi
 rwa [Bool.and_eq_true,decide_eq_true_eq,decide_eq_true_eq] at this
theorem zo9{m:Nat}(hm:m4 m):((wsI m).all fun p=>panB m p.1 && panB m p.2 && (wsI m).contains (p.2,p.1))=true:=by
 rcases gu hm with rfl | rfl | rfl | rfl <;> decide +kernel
structure OkW(m:Nat)(p:Wg):Prop where
 l:InR m p.1
 r:InR m p.2
 t:(p.2,p.1)∈wsI m
theorem k9{m:Nat}{p:Wg}(hm:m4 m)(h:p∈wsI m):OkW m p:=by
 have:=List.all_eq_true.mp (zo9 hm) p h
 rw[Bool.and_eq_true,Bool.and_eq_true] at this
 exact⟨zhi this.1.1,zhi this.1.2,List.contains_iff_mem.mp this.2⟩
theorem qt{m:Nat}{w:Wg}(h:w∈dueI m):w∈wsI m:=List.mem_flatMap.mpr ⟨w,h,.head _⟩
inductive Pl where
 | no
 | told (c:List Int)
 | weigh (w:Wg) (a b c:Pl)
noncomputable abbrev sT:Str:=Str.ofString "told"
noncomputable abbrev sW:Str:=Str.ofString "weigh"
noncomputable def Pl.toD:Pl→PyData
 | .no=>.none
 | .told c=>.tuple [.str sT,caseD c]
 | .weigh w a b c=>.tuple [.str sW,wD w,.tuple [a.toD,b.toD,c.toD]]
noncomputable def Pl.fits(m:Nat):Pl→Cs→Prop
 | .no,cs=>cs=[]
 | .told c,cs=>cs=[c]
 | .weigh w a b c,cs=>w∈wsI m∧cs≠[]∧a.fits m (zz w (-1) cs)∧b.fits m (zz w 0 cs)∧c.fits m (zz w 1 cs)
noncomputable def Pl.hgt:Pl→Nat
 | .weigh _ a b c=>max a.hgt (max b.hgt c.hgt)+1
 | _=>0
noncomputable def Pl.isNo:Pl→Bool
 | .no=>true
 | _=>false
theorem Pl.fits_no{m:Nat}{p:Pl}{cs:Cs}(h:p.fits m cs)(hn:p.isNo=true):cs=[]:=by
 cases p <;> first | exact h | cases hn
theorem Pl.fits_ne{m:Nat}{p:Pl}{cs:Cs}(h:p.fits m cs)(hc:cs≠[]):p.isNo=false:=by
 cases p <;> first | rfl | exact absurd h hc
theorem Pl.fits_nil{m:Nat}{p:Pl}(h:p.fits m []):p=.no:=by
 cases p with
 | no=>rfl
 | told c=>exact nomatch h
 | weigh w a b c=>exact absurd rfl h.2.1
noncomputable def optI(n:Bool)(i:Int):List Int:=if n then [] else [i]
noncomputable def Pl.len:Pl→Int
 | .weigh _ a b c=>1+(maxI (optI a.isNo a.len++(optI b.isNo b.len++optI c.isNo c.len))).getD 0
 | _=>0
noncomputable def Pl.walk:Pl→List Int→List (Wg×Int)
 | .weigh w a b c,k=>(w,zl w k)::(if zl w k = -1 then a.walk k else if zl w k=0 then b.walk k else c.walk k)
 | _,_=>[]
theorem qz(w:Wg)(c:List Int):zl w c = -1∨zl w c=0∨zl w c=1:=by
 have:=zpn (v6 c w.1 - v6 c w.2)
 unfold zl;omega
theorem mem_part{w:Wg}{o:Int}{cs:Cs}{c:List Int}:c∈zz w o cs↔c∈cs∧zl w c=o:=by
 unfold zz;rw[List.mem_filter,decide_eq_true_eq]
theorem ur:∀ {l:List Int},l≠[]→∃ M,maxI l=some M∧M∈l∧∀ a∈l,a≤M
 | [],h=>absurd rfl h
 | a::r,_=>by
   obtain⟨h1,h2,h3⟩:=zc9 r a
   refine⟨_,rfl,?_,fun b hb=>?_⟩
   ·rcases h1 with h1 | h1
    ·rw[h1];exact .head _
    ·exact .tail _ h1
   ·rcases List.mem_cons.mp hb with rfl | hb
    ·exact h2
    ·exact h3 b hb
structure Far(p:Pl)(cs:Cs):Prop where
 le:∀ c∈cs,((p.walk c).length:Int)≤p.len
 ex:∃ c∈cs,((p.walk c).length:Int)=p.len
theorem mem_optI{n:Bool}{i a:Int}:a∈optI n i↔n=false∧a=i:=by
 unfold optI
 cases n <;> simp
theorem Pl.far{m:Nat}:∀ (p:Pl) (cs:Cs),p.fits m cs→cs≠[]→Far p cs
 | .no,cs,h,hc=>absurd h hc
 | .told c,cs,h,hc=>⟨fun _ _=>Int.le_refl _,c,by rw[show cs=[c] from h];exact .head _,rfl⟩
 | .weigh w a b c,cs,h,hc=>by
   obtain⟨hw,_,ha,hb,hd⟩:=h
   have fa:=fun hne=>Pl.far a _ ha hne
   have fb:=fun hne=>Pl.far b _ hb hne
   have fc:=fun hne=>Pl.far c _ hd hne
   have none_:∀ {k o},k∈cs→zl w k=o→zz w o cs≠[]:=fun hk e h=>by
    have:=mem_part.mpr ⟨hk,e⟩;rw[h] at this;cases this
   have hL:optI a.isNo a.len++(optI b.isNo b.len++optI c.isNo c.len)≠[]:=by
    obtain⟨k,hk⟩:=List.exists_mem_of_ne_nil _ hc
    rcases qz w k with e | e | e
    ·have:=Pl.fits_ne ha (none_ hk e);simp[optI,this]
    ·have:=Pl.fits_ne hb (none_ hk e);simp[optI,this]
    ·have:=Pl.fits_ne hd (none_ hk e);simp[optI,this]
   obtain⟨M,hM,hmem,hle⟩:=ur hL
   have hlen:(Pl.weigh w a b c).len=1+M:=by show 1+(maxI _).getD 0=_;rw[hM];rfl
   have step:∀ {k:List Int} {l:List (Wg×Int)},(Pl.weigh w a b c).walk k=(w,zl w k)::l→(((Pl.weigh w a b c).walk k).length:Int)=(l.length:Int)+1:=fun e=>by rw[e];rfl
   have sa:∀ {k},zl w k = -1→(Pl.weigh w a b c).walk k=(w,zl w k)::a.walk k:=fun e=>by show _::_=_;rw[if_pos e]
   have sb:∀ {k},zl w k=0→(Pl.weigh w a b c).walk k=(w,zl w k)::b.walk k:=fun e=>by show _::_=_;rw[if_neg (by omega),if_pos e]
   have sc:∀ {k},zl w k=1→(Pl.weigh w a b c).walk k=(w,zl w k)::c.walk k:=fun e=>by show _::_=_;rw[if_neg (by omega),if_neg (by omega)]
   rw[List.mem_append,List.mem_append] at hmem
   refine⟨fun k hk=>?_,?_⟩
   ·rw[hlen]
    rcases qz w k with e | e | e
    ·have h1:=(fa (none_ hk e)).le k (mem_part.mpr ⟨hk,e⟩)
     have h2:=hle a.len (List.mem_append.mpr (.inl (mem_optI.mpr ⟨Pl.fits_ne ha (none_ hk e),rfl⟩)))
     rw[step (sa e)];omega
    ·have h1:=(fb (none_ hk e)).le k (mem_part.mpr ⟨hk,e⟩)
     have h2:=hle b.len (List.mem_append.mpr (.inr (List.mem_append.mpr (.inl (mem_optI.mpr ⟨Pl.fits_ne hb (none_ hk e),rfl⟩)))))
     rw[step (sb e)];omega
    ·have h1:=(fc (none_ hk e)).le k (mem_part.mpr ⟨hk,e⟩)
     have h2:=hle c.len (List.mem_append.mpr (.inr (List.mem_append.mpr (.inr (mem_optI.mpr ⟨Pl.fits_ne hd (none_ hk e),rfl⟩)))))
     rw[step (sc e)];omega
   ·have ne:∀ {p:Pl} {l:Cs},p.fits m l→p.isNo=false→l≠[]:=fun {p l} hf hn hl=>by
     subst hl;rw[Pl.fits_nil hf] at hn;cases hn
    rw[hlen]
    rcases hmem with h | h | h
    ·obtain⟨hn,rfl⟩:=mem_optI.mp h
     obtain⟨k,hk,e⟩:=(fa (ne ha hn)).ex
     obtain⟨h1,h2⟩:=mem_part.mp hk
     exact⟨k,h1,by rw[step (sa h2)];omega⟩
    ·obtain⟨hn,rfl⟩:=mem_optI.mp h
     obtain⟨k,hk,e⟩:=(fb (ne hb hn)).ex
     obtain⟨h1,h2⟩:=mem_part.mp hk
     exact⟨k,h1,by rw[step (sb h2)];omega⟩
    ·obtain⟨hn,rfl⟩:=mem_optI.mp h
     obtain⟨k,hk,e⟩:=(fc (ne hd hn)).ex
     obtain⟨h1,h2⟩:=mem_part.mp hk
     exact⟨k,h1,by rw[step (sc h2)];omega⟩
theorem Pl.far_max{m:Nat}{p:Pl}{cs:Cs}(h:p.fits m cs)(hc:cs≠[]):maxI (cs.map fun c=>((p.walk c).length:Int))=some p.len:=by
 obtain⟨h1,c,h2,h3⟩:=p.far cs h hc
 obtain⟨M,hM,_,_⟩:=ur (l:=cs.map fun c=>((p.walk c).length:Int)) (by cases cs with | nil=>exact absurd rfl hc | cons _ _=>exact fun h=>nomatch h)
 rw[hM,zd9 hM (N:=p.len) (List.mem_map.mpr ⟨c,h2,h3⟩) fun a ha=>by obtain⟨k,hk,rfl⟩:=List.mem_map.mp ha;exact h1 k hk]
noncomputable def unC:PyData→List Int
 | .tuple xs=>xs.map toI
 | _=>[]
theorem zcx(l:List Int):(l.map PyData.int).map toI=l:=by
 rw[List.map_map]
 exact (List.map_congr_left fun _ _=>rfl).trans (List.map_id l)
theorem xb(c:List Int):unC (caseD c)=c:=zcx c
noncomputable def pn(w:Wg)(o:Int)(x:PyData):Option PyData:=if decide (zl w (unC x)=o) then some x else none
theorem qq(w:Wg)(o:Int):∀ cs:Cs,(zb cs).filterMap (pn w o)=zb (zz w o cs)
 | []=>rfl
 | c::cs=>by
   show (caseD c::zb cs).filterMap (pn w o)=_
   unfold zz
   cases h:decide (zl w c=o) with
   | true=>rw[List.filterMap_cons_some (show pn w o (caseD c)=some (caseD c) by unfold pn;rw[xb,h];rfl),qq w o cs,List.filter_cons_of_pos (p:=fun c=>decide (zl w c=o)) h];rfl
   | false=>rw[List.filterMap_cons_none (show pn w o (caseD c)=none by unfold pn;rw[xb,h];rfl),qq w o cs,List.filter_cons_of_neg (p:=fun c=>decide (zl w c=o)) (by rw[h];decide)];rfl
structure Ok12(m:Nat)(cs:Cs):Prop where
 good:∀ c∈cs,good m c
 le:cs.length≤12
theorem Ok12.part{m:Nat}{cs:Cs}(h:Ok12 m cs)(w:Wg)(o:Int):Ok12 m (zz w o cs):=⟨fun c hc=>h.good c (mem_part.mp hc).1,Nat.le_trans (List.length_filter_le _ _) h.le⟩
theorem Ok12.line{m:Nat}{cs:Cs}(h:Ok12 m cs):(zb cs).length≤line:=by rw[zx];exact Nat.le_trans h.le (by decide)
theorem zgp{k f m a b:Nat}{w:Wg}{o:Int}{cs:Cs}{wx ox:CE}{ρ:Loc}{O:za}(h:Ok12 m cs)(hf:∀ c,good m c→ze P table k false f [.d (wD w),.d (caseD c)] O=.ok (.d (.int (zl w c))) O)(ha:Nat.blt a ρ.length=true)
 (hb:ρ[b]?=some (some (.d (.list (zb cs))))) (hw:∀ x,evE (PG k false) (ρ.set a (some (.d x))) wx O=.ok (.d (wD w)) O) (ho:∀ x,evE (PG k false) (ρ.set a (some (.d x))) ox O=.ok (.d (.int o)) O) :
 evE (PG k false) ρ (.comp (.loc a) (.name a) (.e (.loc b)) (.cons (.cmp .eq (.call f (.cons wx (.cons (.loc a) .nil))) ox) .nil)) O=.ok (.d (.list (zb (zz w o cs)))) O:=by
 have ha:a < ρ.length:=Nat.le_of_ble_eq_true ha
 have hI:evI (PG k false) ρ (.e (.loc b)) O=.ok (.plain (zb cs)) O:=by rw[x_e,xq,hb];rfl
 have:=km (P:=PG k false) (ρ:=ρ) (elt:=.loc a) (tgt:=.name a) (it:=.e (.loc b)) (ifs:=.cons (.cmp .eq (.call f (.cons wx (.cons (.loc a) .nil))) ox) .nil) (O:=O) rfl hI rfl h.line (pn w o) fun x hx=>by
  obtain⟨c,hc,rfl⟩:=List.mem_map.mp hx
  have ea:evE (PG k false) (ρ.set a (some (.d (caseD c)))) (.loc a) O=.ok (.d (caseD c)) O:=by rw[xq,List.getElem?_set_self ha];rfl
  have et:evE (PG k false) (ρ.set a (some (.d (caseD c)))) (.cmp .eq (.call f (.cons wx (.cons (.loc a) .nil))) ox) O=.ok (.d (.bool (decide (zl w c=o)))) O:=zh (zi (zf (hw _) (zf ea rfl)) (hf c (h.good c hc))) (ho _) eq_int
  unfold yz zp
  rw[if_pos ha]
  show R.bind (xd (PG k false) (ρ.set a (some (.d (caseD c)))) _ O) _=_
  rw[gd,et]
  unfold pn
  rw[xb]
  cases decide (zl w c=o) with
  | true=>
    show R.bind (evE (PG k false) (ρ.set a (some (.d (caseD c)))) (.loc a) O) _=_
    rw[ea];rfl
  | false=>rfl
 rw[this]
 show R.ok (V.d (.list ((zb cs).filterMap (pn w o)))) O=_
 rw[qq]
theorem zlg{k m:Nat}{w:Wg}{O:za}(hm:m4 m)(hw:w∈wsI m)(c:List Int)(hc:good m c):ze P table (k+1) false 6 [.d (wD w),.d (caseD c)] O=.ok (.d (.int (zl w c))) O:=zq3 hm hc (k9 hm hw).l (k9 hm hw).r
theorem vo{k m:Nat}{w:Wg}{O:za}(hm:m4 m)(hw:w∈wsI m)(c:List Int)(hc:good m c):ze P table (k+1) false 15 [.d (wD w),.d (caseD c)] O=.ok (.d (.int (zl w c))) O:=znx hm hc (k9 hm hw).l (k9 hm hw).r
theorem xy{ys:List PyData}{turn:PyData→Loc→za→R (Loc×za) Fl}{x:PyData}{xs:List PyData}{ρ ρ':Loc}{O O':za}(h:turn x ρ O=.ok .next (ρ',O')):y6 (.plain ys) turn (x::xs) ρ O=y6 (.plain ys) turn xs ρ' O':=by
 rw[y6,h];exact if_pos rfl
theorem u5{k:Nat}{f:Nat}{fn:Fn}{args:List V}{O:za}{ρ ρ':Loc}{xs:List PyData}(h:table f=some fn)(hl:args.length=fn.arity∧fn.arity≤fn.slots)(hρ:args.map some++List.replicate (fn.slots - fn.arity) none=ρ)(hk:fn.keep=false)
 (hb:evSs (PG k false) fn.body ρ O=.ok (.ret (.box O.length)) (ρ',O++[.lst xs])):ze P table (k+1) false f args O=.ok (.d (.list xs)) O:=by
 rw[q7 h hl,evFn,hρ,hb]
 show wt O.length fn.keep O.length (O++[.lst xs])=_
 unfold wt
 rw[if_neg (Nat.lt_irrefl _),hk,List.getElem?_append_right (Nat.le_refl _),Nat.sub_self]
 show R.ok (V.d (.list xs)) ((O++[Box.lst xs]).take O.length)=_
 rw[List.take_left']
 rfl
noncomputable def zsb:CSs:=.cons (.expr (.meth .append (.loc 2) (.cons (.comp (.loc 4) (.name 4) (.e (.loc 1)) (.cons (.cmp .eq (.call 6 (.cons (.loc 0) (.cons (.loc 4) .nil))) (.loc 3)) .nil)) .nil))) .nil
theorem d0{k m:Nat}{w:Wg}{o:Int}{cs:Cs}{z:Option V}{xs:List PyData}(hm:m4 m)(hw:w∈wsI m)(h:Ok12 m cs)(hx:xs.length < line) :
 jb (PG (k+1) false) (.name 3) zsb (.int o) [some (.d (wD w)),some (.d (.list (zb cs))),some (.box 0),z,none] [Box.lst xs]=.ok .next ([some (.d (wD w)),some (.d (.list (zb cs))),some (.box 0),some (.d (.int o)),none],[Box.lst (xs++[.list (zb (zz w o cs))])]):=by
 have ep:=zgp (k:=k+1) (a:=4) (b:=1) (w:=w) (o:=o) (wx:=.loc 0) (ox:=.loc 3) (ρ:=[some (.d (wD w)),some (.d (.list (zb cs))),some (.box 0),some (.d (.int o)),none]) (O:=[Box.lst xs]) h (zlg hm hw) rfl rfl (fun _=>rfl) fun _=>rfl
 exact (zc (ρ:=[some (.d (wD w)),some (.d (.list (zb cs))),some (.box 0),some (.d (.int o)),none]) (j8 (qg rfl rec0 (zf ep rfl) (app0 hx)))).trans rfl
noncomputable def zf2(w:Wg)(cs:Cs):List PyData:=[.list (zb (zz w (-1) cs)),.list (zb (zz w 0 cs)),.list (zb (zz w 1 cs))]
theorem zeu{k m:Nat}{w:Wg}{cs:Cs}(hm:m4 m)(hw:w∈wsI m)(h:Ok12 m cs):ze P table (k+2) false 7 [.d (wD w),.d (.list (zb cs))] []=.ok (.d (.list (zf2 w cs))) []:=by
 refine u5 (fn:=c7) rfl ⟨rfl,by decide⟩ rfl rfl ((zc (zr (v:=.box 0) (O':=[Box.lst []]) rfl rfl rfl)).trans ((zc (ρ':=[some (.d (wD w)),some (.d (.list (zb cs))),some (.box 0),some (.d (.int 1)),none]) (O':=[Box.lst (zf2 w cs)]) ?_).trans (zg (yr rfl))))
 rw[ww,if_neg Bool.false_ne_true]
 exact (xy (d0 hm hw h (by show 0 < 1000000;decide))).trans ((xy (d0 hm hw h (by show 1 < 1000000;decide))).trans ((xy (d0 hm hw h (by show 2 < 1000000;decide))).trans rfl))
inductive Bad:PyData→Prop
 | none:Bad .none
 | str:Bad (.str sT)
 | int:Bad (.int 5)
 | list (xs:List PyData):Bad (.list xs)
 | dict:Bad (.dict [])
 | unit:Bad (.tuple [])
 | one (x:PyData):Bad (.tuple [x])
 | told3 (x y:PyData):Bad (.tuple [.str sT,x,y])
 | tell (x:PyData):Bad (.tuple [.str (Str.ofString "tell"),x])
 | weigh (x y:PyData):Bad (.tuple [.str (Str.ofString "Weigh"),x,y])
 | none2 (x:PyData):Bad (.tuple [.none,x])
 | five (x y:PyData):Bad (.tuple [.int 5,x,y])
 | back (xs:List PyData) (y z:PyData):Bad (.tuple [.tuple xs,y,z])
 | weigh2 (x:PyData):Bad (.tuple [.str sW,x])
 | weigh4 (x y z:PyData):Bad (.tuple [.str sW,x,y,z])
noncomputable abbrev yi(m:Nat)(cs:Cs)(d:PyData):List V:=[.d (.int m),.d (.list (zb cs)),.d d]
theorem zlw{k m:Nat}{cs:Cs}{d:PyData}(h:Bad d):ze P table (k+1) false 8 (yi m cs d) []=.ok (.d (.bool false)) []∧ze P table (k+1) false 23 (yi m cs d) []=.ok (.d (.bool false)) []:=by
 cases h <;> exact⟨by kernel_rfl,by kernel_rfl⟩
theorem je:∀ a b:Cs,PyData.eqvAll (zb a) (zb b)=decide (a=b)
 | [],[]=>rfl
 | [],_::_=>rfl
 | _::_,[]=>rfl
 | c::a,e::b=>by
   show (PyData.eqv (caseD c) (caseD e) && PyData.eqvAll (zb a) (zb b))=_
   rw[za0,je a b]
   by_cases h1:c=e
   ·by_cases h2:a=b
    ·rw[decide_eq_true h1,decide_eq_true h2,decide_eq_true (by rw[h1,h2])];rfl
    ·rw[decide_eq_false h2,Bool.and_false,decide_eq_false fun h=>h2 (List.cons.inj h).2]
   ·rw[decide_eq_false h1,Bool.false_and,decide_eq_false fun h=>h1 (List.cons.inj h).1]
theorem vp{xs ys:List PyData}(h1:PyData.canLayAll0 xs=true)(h2:PyData.canLayAll0 ys=true)(h3:(PyData.list ys).depth≤100):eqOk (.list xs) (.list ys)=true:=by
 unfold eqOk
 rw[show (PyData.list xs).canLay0=true from h1,show (PyData.list ys).canLay0=true from h2,decide_eq_true (Nat.le_trans (Nat.min_le_right _ _) h3)];rfl
theorem qu:∀ cs:Cs,PyData.depthAll (zb cs)≤10
 | []=>Nat.zero_le _
 | c::cs=>Nat.max_le.mpr ⟨Nat.le_trans (jn c) (by decide),qu cs⟩
theorem u0{a b:Cs}{O:za}:cmpV .eq (.d (.list (zb a))) (.d (.list (zb b))) O=.ok (.d (.bool (decide (a=b)))) O:=by
 rw[v_eq]
 show opt (Option.map _ (if eqOk (.list (zb a)) (.list (zb b))=true then some (PyData.eqvAll (zb a) (zb b)) else none)) O=_
 rw[if_pos (vp (xu a) (xu b) (Nat.le_trans (Nat.succ_le_succ (qu b)) (by decide))),je];rfl
theorem zdh{cs:Cs}{O:za}:cmpV .eq (.d (.list (zb cs))) (.d (.list [])) O=.ok (.d (.bool (decide (cs=[])))) O:=u0 (b:=[])
theorem zhl{cs:Cs}{O:za}:cmpV .ne (.d (.list (zb cs))) (.d (.list [])) O=.ok (.d (.bool (!decide (cs=[])))) O:=by
 rw[v_ne]
 show opt (Option.map _ (if eqOk (.list (zb cs)) (.list [])=true then some (!PyData.eqvAll (zb cs) (zb [])) else none)) O=_
 rw[if_pos (vp (xu cs) rfl (by decide)),je];rfl
theorem q_TT{O:za}:cmpV .eq (.d (.str sT)) (.d (.str sT)) O=.ok (.d (.bool true)) O:=by kernel_rfl
theorem q_WT{O:za}:cmpV .eq (.d (.str sW)) (.d (.str sT)) O=.ok (.d (.bool false)) O:=by kernel_rfl
theorem q_WW{O:za}:cmpV .eq (.d (.str sW)) (.d (.str sW)) O=.ok (.d (.bool true)) O:=by kernel_rfl
theorem q_TW{O:za}:cmpV .eq (.d (.str sT)) (.d (.str sW)) O=.ok (.d (.bool false)) O:=by kernel_rfl
theorem n_WW{O:za}:cmpV .ne (.d (.str sW)) (.d (.str sW)) O=.ok (.d (.bool false)) O:=by kernel_rfl
noncomputable def truD(c:List Int):PyData:=.tuple (c.map fun i=>if i < 0 then .int i else .bool (decide (i=1)))
inductive XOk(m:Nat):PyData→Prop
 | case (c:List Int) (h:good m c):XOk m (caseD c)
 | list (xs:List PyData):XOk m (.list xs)
 | tru (c:List Int) (h:good m c) (hn:(c.all fun i=>decide (i < 0))=false):XOk m (truD c)
noncomputable abbrev truQ(m k:Nat):Prop:=(allC m).map (fun c=>ze P table (k+2) false 2 [.d (.int m),.d (truD c)] [])=(allC m).map fun c=>.ok (.d (.bool (c.all fun i=>decide (i < 0)))) []
theorem tru2{k:Nat}:truQ 2 k:=by kernel_rfl
theorem tru3{k:Nat}:truQ 3 k:=by kernel_rfl
theorem tru4{k:Nat}:truQ 4 k:=by kernel_rfl
theorem tru5{k:Nat}:truQ 5 k:=by kernel_rfl
theorem zi4{k m:Nat}{c:List Int}(hm:m4 m)(h:good m c):ze P table (k+2) false 2 [.d (.int m),.d (truD c)] []=.ok (.d (.bool (c.all fun i=>decide (i < 0)))) []:=by
 have hq:truQ m k:=by
  rcases gu hm with rfl | rfl | rfl | rfl
  ·exact tru2
  ·exact tru3
  ·exact tru4
  ·exact tru5
 exact yx hq (zal h)
theorem dm{k m:Nat}{cs:Cs}{x:PyData}{b c:Bool}(h1:ze P table k false 2 [.d (.int m),.d x] []=.ok (.d (.bool b)) [])(h2:b=true→cmpV .eq (.d (.list (zb cs))) (.d (.list [x])) []=.ok (.d (.bool c)) []) :
 ze P table (k+1) false 8 (yi m cs (.tuple [.str sT,x])) []=.ok (.d (.bool (b && c))) []:=by
 have hc:evE (PG k false) [some (.d (.int m)),some (.d (.list (zb cs))),some (.d (.tuple [.str sT,x])),none,none] (.call 2 (.cons (.loc 0) (.cons (.idx (.loc 2) (.int 1)) .nil))) []=.ok (.d (.bool b)) []:=zi rfl h1
 refine zo (fn:=c8) rfl ⟨rfl,by decide⟩ rfl ((zc (zm rfl)).trans (zg ((w_if (bb:=true) (zh rfl rfl q_TT)).trans (zg (yr (yh rfl ?_))))))
 cases b with
 | false=>exact xt hc
 | true=>exact yh hc (zh rfl rfl (h2 rfl))
theorem za3{k m:Nat}{cs:Cs}{x:PyData}{b:Bool}(h:Ok12 m cs)(h1:∀ c,cs=[c]→ze P table k false 22 [.d x,.d (caseD c)] []=.ok (.d (.bool b)) [])(h2:(∀ c,cs≠[c])→b=false) :
 ze P table (k+1) false 23 (yi m cs (.tuple [.str sT,x])) []=.ok (.d (.bool b)) []:=by
 refine zo (fn:=c23) rfl ⟨rfl,by decide⟩ rfl ((zc (zm rfl)).trans (zg ((w_if (bb:=true) (zh rfl rfl q_TT)).trans (zg (yr (yh rfl ?_))))))
 have hl:evE (PG k false) [some (.d (.int m)),some (.d (.list (zb cs))),some (.d (.tuple [.str sT,x])),none,none,none,none] (.cmp .eq (.prim .len (.cons (.loc 1) .nil)) (.int 1)) []=.ok (.d (.bool (decide ((cs.length:Int)=1)))) []:=
  zh (yt rfl rfl (by rw[x7 (.d _) h.line,zx])) rfl eq_int
 by_cases hc:(cs.length:Int)=1
 ·rw[decide_eq_true hc] at hl
  obtain⟨c,rfl⟩:=List.length_eq_one_iff.mp (show cs.length=1 by omega)
  exact yh hl (zi rfl (h1 c rfl))
 ·rw[decide_eq_false hc] at hl
  rw[h2 fun c e=>hc (by rw[e];rfl)]
  exact xt hl
theorem zhy{k:Nat}{i:Int}:ze P table (k+1) false 14 [.d (.int i)] []=.ok (.d (.bool true)) []:=rfl
theorem zlj{k:Nat}{b:Bool}:ze P table (k+1) false 14 [.d (.bool b)] []=.ok (.d (.bool false)) []:=rfl
noncomputable def ve:PyData→Bool
 | .bool _=>false
 | _=>true
theorem zgr{k:Nat}{xs:List PyData}{y:V}(hx:∀ x∈xs,(∃ i,x=.int i)∨∃ b,x=.bool b)(hl:xs.length≤line):evE (PG (k+1) false) [some (.d (.tuple xs)),some y,none] (.prim .all (.cons (.comp (.call 14 (.cons (.loc 2) .nil)) (.name 2) (.e (.loc 0)) .nil) .nil)) []=.ok (.d (.bool (xs.all ve))) []:=
 zg5 (P:=PG (k+1) false) (ρ:=[some (.d (.tuple xs)),some y,none]) (elt:=.call 14 (.cons (.loc 2) .nil)) (tgt:=.name 2) (it:=.e (.loc 0)) (O:=[]) ve rfl (src:=.plain xs) rfl rfl rfl hl fun x h=>⟨[some (.d (.tuple xs)),some y,some (.d x)],rfl,by
  rcases hx x h with ⟨i,rfl⟩ | ⟨b,rfl⟩
  ·exact zi rfl (zhy (k:=k))
  ·exact zi rfl (zlj (k:=k))⟩
theorem zeq{xs ys:List PyData}(h1:PyData.canLayAll0 xs=true)(h2:PyData.canLayAll0 ys=true)(h3:(PyData.tuple ys).depth≤100):eqOk (.tuple xs) (.tuple ys)=true:=by
 unfold eqOk
 rw[show (PyData.tuple xs).canLay0=true from h1,show (PyData.tuple ys).canLay0=true from h2,decide_eq_true (Nat.le_trans (Nat.min_le_right _ _) h3)];rfl
theorem zhp:∀ c:List Int,PyData.canLayAll0 (c.map fun i=>if i < 0 then PyData.int i else .bool (decide (i=1)))=true
 | []=>rfl
 | i::c=>by
   show ((if i < 0 then PyData.int i else .bool (decide (i=1))).canLay0 && PyData.canLayAll0 (c.map _))=true
   rw[zhp c,Bool.and_true]
   by_cases h:i < 0
   ·rw[if_pos h];rfl
   ·rw[if_neg h];rfl
theorem zlp{k:Nat}{xs:List PyData}{c:List Int}{e:Bool}(hx:∀ x∈xs,(∃ i,x=.int i)∨∃ b,x=.bool b)(hl:xs.length≤line)(he:cmpV .eq (.d (.tuple xs)) (.d (caseD c)) []=.ok (.d (.bool e)) []) :
 ze P table (k+2) false 22 [.d (.tuple xs),.d (caseD c)] []=.ok (.d (.bool (e && xs.all ve))) []:=by
 refine zo (fn:=c22) rfl ⟨rfl,by decide⟩ rfl (zg (yr (yh rfl ?_)))
 cases e with
 | true=>exact yh (zh rfl rfl he) (zgr hx hl)
 | false=>exact xt (zh rfl rfl he)
theorem zgq{k m:Nat}{a c:List Int}(hm:m4 m)(h:good m a):ze P table (k+2) false 22 [.d (caseD a),.d (caseD c)] []=.ok (.d (.bool (decide (a=c)))) []:=by
 have hl:(a.map PyData.int).length≤line:=by rw[List.length_map,h.1];exact Nat.le_trans hm.2 (by decide)
 refine (zlp (e:=decide (a=c)) (fun x hx=>?_) hl ?_).trans ?_
 ·obtain⟨i,_,rfl⟩:=List.mem_map.mp hx;exact .inl ⟨i,rfl⟩
 ·rw[v_eq]
  show opt (Option.map _ (if eqOk (caseD a) (caseD c)=true then some (PyData.eqv (caseD a) (caseD c)) else none)) []=_
  rw[if_pos (show eqOk (caseD a) (caseD c)=true from zeq (lays a) (lays c) (Nat.le_trans (jn c) (by decide))),za0];rfl
 ·rw[show ((a.map PyData.int).all ve)=true from List.all_eq_true.mpr fun x hx=>by obtain⟨i,_,rfl⟩:=List.mem_map.mp hx;rfl,Bool.and_true]
theorem zi7{k m:Nat}{a c:List Int}(hm:m4 m)(h:good m a)(hn:(a.all fun i=>decide (i < 0))=false):ze P table (k+2) false 22 [.d (truD a),.d (caseD c)] []=.ok (.d (.bool false)) []:=by
 have hl:(a.map fun i=>if i < 0 then PyData.int i else .bool (decide (i=1))).length≤line:=by rw[List.length_map,h.1];exact Nat.le_trans hm.2 (by decide)
 refine (zlp (e:=PyData.eqv (truD a) (caseD c)) (fun x hx=>?_) hl ?_).trans ?_
 ·obtain⟨i,_,rfl⟩:=List.mem_map.mp hx
  by_cases hi:i < 0
  ·rw[if_pos hi];exact .inl ⟨i,rfl⟩
  ·rw[if_neg hi];exact .inr ⟨_,rfl⟩
 ·rw[v_eq]
  show opt (Option.map _ (if eqOk (truD a) (caseD c)=true then some (PyData.eqv (truD a) (caseD c)) else none)) []=_
  rw[if_pos (show eqOk (truD a) (caseD c)=true from zeq (zhp a) (lays c) (Nat.le_trans (jn c) (by decide)))];rfl
 ·have:((a.map fun i=>if i < 0 then PyData.int i else .bool (decide (i=1))).all ve)=false:=by
   rw[← hn,List.all_map]
   congr 1
   funext i
   show ve (if i < 0 then PyData.int i else .bool (decide (i=1)))=decide (i < 0)
   by_cases hi:i < 0
   ·rw[if_pos hi,decide_eq_true hi];rfl
   ·rw[if_neg hi,decide_eq_false hi];rfl
  rw[this,Bool.and_false]
theorem zqx{m:Nat}{cs:Cs}{x:PyData}(hm:m4 m)(h:Ok12 m cs)(hx:XOk m x):∃ b,(∀ k,ze P table (k+3) false 8 (yi m cs (.tuple [.str sT,x])) []=.ok (.d (.bool b)) [])∧(∀ k,ze P table (k+3) false 23 (yi m cs (.tuple [.str sT,x])) []=.ok (.d (.bool b)) [])∧(b=true→∃ c,x=caseD c∧cs=[c]):=by
 cases hx with
 | case c hc=>
   refine⟨decide (cs=[c]),fun k=>(dm (b:=true) (za6 hm hc) fun _=>u0 (b:=[c])).trans rfl,fun k=>za3 h (fun c' e=>(zgq hm hc).trans ?_) fun hn=>decide_eq_false (hn c),fun hb=>⟨c,rfl,of_decide_eq_true hb⟩⟩
   subst e
   congr 3
   exact decide_eq_decide.mpr ⟨fun e=>by rw[e],fun e=>(List.cons.inj e).1.symm⟩
 | list xs=>exact⟨false,fun k=>(dm (b:=false) (c:=false) (by kernel_rfl) fun h=>nomatch h).trans rfl,fun k=>za3 h (fun c e=>by kernel_rfl) fun _=>rfl,fun hb=>nomatch hb⟩
 | tru c hc hn=>
   refine⟨false,fun k=>?_,fun k=>za3 h (fun c' e=>zi7 hm hc hn) fun _=>rfl,fun hb=>nomatch hb⟩
   have:=zi4 (k:=k) hm hc
   rw[hn] at this
   exact (dm (b:=false) (c:=false) this fun h=>nomatch h).trans rfl
theorem nt1{P:Pg}{ρ:Loc}{O O':za}{a:CE}(h:evE P ρ a O=.ok (.d (.bool true)) O'):evE P ρ (.nt a) O=.ok (.d (.bool false)) O':=w_nt h
theorem nt0{P:Pg}{ρ:Loc}{O O':za}{a:CE}(h:evE P ρ a O=.ok (.d (.bool false)) O'):evE P ρ (.nt a) O=.ok (.d (.bool true)) O':=w_nt h
noncomputable def outR(b:Bool)(ρ:Loc):R (Loc×za) Fl:=if b then .ok .next (ρ,[]) else .ok (.ret (.d (.bool false))) (ρ,[])
noncomputable def zipB:CSs:=(.cons (.ife (.and_ (.cmp .eq (.loc 3) (.list .nil)) (.cmp .isnot (.loc 4) .none)) (.cons (.ret (.bool false)) .nil) .nil) (.cons (.ife (.and_ (.cmp .ne (.loc 3) (.list .nil)) (.nt (.call 8 (.cons (.loc 0) (.cons (.loc 3) (.cons (.loc 4) .nil)))))) (.cons (.ret (.bool false)) .nil) .nil) .nil))
structure Part(m k f:Nat)(cs:Cs)(d:PyData)(b:Bool):Prop where
 no:cs=[]→b=isNone d
 yes:cs≠[]→ze P table k false f (yi m cs d) []=.ok (.d (.bool b)) []
theorem zjy{k m:Nat}{cs:Cs}{d:PyData}{b:Bool}{a0 a1:Option V}(h:Part m k 8 cs d b) :
 evSs (PG k false) zipB [some (.d (.int m)),a0,a1,some (.d (.list (zb cs))),some (.d d)] []=outR b [some (.d (.int m)),a0,a1,some (.d (.list (zb cs))),some (.d d)]:=by
 have hi:cmpV .isnot (.d d) (.d .none) []=.ok (.d (.bool (!isNone d))) []:=rfl
 have he:evE (PG k false) [some (.d (.int m)),a0,a1,some (.d (.list (zb cs))),some (.d d)] (.cmp .eq (.loc 3) (.list .nil)) []=.ok (.d (.bool (decide (cs=[])))) []:=zh rfl rfl zdh
 have hn:evE (PG k false) [some (.d (.int m)),a0,a1,some (.d (.list (zb cs))),some (.d d)] (.cmp .ne (.loc 3) (.list .nil)) []=.ok (.d (.bool (!decide (cs=[])))) []:=zh rfl rfl zhl
 by_cases hc:cs=[]
 ·rw[decide_eq_true hc] at he hn
  rw[h.no hc]
  cases hb:isNone d with
  | true=>
    rw[hb] at hi
    exact (zc (zm (yh he (zh rfl rfl hi)))).trans ((zc (zm (xt hn))).trans rfl)
  | false=>
    rw[hb] at hi
    exact zg ((w_if (yh he (zh rfl rfl hi))).trans rfl)
 ·rw[decide_eq_false hc] at he hn
  have hy:=h.yes hc
  refine (zc (zm (xt he))).trans ?_
  cases b with
  | true=>exact (zc (zm (yh hn (nt1 (zi rfl hy))))).trans rfl
  | false=>exact zg ((w_if (bb:=true) (yh hn (nt0 (zi rfl hy)))).trans rfl)
theorem zs3{evb:Loc→R (Loc×za) Fl}{a0 a1 a2 a3 a4:Option V}{x1 x2 x3 y1 y2 y3:PyData}{b1 b2 b3:Bool}(h1:evb [a0,a1,a2,some (.d x1),some (.d y1)]=outR b1 [a0,a1,a2,some (.d x1),some (.d y1)])
 (h2:evb [a0,a1,a2,some (.d x2),some (.d y2)]=outR b2 [a0,a1,a2,some (.d x2),some (.d y2)]) (h3:evb [a0,a1,a2,some (.d x3),some (.d y3)]=outR b3 [a0,a1,a2,some (.d x3),some (.d y3)]) :
 ∃ ρ',xr 3 4 evb [x1,x2,x3] [y1,y2,y3] [a0,a1,a2,a3,a4]=outR (b1 && (b2 && b3)) ρ':=by
 have step:∀ {a3 a4:Option V} {x y:PyData} {xs ys:List PyData} {b c:Bool},evb [a0,a1,a2,some (.d x),some (.d y)]=outR b [a0,a1,a2,some (.d x),some (.d y)]→(∃ ρ',xr 3 4 evb xs ys [a0,a1,a2,some (.d x),some (.d y)]=outR c ρ')→∃ ρ',xr 3 4 evb (x::xs) (y::ys) [a0,a1,a2,a3,a4]=outR (b && c) ρ':=fun {a3 a4 x y xs ys b c} h hr=>by
  show ∃ ρ',(match evb [a0,a1,a2,some (.d x),some (.d y)] with
   | .ok (.ret v) S=>.ok (.ret v) S
   | .ok .next _=>xr 3 4 evb xs ys [a0,a1,a2,some (.d x),some (.d y)]
   | _=>.stuck)=outR (b && c) ρ'
  rw[h]
  cases b with
  | true=>exact hr
  | false=>exact⟨_,rfl⟩
 obtain⟨ρ',e⟩:=step (a3:=a3) (a4:=a4) h1 (step h2 (step (c:=true) (xs:=[]) (ys:=[]) h3 ⟨_,rfl⟩))
 exact⟨ρ',by rw[e,Bool.and_true]⟩
theorem zpa{P:Pg}{ρ:Loc}{O:za}{a b:CE}{c:CSs}{i j:Nat}{xs ys:List PyData}(hd:P.hd=false)(ha:evE P ρ a O=.ok (.d (.list xs)) O)(hb:evE P ρ b O=.ok (.d (.tuple ys)) []):evS P (.forZ i j a b c) ρ O=xr i j (fun ρ=>evSs P c ρ []) xs ys ρ:=by
 show (if P.hd=true then .stuck else _:R (Loc×za) Fl)=_
 rw[if_neg (by rw[hd];decide),ha,zu,hb];rfl
noncomputable abbrev yg(w d1 d2 d3:PyData):PyData:=.tuple [.str sW,w,.tuple [d1,d2,d3]]
theorem zhd{P:Pg}{st:CS}{ρ ρ':Loc}{b:Bool}(h:evS P st ρ []=outR b ρ'):∃ ρ'',evSs P (.cons st (.cons (.ret (.bool true)) .nil)) ρ []=.ok (.ret (.d (.bool b))) (ρ'',[]):=by
 cases b with
 | true=>exact⟨ρ',(zc h).trans rfl⟩
 | false=>exact⟨ρ',zg h⟩
theorem zet{k m:Nat}{w:Wg}{cs:Cs}{d1 d2 d3:PyData}{b1 b2 b3:Bool}(h5:ze P table k false 5 [.d (.int m),.d (wD w)] []=.ok (.d (.bool true)) [])(h7:ze P table k false 7 [.d (wD w),.d (.list (zb cs))] []=.ok (.d (.list (zf2 w cs))) [])
 (p1:Part m k 8 (zz w (-1) cs) d1 b1) (p2:Part m k 8 (zz w 0 cs) d2 b2) (p3:Part m k 8 (zz w 1 cs) d3 b3):ze P table (k+1) false 8 (yi m cs (yg (wD w) d1 d2 d3)) []=.ok (.d (.bool (b1 && (b2 && b3)))) []:=by
 obtain⟨ρ',e⟩:=zs3 (a3:=none) (a4:=none) (a0:=some (.d (.int m))) (a1:=some (.d (.list (zb cs)))) (a2:=some (.d (yg (wD w) d1 d2 d3))) (evb:=fun ρ=>evSs (PG k false) zipB ρ []) (zjy p1) (zjy p2) (zjy p3)
 obtain⟨ρ'',e'⟩:=zhd ((zpa (P:=PG k false) (O:=[]) (i:=3) (j:=4) (c:=zipB) (ρ:=[some (.d (.int m)),some (.d (.list (zb cs))),some (.d (yg (wD w) d1 d2 d3)),none,none]) (a:=.call 7 (.cons (.idx (.loc 2) (.int 1)) (.cons (.loc 1) .nil))) (b:=.idx (.loc 2) (.int 2)) rfl (zi rfl h7) rfl).trans e)
 exact zo (fn:=c8) (ρ':=ρ'') rfl ⟨rfl,by decide⟩ rfl ((zc (zm rfl)).trans ((zc (zm (zh rfl rfl q_WT))).trans ((zc (zm (yu (zh rfl rfl n_WW) (yu rfl (nt1 (zi rfl h5)))))).trans ((zc (zm rfl)).trans e'))))
noncomputable def l23B:CSs:=(.cons (.asg (.name 4) (.comp (.loc 6) (.name 6) (.e (.loc 1)) (.cons (.cmp .eq (.call 15 (.cons (.idx (.loc 2) (.int 1)) (.cons (.loc 6) .nil))) (.bin .sub (.loc 3) (.int 1))) .nil))) (.cons (.asg (.name 5) (.idx (.idx (.loc 2) (.int 2)) (.loc 3))) (.cons (.ife (.or_ (.and_ (.cmp .eq (.loc 4) (.list .nil)) (.cmp .isnot (.loc 5) .none)) (.and_ (.cmp .ne (.loc 4) (.list .nil)) (.nt (.call 23 (.cons (.loc 0) (.cons (.loc 4) (.cons (.loc 5) .nil))))))) (.cons (.ret (.bool false)) .nil) .nil) .nil)))
theorem zjz{k m:Nat}{w:Wg}{cs:Cs}{d1 d2 d3 d:PyData}{j o:Int}{b:Bool}{z3 z4 z5:Option V}(hm:m4 m)(hw:w∈wsI m)(h:Ok12 m cs)(hd:idxD (.tuple [d1,d2,d3]) (.int j)=some d)(ho:j - 1=o)(p:Part m (k+1) 23 (zz w o cs) d b) :
 ∃ y4 y5,jb (PG (k+1) false) (.name 3) l23B (.int j) [some (.d (.int m)),some (.d (.list (zb cs))),some (.d (yg (wD w) d1 d2 d3)),z3,z4,z5,none] []=outR b [some (.d (.int m)),some (.d (.list (zb cs))),some (.d (yg (wD w) d1 d2 d3)),some (.d (.int j)),y4,y5,none]:=by
 subst ho
 refine⟨some (.d (.list (zb (zz w (j - 1) cs)))),some (.d d),?_⟩
 have ep:=zgp (k:=k+1) (f:=15) (a:=6) (b:=1) (w:=w) (o:=j - 1) (wx:=.idx (.loc 2) (.int 1)) (ox:=.bin .sub (.loc 3) (.int 1)) (ρ:=[some (.d (.int m)),some (.d (.list (zb cs))),some (.d (yg (wD w) d1 d2 d3)),some (.d (.int j)),z4,z5,none]) (O:=[]) h (vo hm hw) rfl rfl (fun _=>rfl) fun _=>rfl
 show evSs (PG (k+1) false) l23B [some (.d (.int m)),some (.d (.list (zb cs))),some (.d (yg (wD w) d1 d2 d3)),some (.d (.int j)),z4,z5,none] []=_
 refine (zc (zr ep rfl rfl)).trans ?_
 refine (zc (zr (v:=.d d) (O':=[]) (xn (v:=.d (.tuple [d1,d2,d3])) rfl rfl (by rw[x4,hd];rfl)) rfl rfl)).trans ?_
 generalize hcs:zz w (j - 1) cs=cs' at p
 have hi:cmpV .isnot (.d d) (.d .none) []=.ok (.d (.bool (!isNone d))) []:=rfl
 have he:evE (PG (k+1) false) [some (.d (.int m)),some (.d (.list (zb cs))),some (.d (yg (wD w) d1 d2 d3)),some (.d (.int j)),some (.d (.list (zb cs'))),some (.d d),none] (.cmp .eq (.loc 4) (.list .nil)) []=.ok (.d (.bool (decide (cs'=[])))) []:=zh rfl rfl zdh
 have hn:evE (PG (k+1) false) [some (.d (.int m)),some (.d (.list (zb cs))),some (.d (yg (wD w) d1 d2 d3)),some (.d (.int j)),some (.d (.list (zb cs'))),some (.d d),none] (.cmp .ne (.loc 4) (.list .nil)) []=.ok (.d (.bool (!decide (cs'=[])))) []:=zh rfl rfl zhl
 by_cases hc:cs'=[]
 ·rw[decide_eq_true hc] at he hn
  rw[p.no hc]
  cases hb:isNone d with
  | true=>
    rw[hb] at hi
    exact (zc (zm (yu (yh he (zh rfl rfl hi)) (xt hn)))).trans rfl
  | false=>
    rw[hb] at hi
    exact zg ((w_if (zjs (yh he (zh rfl rfl hi)))).trans rfl)
 ·rw[decide_eq_false hc] at he hn
  have hy:=p.yes hc
  cases b with
  | true=>exact (zc (zm (yu (xt he) (yh hn (nt1 (zi rfl hy)))))).trans rfl
  | false=>exact zg ((w_if (bb:=true) (yu (xt he) (yh hn (nt0 (zi rfl hy))))).trans rfl)
theorem uw{ys:List PyData}{turn:PyData→Loc→za→R (Loc×za) Fl}{x:PyData}{xs:List PyData}{ρ ρ₁:Loc}{b c:Bool}(h:turn x ρ []=outR b ρ₁)(hr:∃ ρ',y6 (.plain ys) turn xs ρ₁ []=outR c ρ'):∃ ρ',y6 (.plain ys) turn (x::xs) ρ []=outR (b && c) ρ':=by
 cases b with
 | true=>exact let ⟨ρ',e⟩:=hr;⟨ρ',(xy h).trans e⟩
 | false=>exact⟨ρ₁,by rw[y6,h];rfl⟩
theorem zi3{k m:Nat}{w:Wg}{cs:Cs}{d1 d2 d3:PyData}{b1 b2 b3:Bool}(hm:m4 m)(hw:w∈wsI m)(h:Ok12 m cs)(h21:ze P table (k+1) false 21 [.d (.int m),.d (wD w)] []=.ok (.d (.bool true)) [])
 (p1:Part m (k+1) 23 (zz w (-1) cs) d1 b1) (p2:Part m (k+1) 23 (zz w 0 cs) d2 b2) (p3:Part m (k+1) 23 (zz w 1 cs) d3 b3):ze P table (k+2) false 23 (yi m cs (yg (wD w) d1 d2 d3)) []=.ok (.d (.bool (b1 && (b2 && b3)))) []:=by
 obtain⟨u1,v1,e1⟩:=zjz (z3:=none) (z4:=none) (z5:=none) (j:=0) (d:=d1) (o:=-1) hm hw h rfl rfl p1
 obtain⟨u2,v2,e2⟩:=zjz (z3:=some (.d (.int 0))) (z4:=u1) (z5:=v1) (j:=1) (d:=d2) (o:=0) hm hw h rfl rfl p2
 obtain⟨u3,v3,e3⟩:=zjz (z3:=some (.d (.int 1))) (z4:=u2) (z5:=v2) (j:=2) (d:=d3) (o:=1) hm hw h rfl rfl p3
 obtain⟨ρ',e⟩:=uw (ys:=[.int 0,.int 1,.int 2]) e1 (uw e2 (uw (c:=true) (xs:=[]) e3 ⟨_,rfl⟩))
 rw[Bool.and_true] at e
 have hf:evS (PG (k+1) false) (.for_ (.name 3) (.range (.int 0) (.int 3)) l23B) [some (.d (.int m)),some (.d (.list (zb cs))),some (.d (yg (wD w) d1 d2 d3)),none,none,none,none] []=outR (b1 && (b2 && b3)) ρ':=by
  have hI:evI (PG (k+1) false) [some (.d (.int m)),some (.d (.list (zb cs))),some (.d (yg (wD w) d1 d2 d3)),none,none,none,none] (.range (.int 0) (.int 3)) []=.ok (.plain [.int 0,.int 1,.int 2]) []:=rfl
  rw[ww,if_neg Bool.false_ne_true,hI]
  exact e
 obtain⟨ρ'',e'⟩:=zhd hf
 exact zo (fn:=c23) (ρ':=ρ'') rfl ⟨rfl,by decide⟩ rfl ((zc (zm rfl)).trans ((zc (zm (zh rfl rfl q_WT))).trans ((zc (zm (yu (zh rfl rfl n_WW) (yu rfl (nt1 (zi rfl h21)))))).trans ((zc (zm rfl)).trans e'))))
noncomputable abbrev wsQ(m k f:Nat)(g:Wg→PyData)(b:Bool):Prop:=(wsI m).map (fun w=>ze P table (k+3) false f [.d (.int m),.d (g w)] [])=(wsI m).map fun _=>.ok (.d (.bool b)) []
noncomputable def same(w:Wg):PyData:=wOf w.1 w.1
theorem w5_2{k:Nat}:wsQ 2 k 5 wD true:=by kernel_rfl
theorem w5_3{k:Nat}:wsQ 3 k 5 wD true:=by kernel_rfl
theorem w5_4{k:Nat}:wsQ 4 k 5 wD true:=by kernel_rfl
theorem w5_5{k:Nat}:wsQ 5 k 5 wD true:=by kernel_rfl
theorem zrv{k:Nat}:wsQ 2 k 21 wD true:=by kernel_rfl
theorem zru{k:Nat}:wsQ 3 k 21 wD true:=by kernel_rfl
theorem zrt{k:Nat}:wsQ 4 k 21 wD true:=by kernel_rfl
theorem zrs{k:Nat}:wsQ 5 k 21 wD true:=by kernel_rfl
theorem s5_2{k:Nat}:wsQ 2 k 5 same false:=by kernel_rfl
theorem s5_3{k:Nat}:wsQ 3 k 5 same false:=by kernel_rfl
theorem s5_4{k:Nat}:wsQ 4 k 5 same false:=by kernel_rfl
theorem s5_5{k:Nat}:wsQ 5 k 5 same false:=by kernel_rfl
theorem zr6{k:Nat}:wsQ 2 k 21 same false:=by kernel_rfl
theorem zr5{k:Nat}:wsQ 3 k 21 same false:=by kernel_rfl
theorem zr4{k:Nat}:wsQ 4 k 21 same false:=by kernel_rfl
theorem zr3{k:Nat}:wsQ 5 k 21 same false:=by kernel_rfl
structure WOk(m k:Nat)(w:PyData)(b:Bool):Prop where
 a:ze P table (k+3) false 5 [.d (.int m),.d w] []=.ok (.d (.bool b)) []
 b:ze P table (k+3) false 21 [.d (.int m),.d w] []=.ok (.d (.bool b)) []
theorem w_ok{k m:Nat}{w:Wg}(hm:m4 m)(hw:w∈wsI m):WOk m k (wD w) true∧WOk m k (same w) false:=by
 rcases gu hm with rfl | rfl | rfl | rfl
 ·exact⟨⟨yx w5_2 hw,yx zrv hw⟩,yx s5_2 hw,yx zr6 hw⟩
 ·exact⟨⟨yx w5_3 hw,yx zru hw⟩,yx s5_3 hw,yx zr5 hw⟩
 ·exact⟨⟨yx w5_4 hw,yx zrt hw⟩,yx s5_4 hw,yx zr4 hw⟩
 ·exact⟨⟨yx w5_5 hw,yx zrs hw⟩,yx s5_5 hw,yx zr3 hw⟩
inductive BadW(m:Nat):PyData→Prop
 | same (w:Wg) (h:w∈wsI m):BadW m (same w)
 | list (xs:List PyData):BadW m (.list xs)
 | none:BadW m .none
theorem BadW.ok{k m:Nat}{w:PyData}(hm:m4 m)(h:BadW m w):WOk m k w false:=by
 cases h with
 | same w h=>exact (w_ok hm h).2
 | list xs=>exact⟨by kernel_rfl,by kernel_rfl⟩
 | none=>exact⟨by kernel_rfl,by kernel_rfl⟩
inductive BadP:PyData→Prop
 | none:BadP .none
 | list (xs:List PyData):BadP (.list xs)
 | unit:BadP (.tuple [])
 | two (x y:PyData):BadP (.tuple [x,y])
 | four (x y z u:PyData):BadP (.tuple [x,y,z,u])
theorem zlu{k m:Nat}{cs:Cs}{w p:PyData}(h:WOk m k w false):ze P table (k+4) false 8 (yi m cs (.tuple [.str sW,w,p])) []=.ok (.d (.bool false)) []∧ze P table (k+4) false 23 (yi m cs (.tuple [.str sW,w,p])) []=.ok (.d (.bool false)) []:=
 ⟨zo (fn:=c8) rfl ⟨rfl,by decide⟩ rfl ((zc (zm rfl)).trans ((zc (zm (zh rfl rfl q_WT))).trans (zg ((w_if (bb:=true) (yu (zh rfl rfl n_WW) (yu rfl (nt0 (zi rfl h.a))))).trans rfl)))),
  zo (fn:=c23) rfl ⟨rfl,by decide⟩ rfl ((zc (zm rfl)).trans ((zc (zm (zh rfl rfl q_WT))).trans (zg ((w_if (bb:=true) (yu (zh rfl rfl n_WW) (yu rfl (nt0 (zi rfl h.b))))).trans rfl))))⟩
theorem zlv{k m:Nat}{cs:Cs}{w p:PyData}(h:WOk m k w true)(hp:BadP p):ze P table (k+4) false 8 (yi m cs (.tuple [.str sW,w,p])) []=.ok (.d (.bool false)) []∧ze P table (k+4) false 23 (yi m cs (.tuple [.str sW,w,p])) []=.ok (.d (.bool false)) []:=by
 have key:∀ (z:List (Option V)),evE (PG (k+3) false) ([some (.d (.int m)),some (.d (.list (zb cs))),some (.d (.tuple [.str sW,w,p]))]++z) (.or_ (.nt (.prim (.isinst .tuple) (.cons (.idx (.loc 2) (.int 2)) .nil))) (.cmp .ne (.prim .len (.cons (.idx (.loc 2) (.int 2)) .nil)) (.int 3))) []=.ok (.d (.bool true)) []:=fun z=>by cases hp <;> rfl
 exact⟨zo (fn:=c8) rfl ⟨rfl,by decide⟩ rfl ((zc (zm rfl)).trans ((zc (zm (zh rfl rfl q_WT))).trans ((zc (zm (yu (zh rfl rfl n_WW) (yu rfl (nt1 (zi rfl h.a)))))).trans (zg ((w_if (key [none,none])).trans rfl))))),
  zo (fn:=c23) rfl ⟨rfl,by decide⟩ rfl ((zc (zm rfl)).trans ((zc (zm (zh rfl rfl q_WT))).trans ((zc (zm (yu (zh rfl rfl n_WW) (yu rfl (nt1 (zi rfl h.b)))))).trans (zg ((w_if (key [none,none,none,none])).trans rfl)))))⟩
inductive Thing(m:Nat):Nat→PyData→Prop
 | bad {n:Nat} {d:PyData} (h:Bad d):Thing m n d
 | told {n:Nat} {x:PyData} (h:XOk m x):Thing m n (.tuple [.str sT,x])
 | badW {n:Nat} {w p:PyData} (h:BadW m w):Thing m n (.tuple [.str sW,w,p])
 | badP {n:Nat} {w:Wg} {p:PyData} (hw:w∈wsI m) (h:BadP p):Thing m n (.tuple [.str sW,wD w,p])
 | weigh {n:Nat} {w:Wg} {a b c:PyData} (hw:w∈wsI m) (ha:Thing m n a) (hb:Thing m n b) (hc:Thing m n c):Thing m (n+1) (yg (wD w) a b c)
structure Says(m n:Nat)(cs:Cs)(d:PyData)(b:Bool):Prop where
 a:∀ k,ze P table (k+n+4) false 8 (yi m cs d) []=.ok (.d (.bool b)) []
 l:∀ k,ze P table (k+n+4) false 23 (yi m cs d) []=.ok (.d (.bool b)) []
 yes:b=true→∃ p:Pl,d=p.toD∧p.fits m cs∧p.hgt≤n
theorem zgh{d:PyData}(h:isNone d=true):d=.none:=by cases d <;> first | rfl | cases h
inductive ztp(m n:Nat)(cs:Cs)(d:PyData)(b:Bool):Prop
 | mk (p8:∀ k,Part m (k+n+4) 8 cs d b) (p23:∀ k,Part m (k+n+4) 23 cs d b) (yes:b=true→∃ p:Pl,d=p.toD∧p.fits m cs∧p.hgt≤n)
theorem dz{m n:Nat}{cs:Cs}{d:PyData}(h:cs≠[]→∃ b,Says m n cs d b):∃ b,ztp m n cs d b:=by
 by_cases hc:cs=[]
 ·exact⟨isNone d,fun k=>⟨fun _=>rfl,fun h=>absurd hc h⟩,fun k=>⟨fun _=>rfl,fun h=>absurd hc h⟩,fun hb=>⟨.no,zgh hb,hc,Nat.zero_le _⟩⟩
 ·obtain⟨b,s⟩:=h hc
  exact⟨b,fun k=>⟨fun h=>absurd h hc,fun _=>s.a k⟩,fun k=>⟨fun h=>absurd h hc,fun _=>s.l k⟩,s.yes⟩
theorem znr{m:Nat}(hm:m4 m){n:Nat}{d:PyData}(t:Thing m n d):∀ {cs:Cs},Ok12 m cs→cs≠[]→∃ b,Says m n cs d b:=by
 induction t with
 | bad h=>exact fun _ _=>⟨false,fun k=>(zlw h).1,fun k=>(zlw h).2,fun hb=>nomatch hb⟩
 | @told n x h=>
   intro cs hc _
   obtain⟨b,h1,h2,h3⟩:=zqx hm hc h
   exact⟨b,fun k=>h1 (k+n+1),fun k=>h2 (k+n+1),fun hb=>let ⟨c,e,e'⟩:=h3 hb;⟨.told c,by rw[e];rfl,e',Nat.zero_le _⟩⟩
 | @badW n w p h=>exact fun _ _=>⟨false,fun k=>(zlu (k:=k+n) (h.ok hm)).1,fun k=>(zlu (k:=k+n) (h.ok hm)).2,fun hb=>nomatch hb⟩
 | @badP n w p hw h=>exact fun _ _=>⟨false,fun k=>(zlv (k:=k+n) (w_ok hm hw).1 h).1,fun k=>(zlv (k:=k+n) (w_ok hm hw).1 h).2,fun hb=>nomatch hb⟩
 | @weigh n w a b c hw _ _ _ iha ihb ihc=>
   intro cs hc hne
   obtain⟨b1,p1,q1,y1⟩:=dz fun h=>iha (hc.part w (-1)) h
   obtain⟨b2,p2,q2,y2⟩:=dz fun h=>ihb (hc.part w 0) h
   obtain⟨b3,p3,q3,y3⟩:=dz fun h=>ihc (hc.part w 1) h
   refine⟨b1 && (b2 && b3),fun k=>?_,fun k=>?_,fun hb=>?_⟩
   ·exact zet (k:=k+n+4) (w_ok (k:=k+n+1) hm hw).1.a (zeu (k:=k+n+2) hm hw hc) (p1 k) (p2 k) (p3 k)
   ·exact zi3 (k:=k+n+3) hm hw hc (w_ok (k:=k+n+1) hm hw).1.b (q1 k) (q2 k) (q3 k)
   ·rw[Bool.and_eq_true,Bool.and_eq_true] at hb
    obtain⟨l1,r1,f1,g1⟩:=y1 hb.1
    obtain⟨l2,r2,f2,g2⟩:=y2 hb.2.1
    obtain⟨l3,r3,f3,g3⟩:=y3 hb.2.2
    exact⟨.weigh w l1 l2 l3,by rw[r1,r2,r3];rfl,⟨hw,hne,f1,f2,f3⟩,Nat.succ_le_succ (Nat.max_le.mpr ⟨g1,Nat.max_le.mpr ⟨g2,g3⟩⟩)⟩
theorem Thing.up{m n n':Nat}{d:PyData}(t:Thing m n d):n≤n'→Thing m n' d:=by
 induction t generalizing n' with
 | bad h=>exact fun _=>.bad h
 | told h=>exact fun _=>.told h
 | badW h=>exact fun _=>.badW h
 | badP hw h=>exact fun _=>.badP hw h
 | weigh hw _ _ _ ia ib ic=>
   intro h
   cases n' with
   | zero=>exact absurd h (Nat.not_succ_le_zero _)
   | succ n'=>exact .weigh hw (ia (Nat.le_of_succ_le_succ h)) (ib (Nat.le_of_succ_le_succ h)) (ic (Nat.le_of_succ_le_succ h))
theorem Pl.thing{m:Nat}:∀ (p:Pl) (cs:Cs),p.fits m cs→Ok12 m cs→Thing m p.hgt p.toD
 | .no,_,_,_=>.bad .none
 | .told c,cs,h,hc=>.told (.case c (hc.good c (by rw[show cs=[c] from h];exact .head _)))
 | .weigh w a b c,cs,h,hc=>by
   obtain⟨hw,_,ha,hb,hd⟩:=h
   exact .weigh hw ((Pl.thing a _ ha (hc.part _ _)).up (Nat.le_max_left _ _)) ((Pl.thing b _ hb (hc.part _ _)).up (Nat.le_trans (Nat.le_max_left _ _) (Nat.le_max_right _ _))) ((Pl.thing c _ hd (hc.part _ _)).up (Nat.le_trans (Nat.le_max_right _ _) (Nat.le_max_right _ _)))
theorem kw{m k n:Nat}{p:Pl}{cs:Cs}(h:p.fits m cs)(hn:p.hgt≤n)(ih:cs≠[]→∀ k,ze P table (k+p.hgt+4) false 8 (yi m cs p.toD) []=.ok (.d (.bool true)) []):Part m (k+n+4) 8 cs p.toD true:=
 ⟨fun hc=>by subst hc;rw[Pl.fits_nil h];rfl,fun hc=>by have:=ih hc (k+(n - p.hgt));rwa [show k+(n - p.hgt)+p.hgt+4=k+n+4 by omega] at this⟩
theorem zdj{m:Nat}(hm:m4 m):∀ (p:Pl) (cs:Cs),p.fits m cs→Ok12 m cs→cs≠[]→∀ k,ze P table (k+p.hgt+4) false 8 (yi m cs p.toD) []=.ok (.d (.bool true)) []
 | .no,cs,h,_,hne,_=>absurd h hne
 | .told c,cs,h,hc,_,k=>by
   have h:cs=[c]:=h
   have hg:good m c:=hc.good c (by rw[h];exact .head _)
   refine (dm (k:=k+3) (b:=true) (c:=true) (za6 (k:=k+1) hm hg) fun _=>?_).trans rfl
   rw[h]
   exact (u0 (a:=[c]) (b:=[c])).trans (by rw[decide_eq_true rfl])
 | .weigh w a b c,cs,h,hc,_,k=>by
   obtain⟨hw,_,ha,hb,hd⟩:=h
   exact zet (k:=k+max a.hgt (max b.hgt c.hgt)+4) (b1:=true) (b2:=true) (b3:=true) (w_ok (k:=k+max a.hgt (max b.hgt c.hgt)+1) hm hw).1.a (zeu (k:=k+max a.hgt (max b.hgt c.hgt)+2) hm hw hc)
    (kw ha (Nat.le_max_left _ _) fun hne=>zdj hm a _ ha (hc.part _ _) hne) (kw hb (Nat.le_trans (Nat.le_max_left _ _) (Nat.le_max_right _ _)) fun hne=>zdj hm b _ hb (hc.part _ _) hne) (kw hd (Nat.le_trans (Nat.le_max_right _ _) (Nat.le_max_right _ _)) fun hne=>zdj hm c _ hd (hc.part _ _) hne)
theorem zoz{src:Src}{turn:PyData→za→R za (Option PyData)}{x1 x2 x3:PyData}{y1 y2 y3:Option PyData}{O:za}(hs:src.still O=true)(h1:turn x1 O=.ok y1 O)(h2:turn x2 O=.ok y2 O)(h3:turn x3 O=.ok y3 O) :
 z7 src turn [x1,x2,x3] [] O=.ok (.d (.list (y1.toList++(y2.toList++y3.toList)))) O:=by
 have st:∀ {x:PyData} {y:Option PyData} {xs acc:List PyData},turn x O=.ok y O→z7 src turn (x::xs) acc O=z7 src turn xs (acc++y.toList) O:=fun h=>by rw[z7,h];exact if_pos hs
 rw[st h1,st h2,st h3,List.append_assoc,List.append_assoc,List.nil_append];rfl
noncomputable def lenB(f:Nat):CSs:=(.cons (.ife (.cmp .eq (.idx (.loc 0) (.int 0)) (.str (Str.ofString "told"))) (.cons (.ret (.int 0)) .nil) .nil) (.cons (.ret (.bin .add (.int 1) (.maxL (.comp (.call f (.cons (.loc 1) .nil)) (.name 1) (.e (.idx (.loc 0) (.int 2))) (.cons (.cmp .isnot (.loc 1) .none) .nil))))) .nil))
noncomputable def optP(p:Pl):Option PyData:=if p.isNo then none else some (.int p.len)
theorem um(p:Pl):(optP p).toList=(optI p.isNo p.len).map .int:=by
 unfold optP optI
 cases p.isNo <;> rfl
theorem zar(p:Pl):isNone p.toD=p.isNo:=by cases p <;> rfl
theorem t_len{k f:Nat}{p:Pl}{a:Option V}(h:p.isNo=false→ze P table k false f [.d p.toD] []=.ok (.d (.int p.len)) []) :
 yz (.name 1) (fun ρ O=>xd (PG k false) ρ (.cons (.cmp .isnot (.loc 1) .none) .nil) O) (fun ρ O=>evE (PG k false) ρ (.call f (.cons (.loc 1) .nil)) O) [a,none] p.toD []=.ok (optP p) []:=by
 have hi:evE (PG k false) [a,some (.d p.toD)] (.cmp .isnot (.loc 1) .none) []=.ok (.d (.bool (!p.isNo))) []:=by
  rw[← zar];rfl
 show R.bind (xd (PG k false) [a,some (.d p.toD)] (.cons (.cmp .isnot (.loc 1) .none) .nil) []) _=_
 rw[gd,hi]
 unfold optP
 cases hn:p.isNo with
 | true=>rfl
 | false=>
   show R.bind (evE (PG k false) [a,some (.d p.toD)] (.call f (.cons (.loc 1) .nil)) []) _=_
   rw[zi rfl (h hn)];rfl
theorem zjq{P:Pg}{ρ:Loc}{O O':za}{a:CE}{is:List Int}{M:Int}(hd:P.hd=false)(h:evE P ρ a O=.ok (.d (.list (is.map .int))) O')(hM:maxI is=some M):evE P ρ (.maxL a) O=.ok (.d (.int M)) O':=by
 show (if P.hd=true then .stuck else _:R za V)=_
 rw[if_neg (by rw[hd];decide),h]
 show opt (((intsOf (is.map .int)).bind fun is=>(maxI is).map PyData.int).map V.d) O'=_
 rw[vj]
 show opt (((maxI is).map PyData.int).map V.d) O'=_
 rw[hM];rfl
theorem Pl.ne_of{m:Nat}{p:Pl}{cs:Cs}(h:p.fits m cs)(hn:p.isNo=false):cs≠[]:=fun e=>by
 subst e;rw[Pl.fits_nil h] at hn;cases hn
theorem za4{m f:Nat}{fn:Fn}(hf:table f=some fn)(hfn:fn=⟨1,2,false,lenB f⟩):∀ (p:Pl) (cs:Cs),p.fits m cs→cs≠[]→∀ k,ze P table (k+p.hgt+1) false f [.d p.toD] []=.ok (.d (.int p.len)) []
 | .no,cs,h,hne,_=>absurd h hne
 | .told c,cs,h,_,k=>by
   subst hfn
   exact zo hf ⟨rfl,Nat.le_succ 1⟩ rfl (zg ((w_if (bb:=true) (zh rfl rfl q_TT)).trans rfl))
 | .weigh w a b c,cs,h,hne,k=>by
   have hfar:=Pl.far_max h hne
   obtain⟨hw,_,ha,hb,hd⟩:=h
   have up:∀ {p:Pl} {l:Cs},p.fits m l→p.hgt≤max a.hgt (max b.hgt c.hgt)→(l≠[]→∀ k,ze P table (k+p.hgt+1) false f [.d p.toD] []=.ok (.d (.int p.len)) [])→p.isNo=false→ze P table (k+max a.hgt (max b.hgt c.hgt)+1) false f [.d p.toD] []=.ok (.d (.int p.len)) []:=fun {p l} hp hle ih hn=>by
    have:=ih (Pl.ne_of hp hn) (k+(max a.hgt (max b.hgt c.hgt) - p.hgt))
    rwa [show k+(max a.hgt (max b.hgt c.hgt) - p.hgt)+p.hgt+1=k+max a.hgt (max b.hgt c.hgt)+1 by omega] at this
   have t1:=t_len (a:=some (.d (Pl.weigh w a b c).toD)) (up ha (Nat.le_max_left _ _) (za4 hf hfn a _ ha))
   have t2:=t_len (a:=some (.d (Pl.weigh w a b c).toD)) (up hb (Nat.le_trans (Nat.le_max_left _ _) (Nat.le_max_right _ _)) (za4 hf hfn b _ hb))
   have t3:=t_len (a:=some (.d (Pl.weigh w a b c).toD)) (up hd (Nat.le_trans (Nat.le_max_right _ _) (Nat.le_max_right _ _)) (za4 hf hfn c _ hd))
   subst hfn
   have hc:=zoz (src:=.plain [a.toD,b.toD,c.toD]) rfl t1 t2 t3
   rw[um,um,um,← List.map_append,← List.map_append] at hc
   have hL:optI a.isNo a.len++(optI b.isNo b.len++optI c.isNo c.len)≠[]:=fun e=>by
    obtain⟨k',hk⟩:=List.exists_mem_of_ne_nil _ hne
    obtain⟨e1,e2⟩:=List.append_eq_nil_iff.mp e
    obtain⟨e2,e3⟩:=List.append_eq_nil_iff.mp e2
    have no:∀ {p:Pl} {o:Int},p.fits m (zz w o cs)→optI p.isNo p.len=[]→zl w k'≠o:=fun {p o} hp hn ho=>by
     have:p.isNo=false:=Pl.fits_ne hp fun e=>by have:=mem_part.mpr ⟨hk,ho⟩;rw[e] at this;cases this
     rw[this] at hn;cases hn
    rcases qz w k' with h | h | h
    ·exact no ha e1 h
    ·exact no hb e2 h
    ·exact no hd e3 h
   obtain⟨M,hM,_,_⟩:=ur hL
   have hlen:(Pl.weigh w a b c).len=1+M:=by show 1+(maxI _).getD 0=_;rw[hM];rfl
   rw[hlen]
   refine zo hf ⟨rfl,Nat.le_succ 1⟩ rfl ((zc (zm (zh rfl rfl q_WT))).trans (zg (yr (zs rfl (zjq rfl ?_ hM) wc))))
   exact hc
theorem zlo{m:Nat}{p:Pl}{cs:Cs}(h:p.fits m cs)(hne:cs≠[])(k:Nat):ze P table (k+p.hgt+1) false 10 [.d p.toD] []=.ok (.d (.int p.len)) []:=za4 (fn:=c10) rfl rfl p cs h hne k
theorem zi6{m:Nat}{p:Pl}{cs:Cs}(h:p.fits m cs)(hne:cs≠[])(k:Nat):ze P table (k+p.hgt+1) false 24 [.d p.toD] []=.ok (.d (.int p.len)) []:=za4 (fn:=c24) rfl rfl p cs h hne k
noncomputable def rowD(r:Wg×Int):PyData:=.tuple [wD r.1,.int r.2]
theorem dq{O:za}{xs:List PyData}{x:PyData}(h:xs.length < line):meth .append (.box O.length) [.d x] (O++[Box.lst xs])=.ok (.d .none) (O++[Box.lst (xs++[x])]):=by
 unfold meth boxL
 dsimp only
 rw[List.getElem?_append_right (Nat.le_refl _),Nat.sub_self]
 show (if xs.length < line then R.ok (V.d .none) ((O++[Box.lst xs]).set O.length (.lst (xs++[x]))) else .stuck)=_
 rw[if_pos h,List.set_append_right _ _ (Nat.le_refl _),Nat.sub_self];rfl
theorem dj{O:za}{xs:List PyData}:recv .append (.box O.length) (O++[Box.lst xs])=true:=by
 show zef (O++[Box.lst xs]) O.length=true
 unfold zef
 rw[List.getElem?_append_right (Nat.le_refl _),Nat.sub_self];rfl
theorem uq{a b c d:PyData}{o:Int}(h:(o = -1∧d=a)∨(o=0∧d=b)∨(o=1∧d=c)):idxD (.tuple [a,b,c]) (.int (o+1))=some d:=by
 rcases h with ⟨rfl,rfl⟩ | ⟨rfl,rfl⟩ | ⟨rfl,rfl⟩ <;> rfl
theorem zg6{test:Loc→za→R (Loc×za) Bool}{turn:Loc→za→R (Loc×za) Fl}{n:Nat}{ρ ρ':Loc}{O O':za}(h1:test ρ O=.ok true (ρ,O))(h2:turn ρ O=.ok .next (ρ',O')):y9 test turn (n+1) ρ O=y9 test turn n ρ' O':=by rw[y9,h1];dsimp only;rw[h2]
theorem zg7{test:Loc→za→R (Loc×za) Bool}{turn:Loc→za→R (Loc×za) Fl}{n:Nat}{ρ:Loc}{O:za}(h1:test ρ O=.ok false (ρ,O)):y9 test turn (n+1) ρ O=.ok .next (ρ,O):=by rw[y9,h1]
theorem zg8{m:Nat}{w:Wg}{a b c:Pl}{cs:Cs}{k:List Int}(h:(Pl.weigh w a b c).fits m cs)(hk:k∈cs):∃ q:Pl,∃ l:Cs,q.fits m l∧k∈l∧q.hgt≤max a.hgt (max b.hgt c.hgt)∧(Pl.weigh w a b c).walk k=(w,zl w k)::q.walk k∧idxD (.tuple [a.toD,b.toD,c.toD]) (.int (zl w k+1))=some q.toD:=by
 obtain⟨hw,_,ha,hb,hd⟩:=h
 rcases qz w k with e | e | e
 ·exact⟨a,_,ha,mem_part.mpr ⟨hk,e⟩,Nat.le_max_left _ _,by show _::_=_;rw[if_pos e],uq (.inl ⟨e,rfl⟩)⟩
 ·exact⟨b,_,hb,mem_part.mpr ⟨hk,e⟩,Nat.le_trans (Nat.le_max_left _ _) (Nat.le_max_right _ _),by show _::_=_;rw[if_neg (by omega),if_pos e],uq (.inr (.inl ⟨e,rfl⟩))⟩
 ·exact⟨c,_,hd,mem_part.mpr ⟨hk,e⟩,Nat.le_trans (Nat.le_max_right _ _) (Nat.le_max_right _ _),by show _::_=_;rw[if_neg (by omega),if_neg (by omega)],uq (.inr (.inr ⟨e,rfl⟩))⟩
noncomputable def zro:CSs:=(.cons (.asg (.name 4) (.call 6 (.cons (.idx (.loc 3) (.int 1)) (.cons (.loc 1) .nil)))) (.cons (.expr (.meth .append (.loc 2) (.cons (.tup (.cons (.idx (.loc 3) (.int 1)) (.cons (.loc 4) .nil))) .nil))) (.cons (.asg (.name 3) (.idx (.idx (.loc 3) (.int 2)) (.bin .add (.loc 4) (.int 1)))) .nil)))
noncomputable def v5(i:Nat):CE:=.cmp .eq (.idx (.loc i) (.int 0)) (.str (Str.ofString "weigh"))
noncomputable abbrev tst(P:Pg)(t:CE):Loc→za→R (Loc×za) Bool:=fun ρ O=>((evE P ρ t O).bind fun v O=>opt (truth v) O).lift ρ
theorem zec{k m:Nat}{c:List Int}{pl:V}{O:za}(hm:m4 m)(hg:good m c):∀ (n:Nat) (p:Pl) (cs:Cs) (z:Option V) (acc:List PyData),p.hgt≤n→p.fits m cs→c∈cs→acc.length+n≤200 →
 ∃ h' z',y9 (tst (PG (k+1) false) (v5 3)) (fun ρ O=>evSs (PG (k+1) false) zro ρ O) (n+1) [some pl,some (.d (caseD c)),some (.box O.length),some (.d p.toD),z] (O++[Box.lst acc])=.ok .next ([some pl,some (.d (caseD c)),some (.box O.length),h',z'],O++[Box.lst (acc++(p.walk c).map rowD)])
 | n,.no,cs,z,acc,_,h,hc,_=>by rw[show cs=[] from h] at hc;cases hc
 | n,.told e,cs,z,acc,_,_,_,_=>by
   refine⟨_,_,(zg7 ?_).trans (by rw[show ((Pl.told e).walk c).map rowD=[] from rfl,List.append_nil])⟩
   show R.lift _ (R.bind (evE _ _ (v5 3) _) _)=_
   rw[show v5 3=.cmp .eq (.idx (.loc 3) (.int 0)) (.str sW) from rfl,zh (v:=.d (.str sT)) (u:=.d (.str sW)) rfl rfl q_TW];rfl
 | 0,.weigh w a b d,cs,z,acc,hn,_,_,_=>absurd hn (Nat.not_succ_le_zero _)
 | n+1,.weigh w a b d,cs,z,acc,hn,h,hc,hl=>by
   obtain⟨q,l,q1,q2,q3,q4,q5⟩:=zg8 h hc
   obtain⟨h',z',e⟩:=zec (k:=k) (pl:=pl) (O:=O) hm hg n q l (some (.d (.int (zl w c)))) (acc++[rowD (w,zl w c)]) (Nat.le_trans q3 (Nat.le_of_succ_le_succ hn)) q1 q2 (by rw[List.length_append,List.length_singleton];omega)
   rw[List.append_assoc] at e
   refine⟨h',z',(zg6 (ρ':=[some pl,some (.d (caseD c)),some (.box O.length),some (.d q.toD),some (.d (.int (zl w c)))]) (O':=O++[Box.lst (acc++[rowD (w,zl w c)])]) ?_ ?_).trans (by rw[q4];exact e)⟩
   ·show R.lift _ (R.bind (evE _ _ (v5 3) _) _)=_
    rw[show v5 3=.cmp .eq (.idx (.loc 3) (.int 0)) (.str sW) from rfl,zh (v:=.d (.str sW)) (u:=.d (.str sW)) rfl rfl q_WW];rfl
   ·refine (zc (zr (zi rfl (zlg hm h.1 c hg)) rfl rfl)).trans ?_
    refine (zc (j8 (qg (v:=.box O.length) rfl dj (zf (v:=.d (rowD (w,zl w c))) rfl rfl) (dq (by show acc.length < 1000000;omega))))).trans ?_
    refine (zc (zr (v:=.d q.toD) (xn (v:=.d (.tuple [a.toD,b.toD,d.toD])) rfl (zs rfl rfl wc) (by rw[x4,q5];rfl)) rfl rfl)).trans rfl
theorem x_while{P:Pg}{ρ:Loc}{O:za}{t:CE}{p:CSs}:evS P (.while_ t p) ρ O=y9 (tst P t) (fun ρ O=>evSs P p ρ O) P.turns ρ O:=rfl
theorem zlk{k m:Nat}{p:Pl}{cs:Cs}{c:List Int}{O:za}(hm:m4 m)(h:p.fits m cs)(hc:c∈cs)(hg:good m c)(hh:p.hgt≤100) :
 ze P table (k+2) false 11 [.d p.toD,.d (caseD c)] O=.ok (.box O.length) (O++[Box.lst ((p.walk c).map rowD)]):=by
 obtain⟨h',z',e⟩:=zec (k:=k) (pl:=.d p.toD) (O:=O) hm hg 199 p cs none [] (by omega) h hc (by show 0+199≤200;decide)
 rw[List.nil_append] at e
 refine zgu (fn:=c11) rfl ⟨rfl,by decide⟩ rfl rfl ((zc (zr (v:=.box O.length) (O':=O++[Box.lst []]) rfl rfl rfl)).trans ((zc (zr rfl rfl rfl)).trans ((zc (x_while.trans e)).trans (zg (yr rfl)))))
noncomputable def zqa:CSs:=(.cons (.expr (.meth .append (.loc 2) (.cons (.tup (.cons (.idx (.loc 0) (.int 1)) (.cons (.call 15 (.cons (.idx (.loc 0) (.int 1)) (.cons (.loc 1) .nil))) .nil))) .nil))) (.cons (.asg (.name 0) (.idx (.idx (.loc 0) (.int 2)) (.bin .add (.idx (.idx (.loc 2) (.neg (.int 1))) (.int 1)) (.int 1)))) .nil))
theorem zk7{xs:List PyData}{x:PyData}(h:xs.length < line):idxD (.list (xs++[x])) (.int (-1))=some x:=by
 unfold idxD items
 dsimp only
 rw[List.length_append,List.length_singleton,if_pos (Nat.succ_le_of_lt h),if_neg (by decide),if_pos (by omega),show ((-1:Int)+((xs.length+1:Nat):Int)).toNat=xs.length by omega,List.getElem?_append_right (Nat.le_refl _),Nat.sub_self];rfl
theorem zam{O:za}{xs:List PyData}:look (O++[Box.lst xs]) (.box O.length)=some (.list xs):=by
 show qb (O++[Box.lst xs]) O.length=_
 unfold qb
 rw[List.getElem?_append_right (Nat.le_refl _),Nat.sub_self];rfl
theorem zks{k m:Nat}{c:List Int}{O:za}(hm:m4 m)(hg:good m c):∀ (n:Nat) (p:Pl) (cs:Cs) (acc:List PyData),p.hgt≤n→p.fits m cs→c∈cs→acc.length+n≤200 →
 ∃ h',y9 (tst (PG (k+1) false) (v5 0)) (fun ρ O=>evSs (PG (k+1) false) zqa ρ O) (n+1) [some (.d p.toD),some (.d (caseD c)),some (.box O.length)] (O++[Box.lst acc])=.ok .next ([h',some (.d (caseD c)),some (.box O.length)],O++[Box.lst (acc++(p.walk c).map rowD)])
 | n,.no,cs,acc,_,h,hc,_=>by rw[show cs=[] from h] at hc;cases hc
 | n,.told e,cs,acc,_,_,_,_=>by
   refine⟨_,(zg7 ?_).trans (by rw[show ((Pl.told e).walk c).map rowD=[] from rfl,List.append_nil])⟩
   show R.lift _ (R.bind (evE _ _ (v5 0) _) _)=_
   rw[show v5 0=.cmp .eq (.idx (.loc 0) (.int 0)) (.str sW) from rfl,zh (v:=.d (.str sT)) (u:=.d (.str sW)) rfl rfl q_TW];rfl
 | 0,.weigh w a b d,cs,acc,hn,_,_,_=>absurd hn (Nat.not_succ_le_zero _)
 | n+1,.weigh w a b d,cs,acc,hn,h,hc,hl=>by
   obtain⟨q,l,q1,q2,q3,q4,q5⟩:=zg8 h hc
   obtain⟨h',e⟩:=zks (k:=k) (O:=O) hm hg n q l (acc++[rowD (w,zl w c)]) (Nat.le_trans q3 (Nat.le_of_succ_le_succ hn)) q1 q2 (by rw[List.length_append,List.length_singleton];omega)
   rw[List.append_assoc] at e
   have hal:acc.length < line:=by show acc.length < 1000000;omega
   refine⟨h',(zg6 (ρ':=[some (.d q.toD),some (.d (caseD c)),some (.box O.length)]) (O':=O++[Box.lst (acc++[rowD (w,zl w c)])]) ?_ ?_).trans (by rw[q4];exact e)⟩
   ·show R.lift _ (R.bind (evE _ _ (v5 0) _) _)=_
    rw[show v5 0=.cmp .eq (.idx (.loc 0) (.int 0)) (.str sW) from rfl,zh (v:=.d (.str sW)) (u:=.d (.str sW)) rfl rfl q_WW];rfl
   ·have et:evE (PG (k+1) false) [some (.d (Pl.weigh w a b d).toD),some (.d (caseD c)),some (.box O.length)] (.tup (.cons (.idx (.loc 0) (.int 1)) (.cons (.call 15 (.cons (.idx (.loc 0) (.int 1)) (.cons (.loc 1) .nil))) .nil))) (O++[Box.lst acc])=.ok (.d (rowD (w,zl w c))) (O++[Box.lst acc]):=by
     rw[zbt,zf (v:=.d (wD w)) rfl (zf (zi rfl (vo hm h.1 c hg)) rfl)];rfl
    have el:evE (PG (k+1) false) [some (.d (Pl.weigh w a b d).toD),some (.d (caseD c)),some (.box O.length)] (.idx (.idx (.loc 2) (.neg (.int 1))) (.int 1)) (O++[Box.lst (acc++[rowD (w,zl w c)])])=.ok (.d (.int (zl w c))) (O++[Box.lst (acc++[rowD (w,zl w c)])]):=by
     refine xn (v:=.d (rowD (w,zl w c))) (xn (v:=.box O.length) rfl rfl ?_) rfl rfl
     show opt (((look _ (V.box O.length)).bind fun x=>idxD x (.int (-1))).map V.d) _=_
     rw[zam]
     show opt ((idxD (.list (acc++[rowD (w,zl w c)])) (.int (-1))).map V.d) _=_
     rw[zk7 hal];rfl
    refine (zc (j8 (qg (v:=.box O.length) rfl dj (zf et rfl) (dq hal)))).trans ?_
    refine (zc (zr (v:=.d q.toD) (xn (v:=.d (.tuple [a.toD,b.toD,d.toD])) rfl (zs el rfl wc) (by rw[x4,q5];rfl)) rfl rfl)).trans rfl
theorem zqw{k m:Nat}{p:Pl}{cs:Cs}{c:List Int}{O:za}(hm:m4 m)(h:p.fits m cs)(hc:c∈cs)(hg:good m c)(hh:p.hgt≤100) :
 ze P table (k+2) false 31 [.d p.toD,.d (caseD c)] O=.ok (.d (.list ((p.walk c).map rowD))) O:=by
 obtain⟨h',e⟩:=zks (k:=k) (O:=O) hm hg 199 p cs [] (by omega) h hc (by show 0+199≤200;decide)
 rw[List.nil_append] at e
 exact u5 (fn:=c31) rfl ⟨rfl,by decide⟩ rfl rfl ((zc (zr (v:=.box O.length) (O':=O++[Box.lst []]) rfl rfl rfl)).trans ((zc (x_while.trans e)).trans (zg (yr rfl))))
structure FineS(n:Nat)(t:Str):Prop where
 len:t.length≤n
 ok:PyData.strOk t=true
theorem FineS.le{n m:Nat}{t:Str}(h:FineS n t)(hm:n≤m):FineS m t:=⟨Nat.le_trans h.len hm,h.ok⟩
theorem FineS.app{n m:Nat}{a b:Str}(h:FineS n a)(h':FineS m b):FineS (n+m) (a++b):=by
 refine⟨by rw[strLen_append];exact Nat.add_le_add h.len h'.len,?_⟩
 show (a.cps++b.cps).all (· < 0x110000)=true
 rw[Array.all_append,Bool.and_eq_true]
 exact⟨h.ok,h'.ok⟩
structure Fine(n d:Nat)(x:PyData):Prop where
 show_:x.showable=true
 text:FineS n x.shown
 depth:x.depth≤d
theorem Fine.le{n d n' d':Nat}{x:PyData}(h:Fine n d x)(hn:n≤n')(hd:d≤d'):Fine n' d' x:=⟨h.show_,h.text.le hn,Nat.le_trans h.depth hd⟩
inductive Fines(d:Nat):Nat→List PyData→Prop
 | nil:Fines d 0 []
 | cons {n N:Nat} {x:PyData} {xs:List PyData}:Fine n d x→Fines d N xs→Fines d (n+2+N) (x::xs)
theorem Fines.some{d N:Nat}{xs:List PyData}(h:Fines d N xs):PyData.showableAll xs=true∧PyData.depthAll xs≤d:=by
 induction h with
 | nil=>exact⟨rfl,Nat.zero_le _⟩
 | @cons n N x xs hx _ ih=>exact⟨by show (x.showable && PyData.showableAll xs)=true;rw[hx.show_,ih.1];rfl,Nat.max_le.mpr ⟨hx.depth,ih.2⟩⟩
theorem Fines.from_{d N:Nat}{xs:List PyData}(h:Fines d N xs):∀ (k a:Nat) (acc:Str),FineS a acc→FineS (a+N) (textFrom k acc (PyData.shownAll xs)):=by
 induction h with
 | nil=>exact fun _ _ _ h=>h
 | @cons n N x xs hx _ ih=>
   intro k a acc h
   have hs:FineS 2 (Str.ofString (if k > 0 then ", " else "")):=by
    by_cases hk:k > 0
    ·rw[if_pos hk];exact⟨by decide +kernel,by decide +kernel⟩
    ·rw[if_neg hk];exact⟨by decide +kernel,by decide +kernel⟩
   exact (ih (k+1) (a+2+n) (acc++(if k > 0 then ", " else "" : String)++x.shown) ((h.app hs).app hx.text)).le (by omega)
theorem Fines.join{d N:Nat}{xs:List PyData}(h:Fines d N xs):FineS N (Str.join ", " (PyData.shownAll xs)):=by
 induction h with
 | nil=>exact⟨Nat.zero_le _,by decide +kernel⟩
 | @cons n N x xs hx hr ih=>
   cases hr with
   | nil=>exact hx.text.le (by omega)
   | cons _ _=>exact (hx.text.app ⟨by decide +kernel,by decide +kernel⟩).app ih
theorem Fine.list{n d e N:Nat}{xs:List PyData}(h:Fines d N xs)(hn:N+2≤n)(hd:d+1≤e):Fine n e (.list xs):=by
 have a1:FineS 1 ("[" : Str):=⟨by decide +kernel,by decide +kernel⟩
 have a2:FineS 1 ("]" : Str):=⟨by decide +kernel,by decide +kernel⟩
 exact ⟨h.some.1,FineS.le ((h.from_ 0 1 "[" a1).app a2) (by omega),Nat.le_trans (Nat.succ_le_succ h.some.2) hd⟩
theorem Fine.tuple{n d e N:Nat}{xs:List PyData}(h:Fines d N xs)(hn:N+3≤n)(hd:d+1≤e):Fine n e (.tuple xs):=by
 have a1:FineS 1 ("(" : Str):=⟨by decide +kernel,by decide +kernel⟩
 have a2:FineS 2 (Str.ofString (if (PyData.shownAll xs).length == 1 then ",)" else ")")):=by
  cases ((PyData.shownAll xs).length == 1) with
  | true=>exact⟨by decide +kernel,by decide +kernel⟩
  | false=>exact⟨by decide +kernel,by decide +kernel⟩
 exact⟨h.some.1,FineS.le ((a1.app h.join).app a2) (by omega),Nat.le_trans (Nat.succ_le_succ h.some.2) hd⟩
noncomputable def zor(n:Nat)(x:PyData):Bool:=x.showable && (decide (x.shown.length≤n) && (PyData.strOk x.shown && decide (x.depth≤0)))
theorem xi{n:Nat}{x:PyData}(h:zor n x=true)(d:Nat):Fine n d x:=by
 unfold zor at h
 rw[Bool.and_eq_true,Bool.and_eq_true,Bool.and_eq_true,decide_eq_true_eq,decide_eq_true_eq] at h
 exact⟨h.1,⟨h.2.1,h.2.2.1⟩,Nat.le_trans h.2.2.2 (Nat.zero_le _)⟩
structure Lay(n:Nat)(x:PyData):Prop where
 lay:x.canLay0=true
 depth:x.depth≤n
theorem lay_all{n:Nat}:∀ (xs:List PyData),(∀ x∈xs,Lay n x)→PyData.canLayAll0 xs=true∧PyData.depthAll xs≤n
 | [],_=>⟨rfl,Nat.zero_le _⟩
 | x::xs,h=>by
   obtain⟨h1,h2⟩:=lay_all xs fun y hy=>h y (List.mem_cons_of_mem _ hy)
   have hx:=h x List.mem_cons_self
   refine⟨?_,Nat.max_le.mpr ⟨hx.depth,h2⟩⟩
   show (x.canLay0 && PyData.canLayAll0 xs)=true
   rw[hx.lay,h1];rfl
theorem Lay.list{n:Nat}{xs:List PyData}(h:∀ x∈xs,Lay n x):Lay (n+1) (.list xs):=⟨(lay_all xs h).1,Nat.succ_le_succ (lay_all xs h).2⟩
theorem Lay.eq{n:Nat}{x:PyData}(h:Lay n x)(hn:n≤100):jy .eq x x=some true∧jy .ne x x=some false:=by
 have h3:eqOk x x=true:=by
  unfold eqOk
  rw[h.lay,decide_eq_true (by rw[Nat.min_self];exact Nat.le_trans h.depth hn)];rfl
 refine⟨?_,?_⟩
 ·show (if eqOk x x=true then some (PyData.eqv x x) else none)=_
  rw[if_pos h3,PySem.SeqAt.eqv_refl x h.lay]
 ·show (if eqOk x x=true then some (!PyData.eqv x x) else none)=_
  rw[if_pos h3,PySem.SeqAt.eqv_refl x h.lay];rfl
theorem df:∀ (p:Pl) (c:List Int),(p.walk c).length≤p.hgt
 | .no,_=>Nat.zero_le _
 | .told _,_=>Nat.zero_le _
 | .weigh w a b c,k=>by
   have ha:=df a k
   have hb:=df b k
   have hc:=df c k
   show (_::(if zl w k = -1 then a.walk k else if zl w k=0 then b.walk k else c.walk k)).length≤max a.hgt (max b.hgt c.hgt)+1
   rw[List.length_cons]
   refine Nat.succ_le_succ ?_
   have h1:=Nat.le_max_left a.hgt (max b.hgt c.hgt)
   have h2:=Nat.le_max_right a.hgt (max b.hgt c.hgt)
   have h3:=Nat.le_max_left b.hgt c.hgt
   have h4:=Nat.le_max_right b.hgt c.hgt
   repeat' split
   all_goals omega
theorem zm8(r:Wg×Int):Lay 10 (rowD r):=by
 refine⟨?_,?_⟩
 ·show ((PyData.canLayAll0 (r.1.1.map .int) && (PyData.canLayAll0 (r.1.2.map .int) && true)) && (true && true))=true
  rw[lays,lays];rfl
 ·have h1:=xe r.1.1
  have h2:=xe r.1.2
  show max (max (PyData.depthAll (r.1.1.map .int)+1) (max (PyData.depthAll (r.1.2.map .int)+1) 0)+1) (max 0 0)+1≤10
  omega
noncomputable def rows(p:Pl)(c:List Int):List PyData:=(p.walk c).map rowD
theorem zhk{p:Pl}{c:List Int}:jy .ne (.list (rows p c)) (.list (rows p c))=some false:=
 ((Lay.list (n:=10) fun x hx=>by obtain⟨r,_,rfl⟩:=List.mem_map.mp hx;exact zm8 r).eq (by decide)).2
theorem zli{k:Nat}{i:Int}{O:za}:ze P table (k+1) false 14 [.d (.int i)] O=.ok (.d (.bool true)) O:=zo (fn:=c14) rfl ⟨rfl,by decide⟩ rfl rfl
noncomputable abbrev R9(p:Pl)(cs:Cs)(a2 a3 a4 a5:Option V):Loc:=[some (.d p.toD),some (.d (.list (zb cs))),a2,a3,a4,a5,none,none,none]
noncomputable def y7(p:Pl)(cs:Cs):List PyData:=cs.map fun c=>.list (rows p c)
theorem zhe{p:Pl}{c:List Int}(h:p.hgt≤100):(rows p c).length < line:=by
 unfold rows;rw[List.length_map];exact Nat.lt_of_le_of_lt (Nat.le_trans (df p c) h) (by decide)
theorem zb3{p:Pl}{c:List Int}(h:p.hgt≤100):(rows p c).length≤line:=Nat.le_of_lt (zhe h)
theorem znw{k:Nat}{p:Pl}{cs:Cs}{c:List Int}{a2 a3 a4:Option V}{O:za}(hh:p.hgt≤100):evE (PG (k+1) false) (R9 p cs a2 a3 a4 (some (.box O.length))) (.comp (.loc 8) (.name 8) (.e (.loc 5)) (.cons (.or_ (.nt (.prim (.isinst .tuple) (.cons (.loc 8) .nil))) (.nt (.call 14 (.cons (.idx (.loc 8) (.int 1)) .nil)))) .nil)) (O++[Box.lst (rows p c)])=.ok (.d (.list [])) (O++[Box.lst (rows p c)]):=by
 have hs:Seen (O++[Box.lst (rows p c)]) (.box O.length) (rows p c):=.box _ _ (by rw[List.getElem?_append_right (Nat.le_refl _),Nat.sub_self];rfl)
 obtain⟨src,s1,s2,s3⟩:=hs.src
 have:=km (P:=PG (k+1) false) (ρ:=R9 p cs a2 a3 a4 (some (.box O.length))) (elt:=.loc 8) (tgt:=.name 8) (it:=.e (.loc 5)) (ifs:=.cons (.or_ (.nt (.prim (.isinst .tuple) (.cons (.loc 8) .nil))) (.nt (.call 14 (.cons (.idx (.loc 8) (.int 1)) .nil)))) .nil) (O:=O++[Box.lst (rows p c)]) rfl s1 s3 (by rw[s2];exact zb3 hh) (fun _=>none) fun x hx=>by
  rw[s2] at hx
  obtain⟨r,_,rfl⟩:=List.mem_map.mp hx
  have e1:evE (PG (k+1) false) [some (.d p.toD),some (.d (.list (zb cs))),a2,a3,a4,some (.box O.length),none,none,some (.d (rowD r))] (.or_ (.nt (.prim (.isinst .tuple) (.cons (.loc 8) .nil))) (.nt (.call 14 (.cons (.idx (.loc 8) (.int 1)) .nil)))) (O++[Box.lst (rows p c)])=.ok (.d (.bool false)) (O++[Box.lst (rows p c)]):=yu rfl (nt1 (zi rfl (zli (k:=k))))
  unfold yz zp
  rw[if_pos (show 8 < (R9 p cs a2 a3 a4 (some (.box O.length))).length from Nat.lt_succ_self 8)]
  show R.bind (xd (PG (k+1) false) [some (.d p.toD),some (.d (.list (zb cs))),a2,a3,a4,some (.box O.length),none,none,some (.d (rowD r))] _ _) _=_
  rw[gd,e1];rfl
 rw[this]
 congr 3
 exact List.filterMap_eq_nil_iff.mpr fun _ _=>rfl
noncomputable def goB:CSs:=(.cons (.asg (.name 5) (.call 11 (.cons (.loc 0) (.cons (.idx (.loc 1) (.loc 4)) .nil)))) (.cons (.ife (.or_ (.nt (.prim (.isinst .list) (.cons (.loc 5) .nil))) (.cmp .ne (.loc 5) (.idx (.loc 3) (.loc 4)))) (.cons (.ret (.bool false)) .nil) .nil) (.cons (.ife (.cmp .ne (.comp (.loc 8) (.name 8) (.e (.loc 5)) (.cons (.or_ (.nt (.prim (.isinst .tuple) (.cons (.loc 8) .nil))) (.nt (.call 14 (.cons (.idx (.loc 8) (.int 1)) .nil)))) .nil)) (.list .nil)) (.cons (.ret (.bool false)) .nil) .nil) (.cons (.expr (.meth .append (.loc 5) (.cons .none .nil))) (.cons (.ife (.cmp .ne (.call 11 (.cons (.loc 0) (.cons (.idx (.loc 1) (.loc 4)) .nil))) (.idx (.loc 3) (.loc 4))) (.cons (.ret (.bool false)) .nil) .nil) .nil)))))
theorem zgj{xs:List PyData}{j:Nat}{x:PyData}(hl:xs.length≤line)(h:xs[j]?=some x):idxD (.list xs) (.int (0+(j:Int)))=some x:=by
 unfold idxD items
 dsimp only
 rw[if_pos hl,if_pos (by omega),show ((0:Int)+(j:Int)).toNat=j by omega];exact h
theorem zpi{k m j:Nat}{p:Pl}{cs:Cs}{a2 a4 a5:Option V}{O:za}(hm:m4 m)(h:p.fits m cs)(hc:Ok12 m cs)(hh:p.hgt≤100)(hj:j < cs.length) :
 ∃ b5 O',jb (PG (k+2) false) (.name 4) goB (.int (0+(j:Int))) (R9 p cs a2 (some (.d (.list (y7 p cs)))) a4 a5) O=.ok .next (R9 p cs a2 (some (.d (.list (y7 p cs)))) (some (.d (.int (0+(j:Int))))) b5,O'):=by
 have hcm:cs[j]∈cs:=List.getElem_mem hj
 have hg:=hc.good _ hcm
 have i1:idxD (.list (zb cs)) (.int (0+(j:Int)))=some (caseD cs[j]):=zgj hc.line (by unfold zb;rw[List.getElem?_map,List.getElem?_eq_getElem hj];rfl)
 have i2:idxD (.list (y7 p cs)) (.int (0+(j:Int)))=some (.list (rows p cs[j])):=zgj (by unfold y7;rw[List.length_map];exact Nat.le_trans hc.le (by decide)) (by unfold y7;rw[List.getElem?_map,List.getElem?_eq_getElem hj];rfl)
 generalize cs[j]=c at hcm hg i1 i2
 have hw:∀ O,ze P table (k+2) false 11 [.d p.toD,.d (caseD c)] O=.ok (.box O.length) (O++[Box.lst (rows p c)]):=fun O=>zlk hm h hcm hg hh
 have ia:∀ a5 O,evE (PG (k+2) false) (R9 p cs a2 (some (.d (.list (y7 p cs)))) (some (.d (.int (0+(j:Int))))) a5) (.idx (.loc 1) (.loc 4)) O=.ok (.d (caseD c)) O:=fun a5 O=>xn rfl rfl (by rw[x4,i1];rfl)
 have ib:∀ a5 O,evE (PG (k+2) false) (R9 p cs a2 (some (.d (.list (y7 p cs)))) (some (.d (.int (0+(j:Int))))) a5) (.idx (.loc 3) (.loc 4)) O=.ok (.d (.list (rows p c))) O:=fun a5 O=>xn rfl rfl (by rw[x4,i2];rfl)
 have hs:Seen (O++[Box.lst (rows p c)]) (.box O.length) (rows p c):=.box _ _ (by rw[List.getElem?_append_right (Nat.le_refl _),Nat.sub_self];rfl)
 refine⟨some (.box O.length),O++[Box.lst (rows p c++[.none])]++[Box.lst (rows p c)],?_⟩
 show evSs (PG (k+2) false) goB (R9 p cs a2 (some (.d (.list (y7 p cs)))) (some (.d (.int (0+(j:Int))))) a5) O=_
 refine (zc (zr (v:=.box O.length) (zi (zf rfl (zf (ia _ _) rfl)) (hw O)) rfl rfl)).trans ?_
 refine (zc (zm (yu (nt1 (yt rfl rfl (zee hs))) (zh rfl (ib _ _) (zgv (.inr rfl) hs.look rfl zhk))))).trans ?_
 refine (zc (zm (zh (znw (k:=k+1) hh) rfl rfl))).trans ?_
 refine (zc (j8 (qg (v:=.box O.length) rfl dj (zf rfl rfl) (dq (zhe hh))))).trans ?_
 refine (zc (zm (zh (zi (zf rfl (zf (ia _ _) rfl)) (hw _)) (ib _ _) (zgv (.inr rfl) zam rfl zhk)))).trans rfl
theorem zlr{m:Nat}{p:Pl}{cs:Cs}(hm:m4 m)(h:p.fits m cs)(hc:Ok12 m cs)(hne:cs≠[])(hh:p.hgt≤100)(k:Nat):ze P table (k+p.hgt+3) false 32 [.d p.toD,.d (.list (zb cs))] []=.ok (.d (.bool true)) []:=by
 have e10:=zlo h hne (k+1)
 have e24:=zi6 h hne (k+1)
 rw[show k+1+p.hgt+1=k+p.hgt+2 by omega] at e10 e24
 have c1:evE (PG (k+p.hgt+2) false) (R9 p cs (some (.d (.int p.len))) none none none) (.comp (.call 31 (.cons (.loc 0) (.cons (.loc 6) .nil))) (.name 6) (.e (.loc 1)) .nil) []=.ok (.d (.list (y7 p cs))) []:=by
  have:=va (P:=PG (k+p.hgt+2) false) (ρ:=R9 p cs (some (.d (.int p.len))) none none none) (elt:=.call 31 (.cons (.loc 0) (.cons (.loc 6) .nil))) (tgt:=.name 6) (it:=.e (.loc 1)) (O:=[]) (src:=.plain (zb cs)) rfl rfl rfl hc.line (fun x=>.list (rows p (unC x))) fun x hx=>by
   obtain⟨c,hcm,rfl⟩:=List.mem_map.mp hx
   exact⟨[some (.d p.toD),some (.d (.list (zb cs))),some (.d (.int p.len)),none,none,none,some (.d (caseD c)),none,none],rfl,by rw[xb];exact zi rfl (zqw hm h hcm (hc.good c hcm) hh)⟩
  rw[this]
  congr 3
  show (cs.map caseD).map _=_
  rw[List.map_map]
  exact List.map_congr_left fun c _=>by show PyData.list (rows p (unC (caseD c)))=_;rw[xb]
 have c2:evE (PG (k+p.hgt+2) false) (R9 p cs (some (.d (.int p.len))) (some (.d (.list (y7 p cs)))) none none) (.comp (.prim .len (.cons (.loc 7) .nil)) (.name 7) (.e (.loc 3)) .nil) []=.ok (.d (.list ((cs.map fun c=>((p.walk c).length:Int)).map .int))) []:=by
  have:=va (P:=PG (k+p.hgt+2) false) (ρ:=R9 p cs (some (.d (.int p.len))) (some (.d (.list (y7 p cs)))) none none) (elt:=.prim .len (.cons (.loc 7) .nil)) (tgt:=.name 7) (it:=.e (.loc 3)) (O:=[]) (src:=.plain (y7 p cs)) rfl rfl rfl (by show (y7 p cs).length≤line;unfold y7;rw[List.length_map];exact Nat.le_trans hc.le (by decide)) (fun x=>.int ((items x).getD []).length) fun x hx=>by
   obtain⟨c,hcm,rfl⟩:=List.mem_map.mp hx
   exact⟨[some (.d p.toD),some (.d (.list (zb cs))),some (.d (.int p.len)),some (.d (.list (y7 p cs))),none,none,none,some (.d (.list (rows p c))),none],rfl,yt rfl rfl (x7 (.d _) (zb3 hh))⟩
  rw[this]
  congr 3
  show (cs.map _).map _=_
  rw[List.map_map,List.map_map]
  exact List.map_congr_left fun c _=>by show PyData.int ((rows p c).length:Int)=.int ((p.walk c).length:Int);unfold rows;rw[List.length_map]
 have hn:∀ {a:Int} {O:za},cmpV .ne (.d (.int a)) (.d (.int a)) O=.ok (.d (.bool false)) O:=fun {a O}=>by rw[ne_int,decide_eq_true rfl];rfl
 have hI:evI (PG (k+p.hgt+2) false) (R9 p cs (some (.d (.int p.len))) (some (.d (.list (y7 p cs)))) none none) (.range (.int 0) (.prim .len (.cons (.loc 1) .nil))) []=.ok (.plain (zw 0 cs.length)) []:=by
  have:=hc.le
  rw[de,jr,zu,yt (v:=.d (.list (zb cs))) rfl rfl (by rw[x7 (.d _) hc.line,zx]),zu]
  exact kr (by omega)
 obtain⟨ρ',O',ef,hI'⟩:=pj (ys:=zw 0 cs.length) (turn:=jb (PG (k+p.hgt+2) false) (.name 4) goB) (fun _ ρ _=>∃ a4 a5,ρ=R9 p cs (some (.d (.int p.len))) (some (.d (.list (y7 p cs)))) a4 a5) (zw 0 cs.length) 0 (R9 p cs (some (.d (.int p.len))) (some (.d (.list (y7 p cs)))) none none) []
  (fun j x hx ρ O ⟨a4,a5,e⟩=>by
    have hj:j < cs.length:=by have:=(List.getElem?_eq_some_iff.mp hx).1;rw[jg] at this;omega
    rw[zaf hx,e]
    obtain⟨b5,O',e'⟩:=zpi (k:=k+p.hgt) (a2:=some (.d (.int p.len))) (a4:=a4) (a5:=a5) (O:=O) hm h hc hh hj
    exact⟨_,O',e',_,b5,rfl⟩) ⟨none,none,rfl⟩
 refine ub (O:=[]) (O':=O') (ρ':=ρ') (fn:=c32) rfl ⟨rfl,by decide⟩ rfl ?_
 refine (zc (zr (zi rfl e10) rfl rfl)).trans ((zc (zr c1 rfl rfl)).trans ?_)
 refine (zc (zm (yu (nt1 (zi rfl (zhy (k:=k+p.hgt+1)))) (yu (zh rfl (zjq rfl c2 (Pl.far_max h hne)) hn) (zh rfl (zi rfl e24) hn))))).trans ?_
 refine (zc ?_).trans (zg (yr rfl))
 rw[ww,if_neg Bool.false_ne_true]
 generalize zw 0 (cs.length:Int)=rs at ef hI
 rw[show evI (PG (k+p.hgt+2) false) _ (.range (.int 0) (.prim .len (.cons (.loc 1) .nil))) []=_ from hI]
 exact ef
end Mine.L04
end
section
namespace Mine.L04
open PySem Mine PyProof.Rows
theorem zsf{k:Nat}:ze P table (k+1) false 16 [.d (.int 2)] []=.ok (.d (.list (due 2))) []:=by kernel_rfl
theorem zse{k:Nat}:ze P table (k+1) false 16 [.d (.int 3)] []=.ok (.d (.list (due 3))) []:=by kernel_rfl
theorem zsd{k:Nat}:ze P table (k+1) false 16 [.d (.int 4)] []=.ok (.d (.list (due 4))) []:=by kernel_rfl
theorem zsc{k:Nat}:ze P table (k+1) false 16 [.d (.int 5)] []=.ok (.d (.list (due 5))) []:=by kernel_rfl
theorem zq0{k m:Nat}(hm:m4 m):ze P table (k+1) false 16 [.d (.int m)] []=.ok (.d (.list (due m))) []:=by
 rcases gu hm with rfl | rfl | rfl | rfl
 ·exact zsf
 ·exact zse
 ·exact zsd
 ·exact zsc
theorem vq{m:Nat}(hm:m4 m):1≤(dueI m).length∧(dueI m).length≤30:=by rcases gu hm with rfl | rfl | rfl | rfl <;> decide
theorem p0{m:Nat}(hm:m4 m):(due m).length≤line:=by unfold due;rw[List.length_map];exact Nat.le_trans (vq hm).2 (by decide)
noncomputable def unW:PyData→Wg
 | .tuple [l,r]=>(unC l,unC r)
 | _=>([],[])
theorem zdu(w:Wg):unW (wD w)=w:=by
 show (((w.1.map PyData.int).map toI,(w.2.map PyData.int).map toI):Wg)=_
 rw[zcx,zcx]
theorem zsl(w:Wg):Lay 10 (wD w):=by
 refine⟨?_,?_⟩
 ·show (PyData.canLayAll0 (w.1.map .int) && (PyData.canLayAll0 (w.2.map .int) && true))=true
  rw[lays,lays];rfl
 ·have h1:=xe w.1
  have h2:=xe w.2
  show max (PyData.depthAll (w.1.map .int)+1) (max (PyData.depthAll (w.2.map .int)+1) 0)+1≤10
  omega
theorem za2{f:PyData→Option PyData}:∀ xs:List PyData,(xs.filterMap f).isEmpty=xs.all fun x=>(f x).isNone
 | []=>rfl
 | x::xs=>by
   cases h:f x with
   | none=>rw[List.filterMap_cons_none h,za2 xs,List.all_cons,h];rfl
   | some y=>rw[List.filterMap_cons_some h,List.all_cons,h];rfl
theorem zhx{xs:List PyData}{O:za}(h:∀ x∈xs,Lay 10 x):cmpV .eq (.d (.list xs)) (.d (.list [])) O=.ok (.d (.bool xs.isEmpty)) O:=by
 rw[v_eq]
 show opt (Option.map _ (if eqOk (.list xs) (.list [])=true then some (PyData.eqv (.list xs) (.list [])) else none)) O=_
 rw[if_pos (vp (Lay.list h).lay rfl (by decide))]
 cases xs <;> rfl
noncomputable def xm(m:Nat)(a b:List Int):Bool:=(dueI m).all fun w=>decide (zl w a=zl w b)
noncomputable def zeo(a b:List Int)(x:PyData):Option PyData:=if decide (zl (unW x) a=zl (unW x) b) then none else some x
theorem zgn{f:PyData→Option PyData}(hf:∀ x y,f x=some y→y=x){xs:List PyData}{y:PyData}(h:y∈xs.filterMap f):y∈xs:=by
 obtain⟨x,hx,e⟩:=List.mem_filterMap.mp h
 rw[hf x y e];exact hx
theorem zn1{k m:Nat}{a b:List Int}{O:za}(hm:m4 m)(ha:good m a)(hb:good m b):ze P table (k+2) false 19 [.d (.list (due m)),.d (caseD a),.d (caseD b)] O=.ok (.d (.bool (xm m a b))) O:=by
 have hc:=km (P:=PG (k+1) false) (ρ:=[some (.d (.list (due m))),some (.d (caseD a)),some (.d (caseD b)),none]) (elt:=.loc 3) (tgt:=.name 3) (it:=.e (.loc 0)) (ifs:=.cons (.cmp .ne (.call 15 (.cons (.loc 3) (.cons (.loc 1) .nil))) (.call 15 (.cons (.loc 3) (.cons (.loc 2) .nil)))) .nil) (O:=O) (src:=.plain (due m)) rfl rfl rfl (p0 hm) (zeo a b) fun x hx=>by
  obtain⟨w,hw,rfl⟩:=List.mem_map.mp hx
  have e1:evE (PG (k+1) false) [some (.d (.list (due m))),some (.d (caseD a)),some (.d (caseD b)),some (.d (wD w))] (.cmp .ne (.call 15 (.cons (.loc 3) (.cons (.loc 1) .nil))) (.call 15 (.cons (.loc 3) (.cons (.loc 2) .nil)))) O=.ok (.d (.bool (!decide (zl w a=zl w b)))) O:=zh (zi rfl (vo hm (qt hw) a ha)) (zi rfl (vo hm (qt hw) b hb)) ne_int
  show R.bind (xd (PG (k+1) false) [some (.d (.list (due m))),some (.d (caseD a)),some (.d (caseD b)),some (.d (wD w))] _ O) _=_
  rw[gd,e1]
  unfold zeo
  rw[zdu]
  cases decide (zl w a=zl w b) <;> rfl
 refine zo (fn:=c19) rfl ⟨rfl,by decide⟩ rfl (zg (yr ((zh hc rfl (zhx fun x hx=>?_)).trans ?_)))
 ·obtain⟨w,_,rfl⟩:=List.mem_map.mp (zgn (fun x y e=>by unfold zeo at e;split at e <;> cases e;rfl) hx)
  exact zsl w
 ·congr 3
  rw[za2]
  show (due m).all _=_
  unfold due xm
  rw[List.all_map]
  congr 1
  funext w
  show (zeo a b (wD w)).isNone=_
  unfold zeo
  rw[zdu]
  cases decide (zl w a=zl w b) <;> rfl
theorem zgz(m:Nat)(a:List Int):xm m a a=true:=List.all_eq_true.mpr fun w _=>decide_eq_true rfl
noncomputable def v7(m:Nat)(acc:Cs)(c:List Int):Cs:=if (acc.all fun o=>!xm m c o) then acc++[c] else acc
noncomputable def u6(m:Nat)(cs:Cs):Cs:=cs.foldl (v7 m) []
structure Apart(m:Nat)(cs acc:Cs):Prop where
 sub:∀ c∈acc,c∈cs
 le:acc.length≤cs.length
 pw:acc.Pairwise fun a b=>xm m b a=false
theorem gi{m:Nat}{cs acc:Cs}{c:List Int}(h:Apart m cs acc):Apart m (cs++[c]) (v7 m acc c):=by
 unfold v7
 cases hc:(acc.all fun o=>!xm m c o) with
 | false=>exact⟨fun c hc=>List.mem_append_left _ (h.sub c hc),by rw[List.length_append];exact Nat.le_trans h.le (Nat.le_add_right _ _),h.pw⟩
 | true=>
   refine⟨fun e he=>?_,?_,?_⟩
   ·rcases List.mem_append.mp he with he | he
    ·exact List.mem_append_left _ (h.sub e he)
    ·exact List.mem_append_right _ he
   ·show (acc++[c]).length≤(cs++[c]).length
    rw[List.length_append,List.length_append];exact Nat.add_le_add_right h.le _
   ·refine List.pairwise_append.mpr ⟨h.pw,List.pairwise_singleton _ _,fun a ha b hb=>?_⟩
    rw[List.mem_singleton.mp hb]
    have:=List.all_eq_true.mp hc a ha
    cases e:xm m c a with
    | false=>rfl
    | true=>rw[e] at this;cases this
theorem zfa{m:Nat}:∀ (ds cs acc:Cs),Apart m cs acc→Apart m (cs++ds) (ds.foldl (v7 m) acc)
 | [],cs,acc,h=>by rw[List.append_nil];exact h
 | c::ds,cs,acc,h=>by
   have:=zfa ds (cs++[c]) _ (gi (c:=c) h)
   rwa [List.append_assoc] at this
theorem ze9{m:Nat}:∀ (ds acc:Cs),acc≠[]→ds.foldl (v7 m) acc≠[]
 | [],acc,h=>h
 | c::ds,acc,h=>ze9 ds _ (by
   unfold v7
   split
   ·exact fun e=>h (List.append_eq_nil_iff.mp e).1
   ·exact h)
theorem zmc{m:Nat}{cs:Cs}(h:Found m cs):Found m (u6 m cs)∧(u6 m cs).Pairwise fun a b=>xm m b a=false:=by
 have a:=zfa (m:=m) cs [] [] ⟨fun _ h=>(nomatch h),Nat.le_refl _,.nil⟩
 rw[List.nil_append] at a
 have hne:u6 m cs≠[]:=by
  have:=h.pos
  cases cs with
  | nil=>exact absurd this (by decide)
  | cons c cs=>exact ze9 cs [c] (fun h=>nomatch h)
 refine⟨⟨fun c hc=>h.good c (a.sub c hc),?_,Nat.pos_of_ne_zero fun e=>hne (List.length_eq_zero_iff.mp e),Nat.le_trans a.le h.le⟩,a.pw⟩
 refine List.Pairwise.imp (fun {x y} hxy e=>?_) a.pw
 subst e
 rw[zgz] at hxy;cases hxy
noncomputable def zaz(m:Nat)(c:List Int)(x:PyData):Option PyData:=if xm m c (unC x) then some x else none
noncomputable def apB:CSs:=(.cons (.ife (.cmp .eq (.comp (.loc 4) (.name 4) (.e (.loc 2)) (.cons (.call 19 (.cons (.loc 0) (.cons (.loc 3) (.cons (.loc 4) .nil)))) .nil)) (.list .nil)) (.cons (.expr (.meth .append (.loc 2) (.cons (.loc 3) .nil))) .nil) .nil) .nil)
theorem zmt{k m:Nat}{acc cs:Cs}{c:List Int}{z:Option V}(hm:m4 m)(hc:good m c)(ha:∀ e∈acc,good m e)(hl:acc.length≤100):jb (PG (k+2) false) (.name 3) apB (caseD c) [some (.d (.list (due m))),some (.d (.list (zb cs))),some (.box 0),z,none] [Box.lst (zb acc)]=.ok .next ([some (.d (.list (due m))),some (.d (.list (zb cs))),some (.box 0),some (.d (caseD c)),none],[Box.lst (zb (v7 m acc c))]):=by
 have hla:(zb acc).length < line:=by rw[zx];exact Nat.lt_of_le_of_lt hl (by decide)
 have hs:Seen [Box.lst (zb acc)] (.box 0) (zb acc):=.box _ _ rfl
 obtain⟨src,s1,s2,s3⟩:=hs.src
 have hcm:=km (P:=PG (k+2) false) (ρ:=[some (.d (.list (due m))),some (.d (.list (zb cs))),some (.box 0),some (.d (caseD c)),none]) (elt:=.loc 4) (tgt:=.name 4) (it:=.e (.loc 2)) (ifs:=.cons (.call 19 (.cons (.loc 0) (.cons (.loc 3) (.cons (.loc 4) .nil)))) .nil) (O:=[Box.lst (zb acc)]) rfl s1 s3 (by rw[s2];exact Nat.le_of_lt hla) (zaz m c) fun x hx=>by
  rw[s2] at hx
  obtain⟨e,he,rfl⟩:=List.mem_map.mp hx
  show R.bind (xd (PG (k+2) false) [some (.d (.list (due m))),some (.d (.list (zb cs))),some (.box 0),some (.d (caseD c)),some (.d (caseD e))] _ _) _=_
  rw[gd,zi rfl (zn1 hm hc (ha e he))]
  unfold zaz
  rw[xb]
  cases xm m c e <;> rfl
 rw[s2] at hcm
 have htest:evE (PG (k+2) false) [some (.d (.list (due m))),some (.d (.list (zb cs))),some (.box 0),some (.d (caseD c)),none] (.cmp .eq (.comp (.loc 4) (.name 4) (.e (.loc 2)) (.cons (.call 19 (.cons (.loc 0) (.cons (.loc 3) (.cons (.loc 4) .nil)))) .nil)) (.list .nil)) [Box.lst (zb acc)]=.ok (.d (.bool (acc.all fun o=>!xm m c o))) [Box.lst (zb acc)]:=by
  refine (zh hcm rfl (zhx fun x hx=>?_)).trans ?_
  ·obtain⟨e,_,rfl⟩:=List.mem_map.mp (zgn (fun x y e=>by unfold zaz at e;split at e <;> cases e;rfl) hx)
   exact⟨zaq,Nat.le_trans (jn e) (by decide)⟩
  ·congr 3
   rw[za2]
   unfold zb
   rw[List.all_map]
   congr 1
   funext e
   show (zaz m c (caseD e)).isNone=_
   unfold zaz
   rw[xb]
   cases xm m c e <;> rfl
 show evSs (PG (k+2) false) apB [some (.d (.list (due m))),some (.d (.list (zb cs))),some (.box 0),some (.d (caseD c)),none] [Box.lst (zb acc)]=_
 unfold v7
 cases hb:(acc.all fun o=>!xm m c o) with
 | true=>
   rw[hb] at htest
   have ha2:evSs (PG (k+2) false) (.cons (.expr (.meth .append (.loc 2) (.cons (.loc 3) .nil))) .nil) [some (.d (.list (due m))),some (.d (.list (zb cs))),some (.box 0),some (.d (caseD c)),none] [Box.lst (zb acc)]=.ok .next ([some (.d (.list (due m))),some (.d (.list (zb cs))),some (.box 0),some (.d (caseD c)),none],[Box.lst (zb acc++[caseD c])]):=(zc (j8 (qg rfl rec0 (zf rfl rfl) (app0 hla)))).trans rfl
   refine (zc ((w_if htest).trans ((if_pos rfl).trans ha2))).trans ?_
   rw[show zb acc++[caseD c]=zb (acc++[c]) from qy];rfl
 | false=>
   rw[hb] at htest
   exact (zc ((w_if htest).trans rfl)).trans rfl
theorem zn0{k m:Nat}{cs:Cs}(hm:m4 m)(h:Found m cs):ze P table (k+3) false 25 [.d (.list (due m)),.d (.list (zb cs))] []=.ok (.d (.list (zb (u6 m cs)))) []:=by
 have loop:∀ (ds pre acc:Cs) (z:Option V),Apart m pre acc→(∀ c∈pre++ds,good m c)→(pre++ds).length≤12→∃ z',y6 (.plain (zb cs)) (jb (PG (k+2) false) (.name 3) apB) (zb ds) [some (.d (.list (due m))),some (.d (.list (zb cs))),some (.box 0),z,none] [Box.lst (zb acc)]=.ok .next ([some (.d (.list (due m))),some (.d (.list (zb cs))),some (.box 0),z',none],[Box.lst (zb (ds.foldl (v7 m) acc))]):=by
  intro ds
  induction ds with
  | nil=>exact fun pre acc z _ _ _=>⟨z,rfl⟩
  | cons c ds ih=>
    intro pre acc z ha hg hl
    have e:=zmt (k:=k) (cs:=cs) (z:=z) hm (hg c (List.mem_append_right _ (.head _))) (fun e he=>hg e (List.mem_append_left _ (ha.sub e he))) (by have:=ha.le;rw[List.length_append] at hl;omega)
    obtain⟨z',e'⟩:=ih (pre++[c]) (v7 m acc c) (some (.d (caseD c))) (gi ha) (by rwa [List.append_assoc]) (by rwa [List.append_assoc])
    exact⟨z',(xy e).trans e'⟩
 obtain⟨z',e⟩:=loop cs [] [] none ⟨fun _ h=>(nomatch h),Nat.le_refl _,.nil⟩ h.good h.le
 refine u5 (fn:=c25) rfl ⟨rfl,by decide⟩ rfl rfl ((zc (zr (v:=.box 0) (O':=[Box.lst []]) rfl rfl rfl)).trans ((zc (ρ':=[some (.d (.list (due m))),some (.d (.list (zb cs))),some (.box 0),z',none]) (O':=[Box.lst (zb (u6 m cs))]) ?_).trans (zg (yr rfl))))
 rw[ww,if_neg Bool.false_ne_true]
 exact e
noncomputable def cnt(is:List Int):Nat:=(firstMet (fun i=>is.getD i 0) is.length).length
theorem range_getD(is:List Int):(List.range is.length).map (fun i=>is.getD i 0)=is:=by
 refine List.ext_getElem (by rw[List.length_map,List.length_range]) fun i h1 h2=>?_
 rw[List.getElem_map,List.getElem_range,List.getD_eq_getElem?_getD,List.getElem?_eq_getElem h2];rfl
theorem met_mem{is:List Int}{a:Int}:a∈firstMet (fun i=>is.getD i 0) is.length↔a∈is:=by
 have h:=firstMet_any (fun i=>is.getD i 0) is.length a
 rw[range_getD] at h
 have e:∀ l:List Int,(l.any (· == a))=true↔a∈l:=fun l=>by rw[List.any_eq_true];exact⟨fun ⟨x,hx,q⟩=>beq_iff_eq.mp q ▸ hx,fun hx=>⟨a,hx,beq_self_eq_true a⟩⟩
 rw[← e,← e,h]
theorem zob{is:List Int}{a b:Int}(ha:a∈is)(hb:b∈is)(hne:a≠b):1 < cnt is:=by
 have h1:=met_mem.mpr ha
 have h2:=met_mem.mpr hb
 unfold cnt
 generalize firstMet (fun i=>is.getD i 0) is.length=l at h1 h2
 match l,h1,h2 with
 | [],h1,_=>cases h1
 | [x],h1,h2=>exact absurd ((List.mem_singleton.mp h1).trans (List.mem_singleton.mp h2).symm) hne
 | _::_::_,_,_=>exact Nat.succ_lt_succ (Nat.succ_pos _)
theorem zck{c:Int}:∀ l:List Int,(∀ x∈l,x=c)→l.foldl step_dedup [c]=[c]
 | [],_=>rfl
 | x::l,h=>by
   have hx:=h x (.head _)
   subst hx
   rw[List.foldl_cons,show step_dedup [x] x=[x] by unfold step_dedup;simp]
   exact zck l fun y hy=>h y (.tail _ hy)
theorem zoc{is:List Int}{c:Int}(h:∀ x∈is,x=c):cnt is≤1:=by
 unfold cnt firstMet
 rw[range_getD]
 cases is with
 | nil=>exact Nat.zero_le _
 | cons x l=>
   have hx:=h x (.head _)
   subst hx
   rw[List.foldl_cons,show step_dedup [] x=[x] from rfl,zck l fun y hy=>h y (.tail _ hy)];exact Nat.le_refl _
noncomputable def jj(w:Wg)(cs:Cs):Bool:=decide (((cnt (cs.map (zl w)):Nat):Int) > 1)
theorem zj4{w:Wg}{cs:Cs}{a b:List Int}(ha:a∈cs)(hb:b∈cs)(h:zl w a≠zl w b):jj w cs=true:=
 decide_eq_true (by have:=zob (List.mem_map.mpr ⟨a,ha,rfl⟩) (List.mem_map.mpr ⟨b,hb,rfl⟩) h;omega)
theorem zd0{w:Wg}{cs:Cs}(h:jj w cs=true)(o:Int):∃ c∈cs,zl w c≠o:=by
 refine Decidable.byContradiction fun hn=>?_
 have:cnt (cs.map (zl w))≤1:=zoc (c:=o) fun x hx=>by
  obtain⟨c,hc,rfl⟩:=List.mem_map.mp hx
  exact Decidable.byContradiction fun hne=>hn ⟨c,hc,hne⟩
 have:=of_decide_eq_true h
 omega
theorem zgt(w:Wg)(c:List Int):zl (w.2,w.1) c=0 - zl w c:=zmw _ _
theorem zhh{w:Wg}{cs:Cs}{o:Int}(h:∃ c∈cs,zl w c≠o):(zz w o cs).length < cs.length:=by
 obtain⟨c,hc,hne⟩:=h
 exact List.length_filter_lt_length_iff_exists.mpr ⟨c,hc,by rw[decide_eq_false hne];decide⟩
theorem zo6{P:Pg}{ρ:Loc}{O O':za}{a:CE}{is:List Int}(hd:P.hd=false)(h:evE P ρ a O=.ok (.d (.list (is.map .int))) O')(hl:is.length≤20):evE P ρ (.lenI a) O=.ok (.d (.int (cnt is:Nat))) O':=by
 show (if P.hd=true then .stuck else _:R za V)=_
 rw[if_neg (by rw[hd];decide),h]
 show opt (((intsOf (is.map .int)).bind fun is=>if is.length≤20 then some (PyData.int (firstMet (fun i=>is.getD i 0) is.length).length) else none).map V.d) O'=_
 rw[vj]
 show opt ((if is.length≤20 then some (PyData.int (firstMet (fun i=>is.getD i 0) is.length).length) else none).map V.d) O'=_
 rw[if_pos hl];rfl
noncomputable def Pl.sz:Pl→Nat
 | .no=>10
 | .told _=>60
 | .weigh _ a b c=>80+a.sz+b.sz+c.sz
structure Fit(m n:Nat)(cs:Cs)(p:Pl):Prop where
 fits:p.fits m cs
 hgt:p.hgt≤n
 sz:p.sz≤10+120 * cs.length * n
noncomputable abbrev L14(m:Nat)(cs:Cs)(s:Int)(w:Int)(a4 a5 a6 a7 a8 a9 a10:Option V):Loc:=[some (.d (.list (due m))),some (.d (.list (zb cs))),some (.d (.int s)),some (.d (.int w)),a4,a5,a6,a7,a8,a9,a10,none,none,none]
noncomputable abbrev zke(m:Nat)(cs:Cs)(s:Int)(w:Nat):List V:=[.d (.list (due m)),.d (.list (zb cs)),.d (.int s),.d (.int (w:Nat))]
noncomputable def plB:CSs:=(.cons (.asg (.name 10) (.comp (.loc 13) (.name 13) (.e (.loc 1)) (.cons (.cmp .eq (.call 15 (.cons (.loc 7) (.cons (.loc 13) .nil))) (.loc 9)) .nil))) (.cons (.asg (.name 2) (.bin .mod (.bin .add (.bin .mul (.loc 2) (.int 16807)) (.int 5)) (.int 1000003))) (.cons (.expr (.meth .append (.loc 8) (.cons (.ite (.cmp .eq (.loc 10) (.list .nil)) .none (.call 26 (.cons (.loc 0) (.cons (.loc 10) (.cons (.loc 2) (.cons (.loc 3) .nil)))))) .nil))) .nil)))
noncomputable def Rec(m n k w:Nat)(cs:Cs):Prop:=cs≠[]→∀ (s:Int) (O:za),∃ p:Pl,ze P table k false 26 (zke m cs s w) O=.ok (.d p.toD) O∧Fit m n cs p
theorem zfo{k m n w:Nat}{wg:Wg}{o s:Int}{cs:Cs}{a4 a5 a6 a9 a10:Option V}{xs:List PyData}{O:za}(hm:m4 m)(hw:wg∈wsI m)(h:Ok12 m cs)(hx:xs.length < 10)(hr:Rec m n (k+1) w (zz wg o cs)) :
 ∃ (s':Int) (b10:Option V) (p:Pl),jb (PG (k+1) false) (.name 9) plB (.int o) (L14 m cs s w a4 a5 a6 (some (.d (wD wg))) (some (.box O.length)) a9 a10) (O++[Box.lst xs])=.ok .next (L14 m cs s' w a4 a5 a6 (some (.d (wD wg))) (some (.box O.length)) (some (.d (.int o))) b10,O++[Box.lst (xs++[p.toD])])∧Fit m n (zz wg o cs) p:=by
 have ep:=zgp (k:=k+1) (f:=15) (a:=13) (b:=1) (w:=wg) (o:=o) (wx:=.loc 7) (ox:=.loc 9) (ρ:=L14 m cs s w a4 a5 a6 (some (.d (wD wg))) (some (.box O.length)) (some (.d (.int o))) a10) (O:=O++[Box.lst xs]) h (vo hm hw) rfl rfl (fun _=>rfl) fun _=>rfl
 obtain⟨j,_,ej⟩:=md (s * 16807+5) 1000003 (O++[Box.lst xs]) (by decide)
 generalize zz wg o cs=cs' at ep hr
 have hxl:xs.length < line:=Nat.lt_trans hx (by decide)
 have e1:evS (PG (k+1) false) (.asg (.name 2) (.bin .mod (.bin .add (.bin .mul (.loc 2) (.int 16807)) (.int 5)) (.int 1000003))) (L14 m cs s w a4 a5 a6 (some (.d (wD wg))) (some (.box O.length)) (some (.d (.int o))) (some (.d (.list (zb cs'))))) (O++[Box.lst xs])=.ok .next (L14 m cs (j:Int) w a4 a5 a6 (some (.d (wD wg))) (some (.box O.length)) (some (.d (.int o))) (some (.d (.list (zb cs')))),O++[Box.lst xs]):=
  zr (zs (zs (zs rfl rfl (zhq (.inr (by decide)))) rfl wc) rfl ej) rfl rfl
 have he:evE (PG (k+1) false) (L14 m cs (j:Int) w a4 a5 a6 (some (.d (wD wg))) (some (.box O.length)) (some (.d (.int o))) (some (.d (.list (zb cs'))))) (.cmp .eq (.loc 10) (.list .nil)) (O++[Box.lst xs])=.ok (.d (.bool (decide (cs'=[])))) (O++[Box.lst xs]):=zh rfl rfl zdh
 obtain⟨p,hp,hf⟩ : ∃ p:Pl,evE (PG (k+1) false) (L14 m cs (j:Int) w a4 a5 a6 (some (.d (wD wg))) (some (.box O.length)) (some (.d (.int o))) (some (.d (.list (zb cs'))))) (.ite (.cmp .eq (.loc 10) (.list .nil)) .none (.call 26 (.cons (.loc 0) (.cons (.loc 10) (.cons (.loc 2) (.cons (.loc 3) .nil)))))) (O++[Box.lst xs])=.ok (.d p.toD) (O++[Box.lst xs])∧Fit m n cs' p:=by
  by_cases hc:cs'=[]
  ·rw[decide_eq_true hc] at he
   exact⟨.no,by rw[u9,he];rfl,hc,Nat.zero_le _,Nat.le_add_right _ _⟩
  ·rw[decide_eq_false hc] at he
   obtain⟨p,hp,hf⟩:=hr hc (j:Int) (O++[Box.lst xs])
   refine⟨p,?_,hf⟩
   rw[u9,he]
   show evE (PG (k+1) false) (L14 m cs (j:Int) w a4 a5 a6 (some (.d (wD wg))) (some (.box O.length)) (some (.d (.int o))) (some (.d (.list (zb cs'))))) (.call 26 (.cons (.loc 0) (.cons (.loc 10) (.cons (.loc 2) (.cons (.loc 3) .nil))))) (O++[Box.lst xs])=_
   exact zi rfl hp
 refine⟨(j:Int),some (.d (.list (zb cs'))),p,?_,hf⟩
 show evSs (PG (k+1) false) plB (L14 m cs s w a4 a5 a6 (some (.d (wD wg))) (some (.box O.length)) (some (.d (.int o))) a10) (O++[Box.lst xs])=_
 refine (zc (zr ep rfl rfl)).trans ((zc e1).trans ((zc (j8 (qg (v:=.box O.length) rfl dj (zf hp rfl) (dq hxl)))).trans rfl))
noncomputable def plR:CSs:=(.cons (.asg (.name 8) (.boxed (.list .nil))) (.cons (.for_ (.name 9) (.e (.list (.cons (.neg (.int 1)) (.cons (.int 0) (.cons (.int 1) .nil))))) plB) (.cons (.ret (.tup (.cons (.str (Str.ofString "weigh")) (.cons (.loc 7) (.cons (.prim .tuple (.cons (.loc 8) .nil)) .nil))))) .nil)))
theorem kg(w:Wg):∀ cs:Cs,(zz w (-1) cs).length+(zz w 0 cs).length+(zz w 1 cs).length=cs.length
 | []=>rfl
 | c::cs=>by
   have ih:=kg w cs
   unfold zz at ih ⊢
   simp only[List.filter_cons,decide_eq_true_eq]
   rcases qz w c with e | e | e
   ·rw[if_pos e,if_neg (by omega),if_neg (by omega),List.length_cons,List.length_cons];omega
   ·rw[if_neg (by omega),if_pos e,if_neg (by omega),List.length_cons,List.length_cons];omega
   ·rw[if_neg (by omega),if_neg (by omega),if_pos e,List.length_cons,List.length_cons];omega
theorem zs4{k m n w:Nat}{wg:Wg}{s:Int}{cs:Cs}{a4 a5 a6:Option V}{O:za}(hm:m4 m)(hw:wg∈wsI m)(h:Ok12 m cs)(hne:cs≠[])(hr:∀ o,Rec m n (k+1) w (zz wg o cs)) :
 ∃ (ρ':Loc) (O':za) (p:Pl),evSs (PG (k+1) false) plR (L14 m cs s w a4 a5 a6 (some (.d (wD wg))) none none none) O=.ok (.ret (.d p.toD)) (ρ',O++O')∧Fit m (n+1) cs p:=by
 obtain⟨s1,b1,p1,e1,f1⟩:=zfo (k:=k) (s:=s) (a4:=a4) (a5:=a5) (a6:=a6) (a9:=none) (a10:=none) (xs:=[]) (O:=O) hm hw h (by show 0 < 10;decide) (hr (-1))
 obtain⟨s2,b2,p2,e2,f2⟩:=zfo (k:=k) (s:=s1) (a4:=a4) (a5:=a5) (a6:=a6) (a9:=some (.d (.int (-1)))) (a10:=b1) (xs:=[]++[p1.toD]) (O:=O) hm hw h (by show 1 < 10;decide) (hr 0)
 obtain⟨s3,b3,p3,e3,f3⟩:=zfo (k:=k) (s:=s2) (a4:=a4) (a5:=a5) (a6:=a6) (a9:=some (.d (.int 0))) (a10:=b2) (xs:=[]++[p1.toD]++[p2.toD]) (O:=O) hm hw h (by show 2 < 10;decide) (hr 1)
 have hfor:evS (PG (k+1) false) (.for_ (.name 9) (.e (.list (.cons (.neg (.int 1)) (.cons (.int 0) (.cons (.int 1) .nil))))) plB) (L14 m cs s w a4 a5 a6 (some (.d (wD wg))) (some (.box O.length)) none none) (O++[Box.lst []])=.ok .next (L14 m cs s3 w a4 a5 a6 (some (.d (wD wg))) (some (.box O.length)) (some (.d (.int 1))) b3,O++[Box.lst ([]++[p1.toD]++[p2.toD]++[p3.toD])]):=by
  rw[ww,if_neg Bool.false_ne_true]
  exact (xy (ys:=[.int (-1),.int 0,.int 1]) e1).trans ((xy e2).trans ((xy e3).trans rfl))
 have hret:evE (PG (k+1) false) (L14 m cs s3 w a4 a5 a6 (some (.d (wD wg))) (some (.box O.length)) (some (.d (.int 1))) b3) (.tup (.cons (.str (Str.ofString "weigh")) (.cons (.loc 7) (.cons (.prim .tuple (.cons (.loc 8) .nil)) .nil)))) (O++[Box.lst ([]++[p1.toD]++[p2.toD]++[p3.toD])])=.ok (.d (Pl.weigh wg p1 p2 p3).toD) (O++[Box.lst ([]++[p1.toD]++[p2.toD]++[p3.toD])]):=by
  rw[zbt,zf (v:=.d (.str sW)) rfl (zf (v:=.d (wD wg)) rfl (zf (v:=.d (.tuple [p1.toD,p2.toD,p3.toD])) (yt (v:=.box O.length) rfl rfl (wn zam rfl)) rfl))];rfl
 refine⟨_,_,.weigh wg p1 p2 p3,(zc (zr (v:=.box O.length) (O':=O++[Box.lst []]) rfl rfl rfl)).trans ((zc hfor).trans (zg (yr hret))),⟨hw,hne,f1.fits,f2.fits,f3.fits⟩,Nat.succ_le_succ (Nat.max_le.mpr ⟨f1.hgt,Nat.max_le.mpr ⟨f2.hgt,f3.hgt⟩⟩),?_⟩
 have h1:=f1.sz
 have h2:=f2.sz
 have h3:=f3.sz
 have hs:=kg wg cs
 have hp:1≤cs.length:=Nat.pos_of_ne_zero fun e=>hne (List.length_eq_zero_iff.mp e)
 show 80+p1.sz+p2.sz+p3.sz≤10+120 * cs.length * (n+1)
 have e:120 * cs.length * n=120 * (zz wg (-1) cs).length * n+120 * (zz wg 0 cs).length * n+120 * (zz wg 1 cs).length * n:=by
  rw[← hs,Nat.mul_add,Nat.mul_add,Nat.add_mul,Nat.add_mul]
 rw[Nat.mul_succ]
 omega
noncomputable def plC:CSs:=(.cons (.asg (.two (.name 5) (.name 6)) (.idx (.loc 4) (.bin .mod (.bin .fdiv (.loc 2) (.int 7)) (.prim .len (.cons (.loc 4) .nil))))) (.cons (.asg (.name 7) (.idx (.list (.cons (.tup (.cons (.loc 5) (.cons (.loc 6) .nil))) (.cons (.tup (.cons (.loc 6) (.cons (.loc 5) .nil))) .nil))) (.bin .mod (.bin .fdiv (.loc 2) (.int 200)) (.int 2)))) plR))
theorem zou{k m n w:Nat}{s:Int}{cs:Cs}{ws:List Wg}{O:za}(hm:m4 m)(h:Ok12 m cs)(hne:cs≠[])(hws:ws≠[])(hwl:ws.length≤30)(hwd:∀ x∈ws,x∈dueI m)
 (hr:∀ x∈ws,∀ o,Rec m n (k+1) w (zz x o cs)∧Rec m n (k+1) w (zz (x.2,x.1) o cs)) :
 ∃ (ρ':Loc) (O':za) (p:Pl),evSs (PG (k+1) false) plC (L14 m cs s w (some (.d (.list (ws.map wD)))) none none none none none none) O=.ok (.ret (.d p.toD)) (ρ',O++O')∧Fit m (n+1) cs p:=by
 have hpos:0 < ws.length:=Nat.pos_of_ne_zero fun e=>hws (List.length_eq_zero_iff.mp e)
 have hl:(ws.map wD).length≤line:=by rw[List.length_map];exact Nat.le_trans hwl (by decide)
 obtain⟨j,hj,ej⟩:=md (Int.fdiv s 7) ws.length O hpos
 obtain⟨j2,hj2,ej2⟩:=md (Int.fdiv s 200) 2 O (by decide)
 obtain⟨y,hy,ey⟩:=dk (xs:=ws.map wD) (j:=j) (n:=ws.length) (List.length_map _) (Nat.le_trans hwl (by decide)) hj
 obtain⟨x,hx,rfl⟩:=List.mem_map.mp hy
 have el:prim (PG (k+1) false) .len [.d (.list (ws.map wD))] O=.ok (.d (.int (ws.length:Nat))) O:=by rw[x7 (.d _) hl,List.length_map]
 have s1:evS (PG (k+1) false) (.asg (.two (.name 5) (.name 6)) (.idx (.loc 4) (.bin .mod (.bin .fdiv (.loc 2) (.int 7)) (.prim .len (.cons (.loc 4) .nil))))) (L14 m cs s w (some (.d (.list (ws.map wD)))) none none none none none none) O=.ok .next (L14 m cs s w (some (.d (.list (ws.map wD)))) (some (.d (.tuple (x.1.map .int)))) (some (.d (.tuple (x.2.map .int)))) none none none none,O):=
  zfj rfl (xn rfl (zs (zs rfl rfl (dv ⟨by decide,by decide⟩)) (yt rfl rfl el) ej) (by rw[x4,ey];rfl)) rfl
 obtain⟨wg,hwg,s2,hrec⟩ : ∃ wg:Wg,wg∈wsI m∧evS (PG (k+1) false) (.asg (.name 7) (.idx (.list (.cons (.tup (.cons (.loc 5) (.cons (.loc 6) .nil))) (.cons (.tup (.cons (.loc 6) (.cons (.loc 5) .nil))) .nil))) (.bin .mod (.bin .fdiv (.loc 2) (.int 200)) (.int 2)))) (L14 m cs s w (some (.d (.list (ws.map wD)))) (some (.d (.tuple (x.1.map .int)))) (some (.d (.tuple (x.2.map .int)))) none none none none) O=.ok .next (L14 m cs s w (some (.d (.list (ws.map wD)))) (some (.d (.tuple (x.1.map .int)))) (some (.d (.tuple (x.2.map .int)))) (some (.d (wD wg))) none none none,O)∧∀ o,Rec m n (k+1) w (zz wg o cs):=by
  have hj2:j2=0∨j2=1:=by omega
  rcases hj2 with rfl | rfl
  ·exact⟨x,qt (hwd x hx),zr (xn rfl (zs (zs rfl rfl (dv ⟨by decide,by decide⟩)) rfl ej2) rfl) rfl rfl,fun o=>(hr x hx o).1⟩
  ·exact⟨(x.2,x.1),(k9 hm (qt (hwd x hx))).t,zr (xn rfl (zs (zs rfl rfl (dv ⟨by decide,by decide⟩)) rfl ej2) rfl) rfl rfl,fun o=>(hr x hx o).2⟩
 obtain⟨ρ',O',p,e,f⟩:=zs4 (k:=k) (s:=s) (a4:=some (.d (.list (ws.map wD)))) (a5:=some (.d (.tuple (x.1.map .int)))) (a6:=some (.d (.tuple (x.2.map .int)))) (O:=O) hm hwg h hne hrec
 exact⟨ρ',O',p,(zc s1).trans ((zc s2).trans e),f⟩
noncomputable def wu(cs:Cs)(x:PyData):Option PyData:=if jj (unW x) cs then some x else none
theorem zns{k m:Nat}{cs:Cs}{s w:Int}{a4:Option V}{O:za}(hm:m4 m)(h:Ok12 m cs):evE (PG (k+1) false) (L14 m cs s w a4 none none none none none none) (.comp (.loc 11) (.name 11) (.e (.loc 0)) (.cons (.cmp .gt (.lenI (.comp (.call 15 (.cons (.loc 11) (.cons (.loc 12) .nil))) (.name 12) (.e (.loc 1)) .nil)) (.int 1)) .nil)) O=.ok (.d (.list (((dueI m).filter fun x=>jj x cs).map wD))) O:=by
 have:=km (P:=PG (k+1) false) (ρ:=L14 m cs s w a4 none none none none none none) (elt:=.loc 11) (tgt:=.name 11) (it:=.e (.loc 0)) (ifs:=.cons (.cmp .gt (.lenI (.comp (.call 15 (.cons (.loc 11) (.cons (.loc 12) .nil))) (.name 12) (.e (.loc 1)) .nil)) (.int 1)) .nil) (O:=O) (src:=.plain (due m)) rfl rfl rfl (p0 hm) (wu cs) fun y hy=>by
  obtain⟨x,hx,rfl⟩:=List.mem_map.mp hy
  have hc:evE (PG (k+1) false) [some (.d (.list (due m))),some (.d (.list (zb cs))),some (.d (.int s)),some (.d (.int w)),a4,none,none,none,none,none,none,some (.d (wD x)),none,none] (.comp (.call 15 (.cons (.loc 11) (.cons (.loc 12) .nil))) (.name 12) (.e (.loc 1)) .nil) O=.ok (.d (.list ((cs.map (zl x)).map .int))) O:=by
   have:=va (P:=PG (k+1) false) (ρ:=[some (.d (.list (due m))),some (.d (.list (zb cs))),some (.d (.int s)),some (.d (.int w)),a4,none,none,none,none,none,none,some (.d (wD x)),none,none]) (elt:=.call 15 (.cons (.loc 11) (.cons (.loc 12) .nil))) (tgt:=.name 12) (it:=.e (.loc 1)) (O:=O) (src:=.plain (zb cs)) rfl rfl rfl h.line (fun y=>.int (zl x (unC y))) fun y hy=>by
    obtain⟨c,hcm,rfl⟩:=List.mem_map.mp hy
    exact⟨[some (.d (.list (due m))),some (.d (.list (zb cs))),some (.d (.int s)),some (.d (.int w)),a4,none,none,none,none,none,none,some (.d (wD x)),some (.d (caseD c)),none],rfl,by rw[xb];exact zi rfl (vo hm (qt hx) c (h.good c hcm))⟩
   rw[this]
   congr 3
   show (cs.map caseD).map _=_
   rw[List.map_map,List.map_map]
   exact List.map_congr_left fun c _=>by show PyData.int (zl x (unC (caseD c)))=_;rw[xb];rfl
  have ht:evE (PG (k+1) false) [some (.d (.list (due m))),some (.d (.list (zb cs))),some (.d (.int s)),some (.d (.int w)),a4,none,none,none,none,none,none,some (.d (wD x)),none,none] (.cmp .gt (.lenI (.comp (.call 15 (.cons (.loc 11) (.cons (.loc 12) .nil))) (.name 12) (.e (.loc 1)) .nil)) (.int 1)) O=.ok (.d (.bool (jj x cs))) O:=
   zh (zo6 rfl hc (by rw[List.length_map];exact Nat.le_trans h.le (by decide))) rfl v_gt
  unfold yz zp
  rw[if_pos (show 11 < (L14 m cs s w a4 none none none none none none).length from (by show 11 < 14;decide))]
  show R.bind (xd (PG (k+1) false) [some (.d (.list (due m))),some (.d (.list (zb cs))),some (.d (.int s)),some (.d (.int w)),a4,none,none,none,none,none,none,some (.d (wD x)),none,none] _ _) _=_
  rw[gd,ht]
  unfold wu
  rw[zdu]
  cases jj x cs <;> rfl
 rw[this]
 congr 3
 show (due m).filterMap (wu cs)=_
 unfold due
 generalize dueI m=l
 induction l with
 | nil=>rfl
 | cons x l ih=>
   rw[List.map_cons]
   cases hs:jj x cs with
   | true=>rw[List.filterMap_cons_some (show wu cs (wD x)=some (wD x) by unfold wu;rw[zdu,hs];rfl),ih,List.filter_cons_of_pos (by exact hs)];rfl
   | false=>rw[List.filterMap_cons_none (show wu cs (wD x)=none by unfold wu;rw[zdu,hs];rfl),ih,List.filter_cons_of_neg (by rw[hs];decide)]
theorem zgy:c26.body=(.cons (.asg (.name 4) (.loc 0)) (.cons (.ife (.or_ (.cmp .gt (.bin .mod (.loc 2) (.int 7)) (.int 0)) (.cmp .eq (.loc 3) (.int 0))) (.cons (.ife (.cmp .eq (.prim .len (.cons (.loc 1) .nil)) (.int 1)) (.cons (.ret (.tup (.cons (.str (Str.ofString "told")) (.cons (.idx (.loc 1) (.int 0)) .nil)))) .nil) .nil) (.cons (.asg (.name 4) (.comp (.loc 11) (.name 11) (.e (.loc 0)) (.cons (.cmp .gt (.lenI (.comp (.call 15 (.cons (.loc 11) (.cons (.loc 12) .nil))) (.name 12) (.e (.loc 1)) .nil)) (.int 1)) .nil))) .nil)) (.cons (.asg (.name 3) (.bin .sub (.loc 3) (.int 1))) .nil)) plC)):=rfl
noncomputable abbrev PwA(m:Nat)(cs:Cs):Prop:=cs.Pairwise fun a b=>xm m b a=false
theorem zfr{m:Nat}{cs:Cs}(hp:PwA m cs)(h1:¬ (cs.length:Int)=1)(hpos:1≤cs.length):((dueI m).filter fun x=>jj x cs)≠[]:=by
 cases cs with
 | nil=>exact absurd hpos (by decide)
 | cons a l=>
   cases l with
   | nil=>exact absurd rfl h1
   | cons b r=>
     have hab:xm m b a=false:=(List.pairwise_cons.mp hp).1 b (.head _)
     obtain⟨x,hx,hd⟩:=List.all_eq_false.mp hab
     intro e
     have:=(List.mem_filter (p:=fun x=>jj x (a::b::r))).mpr ⟨hx,zj4 (cs:=a::b::r) (.tail _ (.head _)) (.head _) (of_decide_eq_false (Bool.eq_false_iff.mpr hd))⟩
     rw[e] at this;cases this
theorem zcj{m:Nat}(hm:m4 m):∀ (n k:Nat) (cs:Cs) (w:Nat),Ok12 m cs→PwA m cs→cs.length+w≤n→Rec m n (k+n+1) w cs
 | 0,k,cs,w,_,_,hn,hne=>absurd (List.length_eq_zero_iff.mp (show cs.length=0 by omega)) hne
 | n+1,k,cs,w,h,hp,hn,hne=>fun s O=>by
   have hpos:1≤cs.length:=Nat.pos_of_ne_zero fun e=>hne (List.length_eq_zero_iff.mp e)
   have ih:∀ (x:Wg) (o:Int) (w':Nat),(zz x o cs).length+w'≤n→Rec m n (k+n+1) w' (zz x o cs):=fun x o w' hl=>zcj hm n k _ w' (h.part x o) (hp.sublist List.filter_sublist) hl
   obtain⟨j7,hj7,e7⟩:=md s 7 O (by decide)
   have tst:evE (PG (k+n+1) false) (L14 m cs s w (some (.d (.list (due m)))) none none none none none none) (.or_ (.cmp .gt (.bin .mod (.loc 2) (.int 7)) (.int 0)) (.cmp .eq (.loc 3) (.int 0))) O=.ok (.d (.bool (decide ((j7:Int) > 0) || decide ((w:Int)=0)))) O:=by
    have h1:evE (PG (k+n+1) false) (L14 m cs s w (some (.d (.list (due m)))) none none none none none none) (.cmp .gt (.bin .mod (.loc 2) (.int 7)) (.int 0)) O=.ok (.d (.bool (decide ((j7:Int) > 0)))) O:=zh (zs rfl rfl e7) rfl v_gt
    have h2:evE (PG (k+n+1) false) (L14 m cs s w (some (.d (.list (due m)))) none none none none none none) (.cmp .eq (.loc 3) (.int 0)) O=.ok (.d (.bool (decide ((w:Int)=0)))) O:=zh rfl rfl eq_int
    cases hb:decide ((j7:Int) > 0) with
    | true=>rw[hb] at h1;exact zjs h1
    | false=>rw[hb] at h1;exact yu h1 h2
   have open_:∀ {p:Pl} {ρ':Loc} {O':za},evSs (PG (k+n+1) false) c26.body (L14 m cs s w none none none none none none none) O=.ok (.ret (.d p.toD)) (ρ',O++O')→ze P table (k+n+1+1) false 26 (zke m cs s w) O=.ok (.d p.toD) O:=fun e=>ub (fn:=c26) rfl ⟨rfl,by decide⟩ rfl e
   cases hb:(decide ((j7:Int) > 0) || decide ((w:Int)=0)) with
   | false=>
     rw[hb] at tst
     have hw0:(w:Int)≠0:=of_decide_eq_false (Bool.or_eq_false_iff.mp hb).2
     obtain⟨w',rfl⟩ : ∃ w',w=w' + 1:=⟨w - 1,by omega⟩
     have he:evSs (PG (k+n+1) false) (.cons (.asg (.name 3) (.bin .sub (.loc 3) (.int 1))) .nil) (L14 m cs s ((w' + 1:Nat):Int) (some (.d (.list (due m)))) none none none none none none) O=.ok .next (L14 m cs s (w':Int) (some (.d (.list (due m)))) none none none none none none,O):=by
      refine (zc (zr (zs rfl rfl zcc) rfl rfl)).trans ?_
      rw[show ((w' + 1:Nat):Int) - 1=(w':Int) by omega];rfl
     obtain⟨ρ',O',p,e,f⟩:=zou (k:=k+n) (n:=n) (w:=w') (s:=s) (ws:=dueI m) (O:=O) hm h hne (fun e=>by have:=(vq hm).1;rw[e] at this;exact absurd this (by decide)) (vq hm).2 (fun _ h=>h) fun x _ o=>⟨ih x o w' (by have:=List.length_filter_le (fun c=>decide (zl x c=o)) cs;unfold zz;omega),ih _ o w' (by have:=List.length_filter_le (fun c=>decide (zl (x.2,x.1) c=o)) cs;unfold zz;omega)⟩
     refine⟨p,open_ (ρ':=ρ') (O':=O') ?_,f⟩
     rw[zgy]
     exact (zc (zr rfl rfl rfl)).trans ((zc ((w_if tst).trans ((if_neg Bool.false_ne_true).trans he))).trans e)
   | true=>
     rw[hb] at tst
     have hlen:evE (PG (k+n+1) false) (L14 m cs s w (some (.d (.list (due m)))) none none none none none none) (.cmp .eq (.prim .len (.cons (.loc 1) .nil)) (.int 1)) O=.ok (.d (.bool (decide ((cs.length:Int)=1)))) O:=zh (yt rfl rfl (by rw[x7 (.d _) h.line,zx])) rfl eq_int
     by_cases h1:(cs.length:Int)=1
     ·rw[decide_eq_true h1] at hlen
      obtain⟨c,rfl⟩:=List.length_eq_one_iff.mp (show cs.length=1 by omega)
      refine⟨.told c,open_ (ρ':=L14 m [c] s w (some (.d (.list (due m)))) none none none none none none) (O':=[]) ?_,rfl,Nat.zero_le _,by show 60≤10+120 * 1 * (n+1);omega⟩
      rw[zgy,List.append_nil]
      exact (zc (zr rfl rfl rfl)).trans (zg ((w_if tst).trans ((if_pos rfl).trans (zg ((w_if hlen).trans rfl)))))
     ·rw[decide_eq_false h1] at hlen
      have hne':=zfr hp h1 hpos
      obtain⟨ρ',O',p,e,f⟩:=zou (k:=k+n) (n:=n) (w:=w) (s:=s) (ws:=(dueI m).filter fun x=>jj x cs) (O:=O) hm h hne hne' (Nat.le_trans (List.length_filter_le _ _) (vq hm).2) (fun x hx=>(List.mem_filter.mp hx).1) fun x hx o=>by
       have hs:=(List.mem_filter.mp hx).2
       refine⟨ih x o w (by have:=zhh (zd0 hs o);omega),ih _ o w ?_⟩
       have:(zz (x.2,x.1) o cs).length < cs.length:=zhh (by
        obtain⟨c,hc,hcn⟩:=zd0 hs (0 - o)
        exact⟨c,hc,by rw[zgt];omega⟩)
       omega
      refine⟨p,open_ (ρ':=ρ') (O':=O') ?_,f⟩
      rw[zgy]
      have he:evSs (PG (k+n+1) false) (.cons (.ife (.cmp .eq (.prim .len (.cons (.loc 1) .nil)) (.int 1)) (.cons (.ret (.tup (.cons (.str (Str.ofString "told")) (.cons (.idx (.loc 1) (.int 0)) .nil)))) .nil) .nil) (.cons (.asg (.name 4) (.comp (.loc 11) (.name 11) (.e (.loc 0)) (.cons (.cmp .gt (.lenI (.comp (.call 15 (.cons (.loc 11) (.cons (.loc 12) .nil))) (.name 12) (.e (.loc 1)) .nil)) (.int 1)) .nil))) .nil)) (L14 m cs s w (some (.d (.list (due m)))) none none none none none none) O=.ok .next (L14 m cs s w (some (.d (.list (((dueI m).filter fun x=>jj x cs).map wD)))) none none none none none none,O):=
       (zc (zm hlen)).trans ((zc (zr (zns (k:=k+n) hm h) rfl rfl)).trans rfl)
      exact (zc (zr rfl rfl rfl)).trans ((zc ((w_if tst).trans ((if_pos rfl).trans he))).trans e)
end Mine.L04
end
section
namespace Mine.L04
open PySem Mine
theorem zdg{i:Int}(h : -1≤i∧i < 5)(d:Nat):Fine 2 d (.int i):=by
 have:i = -1∨i=0∨i=1∨i=2∨i=3∨i=4:=by omega
 rcases this with rfl | rfl | rfl | rfl | rfl | rfl <;> exact xi (by decide +kernel) d
theorem zqt(b:Bool)(d:Nat):Fine 5 d (.bool b):=by cases b <;> exact xi (by decide +kernel) d
theorem vm{n d:Nat}{f:Int→PyData}:∀ (l:List Int),(∀ i∈l,Fine n d (f i))→Fines d (l.length * (n+2)) (l.map f)
 | [],_=>by rw[List.length_nil,Nat.zero_mul];exact .nil
 | i::l,h=>by
   have:=Fines.cons (h i (.head _)) (vm l fun j hj=>h j (.tail _ hj))
   rw[List.length_cons,Nat.succ_mul,Nat.add_comm];exact this
theorem len5{m:Nat}{c:List Int}(hm:m4 m)(h:good m c):c.length≤5:=by rw[h.1];exact hm.2
theorem vn{m:Nat}{c:List Int}(hm:m4 m)(h:good m c)(d:Nat):Fine 40 (d+1) (caseD c)∧Fine 40 (d+1) (.list (c.map .int))∧Fine 40 (d+1) (truD c):=by
 have h1:=vm (n:=2) (d:=d) (f:=.int) c fun i hi=>zdg (by have:=h.2 i hi;omega) d
 have h2:=vm (n:=5) (d:=d) (f:=fun i=>if i < 0 then PyData.int i else .bool (decide (i=1))) c fun i hi=>by
  by_cases hn:i < 0
  ·rw[if_pos hn];exact (zdg (by have:=h.2 i hi;omega) d).le (by decide) (Nat.le_refl _)
  ·rw[if_neg hn];exact zqt _ d
 have h5:=len5 hm h
 exact⟨.tuple h1 (by omega) (Nat.le_refl _),.list h1 (by omega) (Nat.le_refl _),.tuple h2 (by omega) (Nat.le_refl _)⟩
theorem zem{m:Nat}{l:List Int}(hm:m4 m)(h:InR m l)(d:Nat):Fine 11 (d+1) (.tuple (l.map .int)):=by
 have h1:=vm (n:=2) (d:=d) (f:=.int) l fun i hi=>zdg (by have:=h.at_ i hi;have:=hm.2;omega) d
 have:=h.len
 exact .tuple h1 (by omega) (Nat.le_refl _)
theorem zay{m:Nat}{l r:List Int}(hm:m4 m)(hl:InR m l)(hr:InR m r)(d:Nat):Fine 30 (d+2) (wOf l r)∧Fine 30 (d+2) (.list [.tuple (l.map .int),.tuple (r.map .int)]):=by
 have h:=Fines.cons (zem hm hl d) (.cons (zem hm hr d) .nil)
 exact⟨.tuple h (by decide) (Nat.le_refl _),.list h (by decide) (Nat.le_refl _)⟩
theorem wq{m:Nat}{w:Wg}(hm:m4 m)(h:w∈wsI m)(d:Nat):Fine 30 (d+2) (wD w):=(zay hm (k9 hm h).l (k9 hm h).r d).1
theorem xh(d:Nat):Fine 10 d .none:=xi (by decide +kernel) d
theorem qp(d:Nat):Fine 10 d (.str sT):=xi (by decide +kernel) d
theorem qo(d:Nat):Fine 10 d (.str sW):=xi (by decide +kernel) d
theorem ux{m:Nat}{c:List Int}(hm:m4 m)(h:good m c)(d:Nat):Fine 60 (d+2) (.tuple [.str sT,caseD c]):=.tuple (.cons (qp (d+1)) (.cons (vn hm h d).1 .nil)) (by decide) (Nat.le_refl _)
theorem xc{m n1 n2 n3 d:Nat}{w:Wg}{a b c:PyData}(hm:m4 m)(hw:w∈wsI m)(hd:1≤d)(ha:Fine n1 d a)(hb:Fine n2 d b)(hc:Fine n3 d c):Fine (80+n1+n2+n3) (d+2) (yg (wD w) a b c):=
 .tuple (d:=d+1) (.cons (qo _) (.cons ((wq hm hw 0).le (Nat.le_refl _) (Nat.succ_le_succ hd)) (.cons (Fine.tuple (.cons ha (.cons hb (.cons hc .nil))) (Nat.le_refl _) (Nat.le_refl _)) .nil))) (by omega) (Nat.le_refl _)
theorem Pl.fine{m:Nat}(hm:m4 m):∀ (p:Pl) (cs:Cs),p.fits m cs→Ok12 m cs→Fine p.sz (2 * p.hgt+2) p.toD
 | .no,_,_,_=>xh _
 | .told c,cs,h,hc=>ux hm (hc.good c (by rw[show cs=[c] from h];exact .head _)) 0
 | .weigh w a b c,cs,h,hc=>by
   obtain⟨hw,_,ha,hb,hd⟩:=h
   have h1:=Nat.le_max_left a.hgt (max b.hgt c.hgt)
   have h2:=Nat.le_max_right a.hgt (max b.hgt c.hgt)
   have h3:=Nat.le_max_left b.hgt c.hgt
   have h4:=Nat.le_max_right b.hgt c.hgt
   refine (xc (d:=2 * max a.hgt (max b.hgt c.hgt)+2) hm hw (by omega) ((Pl.fine hm a _ ha (hc.part _ _)).le (Nat.le_refl _) (by omega)) ((Pl.fine hm b _ hb (hc.part _ _)).le (Nat.le_refl _) (by omega)) ((Pl.fine hm c _ hd (hc.part _ _)).le (Nat.le_refl _) (by omega))).le (Nat.le_refl _) ?_
   show _≤2 * (max a.hgt (max b.hgt c.hgt)+1)+2
   omega
noncomputable def Pl.tolds:Pl→Cs
 | .no=>[]
 | .told c=>[c]
 | .weigh _ a b c=>a.tolds++b.tolds++c.tolds
theorem Pl.tolds_len{m:Nat}:∀ (p:Pl) (cs:Cs),p.fits m cs→p.tolds.length=cs.length
 | .no,cs,h=>by rw[show cs=[] from h];rfl
 | .told c,cs,h=>by rw[show cs=[c] from h];rfl
 | .weigh w a b c,cs,h=>by
   obtain⟨_,_,ha,hb,hd⟩:=h
   show (a.tolds++b.tolds++c.tolds).length=_
   rw[List.length_append,List.length_append,Pl.tolds_len a _ ha,Pl.tolds_len b _ hb,Pl.tolds_len c _ hd,kg]
theorem Pl.tolds_mem{m:Nat}:∀ (p:Pl) (cs:Cs),p.fits m cs→∀ c∈p.tolds,c∈cs
 | .no,cs,h=>fun _ h=>nomatch h
 | .told c,cs,h=>fun e he=>by rw[show cs=[c] from h];exact he
 | .weigh w a b c,cs,h=>fun e he=>by
   obtain⟨_,_,ha,hb,hd⟩:=h
   rcases List.mem_append.mp he with he | he
   ·rcases List.mem_append.mp he with he | he
    ·exact (mem_part.mp (Pl.tolds_mem a _ ha e he)).1
    ·exact (mem_part.mp (Pl.tolds_mem b _ hb e he)).1
   ·exact (mem_part.mp (Pl.tolds_mem c _ hd e he)).1
theorem zcs{a b:Cs}{O:za}(h:a.length+b.length≤100):binK .add (.d (.list (zb a))) (.d (.list (zb b))) O=.ok (.d (.list (zb (a++b)))) O:=by
 show opt ((if (zb a).length+(zb b).length≤line then some (PyData.list (zb a++zb b)) else none).map V.d) O=_
 rw[if_pos (by rw[zx,zx];exact Nat.le_trans h (by decide)),show zb a++zb b=zb (a++b) from (List.map_append ..).symm];rfl
theorem po{m:Nat}:∀ (p:Pl) (cs:Cs),p.fits m cs→cs.length≤12→∀ k,ze P table (k+p.hgt+1) false 28 [.d p.toD] []=.ok (.d (.list (zb p.tolds))) []
 | .no,_,_,_,k=>by kernel_rfl
 | .told c,_,_,_,k=>zo (fn:=c28) rfl ⟨rfl,by decide⟩ rfl ((zc (zm rfl)).trans (zg ((w_if (bb:=true) (zh rfl rfl q_TT)).trans rfl)))
 | .weigh w a b c,cs,h,hl,k=>by
   obtain⟨_,_,ha,hb,hd⟩:=h
   have hs:=kg w cs
   have up:∀ {p:Pl} {l:Cs},p.hgt≤max a.hgt (max b.hgt c.hgt)→(∀ k,ze P table (k+p.hgt+1) false 28 [.d p.toD] []=.ok (.d (.list (zb p.tolds))) [])→ze P table (k+max a.hgt (max b.hgt c.hgt)+1) false 28 [.d p.toD] []=.ok (.d (.list (zb p.tolds))) []:=fun {p l} hle ih=>by
    have:=ih (k+(max a.hgt (max b.hgt c.hgt) - p.hgt))
    rwa [show k+(max a.hgt (max b.hgt c.hgt) - p.hgt)+p.hgt+1=k+max a.hgt (max b.hgt c.hgt)+1 by omega] at this
   have e1:=up (l:=cs) (Nat.le_max_left _ _) (po a _ ha (by omega))
   have e2:=up (l:=cs) (Nat.le_trans (Nat.le_max_left _ _) (Nat.le_max_right _ _)) (po b _ hb (by omega))
   have e3:=up (l:=cs) (Nat.le_trans (Nat.le_max_right _ _) (Nat.le_max_right _ _)) (po c _ hd (by omega))
   have l1:=Pl.tolds_len a _ ha
   have l2:=Pl.tolds_len b _ hb
   have l3:=Pl.tolds_len c _ hd
   exact zo (fn:=c28) rfl ⟨rfl,by decide⟩ rfl ((zc (zm rfl)).trans ((zc (zm (zh rfl rfl q_WT))).trans (zg (yr (zs (zs (zi rfl e1) (zi rfl e2) (zcs (by omega))) (zi rfl e3) (zcs (by rw[List.length_append];omega)))))))
noncomputable def menu(p:PyData)(c:List Int)(w:Wg):List PyData:=
 [.tuple [.str sT,caseD c],.none,.tuple [.str sT,truD c],.tuple [.str sT,.list (c.map .int)],.tuple [.str sT],.tuple [.str sT,caseD c,caseD c],
  yg (wD w) .none (.tuple [.str sT,caseD c]) .none,yg (wD w) p p p,.tuple [],
  .tuple [.str sW,wD w],.str sT,.int 5,.list [.str sT,caseD c],.tuple [.str (Str.ofString "tell"),caseD c],.tuple [.none,caseD c],.dict []]
structure Ask(m n s d:Nat)(x:PyData):Prop where
 thing:Thing m n x
 fine:Fine s d x
theorem zjx{c:List Int}(h:(c.all fun i=>decide (i < 0))=true):truD c=caseD c:=by
 unfold truD caseD
 congr 1
 exact List.map_congr_left fun i hi=>if_pos (of_decide_eq_true (List.all_eq_true.mp h i hi))
theorem zmh{m:Nat}{c:List Int}(h:good m c):XOk m (truD c):=by
 cases hb:(c.all fun i=>decide (i < 0)) with
 | true=>rw[zjx hb];exact .case c h
 | false=>exact .tru c h hb
theorem zm5{m n s d:Nat}{p:PyData}{c:List Int}{w:Wg}(hm:m4 m)(hc:good m c)(hw:w∈wsI m)(hd:2≤d)(hp:Ask m n s d p):∀ x∈menu p c w,Ask m (n+1) (3 * s+300) (d+2) x:=by
 have f1:=(vn hm hc 0).1
 have f2:=(vn hm hc 0).2.1
 have f3:=(vn hm hc 0).2.2
 have ft:=ux hm hc 0
 have two:∀ {a b:PyData} {n1 n2 e:Nat},Fine n1 e a→Fine n2 e b→n1+n2≤200→e+1≤d+2→Fine (3 * s+300) (d+2) (.tuple [a,b]):=fun h1 h2 hn he=>.tuple (.cons h1 (.cons h2 .nil)) (by omega) he
 intro x hx
 simp only[menu,List.mem_cons,List.not_mem_nil,or_false] at hx
 rcases hx with rfl | rfl | rfl | rfl | rfl | rfl | rfl | rfl | rfl | rfl | rfl | rfl | rfl | rfl | rfl | rfl
 ·exact⟨.told (.case c hc),two (qp 1) f1 (by omega) (by omega)⟩
 ·exact⟨.bad .none,(xh _).le (by omega) (Nat.le_refl _)⟩
 ·exact⟨.told (zmh hc),two (qp 1) f3 (by omega) (by omega)⟩
 ·exact⟨.told (.list _),two (qp 1) f2 (by omega) (by omega)⟩
 ·exact⟨.bad (.one _),.tuple (.cons (qp 1) .nil) (by omega) (by omega)⟩
 ·exact⟨.bad (.told3 _ _),.tuple (.cons (qp 1) (.cons f1 (.cons f1 .nil))) (by omega) (by omega)⟩
 ·exact⟨.weigh hw (.bad .none) (.told (.case c hc)) (.bad .none),(xc hm hw (by decide) (xh 2) ft (xh 2)).le (by omega) (by omega)⟩
 ·exact⟨.weigh hw hp.thing hp.thing hp.thing,(xc hm hw (by omega) hp.fine hp.fine hp.fine).le (by omega) (Nat.le_refl _)⟩
 ·exact⟨.bad .unit,.tuple (d:=0) .nil (by omega) (by omega)⟩
 ·exact⟨.bad (.weigh2 _),two (qo 2) (wq hm hw 0) (by omega) (by omega)⟩
 ·exact⟨.bad .str,(qp _).le (by omega) (Nat.le_refl _)⟩
 ·exact⟨.bad .int,(xi (n:=10) (by decide +kernel) _).le (by omega) (Nat.le_refl _)⟩
 ·exact⟨.bad (.list _),.list (.cons (qp 1) (.cons f1 .nil)) (by omega) (by omega)⟩
 ·exact⟨.bad (.tell _),two (n1:=10) (xi (by decide +kernel) 1) f1 (by omega) (by omega)⟩
 ·exact⟨.bad (.none2 _),two (xh 1) f1 (by omega) (by omega)⟩
 ·exact⟨.bad .dict,(show Fine 10 1 (.dict []) from ⟨by decide +kernel,⟨by decide +kernel,by decide +kernel⟩,by decide +kernel⟩).le (by omega) (by omega)⟩
noncomputable abbrev wv(m:Nat)(p:PyData)(cs:Cs)(x:Int):List V:=[.d p,.d (.list (due m)),.d (.list (zb cs)),.d (.int x)]
noncomputable abbrev L9(m:Nat)(p:PyData)(cs:Cs)(x:Int)(a4 a5 a6 a7:Option V):Loc:=[some (.d p),some (.d (.list (due m))),some (.d (.list (zb cs))),some (.d (.int x)),a4,a5,a6,a7,none]
theorem zdk{P:Pg}{ρ:Loc}{O:za}{a b:CE}{xs:List PyData}{z:Int}(hd:(P.hd && !Prim.len.calm)=false)(ha:evE P ρ a O=.ok (.d (.list xs)) O)(hb:evE P ρ b O=.ok (.d (.int z)) O)(h0:0 < xs.length)(hl:xs.length≤line) :
 ∃ x∈xs,evE P ρ (.idx a (.bin .mod b (.prim .len (.cons a .nil)))) O=.ok (.d x) O:=by
 obtain⟨j,hj,ej⟩:=md z xs.length O h0
 obtain⟨x,hx,ex⟩:=dk (xs:=xs) rfl hl hj
 exact⟨x,hx,xn ha (zs hb (yt hd ha (x7 (.d xs) hl)) ej) (by rw[x4,ex];rfl)⟩
theorem pq{P:Pg}{ρ:Loc}{O:za}{a b:CE}{xs:List PyData}{z:Int}{n:Nat}(ha:evE P ρ a O=.ok (.d (.list xs)) O)(hb:evE P ρ b O=.ok (.d (.int z)) O)(h0:0 < n)(hn:xs.length=n)(hl:n≤line) :
 ∃ x∈xs,evE P ρ (.idx a (.bin .mod b (.int (n:Int)))) O=.ok (.d x) O:=by
 obtain⟨j,hj,ej⟩:=md z n O h0
 obtain⟨x,hx,ex⟩:=dk (xs:=xs) hn hl hj
 exact⟨x,hx,xn ha (zs hb rfl ej) (by rw[x4,ex];rfl)⟩
theorem zll{k m:Nat}{p:PyData}{cs:Cs}{c:List Int}{x:Int}{a5:Option V}(hm:m4 m)(h:good m c):evE (PG k false) (L9 m p cs x (some (.d (caseD c))) a5 none none) (.prim .tuple (.cons (.comp (.ite (.cmp .lt (.loc 8) (.int 0)) (.loc 8) (.cmp .eq (.loc 8) (.int 1))) (.name 8) (.e (.loc 4)) .nil) .nil)) []=.ok (.d (truD c)) []:=by
 have h5:=len5 hm h
 have hc:=va (P:=PG k false) (ρ:=L9 m p cs x (some (.d (caseD c))) a5 none none) (elt:=.ite (.cmp .lt (.loc 8) (.int 0)) (.loc 8) (.cmp .eq (.loc 8) (.int 1))) (tgt:=.name 8) (it:=.e (.loc 4)) (O:=[]) (src:=.plain (c.map .int)) rfl rfl rfl (by show (c.map PyData.int).length≤line;rw[List.length_map];exact Nat.le_trans h5 (by decide)) (fun y=>if toI y < 0 then .int (toI y) else .bool (decide (toI y=1))) fun y hy=>by
  obtain⟨i,hi,rfl⟩:=List.mem_map.mp hy
  refine⟨[some (.d p),some (.d (.list (due m))),some (.d (.list (zb cs))),some (.d (.int x)),some (.d (caseD c)),a5,none,none,some (.d (.int i))],rfl,?_⟩
  have ht:evE (PG k false) [some (.d p),some (.d (.list (due m))),some (.d (.list (zb cs))),some (.d (.int x)),some (.d (caseD c)),a5,none,none,some (.d (.int i))] (.cmp .lt (.loc 8) (.int 0)) []=.ok (.d (.bool (decide (i < 0)))) []:=zh rfl rfl v_lt
  rw[u9,ht]
  show _=R.ok (V.d (if i < 0 then .int i else .bool (decide (i=1)))) []
  by_cases hn:i < 0
  ·rw[decide_eq_true hn,if_pos hn];rfl
  ·rw[decide_eq_false hn,if_neg hn]
   show evE (PG k false) [some (.d p),some (.d (.list (due m))),some (.d (.list (zb cs))),some (.d (.int x)),some (.d (caseD c)),a5,none,none,some (.d (.int i))] (.cmp .eq (.loc 8) (.int 1)) []=_
   exact zh rfl rfl eq_int
 refine yt rfl hc ?_
 show prim (PG k false) .tuple [.d (.list ((c.map PyData.int).map _))] []=_
 rw[List.map_map]
 refine wn rfl (if_pos ?_)
 rw[List.length_map];exact Nat.le_trans h5 (by decide)
theorem zci{k m n s d:Nat}{p:Pl}{l cs:Cs}{x:Int}(hm:m4 m)(hp:p.fits m l)(hl:Ok12 m l)(hne:p.isNo=false)(hc:Ok12 m cs)(hcn:cs≠[])(hd:2≤d)(ha:Ask m n s d p.toD) :
 ∃ y,ze P table (k+1) false 27 (wv m p.toD cs x) []=.ok (.d y) []∧Ask m (n+1) (3 * s+300) (d+2) y:=by
 have hcp:0 < (zb cs).length:=by rw[zx];exact Nat.pos_of_ne_zero fun e=>hcn (List.length_eq_zero_iff.mp e)
 have hdp:0 < (due m).length:=by unfold due;rw[List.length_map];exact (vq hm).1
 obtain⟨y,hy,e1⟩:=zdk (P:=PG k false) (ρ:=L9 m p.toD cs x none none none none) (O:=[]) (a:=.loc 2) (b:=.bin .fdiv (.loc 3) (.int 16)) rfl rfl (zs rfl rfl (dv ⟨by decide,by decide⟩)) hcp hc.line
 obtain⟨c0,hc0,rfl⟩:=List.mem_map.mp hy
 have g0:=hc.good c0 hc0
 obtain⟨j2,hj2,ej2⟩:=md (Int.fdiv x 16) 2 [] (by decide)
 obtain ⟨c,hg,e2⟩ : ∃ c,good m c∧evS (PG k false) (.ife (.and_ (.cmp .eq (.idx (.loc 0) (.int 0)) (.str (Str.ofString "told"))) (.cmp .eq (.bin .mod (.bin .fdiv (.loc 3) (.int 16)) (.int 2)) (.int 1))) (.cons (.asg (.name 4) (.idx (.loc 0) (.int 1))) .nil) .nil) (L9 m p.toD cs x (some (.d (caseD c0))) none none none) []=.ok .next (L9 m p.toD cs x (some (.d (caseD c))) none none none,[]):=by
  cases p with
  | no=>cases hne
  | weigh w a b e=>exact⟨c0,g0,zm (xt (zh rfl rfl q_WT))⟩
  | told c=>
    have ht:evE (PG k false) (L9 m (Pl.told c).toD cs x (some (.d (caseD c0))) none none none) (.cmp .eq (.bin .mod (.bin .fdiv (.loc 3) (.int 16)) (.int 2)) (.int 1)) []=.ok (.d (.bool (decide ((j2:Int)=1)))) []:=zh (zs (zs rfl rfl (dv ⟨by decide,by decide⟩)) rfl ej2) rfl eq_int
    cases hb:decide ((j2:Int)=1) with
    | false=>rw[hb] at ht;exact⟨c0,g0,zm (yh (zh rfl rfl q_TT) ht)⟩
    | true=>
      rw[hb] at ht
      exact⟨c,hl.good c (by rw[show l=[c] from hp];exact .head _),(w_if (yh (zh rfl rfl q_TT) ht)).trans rfl⟩
 obtain⟨y,hy,e3⟩:=zdk (P:=PG k false) (ρ:=L9 m p.toD cs x (some (.d (caseD c))) none none none) (O:=[]) (a:=.loc 1) (b:=.bin .fdiv (.loc 3) (.int 16)) rfl rfl (zs rfl rfl (dv ⟨by decide,by decide⟩)) hdp (p0 hm)
 obtain⟨w,hw,rfl⟩:=List.mem_map.mp hy
 have e4:=zll (k:=k) (p:=p.toD) (cs:=cs) (c:=c) (x:=x) (a5:=some (.d (wD w))) hm hg
 have h5:=len5 hm hg
 have el:evE (PG k false) (L9 m p.toD cs x (some (.d (caseD c))) (some (.d (wD w))) (some (.d (truD c))) none) (.prim .list (.cons (.loc 4) .nil)) []=.ok (.d (.list (c.map .int))) []:=yt rfl rfl (wn rfl (if_pos (by rw[List.length_map];exact Nat.le_trans h5 (by decide))))
 obtain⟨y,hy,e8⟩:=pq (P:=PG k false) (ρ:=L9 m p.toD cs x (some (.d (caseD c))) (some (.d (wD w))) (some (.d (truD c))) (some (.d (.list (menu p.toD c w))))) (O:=[]) (a:=.loc 7) (b:=.loc 3) (n:=16) rfl rfl (by decide) rfl (by decide)
 refine⟨y,?_,zm5 hm hg (qt hw) hd ha y hy⟩
 have et:evE (PG k false) (L9 m p.toD cs x (some (.d (caseD c))) (some (.d (wD w))) (some (.d (truD c))) none) (.tup (.cons (.str (Str.ofString "told")) (.cons (.prim .list (.cons (.loc 4) .nil)) .nil))) []=.ok (.d (.tuple [.str sT,.list (c.map .int)])) []:=by
  rw[zbt,zf (v:=.d (.str sT)) rfl (zf el rfl)];rfl
 have e5:evE (PG k false) (L9 m p.toD cs x (some (.d (caseD c))) (some (.d (wD w))) (some (.d (truD c))) none) (.list (.cons (.tup (.cons (.str (Str.ofString "told")) (.cons (.loc 4) .nil))) (.cons .none (.cons (.tup (.cons (.str (Str.ofString "told")) (.cons (.loc 6) .nil))) (.cons (.tup (.cons (.str (Str.ofString "told")) (.cons (.prim .list (.cons (.loc 4) .nil)) .nil))) (.cons (.tup (.cons (.str (Str.ofString "told")) .nil)) (.cons (.tup (.cons (.str (Str.ofString "told")) (.cons (.loc 4) (.cons (.loc 4) .nil)))) .nil))))))) []=.ok (.d (.list ((menu p.toD c w).take 6))) []:=by
  rw[ud,zf (v:=.d (.tuple [.str sT,caseD c])) rfl (zf (v:=.d .none) rfl (zf (v:=.d (.tuple [.str sT,truD c])) rfl (zf et (zf (v:=.d (.tuple [.str sT])) rfl (zf (v:=.d (.tuple [.str sT,caseD c,caseD c])) rfl rfl)))))];rfl
 refine zo (fn:=c27) (ρ':=L9 m p.toD cs x (some (.d (caseD c))) (some (.d (wD w))) (some (.d (truD c))) (some (.d (.list (menu p.toD c w))))) rfl ⟨rfl,by decide⟩ rfl ((zc (zr e1 rfl rfl)).trans ((zc e2).trans ((zc (zr e3 rfl rfl)).trans ((zc (zr e4 rfl rfl)).trans ?_))))
 exact (zc (zr e5 rfl rfl)).trans ((zc (zr (v:=.d (.list ((menu p.toD c w).take 9))) (O':=[]) rfl rfl rfl)).trans ((zc (zr (v:=.d (.list (menu p.toD c w))) (O':=[]) rfl rfl rfl)).trans (zg (yr e8))))
theorem zdl{P:Pg}{ρ:Loc}{x j c:Int}{b:Bool}(h3:ρ[3]?=some (some (.d (.int x))))(e6:binK .mod (.d (.int x)) (.d (.int 6)) []=.ok (.d (.int j)) [])(hb:decide (j=c)=b):evE P ρ (.cmp .eq (.bin .mod (.loc 3) (.int 6)) (.int c)) []=.ok (.d (.bool b)) []:=
 zh (zs (v:=.d (.int x)) (by rw[xq,h3];rfl) rfl e6) rfl (by rw[eq_int,hb])
theorem qd{P:Pg}{ρ:Loc}{x b:Int}(h3:ρ[3]?=some (some (.d (.int x))))(h:b≠0∧b.natAbs < 1073741824):evE P ρ (.bin .fdiv (.loc 3) (.int b)) []=.ok (.d (.int (Int.fdiv x b))) []:=
 zs (v:=.d (.int x)) (by rw[xq,h3];rfl) rfl (dv h)
theorem znp{n1 n2 n3 d:Nat}{y a b c:PyData}(hy:Fine 30 (d+1) y)(ha:Fine n1 d a)(hb:Fine n2 d b)(hc:Fine n3 d c):Fine (80+n1+n2+n3) (d+2) (yg y a b c):=
 .tuple (d:=d+1) (.cons (qo _) (.cons hy (.cons (Fine.tuple (.cons ha (.cons hb (.cons hc .nil))) (Nat.le_refl _) (Nat.le_refl _)) .nil))) (by omega) (Nat.le_refl _)
structure Kids(m H D:Nat)(w:Wg)(a b c:Pl):Prop where
 w:w∈wsI m
 d:1≤D
 a:Ask m H a.sz D a.toD
 b:Ask m H b.sz D b.toD
 c:Ask m H c.sz D c.toD
theorem Pl.ask{m n s d:Nat}{p:Pl}{l:Cs}(hm:m4 m)(h:p.fits m l)(hl:Ok12 m l)(hn:p.hgt≤n)(hs:p.sz≤s)(hd:2 * p.hgt+2≤d):Ask m n s d p.toD:=⟨(p.thing l h hl).up hn,(p.fine hm l h hl).le hs hd⟩
theorem kids{m:Nat}{w:Wg}{a b c:Pl}{l:Cs}(hm:m4 m)(h:(Pl.weigh w a b c).fits m l)(hl:Ok12 m l):Kids m (max a.hgt (max b.hgt c.hgt)) (2 * max a.hgt (max b.hgt c.hgt)+2) w a b c:=by
 obtain⟨hw,_,ha,hb,hd⟩:=h
 have h1:=Nat.le_max_left a.hgt (max b.hgt c.hgt)
 have h2:=Nat.le_max_right a.hgt (max b.hgt c.hgt)
 have h3:=Nat.le_max_left b.hgt c.hgt
 have h4:=Nat.le_max_right b.hgt c.hgt
 exact⟨hw,by omega,Pl.ask hm ha (hl.part _ _) h1 (Nat.le_refl _) (by omega),Pl.ask hm hb (hl.part _ _) (Nat.le_trans h3 h2) (Nat.le_refl _) (by omega),Pl.ask hm hd (hl.part _ _) (Nat.le_trans h4 h2) (Nat.le_refl _) (by omega)⟩
theorem ztj{m H D:Nat}{w w':Wg}{a b c:Pl}{y:PyData}(hm:m4 m)(k:Kids m H D w a b c)(hw':w'∈dueI m)(hy:y∈[wD (w.2,w.1),wD w',.list [.tuple (w.1.map .int),.tuple (w.2.map .int)],same w,.none,wD (w.2,w.1)]):Ask m (H+3) (4 * (80+a.sz+b.sz+c.sz)+400) (D+4) (yg y a.toD b.toD c.toD):=by
 have hl:=(k9 hm k.w).l
 have hr:=(k9 hm k.w).r
 have ht:=(k9 hm k.w).t
 have two:∀ {w:Wg},w∈wsI m→Thing m (H+3) (yg (wD w) a.toD b.toD c.toD):=fun hw=>(Thing.weigh hw k.a.thing k.b.thing k.c.thing).up (by omega)
 have fin:∀ {y:PyData},Fine 30 2 y→Fine (4 * (80+a.sz+b.sz+c.sz)+400) (D+4) (yg y a.toD b.toD c.toD):=fun hy=>(znp (hy.le (Nat.le_refl _) (Nat.succ_le_succ k.d)) k.a.fine k.b.fine k.c.fine).le (by omega) (by omega)
 simp only[List.mem_cons,List.not_mem_nil,or_false] at hy
 rcases hy with rfl | rfl | rfl | rfl | rfl | rfl
 ·exact⟨two ht,fin (wq hm ht 0)⟩
 ·exact⟨two (qt hw'),fin (wq hm (qt hw') 0)⟩
 ·exact⟨.badW (.list _),fin (zay hm hl hr 0).2⟩
 ·exact⟨.badW (.same w k.w),fin (zay hm hl hl 0).1⟩
 ·exact⟨.badW .none,fin ((xh 2).le (by decide) (Nat.le_refl _))⟩
 ·exact⟨two ht,fin (wq hm ht 0)⟩
theorem ztl{m H D:Nat}{w:Wg}{a b c:Pl}{y:PyData}(hm:m4 m)(k:Kids m H D w a b c)(hy:y∈[.tuple [c.toD,b.toD,a.toD],.list [a.toD,b.toD,c.toD],.tuple [a.toD,b.toD,c.toD,.none],.tuple [a.toD,b.toD],.none,.tuple []]):Ask m (H+3) (4 * (80+a.sz+b.sz+c.sz)+400) (D+4) (.tuple [.str sW,wD w,y]):=by
 have fin:∀ {y:PyData},Fine (2 * (a.sz+b.sz+c.sz)+60) (D+1) y→Fine (4 * (80+a.sz+b.sz+c.sz)+400) (D+4) (.tuple [.str sW,wD w,y]):=fun hy=>.tuple (.cons (qo _) (.cons ((wq hm k.w 0).le (Nat.le_refl _) (Nat.succ_le_succ k.d)) (.cons hy .nil))) (by omega) (by omega)
 simp only[List.mem_cons,List.not_mem_nil,or_false] at hy
 rcases hy with rfl | rfl | rfl | rfl | rfl | rfl
 ·exact⟨(Thing.weigh k.w k.c.thing k.b.thing k.a.thing).up (by omega),fin (.tuple (.cons k.c.fine (.cons k.b.fine (.cons k.a.fine .nil))) (by omega) (Nat.le_refl _))⟩
 ·exact⟨.badP k.w (.list _),fin (.list (.cons k.a.fine (.cons k.b.fine (.cons k.c.fine .nil))) (by omega) (Nat.le_refl _))⟩
 ·exact⟨.badP k.w (.four _ _ _ _),fin (.tuple (.cons k.a.fine (.cons k.b.fine (.cons k.c.fine (.cons (xh D) .nil)))) (by omega) (Nat.le_refl _))⟩
 ·exact⟨.badP k.w (.two _ _),fin (.tuple (.cons k.a.fine (.cons k.b.fine .nil)) (by omega) (Nat.le_refl _))⟩
 ·exact⟨.badP k.w .none,fin ((xh _).le (by omega) (Nat.le_refl _))⟩
 ·exact⟨.badP k.w .unit,fin (.tuple (d:=0) .nil (by omega) (by omega))⟩
theorem ztm{m H D:Nat}{w:Wg}{a b c:Pl}{y:PyData}(hm:m4 m)(k:Kids m H D w a b c)(hy:y∈[.tuple [.str sW,wD w,.tuple [a.toD,b.toD,c.toD],.none],.tuple [.str sW,wD w],.list [.str sW,wD w,.tuple [a.toD,b.toD,c.toD]],.tuple [.str (Str.ofString "Weigh"),wD w,.tuple [a.toD,b.toD,c.toD]],.tuple [.int 5,wD w,.tuple [a.toD,b.toD,c.toD]],.tuple [.tuple [a.toD,b.toD,c.toD],wD w,.str sW]]):Ask m (H+3) (4 * (80+a.sz+b.sz+c.sz)+400) (D+4) y:=by
 have fp:Fine (a.sz+b.sz+c.sz+9) (D+1) (.tuple [a.toD,b.toD,c.toD]):=.tuple (.cons k.a.fine (.cons k.b.fine (.cons k.c.fine .nil))) (by omega) (Nat.le_refl _)
 have fw:Fine 30 (D+1) (wD w):=(wq hm k.w 0).le (Nat.le_refl _) (Nat.succ_le_succ k.d)
 simp only[List.mem_cons,List.not_mem_nil,or_false] at hy
 rcases hy with rfl | rfl | rfl | rfl | rfl | rfl
 ·exact⟨.bad (.weigh4 _ _ _),.tuple (.cons (qo _) (.cons fw (.cons fp (.cons (xh _) .nil)))) (by omega) (by omega)⟩
 ·exact⟨.bad (.weigh2 _),.tuple (.cons (qo _) (.cons fw .nil)) (by omega) (by omega)⟩
 ·exact⟨.bad (.list _),.list (.cons (qo _) (.cons fw (.cons fp .nil))) (by omega) (by omega)⟩
 ·exact⟨.bad (.weigh _ _),.tuple (.cons (xi (n:=10) (by decide +kernel) _) (.cons fw (.cons fp .nil))) (by omega) (by omega)⟩
 ·exact⟨.bad (.five _ _),.tuple (.cons (xi (n:=10) (by decide +kernel) _) (.cons fw (.cons fp .nil))) (by omega) (by omega)⟩
 ·exact⟨.bad (.back _ _ _),.tuple (.cons fp (.cons fw (.cons (qo _) .nil))) (by omega) (by omega)⟩
theorem ztk{m H D n s e:Nat}{w:Wg}{a b c:Pl}{t y:PyData}(hm:m4 m)(k:Kids m H D w a b c)(ht:Ask m n s e t)(hn:n≤H+2)(hs:s≤3 * (80+a.sz+b.sz+c.sz)+300)(he:e≤D+4)(hy:y∈[.tuple [t,b.toD,c.toD],.tuple [a.toD,t,c.toD],.tuple [a.toD,b.toD,t]]):Ask m (H+3) (4 * (80+a.sz+b.sz+c.sz)+400) (D+6) (.tuple [.str sW,wD w,y]):=by
 have up:∀ {p:PyData} {s:Nat},Ask m H s D p→Ask m (H+2) s (D+4) p:=fun h=>⟨h.thing.up (by omega),h.fine.le (Nat.le_refl _) (by omega)⟩
 have ha:=up k.a
 have hb:=up k.b
 have hc:=up k.c
 have ht:Ask m (H+2) s (D+4) t:=⟨ht.thing.up hn,ht.fine.le (Nat.le_refl _) he⟩
 simp only[List.mem_cons,List.not_mem_nil,or_false] at hy
 rcases hy with rfl | rfl | rfl
 ·exact⟨.weigh k.w ht.thing hb.thing hc.thing,(xc hm k.w (by omega) ht.fine hb.fine hc.fine).le (by omega) (Nat.le_refl _)⟩
 ·exact⟨.weigh k.w ha.thing ht.thing hc.thing,(xc hm k.w (by omega) ha.fine ht.fine hc.fine).le (by omega) (Nat.le_refl _)⟩
 ·exact⟨.weigh k.w ha.thing hb.thing ht.thing,(xc hm k.w (by omega) ha.fine hb.fine ht.fine).le (by omega) (Nat.le_refl _)⟩
noncomputable abbrev L12(m:Nat)(p:PyData)(cs:Cs)(x:Int)(a4 a5 a6 a7 a8 a9 a10:Option V):Loc:=[some (.d p),some (.d (.list (due m))),some (.d (.list (zb cs))),some (.d (.int x)),a4,a5,a6,a7,a8,a9,a10,none]
theorem zi0{c:List Int}{l:Cs}{O:za}:cmpV .in_ (.d (caseD c)) (.d (.list (zb l))) O=.ok (.d (.bool (decide (c∈l)))) O:=by
 show opt (Option.map _ (inD (caseD c) (zb l))) O=_
 rw[zei];rfl
noncomputable def fIn(l:Cs)(x:PyData):Option PyData:=if decide (unC x∈l) then some x else none
theorem zny{k m:Nat}{p:PyData}{cs l:Cs}{x:Int}(hc:Ok12 m cs)(hl:l≠[])(hs:∀ c∈l,c∈cs):∃ c∈cs,evE (PG k false) (L12 m p cs x (some (.d (.list (zb l)))) none none none none none none) (.idx (.comp (.loc 11) (.name 11) (.e (.loc 2)) (.cons (.cmp .in_ (.loc 11) (.loc 4)) .nil)) (.int 0)) []=.ok (.d (caseD c)) []:=by
 have hcm:=km (P:=PG k false) (ρ:=L12 m p cs x (some (.d (.list (zb l)))) none none none none none none) (elt:=.loc 11) (tgt:=.name 11) (it:=.e (.loc 2)) (ifs:=.cons (.cmp .in_ (.loc 11) (.loc 4)) .nil) (O:=[]) (src:=.plain (zb cs)) rfl rfl rfl hc.line (fIn l) fun y hy=>by
  obtain⟨c,_,rfl⟩:=List.mem_map.mp hy
  have et:evE (PG k false) [some (.d p),some (.d (.list (due m))),some (.d (.list (zb cs))),some (.d (.int x)),some (.d (.list (zb l))),none,none,none,none,none,none,some (.d (caseD c))] (.cmp .in_ (.loc 11) (.loc 4)) []=.ok (.d (.bool (decide (c∈l)))) []:=zh rfl rfl zi0
  unfold yz zp
  rw[if_pos (show 11 < (L12 m p cs x (some (.d (.list (zb l)))) none none none none none none).length from (by show 11 < 12;decide))]
  show R.bind (xd (PG k false) [some (.d p),some (.d (.list (due m))),some (.d (.list (zb cs))),some (.d (.int x)),some (.d (.list (zb l))),none,none,none,none,none,none,some (.d (caseD c))] _ _) _=_
  rw[gd,et]
  unfold fIn
  rw[xb]
  cases decide (c∈l) <;> rfl
 obtain⟨c0,hc0⟩:=List.exists_mem_of_ne_nil _ hl
 have hmem:caseD c0∈(zb cs).filterMap (fIn l):=List.mem_filterMap.mpr ⟨caseD c0,List.mem_map.mpr ⟨c0,hs c0 hc0,rfl⟩,by unfold fIn;rw[xb,decide_eq_true hc0];rfl⟩
 have hlen:((zb cs).filterMap (fIn l)).length≤line:=Nat.le_trans (List.length_filterMap_le _ _) hc.line
 have hcm:_=R.ok (V.d (.list ((zb cs).filterMap (fIn l)))) []:=hcm
 have hsub:∀ y∈(zb cs).filterMap (fIn l),y∈zb cs:=fun y hy=>zgn (fun x y e=>by unfold fIn at e;split at e <;> cases e;rfl) hy
 generalize (zb cs).filterMap (fIn l)=ys at hmem hlen hcm hsub
 cases ys with
 | nil=>cases hmem
 | cons y ys=>
   obtain⟨c,hcm',rfl⟩:=List.mem_map.mp (hsub y (.head _))
   refine⟨c,hcm',xn hcm rfl ?_⟩
   rw[x4,show (0:Int)=0+((0:Nat):Int) from rfl,zgj hlen (x:=caseD c) rfl];rfl
theorem zhz{P:Pg}{ρ:Loc}{x j c:Int}{b:Bool}(h3:ρ[3]?=some (some (.d (.int x))))(e7:binK .mod (.d (.int x)) (.d (.int 7)) []=.ok (.d (.int j)) [])(hb:decide (j=c)=b):evE P ρ (.cmp .eq (.bin .mod (.loc 3) (.int 7)) (.int c)) []=.ok (.d (.bool b)) []:=
 zh (zs (v:=.d (.int x)) (by rw[xq,h3];rfl) rfl e7) rfl (by rw[eq_int,hb])
noncomputable def hcR5:CSs:=(.cons (.asg (.name 10) (.bin .mod (.bin .fdiv (.loc 3) (.int 6)) (.int 3))) (.cons (.ife (.cmp .eq (.bin .mod (.loc 3) (.int 6)) (.int 4)) (.cons (.ret (.tup (.cons (.loc 5) (.cons (.tup (.cons (.idx (.loc 6) (.int 1)) (.cons (.idx (.loc 6) (.int 0)) .nil))) (.cons (.revT (.loc 7)) .nil))))) .nil) .nil) (.cons (.ret (.tup (.cons (.loc 5) (.cons (.loc 6) (.cons (.bin .add (.bin .add (.sliceT (.loc 7) .none (.loc 10)) (.tup (.cons (.call 27 (.cons (.loc 0) (.cons (.loc 1) (.cons (.loc 2) (.cons (.bin .fdiv (.loc 3) (.int 18)) .nil))))) .nil))) (.sliceT (.loc 7) (.bin .add (.loc 10) (.int 1)) .none)) .nil))))) .nil)))
noncomputable def hcR:CSs:=(.cons (.asg3 5 6 7 (.loc 0)) (.cons (.asg (.name 8) (.idx (.loc 1) (.bin .mod (.bin .fdiv (.loc 3) (.int 36)) (.prim .len (.cons (.loc 1) .nil))))) (.cons (.ife (.cmp .eq (.bin .mod (.loc 3) (.int 6)) (.int 1)) (.cons (.asg (.name 9) (.tup (.cons (.idx (.loc 6) (.int 1)) (.cons (.idx (.loc 6) (.int 0)) .nil)))) (.cons (.ret (.tup (.cons (.loc 5) (.cons (.idx (.list (.cons (.loc 9) (.cons (.loc 8) (.cons (.prim .list (.cons (.loc 6) .nil)) (.cons (.tup (.cons (.idx (.loc 6) (.int 0)) (.cons (.idx (.loc 6) (.int 0)) .nil))) (.cons .none (.cons (.loc 9) .nil))))))) (.bin .mod (.bin .fdiv (.loc 3) (.int 6)) (.int 6))) (.cons (.loc 7) .nil))))) .nil)) .nil) (.cons (.ife (.cmp .eq (.bin .mod (.loc 3) (.int 6)) (.int 2)) (.cons (.ret (.tup (.cons (.loc 5) (.cons (.loc 6) (.cons (.idx (.list (.cons (.revT (.loc 7)) (.cons (.prim .list (.cons (.loc 7) .nil)) (.cons (.bin .add (.loc 7) (.tup (.cons .none .nil))) (.cons (.sliceT (.loc 7) .none (.int 2)) (.cons .none (.cons (.tup .nil) .nil))))))) (.bin .mod (.bin .fdiv (.loc 3) (.int 6)) (.int 6))) .nil))))) .nil) .nil) (.cons (.ife (.cmp .eq (.bin .mod (.loc 3) (.int 6)) (.int 3)) (.cons (.ret (.idx (.list (.cons (.bin .add (.loc 0) (.tup (.cons .none .nil))) (.cons (.sliceT (.loc 0) .none (.int 2)) (.cons (.prim .list (.cons (.loc 0) .nil)) (.cons (.bin .add (.tup (.cons (.str (Str.ofString "Weigh")) .nil)) (.sliceT (.loc 0) (.int 1) .none)) (.cons (.bin .add (.tup (.cons (.int 5) .nil)) (.sliceT (.loc 0) (.int 1) .none)) (.cons (.revT (.loc 0)) .nil))))))) (.bin .mod (.bin .fdiv (.loc 3) (.int 6)) (.int 6)))) .nil) .nil) hcR5)))))
noncomputable abbrev LW(m:Nat)(p:PyData)(cs:Cs)(x:Int)(w:Wg)(q:PyData)(a8 a9 a10:Option V):Loc:=L12 m p cs x none (some (.d (.str sW))) (some (.d (wD w))) (some (.d q)) a8 a9 a10
theorem l5{k m:Nat}{cs:Cs}{x:Int}{w w':Wg}{p a b c:PyData}:evE (PG k false) (LW m p cs x w (.tuple [a,b,c]) (some (.d (wD w'))) (some (.d (wD (w.2,w.1)))) none) (.list (.cons (.loc 9) (.cons (.loc 8) (.cons (.prim .list (.cons (.loc 6) .nil)) (.cons (.tup (.cons (.idx (.loc 6) (.int 0)) (.cons (.idx (.loc 6) (.int 0)) .nil))) (.cons .none (.cons (.loc 9) .nil))))))) []=.ok (.d (.list [wD (w.2,w.1),wD w',.list [.tuple (w.1.map .int),.tuple (w.2.map .int)],same w,.none,wD (w.2,w.1)])) []:=rfl
theorem l6{k m:Nat}{cs:Cs}{x:Int}{w:Wg}{p a b c:PyData}{a8:Option V}:evE (PG k false) (LW m p cs x w (.tuple [a,b,c]) a8 none none) (.list (.cons (.revT (.loc 7)) (.cons (.prim .list (.cons (.loc 7) .nil)) (.cons (.bin .add (.loc 7) (.tup (.cons .none .nil))) (.cons (.sliceT (.loc 7) .none (.int 2)) (.cons .none (.cons (.tup .nil) .nil))))))) []=.ok (.d (.list [.tuple [c,b,a],.list [a,b,c],.tuple [a,b,c,.none],.tuple [a,b],.none,.tuple []])) []:=rfl
theorem l7{k m:Nat}{cs:Cs}{x:Int}{w:Wg}{a b c:PyData}{a8:Option V}:evE (PG k false) (LW m (yg (wD w) a b c) cs x w (.tuple [a,b,c]) a8 none none) (.list (.cons (.bin .add (.loc 0) (.tup (.cons .none .nil))) (.cons (.sliceT (.loc 0) .none (.int 2)) (.cons (.prim .list (.cons (.loc 0) .nil)) (.cons (.bin .add (.tup (.cons (.str (Str.ofString "Weigh")) .nil)) (.sliceT (.loc 0) (.int 1) .none)) (.cons (.bin .add (.tup (.cons (.int 5) .nil)) (.sliceT (.loc 0) (.int 1) .none)) (.cons (.revT (.loc 0)) .nil))))))) []=.ok (.d (.list [.tuple [.str sW,wD w,.tuple [a,b,c],.none],.tuple [.str sW,wD w],.list [.str sW,wD w,.tuple [a,b,c]],.tuple [.str (Str.ofString "Weigh"),wD w,.tuple [a,b,c]],.tuple [.int 5,wD w,.tuple [a,b,c]],.tuple [.tuple [a,b,c],wD w,.str sW]])) []:=rfl
theorem zdi{P:Pg}{ρ:Loc}{a b c:CE}{x y z:PyData}(h1:evE P ρ a []=.ok (.d x) [])(h2:evE P ρ b []=.ok (.d y) [])(h3:evE P ρ c []=.ok (.d z) []):evE P ρ (.tup (.cons a (.cons b (.cons c .nil)))) []=.ok (.d (.tuple [x,y,z])) []:=by
 rw[zbt,zf h1 (zf h2 (zf h3 rfl))];rfl
theorem zot{P:Pg}{ρ:Loc}{pa pt at_:CE}{a b c t:PyData}{j:Nat}(hj:j < 3)(hp:evE P ρ pa []=.ok (.d (.tuple [a,b,c])) [])(ha:evE P ρ at_ []=.ok (.d (.int (j:Int))) [])(ht:evE P ρ pt []=.ok (.d t) []) :
 ∃ y∈[PyData.tuple [t,b,c],.tuple [a,t,c],.tuple [a,b,t]],evE P ρ (.bin .add (.bin .add (.sliceT pa .none at_) (.tup (.cons pt .nil))) (.sliceT pa (.bin .add at_ (.int 1)) .none)) []=.ok (.d y) []∧(j=0→y=.tuple [t,b,c])∧(j=1→y=.tuple [a,t,c])∧(j=2→y=.tuple [a,b,t]):=by
 have s1:evE P ρ (.sliceT pa .none at_) []=w2 (.d (.tuple [a,b,c])) (.d .none) (.d (.int (j:Int))) []:=by
  show ((evE P ρ pa []).bind fun v O=>(evE P ρ .none O).bind fun l O=>(evE P ρ at_ O).bind fun h O=>w2 v l h O)=_
  rw[hp,zu,zfi,zu,ha,zu]
 have s2:evE P ρ (.sliceT pa (.bin .add at_ (.int 1)) .none) []=w2 (.d (.tuple [a,b,c])) (.d (.int ((j:Int)+1))) (.d .none) []:=by
  show ((evE P ρ pa []).bind fun v O=>(evE P ρ (.bin .add at_ (.int 1)) O).bind fun l O=>(evE P ρ .none O).bind fun h O=>w2 v l h O)=_
  rw[hp,zu,zs ha rfl wc,zu,zfi,zu]
 have s3:evE P ρ (.tup (.cons pt .nil)) []=.ok (.d (.tuple [t])) []:=by rw[zbt,zf ht rfl];rfl
 have:j=0∨j=1∨j=2:=by omega
 rcases this with rfl | rfl | rfl
 ·exact⟨_,.head _,zs (zs (s1.trans rfl) s3 rfl) (s2.trans rfl) rfl,fun _=>rfl,fun h=>(nomatch h),fun h=>(nomatch h)⟩
 ·exact⟨_,.tail _ (.head _),zs (zs (s1.trans rfl) s3 rfl) (s2.trans rfl) rfl,fun h=>(nomatch h),fun _=>rfl,fun h=>(nomatch h)⟩
 ·exact⟨_,.tail _ (.tail _ (.head _)),zs (zs (s1.trans rfl) s3 rfl) (s2.trans rfl) rfl,fun h=>(nomatch h),fun h=>(nomatch h),fun _=>rfl⟩
theorem zs6{k m j H D:Nat}{w:Wg}{a b c:Pl}{l cs:Cs}{x:Int}(hm:m4 m)(hp:(Pl.weigh w a b c).fits m l)(hl:Ok12 m l)(hc:Ok12 m cs)(hcn:cs≠[])(hH:H=max a.hgt (max b.hgt c.hgt))(hD:D=2 * H+2)(kd:Kids m H D w a b c)(hj:0 < j)(hj6:j < 6)(e6:binK .mod (.d (.int x)) (.d (.int 6)) []=.ok (.d (.int (j:Int))) []) :
 ∃ ρ' y,evSs (PG (k+1) false) hcR (L12 m (Pl.weigh w a b c).toD cs x none none none none none none none) []=.ok (.ret (.d y)) (ρ',[])∧Ask m (H+3) (4 * (80+a.sz+b.sz+c.sz)+400) (D+6) y:=by
 have up:∀ {y:PyData},Ask m (H+3) (4 * (80+a.sz+b.sz+c.sz)+400) (D+4) y→Ask m (H+3) (4 * (80+a.sz+b.sz+c.sz)+400) (D+6) y:=fun h=>⟨h.thing,h.fine.le (Nat.le_refl _) (by omega)⟩
 have hdp:0 < (due m).length:=by unfold due;rw[List.length_map];exact (vq hm).1
 obtain⟨y,hy,e8⟩:=zdk (P:=PG (k+1) false) (ρ:=LW m (Pl.weigh w a b c).toD cs x w (.tuple [a.toD,b.toD,c.toD]) none none none) (O:=[]) (a:=.loc 1) (b:=.bin .fdiv (.loc 3) (.int 36)) rfl rfl (qd rfl ⟨by decide,by decide⟩) hdp (p0 hm)
 obtain⟨w',hw',rfl⟩:=List.mem_map.mp hy
 have s3:evS (PG (k+1) false) (.asg3 5 6 7 (.loc 0)) (L12 m (Pl.weigh w a b c).toD cs x none none none none none none none) []=.ok .next (LW m (Pl.weigh w a b c).toD cs x w (.tuple [a.toD,b.toD,c.toD]) none none none,[]):=rfl
 have s4:evS (PG (k+1) false) (.asg (.name 8) (.idx (.loc 1) (.bin .mod (.bin .fdiv (.loc 3) (.int 36)) (.prim .len (.cons (.loc 1) .nil))))) (LW m (Pl.weigh w a b c).toD cs x w (.tuple [a.toD,b.toD,c.toD]) none none none) []=.ok .next (LW m (Pl.weigh w a b c).toD cs x w (.tuple [a.toD,b.toD,c.toD]) (some (.d (wD w'))) none none,[]):=zr e8 rfl rfl
 have no:∀ {ρ:Loc} {n:Int},ρ[3]?=some (some (.d (.int x)))→(j:Int)≠n→evE (PG (k+1) false) ρ (.cmp .eq (.bin .mod (.loc 3) (.int 6)) (.int n)) []=.ok (.d (.bool false)) []:=fun h3 hn=>zdl h3 e6 (decide_eq_false hn)
 have yes:∀ {ρ:Loc} {n:Int},ρ[3]?=some (some (.d (.int x)))→(j:Int)=n→evE (PG (k+1) false) ρ (.cmp .eq (.bin .mod (.loc 3) (.int 6)) (.int n)) []=.ok (.d (.bool true)) []:=fun h3 hn=>zdl h3 e6 (decide_eq_true hn)
 have hj':j=1∨j=2∨j=3∨j=4∨j=5:=by omega
 rcases hj' with h | h | h | h | h
 ·obtain⟨y,hy,ey⟩:=pq (P:=PG (k+1) false) (n:=6) (l5 (k:=k+1) (m:=m) (cs:=cs) (x:=x) (w:=w) (w':=w') (p:=(Pl.weigh w a b c).toD) (a:=a.toD) (b:=b.toD) (c:=c.toD)) (qd (b:=6) rfl ⟨by decide,by decide⟩) (by decide) rfl (by decide)
  refine⟨LW m (Pl.weigh w a b c).toD cs x w (.tuple [a.toD,b.toD,c.toD]) (some (.d (wD w'))) (some (.d (wD (w.2,w.1)))) none,_,(zc s3).trans ((zc s4).trans (zg ((w_if (yes rfl (by omega))).trans ((if_pos rfl).trans ((zc (zr (v:=.d (wD (w.2,w.1))) (O':=[]) rfl rfl rfl)).trans (zg (yr (zdi (x:=.str sW) (z:=.tuple [a.toD,b.toD,c.toD]) rfl ey rfl)))))))),up (ztj hm kd hw' hy)⟩
 ·obtain⟨y,hy,ey⟩:=pq (P:=PG (k+1) false) (n:=6) (l6 (k:=k+1) (m:=m) (cs:=cs) (x:=x) (w:=w) (p:=(Pl.weigh w a b c).toD) (a:=a.toD) (b:=b.toD) (c:=c.toD) (a8:=some (.d (wD w')))) (qd (b:=6) rfl ⟨by decide,by decide⟩) (by decide) rfl (by decide)
  exact⟨_,_,(zc s3).trans ((zc s4).trans ((zc (zm (no rfl (by omega)))).trans (zg ((w_if (yes rfl (by omega))).trans ((if_pos rfl).trans (zg (yr (zdi (x:=.str sW) (y:=wD w) rfl rfl ey)))))))),up (ztl hm kd hy)⟩
 ·obtain⟨y,hy,ey⟩:=pq (P:=PG (k+1) false) (n:=6) (l7 (k:=k+1) (m:=m) (cs:=cs) (x:=x) (w:=w) (a:=a.toD) (b:=b.toD) (c:=c.toD) (a8:=some (.d (wD w')))) (qd (b:=6) rfl ⟨by decide,by decide⟩) (by decide) rfl (by decide)
  exact⟨_,_,(zc s3).trans ((zc s4).trans ((zc (zm (no rfl (by omega)))).trans ((zc (zm (no rfl (by omega)))).trans (zg ((w_if (yes rfl (by omega))).trans ((if_pos rfl).trans (zg (yr ey)))))))),up (ztm hm kd hy)⟩
 ·obtain⟨j3,_,e3⟩:=md (Int.fdiv x 6) 3 [] (by decide)
  have s10:evS (PG (k+1) false) (.asg (.name 10) (.bin .mod (.bin .fdiv (.loc 3) (.int 6)) (.int 3))) (LW m (Pl.weigh w a b c).toD cs x w (.tuple [a.toD,b.toD,c.toD]) (some (.d (wD w'))) none none) []=.ok .next (LW m (Pl.weigh w a b c).toD cs x w (.tuple [a.toD,b.toD,c.toD]) (some (.d (wD w'))) none (some (.d (.int (j3:Int)))),[]):=zr (zs (qd rfl ⟨by decide,by decide⟩) rfl e3) rfl rfl
  exact⟨_,yg (wD (w.2,w.1)) c.toD b.toD a.toD,(zc s3).trans ((zc s4).trans ((zc (zm (no rfl (by omega)))).trans ((zc (zm (no rfl (by omega)))).trans ((zc (zm (no rfl (by omega)))).trans ((zc s10).trans (zg ((w_if (yes rfl (by omega))).trans ((if_pos rfl).trans rfl)))))))),⟨(Thing.weigh (k9 hm kd.w).t kd.c.thing kd.b.thing kd.a.thing).up (by omega),(xc hm (k9 hm kd.w).t kd.d kd.c.fine kd.b.fine kd.a.fine).le (by omega) (by omega)⟩⟩
 ·obtain⟨j3,hj3,e3⟩:=md (Int.fdiv x 6) 3 [] (by decide)
  have s10:evS (PG (k+1) false) (.asg (.name 10) (.bin .mod (.bin .fdiv (.loc 3) (.int 6)) (.int 3))) (LW m (Pl.weigh w a b c).toD cs x w (.tuple [a.toD,b.toD,c.toD]) (some (.d (wD w'))) none none) []=.ok .next (LW m (Pl.weigh w a b c).toD cs x w (.tuple [a.toD,b.toD,c.toD]) (some (.d (wD w'))) none (some (.d (.int (j3:Int)))),[]):=zr (zs (qd rfl ⟨by decide,by decide⟩) rfl e3) rfl rfl
  obtain⟨t,et,at_⟩:=zci (k:=k) (n:=H+1) (s:=80+a.sz+b.sz+c.sz) (d:=D+2) (p:=.weigh w a b c) (x:=Int.fdiv x 18) hm hp hl rfl hc hcn (by omega) (Pl.ask hm hp hl (by rw[hH];exact Nat.le_refl _) (Nat.le_refl _) (by rw[hD,hH];show 2 * (max a.hgt (max b.hgt c.hgt)+1)+2≤_;omega))
  obtain⟨y,hy,ey,_⟩:=zot (P:=PG (k+1) false) (ρ:=LW m (Pl.weigh w a b c).toD cs x w (.tuple [a.toD,b.toD,c.toD]) (some (.d (wD w'))) none (some (.d (.int (j3:Int))))) (pa:=.loc 7) (at_:=.loc 10) (pt:=.call 27 (.cons (.loc 0) (.cons (.loc 1) (.cons (.loc 2) (.cons (.bin .fdiv (.loc 3) (.int 18)) .nil))))) hj3 rfl rfl (zi (zf rfl (zf rfl (zf rfl (zf (qd rfl ⟨by decide,by decide⟩) rfl)))) et)
  exact⟨_,_,(zc s3).trans ((zc s4).trans ((zc (zm (no rfl (by omega)))).trans ((zc (zm (no rfl (by omega)))).trans ((zc (zm (no rfl (by omega)))).trans ((zc s10).trans ((zc (zm (no rfl (by omega)))).trans (zg (yr (zdi (x:=.str sW) (y:=wD w) rfl rfl ey))))))))),ztk hm kd at_ (by omega) (by omega) (by omega) hy⟩
theorem zgx:c29.body=(.cons (.ife (.cmp .eq (.bin .mod (.loc 3) (.int 7)) (.int 6)) (.cons (.asg (.name 4) (.call 28 (.cons (.loc 0) .nil))) (.cons (.ret (.tup (.cons (.str (Str.ofString "told")) (.cons (.idx (.comp (.loc 11) (.name 11) (.e (.loc 2)) (.cons (.cmp .in_ (.loc 11) (.loc 4)) .nil)) (.int 0)) .nil)))) .nil)) .nil) (.cons (.ife (.or_ (.cmp .eq (.idx (.loc 0) (.int 0)) (.str (Str.ofString "told"))) (.cmp .eq (.bin .mod (.loc 3) (.int 6)) (.int 0))) (.cons (.ret (.call 27 (.cons (.loc 0) (.cons (.loc 1) (.cons (.loc 2) (.cons (.bin .fdiv (.loc 3) (.int 6)) .nil)))))) .nil) .nil) hcR)):=rfl
theorem zlq{m:Nat}{p:Pl}{l cs:Cs}(hm:m4 m)(hp:p.fits m l)(hl:Ok12 m l)(hne:l≠[])(hc:Ok12 m cs)(hcn:cs≠[])(hs:∀ c∈l,c∈cs)(x:Int)(k:Nat):∃ y,ze P table (k+p.hgt+2) false 29 (wv m p.toD cs x) []=.ok (.d y) []∧Ask m (p.hgt+2) (4 * p.sz+400) (2 * p.hgt+6) y:=by
 have hno:=Pl.fits_ne hp hne
 obtain⟨j7,_,e7⟩:=md x 7 [] (by decide)
 have open_:∀ {y:PyData} {ρ':Loc},evSs (PG (k+p.hgt+1) false) c29.body (L12 m p.toD cs x none none none none none none none) []=.ok (.ret (.d y)) (ρ',[])→ze P table (k+p.hgt+2) false 29 (wv m p.toD cs x) []=.ok (.d y) []:=fun e=>zo (fn:=c29) rfl ⟨rfl,by decide⟩ rfl e
 by_cases h7:(j7:Int)=6
 ·have hl':p.tolds≠[]:=fun e=>by have:=p.tolds_len l hp;rw[e] at this;exact hne (List.length_eq_zero_iff.mp this.symm)
  obtain⟨c,hcm,ec⟩:=zny (k:=k+p.hgt+1) (m:=m) (p:=p.toD) (cs:=cs) (l:=p.tolds) (x:=x) hc hl' fun c hcm=>hs c (p.tolds_mem l hp c hcm)
  have hg:=hc.good c hcm
  refine⟨.tuple [.str sT,caseD c],open_ (ρ':=L12 m p.toD cs x (some (.d (.list (zb p.tolds)))) none none none none none none) ?_,.told (.case c hg),(ux hm hg 0).le (by omega) (by omega)⟩
  have et:evE (PG (k+p.hgt+1) false) (L12 m p.toD cs x (some (.d (.list (zb p.tolds)))) none none none none none none) (.tup (.cons (.str (Str.ofString "told")) (.cons (.idx (.comp (.loc 11) (.name 11) (.e (.loc 2)) (.cons (.cmp .in_ (.loc 11) (.loc 4)) .nil)) (.int 0)) .nil))) []=.ok (.d (.tuple [.str sT,caseD c])) []:=by
   rw[zbt,zf (v:=.d (.str sT)) rfl (zf ec rfl)];rfl
  rw[zgx]
  exact zg ((w_if (zhz rfl e7 (decide_eq_true h7))).trans ((if_pos rfl).trans ((zc (zr (zi rfl (po p l hp hl.le k)) rfl rfl)).trans (zg (yr et)))))
 ·have s1:=zm (p:=.cons (.asg (.name 4) (.call 28 (.cons (.loc 0) .nil))) (.cons (.ret (.tup (.cons (.str (Str.ofString "told")) (.cons (.idx (.comp (.loc 11) (.name 11) (.e (.loc 2)) (.cons (.cmp .in_ (.loc 11) (.loc 4)) .nil)) (.int 0)) .nil)))) .nil)) (zhz (P:=PG (k+p.hgt+1) false) (ρ:=L12 m p.toD cs x none none none none none none none) rfl e7 (decide_eq_false h7))
  obtain⟨j6,hj6,e6⟩:=md x 6 [] (by decide)
  obtain⟨t,et,at_⟩:=zci (k:=k+p.hgt) (n:=p.hgt) (s:=p.sz) (d:=2 * p.hgt+2) (x:=Int.fdiv x 6) hm hp hl hno hc hcn (by omega) (Pl.ask hm hp hl (Nat.le_refl _) (Nat.le_refl _) (Nat.le_refl _))
  have ask:Ask m (p.hgt+2) (4 * p.sz+400) (2 * p.hgt+6) t:=⟨at_.thing.up (by omega),at_.fine.le (by omega) (by omega)⟩
  have ret:evE (PG (k+p.hgt+1) false) (L12 m p.toD cs x none none none none none none none) (.or_ (.cmp .eq (.idx (.loc 0) (.int 0)) (.str (Str.ofString "told"))) (.cmp .eq (.bin .mod (.loc 3) (.int 6)) (.int 0))) []=.ok (.d (.bool true)) []→∃ y,ze P table (k+p.hgt+2) false 29 (wv m p.toD cs x) []=.ok (.d y) []∧Ask m (p.hgt+2) (4 * p.sz+400) (2 * p.hgt+6) y:=fun ht=>by
   refine⟨t,open_ (ρ':=L12 m p.toD cs x none none none none none none none) ?_,ask⟩
   rw[zgx]
   exact (zc s1).trans (zg ((w_if ht).trans ((if_pos rfl).trans (zg (yr (zi (zf rfl (zf rfl (zf rfl (zf (qd rfl ⟨by decide,by decide⟩) rfl)))) et))))))
  cases p with
  | no=>cases hno
  | told c=>exact ret (zjs (zh rfl rfl q_TT))
  | weigh w a b c=>
    by_cases h0:(j6:Int)=0
    ·exact ret (yu (zh rfl rfl q_WT) (zdl rfl e6 (decide_eq_true h0)))
    ·obtain⟨ρ',y,e,h⟩:=zs6 (k:=k+(Pl.weigh w a b c).hgt) (cs:=cs) hm hp hl hc hcn rfl rfl (kids hm hp hl) (by omega) hj6 e6
     refine⟨y,open_ (ρ':=ρ') ?_,h⟩
     rw[zgx]
     exact (zc s1).trans ((zc (zm (yu (zh rfl rfl q_WT) (zdl rfl e6 (decide_eq_false h0))))).trans e)
theorem zmj{P:Pg}{ρ:Loc}{O:za}{elt:CE}{tgt:CT}{it:CI}{ifs:CEs}{xs:List PyData}(hd:P.hd=false)(hit:evI P ρ it O=.ok (.plain xs) O)(hl:xs.length≤line):evE P ρ (.comp elt tgt it ifs) O=z7 (.plain xs) (yz tgt (fun ρ O=>xd P ρ ifs O) (fun ρ O=>evE P ρ elt O) ρ) xs [] O:=by
 show (if P.hd=true then .stuck else (evI P ρ it O).bind fun src O=>if src.xs.length≤line then z7 src (yz tgt (fun ρ O=>xd P ρ ifs O) (fun ρ O=>evE P ρ elt O) ρ) src.xs [] O else .stuck:R za V)=_
 rw[if_neg (by rw[hd];decide),hit]
 exact if_pos hl
noncomputable abbrev L8(m:Nat)(p:PyData)(cs:Cs)(x:Int)(a4 a5 a6:Option V):Loc:=[some (.d p),some (.d (.list (due m))),some (.d (.list (zb cs))),some (.d (.int x)),a4,a5,a6,none]
noncomputable def optK(b:Bool)(i:Int):Option PyData:=if b then none else some (.int i)
theorem zfn{k m:Nat}{cs:Cs}{x i:Int}{w:Wg}{a b c q:Pl}(hi:idxD (.tuple [a.toD,b.toD,c.toD]) (.int i)=some q.toD) :
 yz (.name 7) (fun ρ O=>xd (PG k false) ρ (.cons (.cmp .isnot (.idx (.idx (.loc 0) (.int 2)) (.loc 7)) .none) .nil) O) (fun ρ O=>evE (PG k false) ρ (.loc 7) O) (L8 m (Pl.weigh w a b c).toD cs x none none none) (.int i) []=.ok (optK q.isNo i) []:=by
 have et:evE (PG k false) [some (.d (Pl.weigh w a b c).toD),some (.d (.list (due m))),some (.d (.list (zb cs))),some (.d (.int x)),none,none,none,some (.d (.int i))] (.cmp .isnot (.idx (.idx (.loc 0) (.int 2)) (.loc 7)) .none) []=.ok (.d (.bool (!q.isNo))) []:=by
  refine zh (v:=.d q.toD) (xn (v:=.d (.tuple [a.toD,b.toD,c.toD])) rfl rfl (by rw[x4,hi];rfl)) rfl ?_
  rw[← zar];rfl
 unfold yz zp
 rw[if_pos (show 7 < (L8 m (Pl.weigh w a b c).toD cs x none none none).length from (by show 7 < 8;decide))]
 show R.bind (xd (PG k false) [some (.d (Pl.weigh w a b c).toD),some (.d (.list (due m))),some (.d (.list (zb cs))),some (.d (.int x)),none,none,none,some (.d (.int i))] _ _) _=_
 rw[gd,et]
 unfold optK
 cases q.isNo <;> rfl
theorem zak{b:Bool}{i:Int}{y:PyData}(h:y∈(optK b i).toList):b=false∧y=.int i:=by
 unfold optK at h
 cases b with
 | true=>exact nomatch h
 | false=>exact⟨rfl,List.mem_singleton.mp h⟩
theorem zi9{m:Nat}{cs:Cs}(hm:m4 m)(hc:Ok12 m cs)(hcn:cs≠[])(p:Pl):∀ (l:Cs),p.fits m l→Ok12 m l→l≠[]→(∀ c∈l,c∈cs)→∀ (x:Int) (k:Nat),∃ y,ze P table (k+p.hgt+3) false 30 (wv m p.toD cs x) []=.ok (.d y) []∧Ask m (p.hgt+2) (4 * p.sz+400) (2 * p.hgt+6) y:=by
 induction p with
 | no=>exact fun l h _ hne _ _ _=>absurd h hne
 | told c=>
   intro l h hl hne hs x k
   obtain⟨y,e,ha⟩:=zlq (p:=.told c) hm h hl hne hc hcn hs (Int.fdiv x 3) k
   exact⟨y,zo (fn:=c30) (ρ':=L8 m (Pl.told c).toD cs x none none none) rfl ⟨rfl,by decide⟩ rfl ((zc (zm (xt (zh rfl rfl q_TW)))).trans (zg (yr (zi (zf rfl (zf rfl (zf rfl (zf (qd rfl ⟨by decide,by decide⟩) rfl)))) e)))),ha⟩
 | weigh w a b c iha ihb ihc=>
   intro l h hl hne hs x k
   obtain⟨j3,_,e3⟩:=md x 3 [] (by decide)
   have ht:evE (PG (k+(Pl.weigh w a b c).hgt+2) false) (L8 m (Pl.weigh w a b c).toD cs x none none none) (.cmp .gt (.bin .mod (.loc 3) (.int 3)) (.int 0)) []=.ok (.d (.bool (decide ((j3:Int) > 0)))) []:=zh (zs rfl rfl e3) rfl v_gt
   cases hb:decide ((j3:Int) > 0) with
   | false=>
     rw[hb] at ht
     obtain⟨y,e,ha⟩:=zlq (p:=.weigh w a b c) hm h hl hne hc hcn hs (Int.fdiv x 3) k
     exact⟨y,zo (fn:=c30) (ρ':=L8 m (Pl.weigh w a b c).toD cs x none none none) rfl ⟨rfl,by decide⟩ rfl ((zc (zm (yh (zh rfl rfl q_WW) ht))).trans (zg (yr (zi (zf rfl (zf rfl (zf rfl (zf (qd rfl ⟨by decide,by decide⟩) rfl)))) e)))),ha⟩
   | true=>
     rw[hb] at ht
     have kd:=kids hm h hl
     obtain⟨hw,_,ha,hb',hd⟩:=h
     have hmem:∀ y∈(optK a.isNo 0).toList++((optK b.isNo 1).toList++(optK c.isNo 2).toList),∃ (j:Nat) (q:Pl) (l':Cs),j < 3∧y=.int (j:Int)∧idxD (.tuple [a.toD,b.toD,c.toD]) (.int (j:Int))=some q.toD∧q.fits m l'∧q.isNo=false∧(∀ e∈l',e∈l)∧Ok12 m l'∧((j=0∧q=a)∨(j=1∧q=b)∨(j=2∧q=c)):=fun y hy=>by
      rcases List.mem_append.mp hy with hy | hy
      ·obtain⟨g1,g2⟩:=zak hy
       exact⟨0,a,_,by decide,g2,rfl,ha,g1,fun e he=>(mem_part.mp he).1,hl.part _ _,.inl ⟨rfl,rfl⟩⟩
      ·rcases List.mem_append.mp hy with hy | hy
       ·obtain⟨g1,g2⟩:=zak hy
        exact⟨1,b,_,by decide,g2,rfl,hb',g1,fun e he=>(mem_part.mp he).1,hl.part _ _,.inr (.inl ⟨rfl,rfl⟩)⟩
       ·obtain⟨g1,g2⟩:=zak hy
        exact⟨2,c,_,by decide,g2,rfl,hd,g1,fun e he=>(mem_part.mp he).1,hl.part _ _,.inr (.inr ⟨rfl,rfl⟩)⟩
     have hxs:0 < ((optK a.isNo 0).toList++((optK b.isNo 1).toList++(optK c.isNo 2).toList)).length:=by
      refine Nat.pos_of_ne_zero fun e=>?_
      obtain⟨e1,e2⟩:=List.append_eq_nil_iff.mp (List.length_eq_zero_iff.mp e)
      obtain⟨e2,e4⟩:=List.append_eq_nil_iff.mp e2
      have no:∀ {b:Bool} {i:Int},(optK b i).toList=[]→b=true:=fun {b i} h=>by cases b <;> first | rfl | cases h
      have:=kg w l
      rw[Pl.fits_no ha (no e1),Pl.fits_no hb' (no e2),Pl.fits_no hd (no e4)] at this
      exact hne (List.length_eq_zero_iff.mp this.symm)
     have hxl:((optK a.isNo 0).toList++((optK b.isNo 1).toList++(optK c.isNo 2).toList)).length≤line:=by
      cases a.isNo <;> cases b.isNo <;> cases c.isNo <;> decide
     have hcomp:evE (PG (k+(Pl.weigh w a b c).hgt+2) false) (L8 m (Pl.weigh w a b c).toD cs x none none none) (.comp (.loc 7) (.name 7) (.range (.int 0) (.int 3)) (.cons (.cmp .isnot (.idx (.idx (.loc 0) (.int 2)) (.loc 7)) .none) .nil)) []=.ok (.d (.list ((optK a.isNo 0).toList++((optK b.isNo 1).toList++(optK c.isNo 2).toList)))) []:=
      (zmj (xs:=[.int 0,.int 1,.int 2]) rfl rfl (by decide)).trans (zoz (src:=.plain [.int 0,.int 1,.int 2]) rfl (zfn (q:=a) rfl) (zfn (i:=1) (q:=b) rfl) (zfn (i:=2) (q:=c) rfl))
     clear ha hb' hd
     have hqs:∀ {j:Nat} {q:Pl},((j=0∧q=a)∨(j=1∧q=b)∨(j=2∧q=c))→q.hgt≤max a.hgt (max b.hgt c.hgt):=fun hdd=>by
      rcases hdd with ⟨_,rfl⟩ | ⟨_,rfl⟩ | ⟨_,rfl⟩ <;> omega
     have up:∀ {p:PyData} {s:Nat},Ask m (max a.hgt (max b.hgt c.hgt)) s (2 * max a.hgt (max b.hgt c.hgt)+2) p→Ask m (max a.hgt (max b.hgt c.hgt)+2) s (2 * max a.hgt (max b.hgt c.hgt)+6) p:=fun h=>⟨h.thing.up (Nat.le_add_right _ 2),h.fine.le (Nat.le_refl _) (Nat.add_le_add_left (by decide) _)⟩
     have ga:=up kd.a
     have gb:=up kd.b
     have gc:=up kd.c
     clear up kd
     show ∃ y,ze P table (k+(max a.hgt (max b.hgt c.hgt)+1)+2+1) false 30 (wv m (Pl.weigh w a b c).toD cs x) []=.ok (.d y) []∧Ask m (max a.hgt (max b.hgt c.hgt)+1+2) (4 * (80+a.sz+b.sz+c.sz)+400) (2 * (max a.hgt (max b.hgt c.hgt)+1)+6) y
     have hn:∀ i,i≤max a.hgt (max b.hgt c.hgt)→k+(max a.hgt (max b.hgt c.hgt) - i)+i+3=k+(max a.hgt (max b.hgt c.hgt)+1)+2:=fun i hi=>by rw[Nat.add_assoc k,Nat.sub_add_cancel hi];rfl
     have ht:evE (PG (k+(max a.hgt (max b.hgt c.hgt)+1)+2) false) _ _ _=_:=ht
     have hcomp:evE (PG (k+(max a.hgt (max b.hgt c.hgt)+1)+2) false) _ _ _=_:=hcomp
     generalize k+(max a.hgt (max b.hgt c.hgt)+1)+2=n at hn ht hcomp
     generalize max a.hgt (max b.hgt c.hgt)=H at hn hqs ga gb gc
     generalize (optK a.isNo 0).toList++((optK b.isNo 1).toList++(optK c.isNo 2).toList)=X at hmem hxs hxl hcomp
     obtain⟨y,hy,ey⟩:=zdk (P:=PG n false) (ρ:=L8 m (Pl.weigh w a b c).toD cs x (some (.d (.list X))) none none) (O:=[]) (a:=.loc 4) (b:=.bin .fdiv (.loc 3) (.int 3)) rfl rfl (qd rfl ⟨by decide,by decide⟩) hxs hxl
     obtain⟨j,q,l',hj,hyj,hiq,hq,hqn,hsub,hl',hdd⟩:=hmem y hy
     subst hyj
     have hqh:=hqs hdd
     have rc:∃ y,ze P table (k+(H - q.hgt)+q.hgt+3) false 30 (wv m q.toD cs (Int.fdiv x 9)) []=.ok (.d y) []∧Ask m (q.hgt+2) (4 * q.sz+400) (2 * q.hgt+6) y:=by
      rcases hdd with ⟨_,rfl⟩ | ⟨_,rfl⟩ | ⟨_,rfl⟩
      ·exact iha l' hq hl' (Pl.ne_of hq hqn) (fun e he=>hs e (hsub e he)) (Int.fdiv x 9) _
      ·exact ihb l' hq hl' (Pl.ne_of hq hqn) (fun e he=>hs e (hsub e he)) (Int.fdiv x 9) _
      ·exact ihc l' hq hl' (Pl.ne_of hq hqn) (fun e he=>hs e (hsub e he)) (Int.fdiv x 9) _
     clear iha ihb ihc hmem hqs
     obtain⟨t,et,at_⟩:=rc
     rw[hn _ hqh] at et
     have gt:Ask m (H+2) (4 * q.sz+400) (2 * H+6) t:=⟨at_.thing.up (Nat.add_le_add_right hqh 2),at_.fine.le (Nat.le_refl _) (Nat.add_le_add_right (Nat.mul_le_mul_left 2 hqh) 6)⟩
     obtain⟨y,_,ey',y0,y1,y2⟩:=zot (P:=PG n false) (ρ:=L8 m (Pl.weigh w a b c).toD cs x (some (.d (.list X))) (some (.d (.int (j:Int)))) (some (.d t))) (pa:=.idx (.loc 0) (.int 2)) (at_:=.loc 5) (pt:=.loc 6) (a:=a.toD) (b:=b.toD) (c:=c.toD) (t:=t) hj rfl rfl rfl
     refine⟨.tuple [.str sW,wD w,y],zo (fn:=c30) rfl ⟨rfl,by decide⟩ rfl (zg ((w_if (yh (zh rfl rfl q_WW) ht)).trans ((if_pos rfl).trans ((zc (zr hcomp rfl rfl)).trans ((zc (zr ey rfl rfl)).trans ((zc (zr (zi (zf (xn (v:=.d (.tuple [a.toD,b.toD,c.toD])) rfl rfl (by rw[x4,hiq];rfl)) (zf rfl (zf rfl (zf (qd rfl ⟨by decide,by decide⟩) rfl)))) et) rfl rfl)).trans (zg (yr (zdi (x:=.str sW) (y:=wD w) rfl rfl ey'))))))))),?_⟩
     clear ey ey' et hcomp ht
     have fin:∀ {p1 p2 p3:PyData} {s1 s2 s3:Nat},Ask m (H+2) s1 (2 * H+6) p1→Ask m (H+2) s2 (2 * H+6) p2→Ask m (H+2) s3 (2 * H+6) p3→80+s1+s2+s3≤4 * (80+a.sz+b.sz+c.sz)+400→Ask m (H+1+2) (4 * (80+a.sz+b.sz+c.sz)+400) (2 * (H+1)+6) (.tuple [.str sW,wD w,.tuple [p1,p2,p3]]):=fun g1 g2 g3 hs=>⟨.weigh hw g1.thing g2.thing g3.thing,(xc hm hw (by omega) g1.fine g2.fine g3.fine).le (by omega) (by omega)⟩
     rcases hdd with ⟨g,rfl⟩ | ⟨g,rfl⟩ | ⟨g,rfl⟩
     ·rw[y0 g];exact fin gt gb gc (by omega)
     ·rw[y1 g];exact fin ga gt gc (by omega)
     ·rw[y2 g];exact fin ga gb gt (by omega)
theorem za5{k m:Nat}{cs:Cs}{d:PyData}{b:Bool}(hm:m4 m)(f:Found m cs)(h:ze P table (k+3) false 8 (yi m cs d) []=.ok (.d (.bool b)) []):ze P table (k+4) false 9 (yi m cs d) []=.ok (.d (.bool b)) []:=
 zo (fn:=c9) rfl ⟨rfl,by decide⟩ rfl ((zc (j8 (zi rfl (zq1 hm f (.d _))))).trans (zg (yr (zi rfl h))))
theorem Found.ok{m:Nat}{cs:Cs}(f:Found m cs):Ok12 m cs:=⟨f.good,f.le⟩
theorem Found.ne{m:Nat}{cs:Cs}(f:Found m cs):cs≠[]:=fun e=>by have:=f.pos;rw[e] at this;exact absurd this (by decide)
theorem zie{m n:Nat}{x:PyData}{y:Str}(h:Thing m n x)(e:x=.str y):y=sT:=by
 cases h with
 | bad h=>subst e;cases h;rfl
 | _=>cases e
theorem zha{m n s d:Nat}{x:PyData}(h:Ask m n s d x)(hs:s≤1000000)(hd:d≤100):strD x=some (.str (xa x))∧jy .ne (.str (xa x)) (.str (xa x))=some false:=by
 have hf:=h.fine.le hs hd
 have e1:strD x=some (.str (xa x)):=by
  unfold strD
  rw[hf.show_,decide_eq_true hf.depth,decide_eq_true hf.text.len,if_pos (by rfl)]
 refine⟨e1,(Lay.eq (n:=10) ⟨?_,Nat.zero_le _⟩ (by decide)).2⟩
 show PyData.strOk (xa x)=true
 cases x with
 | str y=>rw[zie h.thing rfl];decide +kernel
 | _=>exact hf.text.ok
theorem zki{a:Cs}{O:za}:cmpV .ne (.d (.list (zb a))) (.d (.list (zb a))) O=.ok (.d (.bool false)) O:=by
 rw[v_ne]
 show opt (Option.map _ (if eqOk (.list (zb a)) (.list (zb a))=true then some (!PyData.eqvAll (zb a) (zb a)) else none)) O=_
 rw[if_pos (vp (xu a) (xu a) (Nat.le_trans (Nat.succ_le_succ (qu a)) (by decide))),je,decide_eq_true rfl];rfl
theorem zjr{P:Pg}{ρ:Loc}{O O':za}{a:CE}{x y:PyData}(h:evE P ρ a O=.ok (.d x) O')(hs:strD x=some y):evE P ρ (.strC a) O=.ok (.d y) O':=by
 show (evE P ρ a O).bind strV=_
 rw[h]
 show opt ((strD x).map V.d) O'=_
 rw[hs];rfl
theorem zln{P:Pg}{ρ:Loc}{O:za}{a:CE}{xs:List PyData}(hd:P.hd=false)(ha:evE P ρ a O=.ok (.d (.list xs)) O)(h:xs.length≤line):evE P ρ (.prim .list (.cons a .nil)) O=.ok (.d (.list xs)) O:=
 yt (by rw[hd];rfl) ha (wn (x:=.list xs) (y:=.list xs) rfl (show zg9 (.list xs)=_ from if_pos h))
noncomputable abbrev L13(s:List Int)(m:Nat)(cs:Cs)(p t:PyData)(way:Int)(as:Cs)(b:Bool)(kp:PyData)(a11 a12:Option V):Loc:=
 [some (.d (.list (s.map .int))),some (.d (.int m)),some (.d (.list (zb cs))),some (.d (.list (due m))),some (.d p),some (.d t),some (.d (.int way)),some (.d (.list (zb as))),some (.d (.bool b)),some (.d kp),some (.d (.list (zb as))),a11,a12]
noncomputable def lawB:CSs:=(.cons (.asg (.name 12) (.call 9 (.cons (.loc 1) (.cons (.loc 10) (.cons (.loc 5) .nil))))) (.cons (.ife (.or_ (.nt (.prim (.isinst .bool) (.cons (.loc 12) .nil))) (.or_ (.cmp .ne (.loc 12) (.loc 8)) (.or_ (.cmp .ne (.loc 10) (.loc 7)) (.cmp .ne (.strC (.loc 5)) (.loc 9))))) (.cons (.ret (.bool false)) .nil) .nil) (.cons (.ife (.cmp .isnot (.call 9 (.cons (.loc 1) (.cons (.prim .list (.cons (.loc 2) .nil)) (.cons (.loc 4) .nil)))) (.bool true)) (.cons (.ret (.bool false)) .nil) .nil) (.cons (.ife (.cmp .isnot (.call 9 (.cons (.loc 1) (.cons (.loc 10) (.cons (.idx (.list (.cons .none (.cons (.tup .nil) (.cons (.int 5) (.cons (.str (Str.ofString "told")) .nil))))) (.bin .mod (.bin .fdiv (.loc 6) (.int 16)) (.int 4))) .nil)))) (.bool false)) (.cons (.ret (.bool false)) .nil) .nil) .nil))))
structure Made(m n:Nat)(cs as:Cs)(p:Pl)(t:PyData)(b:Bool)(k:Nat):Prop where
 fc:Found m cs
 fa:Found m as
 fit:p.fits m cs
 ask:Ask m n 1000000 100 t
 ha:ze P table k false 9 (yi m as t) []=.ok (.d (.bool b)) []
 hp:ze P table k false 9 (yi m cs p.toD) []=.ok (.d (.bool true)) []
 hb:∀ d,Bad d→ze P table k false 9 (yi m as d) []=.ok (.d (.bool false)) []
theorem zol{k m n:Nat}{s:List Int}{cs as:Cs}{p:Pl}{t:PyData}{way i:Int}{b:Bool}{a11 a12:Option V}(h:Made m n cs as p t b k) :
 jb (PG k false) (.name 11) lawB (.int i) (L13 s m cs p.toD t way as b (.str (xa t)) a11 a12) []=.ok .next (L13 s m cs p.toD t way as b (.str (xa t)) (some (.d (.int i))) (some (.d (.bool b))),[]):=by
 obtain⟨e1,e2⟩:=zha h.ask (Nat.le_refl _) (Nat.le_refl _)
 have nb:cmpV .ne (.d (.bool b)) (.d (.bool b)) []=.ok (.d (.bool false)) []:=by cases b <;> rfl
 obtain ⟨y,hy,ey⟩:=pq (P:=PG k false) (ρ:=L13 s m cs p.toD t way as b (.str (xa t)) (some (.d (.int i))) (some (.d (.bool b)))) (O:=[]) (a:=.list (.cons .none (.cons (.tup .nil) (.cons (.int 5) (.cons (.str (Str.ofString "told")) .nil))))) (b:=.bin .fdiv (.loc 6) (.int 16)) (xs:=[.none,.tuple [],.int 5,.str sT]) (n:=4) rfl (zs rfl rfl (dv ⟨by decide,by decide⟩)) (by decide) rfl (by decide)
 have hbad:Bad y:=by
  simp only[List.mem_cons,List.not_mem_nil,or_false] at hy
  rcases hy with rfl | rfl | rfl | rfl
  ·exact .none
  ·exact .unit
  ·exact .int
  ·exact .str
 show evSs (PG k false) lawB (L13 s m cs p.toD t way as b (.str (xa t)) (some (.d (.int i))) a12) []=_
 refine (zc (zr (zi rfl h.ha) rfl rfl)).trans ?_
 refine (zc (zm (yu rfl (yu (zh rfl rfl nb) (yu (zh rfl rfl zki) (zh (zjr rfl e1) rfl (zgv (.inr rfl) rfl rfl e2))))))).trans ?_
 refine (zc (zm (zh (zi (zf rfl (zf (zln rfl rfl h.fc.ok.line) (zf rfl rfl))) h.hp) rfl rfl))).trans ?_
 exact (zc (zm (zh (zi (zf rfl (zf rfl (zf ey rfl))) (h.hb y hbad)) rfl rfl))).trans rfl
noncomputable def lawR:CSs:=(.cons (.asg (.name 8) (.call 23 (.cons (.loc 1) (.cons (.loc 7) (.cons (.loc 5) .nil))))) (.cons (.asg (.name 9) (.strC (.loc 5))) (.cons (.asg (.name 10) (.prim .list (.cons (.loc 7) .nil))) (.cons (.for_ (.name 11) (.range (.int 0) (.int 2)) lawB) (.cons (.ife (.and_ (.loc 8) (.nt (.call 32 (.cons (.loc 5) (.cons (.loc 7) .nil))))) (.cons (.ret (.bool false)) .nil) .nil) (.cons (.ret (.call 32 (.cons (.loc 4) (.cons (.loc 2) .nil)))) .nil))))))
theorem zq2{k m n:Nat}{s:List Int}{cs as:Cs}{p:Pl}{t:PyData}{way:Int}(hm:m4 m)(hk:40≤k)(fc:Found m cs)(fa:Found m as)(fit:p.fits m cs)(hh:p.hgt≤14)(ask:Ask m n 1000000 100 t)(hn:n≤16) :
 ∃ ρ',∃ O',evSs (PG k false) lawR [some (.d (.list (s.map .int))),some (.d (.int m)),some (.d (.list (zb cs))),some (.d (.list (due m))),some (.d p.toD),some (.d t),some (.d (.int way)),some (.d (.list (zb as))),none,none,none,none,none] []=.ok (.ret (.d (.bool true))) (ρ',O'):=by
 obtain⟨b,sy⟩:=znr hm ask.thing fa.ok fa.ne
 have h23:=sy.l (k - n - 4)
 rw[show k - n - 4+n+4=k by omega] at h23
 have h8:=sy.a (k - n - 5)
 rw[show k - n - 5+n+4=(k - 4)+3 by omega] at h8
 have h9:=za5 hm fa h8
 have ht8:=zdj hm p cs fit fc.ok fc.ne (k - p.hgt - 5)
 rw[show k - p.hgt - 5+p.hgt+4=(k - 4)+3 by omega] at ht8
 have ht9:=za5 hm fc ht8
 rw[show k - 4+4=k by omega] at h9 ht9
 have mk:Made m n cs as p t b k:=⟨fc,fa,fit,ask,h9,ht9,fun d hd=>by
  have:=za5 (k:=k - 4) hm fa (zlw (k:=k - 4+2) (m:=m) (cs:=as) hd).1
  rwa [show k - 4+4=k by omega] at this⟩
 obtain⟨e1,e2⟩:=zha ask (Nat.le_refl _) (Nat.le_refl _)
 have hgo:=zlr hm fit fc.ok fc.ne (by omega) (k - p.hgt - 3)
 rw[show k - p.hgt - 3+p.hgt+3=k by omega] at hgo
 have hI:evI (PG k false) (L13 s m cs p.toD t way as b (.str (xa t)) none none) (.range (.int 0) (.int 2)) []=.ok (.plain [.int 0,.int 1]) []:=rfl
 have hfor:evS (PG k false) (.for_ (.name 11) (.range (.int 0) (.int 2)) lawB) (L13 s m cs p.toD t way as b (.str (xa t)) none none) []=.ok .next (L13 s m cs p.toD t way as b (.str (xa t)) (some (.d (.int 1))) (some (.d (.bool b))),[]):=by
  rw[ww,if_neg Bool.false_ne_true,hI]
  exact (xy (zol mk)).trans ((xy (zol mk)).trans rfl)
 have hif:evE (PG k false) (L13 s m cs p.toD t way as b (.str (xa t)) (some (.d (.int 1))) (some (.d (.bool b)))) (.and_ (.loc 8) (.nt (.call 32 (.cons (.loc 5) (.cons (.loc 7) .nil))))) []=.ok (.d (.bool false)) []:=by
  cases b with
  | false=>exact xt rfl
  | true=>
    obtain⟨q,rfl,hq,hqn⟩:=sy.yes rfl
    have hg:=zlr hm hq fa.ok fa.ne (by omega) (k - q.hgt - 3)
    rw[show k - q.hgt - 3+q.hgt+3=k by omega] at hg
    exact yh rfl (nt1 (zi rfl hg))
 refine⟨_,_,(zc (zr (zi rfl h23) rfl rfl)).trans ((zc (zr (zjr rfl e1) rfl rfl)).trans ((zc (zr (zln rfl rfl fa.ok.line) rfl rfl)).trans ((zc hfor).trans ((zc (zm hif)).trans (zg (yr (zi rfl hgo)))))))⟩
theorem zpm{c:List Int}{cs:Cs}{P:Pg}{ρ:Loc}(h2:ρ[2]?=some (some (.d (.list (zb (c::cs))))))(hl:cs.length≤20):evE P ρ (.slice (.loc 2) (.int 1) .none) []=.ok (.d (.list (zb cs))) []:=by
 have e2:evE P ρ (.loc 2) []=.ok (.d (.list (zb (c::cs)))) []:=by rw[xq,h2];rfl
 rw[zmi,e2,zu,jr,zu,zfi,zu,zmm]
 show opt ((vb (zb (c::cs)) (.int 1) .none).map V.d) []=_
 have hn:(zb (c::cs)).length=cs.length+1:=by rw[zx];rfl
 unfold vb
 rw[if_pos (by rw[hn];exact Nat.le_trans (Nat.succ_le_succ hl) (by decide))]
 show opt ((some (PyData.list (ui (zb (c::cs)) (clipAt (zb (c::cs)).length 1) (zb (c::cs)).length))).map V.d) []=_
 have hc:clipAt (zb (c::cs)).length 1=1:=by have:=clipAt_cast (zb (c::cs)).length 1;rw[hn] at this ⊢;split at this <;> omega
 rw[hc]
 unfold ui
 rw[hn]
 show opt (some (V.d (.list ((zb cs).take (cs.length+1 - 1))))) []=_
 rw[Nat.add_sub_cancel,List.take_of_length_le (by rw[zx];exact Nat.le_refl _)];rfl
theorem zri:c33.body=(.cons (.asg (.two (.name 1) (.name 2)) (.call 18 (.cons (.loc 0) (.cons (.int 3) (.cons (.int 5) .nil))))) (.cons (.asg (.name 3) (.call 16 (.cons (.loc 1) .nil))) (.cons (.asg (.name 2) (.call 25 (.cons (.loc 3) (.cons (.loc 2) .nil)))) (.cons (.asg (.name 4) (.call 26 (.cons (.loc 3) (.cons (.loc 2) (.cons (.bin .mod (.call 13 (.cons (.loc 0) (.cons (.int 0) .nil))) (.int 1000003)) (.cons (.int 2) .nil)))))) (.cons (.asg (.name 5) (.loc 4)) (.cons (.asg (.name 6) (.call 12 (.cons (.loc 0) (.cons (.int 1) .nil)))) (.cons (.ife (.cmp .gt (.bin .mod (.loc 6) (.int 4)) (.int 0)) (.cons (.asg (.name 5) (.call 30 (.cons (.loc 4) (.cons (.loc 3) (.cons (.loc 2) (.cons (.call 13 (.cons (.loc 0) (.cons (.int 2) .nil))) .nil)))))) .nil) .nil) (.cons (.asg (.name 7) (.ite (.and_ (.cmp .eq (.bin .mod (.loc 6) (.int 16)) (.int 4)) (.cmp .gt (.prim .len (.cons (.loc 2) .nil)) (.int 1))) (.slice (.loc 2) (.int 1) .none) (.loc 2))) lawR)))))))):=rfl
noncomputable abbrev Q13(s:List Int)(m:Nat)(cs:Cs)(a3 a4 a5 a6 a7:Option V):Loc:=[some (.d (.list (s.map .int))),some (.d (.int m)),some (.d (.list (zb cs))),a3,a4,a5,a6,a7,none,none,none,none,none]
theorem zs5{k:Nat}{s:List Int}(hs:s.length≤63)(hk:40≤k):ze P table (k+1) false 33 [.d (.list (s.map .int))] []=.ok (.d (.bool true)) []:=by
 obtain⟨m,cs0,hm,f0,e1⟩:=zlm (k:=k - 3) hs
 have e2:=zq0 (k:=k - 1) hm
 have e3:=zn0 (k:=k - 3) hm f0
 obtain⟨fc,pw⟩:=zmc f0
 generalize u6 m cs0=cs at e3 fc pw
 have e0:=dn (k:=k - 2) (s:=s) (j:=0) (O:=[]) hs
 have e5:=zls (k:=k - 1) (s:=s) (j:=1) (O:=[]) hs
 have e6:=dn (k:=k - 2) (s:=s) (j:=2) (O:=[]) hs
 have hcl:=fc.le
 rw[show k - 3+3=k by omega] at e1 e3
 rw[show k - 1+1=k by omega] at e2 e5
 rw[show k - 2+2=k by omega] at e0 e6
 generalize mixI s 0=z0 at e0
 generalize mixI s 2=z2 at e6
 generalize s.getD 1 0=way at e5
 obtain⟨jz,_,ez⟩:=md z0 1000003 [] (by decide)
 obtain⟨p,e4,hp⟩:=zcj hm (cs.length+2) (k - (cs.length+2) - 1) cs 2 fc.ok pw (Nat.le_refl _) fc.ne (jz:Int) []
 rw[show k - (cs.length+2) - 1+(cs.length+2)+1=k by omega] at e4
 have hh:p.hgt≤14:=Nat.le_trans hp.hgt (by omega)
 have hsz:p.sz≤30000:=by
  refine Nat.le_trans hp.sz ?_
  have h1:120 * cs.length≤120 * 12:=Nat.mul_le_mul_left _ hcl
  have h2:120 * cs.length * (cs.length+2)≤120 * 12 * 14:=Nat.mul_le_mul h1 (by omega)
  omega
 obtain⟨j4,_,ej4⟩:=md way 4 [] (by decide)
 obtain⟨j16,_,ej16⟩:=md way 16 [] (by decide)
 obtain⟨t,at_,st⟩ : ∃ t,Ask m 16 1000000 100 t∧evS (PG k false) (.ife (.cmp .gt (.bin .mod (.loc 6) (.int 4)) (.int 0)) (.cons (.asg (.name 5) (.call 30 (.cons (.loc 4) (.cons (.loc 3) (.cons (.loc 2) (.cons (.call 13 (.cons (.loc 0) (.cons (.int 2) .nil))) .nil)))))) .nil) .nil) (Q13 s m cs (some (.d (.list (due m)))) (some (.d p.toD)) (some (.d p.toD)) (some (.d (.int way))) none) []=.ok .next (Q13 s m cs (some (.d (.list (due m)))) (some (.d p.toD)) (some (.d t)) (some (.d (.int way))) none,[]):=by
  have ht:evE (PG k false) (Q13 s m cs (some (.d (.list (due m)))) (some (.d p.toD)) (some (.d p.toD)) (some (.d (.int way))) none) (.cmp .gt (.bin .mod (.loc 6) (.int 4)) (.int 0)) []=.ok (.d (.bool (decide ((j4:Int) > 0)))) []:=zh (zs rfl rfl ej4) rfl v_gt
  cases hb:decide ((j4:Int) > 0) with
  | false=>
    rw[hb] at ht
    exact⟨p.toD,Pl.ask hm hp.fits fc.ok (by omega) (by omega) (by omega),zm ht⟩
  | true=>
    rw[hb] at ht
    obtain⟨t,et,at_⟩:=zi9 hm fc.ok fc.ne p cs hp.fits fc.ok fc.ne (fun _ h=>h) z2 (k - p.hgt - 3)
    rw[show k - p.hgt - 3+p.hgt+3=k by omega] at et
    refine⟨t,⟨at_.thing.up (by omega),at_.fine.le (by omega) (by omega)⟩,(w_if ht).trans ((if_pos rfl).trans ((zc (zr (zi (zf rfl (zf rfl (zf rfl (zf (zi rfl e6) rfl)))) et) rfl rfl)).trans rfl))⟩
 obtain⟨as,fa,ea⟩ : ∃ as,Found m as∧evE (PG k false) (Q13 s m cs (some (.d (.list (due m)))) (some (.d p.toD)) (some (.d t)) (some (.d (.int way))) none) (.ite (.and_ (.cmp .eq (.bin .mod (.loc 6) (.int 16)) (.int 4)) (.cmp .gt (.prim .len (.cons (.loc 2) .nil)) (.int 1))) (.slice (.loc 2) (.int 1) .none) (.loc 2)) []=.ok (.d (.list (zb as))) []:=by
  have h1:evE (PG k false) (Q13 s m cs (some (.d (.list (due m)))) (some (.d p.toD)) (some (.d t)) (some (.d (.int way))) none) (.cmp .eq (.bin .mod (.loc 6) (.int 16)) (.int 4)) []=.ok (.d (.bool (decide ((j16:Int)=4)))) []:=zh (zs rfl rfl ej16) rfl eq_int
  have h2:evE (PG k false) (Q13 s m cs (some (.d (.list (due m)))) (some (.d p.toD)) (some (.d t)) (some (.d (.int way))) none) (.cmp .gt (.prim .len (.cons (.loc 2) .nil)) (.int 1)) []=.ok (.d (.bool (decide ((cs.length:Int) > 1)))) []:=zh (yt rfl rfl (by rw[x7 (.d _) fc.ok.line,zx])) rfl v_gt
  have no:evE (PG k false) (Q13 s m cs (some (.d (.list (due m)))) (some (.d p.toD)) (some (.d t)) (some (.d (.int way))) none) (.and_ (.cmp .eq (.bin .mod (.loc 6) (.int 16)) (.int 4)) (.cmp .gt (.prim .len (.cons (.loc 2) .nil)) (.int 1))) []=.ok (.d (.bool false)) []→∃ as,Found m as∧evE (PG k false) (Q13 s m cs (some (.d (.list (due m)))) (some (.d p.toD)) (some (.d t)) (some (.d (.int way))) none) (.ite (.and_ (.cmp .eq (.bin .mod (.loc 6) (.int 16)) (.int 4)) (.cmp .gt (.prim .len (.cons (.loc 2) .nil)) (.int 1))) (.slice (.loc 2) (.int 1) .none) (.loc 2)) []=.ok (.d (.list (zb as))) []:=fun ht=>⟨cs,fc,by rw[u9,ht];rfl⟩
  by_cases hb:(j16:Int)=4
  ·rw[decide_eq_true hb] at h1
   by_cases hc:(cs.length:Int) > 1
   ·rw[decide_eq_true hc] at h2
    cases cs with
    | nil=>exact absurd hc (by decide)
    | cons c cs=>
      have hl:1≤cs.length:=by have:((cs.length+1:Nat):Int) > 1:=hc;omega
      have hle:=fc.le
      refine⟨cs,⟨fun e he=>fc.good e (.tail _ he),(List.nodup_cons.mp fc.nodup).2,hl,by rw[List.length_cons] at hle;omega⟩,?_⟩
      rw[u9,yh h1 h2]
      exact zpm (P:=PG k false) (ρ:=Q13 s m (c::cs) (some (.d (.list (due m)))) (some (.d p.toD)) (some (.d t)) (some (.d (.int way))) none) (c:=c) (cs:=cs) rfl (by rw[List.length_cons] at hle;omega)
   ·rw[decide_eq_false hc] at h2
    exact no (yh h1 h2)
  ·rw[decide_eq_false hb] at h1
   exact no (xt h1)
 obtain⟨ρ',O',e7⟩:=zq2 (s:=s) (way:=way) hm hk fc fa hp.fits hh at_ (Nat.le_refl _)
 refine ub (O:=[]) (O':=O') (ρ':=ρ') (fn:=c33) rfl ⟨rfl,by decide⟩ rfl ?_
 rw[zri]
 refine (zc (zfj rfl (zi rfl e1) rfl)).trans ((zc (zr (zi rfl e2) rfl rfl)).trans ((zc (zr (zi rfl e3) rfl rfl)).trans ?_))
 refine (zc (zr (zi (zf rfl (zf rfl (zf (zs (zi rfl e0) rfl ez) (zf rfl rfl)))) e4) rfl rfl)).trans ((zc (zr rfl rfl rfl)).trans ((zc (zr (zi rfl e5) rfl rfl)).trans ?_))
 exact (zc st).trans ((zc (zr ea rfl rfl)).trans e7)
theorem holds:PySem.Challenge.rw_uf050003_04.Holds:=holds_of fun script h=>⟨_,zs5 (k:=60) h (by decide)⟩
end Mine.L04
end
end
theorem PySem.Challenge.cw_uf050003_04_holds : PySem.Challenge.rw_uf050003_04.Holds :=
  Mine.L04.holds
