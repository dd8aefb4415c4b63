import PyProof.Rows.All
import PySem.SetOps
import PyProof.Raises
import PyProof.Calls
import PyProof.EvalArms
import PyProof.Rules2
import PyProof.Claim2
import PyProof.Lay0
import PyProof.Rows.Frame
import PyProof.FactsAll.tuple_2
import PyProof.FactsAll.subtypes_4
import PyProof.Rules3
import PyProof.ListIndex
import PyProof.CallStr
import PyProof.Cells
import PyProof.Claim2Refuses
import PyProof.ConsumeWalk
import PyProof.CompFree
import PyProof.PureInt
import PyProof.Conv_int_bool
import PyProof.DefCall
import PyProof.Dict
import PyProof.DictKind
import PyProof.DictKinds
import PyProof.DictStraight
import PyProof.TupleKey
import PyProof.DictRoadsH
import PyProof.EnumFor
import PyProof.EnumStmt
import PyProof.EnumMake
import PyProof.IsRules
import PyProof.P3Statements
import PyProof.EqLayable
import PyProof.ForAppend
import PyProof.WalksMore
import PyProof.RangeFor
import PyProof.IsiHeapPairs
import PyProof.IsiNone
import PyProof.IsiPairs
import PyProof.ListCopy
import PyProof.ListIndexNeg
import PyProof.ListRange
import PyProof.WalkInts
import PyProof.P3In
import PyProof.ReprRoads
import PyProof.Rows.Globals
import PyProof.Rows.News
import PyProof.Rows.Tup
import PyProof.Rows.TupIter
import PyProof.Rows.TupAssign
import PyProof.Rows.TupSub
import PyProof.Rows.SeqJoint
import PyProof.Rows.IntRules
import PyProof.Rows.ZipGen
import PyProof.WalksPairs
import PyProof.TupleCall
import PyProof.Rows.ListMade
import PyProof.Rows.Exc
import PyProof.Rows.RuleB_mul
import PyProof.Rows.RuleB_sub
import PyProof.Rows.RuleB_pow
import PyProof.Rows.RuleB_floordiv
import PyProof.Rows.RuleB_mod
import PyProof.StrBlock2
import PyProof.Rows.StrMul
import PyProof.Rows.StrTemp
import PyProof.Rows.RuleC_int
import PyProof.TupleOps
import PyProof.SeqI3
import PyProof.Rows.TupMore
import PyProof.SliceMore
import PyProof.Rows.StrRules
import PyProof.RulesDelMore
import PyProof.SumWalkG
import PyProof.Rows.TupAdd
import PyProof.TupleOfSeq
import PyProof.SetRoads
import PyProof.Rows.SetFrom
import PyProof.Rows.RotEnd
import KE.KUnpack
import KE.KMulAny
import KE.KRevSl
import KE.KSortTup
import Wide.FinOn
import OpenK.AllK
import Wide.All
import Lean
import PySem.Challenge.RW_uf050003_07
set_option Elab.async false
set_option genInjectivity false
set_option genSizeOf false
set_option linter.all false
set_option maxRecDepth 100000
set_option maxHeartbeats 8000000
namespace Mine
theorem ex1{A:Type _}{P:A→Prop}{X:Prop}(h:∃ x, P x)(k:∀ x, P x→X):X:=h.elim fun x h => k x h
theorem ex2{A B:Type _}{P:A→B→Prop}{X:Prop}(h:∃ x y, P x y)(k:∀ x y, P x y→X):X:=h.elim fun x h => ex1 h (k x)
theorem ex3{A B C:Type _}{P:A→B→C→Prop}{X:Prop}(h:∃ x y z, P x y z)(k:∀ x y z, P x y z→X):X:=h.elim fun x h => ex2 h (k x)
theorem ex4{A B C D:Type _}{P:A→B→C→D→Prop}{X:Prop}(h:∃ x y z u, P x y z u)(k:∀ x y z u, P x y z u→X):X:=h.elim fun x h => ex3 h (k x)
theorem el0_2{P0 P1:Prop}{X:Prop}(h:P0∧P1)(k:P0→P1→X):X:=k h.1 h.2
theorem el0_3{P0 P1 P2:Prop}{X:Prop}(h:P0∧P1∧P2)(k:P0→P1→P2→X):X:=k h.1 h.2.1 h.2.2
theorem el0_4{P0 P1 P2 P3:Prop}{X:Prop}(h:P0∧P1∧P2∧P3)(k:P0→P1→P2→P3→X):X:=k h.1 h.2.1 h.2.2.1 h.2.2.2
theorem el0_5{P0 P1 P2 P3 P4:Prop}{X:Prop}(h:P0∧P1∧P2∧P3∧P4)(k:P0→P1→P2→P3→P4→X):X:=k h.1 h.2.1 h.2.2.1 h.2.2.2.1 h.2.2.2.2
theorem el1_1{A:Type _}{P0:A→Prop}{X:Prop}(h:∃ x, P0 x)(k:∀ x, P0 x→X):X:=ex1 h k
theorem el1_2{A:Type _}{P0 P1:A→Prop}{X:Prop}(h:∃ x, P0 x∧P1 x)(k:∀ x, P0 x→P1 x→X):X:=ex1 h fun x h => el0_2 h (k x)
theorem el1_3{A:Type _}{P0 P1 P2:A→Prop}{X:Prop}(h:∃ x, P0 x∧P1 x∧P2 x)(k:∀ x, P0 x→P1 x→P2 x→X):X:=ex1 h fun x h => el0_3 h (k x)
theorem el2_1{A B:Type _}{P0:A→B→Prop}{X:Prop}(h:∃ x y, P0 x y)(k:∀ x y, P0 x y→X):X:=ex2 h k
theorem el2_2{A B:Type _}{P0 P1:A→B→Prop}{X:Prop}(h:∃ x y, P0 x y∧P1 x y)(k:∀ x y, P0 x y→P1 x y→X):X:=ex2 h fun x y h => el0_2 h (k x y)
theorem el2_3{A B:Type _}{P0 P1 P2:A→B→Prop}{X:Prop}(h:∃ x y, P0 x y∧P1 x y∧P2 x y)(k:∀ x y, P0 x y→P1 x y→P2 x y→X):X:=ex2 h fun x y h => el0_3 h (k x y)
theorem el2_4{A B:Type _}{P0 P1 P2 P3:A→B→Prop}{X:Prop}(h:∃ x y, P0 x y∧P1 x y∧P2 x y∧P3 x y)(k:∀ x y, P0 x y→P1 x y→P2 x y→P3 x y→X):X:=ex2 h fun x y h => el0_4 h (k x y)
theorem el2_5{A B:Type _}{P0 P1 P2 P3 P4:A→B→Prop}{X:Prop}(h:∃ x y, P0 x y∧P1 x y∧P2 x y∧P3 x y∧P4 x y)(k:∀ x y, P0 x y→P1 x y→P2 x y→P3 x y→P4 x y→X):X:=ex2 h fun x y h => el0_5 h (k x y)
theorem el3_2{A B C:Type _}{P0 P1:A→B→C→Prop}{X:Prop}(h:∃ x y z, P0 x y z∧P1 x y z)(k:∀ x y z, P0 x y z→P1 x y z→X):X:=ex3 h fun x y z h => el0_2 h (k x y z)
theorem el3_3{A B C:Type _}{P0 P1 P2:A→B→C→Prop}{X:Prop}(h:∃ x y z, P0 x y z∧P1 x y z∧P2 x y z)(k:∀ x y z, P0 x y z→P1 x y z→P2 x y z→X):X:=ex3 h fun x y z h => el0_3 h (k x y z)
theorem el3_4{A B C:Type _}{P0 P1 P2 P3:A→B→C→Prop}{X:Prop}(h:∃ x y z, P0 x y z∧P1 x y z∧P2 x y z∧P3 x y z)(k:∀ x y z, P0 x y z→P1 x y z→P2 x y z→P3 x y z→X):X:=ex3 h fun x y z h => el0_4 h (k x y z)
theorem el3_5{A B C:Type _}{P0 P1 P2 P3 P4:A→B→C→Prop}{X:Prop}(h:∃ x y z, P0 x y z∧P1 x y z∧P2 x y z∧P3 x y z∧P4 x y z)(k:∀ x y z, P0 x y z→P1 x y z→P2 x y z→P3 x y z→P4 x y z→X):X:=ex3 h fun x y z h => el0_5 h (k x y z)
theorem el4_2{A B C D:Type _}{P0 P1:A→B→C→D→Prop}{X:Prop}(h:∃ x y z u, P0 x y z u∧P1 x y z u)(k:∀ x y z u, P0 x y z u→P1 x y z u→X):X:=ex4 h fun x y z u h => el0_2 h (k x y z u)
theorem in1_1{A:Type _}{P0:A→Prop}(x:A)(h0:P0 x):∃ x, P0 x:=⟨x, h0⟩
theorem in1_2{A:Type _}{P0 P1:A→Prop}(x:A)(h0:P0 x)(h1:P1 x):∃ x, P0 x∧P1 x:=⟨x, h0, h1⟩
theorem in1_3{A:Type _}{P0 P1 P2:A→Prop}(x:A)(h0:P0 x)(h1:P1 x)(h2:P2 x):∃ x, P0 x∧P1 x∧P2 x:=⟨x, h0, h1, h2⟩
theorem in2_1{A B:Type _}{P0:A→B→Prop}(x:A)(y:B)(h0:P0 x y):∃ x y, P0 x y:=⟨x, y, h0⟩
theorem in2_2{A B:Type _}{P0 P1:A→B→Prop}(x:A)(y:B)(h0:P0 x y)(h1:P1 x y):∃ x y, P0 x y∧P1 x y:=⟨x, y, h0, h1⟩
theorem in2_3{A B:Type _}{P0 P1 P2:A→B→Prop}(x:A)(y:B)(h0:P0 x y)(h1:P1 x y)(h2:P2 x y):∃ x y, P0 x y∧P1 x y∧P2 x y:=⟨x, y, h0, h1, h2⟩
theorem in2_4{A B:Type _}{P0 P1 P2 P3:A→B→Prop}(x:A)(y:B)(h0:P0 x y)(h1:P1 x y)(h2:P2 x y)(h3:P3 x y):∃ x y, P0 x y∧P1 x y∧P2 x y∧P3 x y:=⟨x, y, h0, h1, h2, h3⟩
theorem in3_2{A B C:Type _}{P0 P1:A→B→C→Prop}(x:A)(y:B)(z:C)(h0:P0 x y z)(h1:P1 x y z):∃ x y z, P0 x y z∧P1 x y z:=⟨x, y, z, h0, h1⟩
theorem in3_3{A B C:Type _}{P0 P1 P2:A→B→C→Prop}(x:A)(y:B)(z:C)(h0:P0 x y z)(h1:P1 x y z)(h2:P2 x y z):∃ x y z, P0 x y z∧P1 x y z∧P2 x y z:=⟨x, y, z, h0, h1, h2⟩
theorem in3_4{A B C:Type _}{P0 P1 P2 P3:A→B→C→Prop}(x:A)(y:B)(z:C)(h0:P0 x y z)(h1:P1 x y z)(h2:P2 x y z)(h3:P3 x y z):∃ x y z, P0 x y z∧P1 x y z∧P2 x y z∧P3 x y z:=⟨x, y, z, h0, h1, h2, h3⟩
end Mine
local macro_rules
  | `(tactic| omega) => `(tactic| first | assumption | exact Nat.le_refl _ | exact Nat.zero_le _ | exact Nat.le_of_lt (by assumption) | exact Nat.lt_succ_self _ | exact Nat.le_succ _ | exact Nat.succ_pos _ | exact Nat.lt_of_lt_of_le (by assumption) (by assumption) | exact Nat.le_trans (by assumption) (by assumption) | exact Nat.lt_of_le_of_lt (by assumption) (by assumption) | exact Nat.lt_succ_of_le (by assumption) | exact Nat.le_of_lt_succ (by assumption) | exact Nat.lt_succ_of_lt (by assumption) | lia)
local macro_rules
  | `(tactic| cases $h:ident) => `(tactic| first | (exfalso; injection $h; done) | (injection $h with e1 e2; (first | subst e1 | cases e1); (first | subst e2 | cases e2)) | (injection $h with e1; (first | subst e1 | cases e1)) | cases ($h))
local macro_rules
  | `(tactic| obtain ⟨$ps,*⟩ := $t) => do
    let ps := ps.getElems
    let n := ps.size
    if n < 2 then Lean.Macro.throwUnsupported
    let mut k : Array (Lean.TSyntax `Lean.Parser.Tactic.tacticSeq) := #[]
    for j in [0:n-1] do
      let m := n - j
      if m == n || (2 < m && m < 9) then
        let mut xs : Array (Lean.TSyntax `term) := #[]
        let mut f : Array (Lean.TSyntax `tactic) := #[]
        for i in [0:m] do
          let y := Lean.mkIdent (Lean.Name.mkSimple s!"y_{i}")
          let p := ps[i]!
          if i == m - 1 && m < n then
            xs := xs.push y
            let r := ps.extract i n
            f := f.push (← `(tactic| obtain ⟨$r,*⟩ := $y:ident))
          else match p with
          | `(Lean.Parser.Tactic.rcasesPatLo| $x:ident) =>
            if x.getId == `rfl then
              xs := xs.push y
              f := f.push (← `(tactic| first | subst $y:ident | cases $y:ident))
            else xs := xs.push x
          | `(Lean.Parser.Tactic.rcasesPatLo| _) => xs := xs.push (← `(_))
          | `(Lean.Parser.Tactic.rcasesPatLo| ⟨$qs,*⟩) =>
            xs := xs.push y
            f := f.push (← `(tactic| obtain ⟨$qs,*⟩ := $y:ident))
          | _ =>
            xs := xs.push y
            f := f.push (← `(tactic| rcases $y:ident with $p))
        let mut g : Array (Lean.TSyntax `Lean.Parser.Tactic.tacticSeq) := #[]
        for a in [0:m] do
          let c := Lean.mkIdent (Lean.Name.mkSimple s!"el{a}_{m-a}")
          if t.raw.isIdent then g := g.push (← `(tacticSeq| refine $c $t ?_; clear $t)) else g := g.push (← `(tacticSeq| refine $c $t ?_))
        k := k.push (← `(tacticSeq| (first $[| $g]*); intro $xs*; $[$f]*))
    `(tactic| first $[| $k]* | rcases $t:term with ⟨$ps,*⟩)
local macro_rules
  | `(tactic| rcases $t:term with $a | $b) => do
    let g : Lean.TSyntax `tactic ← if t.raw.isIdent then `(tactic| (refine Or.elim $t ?_ ?_ <;> clear $t)) else `(tactic| refine Or.elim $t ?_ ?_)
    `(tactic| first | ($g; rotate_left; rintro ($b:rcasesPat); rotate_right; rintro ($a:rcasesPat)) | obtain $a | $b := $t)
local macro_rules
  | `(tactic| exact ⟨$ps,*⟩) => do
    let ps := ps.getElems
    let n := ps.size
    if n < 2 then Lean.Macro.throwUnsupported
    let mut g : Array (Lean.TSyntax `Lean.Parser.Tactic.tacticSeq) := #[]
    for a in [1:n] do
      g := g.push (← `(tacticSeq| exact $(Lean.mkIdent (Lean.Name.mkSimple s!"in{a}_{n-a}")) $ps*))
    `(tactic| first | (show Exists _; first $[| $g]*) | exact (⟨$ps,*⟩))
  | `(tactic| refine ⟨$ps,*⟩) => do
    let ps := ps.getElems
    let n := ps.size
    if n < 2 then Lean.Macro.throwUnsupported
    let mut g : Array (Lean.TSyntax `Lean.Parser.Tactic.tacticSeq) := #[]
    for a in [1:n] do
      g := g.push (← `(tacticSeq| refine $(Lean.mkIdent (Lean.Name.mkSimple s!"in{a}_{n-a}")) $ps*))
    `(tactic| first | (show Exists _; first $[| $g]*) | refine (⟨$ps,*⟩))
set_option bootstrap.genMatcherCode false
set_option tactic.hygienic false
section
section
namespace Mine.L07
open PySem PySem.W PySem.Calls PyProof.Rows
noncomputable def zsl:Params→Frag:=fun P=>[
 (3,PySem.Obj.mk (Value.type "dict") Option.none (PySem.Data.dict #[DictEntry.mk (PyData.keyHash P (Str.ofString "__name__")) (Value.str (Str.ofString "__name__") 165) (Value.str (Str.ofString "law_uf050003_07") 513),DictEntry.mk (PyData.keyHash P (Str.ofString "__doc__")) (Value.str (Str.ofString "__doc__") 166) Value.none,DictEntry.mk (PyData.keyHash P (Str.ofString "__package__")) (Value.str (Str.ofString "__package__") 167) Value.none,DictEntry.mk (PyData.keyHash P (Str.ofString "__loader__")) (Value.str (Str.ofString "__loader__") 168) (Value.builtin "__main__.__loader__#opaque"),DictEntry.mk (PyData.keyHash P (Str.ofString "__spec__")) (Value.str (Str.ofString "__spec__") 169) Value.none,DictEntry.mk (PyData.keyHash P (Str.ofString "__annotations__")) (Value.str (Str.ofString "__annotations__") 170) (Value.ref 6),DictEntry.mk (PyData.keyHash P (Str.ofString "__builtins__")) (Value.str (Str.ofString "__builtins__") 171) (Value.ref 4),DictEntry.mk (PyData.keyHash P (Str.ofString "__file__")) (Value.str (Str.ofString "__file__") 173) (Value.str (Str.ofString "/claim/cut.py") 172),DictEntry.mk (PyData.keyHash P (Str.ofString "__cached__")) (Value.str (Str.ofString "__cached__") 174) Value.none,DictEntry.mk (PyData.keyHash P (Str.ofString "PanError")) (Value.str (Str.ofString "PanError") 206) (Value.ref 24),DictEntry.mk (PyData.keyHash P (Str.ofString "BadCount")) (Value.str (Str.ofString "BadCount") 222) (Value.ref 37),DictEntry.mk (PyData.keyHash P (Str.ofString "BadCases")) (Value.str (Str.ofString "BadCases") 238) (Value.ref 49),DictEntry.mk (PyData.keyHash P (Str.ofString "BadDone")) (Value.str (Str.ofString "BadDone") 254) (Value.ref 61),DictEntry.mk (PyData.keyHash P (Str.ofString "LEAST_THINGS")) (Value.str (Str.ofString "LEAST_THINGS") 258) (Value.int 2 257),DictEntry.mk (PyData.keyHash P (Str.ofString "MOST_THINGS")) (Value.str (Str.ofString "MOST_THINGS") 260) (Value.int 5 259),DictEntry.mk (PyData.keyHash P (Str.ofString "MOST_CASES")) (Value.str (Str.ofString "MOST_CASES") 262) (Value.int 12 261),DictEntry.mk (PyData.keyHash P (Str.ofString "is_among")) (Value.str (Str.ofString "is_among") 271) (Value.ref 70),DictEntry.mk (PyData.keyHash P (Str.ofString "need_count")) (Value.str (Str.ofString "need_count") 278) (Value.ref 77),DictEntry.mk (PyData.keyHash P (Str.ofString "is_case")) (Value.str (Str.ofString "is_case") 284) (Value.ref 82),DictEntry.mk (PyData.keyHash P (Str.ofString "need_cases")) (Value.str (Str.ofString "need_cases") 290) (Value.ref 87),DictEntry.mk (PyData.keyHash P (Str.ofString "OUTCOMES")) (Value.str (Str.ofString "OUTCOMES") 297) (Value.ref 88),DictEntry.mk (PyData.keyHash P (Str.ofString "is_pan")) (Value.str (Str.ofString "is_pan") 303) (Value.ref 93),DictEntry.mk (PyData.keyHash P (Str.ofString "is_weighing")) (Value.str (Str.ofString "is_weighing") 309) (Value.ref 98),DictEntry.mk (PyData.keyHash P (Str.ofString "some_of")) (Value.str (Str.ofString "some_of") 315) (Value.ref 103),DictEntry.mk (PyData.keyHash P (Str.ofString "all_leading")) (Value.str (Str.ofString "all_leading") 326) (Value.ref 110),DictEntry.mk (PyData.keyHash P (Str.ofString "came")) (Value.str (Str.ofString "came") 332) (Value.ref 115),DictEntry.mk (PyData.keyHash P (Str.ofString "parted")) (Value.str (Str.ofString "parted") 338) (Value.ref 120),DictEntry.mk (PyData.keyHash P (Str.ofString "MOST_NUMBER")) (Value.str (Str.ofString "MOST_NUMBER") 342) (Value.int 20 341),DictEntry.mk (PyData.keyHash P (Str.ofString "threes")) (Value.str (Str.ofString "threes") 351) (Value.ref 127),DictEntry.mk (PyData.keyHash P (Str.ofString "is_hold_at")) (Value.str (Str.ofString "is_hold_at") 357) (Value.ref 132),DictEntry.mk (PyData.keyHash P (Str.ofString "is_hold")) (Value.str (Str.ofString "is_hold") 367) (Value.ref 139),DictEntry.mk (PyData.keyHash P (Str.ofString "MOST_DONE")) (Value.str (Str.ofString "MOST_DONE") 371) (Value.int 20 370),DictEntry.mk (PyData.keyHash P (Str.ofString "is_done")) (Value.str (Str.ofString "is_done") 379) (Value.ref 146),DictEntry.mk (PyData.keyHash P (Str.ofString "still_open")) (Value.str (Str.ofString "still_open") 385) (Value.ref 151),DictEntry.mk (PyData.keyHash P (Str.ofString "are_alike")) (Value.str (Str.ofString "are_alike") 393) (Value.ref 156),DictEntry.mk (PyData.keyHash P (Str.ofString "alike_of")) (Value.str (Str.ofString "alike_of") 404) (Value.ref 163),DictEntry.mk (PyData.keyHash P (Str.ofString "tried")) (Value.str (Str.ofString "tried") 420) (Value.ref 170),DictEntry.mk (PyData.keyHash P (Str.ofString "by_each")) (Value.str (Str.ofString "by_each") 434) (Value.ref 177),DictEntry.mk (PyData.keyHash P (Str.ofString "looked")) (Value.str (Str.ofString "looked") 445) (Value.ref 184),DictEntry.mk (PyData.keyHash P (Str.ofString "found_for")) (Value.str (Str.ofString "found_for") 458) (Value.ref 191),DictEntry.mk (PyData.keyHash P (Str.ofString "told")) (Value.str (Str.ofString "told") 473) (Value.ref 198),DictEntry.mk (PyData.keyHash P (Str.ofString "least")) (Value.str (Str.ofString "least") 484) (Value.ref 205),DictEntry.mk (PyData.keyHash P (Str.ofString "is_plan_for")) (Value.str (Str.ofString "is_plan_for") 497) (Value.ref 212),DictEntry.mk (PyData.keyHash P (Str.ofString "is_plan")) (Value.str (Str.ofString "is_plan") 506) (Value.ref 219),DictEntry.mk (PyData.keyHash P (Str.ofString "length_of")) (Value.str (Str.ofString "length_of") 512) (Value.ref 224),DictEntry.mk (PyData.keyHash P (Str.ofString "_law_cell_at")) (Value.str (Str.ofString "_law_cell_at") 522) (Value.ref 231),DictEntry.mk (PyData.keyHash P (Str.ofString "_law_mixed")) (Value.str (Str.ofString "_law_mixed") 530) (Value.ref 238),DictEntry.mk (PyData.keyHash P (Str.ofString "_law_whole")) (Value.str (Str.ofString "_law_whole") 537) (Value.ref 245),DictEntry.mk (PyData.keyHash P (Str.ofString "_law_came")) (Value.str (Str.ofString "_law_came") 547) (Value.ref 252),DictEntry.mk (PyData.keyHash P (Str.ofString "_law_pans")) (Value.str (Str.ofString "_law_pans") 553) (Value.ref 257),DictEntry.mk (PyData.keyHash P (Str.ofString "_law_pool")) (Value.str (Str.ofString "_law_pool") 565) (Value.ref 264),DictEntry.mk (PyData.keyHash P (Str.ofString "_law_puzzle")) (Value.str (Str.ofString "_law_puzzle") 571) (Value.ref 269),DictEntry.mk (PyData.keyHash P (Str.ofString "_law_done")) (Value.str (Str.ofString "_law_done") 590) (Value.ref 276),DictEntry.mk (PyData.keyHash P (Str.ofString "_law_open")) (Value.str (Str.ofString "_law_open") 596) (Value.ref 281),DictEntry.mk (PyData.keyHash P (Str.ofString "_law_alike")) (Value.str (Str.ofString "_law_alike") 602) (Value.ref 286),DictEntry.mk (PyData.keyHash P (Str.ofString "_law_has_alike")) (Value.str (Str.ofString "_law_has_alike") 612) (Value.ref 293),DictEntry.mk (PyData.keyHash P (Str.ofString "_law_threes")) (Value.str (Str.ofString "_law_threes") 621) (Value.ref 300),DictEntry.mk (PyData.keyHash P (Str.ofString "_law_fits")) (Value.str (Str.ofString "_law_fits") 627) (Value.ref 305),DictEntry.mk (PyData.keyHash P (Str.ofString "law")) (Value.str (Str.ofString "law") 644) (Value.ref 312)] 59) #[]),
 (88,PySem.Obj.mk (Value.type "tuple") Option.none (PySem.Data.seq #[Value.int (-1) 294,Value.int 0 295,Value.int 1 296]) #[])]
noncomputable def zsm:List Addr:=[3,88]
noncomputable def zmt:Stmt→Bool
 | .Assign [.Name x _] _ _=>!(x == ("__name__" : Str))
 | _=>true
noncomputable def view:Program:={ PySem.Challenge.pw_uf050003_07 with main:={ PySem.Challenge.pw_uf050003_07.main with body:=PySem.Challenge.pw_uf050003_07.main.body.filter zmt } }
noncomputable abbrev hook:=kHook zsl zsm (fun _=>by kernel_rfl)
theorem ws:OpenLaw.wellSaid PySem.Challenge.rw_uf050003_07=true:=by kernel_rfl
theorem zmz:LeftO (OpenLaw.row PySem.Challenge.rw_uf050003_07).prog view [] (fun s=>xlAt view [] s && recOk (RowW.records (OpenRow.toRowW (OpenLaw.row PySem.Challenge.rw_uf050003_07))) s) (Hook.obs hook) (Hook.val hook) 4600:=by
 intro w;kernel_rfl
end Mine.L07
end
section
namespace Mine
open PySem
inductive It where
 | b (n:Nat)
 | x (d:PyData)
inductive V where
 | d (x:PyData)
 | box (n:Nat)
 | tm (its:List It)
noncomputable abbrev MKey:=List (List Int)×Int
noncomputable def p9(k:MKey):PyData:=.tuple [.tuple (k.1.map fun c=>.tuple (c.map .int)),.int k.2]
noncomputable def zoo(k:MKey):Int:=reduceHash (Builtin.Tuple.tupleHashOf [reduceHash (Builtin.Tuple.tupleHashOf (k.1.map fun c=>reduceHash (Builtin.Tuple.tupleHashOf (c.map hashInt)))),hashInt k.2])
inductive Box where
 | lst (xs:List PyData)
 | dct (kvs:List (MKey×PyData))
noncomputable abbrev za:=List Box
noncomputable abbrev Loc:=List (Option V)
inductive R(σ α:Type) where
 | ok (a:α) (s:σ)
 | stuck
noncomputable def R.bind{σ α β:Type}:R σ α→(α→σ→R σ β)→R σ β
 | .ok a s,f=>f a s
 | .stuck,_=>.stuck
noncomputable def R.lift{α:Type}(ρ:Loc):R za α→R (Loc×za) α
 | .ok a O=>.ok a (ρ,O)
 | .stuck=>.stuck
theorem R.lift_bind{α β:Type}(ρ:Loc)(r:R za α)(g:α→za→R za β) :
 (r.bind g).lift ρ=(r.lift ρ).bind fun a S=>(g a S.2).lift ρ:=by cases r <;> rfl
inductive Fl where
 | next
 | ret (v:V)
structure Gl where
 prog:Program
 w:World
 h₀:Heap
 mg:Str→Option Value
 mb:Str→Option Value
 cls:Nat→Value
 sys:∃ m,h₀.Ns sysModules m
theorem Gl.notSys(G:Gl){d:Addr}(h:G.h₀.get? d=none):(d == sysModules)=false:=beq_eq_false_iff_ne.mpr fun e=>by
 obtain⟨m,o,es,ep,h1,_⟩:=G.sys
 rw[e,h1] at h;cases h
inductive ItsR(N β:List Addr)(h:Heap):List Value→List It→Prop
 | nil:ItsR N β h [] []
 | b {n:Nat} {a:Addr} {vs:List Value} {its:List It}:β[n]?=some a→ItsR N β h vs its→ItsR N β h (.ref a::vs) (.b n::its)
 | x {v:Value} {d:PyData} {as:List Addr} {vs:List Value} {its:List It}:Reads h v d as→(∀ a∈as,a∉β∧a∉N)→ItsR N β h vs its→ItsR N β h (v::vs) (.x d::its)
inductive VRd(N β:List Addr)(h:Heap)(v:Value)(x:PyData):Prop
 | mk (as:List Addr) (r:Reads h v x as) (q:∀ a∈as,a∉β∧a∉N)
inductive ztl(β:List Addr)(v:Value)(n:Nat):Prop
 | mk (a:Addr) (h1:β[n]?=some a) (h2:v=.ref a)
inductive VRtm(N β:List Addr)(h:Heap)(v:Value)(its:List It):Prop
 | mk (a:Addr) (o:Obj) (vs:Array Value) (k:Nat) (e:v=.ref a) (h1:h.get? a=some o) (h2:o.cls=.type "tuple") (h3:o.data=.seq vs k) (h4:ItsR N β h vs.toList its)
noncomputable def VR(G:Gl)(N β:List Addr)(h:Heap)(v:Value):V→Prop
 | .d x=>VRd N β h v x
 | .box n=>ztl β v n
 | .tm its=>VRtm N β h v its
inductive ListAt(h:Heap)(N β:List Addr)(a:Addr)(xs:List PyData):Prop
 | mk (o:Obj) (vs:Array Value) (n:Nat) (h1:h.get? a=some o) (h2:o.cls=.type "list") (h3:o.data=.seq vs n) (as:List Addr) (h4:ReadsAll h vs.toList xs as) (h5:∀ b∈as,b∉β∧b∉N)
inductive zhs(h:Heap)(N β:List Addr)(e:DictEntry)(kv:MKey×PyData):Prop
 | mk (hq:e.hash=zoo kv.1) (as bs:List Addr) (r1:Reads h e.key (p9 kv.1) as) (r2:Reads h e.val kv.2 bs) (q:∀ b∈as++bs,b∉β∧b∉N)
inductive DictAt(h:Heap)(N β:List Addr)(a:Addr)(kvs:List (MKey×PyData)):Prop
 | mk (o:Obj) (es:Array DictEntry) (n:Nat) (h1:h.get? a=some o) (h2:o.cls=.type "dict") (h3:o.data=.dict es n) (h4:es.size=kvs.length∧(kvs.map (·.1)).Nodup)
    (h5:∀ (i:Nat) e kv,es[i]?=some e→kvs[i]?=some kv→zhs h N β e kv)
noncomputable def BoxAt(h:Heap)(N β:List Addr)(a:Addr):Box→Prop
 | .lst xs=>ListAt h N β a xs
 | .dct kvs=>DictAt h N β a kvs
noncomputable def Plain(h:Heap)(a:Addr):Prop:=∃ o,h.get? a=some o∧o.dict=none∧o.slots = #[]
theorem Plain.at{h h':Heap}{a:Addr}(x:Plain h a)(hk:∀ o,h.get? a=some o→h'.get? a=some o):Plain h' a:=let ⟨o,e,r⟩:=x;⟨o,hk o e,r⟩
structure BR(G:Gl)(N β:List Addr)(O:za)(h:Heap):Prop where
 keep:∀ b o,G.h₀.get? b=some o→h.get? b=some o
 len:β.length=O.length
 nodup:β.Nodup
 new:∀ a∈β,G.h₀.get? a=none
 at_:∀ (i:Nat) a bx,β[i]?=some a→O[i]?=some bx→BoxAt h N β a bx
 plain:∀ a∈β,Plain h a
noncomputable def Get(h:Heap)(env:Env)(x:Str)(v:Value):Prop:=
 (env.kindOf x=some .local∧∃ m,h.Ns env.locals m∧m x=some v) ∨
 (env.kindOf x=some .cell∧∃ c,env.cells.lookup x=some c∧h.IsCell c (some v))
structure Fm where
 env:Env
 names:List (Option Str)
 own:Str→Bool
 W:List Addr
 B:List Addr
 fr:List Addr
 pin:Option (Str→Option Value):=none
structure FmOk(G:Gl)(F:Fm)(β:List Addr)(h:Heap):Prop where
 kind:F.env.scope.kind=.function
 globals:F.env.globals=mainGlobals
 builtins:F.env.builtins=builtinsNs
 once:∀ (i j:Nat) x,F.names[i]?=some (some x)→F.names[j]?=some (some x)→i=j
 ns:∃ m,h.Ns F.env.locals m
 nsW:F.env.locals∈F.W
 cell:∀ x,F.env.kindOf x=some .cell→∃ c v,F.env.cells.lookup x=some c∧h.IsCell c v∧c∈F.B∧(F.own x=true→c∈F.W)
 apart:∀ x y c,F.env.cells.lookup x=some c→F.env.cells.lookup y=some c→x=y
 sub:∀ a∈F.W,a∈F.B
 new:(∀ a∈F.B,a≠sysModules→G.h₀.get? a=none)∧sysModules∈F.B∧sysModules∉F.W∧sysModules∉F.fr
 notBox:∀ a∈F.B,a∉β
 stor:∀ a∈F.B,∃ o,h.get? a=some o∧∀ vs n,o.data=.seq vs n→o.cls≠.type "tuple"
 frB:∀ a∈F.fr,a∈F.B
 frs:∀ a∈F.fr,∃ m,h.Ns a m
 pin:∀ m,F.pin=some m→h.Ns F.env.locals m∧∀ x,F.own x=false
theorem FmOk.newB{G:Gl}{F:Fm}{β:List Addr}{h:Heap}(f:FmOk G F β h){a:Addr}(ha:a∈F.B)(hs:a≠sysModules):G.h₀.get? a=none:=f.new.1 a ha hs
theorem FmOk.newW{G:Gl}{F:Fm}{β:List Addr}{h:Heap}(f:FmOk G F β h){a:Addr}(ha:a∈F.W):G.h₀.get? a=none:=f.new.1 a (f.sub a ha) fun e=>f.new.2.2.1 (e ▸ ha)
structure SR(G:Gl)(F:Fm)(β:List Addr)(ρ:Loc)(O:za)(h:Heap):Prop where
 br:BR G F.B β O h
 fm:FmOk G F β h
 get:∀ (i:Nat) x v,F.names[i]?=some (some x)→ρ[i]?=some (some v)→∃ val,Get h F.env x val∧VR G F.B β h val v
theorem BR.sysAlive{G:Gl}{N β:List Addr}{O:za}{h:Heap}(b:BR G N β O h):∃ o es n,h.get? sysModules=some o∧o.data=.dict es n:=by
 obtain⟨m,o,es,ep,h1,h2,_⟩:=G.sys
 exact⟨o,es,ep,b.keep _ _ h1,h2⟩
theorem BR.notSys{G:Gl}{N β:List Addr}{O:za}{h:Heap}(b:BR G N β O h){a:Addr}(ha:h.get? a=none):a≠sysModules:=fun e=>by
 obtain⟨o,es,n,h1,_⟩:=b.sysAlive
 rw[e,h1] at ha;cases ha
theorem BR.notSysD{G:Gl}{N β:List Addr}{O:za}{h:Heap}(b:BR G N β O h){a:Addr}{o:Obj}(ha:h.get? a=some o)(hd:∀ es n,o.data≠.dict es n):a≠sysModules:=fun e=>by
 obtain⟨o',es,n,h1,h2⟩:=b.sysAlive
 rw[e,h1] at ha;cases ha
 exact hd _ _ h2
theorem zdq{G:Gl}{F:Fm}{N β M fr:List Addr}{O:za}{h:Heap}(b:BR G N β O h)(hM:∀ a∈M,h.get? a=none)(f:(∀ a∈F.B,a≠sysModules→G.h₀.get? a=none)∧sysModules∈F.B) :
 (∀ a∈M++F.B,a≠sysModules→G.h₀.get? a=none)∧sysModules∈M++F.B∧sysModules∉M:=by
 refine⟨fun a ha hs=>?_,List.mem_append_right _ f.2,fun hm=>b.notSys (hM _ hm) rfl⟩
 rcases List.mem_append.mp ha with ha | ha
 ·cases e:G.h₀.get? a with
  | none=>rfl
  | some o=>have:=b.keep a o e;rw[hM a ha] at this;cases this
 ·exact f.1 a ha hs
noncomputable def Kin(o o':Obj):Prop:=∃ sl,o' = { o with slots:=sl }∧((∀ es n,o.data≠.dict es n)→sl=o.slots)
theorem Kin.refl(o:Obj):Kin o o:=⟨o.slots,rfl,fun _=>rfl⟩
theorem Kin.trans{o o' o'':Obj}(x:Kin o o')(y:Kin o' o''):Kin o o'':=by
 obtain⟨a,rfl,h1⟩:=x
 obtain⟨b,rfl,h2⟩:=y
 exact⟨b,rfl,fun h=>(h2 h).trans (h1 h)⟩
theorem Kin.cls{o o':Obj}(x:Kin o o'):o'.cls=o.cls:=by obtain⟨a,rfl,_⟩:=x;rfl
theorem Kin.data{o o':Obj}(x:Kin o o'):o'.data=o.data:=by obtain⟨a,rfl,_⟩:=x;rfl
theorem Kin.same{o o':Obj}(x:Kin o o')(h:∀ es n,o.data≠.dict es n):o'=o:=by obtain⟨a,rfl,h1⟩:=x;rw[h1 h]
theorem Kin.ns{h h':Heap}{a:Addr}{m:Str→Option Value}(x:h.Ns a m)(k:∀ o,h.get? a=some o→∃ o',h'.get? a=some o'∧Kin o o'):h'.Ns a m:=by
 obtain⟨o,es,ep,h1,h2,h3,h4⟩:=x
 obtain⟨o',e',kn⟩:=k o h1
 exact⟨o',es,ep,e',kn.data.trans h2,h3,h4⟩
theorem Kin.cell{h h':Heap}{a:Addr}{v:Option Value}(x:h.IsCell a v)(k:∀ o,h.get? a=some o→∃ o',h'.get? a=some o'∧Kin o o'):h'.IsCell a v:=by
 obtain⟨o,h1,h2⟩:=x
 obtain⟨o',e',kn⟩:=k o h1
 exact⟨o',e',kn.data.trans h2⟩
structure Step(W:List Addr)(β:List Addr)(s s':Shared)(β':List Addr):Prop where
 gens:s'.gens=s.gens
 os:s'.os=s.os
 pre:β <+: β'
 fresh:∀ a∈β',a∈β∨s.heap.get? a=none
 alive:∀ b o,s.heap.get? b=some o→∃ o',s'.heap.get? b=some o'
 kept:∀ b o,s.heap.get? b=some o→b∉β→b∉W→∃ o',s'.heap.get? b=some o'∧Kin o o'
theorem Step.refl(W β s):Step W β s s β:=⟨rfl,rfl,List.prefix_refl _,fun _ h=>.inl h,fun _ o h=>⟨o,h⟩,fun _ o h _ _=>⟨o,h,Kin.refl o⟩⟩
theorem Step.keptE{W β s s' β'}(x:Step W β s s' β'){b:Addr}{o:Obj}(e:s.heap.get? b=some o)(hb:b∉β)(hW:b∉W)(hd:∀ es n,o.data≠.dict es n):s'.heap.get? b=some o:=by
 obtain⟨o',e',k⟩:=x.kept b o e hb hW
 rw[e',k.same hd]
theorem Step.trans{W β β' β'' s s' s''}(x:Step W β s s' β')(y:Step W β' s' s'' β''):Step W β s s'' β'' where
 gens:=y.gens.trans x.gens
 os:=y.os.trans x.os
 pre:=x.pre.trans y.pre
 fresh:=fun a ha=>by
  rcases y.fresh a ha with h | h
  ·exact x.fresh a h
  ·right
   cases e:s.heap.get? a with
   | none=>rfl
   | some o=>obtain⟨o',e'⟩:=x.alive a o e;rw[e'] at h;cases h
 alive:=fun b o e=>let ⟨o',e'⟩:=x.alive b o e;y.alive b o' e'
 kept:=fun b o e hb hW=>by
  obtain⟨o',e',k⟩:=x.kept b o e hb hW
  obtain⟨o'',e'',k'⟩:=y.kept b o' e' (fun hb'=>by
   rcases x.fresh b hb' with h | h
   ·exact hb h
   ·rw[e] at h;cases h) hW
  exact⟨o'',e'',k.trans k'⟩
theorem x4{β β':List Addr}(h:β <+: β'){i:Nat}{a:Addr}(ha:β[i]?=some a):β'[i]?=some a:=by
 obtain⟨t,rfl⟩:=h
 have hi:i < β.length:=by
  rcases Nat.lt_or_ge i β.length with h | h
  ·exact h
  ·rw[List.getElem?_eq_none h] at ha;cases ha
 rw[List.getElem?_append_left hi];exact ha
theorem qx{h h':Heap}{P:Addr→Prop}(hk:∀ b o,h.get? b=some o→P b→∃ o',h'.get? b=some o'∧Kin o o')
 (hP:∀ b o vs n,h.get? b=some o→o.cls=.type "tuple"→o.data=.seq vs n→P b) {v:Value} {x:PyData} {as:List Addr} (r:Reads h v x as):(∀ a∈as,P a)→Reads h' v x as:=
 Reads.rec (motive_1:=fun v x as _=>(∀ a∈as,P a)→Reads h' v x as) (motive_2:=fun vs xs as _=>(∀ a∈as,P a)→ReadsAll h' vs xs as)
  (fun _=>.none) (fun b _=>.bool b) (fun i t _=>.int i t) (fun x t _=>.str x t)
  (fun h1 h2 h3 _ ih q=>let ⟨_,e,k⟩:=hk _ _ h1 (q _ (.head _));.list e (k.cls.trans h2) (k.data.trans h3) (ih fun a ha=>q a (.tail _ ha)))
  (fun h1 h2 h3 _ ih q=>let ⟨_,e,k⟩:=hk _ _ h1 (hP _ _ _ _ h1 h2 h3);.tuple e (k.cls.trans h2) (k.data.trans h3) (ih q))
  (fun h1 h2 h3 _ _ ih ih' q=>let ⟨_,e,k⟩:=hk _ _ h1 (q _ (.head _));.dict e (k.cls.trans h2) (k.data.trans h3) (ih fun a ha=>q a (List.mem_append_left _ (List.mem_cons_of_mem _ ha))) (ih' fun a ha=>q a (List.mem_append_right _ ha)))
  (fun _=>.nil) (fun _ _ i1 i2 q=>.cons (i1 fun a ha=>q a (List.mem_append_left _ ha)) (i2 fun a ha=>q a (List.mem_append_right _ ha))) r
theorem wk{h h':Heap}{P:Addr→Prop}(hk:∀ b o,h.get? b=some o→P b→∃ o',h'.get? b=some o'∧Kin o o')
 (hP:∀ b o vs n,h.get? b=some o→o.cls=.type "tuple"→o.data=.seq vs n→P b) {vs:List Value} {xs:List PyData} {as:List Addr} (r:ReadsAll h vs xs as):(∀ a∈as,P a)→ReadsAll h' vs xs as:=
 ReadsAll.rec (motive_1:=fun _ _ _ _=>True) (motive_2:=fun vs xs as _=>(∀ a∈as,P a)→ReadsAll h' vs xs as)
  trivial (fun _=>trivial) (fun _ _=>trivial) (fun _ _=>trivial) (fun _ _ _ _ _=>trivial) (fun _ _ _ _ _=>trivial) (fun _ _ _ _ _ _ _=>trivial)
  (fun _=>.nil) (fun r _ _ i2 q=>.cons (qx hk hP r fun a ha=>q a (List.mem_append_left _ ha)) (i2 fun a ha=>q a (List.mem_append_right _ ha))) r
theorem jb{h h':Heap}{P:Addr→Prop}(hk:∀ b o,h.get? b=some o→P b→h'.get? b=some o)
 (hP:∀ b o vs n,h.get? b=some o→o.cls=.type "tuple"→o.data=.seq vs n→P b) {v:Value} {x:PyData} {as:List Addr} (r:Reads h v x as) (q:∀ a∈as,P a):Reads h' v x as:=
 qx (fun b o e p=>⟨o,hk b o e p,Kin.refl o⟩) hP r q
theorem xr{h h':Heap}{P:Addr→Prop}(hk:∀ b o,h.get? b=some o→P b→h'.get? b=some o)
 (hP:∀ b o vs n,h.get? b=some o→o.cls=.type "tuple"→o.data=.seq vs n→P b) {vs:List Value} {xs:List PyData} {as:List Addr} (r:ReadsAll h vs xs as) (q:∀ a∈as,P a):ReadsAll h' vs xs as:=
 wk (fun b o e p=>⟨o,hk b o e p,Kin.refl o⟩) hP r q
theorem y8{h:Heap}{v:Value}{x:PyData}{as:List Addr}(r:Reads h v x as):∀ a∈as,∃ o,h.get? a=some o:=
 Reads.rec (motive_1:=fun _ _ as _=>∀ a∈as,∃ o,h.get? a=some o) (motive_2:=fun _ _ as _=>∀ a∈as,∃ o,h.get? a=some o)
  (fun _ h=>nomatch h) (fun _ _ h=>nomatch h) (fun _ _ _ h=>nomatch h) (fun _ _ _ h=>nomatch h)
  (fun h1 _ _ _ ih a ha=>(List.mem_cons.mp ha).elim (fun e=>⟨_,e ▸ h1⟩) (ih a))
  (fun _ _ _ _ ih=>ih)
  (fun h1 _ _ _ _ ih ih' a ha=>(List.mem_append.mp ha).elim (fun ha=>(List.mem_cons.mp ha).elim (fun e=>⟨_,e ▸ h1⟩) (ih a)) (ih' a))
  (fun _ h=>nomatch h) (fun _ _ i1 i2 a ha=>(List.mem_append.mp ha).elim (i1 a) (i2 a)) r
theorem qa{h:Heap}{vs:List Value}{xs:List PyData}{as:List Addr}(r:ReadsAll h vs xs as):∀ a∈as,∃ o,h.get? a=some o:=
 ReadsAll.rec (motive_1:=fun _ _ _ _=>True) (motive_2:=fun _ _ as _=>∀ a∈as,∃ o,h.get? a=some o)
  trivial (fun _=>trivial) (fun _ _=>trivial) (fun _ _=>trivial) (fun _ _ _ _ _=>trivial) (fun _ _ _ _ _=>trivial) (fun _ _ _ _ _ _ _=>trivial)
  (fun _ h=>nomatch h) (fun r _ _ i2 a ha=>(List.mem_append.mp ha).elim (y8 r a) (i2 a)) r
theorem BR.alive{G:Gl}{N β:List Addr}{O:za}{h:Heap}(b:BR G N β O h):∀ a∈β,∃ o,h.get? a=some o∧(o.cls=.type "list"∨o.cls=.type "dict"):=by
 intro a ha
 obtain⟨i,hi⟩:=List.getElem?_of_mem ha
 have hl:i < O.length:=by
  rw[← b.len]
  rcases Nat.lt_or_ge i β.length with h | h
  ·exact h
  ·rw[List.getElem?_eq_none h] at hi;cases hi
 have hx:=b.at_ i a _ hi (List.getElem?_eq_getElem hl)
 cases hb:O[i] with
 | lst xs=>rw[hb] at hx;obtain⟨o,_,_,h1,h2,_⟩:=hx;exact⟨o,h1,.inl h2⟩
 | dct kvs=>rw[hb] at hx;obtain⟨o,_,_,h1,h2,_⟩:=hx;exact⟨o,h1,.inr h2⟩
theorem k6{G:Gl}{F:Fm}{β:List Addr}{O:za}{h:Heap}(b:BR G F.B β O h)(f:FmOk G F β h){a:Addr}{o:Obj}{vs:Array Value}{n:Nat}(e:h.get? a=some o)(hc:o.cls=.type "tuple")(hd:o.data=.seq vs n) :
 a∉β∧a∉F.B:=by
 refine⟨fun hb=>?_,fun hB=>?_⟩
 ·obtain⟨o',e',h'⟩:=b.alive a hb
  rw[e] at e';cases e'
  rw[hc] at h'
  rcases h' with h' | h' <;> exact absurd h' (by decide)
 ·obtain⟨o',e',h'⟩:=f.stor a hB
  rw[e] at e';cases e'
  exact h' _ _ hd hc
theorem ur{W β β':List Addr}{s s':Shared}(st:Step W β s s' β'){as:List Addr}{N:List Addr}(al:∀ a∈as,∃ o,s.heap.get? a=some o)(q:∀ a∈as,a∉β∧a∉N):∀ a∈as,a∉β'∧a∉N:=
 fun a ha=>by
  refine⟨fun hb=>?_,(q a ha).2⟩
  rcases st.fresh a hb with h | h
  ·exact (q a ha).1 h
  ·obtain⟨o,e⟩:=al a ha
   rw[e] at h;cases h
section
variable{G:Gl}{F:Fm}{β β':List Addr}{O:za}{s s':Shared}(b:BR G F.B β O s.heap)(f:FmOk G F β s.heap)(st:Step F.W β s s' β')
include b f st
theorem z8{v:Value}{x:PyData}{as:List Addr}(r:Reads s.heap v x as)(q:∀ a∈as,a∉β∧a∉F.B):Reads s'.heap v x as∧∀ a∈as,a∉β'∧a∉F.B:=
 ⟨qx (P:=fun a=>a∉β∧a∉F.B) (fun a o e p=>st.kept a o e p.1 fun hw=>p.2 (f.sub a hw)) (fun _ _ _ _ e hc hd=>k6 b f e hc hd) r q,ur st (y8 r) q⟩
theorem zx{vs:List Value}{xs:List PyData}{as:List Addr}(r:ReadsAll s.heap vs xs as)(q:∀ a∈as,a∉β∧a∉F.B):ReadsAll s'.heap vs xs as∧∀ a∈as,a∉β'∧a∉F.B:=
 ⟨wk (P:=fun a=>a∉β∧a∉F.B) (fun a o e p=>st.kept a o e p.1 fun hw=>p.2 (f.sub a hw)) (fun _ _ _ _ e hc hd=>k6 b f e hc hd) r q,ur st (qa r) q⟩
theorem ItsR.step{vs:List Value}{its:List It}(r:ItsR F.B β s.heap vs its):ItsR F.B β' s'.heap vs its:=by
 induction r with
 | nil=>exact .nil
 | b h1 _ ih=>exact .b (x4 st.pre h1) ih
 | x h1 h2 _ ih=>obtain⟨r',q'⟩:=z8 b f st h1 h2;exact .x r' q' ih
theorem VR.step{v:Value}{x:V}(r:VR G F.B β s.heap v x):VR G F.B β' s'.heap v x:=by
 cases x with
 | d x=>obtain⟨as,r,q⟩:=r;obtain⟨r',q'⟩:=z8 b f st r q;exact⟨as,r',q'⟩
 | box n=>obtain⟨a,h1,h2⟩:=r;exact⟨a,x4 st.pre h1,h2⟩
 | tm its=>
   obtain⟨a,o,vs,k,rfl,h1,h2,h3,h4⟩:=r
   obtain⟨p1,p2⟩:=k6 b f h1 h2 h3
   exact⟨a,o,vs,k,rfl,st.keptE h1 p1 (fun hw=>p2 (f.sub a hw)) (fun es n q=>by rw[h3] at q;cases q),h2,h3,ItsR.step b f st h4⟩
end
noncomputable abbrev WT(α:Type):=(α→Shared→Prop)→(Value→Shared→Prop)→Shared→Prop
noncomputable abbrev tr(G:Gl)(A:Around){α:Type}(t:Sem α):WT α:=fun Q E s=>wpAny (model G.prog G.w) A t Q E s
noncomputable def DoesW{α δ:Type}(G:Gl)(F:Fm)(s:Shared)(β:List Addr)(T:WT α)(r:R (Loc×za) δ)(Rel:List Addr→Heap→α→δ→Prop):Prop:=
 match r with
 | .ok d S=>∀ (Q:α→Shared→Prop) (E:Value→Shared→Prop),
    (∀ s' β' a,Step F.W β s s' β'→SR G F β' S.1 S.2 s'.heap→Rel β' s'.heap a d→Q a s')→T Q E s
 | .stuck=>True
noncomputable abbrev Does{α δ:Type}(G:Gl)(F:Fm)(A:Around)(s:Shared)(β:List Addr)(t:Sem α)(r:R (Loc×za) δ)(Rel:List Addr→Heap→α→δ→Prop):Prop:=
 DoesW G F s β (tr G A t) r Rel
theorem DoesW.seq{α γ δ ε:Type}{G:Gl}{F:Fm}{s:Shared}{β:List Addr}{T:WT γ}{T₁:WT α}{T₂:α→WT γ}{r:R (Loc×za) δ}{g:δ→Loc×za→R (Loc×za) ε}
 {Rel₁:List Addr→Heap→α→δ→Prop} {Rel:List Addr→Heap→γ→ε→Prop}
 (hw:∀ (Q:γ→Shared→Prop) (E:Value→Shared→Prop),T₁ (fun a s'=>T₂ a Q E s') E s→T Q E s)
 (h1:DoesW G F s β T₁ r Rel₁)
 (h2:∀ s' β' a d S,r=.ok d S→Step F.W β s s' β'→SR G F β' S.1 S.2 s'.heap→Rel₁ β' s'.heap a d→DoesW G F s' β' (T₂ a) (g d S) Rel) :
 DoesW G F s β T (r.bind g) Rel:=by
 cases r with
 | stuck=>trivial
 | ok d S=>
   show DoesW G F s β T (g d S) Rel
   cases hg:g d S with
   | stuck=>trivial
   | ok e S'=>
     intro Q E k
     refine hw Q E (h1 _ _ fun s' β' a st sr rel=>?_)
     have:=h2 s' β' a d S rfl st sr rel
     rw[hg] at this
     exact this Q E fun s'' β'' c st' sr' rel'=>k s'' β'' c (st.trans st') sr' rel'
theorem DoesW.seqE{α γ δ ε:Type}{G:Gl}{F:Fm}{s:Shared}{β:List Addr}{ρ:Loc}{T:WT γ}{T₁:WT α}{T₂:α→WT γ}{r:R za δ}{g:δ→za→R za ε}
 {Rel₁:List Addr→Heap→α→δ→Prop} {Rel:List Addr→Heap→γ→ε→Prop}
 (hw:∀ (Q:γ→Shared→Prop) (E:Value→Shared→Prop),T₁ (fun a s'=>T₂ a Q E s') E s→T Q E s)
 (h1:DoesW G F s β T₁ (r.lift ρ) Rel₁)
 (h2:∀ s' β' a d O,r=.ok d O→Step F.W β s s' β'→SR G F β' ρ O s'.heap→Rel₁ β' s'.heap a d→DoesW G F s' β' (T₂ a) ((g d O).lift ρ) Rel) :
 DoesW G F s β T ((r.bind g).lift ρ) Rel:=by
 rw[R.lift_bind]
 refine DoesW.seq hw h1 fun s' β' a d S e st sr rel=>?_
 cases r with
 | ok d' O=>cases (e);exact h2 s' β' a d O rfl st sr rel
 | stuck=>cases e
theorem DoesW.by{α γ δ ε:Type}{G:Gl}{F:Fm}{s:Shared}{β:List Addr}{T:WT γ}{T₁:WT α}{r:R (Loc×za) δ}{r':R (Loc×za) ε}
 {Rel₁:List Addr→Heap→α→δ→Prop} {Rel:List Addr→Heap→γ→ε→Prop} (f:α→γ) (q:δ→ε)
 (hw:∀ (Q:γ→Shared→Prop) (E:Value→Shared→Prop),T₁ (fun a s'=>Q (f a) s') E s→T Q E s)
 (h1:DoesW G F s β T₁ r Rel₁) (hr:∀ β h a d,Rel₁ β h a d→Rel β h (f a) (q d))
 (hq:r'=r.bind fun d S=>.ok (q d) S:=by rfl):DoesW G F s β T r' Rel:=by
 subst hq
 cases r with
 | stuck=>trivial
 | ok d S=>exact fun Q E k=>hw Q E (h1 _ _ fun s' β' a st sr rel=>k s' β' _ st sr (hr _ _ _ _ rel))
theorem DoesW.weaken{α δ:Type}{G:Gl}{F:Fm}{s:Shared}{β:List Addr}{T T₁:WT α}{r:R (Loc×za) δ}
 {Rel₁ Rel:List Addr→Heap→α→δ→Prop} (h1:DoesW G F s β T₁ r Rel₁) (hw:∀ (Q:α→Shared→Prop) (E:Value→Shared→Prop),T₁ Q E s→T Q E s)
 (hr:∀ β h a d,Rel₁ β h a d→Rel β h a d):DoesW G F s β T r Rel:=by
 cases r with
 | stuck=>trivial
 | ok d S=>exact fun Q E k=>hw Q E (h1 _ _ fun s' β' a st sr rel=>k s' β' _ st sr (hr _ _ _ _ rel))
inductive Ty where
 | int | bool | tuple | list | str
 deriving DecidableEq
inductive Bop where
 | add | sub | mul | fdiv | mod | pow
 deriving DecidableEq
inductive Cop where
 | eq | ne | lt | le | gt | ge | is | isnot | in_ | notin
 deriving DecidableEq
inductive Prim where
 | isinst (t:Ty) | isexc (c:Nat)
 | len | all | any | sum | sorted | list | tuple | min2 | min | max | int | str | lenset | sortedset
 deriving DecidableEq
inductive Meth where
 | append | pop | clear | index
 deriving DecidableEq
inductive CT where
 | name (i:Nat)
 | two (a b:CT)
structure Pg where
 call:Bool→Nat→List V→za→R za V
 hd:Bool
 gval:Nat→Option PyData
 turns:Nat
 sub:Nat→Nat→Option Bool
 srt:List PyData→Option (List PyData)
 sets:Bool
 txt:PyData→Option Str
noncomputable def kr(O:za)(n:Nat):Option PyData:=match O[n]? with
 | some (.lst xs)=>some (.list xs)
 | _=>none
noncomputable def look(O:za):V→Option PyData
 | .d x=>some x
 | .box n=>kr O n
 | _=>none
noncomputable def allD:List V→Option (List PyData)
 | []=>some []
 | .d x::r=>(allD r).map (x::·)
 | _::_=>none
noncomputable def allI:List V→Option (List It)
 | []=>some []
 | .d x::r=>(allI r).map (.x x::·)
 | .box n::r=>(allI r).map (.b n::·)
 | _::_=>none
noncomputable def tupV(vs:List V):Option V:=match allD vs with
 | some xs=>some (.d (.tuple xs))
 | none=>(allI vs).map .tm
noncomputable def repL{α:Type}(xs:List α)(n:Int):List α:=(List.replicate n.toNat xs).flatten
noncomputable def line:Nat:=1000000
noncomputable def addD:PyData→PyData→Option PyData
 | .int a,y=>(match y with
    | .int b=>some (.int (a+b))
    | _=>none)
 | .list a,y=>(match y with
    | .list b=>if a.length+b.length≤line then some (.list (a++b)) else none
    | _=>none)
 | .tuple a,y=>(match y with
    | .tuple b=>if a.length+b.length≤line then some (.tuple (a++b)) else none
    | _=>none)
 | .str a,y=>(match y with
    | .str b=>if a.length+b.length≤line then some (.str (a++b)) else none
    | _=>none)
 | _,_=>none
noncomputable def mulD:PyData→Int→Option PyData
 | .int a,b=>if a.natAbs < 2 ^ 64∨b.natAbs < 2 ^ 64 then some (.int (a * b)) else none
 | .list a,n=>if a.length * n.toNat≤256∧0≤n∧n≤256 then some (.list (repL a n)) else none
 | .tuple a,n=>if a≠[]∧a.length * n.toNat≤256∧2≤n∧n≤256 then some (.tuple (repL a n)) else none
 | .str a,n=>if a.length≤256∧0≤n∧n≤256 then some (.str (Txt.mul a n)) else none
 | _,_=>none
noncomputable def arith(op:Bop)(a b:Int):Option PyData:=match op with
 | .sub=>some (.int (a - b))
 | .fdiv=>if b≠0∧b.natAbs < 1073741824 then some (.int (Int.fdiv a b)) else none
 | .mod=>if b=0 then none else some (.int (Int.fmod a b))
 | .pow=>if a=10∧b=20 then some (.int 100000000000000000000) else none
 | _=>none
noncomputable def intD(f:Int→Option PyData):PyData→Option PyData
 | .int i=>f i
 | _=>none
noncomputable def zbv(op:Bop)(x y:PyData):Option PyData:=match op with
 | .add=>addD x y
 | .mul=>intD (mulD x) y
 | op=>intD (fun a=>intD (arith op a) y) x
noncomputable def eqOk(a b:PyData):Bool:=a.canLay0 && b.canLay0 && decide (min a.depth b.depth≤100)
noncomputable def inD(a:PyData)(xs:List PyData):Option Bool:=if a.canLay0 && PyData.canLayAll0 xs && decide (a.depth≤100) then some (xs.any fun y=>PyData.eqv y a) else none
noncomputable def seqD:PyData→Option (List PyData)
 | .list xs=>some xs
 | .tuple xs=>some xs
 | _=>none
noncomputable def ordD(f:Int→Int→Bool):PyData→PyData→Option Bool
 | .int a,y=>(match y with
    | .int b=>some (f a b)
    | _=>none)
 | _,_=>none
noncomputable def vj(op:Cop)(a b:PyData):Option Bool:=match op with
 | .eq=>if eqOk a b then some (PyData.eqv a b) else none
 | .ne=>if eqOk a b then some (!PyData.eqv a b) else none
 | .lt=>ordD (fun a b=>decide (a < b)) a b
 | .le=>ordD (fun a b=>decide (a≤b)) a b
 | .gt=>ordD (fun a b=>decide (a > b)) a b
 | .ge=>ordD (fun a b=>decide (a ≥ b)) a b
 | .in_=>(seqD b).bind (inD a)
 | .notin=>((seqD b).bind (inD a)).map (!·)
 | _=>none
noncomputable def isNone:PyData→Bool
 | .none=>true
 | _=>false
noncomputable def isBool(b:Bool):PyData→Bool
 | .bool a=>a == b
 | _=>false
noncomputable def isop(x:PyData):PyData→Option Bool
 | .none=>some (isNone x)
 | .bool b=>some (isBool b x)
 | _=>none
noncomputable def truth:V→Option Bool
 | .d (.bool b)=>some b
 | _=>none
noncomputable def items:PyData→Option (List PyData)
 | .list xs=>some xs
 | .tuple xs=>some xs
 | _=>none
noncomputable def idxD(x:PyData)(i:PyData):Option PyData:=match items x,i with
 | some xs,.int k=>if xs.length≤line then (if 0≤k then xs[k.toNat]? else if 0≤k+xs.length then xs[(k+xs.length).toNat]? else none) else none
 | _,_=>none
noncomputable def clip(n:Nat)(dflt:Nat):PyData→Option Nat
 | .none=>some dflt
 | .int k=>some (clipAt n k)
 | _=>none
noncomputable def vv{α:Type}(xs:List α)(lo hi:Nat):List α:=(xs.drop lo).take (hi - lo)
noncomputable def jm(xs:List PyData)(lo hi:PyData):Option PyData:=if xs.length≤line then (clip xs.length 0 lo).bind fun l=>(clip xs.length xs.length hi).map fun h=>.list (vv xs l h) else none
noncomputable def ofList(f:List PyData→Option PyData):PyData→Option PyData
 | .list xs=>f xs
 | _=>none
noncomputable def zfm(x lo hi:PyData):Option PyData:=ofList (fun xs=>jm xs lo hi) x
noncomputable def isTy:Ty→PyData→Bool
 | .int,.int _=>true
 | .int,.bool _=>true
 | .bool,.bool _=>true
 | .tuple,.tuple _=>true
 | .list,.list _=>true
 | .str,.str _=>true
 | _,_=>false
noncomputable def intsOf:List PyData→Option (List Int)
 | []=>some []
 | .int i::r=>(intsOf r).map (i::·)
 | _::_=>none
noncomputable def vn:List PyData→Option (List Bool)
 | []=>some []
 | .bool i::r=>(vn r).map (i::·)
 | _::_=>none
noncomputable def isInt:PyData→Bool
 | .int _=>true
 | _=>false
noncomputable def addI(a:Int):List Int→List Int
 | []=>[a]
 | b::r=>if a < b then a::b::r else if a=b then b::r else b::addI a r
noncomputable def w0(is:List Int):List Int:=is.foldl (fun acc i=>addI i acc) []
noncomputable def small(is:List Int):Bool:=decide (is.length≤4) && is.all fun i=>decide (0≤i) && decide (i < 5)
noncomputable def maxI:List Int→Option Int
 | []=>none
 | a::r=>some (r.foldl max a)
noncomputable def tupI:PyData→Option (List Int)
 | .tuple xs=>intsOf xs
 | _=>none
noncomputable def x9:List PyData→Option (List (List Int))
 | []=>some []
 | x::r=>(tupI x).bind fun a=>(x9 r).map (a::·)
noncomputable def Prim.calm:Prim→Bool
 | .isinst _ | .isexc _ | .len | .int=>true
 | _=>false
noncomputable def lenD:PyData→Option PyData
 | .list xs=>if xs.length≤line then some (.int xs.length) else none
 | .tuple xs=>if xs.length≤line then some (.int xs.length) else none
 | _=>none
noncomputable def zdu(f:List PyData→Option PyData):PyData→Option PyData
 | .list xs=>f xs
 | _=>none
noncomputable def zmc:PyData→Option PyData
 | .list xs=>if xs.length≤line then some (.list xs) else none
 | .tuple xs=>if xs.length≤line then some (.list xs) else none
 | _=>none
noncomputable def zo9:PyData→Option PyData
 | .list xs=>if xs.length≤line then some (.tuple xs) else none
 | .tuple xs=>some (.tuple xs)
 | _=>none
noncomputable def zpa:PyData→Option PyData
 | .bool b=>some (.int (if b then 1 else 0))
 | _=>none
noncomputable def setT(f:List Int→PyData)(xs:List PyData):Option PyData:=(intsOf xs).bind fun is=>if small is then some (f is) else none
noncomputable def zmy:PyData→Option PyData
 | .tuple xs=>setT (fun is=>.int (w0 is).length) xs
 | _=>none
noncomputable def zfj:PyData→Option PyData
 | .tuple xs=>setT (fun is=>.list ((w0 is).map .int)) xs
 | _=>none
noncomputable def za7(P:Pg):Prim→PyData→Option PyData
 | .isinst t,x=>some (.bool (isTy t x))
 | .isexc _,_=>none
 | .len,x=>lenD x
 | .all,x=>zdu (fun xs=>(vn xs).map fun bs=>.bool (bs.all id)) x
 | .any,x=>zdu (fun xs=>(vn xs).map fun bs=>.bool (bs.any id)) x
 | .sum,x=>zdu (fun xs=>(intsOf xs).map fun is=>.int is.sum) x
 | .sorted,x=>zdu (fun xs=>if xs.length < 64 then (P.srt xs).map .list else none) x
 | .list,x=>zmc x
 | .tuple,x=>zo9 x
 | .min2,_=>none
 | .min,_=>none
 | .max,_=>none
 | .int,x=>zpa x
 | .str,_=>none
 | .lenset,x=>(match P.sets with
    | true=>zmy x
    | false=>none)
 | .sortedset,x=>(match P.sets with
    | true=>zfj x
    | false=>none)
noncomputable def zsb:PyData→PyData→Option PyData
 | .int a,.int b=>some (.int (min a b))
 | _,_=>none
noncomputable def ui(P:Pg)(p:Prim)(xs:List PyData):Option PyData:=match xs with
 | [x]=>za7 P p x
 | [x,y]=>(match p with
     | .min2=>zsb x y
     | _=>none)
 | _=>none
noncomputable def opt{α:Type}(o:Option α)(O:za):R za α:=match o with
 | some a=>.ok a O
 | none=>.stuck
noncomputable def prim(P:Pg)(p:Prim)(vs:List V)(O:za):R za V:=
 match (vs.mapM (look O)).bind (ui P p) with
 | some y=>.ok (.d y) O
 | none=>.stuck
noncomputable def z0(kvs:List (MKey×PyData))(k:MKey):Option PyData:=(kvs.find? fun kv=>decide (kv.1=k)).map (·.2)
noncomputable def keyOf:PyData→Option MKey
 | .tuple [.tuple xs,.int n]=>(x9 xs).map fun kss=>(kss,n)
 | _=>none
noncomputable def boxL(o:V)(O:za)(f:Nat→List PyData→R za V):R za V:=match o with
 | .box n=>(match O[n]? with
    | some (.lst xs)=>f n xs
    | _=>.stuck)
 | _=>.stuck
noncomputable def oneD(f:PyData→R za V)(vs:List V):R za V:=match vs with
 | [.d x]=>f x
 | _=>.stuck
noncomputable def meth(m:Meth)(o:V)(vs:List V)(O:za):R za V:=match m with
 | .append=>boxL o O fun n xs=>oneD (fun x=>if xs.length < line then .ok (.d .none) (O.set n (.lst (xs++[x]))) else .stuck) vs
 | _=>.stuck
noncomputable def zd0(O:za)(n:Nat):Bool:=match O[n]? with
 | some (.lst _)=>true
 | _=>false
noncomputable def recv(m:Meth)(v:V)(O:za):Bool:=match m,v with
 | .append,.box n=>zd0 O n
 | _,_=>false
inductive Src where
 | plain (xs:List PyData)
 | box (n:Nat) (xs:List PyData)
noncomputable def Src.xs:Src→List PyData
 | .plain xs=>xs
 | .box _ xs=>xs
noncomputable def Src.still(s:Src)(O:za):Bool:=match s with
 | .plain _=>true
 | .box n xs=>@decide (O[n]?=some (.lst xs)) (Classical.propDecidable _)
noncomputable def It.v:It→V
 | .b n=>.box n
 | .x d=>.d d
noncomputable def zt:CT→V→Loc→Option Loc
 | .name i,v,ρ=>if i < ρ.length then some (ρ.set i (some v)) else none
 | .two a b,.d x,ρ=>(match items x with
    | some [y,z]=>(zt a (.d y) ρ).bind (zt b (.d z))
    | _=>none)
 | _,_,_=>none
noncomputable def zj(a b:Int):List PyData:=(List.range (b - a).toNat).map fun (i:Nat)=>.int (a+i)
noncomputable def yd(src:Src)(turn:PyData→za→R za (Option PyData)):List PyData→List PyData→za→R za V
 | [],acc,O=>.ok (.d (.list acc)) O
 | x::xs,acc,O=>(match turn x O with
    | .ok y O'=>if src.still O' then yd src turn xs (acc++y.toList) O' else .stuck
    | _=>.stuck)
noncomputable def isV(f:Bool→Bool)(x y:V)(O:za):R za V:=match x with
 | .d a=>(match y with
    | .d b=>opt ((isop a b).map fun c=>.d (.bool (f c))) O
    | _=>.stuck)
 | _=>.stuck
noncomputable def cmpG(op:Cop)(x y:V)(O:za):R za V:=opt (((look O x).bind fun x=>(look O y).bind fun y=>vj op x y).map fun b=>.d (.bool b)) O
noncomputable def cmpV(op:Cop)(x y:V)(O:za):R za V:=match op with
 | .is=>isV id x y O
 | .isnot=>isV not x y O
 | op=>cmpG op x y O
noncomputable def idxV(v u:V)(O:za):R za V:=match u with
 | .d k=>opt (((look O v).bind fun x=>idxD x k).map .d) O
 | _=>.stuck
noncomputable def CE:Type:=Pg→Loc→za→R za V
noncomputable def evE(P:Pg)(ρ:Loc)(c:CE)(O:za):R za V:=c P ρ O
noncomputable def CI:Type:=Pg→Loc→za→R za Src
noncomputable def evI(P:Pg)(ρ:Loc)(c:CI)(O:za):R za Src:=c P ρ O
inductive CEs where
 | nil
 | cons (e:CE) (es:CEs)
noncomputable def evEs(P:Pg)(ρ:Loc):CEs→za→R za (List V)
 | .nil,O=>.ok [] O
 | .cons e es,O=>(evE P ρ e O).bind fun v O=>(evEs P ρ es O).bind fun vs O=>.ok (v::vs) O
noncomputable def xo(P:Pg)(ρ:Loc):CEs→za→R za Bool
 | .nil,O=>.ok true O
 | .cons e es,O=>(evE P ρ e O).bind fun v O=>(opt (truth v) O).bind fun t O=>(match t with
    | true=>xo P ρ es O
    | false=>.ok false O)
noncomputable def boxK(v:V)(O:za):R za V:=match v with
 | .d (.list xs)=>.ok (.box O.length) (O++[.lst xs])
 | _=>.stuck
noncomputable def xn(tgt:CT)(evT:Loc→za→R za Bool)(evX:Loc→za→R za V)(ρ:Loc)(x:PyData)(O:za):R za (Option PyData):=match zt tgt (.d x) ρ with
 | none=>.stuck
 | some ρ'=>(evT ρ' O).bind fun t O=>(match t with
    | false=>.ok none O
    | true=>(evX ρ' O).bind fun v O=>(match v with
       | .d y=>.ok (some y) O
       | _=>.stuck))
noncomputable def negV(v:V)(O:za):R za V:=match v with
 | .d (.int i)=>.ok (.d (.int (-i))) O
 | _=>.stuck
noncomputable def CE.none:CE:=fun _ _ O=>.ok (.d .none) O
noncomputable def CE.bool(b:Bool):CE:=fun _ _ O=>.ok (.d (.bool b)) O
noncomputable def CE.int(i:Int):CE:=fun _ _ O=>.ok (.d (.int i)) O
noncomputable def CE.str(x:Str):CE:=fun _ _ O=>.ok (.d (.str x)) O
noncomputable def CE.loc(i:Nat):CE:=fun _ ρ O=>opt (ρ[i]?.join) O
noncomputable def CE.glob(k:Nat):CE:=fun P _ O=>opt ((P.gval k).map .d) O
noncomputable def CE.tup(es:CEs):CE:=fun P ρ O=>(evEs P ρ es O).bind fun vs O=>opt (tupV vs) O
noncomputable def CE.list(es:CEs):CE:=fun P ρ O=>(evEs P ρ es O).bind fun vs O=>opt ((allD vs).map fun xs=>.d (.list xs)) O
noncomputable def CE.dict:CE:=fun _ _ O=>.ok (.d (.dict [])) O
noncomputable def CE.boxed(e:CE):CE:=fun P ρ O=>(evE P ρ e O).bind boxK
noncomputable def CE.neg(e:CE):CE:=fun P ρ O=>(evE P ρ e O).bind negV
noncomputable def CE.nt(e:CE):CE:=fun P ρ O=>(evE P ρ e O).bind fun v O=>opt ((truth v).map fun b=>.d (.bool !b)) O
noncomputable def andK(r:za→R za V):Bool→za→R za V
 | true,O=>r O
 | false,O=>.ok (.d (.bool false)) O
noncomputable def orK(r:za→R za V):Bool→za→R za V
 | true,O=>.ok (.d (.bool true)) O
 | false,O=>r O
noncomputable def iteK(r q:za→R za V):Bool→za→R za V
 | true,O=>r O
 | false,O=>q O
noncomputable def binK(op:Bop)(v u:V)(O:za):R za V:=opt (((look O v).bind fun x=>(look O u).bind fun y=>zbv op x y).map V.d) O
noncomputable def CE.and_(a b:CE):CE:=fun P ρ O=>(evE P ρ a O).bind fun v O=>(opt (truth v) O).bind (andK fun O=>evE P ρ b O)
noncomputable def CE.or_(a b:CE):CE:=fun P ρ O=>(evE P ρ a O).bind fun v O=>(opt (truth v) O).bind (orK fun O=>evE P ρ b O)
noncomputable def CE.bin(op:Bop)(a b:CE):CE:=fun P ρ O=>(evE P ρ a O).bind fun v O=>(evE P ρ b O).bind fun u O=>binK op v u O
noncomputable def CE.cmp(op:Cop)(a b:CE):CE:=fun P ρ O=>(evE P ρ a O).bind fun v O=>(evE P ρ b O).bind fun u O=>cmpV op v u O
noncomputable def CE.chain(p q:Cop)(a b c:CE):CE:=fun P ρ O=>(evE P ρ a O).bind fun v O=>(evE P ρ b O).bind fun u O=>(cmpV p v u O).bind fun t O=>(opt (truth t) O).bind (andK fun O=>(evE P ρ c O).bind fun y O=>cmpV q u y O)
noncomputable def CE.ite(t a b:CE):CE:=fun P ρ O=>(evE P ρ t O).bind fun v O=>(opt (truth v) O).bind (iteK (fun O=>evE P ρ a O) fun O=>evE P ρ b O)
noncomputable def CE.idx(a i:CE):CE:=fun P ρ O=>(evE P ρ a O).bind fun v O=>(evE P ρ i O).bind fun u O=>idxV v u O
noncomputable def zfl(v l h:V)(O:za):R za V:=match l with
 | .d l=>(match h with
    | .d h=>opt (((look O v).bind fun x=>zfm x l h).map .d) O
    | _=>.stuck)
 | _=>.stuck
noncomputable def CE.slice(a lo hi:CE):CE:=fun P ρ O=>(evE P ρ a O).bind fun v O=>(evE P ρ lo O).bind fun l O=>(evE P ρ hi O).bind fun h O=>zfl v l h O
noncomputable def CE.comp(elt:CE)(tgt:CT)(it:CI)(ifs:CEs):CE:=fun P ρ O=>if P.hd=true then .stuck else (evI P ρ it O).bind fun src O=>if src.xs.length≤line then yd src (xn tgt (fun ρ O=>xo P ρ ifs O) (fun ρ O=>evE P ρ elt O) ρ) src.xs [] O else .stuck
noncomputable def CE.listI(it:CI):CE:=fun P ρ O=>if P.hd=true then .stuck else (evI P ρ it O).bind fun src O=>if src.xs.length≤line then .ok (.d (.list src.xs)) O else .stuck
noncomputable def CE.call(f:Nat)(args:CEs):CE:=fun P ρ O=>(evEs P ρ args O).bind fun vs O=>P.call P.hd f vs O
noncomputable def CE.prim(p:Prim)(args:CEs):CE:=fun P ρ O=>if (P.hd && !p.calm)=true then .stuck else (evEs P ρ args O).bind fun vs O=>Mine.prim P p vs O
noncomputable def CE.meth(m:Meth)(o:CE)(args:CEs):CE:=fun P ρ O=>(evE P ρ o O).bind fun v O=>if recv m v O then (evEs P ρ args O).bind fun vs O=>Mine.meth m v vs O else .stuck
noncomputable def srcV(v:V)(O:za):R za Src:=match v with
 | .d x=>opt ((items x).map .plain) O
 | .box n=>(match O[n]? with
    | some (.lst xs)=>.ok (.box n xs) O
    | _=>.stuck)
 | _=>.stuck
noncomputable def zsv:PyData→Option Int
 | .int i=>some i
 | _=>none
noncomputable def intV:V→Option Int
 | .d x=>zsv x
 | _=>none
noncomputable def xc(v u:V)(O:za):R za (Int×Int):=match intV v with
 | some i=>(match intV u with
    | some j=>if -(10 ^ 9)≤i∧i≤10 ^ 9∧-(10 ^ 9)≤j∧j≤10 ^ 9 then .ok (i,j) O else .stuck
    | none=>.stuck)
 | none=>.stuck
noncomputable def rng(a b:CE)(P:Pg)(ρ:Loc)(O:za):R za (Int×Int):=(evE P ρ a O).bind fun v O=>(evE P ρ b O).bind fun u O=>xc v u O
noncomputable def CI.e(a:CE):CI:=fun P ρ O=>(evE P ρ a O).bind srcV
noncomputable def CI.range(a b:CE):CI:=fun P ρ O=>(rng a b P ρ O).bind fun p O=>.ok (.plain (zj p.1 p.2)) O
noncomputable def zu(src:Src)(turn:PyData→Loc→za→R (Loc×za) Fl):List PyData→Loc→za→R (Loc×za) Fl
 | [],ρ,O=>.ok .next (ρ,O)
 | x::xs,ρ,O=>(match turn x ρ O with
    | .ok (.ret v) S=>.ok (.ret v) S
    | .ok .next S=>if src.still S.2 then zu src turn xs S.1 S.2 else .stuck
    | _=>.stuck)
noncomputable def yx(test:Loc→za→R (Loc×za) Bool)(turn:Loc→za→R (Loc×za) Fl):Nat→Loc→za→R (Loc×za) Fl
 | 0,_,_=>.stuck
 | n+1,ρ,O=>(match test ρ O with
    | .ok false S=>.ok .next S
    | .ok true S=>(match turn S.1 S.2 with
       | .ok (.ret v) S=>.ok (.ret v) S
       | .ok .next S=>yx test turn n S.1 S.2
       | _=>.stuck)
    | _=>.stuck)
noncomputable def CT.isName:CT→Bool
 | .name _=>true
 | _=>false
noncomputable def CS:Type:=Pg→Loc→za→R (Loc×za) Fl
noncomputable def CSs:Type:=Pg→Loc→za→R (Loc×za) Fl
noncomputable def evS(P:Pg)(c:CS)(ρ:Loc)(O:za):R (Loc×za) Fl:=c P ρ O
noncomputable def evSs(P:Pg)(c:CSs)(ρ:Loc)(O:za):R (Loc×za) Fl:=c P ρ O
structure Fn where
 arity:Nat
 slots:Nat
 keep:Bool
 body:CSs
noncomputable def asgR(t:CT)(v:V)(S:Loc×za):R (Loc×za) Fl:=match zt t v S.1 with
 | some ρ'=>.ok .next (ρ',S.2)
 | none=>.stuck
noncomputable def j3(t:CT)(evb:Loc→za→R (Loc×za) Fl)(x:PyData)(ρ:Loc)(O:za):R (Loc×za) Fl:=match zt t (.d x) ρ with
 | none=>.stuck
 | some ρ'=>evb ρ' O
noncomputable def seqK(p:Loc×za→R (Loc×za) Fl):Fl→Loc×za→R (Loc×za) Fl
 | .ret v,S=>.ok (.ret v) S
 | .next,S=>p S
noncomputable def ifeK(p q:Loc×za→R (Loc×za) Fl):Bool→Loc×za→R (Loc×za) Fl
 | true,S=>p S
 | false,S=>q S
noncomputable def CS.ret(e:CE):CS:=fun P ρ O=>((evE P ρ e O).lift ρ).bind fun v S=>.ok (.ret v) S
noncomputable def CS.asg(t:CT)(e:CE):CS:=fun P ρ O=>if (P.hd && !t.isName)=true then .stuck else ((evE P ρ e O).lift ρ).bind (asgR t)
noncomputable def CS.ife(t:CE)(a b:CSs):CS:=fun P ρ O=>(((evE P ρ t O).bind fun v O=>opt (truth v) O).lift ρ).bind (ifeK (fun S=>evSs P a S.1 S.2) fun S=>evSs P b S.1 S.2)
noncomputable def CS.for_(t:CT)(it:CI)(body:CSs):CS:=fun P ρ O=>if P.hd=true then .stuck else ((evI P ρ it O).lift ρ).bind fun src S=>zu src (j3 t fun ρ O=>evSs P body ρ O) src.xs S.1 S.2
noncomputable def CS.while_(t:CE)(body:CSs):CS:=fun P ρ O=>yx (fun ρ O=>((evE P ρ t O).bind fun v O=>opt (truth v) O).lift ρ) (fun ρ O=>evSs P body ρ O) P.turns ρ O
noncomputable def CS.expr(e:CE):CS:=fun P ρ O=>((evE P ρ e O).lift ρ).bind fun _ S=>.ok .next S
noncomputable def CSs.nil:CSs:=fun _ ρ O=>.ok .next (ρ,O)
noncomputable def CSs.cons(s:CS)(ss:CSs):CSs:=fun P ρ O=>(evS P s ρ O).bind (seqK fun S=>evSs P ss S.1 S.2)
noncomputable def dn(base:Nat)(keep:Bool)(n:Nat)(O:za):R za V:=if n < base then .ok (.box n) (O.take base) else (match O[n]? with
 | some (.lst xs)=>(match keep with
    | true=>.ok (.box base) (O.take base++[.lst xs])
    | false=>.ok (.d (.list xs)) (O.take base))
 | _=>.stuck)
noncomputable def frz(O:za)(base:Nat):List It→Option (List PyData)
 | []=>some []
 | .x d::r=>(frz O base r).map (d::·)
 | .b n::r=>if base≤n then (kr O n).bind fun x=>(frz O base r).map (x::·) else none
noncomputable def fin(base:Nat)(keep:Bool)(v:V)(O:za):R za V:=match v with
 | .d x=>.ok (.d x) (O.take base)
 | .box n=>dn base keep n O
 | .tm its=>(match frz O base its with
    | some ds=>.ok (.d (.tuple ds)) (O.take base)
    | none=>.stuck)
noncomputable def evFn(P:Pg)(fn:Fn)(args:List V)(O:za):R za V:=
 match evSs P fn.body (args.map some++List.replicate (fn.slots - fn.arity) none) O with
 | .ok (.ret v) S=>fin O.length fn.keep v S.2
 | .ok .next S=>.ok (.d .none) (S.2.take O.length)
 | .stuck=>.stuck
noncomputable def zg(P:Pg)(T:Nat→Option Fn):Nat→Bool→Nat→List V→za→R za V
 | 0,_,_,_,_=>.stuck
 | k+1,hd,f,args,O=>match T f with
   | some fn=>if args.length=fn.arity∧fn.arity≤fn.slots then evFn { P with call:=zg P T k,hd:=hd } fn args O else .stuck
   | none=>.stuck
structure KeepsAll(s s':Shared):Prop where
 gens:s'.gens=s.gens
 os:s'.os=s.os
 kept:∀ b o,s.heap.get? b=some o→s'.heap.get? b=some o
theorem KeepsAll.refl(s:Shared):KeepsAll s s:=⟨rfl,rfl,fun _ _ h=>h⟩
theorem KeepsAll.toks(s:Shared)(n:Nat):KeepsAll s { s with toks:=n }:=⟨rfl,rfl,fun _ _ h=>h⟩
theorem KeepsAll.trans{s s' s'':Shared}(x:KeepsAll s s')(y:KeepsAll s' s''):KeepsAll s s'':=⟨y.gens.trans x.gens,y.os.trans x.os,fun b o e=>y.kept b o (x.kept b o e)⟩
theorem KeepsAll.push(s:Shared)(o:Obj)(n:Nat):KeepsAll s { s with heap:=s.heap.push o,toks:=n }:=⟨rfl,rfl,fun _ _ e=>Heap.get?_push_of_some o e⟩
theorem KeepsAll.step{s s':Shared}(x:KeepsAll s s')(W β:List Addr):Step W β s s' β:=
 ⟨x.gens,x.os,List.prefix_refl _,fun _ h=>.inl h,fun b o e=>⟨o,x.kept b o e⟩,fun b o e _ _=>⟨o,x.kept b o e,Kin.refl o⟩⟩
section
variable{G:Gl}{F:Fm}{N β:List Addr}{ρ:Loc}{O:za}{h h':Heap}
theorem z6(hk:∀ b o,h.get? b=some o→h'.get? b=some o){v:Value}{x:PyData}{as:List Addr}(r:Reads h v x as):Reads h' v x as:=
 jb (P:=fun _=>True) (fun b o e _=>hk b o e) (fun _ _ _ _ _ _ _=>trivial) r fun _ _=>trivial
theorem zy(hk:∀ b o,h.get? b=some o→h'.get? b=some o){v:List Value}{x:List PyData}{as:List Addr}(r:ReadsAll h v x as):ReadsAll h' v x as:=
 xr (P:=fun _=>True) (fun b o e _=>hk b o e) (fun _ _ _ _ _ _ _=>trivial) r fun _ _=>trivial
theorem wu(hk:∀ b o,h.get? b=some o→h'.get? b=some o){vs:List Value}{its:List It}(r:ItsR N β h vs its):ItsR N β h' vs its:=by
 induction r with
 | nil=>exact .nil
 | b h1 _ ih=>exact .b h1 ih
 | x h1 h2 _ ih=>exact .x (z6 hk h1) h2 ih
theorem VR.keepAll(hk:∀ b o,h.get? b=some o→h'.get? b=some o){v:Value}{x:V}(r:VR G N β h v x):VR G N β h' v x:=by
 cases x with
 | d x=>obtain⟨as,r,q⟩:=r;exact⟨as,z6 hk r,q⟩
 | box n=>exact r
 | tm its=>obtain⟨a,o,vs,k,e,h1,h2,h3,h4⟩:=r;exact⟨a,o,vs,k,e,hk _ _ h1,h2,h3,wu hk h4⟩
theorem BoxAt.keepAll(hk:∀ b o,h.get? b=some o→h'.get? b=some o){a:Addr}{bx:Box}(r:BoxAt h N β a bx):BoxAt h' N β a bx:=by
 cases bx with
 | lst xs=>obtain⟨o,vs,n,h1,h2,h3,as,h4,h5⟩:=r;exact⟨o,vs,n,hk _ _ h1,h2,h3,as,zy hk h4,h5⟩
 | dct kvs=>
   obtain⟨o,es,n,h1,h2,h3,h4,h5⟩:=r
   refine⟨o,es,n,hk _ _ h1,h2,h3,h4,fun i e kv he hkv=>?_⟩
   obtain⟨hq,as,bs,r1,r2,q⟩:=h5 i e kv he hkv
   exact⟨hq,as,bs,z6 hk r1,z6 hk r2,q⟩
theorem BR.keepAll(hk:∀ b o,h.get? b=some o→h'.get? b=some o)(b:BR G N β O h):BR G N β O h':=
 ⟨fun c o e=>hk _ _ (b.keep c o e),b.len,b.nodup,b.new,fun i a bx h1 h2=>(b.at_ i a bx h1 h2).keepAll hk,fun a ha=>(b.plain a ha).at fun o e=>hk a o e⟩
theorem Get.keepAll(hk:∀ b o,h.get? b=some o→h'.get? b=some o){env:Env}{x:Str}{v:Value}(g:Get h env x v):Get h' env x v:=by
 rcases g with ⟨h1,m,h2,h3⟩ | ⟨h1,c,h2,h3⟩
 ·exact .inl ⟨h1,m,h2.keeps hk,h3⟩
 ·exact .inr ⟨h1,c,h2,h3.keeps hk⟩
theorem FmOk.keepAll(hk:∀ b o,h.get? b=some o→h'.get? b=some o)(f:FmOk G F β h):FmOk G F β h' where
 kind:=f.kind
 globals:=f.globals
 builtins:=f.builtins
 once:=f.once
 ns:=let ⟨m,e⟩:=f.ns;⟨m,e.keeps hk⟩
 nsW:=f.nsW
 cell:=fun x h1=>let ⟨c,v,h3,h4,h5⟩:=f.cell x h1;⟨c,v,h3,h4.keeps hk,h5⟩
 apart:=f.apart
 sub:=f.sub
 new:=f.new
 notBox:=f.notBox
 stor:=fun a ha=>let ⟨o,h1,h2⟩:=f.stor a ha;⟨o,hk _ _ h1,h2⟩
 frB:=f.frB
 frs:=fun a ha=>let ⟨m,e⟩:=f.frs a ha;⟨m,e.keeps hk⟩
 pin:=fun m e=>⟨(f.pin m e).1.keeps hk,(f.pin m e).2⟩
theorem SR.keepAll(hk:∀ b o,h.get? b=some o→h'.get? b=some o)(r:SR G F β ρ O h):SR G F β ρ O h':=
 ⟨r.br.keepAll hk,r.fm.keepAll hk,fun i x v h1 h2=>let ⟨val,h3,h4⟩:=r.get i x v h1 h2;⟨val,h3.keepAll hk,h4.keepAll hk⟩⟩
end
section
variable{G:Gl}{F:Fm}{s:Shared}{β:List Addr}{ρ:Loc}{O:za}
theorem Does.leaf{α δ:Type}{T:WT α}{d:δ}{Rel:List Addr→Heap→α→δ→Prop}(sr:SR G F β ρ O s.heap)
 (hw:∀ (Q:α→Shared→Prop) (E:Value→Shared→Prop),(∀ v s',KeepsAll s s'→Rel β s'.heap v d→Q v s')→T Q E s) :
 DoesW G F s β T (.ok d (ρ,O)) Rel:=
 fun Q E k=>hw Q E fun v s' ka r=>k s' β v (ka.step _ _) (sr.keepAll ka.kept) r
theorem VR.none{N:List Addr}{h:Heap}:VR G N β h .none (.d .none):=⟨[],.none,fun _ h=>nomatch h⟩
theorem VR.bool{N:List Addr}{h:Heap}{b:Bool}:VR G N β h (.bool b) (.d (.bool b)):=⟨[],.bool b,fun _ h=>nomatch h⟩
theorem VR.int{N:List Addr}{h:Heap}{i:Int}{t:Tok}:VR G N β h (.int i t) (.d (.int i)):=⟨[],.int i t,fun _ h=>nomatch h⟩
theorem VR.str{N:List Addr}{h:Heap}{x:Str}{t:Tok}:VR G N β h (.str x t) (.d (.str x)):=⟨[],.str x t,fun _ h=>nomatch h⟩
end
structure Cx where
 names:List (Option Str)
 sc:Scope
 fname:Nat→Option Str
 gname:Nat→Option Str
 cname:Nat→Option Str
noncomputable def Cx.kind(cx:Cx)(x:Str):Option NameKind:=cx.sc.names.lookup x
noncomputable def wp(x:Str):Bool:=!(x == ("__debug__" : Str))
noncomputable def Cx.isLoc(cx:Cx)(i:Nat)(x:Str):Bool:=(cx.names[i]? == some (some x)) && (cx.kind x == some .local || cx.kind x == some .cell) && wp x
noncomputable def Cx.isGlob(cx:Cx)(x:Str):Bool:=cx.kind x == some .globalImplicit && wp x
noncomputable def zez:Bop→Operator→Bool
 | .add,.Add=>true
 | .sub,.Sub=>true
 | .mul,.Mult=>true
 | .fdiv,.FloorDiv=>true
 | .mod,.Mod=>true
 | .pow,.Pow=>true
 | _,_=>false
noncomputable def x0:Cop→CmpOp→Bool
 | .eq,.Eq=>true
 | .ne,.NotEq=>true
 | .lt,.Lt=>true
 | .le,.LtE=>true
 | .gt,.Gt=>true
 | .ge,.GtE=>true
 | .is,.Is=>true
 | .isnot,.IsNot=>true
 | .in_,.In=>true
 | .notin,.NotIn=>true
 | _,_=>false
noncomputable def vp:Ty→Str
 | .int=>"int"
 | .bool=>"bool"
 | .tuple=>"tuple"
 | .list=>"list"
 | .str=>"str"
noncomputable def wm:Prim→Str
 | .isinst _=>"isinstance"
 | .isexc _=>"isinstance"
 | .len=>"len"
 | .all=>"all"
 | .any=>"any"
 | .sum=>"sum"
 | .sorted=>"sorted"
 | .list=>"list"
 | .tuple=>"tuple"
 | .min2=>"min"
 | .min=>"min"
 | .max=>"max"
 | .int=>"int"
 | .str=>"str"
 | .lenset=>"len"
 | .sortedset=>"sorted"
noncomputable def Prim.plain:Prim→Bool
 | .len | .all | .any | .sum | .sorted | .list | .tuple | .min | .max | .int | .str=>true
 | _=>false
noncomputable def addT:CT→Expr→List (Option Str)→List (Option Str)
 | .name i,.Name x _,l=>if l[i]? == some none then l.set i (some x) else l
 | .two a b,.Tuple [x,y] _ _,l=>addT b y (addT a x l)
 | _,_,l=>l
noncomputable def xg(l:List (Option Str)):Bool:=decide (l.filterMap id).Nodup
noncomputable def chkT(cx:Cx)(own:Str→Bool):CT→Expr→Bool
 | .name i,.Name x _=>cx.isLoc i x && own x
 | .two a b,.Tuple [x,y] _ _=>chkT cx own a x && chkT cx own b y
 | _,_=>false
noncomputable def ownOf(sc:Scope)(x:Str):Bool:=sc.names.lookup x == some .local || sc.names.lookup x == some .cell
noncomputable def za6(scope sc:Scope):Scope:=
 { scope with names:=scope.names.map fun (n,k)=>if (k == .free && sc.kind == .function && sc.names.lookup n == some .cell) then (n,.cell) else (n,k) }
noncomputable def xb(scope sc:Scope):Bool:=
 scope.kind == .function && decide ((scope.names.map (·.1)).Nodup) && scope.names.all fun (n,k)=>k == .local || k == .cell || k == .globalImplicit || (k == .free && sc.names.lookup n == some .cell)
noncomputable def Cx.inner(cx:Cx)(tgt:CT)(t:Expr)(scope:Scope):Cx:=
 { cx with names:=addT tgt t (cx.names.map fun o=>o.filter fun x=>scope.names.lookup x == some .free),sc:=za6 scope cx.sc }
noncomputable def zcg(x:Expr)(ap q:Pos):Bool:=(ap.endLine == q.line) && (match x with
 | .Name _ _=>true
 | .Subscript _ _ _=>true
 | _=>false)
noncomputable def yu(fn:Fn)(names:List Str):List (Option Str):=names.map some++List.replicate (fn.slots - names.length) none
noncomputable def uj(a:Arguments)(names:List Str)(ar:Nat):Bool:=
 a.posonlyargs.isEmpty && a.vararg.isNone && a.kwonlyargs.isEmpty && a.kw_defaults.isEmpty && a.kwarg.isNone && a.defaults.isEmpty && (a.args.map (·.arg) == names.take ar) && a.args.length == ar
noncomputable def zbl(sc:Scope):Bool:=sc.kind == .function && !sc.isGenerator && !sc.isCoroutine && decide ((sc.names.map (·.1)).Nodup) && sc.names.all fun (_,k)=>k == .local || k == .cell || k == .globalImplicit
noncomputable def zhm(fn:Fn)(names:List Str)(a:Arguments)(sc:Scope):Bool:=
 uj a names fn.arity && zbl sc && decide (names.Nodup) && decide (names.length≤fn.slots) && decide (fn.arity≤names.length) && names.all (ownOf sc)
end Mine
end
section
namespace Mine
open PySem PyProof.Rows
structure Room(A:Around)(k:Nat):Prop where
 depth:A.depth+k < 690
 units:A.units+8 * k < 7000
 guards:A.guards=some []
theorem Room.deeper{A:Around}{k:Nat}(r:Room A (k+1))(env:Env):Room (A.deeper env) k:=
 ⟨by have:=r.depth;show A.depth+1+k < 690;omega,by have:=r.units;show A.units+3+8 * k < 7000;omega,r.guards⟩
theorem Room.room{A:Around}{k:Nat}(r:Room A k):A.depth < recursionLimit:=by have:=r.depth;show A.depth < 1000;omega
theorem Room.c{A:Around}{k n:Nat}(r:Room A k)(hn:n≤2000:=by decide):A.units+n < cLine:=by have:=r.units;show A.units+n < 9900;omega
structure Fits(F:Fm)(cx:Cx):Prop where
 names:F.names=cx.names
 kind:∀ x,F.env.kindOf x=cx.kind x
 sck:cx.sc.kind=.function
noncomputable def bis:List (Str×Value):=[("isinstance",.builtin "isinstance"),("len",.builtin "len"),("all",.builtin "all"),("any",.builtin "any"),("sum",.builtin "sum"),("sorted",.builtin "sorted"),("min",.builtin "min"),("max",.builtin "max"),
 ("list",.type "list"),("tuple",.type "tuple"),("int",.type "int"),("str",.type "str"),("set",.type "set"),("bool",.type "bool"),("range",.type "range"),("zip",.type "zip"),("enumerate",.type "enumerate"),("reversed",.type "reversed")]
structure GOk(G:Gl)(gval:Nat→Option PyData)(gname:Nat→Option Str):Prop where
 nolimit:G.h₀.NoLimit
 g:G.h₀.Ns mainGlobals G.mg
 b:G.h₀.Ns builtinsNs G.mb
 gl:∀ k d x,gval k=some d→gname k=some x→∃ v,G.mg x=some v∧Reads G.h₀ v d []
 clsRef:∀ c,∃ C,G.cls c=.ref C
 bi:∀ p∈bis,G.mg p.1=none∧G.mb p.1=some p.2
 digits:∃ mc,G.h₀.Ns cStatics mc∧mc "sys.int_max_str_digits" = none
section
variable{G:Gl}{F:Fm}{A:Around}{s:Shared}{β:List Addr}{ρ:Loc}{O:za}{cx:Cx}{gval:Nat→Option PyData}{gname:Nat→Option Str}
noncomputable abbrev VRel(G:Gl)(F:Fm):List Addr→Heap→Value→V→Prop:=fun β h v d=>VR G F.B β h v d
theorem un{i:Nat}{x:Str}(h:cx.isLoc i x=true):cx.names[i]?=some (some x)∧(cx.kind x=some .local∨cx.kind x=some .cell)∧(x == ("__debug__" : Str))=false:=by
 simp only[Cx.isLoc,wp,Bool.and_eq_true,Bool.or_eq_true,beq_iff_eq,Bool.not_eq_true'] at h
 exact⟨h.1.1,h.1.2,h.2⟩
theorem wv{x:Str}(h:cx.isGlob x=true):cx.kind x=some .globalImplicit∧(x == ("__debug__" : Str))=false:=by
 simp only[Cx.isGlob,wp,Bool.and_eq_true,beq_iff_eq,Bool.not_eq_true'] at h
 exact h
theorem ztb{i:Nat}{x:Str}{p:Pos}(sr:SR G F β ρ O s.heap)(fit:Fits F cx)(h:cx.isLoc i x=true) :
 Does G F A s β (eval (.Name x p) F.env) ((opt (ρ[i]?.join) O).lift ρ) (VRel G F):=by
 obtain⟨h1,h2,h3⟩:=un h
 cases hv:ρ[i]?.join with
 | none=>trivial
 | some v=>
   have hv':ρ[i]?=some (some v):=by
    cases e:ρ[i]? with
    | none=>rw[e] at hv;cases hv
    | some o=>rw[e] at hv;cases o with
      | none=>cases hv
      | some u=>cases hv;rfl
   obtain⟨val,g,r⟩:=sr.get i x v (by rw[fit.names];exact h1) hv'
   refine Does.leaf sr fun Q E k=>?_
   have hq:Q val s:=k val s (KeepsAll.refl s) r
   rcases g with ⟨gk,m,gm,gx⟩ | ⟨gk,c,gc,gx⟩
   ·exact wpAny_Name (wpAny_loadName_local sr.fm.kind gk gm gx hq) h3
   ·exact wpAny_Name (wpAny_loadName_cell sr.fm.kind gk gc gx hq) h3
theorem zbn{x:Str}{p:Pos}{v:Value}{Q:Value→Shared→Prop}{E:Value→Shared→Prop}(g:GOk G gval gname)(sr:SR G F β ρ O s.heap)(fit:Fits F cx)(h:cx.isGlob x=true)(hv:G.mg x=some v)(q:Q v s) :
 wpAny (model G.prog G.w) A (eval (.Name x p) F.env) Q E s:=by
 obtain⟨h1,h2⟩:=wv h
 exact Calls.Name_function_global sr.fm.kind ((fit.kind x).trans h1) (Calls.loadGlobal_global (mg:=G.mg) (by rw[sr.fm.globals];exact g.g.keeps sr.br.keep) hv q) h2
theorem yo{x:Str}{p:Pos}{v:Value}{Q:Value→Shared→Prop}{E:Value→Shared→Prop}(g:GOk G gval gname)(sr:SR G F β ρ O s.heap)(fit:Fits F cx)(h:cx.isGlob x=true)(hm:G.mg x=none)(hv:G.mb x=some v)(q:Q v s) :
 wpAny (model G.prog G.w) A (eval (.Name x p) F.env) Q E s:=by
 obtain⟨h1,h2⟩:=wv h
 exact Calls.Name_function_global sr.fm.kind ((fit.kind x).trans h1) (Calls.loadGlobal_builtin (mg:=G.mg) (mb:=G.mb) (by rw[sr.fm.globals];exact g.g.keeps sr.br.keep) hm (by rw[sr.fm.builtins];exact g.b.keeps sr.br.keep) hv q) h2
theorem zq9{k:Nat}{x:Str}{p:Pos}(g:GOk G gval gname)(sr:SR G F β ρ O s.heap)(fit:Fits F cx)(hk:gname k=some x)(h:cx.isGlob x=true) :
 Does G F A s β (eval (.Name x p) F.env) ((opt ((gval k).map V.d) O).lift ρ) (VRel G F):=by
 cases hd:gval k with
 | none=>trivial
 | some d=>
   obtain⟨v,hv,r⟩:=g.gl k d x hd hk
   refine Does.leaf sr fun Q E q=>zbn g sr fit h hv (q v s (KeepsAll.refl s) ⟨[],z6 sr.br.keep r,fun _ h=>nomatch h⟩)
end
end Mine
end
section
namespace Mine
open PySem
theorem and2{a b:Bool}(h:(a && b)=true):a=true∧b=true:=Bool.and_eq_true_iff.mp h
theorem and3{a b c:Bool}(h:(a && b && c)=true):a=true∧b=true∧c=true:=by
 obtain⟨h1,h2⟩:=and2 h;obtain⟨h3,h4⟩:=and2 h1;exact⟨h3,h4,h2⟩
end Mine
end
section
namespace Mine
open PySem PyProof.Rows
section
variable{G:Gl}{N β:List Addr}{h:Heap}{v:Value}
theorem VR.none_inv(r:VR G N β h v (.d .none)):v=.none:=by obtain⟨_,r,_⟩:=r;cases r;rfl
theorem VR.bool_inv{b:Bool}(r:VR G N β h v (.d (.bool b))):v=.bool b:=by obtain⟨_,r,_⟩:=r;cases r;rfl
theorem VR.int_inv{i:Int}(r:VR G N β h v (.d (.int i))):∃ t,v=.int i t:=by obtain⟨_,r,_⟩:=r;cases r;exact⟨_,rfl⟩
theorem VR.str_inv{x:Str}(r:VR G N β h v (.d (.str x))):∃ t,v=.str x t:=by obtain⟨_,r,_⟩:=r;cases r;exact⟨_,rfl⟩
inductive TupV(h:Heap)(N β:List Addr)(v:Value)(xs:List PyData):Prop
 | mk (a:Addr) (o:Obj) (vs:Array Value) (n:Nat) (hv:v=.ref a) (h1:h.get? a=some o) (h2:o.cls=.type "tuple") (h3:o.data=.seq vs n) (as:List Addr) (h4:ReadsAll h vs.toList xs as) (h5:∀ a∈as,a∉β∧a∉N)
theorem VR.tuple_inv{xs:List PyData}(r:VR G N β h v (.d (.tuple xs))):TupV h N β v xs:=by
 obtain⟨_,r,q⟩:=r
 cases r with
 | tuple h1 h2 h3 h4=>exact⟨_,_,_,_,rfl,h1,h2,h3,_,h4,q⟩
theorem VR.list_inv{xs:List PyData}(r:VR G N β h v (.d (.list xs))):∃ a,v=.ref a∧ListAt h N β a xs∧a∉β∧a∉N:=by
 obtain⟨_,r,q⟩:=r
 cases r with
 | list h1 h2 h3 h4=>exact⟨_,rfl,⟨_,_,_,h1,h2,h3,_,h4,fun a ha=>q a (.tail _ ha)⟩,q _ (.head _)⟩
end
inductive VRs(G:Gl)(N β:List Addr)(h:Heap):List Value→List V→Prop
 | nil:VRs G N β h [] []
 | cons {v:Value} {d:V} {vs:List Value} {ds:List V}:VR G N β h v d→VRs G N β h vs ds→VRs G N β h (v::vs) (d::ds)
section
variable{G:Gl}{N β:List Addr}{h:Heap}
theorem VRs.length{vs:List Value}{ds:List V}(r:VRs G N β h vs ds):vs.length=ds.length:=by
 induction r with
 | nil=>rfl
 | cons _ _ ih=>simp[ih]
set_option tactic.hygienic true in
theorem VRs.data{vs:List Value}{ds:List V}(r:VRs G N β h vs ds):∀ {xs:List PyData},allD ds=some xs→∃ as,ReadsAll h vs xs as∧∀ a∈as,a∉β∧a∉N:=by
 induction r with
 | nil=>intro xs e;cases e;exact⟨[],.nil,fun _ h=>nomatch h⟩
 | cons r _ ih=>
   rename_i v d vs ds _
   intro xs e
   cases d with
   | d x=>
     simp only[allD,Option.map_eq_some_iff] at e
     obtain⟨ys,e1,rfl⟩:=e
     obtain⟨as,r1,q1⟩:=r
     obtain⟨bs,r2,q2⟩:=ih e1
     exact⟨as++bs,.cons r1 r2,fun a ha=>(List.mem_append.mp ha).elim (q1 a) (q2 a)⟩
   | box n=>cases e
   | tm n=>cases e
set_option tactic.hygienic true in
theorem VRs.its{vs:List Value}{ds:List V}(r:VRs G N β h vs ds):∀ {is:List It},allI ds=some is→ItsR N β h vs is:=by
 induction r with
 | nil=>intro xs e;cases e;exact .nil
 | cons r _ ih=>
   rename_i v d vs ds _
   intro xs e
   cases d with
   | d x=>
     simp only[allI,Option.map_eq_some_iff] at e
     obtain⟨ys,e1,rfl⟩:=e
     obtain⟨as,r1,q1⟩:=r
     exact .x r1 q1 (ih e1)
   | box n=>
     simp only[allI,Option.map_eq_some_iff] at e
     obtain⟨ys,e1,rfl⟩:=e
     obtain⟨a,h1,rfl⟩:=r
     exact .b h1 (ih e1)
   | tm n=>cases e
end
section
variable{G:Gl}{F:Fm}{β β':List Addr}{O:za}{s s':Shared}
theorem VRs.step(b:BR G F.B β O s.heap)(f:FmOk G F β s.heap)(st:Step F.W β s s' β'){vs:List Value}{ds:List V}(r:VRs G F.B β s.heap vs ds):VRs G F.B β' s'.heap vs ds:=by
 induction r with
 | nil=>exact .nil
 | cons r _ ih=>exact .cons (r.step b f st) ih
end
theorem xm{e:Expr}(h:∀ l k p,e≠.Set l k p)(op:CmpOp):behindInMarks op e=false:=by
 cases e <;> first | rfl | exact absurd rfl (h _ _ _)
theorem qe{e:Expr}(h:∀ l k p,e≠.Set l k p)(env:Env)(x:Value):foldedSetIterable e env x=pure x:=by
 cases e <;> first | rfl | exact absurd rfl (h _ _ _)
section
variable{G:Gl}{F:Fm}{A:Around}{s:Shared}{β:List Addr}{ρ:Loc}{O:za}
noncomputable abbrev VRsl(G:Gl)(F:Fm):List Addr→Heap→List Value→List V→Prop:=fun β h v d=>VRs G F.B β h v d
theorem xh{pos:Pos}(sr:SR G F β ρ O s.heap):Does G F A s β (spliced (backTo pos (starEach [] F.env))) ((R.ok ([]:List V) O).lift ρ) (VRsl G F):=
 Does.leaf sr fun Q E k=>wpAny_items_nil (k _ _ (KeepsAll.refl s) .nil)
theorem yq{pos:Pos}{e:Expr}{rest:List Expr}{r:R za V}{g:za→R za (List V)}
 (he:starEach (e::rest) F.env=(false,eval e F.env)::starEach rest F.env)
 (h1:Does G F A s β (eval e F.env) (r.lift ρ) (VRel G F))
 (h2:∀ s' β' O',SR G F β' ρ O' s'.heap→Does G F A s' β' (spliced (backTo pos (starEach rest F.env))) ((g O').lift ρ) (VRsl G F)) :
 Does G F A s β (spliced (backTo pos (starEach (e::rest) F.env))) ((r.bind fun v O=>(g O).bind fun vs O=>.ok (v::vs) O).lift ρ) (VRsl G F):=by
 refine DoesW.seqE (T₂:=fun v Q E s'=>wpAny (model G.prog G.w) A (spliced (backTo pos (starEach rest F.env))) (fun vs s₂=>Q (v::vs) s₂) E s') (fun Q E h=>wpAny_items_cons h he) h1 fun s' β' v d O' _ st sr' rv=>?_
 refine DoesW.seqE (T₁:=tr G A (spliced (backTo pos (starEach rest F.env)))) (T₂:=fun vs Q E s'=>Q (v::vs) s') (fun Q E h=>h) (h2 s' β' O' sr') fun s₂ β₂ vs ds O₂ _ st₂ sr₂ rvs=>?_
 exact Does.leaf sr₂ fun Q E k=>k _ _ (KeepsAll.refl s₂) (.cons (rv.step sr'.br sr'.fm st₂) rvs)
theorem SR.push{h:Heap}(sr:SR G F β ρ O h)(o:Obj):SR G F β ρ O (h.push o):=sr.keepAll fun _ _ e=>Heap.get?_push_of_some o e
theorem wo{h:Heap}{l:List Addr}(al:∀ a∈l,∃ o,h.get? a=some o):h.objs.size∉l:=fun hm=>by
 obtain⟨o,e⟩:=al _ hm
 exact Nat.lt_irrefl _ (Heap.lt_size e)
theorem SR.size_new{h:Heap}(sr:SR G F β ρ O h):h.objs.size∉β∧h.objs.size∉F.B:=
 ⟨wo fun a ha=>let ⟨o,e,_⟩:=sr.br.alive a ha;⟨o,e⟩,wo fun a ha=>let ⟨o,e,_⟩:=sr.fm.stor a ha;⟨o,e⟩⟩
theorem zb0{vs:List Value}{ds:List V}{d:V}(r:VRs G F.B β s.heap vs ds)(e:tupV ds=some d) :
 VR G F.B β (s.heap.push { cls:=.type "tuple",data:=.seq vs.toArray }) (.ref s.heap.objs.size) d:=by
 have hk:∀ b o,s.heap.get? b=some o→(s.heap.push { cls:=.type "tuple",data:=.seq vs.toArray }).get? b=some o:=fun _ _ e=>Heap.get?_push_of_some _ e
 unfold tupV at e
 cases hd:allD ds with
 | some xs=>
   rw[hd] at e;cases e
   obtain⟨as,r1,q⟩:=r.data hd
   exact⟨as,.tuple (Heap.get?_push_size _ rfl) rfl rfl (zy hk r1),q⟩
 | none=>
   rw[hd] at e
   simp only[Option.map_eq_some_iff] at e
   obtain⟨is,e1,rfl⟩:=e
   exact⟨_,_,_,_,rfl,Heap.get?_push_size _ rfl,rfl,rfl,wu hk (r.its e1)⟩
theorem zc4{vs:List Value}{ds:List V}{xs:List PyData}{ρ:Loc}{O:za}(sr:SR G F β ρ O s.heap)(r:VRs G F.B β s.heap vs ds)(e:allD ds=some xs) :
 VR G F.B β (s.heap.push { cls:=.type "list",data:=.seq vs.toArray }) (.ref s.heap.objs.size) (.d (.list xs)):=by
 obtain⟨as,r1,q⟩:=r.data e
 refine⟨_::as,.list (Heap.get?_push_size _ rfl) rfl rfl (zy (fun _ _ e=>Heap.get?_push_of_some _ e) r1),fun a ha=>?_⟩
 rcases List.mem_cons.mp ha with rfl | ha
 ·exact sr.size_new
 ·exact q a ha
theorem zs7{elts:List Expr}{k:Nat}{pos:Pos}{r:R za (List V)}(hl:∀ vs O,r=.ok vs O→vs.length≤line)
 (h1:Does G F A s β (spliced (backTo pos (starEach elts F.env))) (r.lift ρ) (VRsl G F)) :
 Does G F A s β (eval (.Tuple elts k pos) F.env) ((r.bind fun vs O=>opt (tupV vs) O).lift ρ) (VRel G F):=by
 refine DoesW.seqE (T₂:=fun vs Q E s₁=>vs.length≤sizeLine∧Q (.ref s₁.heap.objs.size) { s₁ with heap:=s₁.heap.push { cls:=.type "tuple",data:=.seq vs.toArray } }) (fun Q E h=>wpAny_Tuple h) h1 fun s' β' vs ds O' e st sr rv=>?_
 cases hd:tupV ds with
 | none=>trivial
 | some d=>
   have hz:vs.length≤sizeLine:=by rw[rv.length];exact Nat.le_trans (hl _ _ e) (by decide)
   exact Does.leaf sr fun Q E q=>⟨hz,q _ _ (KeepsAll.push s' _ _) (zb0 rv hd)⟩
end
section
variable{G:Gl}{F:Fm}{A:Around}{s:Shared}{β:List Addr}{ρ:Loc}{O:za}
theorem ul{N:List Addr}{h:Heap}(b:BR G N β O h){n:Nat}{a:Addr}{x:PyData}(ha:β[n]?=some a)(e:kr O n=some x):∃ xs,x=.list xs∧ListAt h N β a xs:=by
 unfold kr at e
 cases ho:O[n]? with
 | none=>rw[ho] at e;cases e
 | some bx=>
   rw[ho] at e
   cases bx with
   | lst xs=>cases e;exact⟨xs,rfl,b.at_ n a _ ha ho⟩
   | dct kvs=>cases e
theorem ListAt.reads{N:List Addr}{h:Heap}{a:Addr}{xs:List PyData}(l:ListAt h N β a xs):∃ as,Reads h (.ref a) (.list xs) (a::as)∧∀ b∈as,b∉β∧b∉N:=by
 obtain⟨o,vs,n,h1,h2,h3,as,h4,h5⟩:=l
 exact⟨as,.list h1 h2 h3 h4,h5⟩
theorem v6(sr:SR G F β ρ O s.heap){v:Value}{d:V}(r:VR G F.B β s.heap v d){x:PyData}(e:look O d=some x):∃ as,Reads s.heap v x as:=by
 cases d with
 | d y=>cases e;obtain⟨as,r,_⟩:=r;exact⟨as,r⟩
 | box n=>
   obtain⟨a,ha,rfl⟩:=r
   obtain⟨xs,rfl,l⟩:=ul sr.br ha e
   obtain⟨as,r,_⟩:=l.reads
   exact⟨_,r⟩
 | tm n=>cases e
theorem yf(sr:SR G F β ρ O s.heap){v:Value}{d:V}(r:VR G F.B β s.heap v d){xs:List PyData}(e:look O d=some (.list xs)):∃ a,v=.ref a∧ListAt s.heap F.B β a xs:=by
 cases d with
 | d y=>cases e;obtain⟨a,h1,h2,_⟩:=r.list_inv;exact⟨a,h1,h2⟩
 | box n=>
   obtain⟨a,ha,rfl⟩:=r
   obtain⟨ys,e',l⟩:=ul sr.br ha e
   cases e'
   exact⟨a,rfl,l⟩
 | tm n=>cases e
theorem ym{d:V}{x:PyData}(e:look O d=some x)(hx:∀ xs,x≠.list xs):d=.d x:=by
 cases d with
 | d y=>cases e;rfl
 | box n=>
   exfalso
   simp only[look,kr] at e
   cases ho:O[n]? with
   | none=>rw[ho] at e;cases e
   | some bx=>
     rw[ho] at e
     cases bx with
     | lst xs=>cases e;exact hx _ rfl
     | dct kvs=>cases e
 | tm n=>cases e
set_option tactic.hygienic true in
theorem zii{v:Value}{x:PyData}{b:Bool}{as:List Addr}(r:Reads s.heap v x as):isSame v (.bool b)=pure (isBool b x):=by
 cases r <;> first | rfl | (rename_i c;cases b <;> cases c <;> rfl)
theorem zgb{v:Value}{x:PyData}{as:List Addr}(r:Reads s.heap v x as):isSame v .none=pure (isNone x):=by cases r <;> rfl
theorem zm6(sr:SR G F β ρ O s.heap){v u:Value}{x y:PyData}{b:Bool}(rv:VR G F.B β s.heap v (.d x))(ru:VR G F.B β s.heap u (.d y))(e:isop x y=some b):isSame v u=pure b:=by
 obtain⟨as,r,_⟩:=rv
 cases y <;> first | (cases e;done) | skip
 ·have:=ru.none_inv;subst this
  rw[← Option.some.inj e];exact zgb r
 ·have:=ru.bool_inv;subst this
  rw[← Option.some.inj e];exact zii r
theorem zmr{f:Int→Int→Bool}{x y:PyData}{b:Bool}(e:ordD f x y=some b):∃ i j,x=.int i∧y=.int j∧f i j=b:=by
 cases x <;> first | (cases e;done) | skip
 cases y <;> first | (cases e;done) | skip
 exact⟨_,_,rfl,rfl,Option.some.inj e⟩
theorem zk4{x y:PyData}{c b:Bool}(e:(if eqOk x y then some c else none)=some b):(x.canLay0=true∧y.canLay0=true)∧min x.depth y.depth≤100∧c=b:=by
 by_cases h:eqOk x y=true
 ·rw[if_pos h] at e
  have h':=h
  simp only[eqOk,Bool.and_eq_true,decide_eq_true_eq] at h'
  exact⟨h'.1,h'.2,Option.some.inj e⟩
 ·rw[if_neg h] at e;cases e
theorem zm7{x:PyData}{xs:List PyData}{b:Bool}(e:inD x xs=some b):(x.canLay0=true∧PyData.canLayAll0 xs=true)∧x.depth≤100∧(xs.any fun y=>PyData.eqv y x)=b:=by
 unfold inD at e
 by_cases h:(x.canLay0 && PyData.canLayAll0 xs && decide (x.depth≤100))=true
 ·rw[if_pos h] at e
  have h':=h
  simp only[Bool.and_eq_true,decide_eq_true_eq] at h'
  exact⟨h'.1,h'.2,Option.some.inj e⟩
 ·rw[if_neg h] at e;cases e
theorem zjp{y:PyData}{xs:List PyData}(e:seqD y=some xs):y=.list xs∨y=.tuple xs:=by
 cases y <;> first | (cases e;done) | skip
 ·cases e;exact .inl rfl
 ·cases e;exact .inr rfl
theorem zko{x y:PyData}{b:Bool}(e:(seqD y).bind (inD x)=some b):∃ xs,(y=.list xs∨y=.tuple xs)∧(x.canLay0=true∧PyData.canLayAll0 xs=true)∧x.depth≤100∧(xs.any fun y=>PyData.eqv y x)=b:=by
 cases h:seqD y with
 | none=>rw[h] at e;cases e
 | some xs=>rw[h] at e;exact⟨xs,zjp h,zm7 e⟩
noncomputable def Cop.op:Cop→CmpOp
 | .eq=>.Eq
 | .ne=>.NotEq
 | .lt=>.Lt
 | .le=>.LtE
 | .gt=>.Gt
 | .ge=>.GtE
 | .is=>.Is
 | .isnot=>.IsNot
 | .in_=>.In
 | .notin=>.NotIn
theorem zrh{op:Cop}{o:CmpOp}(h:x0 op o=true):o=op.op:=by cases op <;> cases o <;> first | rfl | exact (Bool.false_ne_true h).elim
theorem qy{f:Int→Int→Bool}{v u:Value}{x y:PyData}{as bs:List Addr}{b:Bool}(rv:Reads s.heap v x as)(ru:Reads s.heap u y bs)(e:ordD f x y=some b):∃ i j t t',v=.int i t∧u=.int j t'∧f i j=b:=by
 obtain⟨i,j,rfl,rfl,rfl⟩:=zmr e
 cases rv;cases ru
 exact⟨_,_,_,_,rfl,rfl,rfl⟩
theorem zlo{op:Cop}{o:CmpOp}{v u:Value}{x y:PyData}{as bs:List Addr}{b:Bool}{Q:Value→Shared→Prop}{E:Value→Shared→Prop}{k:Nat}(ro:Room A k)(ho:x0 op o=true)
 (rv:Reads s.heap v x as) (ru:Reads s.heap u y bs) (e:vj op x y=some b) (q:Q (.bool b) s):wpAny (model G.prog G.w) A (compareOp o v u) Q E s:=by
 have hu:=ro.c (n:=200)
 rw[zrh ho]
 clear ho ro
 have hle:∀ {a:Nat},a≤100→A.units+a < cLine:=fun h=>Nat.lt_of_le_of_lt (Nat.add_le_add_left (Nat.le_trans h (by decide)) _) hu
 cases op with
 | eq=>
   obtain⟨⟨h1,h2⟩,h3,rfl⟩:=zk4 e
   exact SeqAt.compareEq_reads rv ru h1 h2 (hle h3) q
 | ne=>
   obtain⟨⟨h1,h2⟩,h3,rfl⟩:=zk4 e
   exact SeqAt.compareNe_reads rv ru h1 h2 (hle h3) q
 | lt=>
   obtain⟨i,j,t,t',rfl,rfl,rfl⟩:=qy rv ru e
   exact wpAny_lt_int q
 | le=>
   obtain⟨i,j,t,t',rfl,rfl,rfl⟩:=qy rv ru e
   exact le_int q
 | gt=>
   obtain⟨i,j,t,t',rfl,rfl,rfl⟩:=qy rv ru e
   exact PySem.P.gt_int q
 | ge=>
   obtain⟨i,j,t,t',rfl,rfl,rfl⟩:=qy rv ru e
   exact PySem.P.ge_int q
 | is=>cases e
 | isnot=>cases e
 | in_=>
   obtain⟨xs,hy,⟨h1,h2⟩,h3,rfl⟩:=zko e
   rcases hy with rfl | rfl
   ·exact SeqAt.in_list_reads ru rv h2 h1 (by omega) q
   ·exact SeqAt.in_tuple_reads ru rv h2 h1 (by omega) q
 | notin=>
   obtain⟨c,e1,rfl⟩:=Option.map_eq_some_iff.mp e
   obtain⟨xs,hy,⟨h1,h2⟩,h3,rfl⟩:=zko e1
   rcases hy with rfl | rfl
   ·exact SeqAt.notIn_list_reads ru rv h2 h1 (by omega) q
   ·exact SeqAt.notIn_tuple_reads ru rv h2 h1 (by omega) q
end
structure KeepsL(L:Addr)(s s':Shared):Prop where
 gens:s'.gens=s.gens
 os:s'.os=s.os
 kept:∀ b o,b≠L→s.heap.get? b=some o→s'.heap.get? b=some o
 ns:∀ m,s.heap.Ns L m→s'.heap.Ns L m
section
variable{G:Gl}{F:Fm}{β:List Addr}{ρ:Loc}{O:za}{s s':Shared}
theorem KeepsL.step(x:KeepsL F.env.locals s s')(f:FmOk G F β s.heap):Step F.W β s s' β where
 gens:=x.gens
 os:=x.os
 pre:=List.prefix_refl _
 fresh:=fun _ h=>.inl h
 alive:=fun b o e=>by
  by_cases hb:b=F.env.locals
  ·subst hb
   obtain⟨m,hm⟩:=f.ns
   obtain⟨o',_,_,h,_⟩:=x.ns m hm
   exact⟨o',h⟩
  ·exact⟨o,x.kept b o hb e⟩
 kept:=fun b o e _ hW=>⟨o,x.kept b o (fun h=>hW (h ▸ f.nsW)) e,Kin.refl o⟩
theorem SR.keepL(x:KeepsL F.env.locals s s')(r:SR G F β ρ O s.heap):SR G F β ρ O s'.heap:=by
 have st:=x.step r.fm
 have nL:F.env.locals∈F.B:=r.fm.sub _ r.fm.nsW
 have ne:∀ {a:Addr},a∈β→a≠F.env.locals:=fun ha e=>r.fm.notBox _ nL (e ▸ ha)
 refine⟨⟨fun c o e=>x.kept c o (fun h=>?_) (r.br.keep c o e),r.br.len,r.br.nodup,r.br.new,fun i a bx h1 h2=>?_,fun a ha=>(r.br.plain a ha).at fun o e=>x.kept a o (ne ha) e⟩,⟨r.fm.kind,r.fm.globals,r.fm.builtins,r.fm.once,?_,r.fm.nsW,?_,r.fm.apart,r.fm.sub,r.fm.new,r.fm.notBox,?_,r.fm.frB,fun a ha=>?_,fun m e=>⟨x.ns m (r.fm.pin m e).1,(r.fm.pin m e).2⟩⟩,fun i y v h1 h2=>?_⟩
 ·have:=r.fm.newW r.fm.nsW
  rw[← h,e] at this;cases this
 ·have hb:=r.br.at_ i a bx h1 h2
  have hne:=ne (List.mem_of_getElem? h1)
  cases bx with
  | lst xs=>
    obtain⟨o,vs,n,e1,e2,e3,as,e4,e5⟩:=hb
    exact⟨o,vs,n,x.kept _ _ hne e1,e2,e3,as,(zx r.br r.fm st e4 e5).1,e5⟩
  | dct kvs=>
    obtain⟨o,es,n,e1,e2,e3,e4,e5⟩:=hb
    refine⟨o,es,n,x.kept _ _ hne e1,e2,e3,e4,fun i e kv he hkv=>?_⟩
    obtain⟨hq,as,bs,r1,r2,q⟩:=e5 i e kv he hkv
    exact⟨hq,as,bs,(z8 r.br r.fm st r1 fun a ha=>q a (List.mem_append_left _ ha)).1,(z8 r.br r.fm st r2 fun a ha=>q a (List.mem_append_right _ ha)).1,q⟩
 ·obtain⟨m,hm⟩:=r.fm.ns;exact⟨m,x.ns m hm⟩
 ·intro y h1
  obtain⟨c,v,h3,⟨o,h4,h4'⟩,h5⟩:=r.fm.cell y h1
  refine⟨c,v,h3,⟨o,x.kept _ _ (fun h=>?_) h4,h4'⟩,h5⟩
  obtain⟨m,o',es,ep,q1,q2,_⟩:=r.fm.ns
  rw[h] at h4;rw[h4] at q1;cases q1;rw[h4'] at q2;cases q2
 ·intro a ha
  obtain⟨o,h1,h2⟩:=r.fm.stor a ha
  by_cases hb:a=F.env.locals
  ·subst hb
   obtain⟨m,hm⟩:=r.fm.ns
   obtain⟨o',es,ep,h,hd,_⟩:=x.ns m hm
   exact⟨o',h,fun vs n hv=>by rw[hd] at hv;cases hv⟩
  ·exact⟨o,x.kept _ _ hb h1,h2⟩
 ·obtain⟨m,hm⟩:=r.fm.frs a ha
  by_cases hb:a=F.env.locals
  ·subst hb;exact⟨m,x.ns m hm⟩
  ·obtain⟨o,es,ep,h1,h2⟩:=hm
   exact⟨m,o,es,ep,x.kept _ _ hb h1,h2⟩
 ·obtain⟨val,g,rv⟩:=r.get i y v h1 h2
  refine⟨val,?_,rv.step r.br r.fm st⟩
  rcases g with ⟨g1,m,g2,g3⟩ | ⟨g1,c,g2,o,g3,g4⟩
  ·exact .inl ⟨g1,m,x.ns m g2,g3⟩
  ·refine .inr ⟨g1,c,g2,o,x.kept _ _ (fun h=>?_) g3,g4⟩
   obtain⟨m,o',es,ep,q1,q2,_⟩:=r.fm.ns
   rw[h] at g3;rw[g3] at q1;cases q1;rw[g4] at q2;cases q2
theorem Does.leafL{α δ:Type}{T:WT α}{d:δ}{Rel:List Addr→Heap→α→δ→Prop}(sr:SR G F β ρ O s.heap)
 (hw:∀ (Q:α→Shared→Prop) (E:Value→Shared→Prop),(∀ v s',KeepsL F.env.locals s s'→Rel β s'.heap v d→Q v s')→T Q E s) :
 DoesW G F s β T (.ok d (ρ,O)) Rel:=
 fun Q E k=>hw Q E fun v s' ka r=>k s' β v (ka.step sr.fm) (sr.keepL ka) r
end
noncomputable def vb(h:Heap)(L:Addr):Heap:={ objs:=h.objs.extract 0 L,life:=h.life }
theorem u9{h:Heap}{L a:Addr}:(vb h L).get? a=if a < L then h.get? a else none:=by
 have e:(h.objs.extract 0 L)[a]?=if a < L then h.objs[a]? else none:=by
  rw[Array.getElem?_extract]
  generalize h.objs=x
  have key:∀ (n L a:Nat),(a < min L n - 0)↔(a < L∧a < n):=fun n L a=>by rw[Nat.sub_zero];exact Nat.lt_min
  by_cases h1:a < L
  ·by_cases h2:a < x.size
   ·rw[if_pos ((key _ _ _).mpr ⟨h1,h2⟩),if_pos h1,Nat.zero_add]
   ·rw[if_neg (fun q=>h2 ((key _ _ _).mp q).2),if_pos h1,Array.getElem?_eq_none (Nat.not_lt.mp h2)]
  ·rw[if_neg (fun q=>h1 ((key _ _ _).mp q).1),if_neg h1]
 unfold Heap.get? vb
 dsimp only
 rw[e]
 by_cases h1:a < L
 ·rw[if_pos h1,if_pos h1]
 ·rw[if_neg h1,if_neg h1]
noncomputable def newsOf(h:Heap)(L:Addr):List (Addr×Obj):=(List.range h.objs.size).filterMap fun a=>if L < a then (h.get? a).map fun o=>(a,o) else none
set_option tactic.hygienic true in
theorem mem_newsOf{h:Heap}{L:Addr}{p:Addr×Obj}:p∈newsOf h L↔L < p.1∧h.get? p.1=some p.2:=by
 unfold newsOf
 rw[List.mem_filterMap]
 constructor
 ·rintro⟨a,_,e⟩
  split at e
  ·rename_i hl
   rw[Option.map_eq_some_iff] at e
   obtain⟨o,e1,rfl⟩:=e
   exact⟨hl,e1⟩
  ·cases e
 ·rintro⟨h1,h2⟩
  exact⟨p.1,List.mem_range.mpr (Heap.lt_size h2),by rw[if_pos h1,h2];rfl⟩
theorem zgn{h:Heap}{L:Addr}{m:Str→Option Value}(hn:h.Ns L m):Fr (vb h L) L h m∧News (vb h L) L h (newsOf h L):=by
 refine⟨⟨hn,fun b o e=>?_,?_⟩,fun p hp=>?_⟩
 ·rw[u9] at e;split at e
  ·exact e
  ·cases e
 ·show (h.objs.extract 0 L).size≤L
  rw[Array.size_extract];omega
 ·obtain⟨h1,h2⟩:=mem_newsOf.mp hp
  exact⟨h2,Nat.ne_of_gt h1,by rw[u9,if_neg (Nat.not_lt.mpr (Nat.le_of_lt h1))]⟩
theorem zba{h:Heap}{L:Addr}{m m':Str→Option Value}(x:h.Ns L m)(y:h.Ns L m'):m=m':=by
 obtain⟨o,es,ep,h1,h2,_,h3⟩:=x
 obtain⟨o',es',ep',h1',h2',_,h3'⟩:=y
 rw[h1] at h1';cases h1'
 rw[h2] at h2';cases h2'
 funext z
 rw[← h3,← h3']
theorem qn{s:Shared}{L:Addr}{m:Str→Option Value}{h':Heap}{news':List (Addr×Obj)}{tk:Nat}{dr:Drawn}(hn:s.heap.Ns L m)(f:Fr (vb s.heap L) L h' m)(n:News (vb s.heap L) L h' news')(hs:∀ p∈newsOf s.heap L,p∈news') :
 KeepsL L s { s with heap:=h',toks:=tk,drawn:=dr } where
 gens:=rfl
 os:=rfl
 kept:=fun b o hb e=>by
  rcases Nat.lt_or_ge b L with h | h
  ·exact f.keep b o (by rw[u9,if_pos h];exact e)
  ·exact (n (b,o) (hs _ (mem_newsOf.mpr ⟨Nat.lt_of_le_of_ne h (Ne.symm hb),e⟩))).1
 ns:=fun m' hm=>by rw[zba hm hn];exact f.ns
theorem gq(items:Array Value)(k:Nat):(List.replicate k items).foldl (fun x1 x2=>x1++x2) #[]=(List.replicate k items.toList).flatten.toArray:=by
 have:∀ (acc:Array Value),(List.replicate k items).foldl (fun x1 x2=>x1++x2) acc=(acc.toList++(List.replicate k items.toList).flatten).toArray:=by
  induction k with
  | zero=>intro acc;simp
  | succ k ih=>intro acc;rw[List.replicate_succ,List.foldl_cons,ih];simp[List.replicate_succ]
 rw[this];simp
theorem uy(l:Addr)(items:Array Value)(n:Nat)(d:Option Addr)(sl:Array (Option Value))(x:Int)(u:Tok)(h0:items.isEmpty=false)(h2:2≤x)(hx:x≤256)(hz:items.size * x.toNat≤256) :
 Meets (Builtin.«tuple.__mul__» ⟨[.ref l,.int x u],[]⟩) (fun _ R s=>s.heap.get? l=some { cls:=.type "tuple",dict:=d,data:=.seq items n,slots:=sl }∧R (.ok (.ret (Value.ref s.heap.objs.size))) { s with heap:=s.heap.push { cls:=Value.type "tuple",data:=Data.seq (List.foldl (fun x1 x2=>x1++x2) #[] (List.replicate x.toNat items)) },toks:=s.toks }):=
 .of_wp fun prog w A R s h=>by
  obtain⟨hp,g,d,tk,os⟩:=s;obtain⟨hl,h⟩:=h
  have c1:¬ (decide (x < -(2 ^ 63)) || decide (x ≥ 2 ^ 63))=true:=by simp;omega
  have c2:¬ (items.isEmpty || x == 1)=true:=by simp[h0];omega
  have c3:¬ (decide (x≤0) || items.isEmpty)=true:=by simp[h0];omega
  have hz':(items.size:Int) * x≤256:=by
   have:(items.size:Int) * x=((items.size * x.toNat:Nat):Int):=by rw[Int.natCast_mul];congr 1;omega
   rw[this];omega
  generalize hy:(items.size:Int) * x=y at hz'
  have c4:¬ (y > (2 ^ 63 - 1) / 8):=by omega
  have c5:¬ Builtin.Tuple.tupleTooMany y=true:=by
   simp only[Builtin.Tuple.tupleTooMany,decide_eq_true_eq]
   show ¬ y > ((2 ^ 24:Nat):Int)
   omega
  subst hy
  have c6:¬ ((List.replicate x.toNat items).foldl (fun x1 x2=>x1++x2) #[]).size > sizeLine:=by
   rw[gq];simp[sizeLine];rw[Nat.mul_comm];omega
  wp_walk
  rw[if_neg c1]
  wp_walk
  rw[if_neg c2]
  wp_walk
  rw[if_neg c3]
  wp_walk
  rw[if_neg c4]
  wp_walk
  exact⟨_,rfl,h⟩
theorem pn:fillsNumberSlot (.type "tuple") "mul" = pure false:=
 PySem.fillsNumberSlot_seq (id:="tuple.__mul__") (r:=some (.builtin "tuple.__rmul__")) F.slot_tuple_mul.lookup (by decide +kernel) F.slot_tuple_rmul.lookup (by decide +kernel)
theorem zb8:seqRepeat? (.type "tuple")=pure (some (.builtin "tuple.__mul__")):=by
 unfold seqRepeat?
 rw [PySem.seqSlot_of (T:="tuple") (name:="__mul__") (id:="tuple.__mul__") F.slot_tuple_mul.lookup (by decide +kernel),PySem.seqSlot_of (T:="tuple") (name:="__rmul__") (id:="tuple.__rmul__") F.slot_tuple_rmul.lookup (by decide +kernel)]
 rfl
theorem pe(a:Int)(t:Tok)(l:Addr)(items:Array Value)(n:Nat)(d:Option Addr)(sl:Array (Option Value)) :
 Meets (Builtin.«int.__rmul__» ⟨[.int a t,.ref l],[]⟩) (fun _ R s=>s.heap.get? l=some { cls:=.type "tuple",dict:=d,data:=.seq items n,slots:=sl }∧R (.ok (.ret Value.notImplemented)) s):=
 .of_wp fun prog w A R s h=>by obtain⟨hp,g,d,tk,os⟩:=s;obtain⟨hl,h⟩:=h;wp_walk;exact⟨_,rfl,h⟩
theorem zh6{prog:Program}{w:World}{A:Around}{E:Value→Shared→Prop}{s:Shared}{l:Addr}{o:Obj}{items:Array Value}{k:Nat}{x:Int}{u:Tok}{Q:Value→Shared→Prop}(ho:s.heap.get? l=some o)(hc:o.cls=.type "tuple")(hd:o.data=.seq items k)
 (h0:items.isEmpty=false) (h2:2≤x) (hx:x≤256) (hz:items.size * x.toNat≤256)
 (h:Q (.ref s.heap.objs.size) { s with heap:=s.heap.push { cls:=Value.type "tuple",data:=Data.seq (List.replicate x.toNat items.toList).flatten.toArray } }):wpAny (model prog w) A (binaryOp .Mult (.ref l) (.int x u)) Q E s:=by
 obtain⟨cls,d,data,sl⟩:=o
 simp only at hc hd
 subst hc hd
 refine wpAny_binaryOp_repeat_ref (T:="tuple") (U:="int") (by decide) ⟨_,ho,rfl⟩ (fun s'=>typeIs_int s' x u) pn F.fills_int_mul F.slot_int_rmul zb8 F.slot_int_index.lookup
  (call_meets F.slot_int_rmul (typeIs_int s x u) F.entry_int_rmul (F.args_int_rmul_2 _ _) (pe x u l items k d sl)
    ⟨ho,rfl,⟨_,ho,rfl⟩,call_meets F.slot_tuple_mul ⟨_,ho,rfl⟩ F.entry_tuple_mul (F.args_tuple_mul_2 _ _) (uy l items k d sl x u h0 h2 hx hz) ⟨ho,?_⟩⟩)
 rw[gq];exact h
theorem z9{h:Heap}{motive:List Value→List PyData→List Addr→Prop}(nil:motive [] [] [])(cons:∀ {v:Value} {d:PyData} {as:List Addr} {vs:List Value} {ds:List PyData} {bs:List Addr},Reads h v d as→ReadsAll h vs ds bs→motive vs ds bs→motive (v::vs) (d::ds) (as++bs))
 {vs:List Value} {xs:List PyData} {as:List Addr} (r:ReadsAll h vs xs as):motive vs xs as:=
 ReadsAll.rec (motive_1:=fun _ _ _ _=>True) (motive_2:=fun vs xs as _=>motive vs xs as)
  trivial (fun _=>trivial) (fun _ _=>trivial) (fun _ _=>trivial) (fun _ _ _ _ _=>trivial) (fun _ _ _ _ _=>trivial) (fun _ _ _ _ _ _ _=>trivial) nil (fun r rs _ ih=>cons r rs ih) r
theorem y5{h:Heap}{vs ws:List Value}{xs ys:List PyData}{as bs:List Addr}(r:ReadsAll h vs xs as)(r':ReadsAll h ws ys bs):ReadsAll h (vs++ws) (xs++ys) (as++bs):=
 z9 (motive:=fun vs xs as=>ReadsAll h (vs++ws) (xs++ys) (as++bs)) r' (fun r _ ih=>by rw[List.append_assoc];exact .cons r ih) r
theorem wj{h:Heap}{vs:List Value}{xs:List PyData}{as:List Addr}{P:Addr→Prop}(r:ReadsAll h vs xs as)(q:∀ a∈as,P a)(k:Nat):∃ bs,ReadsAll h (List.replicate k vs).flatten (List.replicate k xs).flatten bs∧∀ a∈bs,P a:=by
 induction k with
 | zero=>exact⟨[],.nil,fun _ h=>nomatch h⟩
 | succ k ih=>
   obtain⟨bs,r',q'⟩:=ih
   refine⟨as++bs,?_,fun a ha=>(List.mem_append.mp ha).elim (q a) (q' a)⟩
   simpa [List.replicate_succ] using y5 r r'
theorem zf{h:Heap}{vs:List Value}{xs:List PyData}{as:List Addr}(r:ReadsAll h vs xs as):vs.length=xs.length:=
 z9 (motive:=fun vs xs _=>vs.length=xs.length) rfl (fun _ _ ih=>congrArg (· + 1) ih) r
section
variable{G:Gl}{F:Fm}{A:Around}{s:Shared}{β:List Addr}{ρ:Loc}{O:za}
theorem KeepsAll.toL{L:Addr}{s s':Shared}(x:KeepsAll s s'):KeepsL L s s':=⟨x.gens,x.os,fun b o _ e=>x.kept b o e,fun m h=>h.keeps x.kept⟩
theorem xe{h:Heap}{N:List Addr}{D:Addr}{o:Obj}{vs:Array Value}{n:Nat}{xs:List PyData}{as:List Addr}(e1:h.get? D=some o)(e2:o.cls=.type "list")(e3:o.data=.seq vs n)(r:ReadsAll h vs.toList xs as)(q:∀ a∈as,a∉β∧a∉N)(hD:D∉β∧D∉N):VR G N β h (.ref D) (.d (.list xs)):=
 ⟨D::as,.list e1 e2 e3 r,fun a ha=>(List.mem_cons.mp ha).elim (fun e=>e ▸ hD) (q a)⟩
theorem ky{h:Heap}{N:List Addr}{D:Addr}{o:Obj}{vs:Array Value}{n:Nat}{xs:List PyData}{as:List Addr}(e1:h.get? D=some o)(e2:o.cls=.type "tuple")(e3:o.data=.seq vs n)(r:ReadsAll h vs.toList xs as)(q:∀ a∈as,a∉β∧a∉N):VR G N β h (.ref D) (.d (.tuple xs)):=
 ⟨as,.tuple e1 e2 e3 r,q⟩
noncomputable def NewL(s:Shared)(h:Heap)(v:Value):Prop:=∃ a,v=.ref a∧s.heap.get? a=none∧Plain h a
noncomputable abbrev FRel(G:Gl)(F:Fm)(s:Shared):List Addr→Heap→Value→V→Prop:=fun β h v d=>VR G F.B β h v d∧(∀ xs,d=.d (.list xs)→NewL s h v)
noncomputable def LeafD{α δ:Type}(G:Gl)(F:Fm)(s:Shared)(β:List Addr)(T:WT α)(d:δ)(Rel:List Addr→Heap→α→δ→Prop):Prop:=
 ∀ (Q:α→Shared→Prop) (E:Value→Shared→Prop),(∀ v s',KeepsL F.env.locals s s'→Rel β s'.heap v d→Q v s')→T Q E s
theorem LeafD.leaf{α δ:Type}{T:WT α}{d:δ}{Rel:List Addr→Heap→α→δ→Prop}(sr:SR G F β ρ O s.heap)
 (hw:∀ (Q:α→Shared→Prop) (E:Value→Shared→Prop),(∀ v s',KeepsAll s s'→Rel β s'.heap v d→Q v s')→T Q E s):LeafD G F s β T d Rel:=fun Q E k=>hw Q E fun v s' ka r=>k v s' ka.toL r
theorem LeafD.leafL{α δ:Type}{T:WT α}{d:δ}{Rel:List Addr→Heap→α→δ→Prop}(sr:SR G F β ρ O s.heap)
 (hw:∀ (Q:α→Shared→Prop) (E:Value→Shared→Prop),(∀ v s',KeepsL F.env.locals s s'→Rel β s'.heap v d→Q v s')→T Q E s):LeafD G F s β T d Rel:=hw
theorem LeafD.does{α δ:Type}{T:WT α}{d:δ}{Rel:List Addr→Heap→α→δ→Prop}(sr:SR G F β ρ O s.heap)(h:LeafD G F s β T d Rel):DoesW G F s β T (.ok d (ρ,O)) Rel:=Does.leafL sr h
theorem gz{a b:Int}(h:a.natAbs < 2 ^ 64∨b.natAbs < 2 ^ 64):IntMulOk a b:=by
 rcases h with h | h
 ·exact IntMulOk.of_left (intBits_le_64 (by omega) (by omega))
 ·exact IntMulOk.of_right (intBits_le_64 (by omega) (by omega))
theorem df{f:Int→Option PyData}{y c:PyData}(h:intD f y=some c):∃ n,y=.int n∧f n=some c:=by
 cases y <;> first | (cases h;done) | skip
 exact⟨_,rfl,h⟩
theorem yz{p:Prop}[Decidable p]{a c:PyData}(h:(if p then some a else none)=some c):p∧a=c:=by
 by_cases hp:p
 ·rw[if_pos hp] at h;exact⟨hp,Option.some.inj h⟩
 ·rw[if_neg hp] at h;cases h
theorem zn8{x y c:PyData}(h:addD x y=some c):(∃ a b,x=.int a∧y=.int b∧c=.int (a+b))∨(∃ a b,x=.list a∧y=.list b∧a.length+b.length≤line∧c=.list (a++b)) ∨
 (∃ a b,x=.tuple a∧y=.tuple b∧a.length+b.length≤line∧c=.tuple (a++b))∨(∃ a b,x=.str a∧y=.str b∧a.length+b.length≤line∧c=.str (a++b)):=by
 cases x with
 | int a=>cases y <;> first | (cases h;done) | skip
          cases h;exact .inl ⟨_,_,rfl,rfl,rfl⟩
 | list a=>cases y <;> first | (cases h;done) | skip
           obtain⟨h1,rfl⟩:=yz h;exact .inr (.inl ⟨_,_,rfl,rfl,h1,rfl⟩)
 | tuple a=>cases y <;> first | (cases h;done) | skip
            obtain⟨h1,rfl⟩:=yz h;exact .inr (.inr (.inl ⟨_,_,rfl,rfl,h1,rfl⟩))
 | str a=>cases y <;> first | (cases h;done) | skip
          obtain⟨h1,rfl⟩:=yz h;exact .inr (.inr (.inr ⟨_,_,rfl,rfl,h1,rfl⟩))
 | _=>cases h
theorem VR.ints{v:Value}{x:V}{i:Int}(rv:VR G F.B β s.heap v x)(h:look O x=some (.int i)):∃ t,v=.int i t:=by
 have:=ym h (fun _ h=>by cases h);subst this
 exact rv.int_inv
theorem zbe{T:WT Value}{i:Int}(sr:SR G F β ρ O s.heap)(h:∀ (Q:Value→Shared→Prop) (E:Value→Shared→Prop),(∀ t,Q (.int i t) { s with toks:=s.toks+1 })→T Q E s):LeafD G F s β T (V.d (.int i)) (FRel G F s):=
 LeafD.leaf sr fun Q E q=>h Q E fun t=>q _ _ (KeepsAll.toks _ _) ⟨VR.int,fun _ h=>by cases h⟩
theorem zig{v u:Value}{x y:V}{a b:Str}(sr:SR G F β ρ O s.heap)(rv:VR G F.B β s.heap v x)(ru:VR G F.B β s.heap u y)(h1:look O x=some (.str a))(h2:look O y=some (.str b))(hz:a.length+b.length≤line) :
 LeafD G F s β (tr G A (binaryOp .Add v u)) (V.d (.str (a++b))) (FRel G F s):=by
 have:=ym h1 (fun _ h=>by cases h);subst this
 have:=ym h2 (fun _ h=>by cases h);subst this
 obtain⟨t,rfl⟩:=rv.str_inv;obtain⟨t',rfl⟩:=ru.str_inv
 exact LeafD.leaf sr fun Q E q=>add_str (fun t' tk=>q _ _ (KeepsAll.toks _ _) ⟨VR.str,fun _ h=>by cases h⟩) (Nat.le_trans hz (by decide))
theorem zf7{v u:Value}{x y:V}{a b:List PyData}(sr:SR G F β ρ O s.heap)(rv:VR G F.B β s.heap v x)(ru:VR G F.B β s.heap u y)(h1:look O x=some (.list a))(h2:look O y=some (.list b))(hz:a.length+b.length≤line) :
 LeafD G F s β (tr G A (binaryOp .Add v u)) (V.d (.list (a++b))) (FRel G F s):=by
 have new:s.heap.get? s.heap.objs.size=none:=Heap.get?_none_of_le (Nat.le_refl _)
 obtain⟨D1,rfl,o1,vs1,n1,e1,e2,e3,as1,r1,q1⟩:=yf sr rv h1
 obtain⟨D2,rfl,o2,vs2,n2,f1,f2,f3,as2,r2,q2⟩:=yf sr ru h2
 obtain⟨m,hm⟩:=sr.fm.ns
 obtain⟨fr,nw⟩:=zgn hm
 refine LeafD.leafL sr fun Q E q=>?_
 refine add_arrays fr nw ⟨o1,e1,e2,n1,e3⟩ ⟨o2,f1,f2,n2,f3⟩ (fun h' fr' nw'=>?_) (by have:=zf r1;have:=zf r2;simp at *;exact Nat.le_trans (by omega) (Nat.le_trans hz (by decide)))
 have kp:KeepsL F.env.locals s { s with heap:=h' }:=qn (tk:=s.toks) (dr:=s.drawn) hm fr' nw' fun p hp=>List.mem_cons_of_mem _ hp
 have st:=kp.step sr.fm
 obtain⟨r1',q1'⟩:=zx sr.br sr.fm st r1 q1
 obtain⟨r2',q2'⟩:=zx sr.br sr.fm st r2 q2
 refine q _ _ kp ⟨xe (nw' _ (.head _)).1 rfl rfl (by simpa using y5 r1' r2') (fun a ha=>(List.mem_append.mp ha).elim (q1 a) (q2 a)) sr.size_new,fun _ _=>⟨_,rfl,new,_,(nw' _ (.head _)).1,rfl,rfl⟩⟩
theorem zif{v u:Value}{x y:V}{a b:List PyData}(sr:SR G F β ρ O s.heap)(rv:VR G F.B β s.heap v x)(ru:VR G F.B β s.heap u y)(h1:look O x=some (.tuple a))(h2:look O y=some (.tuple b))(hz:a.length+b.length≤line) :
 LeafD G F s β (tr G A (binaryOp .Add v u)) (V.d (.tuple (a++b))) (FRel G F s):=by
 have:=ym h1 (fun _ h=>by cases h);subst this
 have:=ym h2 (fun _ h=>by cases h);subst this
 obtain⟨D1,o1,vs1,n1,rfl,e1,e2,e3,as1,r1,q1⟩:=rv.tuple_inv
 obtain⟨D2,o2,vs2,n2,rfl,f1,f2,f3,as2,r2,q2⟩:=ru.tuple_inv
 obtain⟨m,hm⟩:=sr.fm.ns
 obtain⟨fr,nw⟩:=zgn hm
 refine LeafD.leafL sr fun Q E q=>?_
 refine add_tuples (vs:=vs1.toList) (ws:=vs2.toList) fr nw ⟨o1,e1,e2,n1,by simpa using e3⟩ ⟨o2,f1,f2,n2,by simpa using f3⟩ (fun hv=>?_) (fun _ hv=>?_) (fun _ _ h' fr' nw'=>?_) (by have:=zf r1;have:=zf r2;simp at *;exact Nat.le_trans (by omega) (Nat.le_trans hz (by decide)))
 ·have hv':vs1.toList=[]:=hv
  rw[hv'] at r1;cases r1
  exact q _ _ (KeepsAll.refl s).toL ⟨ru,fun _ h=>by cases h⟩
 ·have hv':vs2.toList=[]:=hv
  rw[hv'] at r2;cases r2
  rw[List.append_nil] at q
  exact q _ _ (KeepsAll.refl s).toL ⟨rv,fun _ h=>by cases h⟩
 ·have kp:KeepsL F.env.locals s { s with heap:=h' }:=qn (tk:=s.toks) (dr:=s.drawn) hm fr' nw' fun p hp=>List.mem_cons_of_mem _ hp
  have st:=kp.step sr.fm
  obtain⟨r1',q1'⟩:=zx sr.br sr.fm st r1 q1
  obtain⟨r2',q2'⟩:=zx sr.br sr.fm st r2 q2
  exact q _ _ kp ⟨ky (nw' _ (.head _)).1 rfl rfl (by simpa using y5 r1' r2') (fun a ha=>(List.mem_append.mp ha).elim (q1 a) (q2 a)),fun _ h=>by cases h⟩
theorem zie{v:Value}{x:V}{a:Str}{n:Int}{t':Tok}(sr:SR G F β ρ O s.heap)(rv:VR G F.B β s.heap v x)(h1:look O x=some (.str a))(hz:a.length≤256∧0≤n∧n≤256) :
 LeafD G F s β (tr G A (binaryOp .Mult v (.int n t'))) (V.d (.str (Txt.mul a n))) (FRel G F s):=by
 have:=ym h1 (fun _ h=>by cases h);subst this
 obtain⟨t,rfl⟩:=rv.str_inv
 exact LeafD.leaf sr fun Q E q=>SB.mul (mulOk_of 256 256 hz.1 (by omega) (by omega) (by decide) (by decide)) (fun t' k=>q _ _ (KeepsAll.toks _ _) ⟨VR.str,fun _ h=>by cases h⟩)
theorem zf4{v:Value}{x:V}{a:List PyData}{n:Int}{t':Tok}(sr:SR G F β ρ O s.heap)(rv:VR G F.B β s.heap v x)(h1:look O x=some (.list a))(hz:a.length * n.toNat≤256∧0≤n∧n≤256) :
 LeafD G F s β (tr G A (binaryOp .Mult v (.int n t'))) (V.d (.list (repL a n))) (FRel G F s):=by
 obtain⟨D1,rfl,o1,vs1,n1,e1,e2,e3,as1,r1,q1⟩:=yf sr rv h1
 obtain⟨m,hm⟩:=sr.fm.ns
 obtain⟨fr,nw⟩:=zgn hm
 refine LeafD.leafL sr fun Q E q=>?_
 have hl:=zf r1
 refine PySem.W.KMa.mul (vs:=vs1.toList) fr nw ⟨o1,e1,e2,n1,by simpa using e3⟩ (by omega) (by omega) (by rw[hl];exact hz.1) rfl fun D h' fr' nw' hlt=>?_
 have kp:KeepsL F.env.locals s { s with heap:=h' }:=qn (tk:=s.toks) (dr:=s.drawn) hm fr' nw' fun p hp=>List.mem_cons_of_mem _ hp
 have st:=kp.step sr.fm
 obtain⟨r1',q1'⟩:=zx sr.br sr.fm st r1 q1
 obtain⟨bs,r2,q2⟩:=wj r1' q1' n.toNat
 have hD:=nw' _ (.head _)
 have nD:s.heap.get? D=none:=by
  cases e:s.heap.get? D with
  | none=>rfl
  | some o=>
    exfalso
    rcases Nat.lt_or_ge F.env.locals D with h | h
    ·exact Nat.lt_irrefl _ (hlt (D,o) (mem_newsOf.mpr ⟨h,e⟩))
    ·have h':D < F.env.locals:=Nat.lt_of_le_of_ne h hD.2.1
     have:=hD.2.2
     rw[u9,if_pos h'] at this
     rw[e] at this;cases this
 refine q _ _ kp ⟨xe hD.1 rfl rfl (by simpa [repL] using r2) q2 ⟨fun hb=>?_,fun hb=>?_⟩,fun _ _=>⟨D,rfl,nD,_,hD.1,rfl,rfl⟩⟩
 ·obtain⟨o,e,_⟩:=sr.br.alive D hb;rw[e] at nD;cases nD
 ·obtain⟨o,e,_⟩:=sr.fm.stor D hb;rw[e] at nD;cases nD
theorem zid{v:Value}{x:V}{a:List PyData}{n:Int}{t':Tok}(sr:SR G F β ρ O s.heap)(rv:VR G F.B β s.heap v x)(h1:look O x=some (.tuple a))(hz:a≠[]∧a.length * n.toNat≤256∧2≤n∧n≤256) :
 LeafD G F s β (tr G A (binaryOp .Mult v (.int n t'))) (V.d (.tuple (repL a n))) (FRel G F s):=by
 have:=ym h1 (fun _ h=>by cases h);subst this
 obtain⟨D1,o1,vs1,n1,rfl,e1,e2,e3,as1,r1,q1⟩:=rv.tuple_inv
 have hl:=zf r1
 refine LeafD.leaf sr fun Q E q=>?_
 refine zh6 e1 e2 e3 (by cases hv:vs1.isEmpty with
  | false=>rfl
  | true=>rw[Array.isEmpty_iff] at hv;subst hv;simp at hl;exact absurd (List.eq_nil_of_length_eq_zero hl.symm) hz.1) hz.2.2.1 hz.2.2.2 (by rw[← Array.length_toList,hl];exact hz.2.1) ?_
 have kp:=KeepsAll.push s { cls:=Value.type "tuple",data:=Data.seq (List.replicate n.toNat vs1.toList).flatten.toArray } s.toks
 obtain⟨bs,r2,q2⟩:=wj (zy kp.kept r1) q1 n.toNat
 exact q _ _ kp ⟨ky (Heap.get?_push_size _ rfl) rfl rfl (by simpa [repL] using r2) q2,fun _ h=>by cases h⟩
theorem zm2{op:Bop}{o:Operator}{i j:Int}{t t':Tok}{c:PyData}(ho:zez op o=true)(sr:SR G F β ρ O s.heap)(h:arith op i j=some c) :
 LeafD G F s β (tr G A (binaryOp o (.int i t) (.int j t'))) (V.d c) (FRel G F s):=by
 cases op with
 | sub=>
   cases o <;> first | exact (Bool.false_ne_true ho).elim | skip
   cases h
   exact zbe sr fun Q E q=>sub_int (q _)
 | fdiv=>
   cases o <;> first | exact (Bool.false_ne_true ho).elim | skip
   obtain⟨hz,rfl⟩:=yz h
   exact zbe sr fun Q E q=>floordiv_int hz.1 (q _) (.inl (PyProof.noPylong_small hz.2))
 | mod=>
   cases o <;> first | exact (Bool.false_ne_true ho).elim | skip
   by_cases hz:j=0
   ·unfold arith at h;dsimp only at h;rw[if_pos hz] at h;cases h
   ·unfold arith at h;dsimp only at h;rw[if_neg hz] at h;cases h
    exact zbe sr fun Q E q=>mod_int' hz (q _)
 | pow=>
   cases o <;> first | exact (Bool.false_ne_true ho).elim | skip
   obtain⟨⟨rfl,rfl⟩,rfl⟩:=yz h
   refine zbe sr fun Q E q=>pow_int (by decide) (by decide +kernel) ?_
   have e:(10:Int) ^ (20:Int).toNat=100000000000000000000:=by decide
   rw[e]
   exact q _
 | _=>cases h
theorem zm1{op:Bop}{o:Operator}{v u:Value}{x y:V}{c:PyData}(ho:zez op o=true)(sr:SR G F β ρ O s.heap)(rv:VR G F.B β s.heap v x)(ru:VR G F.B β s.heap u y)
 (hc:((look O x).bind fun x=>(look O y).bind fun y=>zbv op x y)=some c):LeafD G F s β (tr G A (binaryOp o v u)) (V.d c) (FRel G F s):=by
 obtain⟨a,h1,hc⟩:=Option.bind_eq_some_iff.mp hc
 obtain⟨b,h2,h3⟩:=Option.bind_eq_some_iff.mp hc
 have rest:∀ op,zbv op a b=intD (fun i=>intD (arith op i) b) a→zez op o=true→zbv op a b=some c→LeafD G F s β (tr G A (binaryOp o v u)) (V.d c) (FRel G F s):=fun op e ho h3=>by
  rw[e] at h3
  obtain⟨i,rfl,h3⟩:=df h3
  have h3:intD (arith op i) b=some c:=h3
  obtain⟨j,rfl,h3⟩:=df h3
  obtain⟨t,rfl⟩:=rv.ints h1
  obtain⟨t',rfl⟩:=ru.ints h2
  exact zm2 ho sr h3
 cases op with
 | add=>
   cases o <;> first | exact (Bool.false_ne_true ho).elim | skip
   rcases zn8 h3 with ⟨i,j,rfl,rfl,rfl⟩ | ⟨i,j,rfl,rfl,hz,rfl⟩ | ⟨i,j,rfl,rfl,hz,rfl⟩ | ⟨i,j,rfl,rfl,hz,rfl⟩
   ·obtain⟨t,rfl⟩:=rv.ints h1
    obtain⟨t',rfl⟩:=ru.ints h2
    exact zbe sr fun Q E q=>wpAny_add_int (q _)
   ·exact zf7 sr rv ru h1 h2 hz
   ·exact zif sr rv ru h1 h2 hz
   ·exact zig sr rv ru h1 h2 hz
 | mul=>
   cases o <;> first | exact (Bool.false_ne_true ho).elim | skip
   obtain⟨n,rfl,h3⟩:=df h3
   obtain⟨t',rfl⟩:=ru.ints h2
   cases a with
   | int i=>
     obtain⟨hz,rfl⟩:=yz h3
     obtain⟨t,rfl⟩:=rv.ints h1
     exact zbe sr fun Q E q=>mul_int (q _) (gz hz)
   | str a=>obtain⟨hz,rfl⟩:=yz h3;exact zie sr rv h1 hz
   | list a=>obtain⟨hz,rfl⟩:=yz h3;exact zf4 sr rv h1 hz
   | tuple a=>obtain⟨hz,rfl⟩:=yz h3;exact zid sr rv h1 hz
   | _=>cases h3
 | sub=>exact rest .sub rfl ho h3
 | fdiv=>exact rest .fdiv rfl ho h3
 | mod=>exact rest .mod rfl ho h3
 | pow=>exact rest .pow rfl ho h3
end
section
variable{G:Gl}{F:Fm}{A:Around}{s:Shared}{β:List Addr}{ρ:Loc}{O:za}
theorem zre{op:Cop}{o:CmpOp}{v u:Value}{x y:V}{k:Nat}(ro:Room A k)(ho:x0 op o=true)(sr:SR G F β ρ O s.heap)(rv:VR G F.B β s.heap v x)(ru:VR G F.B β s.heap u y) :
 Does G F A s β (compareOp o v u) ((cmpG op x y O).lift ρ) (VRel G F):=by
 unfold cmpG
 cases h1:look O x with
 | none=>trivial
 | some a=>
   cases h2:look O y with
   | none=>trivial
   | some b=>
     show DoesW G F s β _ ((opt ((vj op a b).map fun b=>V.d (.bool b)) O).lift ρ) _
     cases h3:vj op a b with
     | none=>trivial
     | some c=>
       obtain⟨as,r1⟩:=v6 sr rv h1
       obtain⟨bs,r2⟩:=v6 sr ru h2
       exact Does.leaf sr fun Q E q=>zlo ro ho r1 r2 h3 (q _ _ (KeepsAll.refl s) VR.bool)
set_option tactic.hygienic true in
theorem zor{o:CmpOp}{v u:Value}{x y:V}{f:Bool→Bool}(ho:compareOp o v u=(do return Value.bool (f (← isSame v u))))(sr:SR G F β ρ O s.heap)(rv:VR G F.B β s.heap v x)(ru:VR G F.B β s.heap u y) :
 Does G F A s β (compareOp o v u) ((isV f x y O).lift ρ) (VRel G F):=by
 cases x <;> first | trivial | skip
 cases y <;> first | trivial | skip
 rename_i a b
 show DoesW G F s β _ ((opt ((isop a b).map fun c=>V.d (.bool (f c))) O).lift ρ) _
 cases h:isop a b with
 | none=>trivial
 | some c=>
   refine Does.leaf sr fun Q E q=>?_
   rw[ho,zm6 sr rv ru h]
   exact wpAny_bind (wpAny_pure (wpAny_pure (q _ _ (KeepsAll.refl s) VR.bool)))
theorem ua{op:Cop}{o:CmpOp}{v u:Value}{x y:V}{k:Nat}(ro:Room A k)(ho:x0 op o=true)(sr:SR G F β ρ O s.heap)(rv:VR G F.B β s.heap v x)(ru:VR G F.B β s.heap u y) :
 Does G F A s β (compareOp o v u) ((cmpV op x y O).lift ρ) (VRel G F):=by
 have dflt:=zre ro ho sr rv ru
 cases op with
 | is=>cases o <;> first | exact (Bool.false_ne_true ho).elim | exact zor rfl sr rv ru
 | isnot=>cases o <;> first | exact (Bool.false_ne_true ho).elim | exact zor rfl sr rv ru
 | _=>exact dflt
theorem we{v:Value}{d:V}{b:Bool}(r:VR G F.B β s.heap v d)(e:truth d=some b):v=.bool b:=by
 cases d with
 | d x=>cases x with
   | bool c=>cases e;exact r.bool_inv
   | _=>cases e
 | _=>cases e
noncomputable abbrev BRel:List Addr→Heap→Bool→Bool→Prop:=fun _ _ a b=>a=b
theorem jf{v:Value}{d:V}(sr:SR G F β ρ O s.heap)(r:VR G F.B β s.heap v d):Does G F A s β (truthy v) ((opt (truth d) O).lift ρ) BRel:=by
 cases h:truth d with
 | none=>trivial
 | some b=>
   have:=we r h;subst this
   exact Does.leaf sr fun Q E q=>wpAny_truthy_bool (q _ _ (KeepsAll.refl s) rfl)
theorem d_ok{T:WT Value}{v:Value}{d:V}(sr:SR G F β ρ O s.heap)(r:VR G F.B β s.heap v d)(h:∀ Q E,Q v s→T Q E s):DoesW G F s β T ((R.ok d O).lift ρ) (VRel G F):=
 Does.leaf sr fun Q E q=>h Q E (q _ _ (KeepsAll.refl s) r)
theorem zs9{x:Expr}{p:Pos}{r:R za V}(h1:Does G F A s β (eval x F.env) (r.lift ρ) (VRel G F)) :
 Does G F A s β (eval (.UnaryOp .USub x p) F.env) ((r.bind fun v O=>(match v with
  | .d (.int i)=>R.ok (V.d (.int (-i))) O
  | _=>.stuck)).lift ρ) (VRel G F):=by
 refine DoesW.seqE (T₂:=fun v=>tr G A (unaryOp .USub v)) (fun Q E h=>wpAny_UnaryOp h) h1 fun s' β' v d O' e st sr rv=>?_
 cases d with
 | d x=>cases x with
   | int i=>obtain⟨t,rfl⟩:=rv.int_inv;exact Does.leaf sr fun Q E q=>PySem.P.neg_int (q _ _ (KeepsAll.toks _ _) VR.int)
   | _=>trivial
 | _=>trivial
theorem d_nt{x:Expr}{p:Pos}{r:R za V}(h1:Does G F A s β (eval x F.env) (r.lift ρ) (VRel G F)) :
 Does G F A s β (eval (.UnaryOp .Not x p) F.env) ((r.bind fun v O=>opt ((truth v).map fun b=>V.d (.bool !b)) O).lift ρ) (VRel G F):=by
 refine DoesW.seqE (T₂:=fun v=>tr G A (unaryOp .Not v)) (fun Q E h=>wpAny_UnaryOp h) h1 fun s' β' v d O' e st sr rv=>?_
 cases h:truth d with
 | none=>trivial
 | some b=>
   have:=we rv h;subst this
   exact Does.leaf sr fun Q E q=>not_value (wpAny_truthy_bool (q _ _ (KeepsAll.refl _) VR.bool))
end
theorem zr{h:Heap}{P:Addr→Prop}{vs:List Value}{xs:List PyData}{as:List Addr}(r:ReadsAll h vs xs as):(∀ a∈as,P a)→∀ {i:Nat} {x:PyData},xs[i]?=some x→∃ v bs,vs[i]?=some v∧Reads h v x bs∧∀ a∈bs,P a:=by
 refine z9 (motive:=fun vs xs as=>(∀ a∈as,P a)→∀ {i:Nat} {x:PyData},xs[i]?=some x→∃ v bs,vs[i]?=some v∧Reads h v x bs∧∀ a∈bs,P a) ?_ ?_ r
 ·intro _ i x e;rw[List.getElem?_nil] at e;cases e
 ·intro v d as vs ds bs r _ ih q i x e
  cases i with
  | zero=>have e:some d=some x:=e
          cases e;exact⟨v,as,rfl,r,fun a ha=>q a (List.mem_append_left _ ha)⟩
  | succ i=>exact ih (fun a ha=>q a (List.mem_append_right _ ha)) (i:=i) e
theorem zam{h:Heap}{P:Addr→Prop}{vs:List Value}{xs:List PyData}{as:List Addr}(r:ReadsAll h vs xs as):(∀ a∈as,P a)→∀ (k:Nat),∃ bs,ReadsAll h (vs.drop k) (xs.drop k) bs∧∀ a∈bs,P a:=by
 refine z9 (motive:=fun vs xs as=>(∀ a∈as,P a)→∀ (k:Nat),∃ bs,ReadsAll h (vs.drop k) (xs.drop k) bs∧∀ a∈bs,P a) ?_ ?_ r
 ·intro _ k;exact⟨[],by rw[List.drop_nil,List.drop_nil];exact .nil,fun _ h=>nomatch h⟩
 ·intro v d as vs ds bs r rs ih q k
  cases k with
  | zero=>exact⟨_,.cons r rs,q⟩
  | succ k=>exact ih (fun a ha=>q a (List.mem_append_right _ ha)) k
theorem zal{h:Heap}{P:Addr→Prop}{vs:List Value}{xs:List PyData}{as:List Addr}(r:ReadsAll h vs xs as):(∀ a∈as,P a)→∀ (k:Nat),∃ bs,ReadsAll h (vs.take k) (xs.take k) bs∧∀ a∈bs,P a:=by
 refine z9 (motive:=fun vs xs as=>(∀ a∈as,P a)→∀ (k:Nat),∃ bs,ReadsAll h (vs.take k) (xs.take k) bs∧∀ a∈bs,P a) ?_ ?_ r
 ·intro _ k;exact⟨[],by rw[List.take_nil,List.take_nil];exact .nil,fun _ h=>nomatch h⟩
 ·intro v d as vs ds bs r rs ih q k
  cases k with
  | zero=>exact⟨[],.nil,fun _ h=>nomatch h⟩
  | succ k=>
    obtain⟨b,r',q'⟩:=ih (fun a ha=>q a (List.mem_append_right _ ha)) k
    exact⟨as++b,.cons r r',fun a ha=>(List.mem_append.mp ha).elim (fun h=>q a (List.mem_append_left _ h)) (q' a)⟩
section
variable{G:Gl}{F:Fm}{A:Around}{s:Shared}{β:List Addr}{ρ:Loc}{O:za}
set_option tactic.hygienic true in
theorem zhb{xs:List PyData}{k:Int}{z:PyData}{x:PyData}(hx:items x=some xs)(e:idxD x (.int k)=some z):xs.length≤line∧((0≤k∧xs[k.toNat]?=some z)∨(k < 0∧0≤k+xs.length∧xs[(k+xs.length).toNat]?=some z)):=by
 unfold idxD at e
 rw[hx] at e
 dsimp only at e
 split at e
 ·rename_i h1
  refine⟨h1,?_⟩
  split at e
  ·rename_i h2;exact .inl ⟨h2,e⟩
  ·rename_i h2
   split at e
   ·rename_i h3;exact .inr ⟨by omega,h3,e⟩
   ·cases e
 ·cases e
theorem qz{α:Type}{xs:List α}{i:Nat}{z:α}(e:xs[i]?=some z):i < xs.length:=by
 rcases Nat.lt_or_ge i xs.length with h | h
 ·exact h
 ·rw[List.getElem?_eq_none h] at e;cases e
theorem zic{value slice:Expr}{a:Addr}{xs:List PyData}{k:Int}{t:Tok}{z:PyData}{Q:Value→Shared→Prop}{E:Value→Shared→Prop}(l:ListAt s.heap F.B β a xs)(e:idxD (.list xs) (.int k)=some z)
 (hs:subscripted slice false (.ref a) (.int k t)=operate [.ref a,.int k t] (getItem (.ref a) (.int k t)))
 (q:∀ v,VR G F.B β s.heap v (.d z)→Q v s):wpAny (model G.prog G.w) A (subscriptTail value slice (.ref a) (.int k t)) Q E s:=by
 obtain⟨o,vs,n,e1,e2,e3,as,r,q1⟩:=l
 have hl:=zf r
 have hsz:vs.size=xs.length:=by rw[← hl,Array.length_toList]
 obtain⟨h0,h | h⟩:=zhb (xs:=xs) rfl e
 ·obtain⟨v,bs,g1,g2,g3⟩:=zr r q1 h.2
  have:=qz h.2
  refine tail_any (T:="list") ⟨o,e1,e2⟩ slot_list_getitem.lookup (wpAny_getItem_list ⟨o,e1,e2,n,e3⟩ h.1 (by simp only [line] at h0;omega) (by simpa using g1) (q v ⟨bs,g2,g3⟩)) hs
 ·obtain⟨v,bs,g1,g2,g3⟩:=zr r q1 h.2.2
  refine tail_any (T:="list") ⟨o,e1,e2⟩ slot_list_getitem.lookup (wpAny_getItem_list_neg ⟨o,e1,e2,n,e3⟩ h.1 (by rw [hsz];omega) (by simp only [line] at h0;omega) (by rw [hsz];simpa using g1) (q v ⟨bs,g2,g3⟩)) hs
theorem zfe{value slice:Expr}{v:Value}{xs:List PyData}{k:Int}{t:Tok}{z:PyData}{Q:Value→Shared→Prop}{E:Value→Shared→Prop}(rv:VR G F.B β s.heap v (.d (.tuple xs)))(e:idxD (.tuple xs) (.int k)=some z)
 (hs:subscripted slice false v (.int k t)=operate [v,.int k t] (getItem v (.int k t)))
 (q:∀ v,VR G F.B β s.heap v (.d z)→Q v s):wpAny (model G.prog G.w) A (subscriptTail value slice v (.int k t)) Q E s:=by
 obtain⟨a,o,vs,n,rfl,e1,e2,e3,as,r,q1⟩:=rv.tuple_inv
 have hl:=zf r
 have hsz:vs.size=xs.length:=by rw[← hl,Array.length_toList]
 have ht:IsTup s.heap a vs:=⟨o,e1,e2,n,e3⟩
 obtain⟨h0,h | h⟩:=zhb (xs:=xs) rfl e
 ·obtain⟨v,bs,g1,g2,g3⟩:=zr r q1 h.2
  have:=qz h.2
  exact tail_any (T:="tuple") ht.typeIs slot_tuple_getitem.lookup (getItem_tuple ht (by omega) (by simp only [line] at h0;omega) (j:=k.toNat) (by unfold seqIndex?;rw [hsz];simp;omega) (by simpa using g1) (q v ⟨bs,g2,g3⟩)) hs
 ·obtain⟨v,bs,g1,g2,g3⟩:=zr r q1 h.2.2
  have:=qz h.2.2
  exact tail_any (T:="tuple") ht.typeIs slot_tuple_getitem.lookup (getItem_tuple ht (by simp only [line] at h0;omega) (by omega) (j:=(k+xs.length).toNat) (by unfold seqIndex?;rw [hsz];simp;omega) (by simpa using g1) (q v ⟨bs,g2,g3⟩)) hs
end
section
variable{prog:Program}{w:World}{A:Around}{E:Value→Shared→Prop}{s:Shared}
theorem j9{α β:Type}{f g:α→Option β}:∀ {l:List α},(∀ x∈l,f x=g x)→l.filterMap f=l.filterMap g
 | [],_=>rfl
 | x::r,h=>by
   rw[List.filterMap_cons,List.filterMap_cons,h x (.head _),j9 fun y hy=>h y (.tail _ hy)]
end
theorem xj{e:Expr}(h:∀ l u t p,e≠.Slice l u t p)(o i:Value):subscripted e false o i=operate [o,i] (getItem o i):=by
 cases e <;> first | rfl | exact absurd rfl (h _ _ _ _)
section
variable{G:Gl}{F:Fm}{A:Around}{s:Shared}{β:List Addr}{ρ:Loc}{O:za}
theorem zm9{a k z:PyData}(h:idxD a k=some z):(∃ i,k=.int i)∧((∃ xs,a=.list xs)∨∃ xs,a=.tuple xs):=by
 cases a <;> first | (cases h;done) | skip
 ·cases k <;> first | (cases h;done) | exact⟨⟨_,rfl⟩,.inl ⟨_,rfl⟩⟩
 ·cases k <;> first | (cases h;done) | exact⟨⟨_,rfl⟩,.inr ⟨_,rfl⟩⟩
set_option tactic.hygienic true in
theorem zq8{value slice:Expr}{v u:Value}{x y:V}{k:Nat}(ro:Room A k)(hs:∀ l u t p,slice≠.Slice l u t p)(sr:SR G F β ρ O s.heap)(rv:VR G F.B β s.heap v x)(ru:VR G F.B β s.heap u y) :
 Does G F A s β (subscriptTail value slice v u) ((idxV x y O).lift ρ) (VRel G F):=by
 cases y <;> first | trivial | skip
 rename_i k'
 unfold idxV
 cases h1:look O x with
 | none=>trivial
 | some a=>
   show DoesW G F s β _ ((opt ((idxD a k').map V.d) O).lift ρ) _
   cases h3:idxD a k' with
   | none=>trivial
   | some z=>
     obtain⟨⟨i,rfl⟩,hx⟩:=zm9 h3
     obtain⟨t,rfl⟩:=ru.int_inv
     rcases hx with ⟨xs,rfl⟩ | ⟨xs,rfl⟩
     ·obtain⟨b,rfl,l⟩:=yf sr rv h1
      exact Does.leaf sr fun Q E q=>zic l h3 (xj hs _ _) fun v rv=>q _ _ (KeepsAll.refl s) rv
     ·rw[ym h1 fun _ e=>nomatch e] at rv
      exact Does.leaf sr fun Q E q=>zfe rv h3 (xj hs _ _) fun v rv=>q _ _ (KeepsAll.refl s) rv
theorem zte{x y:Expr}{p:Pos}{ra:R za V}{rb:za→R za V}{k:Nat}(ro:Room A k)(hs:∀ l u t p,y≠.Slice l u t p)
 (h1:Does G F A s β (eval x F.env) (ra.lift ρ) (VRel G F)) (h2:∀ s' β' O',SR G F β' ρ O' s'.heap→Does G F A s' β' (eval y F.env) ((rb O').lift ρ) (VRel G F)) :
 Does G F A s β (eval (.Subscript x y p) F.env) ((ra.bind fun v O=>(rb O).bind fun u O=>idxV v u O).lift ρ) (VRel G F):=by
 refine DoesW.seqE (T₂:=fun a Q E s₁=>wpAny (model G.prog G.w) A (eval y F.env) (fun b s₂=>wpAny (model G.prog G.w) A (subscriptTail x y a b) Q E s₂) E s₁) (fun Q E h=>Subscript_ h) h1 fun s' β' v d O' e st sr rv=>?_
 refine DoesW.seqE (T₁:=tr G A (eval y F.env)) (T₂:=fun b=>tr G A (subscriptTail x y v b)) (fun Q E h=>h) (h2 s' β' O' sr) fun s₂ β₂ u d₂ O₂ e₂ st₂ sr₂ ru=>?_
 exact zq8 ro hs sr₂ (rv.step sr.br sr.fm st₂) ru
theorem part_of{N:List Addr}{h:Heap}{v:Value}{l:PyData}{n dflt c:Nat}(r:VR G N β h v (.d l))(e:clip n dflt l=some c):∃ k,IsPart v k∧c=k.elim dflt (clipAt n):=by
 cases l with
 | none=>have:=r.none_inv;subst this;cases e;exact⟨none,.none,rfl⟩
 | int i=>obtain⟨t,rfl⟩:=r.int_inv;cases e;exact⟨some i,.int i t,rfl⟩
 | _=>cases e
theorem zhx{value:Expr}{lo hi st:Option Expr}{ps:Pos}{vl vu vk:Value}{D:Addr}{o:Obj}{vs:Array Value}{n:Nat}{klo khi kst:Option Int}{ys:List PyData}{bs:List Addr}{ops:List Value}(sr:SR G F β ρ O s.heap)
 (e1:s.heap.get? D=some o) (e2:o.cls=.type "list") (e3:o.data=.seq vs n) (hops:subscripted (.Slice lo hi st ps) false (.ref D) (.ref s.heap.objs.size)=operate ops (getItem (.ref D) (.ref s.heap.objs.size)))
 (hl:vs.size≤sizeLine) (pl:IsPart vl klo) (pu:IsPart vu khi) (pk:IsPart vk kst) (h0:kst≠some 0) (r2:ReadsAll s.heap (slicePick vs klo khi kst).toList ys bs) (q2:∀ a∈bs,a∉β∧a∉F.B) :
 DoesW G F s β (fun Q E s=>wpAny (model G.prog G.w) A (subscriptTail value (.Slice lo hi st ps) (.ref D) (.ref s.heap.objs.size)) Q E { s with heap:=s.heap.push { cls:=.type "slice",data:=.fields #[vl,vu,vk] } }) (.ok (V.d (.list ys)) (ρ,O)) (VRel G F):=by
 refine Does.leaf sr fun Q E q=>?_
 refine tail_any (T:="list") ⟨o,Heap.get?_push_of_some _ e1,e2⟩ slot_list_getitem.lookup ?_ hops
 refine wpAny_getItem_list_slice (lo:=klo) (hi:=khi) (st:=kst) ⟨o,Heap.get?_push_of_some _ e1,e2,n,e3⟩ (Heap.IsSliceOf.new ..) pl pu pk h0 ?_ hl
 generalize ho1:({ cls:=.type "slice",data:=.fields #[vl,vu,vk] }:Obj)=o1
 have kp2:KeepsAll s { s with heap:=(s.heap.push o1).push { cls:=.type "list",data:=.seq (slicePick vs klo khi kst) } }:=⟨rfl,rfl,fun b o e=>Heap.get?_push_of_some _ (Heap.get?_push_of_some _ e)⟩
 have nD:s.heap.get? (s.heap.push o1).objs.size=none:=by
  cases e:s.heap.get? (s.heap.push o1).objs.size with
  | none=>rfl
  | some o=>exact absurd (Heap.lt_size e) (by rw[Heap.size_push];exact Nat.not_lt.mpr (Nat.le_succ _))
 refine q _ _ kp2 (xe (Heap.get?_push_size _ rfl) rfl rfl (zy kp2.kept r2) q2 ⟨fun hb=>?_,fun hb=>?_⟩)
 ·obtain⟨o,e,_⟩:=sr.br.alive _ hb;rw[e] at nD;cases nD
 ·obtain⟨o,e,_⟩:=sr.fm.stor _ hb;rw[e] at nD;cases nD
theorem v4{f:List PyData→Option PyData}{x y:PyData}(h:ofList f x=some y):∃ xs,x=.list xs∧f xs=some y:=by
 cases x <;> first | (cases h;done) | exact⟨_,rfl,h⟩
inductive zn9(xs:List PyData)(l h y:PyData):Prop
 | mk (a b:Nat) (hl:xs.length≤line) (h1:clip xs.length 0 l=some a) (h2:clip xs.length xs.length h=some b) (e:y=.list (vv xs a b))
theorem zdf{xs:List PyData}{l h y:PyData}(e:jm xs l h=some y):zn9 xs l h y:=by
 unfold jm at e
 by_cases hl:xs.length≤line
 ·rw[if_pos hl] at e
  obtain⟨a,h1,e⟩:=Option.bind_eq_some_iff.mp e
  obtain⟨b,h2,e⟩:=Option.map_eq_some_iff.mp e
  exact⟨a,b,hl,h1,h2,e.symm⟩
 ·rw[if_neg hl] at e;cases e
theorem zlg{value:Expr}{lo hi:Option Expr}{ps:Pos}{v vl vu:Value}{x:V}{l h:PyData}(sr:SR G F β ρ O s.heap)(rv:VR G F.B β s.heap v x)(rl:VR G F.B β s.heap vl (.d l))(rh:VR G F.B β s.heap vu (.d h)) :
 DoesW G F s β (fun Q E s=>wpAny (model G.prog G.w) A (subscriptTail value (.Slice lo hi none ps) v (.ref s.heap.objs.size)) Q E { s with heap:=s.heap.push { cls:=.type "slice",data:=.fields #[vl,vu,.none] } })
  ((opt (((look O x).bind fun x=>zfm x l h).map V.d) O).lift ρ) (VRel G F):=by
 cases h3:(look O x).bind fun x=>zfm x l h with
 | none=>trivial
 | some c=>
   obtain⟨a,h1,h3⟩:=Option.bind_eq_some_iff.mp h3
   obtain⟨xs,rfl,h4⟩:=v4 (f:=fun xs=>jm xs l h) h3
   obtain⟨a,b,hl,hc1,hc2,rfl⟩:=zdf h4
   obtain⟨D,rfl,o,vs,n,e1,e2,e3,as,r1,q1⟩:=yf sr rv h1
   have hsz:vs.size=xs.length:=by rw[← zf r1,Array.length_toList]
   obtain⟨klo,pl,rfl⟩:=part_of rl hc1
   obtain⟨khi,pu,rfl⟩:=part_of rh hc2
   obtain⟨b1,s1,t1⟩:=zam r1 q1 (klo.elim 0 (clipAt xs.length))
   obtain⟨b2,s2,t2⟩:=zal s1 t1 (khi.elim xs.length (clipAt xs.length) - klo.elim 0 (clipAt xs.length))
   exact zhx sr e1 e2 e3 rfl (by rw[hsz];exact Nat.le_trans hl (by decide)) pl pu .none (by decide) (by rw[slicePick_plain,hsz];exact s2) t2
end
theorem zf1{names:List Str}:∀ {vals:List Value},vals.length=names.length→∀ n∈names,((names.zip vals).lookup n).isSome=true:=by
 induction names with
 | nil=>intro _ _ n hn;cases hn
 | cons x names ih=>
   intro vals hl n hn
   cases vals with
   | nil=>simp at hl
   | cons v vals=>
     rw[List.zip_cons_cons,List.lookup_cons]
     cases h:n == x with
     | true=>rfl
     | false=>
       rcases List.mem_cons.mp hn with rfl | hn
       ·rw[beq_self_eq_true] at h;cases h
       ·exact ih (by simpa using hl) n hn
theorem zap{names:List Str}:∀ {vals:List Value},vals.length=names.length→names.Nodup→names.filterMap (fun n=>((names.zip vals).lookup n).map fun v=>(n,v))=names.zip vals:=by
 induction names with
 | nil=>intro _ _ _;rfl
 | cons x names ih=>
   intro vals hl hn
   cases vals with
   | nil=>simp at hl
   | cons v vals=>
     obtain⟨h1,h2⟩:=List.nodup_cons.mp hn
     rw[List.zip_cons_cons,List.filterMap_cons]
     have e:((x,v)::names.zip vals).lookup x=some v:=by rw[List.lookup_cons,beq_self_eq_true]
     have tl:names.filterMap (fun n=>(((x,v)::names.zip vals).lookup n).map fun v=>(n,v))=names.zip vals:=by
      have e':=ih (vals:=vals) (by simpa using hl) h2
      refine Eq.trans (j9 fun n hn'=>?_) e'
      have:(n == x)=false:=by rw[beq_eq_false_iff_ne];rintro rfl;exact h1 hn'
      rw[List.lookup_cons,this]
     rw[e,tl];rfl
theorem zlr{fd:FuncData}{as:List Arg}{kd:List (Option Expr)}{ds:List Expr}{vals:List Value}(hp:fd.params=⟨[],as,none,[],kd,none,ds⟩)(hd:fd.defaults=.none) :
 ∃ (T1 T2:Sem (List (Str×Value))) (f:Str×Value→List (Str×Value)→Sem (ForInStep (List (Str×Value)))) (K:List (Str×Value)→Sem (List (Str×Value))),
  bindArgs fd ⟨vals,[]⟩=(if (decide (vals.length > (as.map Arg.arg).length) && true)=true then T1 else
   if (!(((as.map Arg.arg).take ((as.map Arg.arg).length - (([]:List Value).drop (0 - (as.map Arg.arg).length)).length)).filter fun n=>(((as.map Arg.arg).zip vals).lookup n).isNone).isEmpty)=true then T2 else
    (forIn (((as.map Arg.arg).drop ((as.map Arg.arg).length - (([]:List Value).drop (0 - (as.map Arg.arg).length)).length)).zip (([]:List Value).drop (0 - (as.map Arg.arg).length))) ((as.map Arg.arg).zip vals) f >>= K)) ∧
  K ((as.map Arg.arg).zip vals)=pure (((as.map Arg.arg)++[]).filterMap fun n=>(((as.map Arg.arg).zip vals).lookup n).map fun v=>(n,v)):=by
 unfold bindArgs
 rw[hp,hd]
 exact⟨_,_,_,_,rfl,rfl⟩
theorem qp{fd:FuncData}{names:List Str}{vals:List Value}(h1:fd.params.posonlyargs=[])(h2:fd.params.vararg=none)(h3:fd.params.kwonlyargs=[])(h4:fd.params.kwarg=none)
 (ha:fd.params.args.map (·.arg)=names) (hl:vals.length=names.length) (hn:names.Nodup) (hd:fd.defaults=.none):bindArgs fd ⟨vals,[]⟩=pure (names.zip vals):=by
 have hm:∀ k,((names.take k).filter fun n=>((names.zip vals).lookup n).isNone)=[]:=fun k=>by
  rw[List.filter_eq_nil_iff]
  intro n hn h
  rw[Option.isNone_iff_eq_none] at h
  have:=zf1 hl n (List.mem_of_mem_take hn)
  rw[h] at this;cases this
 cases hp:fd.params with
 | mk p1 p2 p3 p4 p5 p6 p7=>
   rw[hp] at h1 h2 h3 h4 ha
   subst h1;subst h2;subst h3;subst h4;subst ha
   obtain⟨T1,T2,f,K,e,k⟩:=zlr (vals:=vals) hp hd
   rw[e,if_neg (by rw[hl];simp),hm,if_neg (by decide),List.drop_nil,List.zip_nil_right,List.forIn_nil,pure_bind,k,List.append_nil,zap hl hn]
section
variable{G:Gl}{F:Fm}{A:Around}{s:Shared}{β:List Addr}{ρ:Loc}{O:za}{cx:Cx}{gval:Nat→Option PyData}{gname:Nat→Option Str}
theorem zep(sr:SR G F β ρ O s.heap):Does G F A s β (evalPart none F.env) ((R.ok (V.d .none) O).lift ρ) (VRel G F):=
 Does.leaf sr fun Q E q=>wpAny_pure (q _ _ (KeepsAll.refl s) VR.none)
theorem znw{x:Expr}{lo hi:Option Expr}{ps p:Pos}{ra:R za V}{rl rh:za→R za V}
 (h1:Does G F A s β (eval x F.env) (ra.lift ρ) (VRel G F)) (h2:∀ s' β' O',SR G F β' ρ O' s'.heap→Does G F A s' β' (evalPart lo F.env) ((rl O').lift ρ) (VRel G F))
 (h3:∀ s' β' O',SR G F β' ρ O' s'.heap→Does G F A s' β' (evalPart hi F.env) ((rh O').lift ρ) (VRel G F)) :
 Does G F A s β (eval (.Subscript x (.Slice lo hi none ps) p) F.env) ((ra.bind fun v O=>(rl O).bind fun l O=>(rh O).bind fun h O=>zfl v l h O).lift ρ) (VRel G F):=by
 refine DoesW.seqE (T₂:=fun a Q E s₁=>wpAny (model G.prog G.w) A (evalPart lo F.env) (fun l s₂=>wpAny (model G.prog G.w) A (evalPart hi F.env) (fun u s₃=>
  wpAny (model G.prog G.w) A (subscriptTail x (.Slice lo hi none ps) a (.ref s₃.heap.objs.size)) Q E { s₃ with heap:=s₃.heap.push { cls:=.type "slice",data:=.fields #[l,u,.none] } }) E s₂) E s₁)
  (fun Q E h=>Subscript_ (wpAny_mono h (fun a s₁ h=>wpAny_Slice (wpAny_mono h (fun l s₂ h=>wpAny_mono h (fun u s₃ h=>wpAny_pure h) fun _ _ x=>x) fun _ _ x=>x)) fun _ _ x=>x)) h1 fun s' β' v d O' e st' sr rv=>?_
 refine DoesW.seqE (T₁:=tr G A (evalPart lo F.env)) (T₂:=fun l Q E s₂=>wpAny (model G.prog G.w) A (evalPart hi F.env) (fun u s₃=>
  wpAny (model G.prog G.w) A (subscriptTail x (.Slice lo hi none ps) v (.ref s₃.heap.objs.size)) Q E { s₃ with heap:=s₃.heap.push { cls:=.type "slice",data:=.fields #[l,u,.none] } }) E s₂) (fun Q E h=>h) (h2 s' β' O' sr) fun s₂ β₂ vl dl O₂ e₂ st₂ sr₂ rvl=>?_
 refine DoesW.seqE (T₁:=tr G A (evalPart hi F.env)) (T₂:=fun u Q E s₃=>
  wpAny (model G.prog G.w) A (subscriptTail x (.Slice lo hi none ps) v (.ref s₃.heap.objs.size)) Q E { s₃ with heap:=s₃.heap.push { cls:=.type "slice",data:=.fields #[vl,u,.none] } }) (fun Q E h=>h) (h3 s₂ β₂ O₂ sr₂) fun s₃ β₃ vh dh O₃ e₃ st₃ sr₃ rvh=>?_
 cases dl <;> first | trivial | skip
 cases dh <;> first | trivial | skip
 exact zlg sr₃ (rv.step sr.br sr.fm (st₂.trans st₃)) (rvl.step sr₂.br sr₂.fm st₃) rvh
structure FnAt(G:Gl)(x:Str)(a:Addr)(o:Obj)(fd:FuncData):Prop where
 name:G.mg x=some (.ref a)
 get:G.h₀.get? a=some o
 data:o.data=.func fd
noncomputable def FrA(A:Around)(F:Fm):Prop:=∃ l,A.frames=some l∧∀ env∈l,env.scope.kind≠.module∧∃ L,env.frame=some L∧L∈F.fr
noncomputable def ud(G:Gl)(A:Around)(fname:Nat→Option Str)(call:Nat→List V→za→R za V):Prop:=
 ∀ (F:Fm) (s:Shared) (β:List Addr) (ρ:Loc) (O:za) (f:Nat) (x:Str) (vals:List Value) (vs:List V),SR G F β ρ O s.heap→FrA A F→fname f=some x→VRs G F.B β s.heap vals vs →
  ∃ a o fd,FnAt G x a o fd∧Does G F A s β (PySem.call (.ref a) vals) ((call f vs O).lift ρ) (VRel G F)
theorem zrf{f:Nat}{x:Str}{e:Expr}{rest:List Expr}{p q:Pos}{r:R za (List V)}{call:Nat→List V→za→R za V}{fname:Nat→Option Str}(g:GOk G gval gname)(ck:ud G A fname call)(fr:FrA A F)(sr:SR G F β ρ O s.heap)(fit:Fits F cx)
 (hf:fname f=some x) (hx:cx.isGlob x=true) (he:starEach (e::rest) F.env=(false,eval e F.env)::starEach rest F.env)
 (h1:Does G F A s β (spliced (backTo q (starEach (e::rest) F.env))) (r.lift ρ) (VRsl G F)) :
 Does G F A s β (eval (.Call (.Name x p) (e::rest) [] q) F.env) ((r.bind fun vs O=>call f vs O).lift ρ) (VRel G F):=by
 obtain⟨a,o,fd,fa,_⟩:=ck F s β ρ O f x [] [] sr fr hf .nil
 refine DoesW.seqE (T₂:=fun vs Q E s₁=>s₁.heap.get? a=some o∧wpAny (model G.prog G.w) A (PySem.call (.ref a) vs) Q E s₁) (fun Q E h=>Call_Name rfl (zbn g sr fit hx fa.name (callWith_def fa.data h he))) h1 fun s' β' vals vs O' _ st sr' rvs=>?_
 obtain⟨a',o',fd',fa',dd⟩:=ck F s' β' ρ O' f x vals vs sr' fr hf rvs
 have:a'=a:=by have h1:=fa.name;have h2:=fa'.name;rw[h1] at h2;cases h2;rfl
 subst this
 exact dd.weaken (fun Q E h=>⟨sr'.br.keep _ _ fa.get,h⟩) fun _ _ _ _ h=>h
end
section
variable{G:Gl}{F:Fm}{A:Around}{s:Shared}{β:List Addr}{ρ:Loc}{O:za}
theorem gj{a:Addr}{s':Shared}{o':Obj}(sr:SR G F β ρ O s.heap)(ha:a∈F.W)(hg:s'.gens=s.gens)(ho:s'.os=s.os)(hs:Heap.SameBut a s.heap s'.heap)(hn:s'.heap.get? a=some o'):Step F.W β s s' β where
 gens:=hg
 os:=ho
 pre:=List.prefix_refl _
 fresh:=fun _ h=>.inl h
 alive:=fun b o e=>by
  by_cases hb:b=a
  ·subst hb;exact⟨o',hn⟩
  ·exact⟨o,(hs.2 b hb).trans e⟩
 kept:=fun b o e _ hW=>⟨o,(hs.2 b (fun h=>hW (h ▸ ha))).trans e,Kin.refl o⟩
theorem BR.write{a:Addr}{s':Shared}(sr:SR G F β ρ O s.heap)(ha:a∈F.W)(hs:Heap.SameBut a s.heap s'.heap)(st:Step F.W β s s' β):BR G F.B β O s'.heap:=by
 have aB:a∈F.B:=sr.fm.sub _ ha
 refine⟨fun c o e=>?_,sr.br.len,sr.br.nodup,sr.br.new,fun i b bx h1 h2=>?_,fun b hb=>(sr.br.plain b hb).at fun o e=>(hs.2 b fun h=>sr.fm.notBox _ aB (h ▸ hb)).trans e⟩
 ·refine (hs.2 c fun h=>?_).trans (sr.br.keep c o e)
  have:=sr.fm.newW ha;rw[← h,e] at this;cases this
 ·have hb:=sr.br.at_ i b bx h1 h2
  have hne:b≠a:=fun h=>sr.fm.notBox _ aB (h ▸ List.mem_of_getElem? h1)
  cases bx with
  | lst xs=>
    obtain⟨o,vs,n,e1,e2,e3,as,e4,e5⟩:=hb
    exact⟨o,vs,n,(hs.2 b hne).trans e1,e2,e3,as,(zx sr.br sr.fm st e4 e5).1,e5⟩
  | dct kvs=>
    obtain⟨o,es,n,e1,e2,e3,e4,e5⟩:=hb
    refine⟨o,es,n,(hs.2 b hne).trans e1,e2,e3,e4,fun i e kv he hkv=>?_⟩
    obtain⟨hq,as,bs,r1,r2,q⟩:=e5 i e kv he hkv
    exact⟨hq,as,bs,(z8 sr.br sr.fm st r1 fun a ha=>q a (List.mem_append_left _ ha)).1,(z8 sr.br sr.fm st r2 fun a ha=>q a (List.mem_append_right _ ha)).1,q⟩
theorem zgz{ρ:Loc}{i j:Nat}{d u:V}(h:(ρ.set i (some d))[j]?=some (some u)):(j=i∧u=d)∨(j≠i∧ρ[j]?=some (some u)):=by
 rw[List.getElem?_set] at h
 by_cases hij:i=j
 ·subst hij
  rw[if_pos rfl] at h
  split at h
  ·cases h;exact .inl ⟨rfl,rfl⟩
  ·cases h
 ·rw[if_neg hij] at h;exact .inr ⟨fun e=>hij e.symm,h⟩
theorem zhl{i:Nat}{x:Str}{v:Value}{d:V}(sr:SR G F β ρ O s.heap)(hx:F.names[i]?=some (some x))(hk:F.env.kindOf x=some .local∨F.env.kindOf x=some .cell)(own:F.own x=true)(rv:VR G F.B β s.heap v d) :
 Does G F A s β (storeName F.env x v) (.ok () (ρ.set i (some d),O)) (fun _ _ _ _=>True):=by
 intro Q E k
 obtain⟨m,hm⟩:=sr.fm.ns
 rcases hk with hk | hk
 ·refine wpAny_storeName_local hk hm (fun h' hn hs=>?_) (by show (F.env.scope.kind == .class || _)=false;rw[sr.fm.kind];rfl)
  obtain⟨o',es',ep',ho',hd',_⟩:=id hn
  have st:Step F.W β s { s with heap:=h',toks:=s.toks+1 } β:=gj sr sr.fm.nsW rfl rfl hs ho'
  refine k _ β () st ⟨BR.write (s':={ s with heap:=h',toks:=s.toks+1 }) sr sr.fm.nsW hs st,⟨sr.fm.kind,sr.fm.globals,sr.fm.builtins,sr.fm.once,⟨_,hn⟩,sr.fm.nsW,fun y h1=>?_,sr.fm.apart,sr.fm.sub,sr.fm.new,sr.fm.notBox,fun a ha=>?_,sr.fm.frB,fun a ha=>?_,fun m e=>absurd own (by rw[(sr.fm.pin m e).2 x];exact Bool.false_ne_true)⟩,fun j y u h1 h2=>?_⟩ trivial
  ·obtain⟨c,w,h3,⟨o,h4,h4'⟩,h5⟩:=sr.fm.cell y h1
   refine⟨c,w,h3,⟨o,(hs.2 c fun h=>?_).trans h4,h4'⟩,h5⟩
   obtain⟨o2,es,ep,q1,q2,_⟩:=hm
   rw[h] at h4;rw[h4] at q1;cases q1;rw[h4'] at q2;cases q2
  ·obtain⟨o,h1,h2⟩:=sr.fm.stor a ha
   by_cases hb:a=F.env.locals
   ·subst hb;exact⟨o',ho',fun vs n hv=>by rw[hd'] at hv;cases hv⟩
   ·exact⟨o,(hs.2 a hb).trans h1,h2⟩
  ·obtain⟨m',hm'⟩:=sr.fm.frs a ha
   by_cases hb:a=F.env.locals
   ·subst hb;exact⟨_,hn⟩
   ·exact⟨m',hm'.sameBut hs hb⟩
  ·rcases zgz h2 with ⟨rfl,rfl⟩ | ⟨hj,h2⟩
   ·rw[hx] at h1;cases h1
    exact⟨v,.inl ⟨hk,_,hn,by simp⟩,rv.step sr.br sr.fm st⟩
   ·obtain⟨val,g,r⟩:=sr.get j y u h1 h2
    have hyx:y≠x:=fun e=>hj (sr.fm.once j i x (e ▸ h1) hx)
    refine⟨val,?_,r.step sr.br sr.fm st⟩
    rcases g with ⟨g1,m',g2,g3⟩ | ⟨g1,c,g2,o,g3,g4⟩
    ·rw[zba g2 hm] at g3
     exact .inl ⟨g1,_,hn,by simp[hyx,g3]⟩
    ·refine .inr ⟨g1,c,g2,o,(hs.2 c fun h=>?_).trans g3,g4⟩
     obtain⟨o2,es,ep,q1,q2,_⟩:=hm
     rw[h] at g3;rw[g3] at q1;cases q1;rw[g4] at q2;cases q2
 ·obtain⟨c,w,hc,hcell,hcB,hcW⟩:=sr.fm.cell x hk
  have hcW:=hcW own
  refine wpAny_storeName_cell sr.fm.kind hk hc hcell fun h' hcell' hs=>?_
  obtain⟨o',ho',hd'⟩:=id hcell'
  have st:Step F.W β s { s with heap:=h' } β:=gj sr hcW rfl rfl hs ho'
  have hcL:F.env.locals≠c:=fun h=>by
   obtain⟨o2,es,ep,q1,q2,_⟩:=hm
   obtain⟨o3,q3,q4⟩:=hcell
   rw[← h,q1] at q3;cases q3;rw[q2] at q4;cases q4
  have hn':h'.Ns F.env.locals m:=hm.sameBut hs hcL
  refine k _ β () st ⟨BR.write (s':={ s with heap:=h' }) sr hcW hs st,⟨sr.fm.kind,sr.fm.globals,sr.fm.builtins,sr.fm.once,⟨m,hn'⟩,sr.fm.nsW,fun y h1=>?_,sr.fm.apart,sr.fm.sub,sr.fm.new,sr.fm.notBox,fun a ha=>?_,sr.fm.frB,fun a ha=>?_,fun m e=>absurd own (by rw[(sr.fm.pin m e).2 x];exact Bool.false_ne_true)⟩,fun j y u h1 h2=>?_⟩ trivial
  ·obtain⟨c',w',h3,h4,h5⟩:=sr.fm.cell y h1
   by_cases hcc:c'=c
   ·subst hcc;exact⟨c',_,h3,hcell',h5⟩
   ·exact⟨c',w',h3,h4.sameBut hs hcc,h5⟩
  ·obtain⟨o,h1,h2⟩:=sr.fm.stor a ha
   by_cases hb:a=c
   ·subst hb;exact⟨o',ho',fun vs n hv=>by rw[hd'] at hv;cases hv⟩
   ·exact⟨o,(hs.2 a hb).trans h1,h2⟩
  ·obtain⟨m',hm'⟩:=sr.fm.frs a ha
   refine⟨m',hm'.sameBut hs fun h=>?_⟩
   subst h
   obtain⟨o2,es,ep,q1,q2,_⟩:=hm'
   obtain⟨o3,q3,q4⟩:=hcell
   rw[q1] at q3;cases q3;rw[q2] at q4;cases q4
  ·rcases zgz h2 with ⟨rfl,rfl⟩ | ⟨hj,h2⟩
   ·rw[hx] at h1;cases h1
    exact⟨v,.inr ⟨hk,c,hc,hcell'⟩,rv.step sr.br sr.fm st⟩
   ·obtain⟨val,g,r⟩:=sr.get j y u h1 h2
    have hyx:y≠x:=fun e=>hj (sr.fm.once j i x (e ▸ h1) hx)
    refine⟨val,?_,r.step sr.br sr.fm st⟩
    rcases g with ⟨g1,m',g2,g3⟩ | ⟨g1,c',g2,g3⟩
    ·exact .inl ⟨g1,m',g2.sameBut hs hcL,g3⟩
    ·refine .inr ⟨g1,c',g2,g3.sameBut hs fun h=>?_⟩
     subst h
     exact hyx (sr.fm.apart _ _ _ g2 hc)
end
theorem zbf{s:Shared}{h':Heap}(he:Heap.ExtBut s.heap.objs.size s.heap h'):KeepsAll s { s with heap:=h' }:=
 ⟨rfl,rfl,fun b o e=>he b o (Nat.ne_of_lt (Heap.lt_size e)) e⟩
noncomputable def bindR(c:CT)(d:V)(S:Loc×za):R (Loc×za) Unit:=match zt c d S.1 with
 | some ρ'=>.ok () (ρ',S.2)
 | none=>.stuck
section
variable{G:Gl}{F:Fm}{A:Around}{cx:Cx}{own:Str→Bool}
theorem um(fit:Fits F cx){i:Nat}{x:Str}(h:cx.isLoc i x=true):F.names[i]?=some (some x)∧(F.env.kindOf x=some .local∨F.env.kindOf x=some .cell):=by
 obtain⟨h1,h2,_⟩:=un h
 exact⟨by rw[fit.names];exact h1,by rw[fit.kind];exact h2⟩
theorem ub{i:Nat}{e:Expr}(h:chkT cx own (.name i) e=true):∃ x p,e=.Name x p∧cx.isLoc i x=true∧own x=true:=by
 cases e with
 | Name x p=>obtain⟨h1,h2⟩:=and2 h;exact⟨x,p,rfl,h1,h2⟩
 | _=>exact (Bool.false_ne_true h).elim
theorem zev{a b:CT}{e:Expr}(h:chkT cx own (.two a b) e=true):∃ x y k p,e=.Tuple [x,y] k p∧chkT cx own a x=true∧chkT cx own b y=true:=by
 cases e with
 | Tuple l k p=>
   match l,h with
   | [x,y],h=>obtain⟨h1,h2⟩:=and2 h;exact⟨x,y,k,p,rfl,h1,h2⟩
   | [],h=>exact (Bool.false_ne_true h).elim
   | [_],h=>exact (Bool.false_ne_true h).elim
   | _::_::_::_,h=>exact (Bool.false_ne_true h).elim
 | _=>exact (Bool.false_ne_true h).elim
theorem x5{c:CT}{e:Expr}(h:chkT cx own c e=true)(env:Env)(rest:List Expr):assignEach (e::rest) env=(false,assign e env)::assignEach rest env:=by
 cases c with
 | name i=>obtain⟨_,_,rfl,_⟩:=ub h;rfl
 | two a b=>obtain⟨_,_,_,_,rfl,_⟩:=zev h;rfl
theorem zf2{x:PyData}{xs:List PyData}{N β:List Addr}{h:Heap}{v:Value}(r:VR G N β h v (.d x))(e:items x=some xs) :
 ∃ a o vs n,v=.ref a∧h.get? a=some o∧(o.cls=.type "tuple"∨o.cls=.type "list")∧o.data=.seq vs n∧∃ as,ReadsAll h vs.toList xs as∧∀ a∈as,a∉β∧a∉N:=by
 cases x with
 | list ys=>cases e;obtain⟨a,rfl,⟨o,vs,n,h1,h2,h3,as,h4,h5⟩,_⟩:=r.list_inv;exact⟨a,o,vs,n,rfl,h1,.inr h2,h3,as,h4,h5⟩
 | tuple ys=>cases e;obtain⟨a,o,vs,n,rfl,h1,h2,h3,as,h4,h5⟩:=r.tuple_inv;exact⟨a,o,vs,n,rfl,h1,.inl h2,h3,as,h4,h5⟩
 | _=>cases e
theorem wd{M:Model}{prog:Program}{w:World}{E:Value→Shared→Prop}{s:Shared}{env:Env}{elts:List Expr}{k:Nat}{pos:Pos}{a:Addr}{o:Obj}{vs:Array Value}{n:Nat}{Q:Unit→Shared→Prop}(hh:A.handled=none)
 (h1:s.heap.get? a=some o) (h2:o.cls=.type "tuple"∨o.cls=.type "list") (h3:o.data=.seq vs n) (hn:(assignEach elts env).length=vs.size) (hstar:(assignEach elts env).findIdx? (·.1)=none)
 (h:∀ s',KeepsAll s s'→wpAny (model prog w) A (assignInOrder ((assignEach elts env).map (·.2)) vs.toList) Q E s'):wpAny (model prog w) A (assign (.Tuple elts k pos) env (.ref a)) Q E s:=by
 rw[assign_Tuple]
 refine wpAny_bind (wpAny_standAt ?_)
 unfold unpack
 rw[hn,hstar]
 rcases h2 with h2 | h2
 ·exact wpAny_bind (wpAny_holding (unpackItems_tuple hh ⟨o,h1,h2,n,h3⟩ fun h' he=>h _ (zbf he)))
 ·exact wpAny_bind (wpAny_holding (PySem.W.kun_itemsOf hh ⟨o,h1,h2,n,h3⟩ fun h' he=>h _ (zbf he)))
theorem wi{h:Heap}{P:Addr→Prop}{vs:List Value}{y z:PyData}{as:List Addr}(r:ReadsAll h vs [y,z] as)(q:∀ a∈as,P a):∃ v u bs cs,vs=[v,u]∧Reads h v y bs∧(∀ a∈bs,P a)∧Reads h u z cs∧∀ a∈cs,P a:=by
 obtain⟨v1,b1,e1,r1,q1⟩:=zr r q (i:=0) rfl
 obtain⟨v2,b2,e2,r2,q2⟩:=zr r q (i:=1) rfl
 refine⟨v1,v2,b1,b2,?_,r1,q1,r2,q2⟩
 have hl:vs.length=2:=zf r
 clear r r1 r2
 cases vs with
 | nil=>cases e1
 | cons x l=>
   cases l with
   | nil=>cases e2
   | cons y l=>rw[List.eq_nil_of_length_eq_zero (Nat.succ.inj (Nat.succ.inj hl)),Option.some.inj e1,Option.some.inj e2]
noncomputable abbrev URel:List Addr→Heap→Unit→Unit→Prop:=fun _ _ _ _=>True
set_option tactic.hygienic true in
theorem xy(hh:A.handled=none)(fit:Fits F cx)(hown:∀ x,own x=true→F.own x=true):∀ (c:CT) {e:Expr} {s:Shared} {β:List Addr} {ρ:Loc} {O:za} {v:Value} {d:V},chkT cx own c e=true→SR G F β ρ O s.heap→VR G F.B β s.heap v d →
 Does G F A s β (assign e F.env v) (bindR c d (ρ,O)) URel:=by
 intro c
 induction c with
 | name i=>
   intro e s β ρ O v d h sr rv
   obtain⟨x,p,rfl,h1,h2⟩:=ub h
   obtain⟨g1,g2⟩:=um fit h1
   unfold bindR zt
   dsimp only
   split
   ·rename_i ρ' heq
    split at heq
    ·cases heq
     exact (zhl sr g1 g2 (hown x h2) rv).weaken (fun Q E h=>wpAny_assign_Name h) fun _ _ _ _ h=>h
    ·cases heq
   ·trivial
 | two a b iha ihb=>
   intro e s β ρ O v d h sr rv
   obtain⟨x,y,k,p,rfl,h1,h2⟩:=zev h
   have hn:∀ (vs:Array Value),vs.size=2→(assignEach [x,y] F.env).length=vs.size:=fun vs hv=>by rw[x5 h1,x5 h2,hv];rfl
   have hstar:(assignEach [x,y] F.env).findIdx? (·.1)=none:=by rw[x5 h1,x5 h2];rfl
   have hmap:(assignEach [x,y] F.env).map (·.2)=[assign x F.env,assign y F.env]:=by rw[x5 h1,x5 h2];rfl
   have both:∀ (s:Shared) (v1 v2:Value) (d1 d2:V),SR G F β ρ O s.heap→VR G F.B β s.heap v1 d1→VR G F.B β s.heap v2 d2 →
    DoesW G F s β (tr G A (assignInOrder [assign x F.env,assign y F.env] [v1,v2])) (match (zt a d1 ρ).bind (zt b d2) with | some ρ'=>.ok () (ρ',O) | none=>.stuck) URel:=by
    intro s v1 v2 d1 d2 sr r1 r2
    have da:=iha h1 sr r1
    have e1:(match (zt a d1 ρ).bind (zt b d2) with | some ρ'=>R.ok () (ρ',O) | none=>.stuck)=(bindR a d1 (ρ,O)).bind fun _ S=>bindR b d2 S:=by
     unfold bindR
     cases zt a d1 ρ <;> rfl
    rw[e1]
    refine DoesW.seq (T₂:=fun _ Q E s=>wpAny (model G.prog G.w) A (assign y F.env v2) (fun _ s=>Q () s) E s) (fun Q E h=>assignInOrder_cons (wpAny_mono h (fun _ s₁ h=>assignInOrder_cons (wpAny_mono h (fun _ s₂ h=>assignInOrder_nil h) fun _ _ x=>x)) fun _ _ x=>x)) da fun s' β' _ _ S e st sr' _=>?_
    exact ihb h2 sr' (r2.step sr.br sr.fm st)
   cases d with
   | d z=>
     show DoesW G F s β _ (match (match items z with | some [y',z']=>(zt a (.d y') ρ).bind (zt b (.d z')) | _=>none) with | some ρ'=>R.ok () (ρ',O) | none=>.stuck) _
     cases hi:items z with
     | none=>trivial
     | some l=>
       match l,hi with
       | [y',z'],hi=>
         obtain ⟨ad,o,vs,n,rfl,g1,g2,g3,as,r,q⟩:=zf2 rv hi
         obtain ⟨v1,v2,bs,cs,hvs,r1,q1,r2,q2⟩:=wi r q
         have hsz:vs.size=2:=by rw [← Array.length_toList,hvs];rfl
         have kall:∀ s',KeepsAll s s'→DoesW G F s' β (tr G A (assignInOrder [assign x F.env,assign y F.env] [v1,v2])) (match (zt a (.d y') ρ).bind (zt b (.d z')) with | some ρ'=>.ok () (ρ',O) | none=>.stuck) URel:=fun s' ka=>
          both s' v1 v2 (.d y') (.d z') (sr.keepAll ka.kept) ⟨bs,z6 ka.kept r1,q1⟩ ⟨cs,z6 ka.kept r2,q2⟩
         dsimp only
         cases hb:(zt a (.d y') ρ).bind (zt b (.d z')) with
         | none=>trivial
         | some ρ'=>
           intro Q E kk
           refine wd (M:=model G.prog G.w) hh g1 g2 g3 (hn vs hsz) hstar fun s' ka=>?_
           rw [hmap,hvs]
           have dd:=kall s' ka
           rw [hb] at dd
           exact dd Q E fun s'' β' u st sr'' r=>kk s'' β' u ((ka.step _ _).trans st) sr'' r
       | [],_=>trivial
       | [_],_=>trivial
       | _::_::_::_,_=>trivial
   | tm its=>trivial
   | box n=>trivial
end
noncomputable def Itr(h:Heap)(z:Addr):Prop:=∃ o T fs,h.get? z=some o∧o.cls=.type T∧o.data=.fields fs
structure KeepsZ(Z:List Addr)(s s':Shared):Prop where
 gens:s'.gens=s.gens
 os:s'.os=s.os
 kept:∀ b o,b∉Z→s.heap.get? b=some o→s'.heap.get? b=some o
theorem KeepsZ.refl(Z:List Addr)(s:Shared):KeepsZ Z s s:=⟨rfl,rfl,fun _ _ _ e=>e⟩
theorem KeepsZ.trans{Z:List Addr}{s s' s'':Shared}(x:KeepsZ Z s s')(y:KeepsZ Z s' s''):KeepsZ Z s s'':=⟨y.gens.trans x.gens,y.os.trans x.os,fun b o hb e=>y.kept b o hb (x.kept b o hb e)⟩
theorem KeepsAll.z{s s':Shared}(x:KeepsAll s s')(Z:List Addr):KeepsZ Z s s':=⟨x.gens,x.os,fun b o _ e=>x.kept b o e⟩
theorem Step.thenZ{W β₀ β Z:List Addr}{s₀ s s':Shared}(st:Step W β₀ s₀ s β)(k:KeepsZ Z s s')(hz:∀ z∈Z,s₀.heap.get? z=none):Step W β₀ s₀ s' β where
 gens:=k.gens.trans st.gens
 os:=k.os.trans st.os
 pre:=st.pre
 fresh:=st.fresh
 alive:=fun b o e=>by
  obtain⟨o',e'⟩:=st.alive b o e
  exact⟨o',k.kept b o' (fun h=>by rw[hz b h] at e;cases e) e'⟩
 kept:=fun b o e hb hW=>let ⟨o',e',kn⟩:=st.kept b o e hb hW;⟨o',k.kept b o' (fun h=>by rw[hz b h] at e;cases e) e',kn⟩
inductive ze7(h:Heap)(a:Addr):Prop
 | mk (o:Obj) (e:h.get? a=some o) (hd:∀ fs,o.data≠.fields fs)
theorem zpl{d:Data}{vs:Array Value}{n:Nat}(h:d=.seq vs n):∀ fs,d≠.fields fs:=fun fs e=>by rw[h] at e;cases e
theorem znt{d:Data}{vs:Array DictEntry}{n:Nat}(h:d=.dict vs n):∀ fs,d≠.fields fs:=fun fs e=>by rw[h] at e;cases e
theorem pf{h:Heap}{v:Value}{x:PyData}{as:List Addr}(r:Reads h v x as):∀ a∈as,ze7 h a:=
 Reads.rec (motive_1:=fun _ _ as _=>∀ a∈as,ze7 h a) (motive_2:=fun _ _ as _=>∀ a∈as,ze7 h a)
  (fun _ h=>nomatch h) (fun _ _ h=>nomatch h) (fun _ _ _ h=>nomatch h) (fun _ _ _ h=>nomatch h)
  (fun h1 _ h3 _ ih a ha=>(List.mem_cons.mp ha).elim (fun e=>e ▸ ⟨_,h1,zpl h3⟩) (ih a))
  (fun _ _ _ _ ih=>ih)
  (fun h1 _ h3 _ _ ih ih' a ha=>(List.mem_append.mp ha).elim (fun ha=>(List.mem_cons.mp ha).elim (fun e=>e ▸ ⟨_,h1,znt h3⟩) (ih a)) (ih' a))
  (fun _ h=>nomatch h) (fun _ _ i1 i2 a ha=>(List.mem_append.mp ha).elim (i1 a) (i2 a)) r
theorem zcb{h:Heap}{vs:List Value}{xs:List PyData}{as:List Addr}(r:ReadsAll h vs xs as):∀ a∈as,ze7 h a:=
 ReadsAll.rec (motive_1:=fun _ _ _ _=>True) (motive_2:=fun _ _ as _=>∀ a∈as,ze7 h a)
  trivial (fun _=>trivial) (fun _ _=>trivial) (fun _ _=>trivial) (fun _ _ _ _ _=>trivial) (fun _ _ _ _ _=>trivial) (fun _ _ _ _ _ _ _=>trivial)
  (fun _ h=>nomatch h) (fun r _ _ i2 a ha=>(List.mem_append.mp ha).elim (pf r a) (i2 a)) r
section
variable{G:Gl}{F:Fm}{N β Z:List Addr}{ρ:Loc}{O:za}{h h':Heap}
theorem notZ(hz:∀ z∈Z,Itr h z){b:Addr}{o:Obj}(e:h.get? b=some o)(hd:∀ fs,o.data≠.fields fs):b∉Z:=fun hb=>by
 obtain⟨o',T,fs,e',_,hf⟩:=hz b hb
 rw[e] at e';cases e';exact hd fs hf
section
variable(hz:∀ z∈Z,Itr h z)(hk:∀ b o,b∉Z→h.get? b=some o→h'.get? b=some o)
include hz hk
theorem getZ{b:Addr}{o:Obj}(e:h.get? b=some o)(hd:∀ fs,o.data≠.fields fs):h'.get? b=some o:=hk b o (notZ hz e hd) e
theorem jo{v:Value}{x:PyData}{as:List Addr}(r:Reads h v x as):Reads h' v x as:=
 jb (P:=fun b=>b∉Z) (fun b o e hb=>hk b o hb e) (fun b o vs n e _ hd=>notZ hz e fun fs q=>by rw[hd] at q;cases q) r fun a ha=>let ⟨o,e,hd⟩:=pf r a ha;notZ hz e hd
theorem gs{vs:List Value}{xs:List PyData}{as:List Addr}(r:ReadsAll h vs xs as):ReadsAll h' vs xs as:=
 xr (P:=fun b=>b∉Z) (fun b o e hb=>hk b o hb e) (fun b o vs n e _ hd=>notZ hz e fun fs q=>by rw[hd] at q;cases q) r fun a ha=>let ⟨o,e,hd⟩:=zcb r a ha;notZ hz e hd
theorem zga{vs:List Value}{its:List It}(r:ItsR N β h vs its):ItsR N β h' vs its:=by
 induction r with
 | nil=>exact .nil
 | b h1 _ ih=>exact .b h1 ih
 | x h1 h2 _ ih=>exact .x (jo hz hk h1) h2 ih
theorem VR.keepZ(hc:∀ c,∃ C,G.cls c=.ref C){v:Value}{x:V}(r:VR G N β h v x):VR G N β h' v x:=by
 cases x with
 | d x=>obtain⟨as,r,q⟩:=r;exact⟨as,jo hz hk r,q⟩
 | box n=>exact r
 | tm its=>obtain⟨a,o,vs,k,e,h1,h2,h3,h4⟩:=r;exact⟨a,o,vs,k,e,getZ hz hk h1 (fun fs q=>by rw[h3] at q;cases q),h2,h3,zga hz hk h4⟩
theorem BoxAt.keepZ{a:Addr}{bx:Box}(r:BoxAt h N β a bx):BoxAt h' N β a bx:=by
 cases bx with
 | lst xs=>obtain⟨o,vs,n,h1,h2,h3,as,h4,h5⟩:=r;exact⟨o,vs,n,getZ hz hk h1 (fun fs q=>by rw[h3] at q;cases q),h2,h3,as,gs hz hk h4,h5⟩
 | dct kvs=>
   obtain⟨o,es,n,h1,h2,h3,h4,h5⟩:=r
   refine⟨o,es,n,getZ hz hk h1 (fun fs q=>by rw[h3] at q;cases q),h2,h3,h4,fun i e kv he hkv=>?_⟩
   obtain⟨hq,as,bs,r1,r2,q⟩:=h5 i e kv he hkv
   exact⟨hq,as,bs,jo hz hk r1,jo hz hk r2,q⟩
theorem BR.notItr{O:za}(b:BR G N β O h){a:Addr}(ha:a∈β):a∉Z:=by
 obtain⟨i,hi⟩:=List.getElem?_of_mem ha
 have hl:i < O.length:=by rw[← b.len];exact (List.getElem?_eq_some_iff.mp hi).1
 have hx:=b.at_ i a _ hi (List.getElem?_eq_getElem hl)
 cases hb:O[i] with
 | lst xs=>rw[hb] at hx;obtain⟨o',vs,n,h1,h2,h3,_⟩:=hx;exact notZ hz h1 fun fs q=>by rw[h3] at q;cases q
 | dct kvs=>rw[hb] at hx;obtain⟨o',vs,n,h1,h2,h3,_⟩:=hx;exact notZ hz h1 fun fs q=>by rw[h3] at q;cases q
theorem BR.keepZ(hz0:∀ z∈Z,G.h₀.get? z=none)(b:BR G N β O h):BR G N β O h':=
 ⟨fun c o e=>hk _ _ (fun hb=>by rw[hz0 c hb] at e;cases e) (b.keep c o e),b.len,b.nodup,b.new,fun i a bx h1 h2=>(b.at_ i a bx h1 h2).keepZ hz hk,fun a ha=>(b.plain a ha).at fun o e=>hk a o (BR.notItr hz hk b ha) e⟩
theorem nsZ{L:Addr}{m:Str→Option Value}(x:h.Ns L m):h'.Ns L m:=by
 obtain⟨o,es,ep,h1,h2,r⟩:=x
 exact⟨o,es,ep,getZ hz hk h1 (fun fs q=>by rw[h2] at q;cases q),h2,r⟩
theorem zou{c:Addr}{v:Option Value}(x:h.IsCell c v):h'.IsCell c v:=by
 obtain⟨o,h1,h2⟩:=x
 exact⟨o,getZ hz hk h1 (fun fs q=>by rw[h2] at q;cases q),h2⟩
theorem Get.keepZ{env:Env}{x:Str}{v:Value}(g:Get h env x v):Get h' env x v:=by
 rcases g with ⟨h1,m,h2,h3⟩ | ⟨h1,c,h2,h3⟩
 ·exact .inl ⟨h1,m,nsZ hz hk h2,h3⟩
 ·exact .inr ⟨h1,c,h2,zou hz hk h3⟩
theorem FmOk.keepZ(hzB:∀ z∈Z,z∉F.B)(f:FmOk G F β h):FmOk G F β h' where
 kind:=f.kind
 globals:=f.globals
 builtins:=f.builtins
 once:=f.once
 ns:=let ⟨m,e⟩:=f.ns;⟨m,nsZ hz hk e⟩
 nsW:=f.nsW
 cell:=fun x h1=>let ⟨c,v,h3,h4,h5⟩:=f.cell x h1;⟨c,v,h3,zou hz hk h4,h5⟩
 apart:=f.apart
 sub:=f.sub
 new:=f.new
 notBox:=f.notBox
 stor:=fun a ha=>let ⟨o,h1,h2⟩:=f.stor a ha;⟨o,hk _ _ (fun hb=>hzB a hb ha) h1,h2⟩
 frB:=f.frB
 frs:=fun a ha=>let ⟨m,e⟩:=f.frs a ha;⟨m,nsZ hz hk e⟩
 pin:=fun m e=>⟨nsZ hz hk (f.pin m e).1,(f.pin m e).2⟩
theorem SR.keepZ(hc:∀ c,∃ C,G.cls c=.ref C)(hz0:∀ z∈Z,G.h₀.get? z=none)(hzB:∀ z∈Z,z∉F.B)(r:SR G F β ρ O h):SR G F β ρ O h':=
 ⟨r.br.keepZ hz hk hz0,r.fm.keepZ hz hk hzB,fun i x v h1 h2=>let ⟨val,h3,h4⟩:=r.get i x v h1 h2;⟨val,h3.keepZ hz hk,h4.keepZ hz hk hc⟩⟩
end
end
noncomputable def Src.Has(s:Src)(O:za):Prop:=match s with
 | .plain _=>True
 | .box n xs=>O[n]?=some (.lst xs)
theorem Src.has_of{s:Src}{O:za}(h:s.still O=true):s.Has O:=by
 cases s with
 | plain xs=>trivial
 | box n xs=>exact @of_decide_eq_true _ (Classical.propDecidable _) h
structure Turns(G:Gl)(A:Around)(target:Expr)(I:Addr)(Z:List Addr)(src:Src)(St:Nat→List Addr→List Addr→Heap→Prop):Prop where
 itr:∀ i N β h,St i N β h→∀ z∈Z,Itr h z
 keep:∀ i N N' β β' h h',St i N β h→(∀ z∈Z,∀ o,h.get? z=some o→h'.get? z=some o)→(∀ v x,VR G N β h v (.d x)→VR G N' β' h' v (.d x))→β <+: β'→St i N' β' h'
 item:∀ i N β O s x (Q:Option Value→Shared→Prop) (E:Value→Shared→Prop),src.xs[i]?=some x→BR G N β O s.heap→src.Has O→St i N β s.heap →
  (∀ v s',(∀ (Q':Unit→Shared→Prop) (E':Value→Shared→Prop),(∀ s'',KeepsZ Z s s''→VR G N β s''.heap v (.d x)→St (i+1) N β s''.heap→Q' () s'')→wpAny (model G.prog G.w) A (letOwnedTupleGo target (.ref I) v) Q' E' s')→Q (some v) s') →
  wpAny (model G.prog G.w) A (pyNext (.ref I)) Q E s
 done:∀ i N β O s (Q:Option Value→Shared→Prop) (E:Value→Shared→Prop),src.xs.length=i→BR G N β O s.heap→src.Has O→St i N β s.heap →
  (∀ s',KeepsZ Z s s'→Q none s')→wpAny (model G.prog G.w) A (pyNext (.ref I)) Q E s
 self:∀ i N β s (Q:Value→Shared→Prop) (E:Value→Shared→Prop),St i N β s.heap→Q (.ref I) s→wpAny (model G.prog G.w) A (pyIter (.ref I)) Q E s
set_option tactic.hygienic true in
theorem ww{prog:Program}{w:World}{A:Around}{E:Value→Shared→Prop}{s:Shared}{target:Expr}{I:Addr}{v:Value}{o:Obj}{T:String}{Q:Unit→Shared→Prop}(ho:s.heap.get? I=some o)(hc:o.cls=.type T)
 (hT:["enumerate","zip","dict_itemiterator","dict_reverseitemiterator","odict_iterator","itertools.zip_longest","itertools.pairwise"].contains T=false) (hQ:Q () s) :
 wpAny (model prog w) A (letOwnedTupleGo target (.ref I) v) Q E s:=by
 have main:∀ a:Addr,wpAny (model prog w) A (do
  let o ← load I
  match o.cls,o.data with
  | .type n,.fields vs=>
    if ["enumerate","zip","dict_itemiterator","dict_reverseitemiterator","odict_iterator","itertools.zip_longest","itertools.pairwise"].contains n && vs[0]? == some (rawInt a) then
     rule "for.unpacks-the-owned-tuple"
     updateField I 0 .none
  | _,_=>pure ():Sem Unit) Q E s:=by
  intro a
  refine wpAny_bind (wpAny_load ho ?_)
  rw[hc]
  cases o.data <;> first | exact wpAny_pure hQ | skip
  rename_i vs
  dsimp only
  rw[if_neg (by rw[hT,Bool.false_and];exact Bool.false_ne_true)]
  exact wpAny_pure hQ
 unfold letOwnedTupleGo
 cases target <;> first | exact wpAny_pure hQ | skip
 all_goals
  cases v <;> first | exact wpAny_pure hQ | exact main _
theorem jq{s:Shared}{I:Addr}{h':Heap}{tk:Nat}(hs:Heap.SameBut I s.heap h'):KeepsZ [I] s { s with heap:=h',toks:=tk }:=
 ⟨rfl,rfl,fun b o hb e=>(hs.2 b fun h=>hb (by simp[h])).trans e⟩
theorem ki{s:Shared}{I:Addr}{h':Heap}(hs:Heap.ExtBut I s.heap h'):KeepsZ [I] s { s with heap:=h' }:=
 ⟨rfl,rfl,fun b o hb e=>hs b o (fun h=>hb (by simp[h])) e⟩
section
variable{G:Gl}{A:Around}{target:Expr}(hc:∀ c,∃ C,G.cls c=.ref C)
theorem qd{h:Heap}{I l:Addr}{i:Nat}(x:h.IsListIter I l i):∀ z∈[I],Itr h z:=fun z hz=>by
 obtain⟨o,h1,h2,h3⟩:=x
 rw[List.mem_singleton.mp hz];exact⟨o,_,_,h1,h2,h3⟩
theorem q7{h:Heap}{N β:List Addr}{a:Addr}{xs:List PyData}(r:VR G N β h (.ref a) (.d (.list xs))):ListAt h N β a xs∧a∉β∧a∉N:=by
 obtain⟨a',e,h1,h2⟩:=r.list_inv
 cases e;exact⟨h1,h2⟩
include hc in
theorem Turns.list(hh:A.handled=none)(I ax:Addr)(xs:List PyData):Turns G A target I [I] (.plain xs) (fun i N β h=>h.IsListIter I ax i∧VR G N β h (.ref ax) (.d (.list xs))) where
 itr:=fun i N β h st=>qd st.1
 keep:=fun i N N' β β' h h' st k1 k2 _=>⟨st.1.at fun o e=>k1 I (by simp) o e,k2 _ _ st.2⟩
 item:=fun i N β O s x Q E hx br has st k=>by
  obtain⟨⟨o,vs,n,h1,h2,h3,as,h4,h5⟩,_⟩:=q7 st.2
  obtain⟨v,cs,e1,e2,e3⟩:=zr h4 h5 (i:=i) hx
  refine wpAny_pyNext_list_item st.1 ⟨o,h1,h2,n,h3⟩ (x:=v) (by rw[← Array.getElem?_toList];exact e1) fun h' hit' hs'=>?_
  obtain⟨o',q1,q2,q3⟩:=id hit'
  have kz:KeepsZ [I] s { s with heap:=h' }:=jq hs'
  have rv:VR G N β h' v (.d x):=VR.keepZ (qd st.1) kz.kept hc ⟨cs,e2,e3⟩
  exact k v _ fun Q' E' k'=>ww q1 q2 (by decide) (k' _ kz rv ⟨hit',VR.keepZ (qd st.1) kz.kept hc st.2⟩)
 done:=fun i N β O s Q E hx br has st k=>by
  obtain⟨⟨o,vs,n,h1,h2,h3,as,h4,h5⟩,_⟩:=q7 st.2
  refine wpAny_pyNext_list_end hh st.1 ⟨o,h1,h2,n,h3⟩ ?_ fun h' he=>k _ (ki he)
  rw[Array.getElem?_eq_none]
  rw[← Array.length_toList,zf h4];exact Nat.le_of_eq hx
 self:=fun i N β s Q E st q=>wpAny_pyIter_listiter st.1 q
include hc in
theorem Turns.box(hh:A.handled=none)(I ax:Addr)(n:Nat)(xs:List PyData):Turns G A target I [I] (.box n xs) (fun i N β h=>h.IsListIter I ax i∧β[n]?=some ax) where
 itr:=fun i N β h st=>qd st.1
 keep:=fun i N N' β β' h h' st k1 k2 p=>⟨st.1.at fun o e=>k1 I (by simp) o e,x4 p st.2⟩
 item:=fun i N β O s x Q E hx br has st k=>by
  obtain⟨o,vs,n,h1,h2,h3,as,h4,h5⟩:=br.at_ n ax (.lst xs) st.2 has
  obtain⟨v,cs,e1,e2,e3⟩:=zr h4 h5 (i:=i) hx
  refine wpAny_pyNext_list_item st.1 ⟨o,h1,h2,n,h3⟩ (x:=v) (by rw[← Array.getElem?_toList];exact e1) fun h' hit' hs'=>?_
  obtain⟨o',q1,q2,q3⟩:=id hit'
  have kz:KeepsZ [I] s { s with heap:=h' }:=jq hs'
  have rv:VR G N β h' v (.d x):=VR.keepZ (qd st.1) kz.kept hc ⟨cs,e2,e3⟩
  exact k v _ fun Q' E' k'=>ww q1 q2 (by decide) (k' _ kz rv ⟨hit',st.2⟩)
 done:=fun i N β O s Q E hx br has st k=>by
  obtain⟨o,vs,n,h1,h2,h3,as,h4,h5⟩:=br.at_ n ax (.lst xs) st.2 has
  refine wpAny_pyNext_list_end hh st.1 ⟨o,h1,h2,n,h3⟩ ?_ fun h' he=>k _ (ki he)
  rw[Array.getElem?_eq_none]
  rw[← Array.length_toList,zf h4];exact Nat.le_of_eq hx
 self:=fun i N β s Q E st q=>wpAny_pyIter_listiter st.1 q
theorem zck{h:Heap}{I l:Addr}{i:Nat}(x:IsTupIter h I l i):∀ z∈[I],Itr h z:=fun z hz=>by
 obtain⟨o,h1,h2,h3⟩:=x
 rw[List.mem_singleton.mp hz];exact⟨o,_,_,h1,h2,h3⟩
include hc in
theorem Turns.tuple(hh:A.handled=none)(I ax:Addr)(xs:List PyData):Turns G A target I [I] (.plain xs) (fun i N β h=>IsTupIter h I ax i∧VR G N β h (.ref ax) (.d (.tuple xs))) where
 itr:=fun i N β h st=>zck st.1
 keep:=fun i N N' β β' h h' st k1 k2 _=>⟨by obtain⟨o,e,r⟩:=st.1;exact⟨o,k1 I (by simp) o e,r⟩,k2 _ _ st.2⟩
 item:=fun i N β O s x Q E hx br has st k=>by
  obtain⟨a',o,vs,n,e,h1,h2,h3,as,h4,h5⟩:=st.2.tuple_inv
  cases e
  obtain⟨v,cs,e1,e2,e3⟩:=zr h4 h5 (i:=i) hx
  refine next_tuple_item st.1 ⟨o,h1,h2,n,h3⟩ (x:=v) (by rw[← Array.getElem?_toList];exact e1) fun h' hit' hs'=>?_
  obtain⟨o',q1,q2,q3⟩:=id hit'
  have kz:KeepsZ [I] s { s with heap:=h' }:=jq hs'
  have rv:VR G N β h' v (.d x):=VR.keepZ (zck st.1) kz.kept hc ⟨cs,e2,e3⟩
  exact k v _ fun Q' E' k'=>ww q1 q2 (by decide) (k' _ kz rv ⟨hit',VR.keepZ (zck st.1) kz.kept hc st.2⟩)
 done:=fun i N β O s Q E hx br has st k=>by
  obtain⟨a',o,vs,n,e,h1,h2,h3,as,h4,h5⟩:=st.2.tuple_inv
  cases e
  refine next_tuple_end hh st.1 ⟨o,h1,h2,n,h3⟩ ?_ fun h' he=>k _ (ki he)
  rw[Array.getElem?_eq_none]
  rw[← Array.length_toList,zf h4];exact Nat.le_of_eq hx
 self:=fun i N β s Q E st q=>wpAny_pyIter_tupleiter st.1 q
theorem zfu{a b:Int}{i:Nat}{x:PyData}(h:(zj a b)[i]?=some x):x=.int (a+i)∧i < (b - a).toNat:=by
 unfold zj at h
 rw[List.getElem?_map] at h
 cases e:(List.range (b - a).toNat)[i]? with
 | none=>rw[e] at h;cases h
 | some j=>
   rw[e] at h
   have hi:i < (List.range (b - a).toNat).length:=by
    rcases Nat.lt_or_ge i (List.range (b - a).toNat).length with h | h
    ·exact h
    ·rw[List.getElem?_eq_none h] at e;cases e
   rw[List.getElem?_eq_getElem hi,List.getElem_range] at e
   cases e;cases h
   exact⟨rfl,by simpa using hi⟩
theorem zan{a b:Int}:(zj a b).length=(b - a).toNat:=by simp[zj]
theorem zih{h:Heap}{I:Addr}{x l st:Int}(q:IsRangeIter h I x l st):∀ z∈[I],Itr h z:=fun z hz=>by
 rw[List.mem_singleton.mp hz];exact⟨_,_,_,q,rfl,rfl⟩
include hc in
theorem Turns.range(hh:A.handled=none)(I:Addr)(a b:Int):Turns G A target I [I] (.plain (zj a b)) (fun i N β h=>IsRangeIter h I (a+(i:Nat)) (((b - a).toNat:Int) - (i:Nat)) 1) where
 itr:=fun i N β h st=>zih st
 keep:=fun i N N' β β' h h' st k1 k2 _=>k1 I (by simp) _ st
 item:=fun i N β O s x Q E hx br has st k=>by
  obtain⟨rfl,hi⟩:=zfu hx
  refine wpAny_pyNext_range_item st (by omega) fun h' hit' hs'=>?_
  have kz:KeepsZ [I] s { s with heap:=h',toks:=s.toks+1 }:=jq hs'
  refine k _ _ fun Q' E' k'=>ww hit' rfl (by decide) (k' _ kz VR.int ?_)
  have e1:a+((i+1:Nat):Int)=a+(i:Int)+1:=by push_cast;omega
  have e2:((b - a).toNat:Int) - ((i+1:Nat):Int)=((b - a).toNat:Int) - (i:Int) - 1:=by push_cast;omega
  rw[e1,e2];exact hit'
 done:=fun i N β O s Q E hx br has st k=>wpAny_pyNext_range_end hh st (by have:(zj a b).length=i:=hx;rw[zan] at this;omega) fun h' he=>k _ (ki he)
 self:=fun i N β s Q E st q=>wpAny_pyIter_rangeiter st q
end
section
variable{G:Gl}{F:Fm}{A:Around}{s:Shared}{β:List Addr}{ρ:Loc}{O:za}{cx:Cx}{gval:Nat→Option PyData}{gname:Nat→Option Str}
theorem w3{α:Type}{x:Str}{fv:Value}{e:Expr}{rest:List Expr}{p q:Pos}{r:R za (List V)}{k:List V→za→R za α}{Rel:List Addr→Heap→Value→α→Prop}(g:GOk G gval gname)(sr:SR G F β ρ O s.heap)(fit:Fits F cx)
 (hx:cx.isGlob x=true) (hb:(x,fv)∈bis) (hfv:(∃ id,fv=.builtin id)∨∃ T,fv=.type T)
 (he:starEach (e::rest) F.env=(false,eval e F.env)::starEach rest F.env) (hplain:(backTo q (starEach rest F.env)).any (·.1)=false)
 (h1:Does G F A s β (spliced (backTo q (starEach (e::rest) F.env))) (r.lift ρ) (VRsl G F))
 (h2:∀ s' β' vals vs O',r=.ok vs O'→Step F.W β s s' β'→SR G F β' ρ O' s'.heap→VRs G F.B β' s'.heap vals vs→Does G F A s' β' (call fv vals) ((k vs O').lift ρ) Rel) :
 Does G F A s β (eval (.Call (.Name x p) (e::rest) [] q) F.env) ((r.bind k).lift ρ) Rel:=by
 obtain⟨b1,b2⟩:=g.bi _ hb
 refine DoesW.seqE (T₂:=fun vs=>tr G A (call fv vs)) (fun Q E h=>Call_Name rfl (yo g sr fit hx b1 b2 ?_)) h1 fun s' β' vals vs O' e' st sr' rvs=>h2 s' β' vals vs O' e' st sr' rvs
 rcases hfv with ⟨id,rfl⟩ | ⟨T,rfl⟩
 ·exact callWith_builtin1 h he hplain
 ·exact callWith_type1 h he hplain
noncomputable def IRel(G:Gl)(F:Fm)(A:Around)(target:Expr)(s:Shared):List Addr→Heap→Value→Src→Prop:=fun β h v src=>
 ∃ I Z St,v=.ref I∧Turns G A target I Z src St∧St 0 F.B β h∧∀ z∈Z,s.heap.get? z=none
theorem IRel.back{target:Expr}{s':Shared}{β':List Addr}{h:Heap}{v:Value}{src:Src}{β₁:List Addr}{W:List Addr}(st:Step W β s s' β')(r:IRel G F A target s' β₁ h v src):IRel G F A target s β₁ h v src:=by
 obtain⟨I,Z,St,e,t,h0,hz⟩:=r
 refine⟨I,Z,St,e,t,h0,fun z hz'=>?_⟩
 cases e:s.heap.get? z with
 | none=>rfl
 | some o=>obtain⟨o',e'⟩:=st.alive z o e;rw[hz z hz'] at e';cases e'
noncomputable abbrev zbg(G:Gl)(A:Around)(x:Expr)(env:Env):WT Value:=fun Q E s=>wpAny (model G.prog G.w) A (eval x env) (fun xv s₁=>wpAny (model G.prog G.w) A (pyIter xv) Q E s₁) E s
theorem z7(s:Shared):s.heap.get? s.heap.objs.size=none:=Heap.get?_none_of_le (Nat.le_refl _)
theorem zlj{target:Expr}{v:Value}{d:V}(g:GOk G gval gname)(hh:A.handled=none)(sr:SR G F β ρ O s.heap)(rv:VR G F.B β s.heap v d) :
 Does G F A s β (pyIter v) ((match d with
  | .d x=>opt ((items x).map Src.plain) O
  | .box n=>(match O[n]? with
     | some (.lst xs)=>R.ok (Src.box n xs) O
     | _=>.stuck)
  | _=>.stuck).lift ρ) (IRel G F A target s):=by
 cases d with
 | d x=>
   cases x with
   | list xs=>
     obtain⟨a,rfl,⟨o,vs,n,h1,h2,h3,as,h4,h5⟩,h6⟩:=rv.list_inv
     refine Does.leaf sr fun Q E k=>wpAny_pyIter_list ⟨o,h1,h2,n,h3⟩ (k _ _ (KeepsAll.push s _ _) ?_)
     exact⟨_,_,_,rfl,Turns.list g.clsRef hh _ a xs,⟨⟨_,Heap.get?_push_size _ rfl,rfl,rfl⟩,rv.keepAll (fun _ _ e=>Heap.get?_push_of_some _ e)⟩,fun z hz=>by rw[List.mem_singleton.mp hz];exact z7 s⟩
   | tuple xs=>
     obtain⟨a,o,vs,n,rfl,h1,h2,h3,as,h4,h5⟩:=rv.tuple_inv
     refine Does.leaf sr fun Q E k=>iter_tuple ⟨o,h1,h2,n,h3⟩ (k _ _ (KeepsAll.push s _ _) ?_)
     exact⟨_,_,_,rfl,Turns.tuple g.clsRef hh _ a xs,⟨⟨_,Heap.get?_push_size _ rfl,rfl,rfl⟩,rv.keepAll (fun _ _ e=>Heap.get?_push_of_some _ e)⟩,fun z hz=>by rw[List.mem_singleton.mp hz];exact z7 s⟩
   | _=>trivial
 | box n=>
   obtain⟨a,ha,rfl⟩:=rv
   dsimp only
   cases hO:O[n]? with
   | none=>trivial
   | some bx=>cases bx with
     | dct kvs=>trivial
     | lst xs=>
       obtain⟨o,vs,k',h1,h2,h3,as,h4,h5⟩:=sr.br.at_ n a (.lst xs) ha hO
       refine Does.leaf sr fun Q E k=>wpAny_pyIter_list ⟨o,h1,h2,k',h3⟩ (k _ _ (KeepsAll.push s _ _) ?_)
       exact⟨_,_,_,rfl,Turns.box g.clsRef hh _ a n xs,⟨⟨_,Heap.get?_push_size _ rfl,rfl,rfl⟩,ha⟩,fun z hz=>by rw[List.mem_singleton.mp hz];exact z7 s⟩
 | _=>trivial
theorem zll{target x:Expr}{ra:R za V}(g:GOk G gval gname)(hh:A.handled=none)(h1:Does G F A s β (eval x F.env) (ra.lift ρ) (VRel G F)) :
 DoesW G F s β (zbg G A x F.env) ((ra.bind fun v O=>(match v with
  | .d x=>opt ((items x).map Src.plain) O
  | .box n=>(match O[n]? with
     | some (.lst xs)=>R.ok (Src.box n xs) O
     | _=>.stuck)
  | _=>.stuck)).lift ρ) (IRel G F A target s):=by
 refine DoesW.seqE (T₂:=fun v=>tr G A (pyIter v)) (fun Q E h=>h) h1 fun s' β' v d O' e st sr rv=>?_
 exact (zlj (target:=target) g hh sr rv).weaken (fun Q E h=>h) fun _ _ _ _ r=>r.back st
theorem wl{a b:Int}:Builtin.Range.rangeSize a b 1=((b - a).toNat:Int):=by rw[rangeSize_one];split <;> omega
noncomputable def RRel(s:Shared):List Addr→Heap→Value→Int×Int→Prop:=fun β h v d=>∃ r t u w,v=.ref r∧IsRange h r d.1 d.2 1 t u w
noncomputable def zby(p:Int×Int):Prop:=-(10 ^ 9)≤p.1∧p.1≤10 ^ 9∧-(10 ^ 9)≤p.2∧p.2≤10 ^ 9
inductive zoa(v u:V)(O:za)(p:Int×Int)(O':za):Prop
 | mk (i j:Int) (h1:intV v=some i) (h2:intV u=some j) (hs:zby (i,j)) (e:p=(i,j)) (e':O'=O)
theorem gw{v u:V}{O O':za}{p:Int×Int}(h:xc v u O=.ok p O'):zoa v u O p O':=by
 unfold xc at h
 cases h1:intV v with
 | none=>rw[h1] at h;cases h
 | some i=>
   cases h2:intV u with
   | none=>rw[h1,h2] at h;cases h
   | some j=>
     rw[h1,h2] at h
     dsimp only at h
     by_cases hs : -(10 ^ 9)≤i∧i≤10 ^ 9∧-(10 ^ 9)≤j∧j≤10 ^ 9
     ·rw[if_pos hs] at h;cases h;exact⟨i,j,h1,h2,hs,rfl,rfl⟩
     ·rw[if_neg hs] at h;cases h
theorem zcc{v u:V}{O O':za}{p:Int×Int}(h:xc v u O=.ok p O'):zby p∧O'=O:=by
 obtain⟨i,j,_,_,hs,rfl,rfl⟩:=gw h
 exact⟨hs,rfl⟩
set_option tactic.hygienic true in
theorem VR.intV{N:List Addr}{h:Heap}{v:Value}{d:V}{i:Int}(r:VR G N β h v d)(e:intV d=some i):∃ t,v=.int i t:=by
 cases d <;> first | (cases e;done) | skip
 rename_i x
 cases x <;> first | (cases e;done) | skip
 cases e
 exact r.int_inv
theorem VRs.one{N:List Addr}{h:Heap}{vals:List Value}{d:V}(r:VRs G N β h vals [d]):∃ v,vals=[v]∧VR G N β h v d:=by
 cases r with
 | cons r rs=>cases rs;exact⟨_,rfl,r⟩
theorem VRs.two{N:List Addr}{h:Heap}{vals:List Value}{d e:V}(r:VRs G N β h vals [d,e]):∃ v u,vals=[v,u]∧VR G N β h v d∧VR G N β h u e:=by
 cases r with
 | cons r rs=>obtain⟨u,rfl,q⟩:=rs.one;exact⟨_,u,rfl,r,q⟩
theorem zeo{T:WT Value}{v u:V}(h:∀ i j,intV v=some i→intV u=some j→DoesW G F s β T (.ok (i,j) (ρ,O)) (RRel s)):DoesW G F s β T ((xc v u O).lift ρ) (RRel s):=by
 cases e:xc v u O with
 | stuck=>trivial
 | ok p O'=>
   obtain⟨i,j,h1,h2,hs,rfl,rfl⟩:=gw e
   exact h i j h1 h2
theorem dz{target:Expr}{v:Value}{p:Int×Int}(g:GOk G gval gname)(hh:A.handled=none)(sr:SR G F β ρ O s.heap)(rv:RRel s β s.heap v p)(hp:zby p) :
 Does G F A s β (pyIter v) ((R.ok (Src.plain (zj p.1 p.2)) O).lift ρ) (IRel G F A target s):=by
 obtain⟨r,t,u,w,rfl,hr⟩:=rv
 obtain⟨p1,p2,p3,p4⟩:=hp
 refine Does.leaf sr fun Q E k=>wpAny_pyIter_range hr (small_one (by omega) (by omega) (by omega) (by omega)) (k _ _ (KeepsAll.push s _ _) ?_)
 refine⟨_,_,_,rfl,Turns.range g.clsRef hh _ p.1 p.2,?_,fun z hz=>by rw[List.mem_singleton.mp hz];exact z7 s⟩
 rw[wl]
 simpa using Heap.get?_push_size _ rfl
theorem zli{y:Expr}{p q:Pos}{x:Str}{rb:R za V}(g:GOk G gval gname)(sr:SR G F β ρ O s.heap)(fit:Fits F cx)(hx:cx.isGlob x=true)(hb:x = "range")(he:starEach [y] F.env=(false,eval y F.env)::starEach [] F.env)
 (h1:Does G F A s β (eval y F.env) (rb.lift ρ) (VRel G F)) :
 Does G F A s β (eval (.Call (.Name x p) [y] [] q) F.env) ((rb.bind fun u O=>xc (.d (.int 0)) u O).lift ρ) (RRel s):=by
 subst hb
 have d1:Does G F A s β (spliced (backTo q (starEach [y] F.env))) ((rb.bind fun v O=>(R.ok ([]:List V) O).bind fun vs O=>.ok (v::vs) O).lift ρ) (VRsl G F):=
  yq he h1 fun s' β' O' sr'=>xh sr'
 have e1:(rb.bind fun u O=>xc (.d (.int 0)) u O)=(rb.bind fun v O=>(R.ok ([]:List V) O).bind fun vs O=>R.ok (v::vs) O).bind fun vs O=>(match vs with | [u]=>xc (.d (.int 0)) u O | _=>.stuck):=by cases rb <;> rfl
 rw[e1]
 refine w3 g sr fit hx (fv:=.type "range") (by decide) (.inr ⟨_,rfl⟩) he rfl d1 fun s' β' vals vs O' e' st sr' rvs=>?_
 cases vs with
 | nil=>trivial
 | cons u vs=>
   cases vs with
   | cons _ _=>trivial
   | nil=>
     obtain⟨v,rfl,ru⟩:=rvs.one
     refine zeo fun i j h1 h2=>?_
     cases h1
     obtain⟨t,rfl⟩:=ru.intV h2
     exact Does.leaf sr' fun Q E k=>call_range_1 (k _ _ (KeepsAll.push s' _ _) ⟨_,_,_,_,rfl,IsRange.new _ _ _ _ _ _ _⟩)
theorem zlh{y z:Expr}{p q:Pos}{x:Str}{ra:R za V}{rb:za→R za V}(g:GOk G gval gname)(sr:SR G F β ρ O s.heap)(fit:Fits F cx)(hx:cx.isGlob x=true)(hb:x = "range")
 (he:starEach [y,z] F.env=(false,eval y F.env)::starEach [z] F.env) (he':starEach [z] F.env=(false,eval z F.env)::starEach [] F.env)
 (h1:Does G F A s β (eval y F.env) (ra.lift ρ) (VRel G F)) (h2:∀ s' β' O',SR G F β' ρ O' s'.heap→Does G F A s' β' (eval z F.env) ((rb O').lift ρ) (VRel G F)) :
 Does G F A s β (eval (.Call (.Name x p) [y,z] [] q) F.env) ((ra.bind fun v O=>(rb O).bind fun u O=>xc v u O).lift ρ) (RRel s):=by
 subst hb
 have d1:Does G F A s β (spliced (backTo q (starEach [y,z] F.env))) ((ra.bind fun v O=>((rb O).bind fun v O=>(R.ok ([]:List V) O).bind fun vs O=>.ok (v::vs) O).bind fun vs O=>.ok (v::vs) O).lift ρ) (VRsl G F):=
  yq he h1 fun s' β' O' sr'=>yq he' (h2 s' β' O' sr') fun s' β' O' sr'=>xh sr'
 have e1:(ra.bind fun v O=>(rb O).bind fun u O=>xc v u O)=(ra.bind fun v O=>((rb O).bind fun v O=>(R.ok ([]:List V) O).bind fun vs O=>.ok (v::vs) O).bind fun vs O=>.ok (v::vs) O).bind fun vs O=>(match vs with | [v,u]=>xc v u O | _=>.stuck):=by
  cases ra with
  | ok v O=>
    show (rb O).bind (fun u O=>xc v u O)=(((rb O).bind fun v O=>(R.ok ([]:List V) O).bind fun vs O=>R.ok (v::vs) O).bind fun vs O=>R.ok (v::vs) O).bind _
    cases rb O <;> rfl
  | stuck=>rfl
 rw[e1]
 refine w3 g sr fit hx (fv:=.type "range") (by decide) (.inr ⟨_,rfl⟩) he (by rw [he'];rfl) d1 fun s' β' vals vs O' e' st sr' rvs=>?_
 cases vs with
 | nil=>trivial
 | cons u vs=>
   cases vs with
   | nil=>trivial
   | cons w vs=>
     cases vs with
     | cons _ _=>trivial
     | nil=>
       obtain⟨v,v',rfl,rv,ru⟩:=rvs.two
       refine zeo fun i j h1 h2=>?_
       obtain⟨t,rfl⟩:=rv.intV h1
       obtain⟨t',rfl⟩:=ru.intV h2
       exact Does.leaf sr' fun Q E k=>call_range_2 (k _ _ (KeepsAll.push s' _ _) ⟨_,_,_,_,rfl,IsRange.new _ _ _ _ _ _ _⟩)
theorem zcw{target x:Expr}{r:R za (Int×Int)}(g:GOk G gval gname)(hh:A.handled=none)(hs:∀ p O',r=.ok p O'→zby p)(h1:Does G F A s β (eval x F.env) (r.lift ρ) (RRel s)) :
 DoesW G F s β (zbg G A x F.env) ((r.bind fun p O=>R.ok (Src.plain (zj p.1 p.2)) O).lift ρ) (IRel G F A target s):=by
 refine DoesW.seqE (T₂:=fun v=>tr G A (pyIter v)) (fun Q E h=>h) h1 fun s' β' v d O' e st sr rv=>?_
 exact (dz (target:=target) g hh sr rv (hs _ _ e)).weaken (fun Q E h=>h) fun _ _ _ _ r=>r.back st
end
noncomputable def yw(G:Gl)(F:Fm):List Addr→Heap→Flow→Fl→Prop:=fun β h f d=>match d with
 | .next=>f=.next
 | .ret v=>∃ val,f=.ret val∧VR G F.B β h val v
section
variable{G:Gl}{F:Fm}{A:Around}{cx:Cx}{gval:Nat→Option PyData}{gname:Nat→Option Str}
theorem h8{N β Z:List Addr}{O:za}{h:Heap}(br:BR G N β O h)(hz:∀ z∈Z,Itr h z):∀ z∈Z,z∉β:=fun z hz' hb=>by
 obtain⟨i,hi⟩:=List.getElem?_of_mem hb
 have hl:i < O.length:=by
  rw[← br.len]
  rcases Nat.lt_or_ge i β.length with h | h
  ·exact h
  ·rw[List.getElem?_eq_none h] at hi;cases hi
 have hx:=br.at_ i z _ hi (List.getElem?_eq_getElem hl)
 obtain⟨o,T,fs,e,_,hf⟩:=hz z hz'
 cases hb:O[i] with
 | lst xs=>rw[hb] at hx;obtain⟨o',vs,n,h1,h2,h3,_⟩:=hx;rw[e] at h1;cases h1;rw[hf] at h3;cases h3
 | dct kvs=>rw[hb] at hx;obtain⟨o',vs,n,h1,h2,h3,_⟩:=hx;rw[e] at h1;cases h1;rw[hf] at h3;cases h3
theorem Turns.over{target:Expr}{I:Addr}{Z:List Addr}{src:Src}{St:Nat→List Addr→List Addr→Heap→Prop}(W:Turns G A target I Z src St){i:Nat}{β β':List Addr}{ρ:Loc}{O:za}{s s':Shared}
 (sr:SR G F β ρ O s.heap) (hzB:∀ z∈Z,z∉F.B) (st:St i F.B β s.heap) (step:Step F.W β s s' β'):St i F.B β' s'.heap:=
 W.keep i F.B F.B β β' s.heap s'.heap st (fun z hz o e=>step.keptE e (h8 sr.br (W.itr _ _ _ _ st) z hz) (fun hw=>hzB z hz (sr.fm.sub z hw)) fun es n q=>by
  obtain⟨o',_,_,e',_,hf⟩:=W.itr _ _ _ _ st z hz
  rw[e] at e';cases e';rw[hf] at q;cases q) (fun v x r=>r.step sr.br sr.fm step) step.pre
inductive FInv(G:Gl)(F:Fm)(src:Src)(β₀:List Addr)(s₀:Shared)(St:Nat→List Addr→List Addr→Heap→Prop)(go:List PyData→Loc→za→Prop)(k:Nat)(s:Shared):Prop
 | mk (i:Nat) (β:List Addr) (ρ:Loc) (O:za) (hk:k=src.xs.length+1 - i) (hi:i≤src.xs.length) (step:Step F.W β₀ s₀ s β) (sr:SR G F β ρ O s.heap) (has:src.Has O) (st:St i F.B β s.heap) (hgo:go (src.xs.drop i) ρ O)
inductive zc2(src:Src)(go:Loc→za→R (Loc×za) Fl)(fl:Fl)(S:Loc×za):Fl→Loc×za→Prop
 | ret (v:V) (h:fl=.ret v):zc2 src go fl S (.ret v) S
 | next (S':Loc×za) (hs:src.still S'.2=true) (hg:go S'.1 S'.2=.ok fl S):zc2 src go fl S .next S'
inductive zl6(src:Src)(c:CT)(evb:Loc→za→R (Loc×za) Fl)(x:PyData)(go:Loc→za→R (Loc×za) Fl)(ρ:Loc)(O:za)(fl:Fl)(S:Loc×za):Prop
 | mk (ρ':Loc) (f:Fl) (S':Loc×za) (hb:zt c (.d x) ρ=some ρ') (he:evb ρ' O=.ok f S') (hr:zc2 src go fl S f S')
theorem zd5{src:Src}{c:CT}{evb:Loc→za→R (Loc×za) Fl}{x:PyData}{go:Loc→za→R (Loc×za) Fl}{ρ:Loc}{O:za}{fl:Fl}{S:Loc×za} (h:(match j3 c evb x ρ O with
 | .ok (.ret v) S=>.ok (.ret v) S
 | .ok .next S=>if src.still S.2 then go S.1 S.2 else .stuck
 | _=>.stuck)=R.ok fl S):zl6 src c evb x go ρ O fl S:=by
 unfold j3 at h
 cases hb:zt c (.d x) ρ with
 | none=>rw[hb] at h;cases h
 | some ρ'=>
   rw[hb] at h
   dsimp only at h
   cases he:evb ρ' O with
   | ok f S'=>
     rw[he] at h
     cases f with
     | ret v=>cases h;exact⟨ρ',_,_,hb,he,.ret v rfl⟩
     | next=>
       dsimp only at h
       by_cases hs:src.still S'.2=true
       ·rw[if_pos hs] at h;exact⟨ρ',_,_,hb,he,.next S' hs h⟩
       ·rw[if_neg hs] at h;cases h
   | _=>rw[he] at h;cases h
theorem znd{src:Src}{c:CT}{evb:Loc→za→R (Loc×za) Fl}{x:PyData}{xs:List PyData}{ρ:Loc}{O:za}{fl:Fl}{S:Loc×za}(h:zu src (j3 c evb) (x::xs) ρ O=.ok fl S):zl6 src c evb x (zu src (j3 c evb) xs) ρ O fl S:=zd5 h
theorem zit{target:Expr}{c:CT}{own:Str→Bool}{body:List Stmt}{src:Src}{I:Addr}{Z:List Addr}{St:Nat→List Addr→List Addr→Heap→Prop}{evb:Loc→za→R (Loc×za) Fl}
 (g:GOk G gval gname) (hh:A.handled=none) (fit:Fits F cx) (hown:∀ x,own x=true→F.own x=true) (hc:chkT cx own c target=true)
 (hb:∀ s β ρ O,SR G F β ρ O s.heap→Does G F A s β (execs body F.env) (evb ρ O) (yw G F))
 (W:Turns G A target I Z src St) {s₀ s:Shared} {β₀ β:List Addr} {ρ₀ ρ:Loc} {O₀ O:za} (sr₀:SR G F β₀ ρ₀ O₀ s₀.heap) (hz:∀ z∈Z,s₀.heap.get? z=none)
 (step:Step F.W β₀ s₀ s β) (sr:SR G F β ρ O s.heap) (has:src.Has O) (st:St 0 F.B β s.heap) {fl:Fl} {S:Loc×za}
 (hgo:zu src (j3 c evb) src.xs ρ O=.ok fl S) {R:Result→Shared→Prop}
 (hR:∀ s' β' f,Step F.W β₀ s₀ s' β'→SR G F β' S.1 S.2 s'.heap→yw G F β' s'.heap f fl→R (.ok f) s') :
 codeAny (model G.prog G.w) A (.forLoop target (.ref I) body [] F.env) R s:=by
 have hz0:∀ z∈Z,G.h₀.get? z=none:=fun z hz'=>by
  cases e:G.h₀.get? z with
  | none=>rfl
  | some o=>have:=sr₀.br.keep z o e;rw[hz z hz'] at this;cases this
 have hzB:∀ z∈Z,z∉F.B:=fun z hz' hB=>by
  obtain⟨o,e,_⟩:=sr₀.fm.stor z hB
  rw[hz z hz'] at e;cases e
 refine codeAny_forLoop_any (FInv G F src β₀ s₀ St fun xs ρ O=>zu src (j3 c evb) xs ρ O=.ok fl S) ?_ (src.xs.length+1) ⟨0,β,ρ,O,rfl,Nat.zero_le _,step,sr,has,st,hgo⟩
 clear hgo st has sr step
 intro k s hI
 obtain⟨i,β,ρ,O,rfl,hi,step,sr,has,st,hgo⟩:=hI
 have hitr:=W.itr _ _ _ _ st
 by_cases hlt:i < src.xs.length
 ·rw[List.drop_eq_getElem_cons hlt] at hgo
  have hx:src.xs[i]?=some src.xs[i]:=List.getElem?_eq_getElem hlt
  generalize src.xs[i]=x at hgo hx
  obtain⟨ρ',f,S',hbt,he,hrest⟩:=znd hgo
  refine W.item i F.B β O s x _ _ hx sr.br has st fun v s₁ kk=>?_
  refine kk _ _ fun s' kz rv st'=>?_
  have sr':=sr.keepZ hitr kz.kept g.clsRef hz0 hzB
  have step':=step.thenZ kz hz
  have da:=xy (A:=A) hh fit hown c hc sr' rv
  unfold bindR at da
  dsimp only at da
  rw[hbt] at da
  dsimp only at da
  refine da _ _ fun s₂ β₂ _ st₂ sr₂ _=>?_
  have db:=hb s₂ β₂ ρ' O sr₂
  have stZ:=W.over sr' hzB st' st₂
  rw[he] at db
  refine db _ _ fun s₃ β₃ f' st₃ sr₃ rf=>?_
  have step₃:=step'.trans (st₂.trans st₃)
  cases hrest with
  | ret u e=>
    subst e
    obtain⟨val,rfl,rv'⟩:=rf
    exact hR s₃ β₃ (.ret val) step₃ sr₃ ⟨val,rfl,rv'⟩
  | next _ hst hgo=>
    have rf:f'=.next:=rf
    subst rf
    exact⟨src.xs.length+1 - (i+1),by omega,i+1,β₃,S'.1,S'.2,rfl,hlt,step₃,sr₃,Src.has_of hst,W.over sr₂ hzB stZ st₃,hgo⟩
 ·have hie:i=src.xs.length:=by omega
  rw[hie,List.drop_length] at hgo
  have hgo:Mine.R.ok Fl.next (ρ,O)=Mine.R.ok fl S:=hgo
  cases hgo
  refine W.done i F.B β O s _ _ hie.symm sr.br has st fun s' kz=>?_
  refine wpAny_execs_nil (hR s' β .next (step.thenZ kz hz) (sr.keepZ hitr kz.kept g.clsRef hz0 hzB) rfl)
theorem zos{target x:Expr}{c:CT}{own:Str→Bool}{body:List Stmt}{pos:Pos}{r:R za Src}{evb:Loc→za→R (Loc×za) Fl}{s:Shared}{β:List Addr}{ρ:Loc}{O:za}
 (g:GOk G gval gname) (hh:A.handled=none) (fit:Fits F cx) (hown:∀ x,own x=true→F.own x=true) (hc:chkT cx own c target=true) (hset:∀ l k p,x≠.Set l k p)
 (hb:∀ s β ρ O,SR G F β ρ O s.heap→Does G F A s β (execs body F.env) (evb ρ O) (yw G F))
 (sr:SR G F β ρ O s.heap) (hI:DoesW G F s β (zbg G A x F.env) (r.lift ρ) (IRel G F A target s)) (has:∀ src O',r=.ok src O'→src.Has O') :
 Does G F A s β (exec (.For target x body [] pos) F.env) ((r.lift ρ).bind fun src S=>zu src (j3 c evb) src.xs S.1 S.2) (yw G F):=by
 cases r with
 | stuck=>trivial
 | ok src O'=>
   show DoesW G F s β _ (zu src (j3 c evb) src.xs ρ O') _
   cases hgo:zu src (j3 c evb) src.xs ρ O' with
   | stuck=>trivial
   | ok fl S=>
     intro Q E k
     refine wpAny_For (hI _ _ fun s' β' it st sr' ⟨I,Z,St,e,W,h0,hz⟩=>?_) fun v=>qe hset _ _
     subst e
     exact zit g hh fit hown hc hb W sr hz st sr' (has _ _ rfl) h0 hgo fun s' β' f st' sr'' rf=>k s' β' f st' sr'' rf
end
theorem dkv1:∀ l:List (PyData×PyData),PyData.depthAll (l.map (·.1))≤PyData.depthKv l
 | []=>Nat.le_refl _
 | (_,_)::r=>Nat.max_le.mpr ⟨Nat.le_trans (Nat.le_max_left _ _) (Nat.le_max_left _ _),Nat.le_trans (dkv1 r) (Nat.le_max_right _ _)⟩
theorem dkv2:∀ l:List (PyData×PyData),PyData.depthAll (l.map (·.2))≤PyData.depthKv l
 | []=>Nat.le_refl _
 | (_,_)::r=>Nat.max_le.mpr ⟨Nat.le_trans (Nat.le_max_right _ _) (Nat.le_max_left _ _),Nat.le_trans (dkv2 r) (Nat.le_max_right _ _)⟩
inductive Sub(h:Heap)(b:Addr)(n:Nat):Prop
 | mk (x:PyData) (as:List Addr) (r:Reads h (.ref b) x as) (hs:x.depth≤n)
theorem Sub.le{h:Heap}{b:Addr}{n m:Nat}(s:Sub h b n)(hm:n≤m):Sub h b m:=let ⟨x,as,r,hs⟩:=s;⟨x,as,r,Nat.le_trans hs hm⟩
theorem zh3{h:Heap}{v:Value}{x:PyData}{as:List Addr}(r:Reads h v x as):∀ b∈as,Sub h b x.depth:=
 Reads.rec (motive_1:=fun _ x as _=>∀ b∈as,Sub h b x.depth) (motive_2:=fun _ xs as _=>∀ b∈as,Sub h b (PyData.depthAll xs))
  (fun _ h=>nomatch h) (fun _ _ h=>nomatch h) (fun _ _ _ h=>nomatch h) (fun _ _ _ h=>nomatch h)
  (fun h1 h2 h3 r ih b hb=>(List.mem_cons.mp hb).elim (fun e=>e ▸ ⟨_,_,.list h1 h2 h3 r,Nat.le_refl _⟩) fun hb=>(ih b hb).le (Nat.le_succ _))
  (fun _ _ _ _ ih b hb=>(ih b hb).le (Nat.le_succ _))
  (fun h1 h2 h3 r1 r2 i1 i2 b hb=>(List.mem_append.mp hb).elim (fun hb=>(List.mem_cons.mp hb).elim (fun e=>e ▸ ⟨_,_,.dict h1 h2 h3 r1 r2,Nat.le_refl _⟩) fun hb=>(i1 b hb).le (Nat.le_succ_of_le (dkv1 _))) fun hb=>(i2 b hb).le (Nat.le_succ_of_le (dkv2 _)))
  (fun _ h=>nomatch h) (fun _ _ i1 i2 b hb=>(List.mem_append.mp hb).elim (fun hb=>(i1 b hb).le (Nat.le_max_left _ _)) fun hb=>(i2 b hb).le (Nat.le_max_right _ _)) r
theorem zb9{h:Heap}{vs:List Value}{xs:List PyData}{as:List Addr}(r:ReadsAll h vs xs as):∀ b∈as,Sub h b (PyData.depthAll xs):=
 ReadsAll.rec (motive_1:=fun _ _ _ _=>True) (motive_2:=fun _ xs as _=>∀ b∈as,Sub h b (PyData.depthAll xs))
  trivial (fun _=>trivial) (fun _ _=>trivial) (fun _ _=>trivial) (fun _ _ _ _ _=>trivial) (fun _ _ _ _ _=>trivial) (fun _ _ _ _ _ _ _=>trivial)
  (fun _ h=>nomatch h) (fun r _ _ i2 b hb=>(List.mem_append.mp hb).elim (fun hb=>(zh3 r b hb).le (Nat.le_max_left _ _)) fun hb=>(i2 b hb).le (Nat.le_max_right _ _)) r
theorem zft{h:Heap}{a:Addr}{o:Obj}{vs:Array Value}{n:Nat}{xs:List PyData}{as:List Addr}(h1:h.get? a=some o)(h2:o.cls=.type "list")(h3:o.data=.seq vs n)(r:ReadsAll h vs.toList xs as):a∉as:=fun ha=>by
 obtain⟨x',as',r',hs⟩:=zb9 r a ha
 have:=(Reads.unique (Reads.list h1 h2 h3 r) _ _ r').1
 subst this
 exact Nat.not_succ_le_self _ hs
section
variable{G:Gl}{F:Fm}{A:Around}{β β':List Addr}{ρ:Loc}{O O':za}{s s':Shared}
theorem SR.outer(sr:SR G F β ρ O s.heap)(st:Step [] β s s' β')(br:BR G F.B β' O' s'.heap)(nb:∀ a∈F.B,a∉β'):SR G F β' ρ O' s'.heap:=by
 have st':Step F.W β s s' β':=⟨st.gens,st.os,st.pre,st.fresh,st.alive,fun b o e hb _=>st.kept b o e hb (by simp)⟩
 have hB:∀ a∈F.B,∀ o,s.heap.get? a=some o→∃ o',s'.heap.get? a=some o'∧Kin o o':=fun a ha o e=>st.kept a o e (sr.fm.notBox a ha) (by simp)
 have hL:F.env.locals∈F.B:=sr.fm.sub _ sr.fm.nsW
 have hns:∀ m,s.heap.Ns F.env.locals m→s'.heap.Ns F.env.locals m:=fun m hm=>Kin.ns hm (hB _ hL)
 refine⟨br,⟨sr.fm.kind,sr.fm.globals,sr.fm.builtins,sr.fm.once,?_,sr.fm.nsW,?_,sr.fm.apart,sr.fm.sub,sr.fm.new,nb,?_,sr.fm.frB,fun a ha=>let ⟨m,hm⟩:=sr.fm.frs a ha;⟨m,Kin.ns hm (hB a (sr.fm.frB a ha))⟩,fun m e=>⟨hns m (sr.fm.pin m e).1,(sr.fm.pin m e).2⟩⟩,fun i x v h1 h2=>?_⟩
 ·obtain⟨m,hm⟩:=sr.fm.ns;exact⟨m,hns m hm⟩
 ·intro x hx
  obtain⟨c,v,h3,h4,h6,h7⟩:=sr.fm.cell x hx
  exact⟨c,v,h3,Kin.cell h4 (hB c h6),h6,h7⟩
 ·intro a ha
  obtain⟨o,h1,h2⟩:=sr.fm.stor a ha
  obtain⟨o',e',kn⟩:=hB a ha o h1
  exact⟨o',e',fun vs n hv=>by rw[kn.cls];exact h2 vs n (kn.data.symm.trans hv)⟩
 ·obtain⟨val,g,r⟩:=sr.get i x v h1 h2
  refine⟨val,?_,r.step sr.br sr.fm st'⟩
  rcases g with ⟨g1,m,g2,g3⟩ | ⟨g1,c,g2,g3⟩
  ·exact .inl ⟨g1,m,hns m g2,g3⟩
  ·obtain⟨c',v',h3,h4,h6,h7⟩:=sr.fm.cell x g1
   rw[g2] at h3;cases h3
   exact .inr ⟨g1,c,g2,Kin.cell g3 (hB c h6)⟩
theorem SR.keepNB{a:Addr}{bx₀:Box}(x:KeepsL F.env.locals s s')(r:SR G F β ρ O s.heap)(hn:s.heap.get? a=none)(hl:BoxAt s'.heap F.B (β++[a]) a bx₀)(hpl:Plain s'.heap a):Step F.W β s s' (β++[a])∧SR G F (β++[a]) ρ (O++[bx₀]) s'.heap:=by
 have sr':=r.keepL x
 have st0:=x.step r.fm
 have st:Step F.W β s s' (β++[a]):=⟨st0.gens,st0.os,List.prefix_append _ _,fun b hb=>by
  rcases List.mem_append.mp hb with h | h
  ·exact .inl h
  ·rw[List.mem_singleton.mp h];exact .inr hn,st0.alive,st0.kept⟩
 have aB:a∉F.B:=fun h=>by obtain⟨o,e,_⟩:=r.fm.stor a h;rw[hn] at e;cases e
 have aβ:a∉β:=fun h=>by obtain⟨o,e,_⟩:=r.br.alive a h;rw[hn] at e;cases e
 have nL:F.env.locals∈F.B:=r.fm.sub _ r.fm.nsW
 have ne:∀ {b:Addr},b∈β→b≠F.env.locals:=fun hb e=>r.fm.notBox _ nL (e ▸ hb)
 refine⟨st,⟨⟨sr'.br.keep,by simp[r.br.len],?_,fun b hb=>?_,fun i b bx h1 h2=>?_,fun b hb=>(List.mem_append.mp hb).elim (sr'.br.plain b) fun h=>by rw[List.mem_singleton.mp h];exact hpl⟩,⟨sr'.fm.kind,sr'.fm.globals,sr'.fm.builtins,sr'.fm.once,sr'.fm.ns,sr'.fm.nsW,sr'.fm.cell,sr'.fm.apart,sr'.fm.sub,sr'.fm.new,fun b hb h=>?_,sr'.fm.stor,sr'.fm.frB,sr'.fm.frs,sr'.fm.pin⟩,fun i y v h1 h2=>?_⟩⟩
 ·rw[List.nodup_append]
  exact⟨r.br.nodup,by simp,fun b hb c hc=>by rw[List.mem_singleton.mp hc];exact fun e=>aβ (e ▸ hb)⟩
 ·rcases List.mem_append.mp hb with h | h
  ·exact r.br.new b h
  ·rw[List.mem_singleton.mp h]
   cases e:G.h₀.get? a with
   | none=>rfl
   | some o=>have:=r.br.keep a o e;rw[hn] at this;cases this
 ·rcases Nat.lt_or_ge i β.length with hi | hi
  ·rw[List.getElem?_append_left hi] at h1
   rw[List.getElem?_append_left (by rw[← r.br.len];exact hi)] at h2
   have hb:=r.br.at_ i b bx h1 h2
   have hne:=ne (List.mem_of_getElem? h1)
   cases bx with
   | lst ys=>
     obtain⟨o,vs,n,e1,e2,e3,as,e4,e5⟩:=hb
     obtain⟨q1,q2⟩:=zx r.br r.fm st e4 e5
     exact⟨o,vs,n,x.kept _ _ hne e1,e2,e3,as,q1,q2⟩
   | dct kvs=>
     obtain⟨o,es,n,e1,e2,e3,e4,e5⟩:=hb
     refine⟨o,es,n,x.kept _ _ hne e1,e2,e3,e4,fun i e kv he hkv=>?_⟩
     obtain⟨hq,as,bs,r1,r2,q⟩:=e5 i e kv he hkv
     obtain⟨p1,p2⟩:=z8 r.br r.fm st r1 fun a ha=>q a (List.mem_append_left _ ha)
     obtain⟨p3,p4⟩:=z8 r.br r.fm st r2 fun a ha=>q a (List.mem_append_right _ ha)
     exact⟨hq,as,bs,p1,p3,fun b hb=>(List.mem_append.mp hb).elim (p2 b) (p4 b)⟩
  ·rw[List.getElem?_append_right hi] at h1
   rw[List.getElem?_append_right (by rw[← r.br.len];exact hi)] at h2
   have hi0:i - β.length=0:=by
    rcases Nat.eq_zero_or_pos (i - β.length) with h | h
    ·exact h
    ·rw[List.getElem?_eq_none (show [a].length≤i - β.length from h)] at h1;cases h1
   rw[hi0] at h1
   rw[← r.br.len,hi0] at h2
   cases h1;cases h2
   exact hl
 ·rcases List.mem_append.mp h with h | h
  ·exact r.fm.notBox b hb h
  ·rw[List.mem_singleton.mp h] at hb;exact aB hb
 ·obtain⟨val,g,rv⟩:=r.get i y v h1 h2
  refine⟨val,?_,rv.step r.br r.fm st⟩
  rcases g with ⟨g1,m,g2,g3⟩ | ⟨g1,c,g2,o,g3,g4⟩
  ·exact .inl ⟨g1,m,x.ns m g2,g3⟩
  ·refine .inr ⟨g1,c,g2,o,x.kept _ _ (fun h=>?_) g3,g4⟩
   obtain⟨m,o',es,ep,q1,q2,_⟩:=r.fm.ns
   rw[h] at g3;rw[g3] at q1;cases q1;rw[g4] at q2;cases q2
theorem SR.keepLB{a:Addr}{xs:List PyData}(x:KeepsL F.env.locals s s')(r:SR G F β ρ O s.heap)(hn:s.heap.get? a=none)(hl:ListAt s'.heap F.B β a xs)(hpl:Plain s'.heap a):Step F.W β s s' (β++[a])∧SR G F (β++[a]) ρ (O++[.lst xs]) s'.heap:=by
 obtain⟨o,vs,n,e1,e2,e3,as,e4,e5⟩:=hl
 have hac:=zft e1 e2 e3 e4
 refine SR.keepNB x r hn (bx₀:=.lst xs) ⟨o,vs,n,e1,e2,e3,as,e4,fun b hb=>⟨fun h=>?_,(e5 b hb).2⟩⟩ hpl
 rcases List.mem_append.mp h with h | h
 ·exact (e5 b hb).1 h
 ·rw[List.mem_singleton.mp h] at hb;exact hac hb
theorem R.bind_assoc{σ α β γ:Type}(r:R σ α)(f:α→σ→R σ β)(g:β→σ→R σ γ):(r.bind f).bind g=r.bind fun a s=>(f a s).bind g:=by cases r <;> rfl
theorem LeafD.box{T:WT Value}{c:PyData}(sr:SR G F β ρ O s.heap)(h:LeafD G F s β T (V.d c) (FRel G F s)):DoesW G F s β T ((boxK (.d c) O).lift ρ) (VRel G F):=by
 cases c with
 | list xs=>
   intro Q E k
   refine h Q E fun v s' ka r=>?_
   obtain⟨a,rfl,hl,_⟩:=r.1.list_inv
   obtain⟨a',e,hn,hpl⟩:=r.2 xs rfl
   cases e
   obtain⟨st,sr'⟩:=SR.keepLB ka sr hn hl hpl
   exact k s' _ _ st sr' ⟨a,by rw[← sr.br.len];simp,rfl⟩
 | _=>trivial
end
noncomputable def jg(env:Env):List (Str×NameKind)→List (Str×Addr)→List (Str×Addr)
 | [],cs=>cs
 | (n,k)::r,cs=>if k == .free then jg env r ((n,(env.cells.lookup n).getD 0)::cs) else jg env r cs
theorem km(env:Env)(f:Str×NameKind→List (Str×Addr)→Sem (ForInStep (List (Str×Addr))))
 (hf:∀ name kind cs,f (name,kind) cs=if kind == .free then (do let a ← cellOf env name;pure (.yield ((name,a)::cs))) else pure (.yield cs)) :
 ∀ (names:List (Str×NameKind)) (acc:List (Str×Addr)),(∀ p∈names,p.2=.free→(env.cells.lookup p.1).isSome=true)→forIn names acc f=pure (jg env names acc)
 | [],acc,_=>by rw[List.forIn_nil];rfl
 | (n,k)::r,acc,h=>by
   rw[List.forIn_cons,hf]
   have hr:∀ p∈r,p.2=.free→(env.cells.lookup p.1).isSome=true:=fun p hp=>h p (List.mem_cons_of_mem _ hp)
   unfold jg
   cases hk:k == NameKind.free with
   | true=>
     have hk':k=.free:=by cases k <;> first | rfl | (exact absurd hk (by decide))
     obtain⟨c,hc⟩:=Option.isSome_iff_exists.mp (h (n,k) List.mem_cons_self hk')
     have e:cellOf env n=pure c:=by unfold cellOf;rw[hc]
     simp only[if_true,e,pure_bind]
     rw[km env f hf r _ hr,hc]
     rfl
   | false=>
     simp only[Bool.false_eq_true,if_false,pure_bind]
     exact km env f hf r _ hr
theorem vm{scope:Scope}{env:Env}(h:∀ p∈scope.names,p.2=.free→(env.cells.lookup p.1).isSome=true):closureFor scope env=pure (jg env scope.names []):=by
 unfold closureFor
 dsimp only
 rw[km env _ (fun name kind cs=>rfl) scope.names [] h]
 rfl
theorem jz{env:Env}{x:Str}:∀ (names:List (Str×NameKind)) (acc:List (Str×Addr)),(jg env names acc).lookup x=if (x,NameKind.free)∈names then some ((env.cells.lookup x).getD 0) else acc.lookup x
 | [],acc=>by simp[jg]
 | (n,k)::r,acc=>by
   unfold jg
   cases hk:k == NameKind.free with
   | true=>
     have hk':k=.free:=by cases k <;> first | rfl | (exact absurd hk (by decide))
     subst hk'
     rw[if_pos rfl,jz r]
     by_cases h:(x,NameKind.free)∈r
     ·rw[if_pos h,if_pos (List.mem_cons_of_mem _ h)]
     ·rw[if_neg h,List.lookup_cons]
      cases hx:x == n with
      | true=>
        have:x=n:=beq_iff_eq.mp hx
        subst this
        rw[if_pos List.mem_cons_self]
      | false=>
        rw[if_neg]
        intro hm
        rcases List.mem_cons.mp hm with e | hm
        ·cases e;rw[beq_self_eq_true] at hx;cases hx
        ·exact h hm
   | false=>
     rw[if_neg (by decide),jz r]
     by_cases h:(x,NameKind.free)∈r
     ·rw[if_pos h,if_pos (List.mem_cons_of_mem _ h)]
     ·rw[if_neg h,if_neg]
      intro hm
      rcases List.mem_cons.mp hm with e | hm
      ·cases e;exact absurd hk (by decide)
      ·exact h hm
theorem xu:∀ (names:List (Str×NameKind)) (n:Nat) (acc:List (Str×Addr)),cellsFrom n names acc=cellsFrom n names []++acc
 | [],n,acc=>rfl
 | (x,k)::r,n,acc=>by
   unfold cellsFrom
   split
   ·rw[xu r (n+1) ((x,n)::acc),xu r (n+1) [(x,n)]];simp
   ·exact xu r n acc
set_option tactic.hygienic true in
theorem xt:∀ (names:List (Str×NameKind)) (n:Nat) (acc:List (Str×Addr)) {x:Str} {c:Addr},(x,c)∈cellsFrom n names acc→(x,NameKind.cell)∈names∨(x,c)∈acc
 | [],n,acc,x,c,h=>.inr h
 | (y,k)::r,n,acc,x,c,h=>by
   unfold cellsFrom at h
   split at h
   ·rename_i hk
    have hk':k=.cell:=by cases k <;> first | rfl | (exact absurd hk (by decide))
    subst hk'
    rcases xt r _ _ h with h | h
    ·exact .inl (List.mem_cons_of_mem _ h)
    ·rcases List.mem_cons.mp h with e | h
     ·cases e;exact .inl List.mem_cons_self
     ·exact .inr h
   ·rcases xt r _ _ h with h | h
    ·exact .inl (List.mem_cons_of_mem _ h)
    ·exact .inr h
set_option tactic.hygienic true in
theorem yj:∀ (names:List (Str×NameKind)) (n:Nat) (acc:List (Str×Addr)) {x:Str},((x,NameKind.cell)∈names∨(acc.lookup x).isSome=true)→((cellsFrom n names acc).lookup x).isSome=true
 | [],n,acc,x,h=>by
   rcases h with h | h
   ·cases h
   ·exact h
 | (y,k)::r,n,acc,x,h=>by
   unfold cellsFrom
   split
   ·rename_i hk
    refine yj r _ _ ?_
    rcases h with h | h
    ·rcases List.mem_cons.mp h with e | h
     ·cases e;right;rw[List.lookup_cons,beq_self_eq_true];rfl
     ·exact .inl h
    ·right
     rw[List.lookup_cons]
     cases x == y with
     | true=>rfl
     | false=>exact h
   ·rename_i hk
    refine yj r _ _ ?_
    rcases h with h | h
    ·rcases List.mem_cons.mp h with e | h
     ·cases e;exact absurd rfl hk
     ·exact .inl h
    ·exact .inr h
theorem lookup_mem{α:Type}:∀ {l:List (Str×α)} {x:Str} {k:α},(l.map (·.1)).Nodup→((x,k)∈l↔l.lookup x=some k)
 | [],x,k,_=>by simp
 | (y,j)::r,x,k,h=>by
   obtain⟨h1,h2⟩:=List.nodup_cons.mp h
   rw[List.lookup_cons]
   cases hx:x == y with
   | true=>
     have:x=y:=beq_iff_eq.mp hx
     subst this
     constructor
     ·intro hm
      rcases List.mem_cons.mp hm with e | hm
      ·cases e;rfl
      ·exact absurd (List.mem_map.mpr ⟨(x,k),hm,rfl⟩) h1
     ·intro e;cases e;exact List.mem_cons_self
   | false=>
     rw[← lookup_mem (l:=r) h2]
     constructor
     ·intro hm
      rcases List.mem_cons.mp hm with e | hm
      ·cases e;rw[beq_self_eq_true] at hx;cases hx
      ·exact hm
     ·exact List.mem_cons_of_mem _
noncomputable def zeu(scope:Scope)(env:Env)(C:Addr)(cl:List (Str×Addr)):Env:=
 { scope:=scope,locals:=C,globals:=env.globals,cells:=cellsFrom (C+1) scope.names cl,qual:=env.qual,func:=none,code:=env.code,frame:=env.frame,builtins:=env.builtins }
theorem zet{M:Model}{A:Around}{E:Value→Shared→Prop}{s:Shared}{scope:Scope}{env:Env}{cl:List (Str×Addr)}{Q:Env→Shared→Prop}
 (h:∀ s',KeepsAll s s'→s'.heap.Ns s.heap.objs.size (fun _=>none)→CellsOk s'.heap (s.heap.objs.size+1) (cellsFrom (s.heap.objs.size+1) scope.names [])→Q (zeu scope env s.heap.objs.size cl) s') :
 wpAny M A (newFunctionEnv scope env.globals cl [] env.qual none .none (some env)) Q E s:=by
 simp only[newFunctionEnv,Option.isSome_some,if_true]
 refine wpAny_bind (wpAny_alloc ?_)
 refine wpAny_bind (wpAny_layCells _ (fun name kind cells=>by cases hkc:kind == NameKind.cell <;> simp[hkc]) _ _ _ _ ?_)
 have ok:=cellsFrom_ok scope.names (s.heap.push { cls:=.type "dict",data:=.dict #[] }) (s.heap.objs.size+1) [] ⟨fun _ _ hm=>(nomatch hm),List.Pairwise.nil⟩ (by rw [Heap.size_push];exact Nat.le_refl _)
 rw[Heap.size_push] at ok
 rw [show ({ s with heap:=s.heap.push { cls:=.type "dict",data:=.dict #[] } }:Shared).heap.objs.size=s.heap.objs.size+1 from Heap.size_push ..]
 simp only[List.forIn_nil]
 refine wpAny_bind (wpAny_pure (wpAny_pure (h _ ⟨rfl,rfl,fun b o e=>pushCells_keeps _ _ b o (Heap.get?_push_of_some _ e)⟩ ?_ ok)))
 exact (Heap.Ns.new s.heap (.type "dict")).keeps (pushCells_keeps _ _)
noncomputable def yi:CT→List Nat
 | .name i=>[i]
 | .two a b=>yi a++yi b
noncomputable def clr:List Nat→Loc→Loc
 | [],ρ=>ρ
 | i::S,ρ=>(clr S ρ).set i none
theorem zaa:∀ (S:List Nat) (ρ:Loc),(clr S ρ).length=ρ.length
 | [],_=>rfl
 | i::S,ρ=>by unfold clr;rw[List.length_set,zaa S ρ]
theorem vc:∀ (S:List Nat) (ρ:Loc) (i:Nat),i∉S→(clr S ρ)[i]?=ρ[i]?
 | [],_,_,_=>rfl
 | j::S,ρ,i,h=>by
   unfold clr
   rw[List.getElem?_set_ne (fun e=>h (by simp[e]))]
   exact vc S ρ i fun hm=>h (List.mem_cons_of_mem _ hm)
theorem d9:∀ (S:List Nat) (ρ:Loc) (i:Nat) (v:V),i∈S→(clr S ρ)[i]?≠some (some v)
 | j::S,ρ,i,v,h,e=>by
   unfold clr at e
   rw[List.getElem?_set] at e
   by_cases hj:j=i
   ·rw[if_pos hj] at e
    split at e <;> cases e
   ·rw[if_neg hj] at e
    rcases List.mem_cons.mp h with rfl | h
    ·exact hj rfl
    ·exact d9 S ρ i v h e
noncomputable def Agree(S:List Nat)(ρ ρ':Loc):Prop:=ρ.length=ρ'.length∧∀ i,i∉S→ρ[i]?=ρ'[i]?
theorem Agree.nil{ρ ρ':Loc}(h:Agree [] ρ ρ'):ρ=ρ':=List.ext_getElem? fun i=>h.2 i (by simp)
theorem ziy(S:List Nat)(ρ:Loc):Agree S (clr S ρ) ρ:=⟨zaa S ρ,fun i hi=>vc S ρ i hi⟩
theorem zh0{S:List Nat}{ρ ρ':Loc}{i:Nat}{v:Option V}(h:Agree S ρ ρ'):Agree (S.filter fun j=>j != i) (ρ.set i v) (ρ'.set i v):=by
 refine⟨by rw[List.length_set,List.length_set];exact h.1,fun j hj=>?_⟩
 rw[List.getElem?_set,List.getElem?_set]
 by_cases e:i=j
 ·rw[if_pos e,if_pos e,h.1]
 ·rw[if_neg e,if_neg e]
  refine h.2 j fun hm=>hj (List.mem_filter.mpr ⟨hm,?_⟩)
  simpa using fun e'=>e e'.symm
noncomputable def Both(S:List Nat):Option Loc→Option Loc→Prop
 | some r,some r'=>Agree S r r'
 | none,none=>True
 | _,_=>False
noncomputable def subL(S T:List Nat):List Nat:=S.filter fun j=>!T.contains j
theorem Agree.mono{S T:List Nat}{ρ ρ':Loc}(h:Agree S ρ ρ')(hs:∀ i∈S,i∈T):Agree T ρ ρ':=⟨h.1,fun i hi=>h.2 i fun hm=>hi (hs i hm)⟩
theorem zi1{S T U:List Nat}{f g:Loc→Option Loc}{a b:Option Loc}(h:Both S a b)(hf:∀ r r',Agree S r r'→Both T (f r) (g r')):Both T (a.bind f) (b.bind g):=by
 cases a <;> cases b <;> first | exact h | exact hf _ _ h | exact (show False from h).elim
theorem ze2:∀ (c:CT) (d:V) (S:List Nat) (ρ ρ':Loc),Agree S ρ ρ'→Both (subL S (yi c)) (zt c d ρ) (zt c d ρ'):=by
 intro c
 induction c with
 | name i=>
   intro d S ρ ρ' h
   unfold zt
   rw[h.1]
   by_cases hi:i < ρ'.length
   ·rw[if_pos hi,if_pos hi]
    refine (zh0 h).mono fun j hj=>?_
    obtain⟨h1,h2⟩:=List.mem_filter.mp hj
    refine List.mem_filter.mpr ⟨h1,?_⟩
    simp only[yi,List.contains_cons,List.contains_nil,Bool.or_false] at h2 ⊢
    simpa using h2
   ·rw[if_neg hi,if_neg hi];trivial
 | two a b iha ihb=>
   intro d S ρ ρ' h
   have key:∀ (d1 d2:V),Both (subL S (yi (.two a b))) ((zt a d1 ρ).bind (zt b d2)) ((zt a d1 ρ').bind (zt b d2)):=fun d1 d2=>by
    refine zi1 (U:=[]) (iha d1 S ρ ρ' h) fun r r' h'=>?_
    have:=ihb d2 _ r r' h'
    revert this
    cases zt b d2 r <;> cases zt b d2 r' <;> intro this <;> first | exact this | skip
    refine Agree.mono this fun i hi=>?_
    simp only[subL,List.mem_filter,yi,List.contains_eq_mem,List.mem_append,Bool.not_eq_true',decide_eq_false_iff_not] at hi ⊢
    exact⟨hi.1.1,fun hm=>hm.elim hi.1.2 hi.2⟩
   cases d with
   | d x=>
     unfold zt
     cases items x with
     | none=>trivial
     | some l=>
       match l with
       | [y,z]=>exact key _ _
       | []=>trivial
       | [_]=>trivial
       | _::_::_::_=>trivial
   | _=>trivial
theorem zi2(c:CT)(d:V)(ρ:Loc):zt c d (clr (yi c) ρ)=zt c d ρ:=by
 have:=ze2 c d _ _ _ (ziy (yi c) ρ)
 have e:subL (yi c) (yi c)=[]:=by
  unfold subL
  rw[List.filter_eq_nil_iff]
  intro a ha
  simpa using ha
 rw[e] at this
 revert this
 cases zt c d (clr (yi c) ρ) <;> cases zt c d ρ <;> intro this <;> first | rfl | exact this.elim | exact congrArg some this.nil
theorem ze1:∀ (c:CT) (d:V) (ρ ρ':Loc),zt c d ρ=some ρ'→∀ i,i∉yi c→ρ'[i]?=ρ[i]?:=by
 intro c
 induction c with
 | name j=>
   intro d ρ ρ' h i hi
   unfold zt at h
   split at h
   ·cases h;exact List.getElem?_set_ne fun e=>hi (by simp[yi,e])
   ·cases h
 | two a b iha ihb=>
   intro d ρ ρ' h i hi
   simp only[yi,List.mem_append,not_or] at hi
   have key:∀ (d1 d2:V),(zt a d1 ρ).bind (zt b d2)=some ρ'→ρ'[i]?=ρ[i]?:=fun d1 d2 h=>by
    cases h1:zt a d1 ρ with
    | none=>rw[h1] at h;cases h
    | some r=>rw[h1] at h;exact (ihb d2 r ρ' h i hi.2).trans (iha d1 ρ r h1 i hi.1)
   cases d with
   | d x=>
     unfold zt at h
     cases hx:items x with
     | none=>rw[hx] at h;cases h
     | some l=>
       rw[hx] at h
       match l,h with
       | [y,z],h=>exact key _ _ h
       | [],h=>cases h
       | [_],h=>cases h
       | _::_::_::_,h=>cases h
   | _=>cases h
theorem zgq:∀ (c:CT) (e:Expr) (l:List (Option Str)) (i:Nat) (x:Str),(addT c e l)[i]?=some (some x)→l[i]?=some (some x)∨i∈yi c:=by
 intro c
 induction c with
 | name j=>
   intro e l i x h
   cases e with
   | Name y p=>
     change (if l[j]? == some none then l.set j (some y) else l)[i]?=_ at h
     split at h
     ·by_cases hj:j=i
      ·exact .inr (by simp[yi,hj])
      ·rw[List.getElem?_set_ne hj] at h;exact .inl h
     ·exact .inl h
   | _=>exact .inl h
 | two a b iha ihb=>
   intro e l i x h
   cases e with
   | Tuple es k p=>
     match es,h with
     | [y,z],h=>
       rcases ihb _ _ _ _ h with h | h
       ·rcases iha _ _ _ _ h with h | h
        ·exact .inl h
        ·exact .inr (List.mem_append_left _ h)
       ·exact .inr (List.mem_append_right _ h)
     | [],h=>exact .inl h
     | [_],h=>exact .inl h
     | _::_::_::_,h=>exact .inl h
   | _=>exact .inl h
theorem zms{l:List (Option Str)}(h:xg l=true):∀ (i j:Nat) x,l[i]?=some (some x)→l[j]?=some (some x)→i=j:=by
 have h:(l.filterMap id).Nodup:=of_decide_eq_true h
 induction l with
 | nil=>intro i j x h1;simp at h1
 | cons o l ih=>
   have hl:(l.filterMap id).Nodup:=by
    cases o with
    | none=>simpa using h
    | some y=>simp at h;exact h.2
   intro i j x h1 h2
   have nin:∀ k,l[k]?=some (some x)→o≠some x:=fun k hk e=>by
    subst e
    simp at h
    have:some x∈l:=List.mem_of_getElem? hk
    exact h.1 this
   match i,j,h1,h2 with
   | 0,0,_,_=>rfl
   | 0,j+1,h1,h2=>simp at h1 h2;exact absurd h1 (nin j h2)
   | i+1,0,h1,h2=>simp at h1 h2;exact absurd h2 (nin i h1)
   | i+1,j+1,h1,h2=>simp at h1 h2;exact congrArg (· + 1) (ih (decide_eq_true hl) hl i j x h1 h2)
section
variable{G:Gl}{N M β:List Addr}{O:za}{h:Heap}
theorem u6{as:List Addr}(al:∀ a∈as,∃ o,h.get? a=some o)(hM:∀ a∈M,h.get? a=none)(q:∀ a∈as,a∉β∧a∉N):∀ a∈as,a∉β∧a∉M++N:=fun a ha=>by
 refine⟨(q a ha).1,fun hm=>?_⟩
 rcases List.mem_append.mp hm with hm | hm
 ·obtain⟨o,e⟩:=al a ha
  rw[hM a hm] at e;cases e
 ·exact (q a ha).2 hm
theorem ItsR.grow(hM:∀ a∈M,h.get? a=none){vs:List Value}{its:List It}(r:ItsR N β h vs its):ItsR (M++N) β h vs its:=by
 induction r with
 | nil=>exact .nil
 | b h1 _ ih=>exact .b h1 ih
 | x h1 h2 _ ih=>exact .x h1 (u6 (y8 h1) hM h2) ih
theorem VR.grow(hM:∀ a∈M,h.get? a=Option.none){v:Value}{x:V}(r:VR G N β h v x):VR G (M++N) β h v x:=by
 cases x with
 | d x=>obtain⟨as,r,q⟩:=r;exact⟨as,r,u6 (y8 r) hM q⟩
 | box n=>exact r
 | tm its=>obtain⟨a,o,vs,k,e,h1,h2,h3,h4⟩:=r;exact⟨a,o,vs,k,e,h1,h2,h3,h4.grow hM⟩
theorem BoxAt.grow(hM:∀ a∈M,h.get? a=none){a:Addr}{bx:Box}(r:BoxAt h N β a bx):BoxAt h (M++N) β a bx:=by
 cases bx with
 | lst xs=>obtain⟨o,vs,n,h1,h2,h3,as,h4,h5⟩:=r;exact⟨o,vs,n,h1,h2,h3,as,h4,u6 (qa h4) hM h5⟩
 | dct kvs=>
   obtain⟨o,es,n,h1,h2,h3,h4,h5⟩:=r
   refine⟨o,es,n,h1,h2,h3,h4,fun i e kv he hkv=>?_⟩
   obtain⟨hq,as,bs,r1,r2,q⟩:=h5 i e kv he hkv
   exact⟨hq,as,bs,r1,r2,u6 (fun a ha=>(List.mem_append.mp ha).elim (y8 r1 a) (y8 r2 a)) hM q⟩
theorem BR.grow(hM:∀ a∈M,h.get? a=none)(b:BR G N β O h):BR G (M++N) β O h:=
 ⟨b.keep,b.len,b.nodup,b.new,fun i a bx h1 h2=>(b.at_ i a bx h1 h2).grow hM,b.plain⟩
theorem BoxAt.less{N':List Addr}(hs:∀ a∈N,a∈N'){a:Addr}{bx:Box}(r:BoxAt h N' β a bx):BoxAt h N β a bx:=by
 cases bx with
 | lst xs=>obtain⟨o,vs,n,h1,h2,h3,as,h4,h5⟩:=r;exact⟨o,vs,n,h1,h2,h3,as,h4,fun b hb=>⟨(h5 b hb).1,fun hn=>(h5 b hb).2 (hs b hn)⟩⟩
 | dct kvs=>
   obtain⟨o,es,n,h1,h2,h3,h4,h5⟩:=r
   refine⟨o,es,n,h1,h2,h3,h4,fun i e kv he hkv=>?_⟩
   obtain⟨hq,as,bs,r1,r2,q⟩:=h5 i e kv he hkv
   exact⟨hq,as,bs,r1,r2,fun b hb=>⟨(q b hb).1,fun hn=>(q b hb).2 (hs b hn)⟩⟩
theorem BR.less{N':List Addr}(hs:∀ a∈N,a∈N')(b:BR G N' β O h):BR G N β O h:=
 ⟨b.keep,b.len,b.nodup,b.new,fun i a bx h1 h2=>(b.at_ i a bx h1 h2).less hs,b.plain⟩
theorem BR.but{D:Addr}{h':Heap}(hs:∀ b o,b≠D→h.get? b=some o→h'.get? b=some o)(hN:D∈N)(hb:D∉β)(h0:G.h₀.get? D=none)(ht:∀ o vs n,h.get? D=some o→o.data=.seq vs n→o.cls≠.type "tuple")(b:BR G N β O h):BR G N β O h':=by
 have rd:∀ {v:Value} {x:PyData} {as:List Addr},Reads h v x as→(∀ a∈as,a∉β∧a∉N)→Reads h' v x as:=fun r q=>
  jb (P:=fun a=>a≠D) (fun a o e p=>hs a o p e) (fun a o vs n e hc hd=>fun e'=>by subst e';exact ht o vs n e hd hc) r fun a ha e'=>(q a ha).2 (e' ▸ hN)
 have rda:∀ {v:List Value} {x:List PyData} {as:List Addr},ReadsAll h v x as→(∀ a∈as,a∉β∧a∉N)→ReadsAll h' v x as:=fun r q=>
  xr (P:=fun a=>a≠D) (fun a o e p=>hs a o p e) (fun a o vs n e hc hd=>fun e'=>by subst e';exact ht o vs n e hd hc) r fun a ha e'=>(q a ha).2 (e' ▸ hN)
 refine⟨fun c o e=>hs c o (fun e'=>by rw[e',h0] at e;cases e) (b.keep c o e),b.len,b.nodup,b.new,fun i a bx h1 h2=>?_,fun a ha=>(b.plain a ha).at fun o e=>hs a o (fun e'=>hb (e' ▸ ha)) e⟩
 have hx:=b.at_ i a bx h1 h2
 have hne:a≠D:=fun e=>hb (e ▸ List.mem_of_getElem? h1)
 cases bx with
 | lst xs=>obtain⟨o,vs,n,e1,e2,e3,as,e4,e5⟩:=hx;exact⟨o,vs,n,hs _ _ hne e1,e2,e3,as,rda e4 e5,e5⟩
 | dct kvs=>
   obtain⟨o,es,n,e1,e2,e3,e4,e5⟩:=hx
   refine⟨o,es,n,hs _ _ hne e1,e2,e3,e4,fun i e kv he hkv=>?_⟩
   obtain⟨hq,as,bs,r1,r2,q⟩:=e5 i e kv he hkv
   exact⟨hq,as,bs,rd r1 fun a ha=>q a (List.mem_append_left _ ha),rd r2 fun a ha=>q a (List.mem_append_right _ ha),q⟩
theorem ItsR.but{D:Addr}{h':Heap}(hs:∀ b o,b≠D→h.get? b=some o→h'.get? b=some o)(hN:D∈N)(ht:∀ o vs n,h.get? D=some o→o.data=.seq vs n→o.cls≠.type "tuple"){vs:List Value}{its:List It}(r:ItsR N β h vs its):ItsR N β h' vs its:=by
 induction r with
 | nil=>exact .nil
 | b h1 _ ih=>exact .b h1 ih
 | x h1 h2 _ ih=>
   refine .x (jb (P:=fun a=>a≠D) (fun a o e p=>hs a o p e) (fun a o vs n e hc hd=>fun e'=>?_) h1 fun a ha e'=>(h2 a ha).2 (e' ▸ hN)) h2 ih
   subst e';exact ht o vs n e hd hc
theorem VR.but{D:Addr}{h':Heap}(hs:∀ b o,b≠D→h.get? b=some o→h'.get? b=some o)(hN:D∈N)(ht:∀ o vs n,h.get? D=some o→o.data=.seq vs n→o.cls≠.type "tuple"){v:Value}{x:V}(r:VR G N β h v x):VR G N β h' v x:=by
 cases x with
 | d x=>
   obtain⟨as,r,q⟩:=r
   refine⟨as,jb (P:=fun a=>a≠D) (fun a o e p=>hs a o p e) (fun a o vs n e hc hd=>fun e'=>?_) r fun a ha e'=>(q a ha).2 (e' ▸ hN),q⟩
   subst e';exact ht o vs n e hd hc
 | box n=>exact r
 | tm its=>obtain⟨a,o,vs,k,e,h1,h2,h3,h4⟩:=r;exact⟨a,o,vs,k,e,hs _ _ (fun e'=>by subst e';exact ht o vs k h1 h3 h2) h1,h2,h3,h4.but hs hN ht⟩
end
theorem SR.but{G:Gl}{F:Fm}{β:List Addr}{ρ:Loc}{O:za}{h h':Heap}{D:Addr}{vs vs':Array Value}{n n':Nat}{o o':Obj}(hs:∀ b o,b≠D→h.get? b=some o→h'.get? b=some o)(hD:D∈F.B)(e:h.get? D=some o)(hc:o.cls=.type "list")(hd:o.data=.seq vs n)
 (e':h'.get? D=some o') (hc':o'.cls=.type "list") (sr:SR G F β ρ O h):SR G F β ρ O h':=by
 have ht:∀ o vs n,h.get? D=some o→o.data=.seq vs n→o.cls≠.type "tuple":=fun o₂ vs₂ n₂ e₂ _=>by rw [e] at e₂;cases e₂;rw [hc];decide
 have notD:∀ {b:Addr} {o₂:Obj},h.get? b=some o₂→(∀ vs n,o₂.data≠.seq vs n)→b≠D:=fun e₂ hn e₃=>by subst e₃;rw[e] at e₂;cases e₂;exact hn _ _ hd
 have hns:∀ {L m},h.Ns L m→h'.Ns L m:=fun ⟨o,es,ep,h1,h2,r⟩=>⟨o,es,ep,hs _ _ (notD h1 fun vs n q=>by rw[h2] at q;cases q) h1,h2,r⟩
 have hcell:∀ {c v},h.IsCell c v→h'.IsCell c v:=fun ⟨o,h1,h2⟩=>⟨o,hs _ _ (notD h1 fun vs n q=>by rw[h2] at q;cases q) h1,h2⟩
 refine⟨sr.br.but hs hD (sr.fm.notBox D hD) (sr.fm.newB hD (sr.br.notSysD e fun es n q=>by rw[hd] at q;cases q)) ht,⟨sr.fm.kind,sr.fm.globals,sr.fm.builtins,sr.fm.once,let ⟨m,hm⟩:=sr.fm.ns;⟨m,hns hm⟩,sr.fm.nsW,fun x hx=>?_,sr.fm.apart,sr.fm.sub,sr.fm.new,sr.fm.notBox,fun a ha=>?_,sr.fm.frB,fun a ha=>let ⟨m,hm⟩:=sr.fm.frs a ha;⟨m,hns hm⟩,fun m e=>⟨hns (sr.fm.pin m e).1,(sr.fm.pin m e).2⟩⟩,fun i x v h1 h2=>?_⟩
 ·obtain⟨c,v,h3,h4,h5⟩:=sr.fm.cell x hx
  exact⟨c,v,h3,hcell h4,h5⟩
 ·by_cases ha':a=D
  ·subst ha';exact⟨o',e',fun _ _ _=>by rw[hc'];decide⟩
  ·obtain⟨o₂,h1,h2⟩:=sr.fm.stor a ha
   exact⟨o₂,hs _ _ ha' h1,h2⟩
 ·obtain⟨val,g,r⟩:=sr.get i x v h1 h2
  refine⟨val,?_,r.but hs hD ht⟩
  rcases g with ⟨g1,m,g2,g3⟩ | ⟨g1,c,g2,g3⟩
  ·exact .inl ⟨g1,m,hns g2,g3⟩
  ·exact .inr ⟨g1,c,g2,hcell g3⟩
theorem SR.fewer{G:Gl}{F:Fm}{β:List Addr}{ρ ρ':Loc}{O:za}{h:Heap}(sr:SR G F β ρ O h)(hs:∀ (i:Nat) v,ρ'[i]?=some (some v)→ρ[i]?=some (some v)):SR G F β ρ' O h:=
 ⟨sr.br,sr.fm,fun i x v h1 h2=>sr.get i x v h1 (hs i v h2)⟩
theorem Step.thenW{W₀ W β₀ β β':List Addr}{s₀ s s':Shared}(st:Step W₀ β₀ s₀ s β)(st':Step W β s s' β')(hW:∀ a∈W,s₀.heap.get? a=none):Step W₀ β₀ s₀ s' β' where
 gens:=st'.gens.trans st.gens
 os:=st'.os.trans st.os
 pre:=st.pre.trans st'.pre
 fresh:=fun a ha=>by
  rcases st'.fresh a ha with h | h
  ·exact st.fresh a h
  ·right
   cases e:s₀.heap.get? a with
   | none=>rfl
   | some o=>obtain⟨o',e'⟩:=st.alive a o e;rw[e'] at h;cases h
 alive:=fun b o e=>let ⟨o',e'⟩:=st.alive b o e;st'.alive b o' e'
 kept:=fun b o e hb hW'=>by
  obtain⟨o',e',kn⟩:=st.kept b o e hb hW'
  obtain⟨o'',e'',kn'⟩:=st'.kept b o' e' (fun hb'=>by
   rcases st.fresh b hb' with h | h
   ·exact hb h
   ·rw[e] at h;cases h) fun hw=>by rw[hW b hw] at e;cases e
  exact⟨o'',e'',kn.trans kn'⟩
noncomputable def zl(cx:Cx)(F:Fm)(tgt:CT)(t:Expr)(scope:Scope)(C D:Addr):Fm:=
 { env:={ zeu scope F.env C (jg F.env scope.names []) with scope:=relabel scope F.env }
   names:=(cx.inner tgt t scope).names
   own:=ownOf scope
   W:=C::(cellsFrom (C+1) scope.names []).map (·.2)
   B:=(D::C::(cellsFrom (C+1) scope.names []).map (·.2))++F.B
   fr:=F.fr }
theorem yt{scope sc:Scope}(h:xb scope sc=true):scope.kind=.function∧(scope.names.map (·.1)).Nodup∧∀ x k,(x,k)∈scope.names→k=.local∨k=.cell∨k=.globalImplicit∨(k=.free∧sc.names.lookup x=some .cell):=by
 obtain⟨h1,h2,h3⟩:=and3 h
 refine⟨beq_iff_eq.mp h1,of_decide_eq_true h2,fun x k hm=>?_⟩
 have:=List.all_eq_true.mp h3 (x,k) hm
 simpa [Bool.or_eq_true,Bool.and_eq_true,beq_iff_eq,or_assoc] using this
theorem wh(f:Str→NameKind→NameKind):∀ (l:List (Str×NameKind)) (x:Str),(l.map fun (n,k)=>(n,f n k)).lookup x=(l.lookup x).map (f x)
 | [],x=>rfl
 | (n,k)::r,x=>by
   rw[List.map_cons,List.lookup_cons,List.lookup_cons]
   cases hx:x == n with
   | true=>rw[beq_iff_eq.mp hx];rfl
   | false=>exact wh f r x
section
variable{G:Gl}{F:Fm}{A:Around}{cx:Cx}{tgt:CT}{t:Expr}{scope:Scope}
theorem zfs(fit:Fits F cx)(hk:F.env.scope.kind=.function):relabel scope F.env=za6 scope cx.sc:=by
 unfold relabel za6
 congr 1
 refine List.map_congr_left fun p _=>?_
 obtain⟨n,k⟩:=p
 have h1:F.env.kindOf n=cx.sc.names.lookup n:=fit.kind n
 dsimp only
 rw[h1,hk,fit.sck]
theorem dg(fit:Fits F cx)(hk:F.env.scope.kind=.function)(C D:Addr)(x:Str):(zl cx F tgt t scope C D).env.kindOf x=(cx.inner tgt t scope).kind x:=by
 show (relabel scope F.env).names.lookup x=(za6 scope cx.sc).names.lookup x
 rw[zfs fit hk]
theorem zd2(hsc:xb scope cx.sc=true)(fit:Fits F cx)(x:Str):(cx.inner tgt t scope).kind x=(match scope.names.lookup x with | some .free=>some .cell | o=>o):=by
 obtain⟨h1,h2,h3⟩:=yt hsc
 show (za6 scope cx.sc).names.lookup x=_
 unfold za6
 have e:(scope.names.map fun (n,k)=>if (k == NameKind.free && cx.sc.kind == ScopeKind.function && cx.sc.names.lookup n == some NameKind.cell) then (n,NameKind.cell) else (n,k)) =
  scope.names.map fun (n,k)=>(n,if (k == NameKind.free && cx.sc.kind == ScopeKind.function && cx.sc.names.lookup n == some NameKind.cell) then NameKind.cell else k):=by
  refine List.map_congr_left fun p _=>?_
  obtain⟨n,k⟩:=p
  dsimp only
  split <;> rfl
 dsimp only
 rw[e,wh (fun n k=>if (k == NameKind.free && cx.sc.kind == ScopeKind.function && cx.sc.names.lookup n == some NameKind.cell) then NameKind.cell else k)]
 cases hl:scope.names.lookup x with
 | none=>rfl
 | some k=>
   have hm:=(lookup_mem h2).mpr hl
   dsimp only[Option.map]
   rcases h3 x k hm with rfl | rfl | rfl | ⟨rfl,hc⟩
   ·rfl
   ·rfl
   ·rfl
   ·rw[hc,fit.sck];rfl
theorem dj(fit:Fits F cx)(hk:F.env.scope.kind=.function)(hsc:xb scope cx.sc=true)(C D:Addr):Fits (zl cx F tgt t scope C D) (cx.inner tgt t scope) where
 names:=rfl
 kind:=dg fit hk C D
 sck:=(yt hsc).1
end
section
variable{prog:Program}{w:World}{A:Around}{R:Result→Shared→Prop}{s:Shared}
noncomputable def xa(ifs:List Expr)(env:Env):Sem Bool:=forIn ifs true fun c r=>if r=true then do let ok ← isTrue c env (eval c env);pure (ForInStep.yield ok) else pure (ForInStep.yield r)
theorem qk{elt target iter:Expr}{ifs:List Expr}{scope:Scope}{pos:Pos}{it acc:Value}{env:Env}(I:Nat→Shared→Prop)
 (turn:∀ n s,I n s→wpAny (model prog w) A (pyNext it) (fun r s₁=>match r with
   | none=>R (.ok .next) s₁
   | some v=>wpAny (model prog w) A (letOwnedTupleGo target it v) (fun _ s₁'=>wpAny (model prog w) A (assign target env v) (fun _ s₂=>
      wpAny (model prog w) A (xa ifs env) (fun ok s₃=>
       if ok=true then wpAny (model prog w) A (eval elt env) (fun x s₄=>
        wpAny (model prog w) A (call (.builtin "list.append") [acc,x]) (fun _ s₅=>∃ m,m < n∧I m s₅) (notedBy (model prog w) A env fun e s'=>R (.error e) s') s₄) (notedBy (model prog w) A env fun e s'=>R (.error e) s') s₃
       else ∃ m,m < n∧I m s₃) (notedBy (model prog w) A env fun e s'=>R (.error e) s') s₂) (notedBy (model prog w) A env fun e s'=>R (.error e) s') s₁') (notedBy (model prog w) A env fun e s'=>R (.error e) s') s₁)
   (notedBy (model prog w) A env fun e s'=>R (.error e) s') s)
 (n:Nat) (h:I n s):codeAny (model prog w) A (.compLoop (.ListComp elt [⟨target,iter,ifs,0⟩] scope pos) 0 it acc env) R s:=by
 refine codeAny_loop rfl I (fun n s hI=>?_) n h
 show wpAny _ A ((compTurn (.ListComp elt [⟨target,iter,ifs,0⟩] scope pos) 0 it acc env).onRaise (fun x=>do noteFrame x env;theTreesLotGoes x)) _ _ s
 refine wpAny_noted ?_
 rw[compTurn_list]
 refine wpAny_bind (wpAny_standAt (wpAny_bind (wpAny_mono (turn n s hI) (fun r s₁ h₁=>?_) fun _ _ h'=>h')))
 cases r with
 | none=>exact wpAny_pure h₁
 | some v=>
   refine wpAny_bind (wpAny_mono h₁ (fun _ s₁' h₁'=>?_) fun _ _ h'=>h')
   refine wpAny_bind (wpAny_mono h₁' (fun _ s₂ h₂=>wpAny_bind (wpAny_mono h₂ (fun ok s₃ h₃=>?_) fun _ _ h'=>h')) fun _ _ h'=>h')
   cases ok with
   | false=>exact wpAny_pure ⟨rfl,h₃⟩
   | true=>
     exact wpAny_bind (wpAny_bind (wpAny_mono h₃ (fun x s₄ h₄=>wpAny_bind (wpAny_mono h₄ (fun _ s₅ h₅=>wpAny_pure (wpAny_pure ⟨rfl,h₅⟩)) fun _ _ h'=>h')) fun _ _ h'=>h'))
end
section
variable{G:Gl}{F:Fm}{A:Around}{cx:Cx}{tgt:CT}{t:Expr}{scope:Scope}{gval:Nat→Option PyData}{gname:Nat→Option Str}
set_option tactic.hygienic true in
theorem zjj{β:List Addr}{ρ:Loc}{O:za}{s s':Shared}{C D:Addr}{m:Str→Option Value}{oD:Obj}(fit:Fits F cx)(sr:SR G F β ρ O s.heap)(hsc:xb scope cx.sc=true)(honce:xg (cx.inner tgt t scope).names=true)
 (kept:∀ b o,s.heap.get? b=some o→s'.heap.get? b=some o) (hns:s'.heap.Ns C m) (ok:CellsOk s'.heap (C+1) (cellsFrom (C+1) scope.names [])) (hlo:∀ a,C≤a→s.heap.get? a=none)
 (hDn:s.heap.get? D=none) (hD:s'.heap.get? D=some oD) (hDc:oD.cls=.type "list"):SR G (zl cx F tgt t scope C D) β (clr (yi tgt) ρ) O s'.heap:=by
 obtain⟨k1,k2,k3⟩:=yt hsc
 have hkind:=dg (tgt:=tgt) (t:=t) (scope:=scope) fit sr.fm.kind C D
 have hkind':=zd2 (tgt:=tgt) (t:=t) hsc fit
 have hCn:s.heap.get? C=none:=hlo C (Nat.le_refl _)
 have hcn:∀ x c,(x,c)∈cellsFrom (C+1) scope.names []→s.heap.get? c=none:=fun x c hm=>hlo c (Nat.le_of_succ_le (ok.empty x c hm).2)
 have hM:∀ a∈D::C::(cellsFrom (C+1) scope.names []).map (·.2),s.heap.get? a=none:=fun a ha=>by
  rcases List.mem_cons.mp ha with rfl | ha
  ·exact hDn
  ·rcases List.mem_cons.mp ha with rfl | ha
   ·exact hCn
   ·obtain⟨p,hp,rfl⟩:=List.mem_map.mp ha
    exact hcn p.1 p.2 hp
 have h0:∀ a,s.heap.get? a=none→G.h₀.get? a=none:=fun a ha=>by
  cases e:G.h₀.get? a with
  | none=>rfl
  | some o=>have:=sr.br.keep a o e;rw[ha] at this;cases this
 have lkup:∀ x,(zl cx F tgt t scope C D).env.cells.lookup x=((cellsFrom (C+1) scope.names []).lookup x).or (if (x,NameKind.free)∈scope.names then some ((F.env.cells.lookup x).getD 0) else none):=fun x=>by
  show (cellsFrom (C+1) scope.names (jg F.env scope.names [])).lookup x=_
  rw[xu,List.lookup_append,jz]
  rfl
 have newNone:∀ x,(x,NameKind.free)∈scope.names→(cellsFrom (C+1) scope.names []).lookup x=none:=fun x hx=>by
  cases e:(cellsFrom (C+1) scope.names []).lookup x with
  | none=>rfl
  | some c=>
    rcases xt _ _ _ (mem_of_lookup e) with h | h
    ·have e1:=(lookup_mem k2).mp hx
     have e2:=(lookup_mem k2).mp h
     rw[e1] at e2;cases e2
    ·cases h
 have outer:∀ x,(x,NameKind.free)∈scope.names→∃ c v,F.env.cells.lookup x=some c∧s.heap.IsCell c v∧c∈F.B∧(zl cx F tgt t scope C D).env.cells.lookup x=some c:=fun x hx=>by
  have hc:cx.sc.names.lookup x=some .cell:=by
   rcases k3 x _ hx with h | h | h | ⟨_,h⟩
   ·cases h
   ·cases h
   ·cases h
   ·exact h
  obtain⟨c,v,h1,h2,h3,_⟩:=sr.fm.cell x ((fit.kind x).trans hc)
  refine⟨c,v,h1,h2,h3,?_⟩
  rw[lkup,newNone x hx,if_pos hx,h1];rfl
 refine⟨(sr.br.grow hM).keepAll kept,⟨k1,sr.fm.globals,sr.fm.builtins,zms honce,⟨m,hns⟩,List.mem_cons_self,fun x hx=>?_,fun x y c hx hy=>?_,fun a ha=>List.mem_append_left _ (List.mem_cons_of_mem _ ha),?_,fun a ha hb=>?_,fun a ha=>?_,fun a ha=>List.mem_append_right _ (sr.fm.frB a ha),fun a ha=>let ⟨m,hm⟩:=sr.fm.frs a ha;⟨m,hm.keeps kept⟩,fun m e=>nomatch e⟩,fun i x v h1 h2=>?_⟩
 ·rw[hkind,hkind'] at hx
  cases hl:scope.names.lookup x with
  | none=>rw[hl] at hx;cases hx
  | some k=>
    have hm:=(lookup_mem k2).mpr hl
    rw[hl] at hx
    cases k with
    | cell=>
      obtain⟨c,hc⟩:=Option.isSome_iff_exists.mp (yj scope.names (C+1) [] (.inl hm))
      have hmem:=mem_of_lookup hc
      have hW:c∈C::(cellsFrom (C+1) scope.names []).map (·.2):=List.mem_cons_of_mem _ (List.mem_map.mpr ⟨(x,c),hmem,rfl⟩)
      exact⟨c,none,by rw[lkup,hc];rfl,(ok.empty x c hmem).1,List.mem_append_left _ (List.mem_cons_of_mem _ hW),fun _=>hW⟩
    | free=>
      obtain⟨c,v,h1,h2,h3,h4⟩:=outer x hm
      refine⟨c,v,h4,h2.keeps kept,List.mem_append_right _ h3,fun ho=>?_⟩
      have ho:ownOf scope x=true:=ho
      unfold ownOf at ho
      rw[hl] at ho
      exact absurd ho (by decide)
    | _=>cases hx
 ·rw[lkup] at hx hy
  cases e1:(cellsFrom (C+1) scope.names []).lookup x with
  | some c1=>
    rw[e1] at hx
    have:c1=c:=Option.some.inj hx
    subst this
    cases e2:(cellsFrom (C+1) scope.names []).lookup y with
    | some c2=>
      rw[e2] at hy
      have:c2=c1:=Option.some.inj hy
      subst this
      exact name_of_addr ok.apart (mem_of_lookup e1) (mem_of_lookup e2)
    | none=>
      rw[e2] at hy
      by_cases hf:(y,NameKind.free)∈scope.names
      ·obtain⟨c',v,q1,⟨o,q2,_⟩,_,_⟩:=outer y hf
       rw[if_pos hf,q1] at hy
       have:c'=c1:=Option.some.inj hy
       subst this
       have:=hcn x c' (mem_of_lookup e1)
       rw[q2] at this;cases this
      ·rw[if_neg hf] at hy;cases hy
  | none=>
    rw[e1] at hx
    by_cases hf:(x,NameKind.free)∈scope.names
    ·obtain⟨c',v,q1,⟨o,q2,_⟩,_,_⟩:=outer x hf
     rw[if_pos hf,q1] at hx
     have:c'=c:=Option.some.inj hx
     subst this
     cases e2:(cellsFrom (C+1) scope.names []).lookup y with
     | some c2=>
       rw[e2] at hy
       have:c2=c':=Option.some.inj hy
       subst this
       have:=hcn y c2 (mem_of_lookup e2)
       rw[q2] at this;cases this
     | none=>
       rw[e2] at hy
       by_cases hf':(y,NameKind.free)∈scope.names
       ·obtain⟨c'',v',q1',_⟩:=outer y hf'
        rw[if_pos hf',q1'] at hy
        have:c''=c':=Option.some.inj hy
        subst this
        exact sr.fm.apart x y c'' q1 q1'
       ·rw[if_neg hf'] at hy;cases hy
    ·rw[if_neg hf] at hx;cases hx
 ·have:=zdq (F:=F) (fr:=[]) sr.br hM ⟨sr.fm.new.1,sr.fm.new.2.1⟩
  exact⟨this.1,this.2.1,fun hm=>this.2.2 (List.mem_cons_of_mem _ hm),sr.fm.new.2.2.2⟩
 ·rcases List.mem_append.mp ha with ha | ha
  ·obtain⟨o,e,_⟩:=sr.br.alive a hb
   rw[hM a ha] at e;cases e
  ·exact sr.fm.notBox a ha hb
 ·rcases List.mem_append.mp ha with ha | ha
  ·rcases List.mem_cons.mp ha with rfl | ha
   ·exact⟨oD,hD,fun _ _ _=>by rw[hDc];decide⟩
   ·rcases List.mem_cons.mp ha with rfl | ha
    ·obtain⟨o,es,ep,q1,q2,_⟩:=hns
     exact⟨o,q1,fun vs n q=>by rw[q2] at q;cases q⟩
    ·obtain⟨p,hp,rfl⟩:=List.mem_map.mp ha
     obtain⟨o,q1,q2⟩:=(ok.empty p.1 p.2 hp).1
     exact⟨o,q1,fun vs n q=>by rw[q2] at q;cases q⟩
  ·obtain⟨o,q1,q2⟩:=sr.fm.stor a ha
   exact⟨o,kept _ _ q1,q2⟩
 ·have hi:i∉yi tgt:=fun hm=>d9 _ _ _ _ hm h2
  rw[vc _ _ _ hi] at h2
  rcases zgq tgt t _ i x h1 with h1 | h1
  ·rw[List.getElem?_map] at h1
   cases hn:cx.names[i]? with
   | none=>rw[hn] at h1;cases h1
   | some o=>
     rw[hn] at h1
     cases o with
     | none=>cases h1
     | some y=>
       simp only[Option.map_some,Option.filter,Option.some.injEq] at h1
       split at h1
       ·rename_i hfree
        cases (h1)
        have hfree:scope.names.lookup x=some .free:=beq_iff_eq.mp hfree
        have hm:=(lookup_mem k2).mpr hfree
        obtain⟨val,g,r⟩:=sr.get i x v (by rw[fit.names];exact hn) h2
        obtain⟨c,v',q1,q2,q3,q4⟩:=outer x hm
        refine⟨val,?_,(r.grow hM).keepAll kept⟩
        have hcl:F.env.kindOf x=some .cell:=by
         rcases k3 x _ hm with h | h | h | ⟨_,h⟩
         ·cases h
         ·cases h
         ·cases h
         ·exact (fit.kind x).trans h
        rcases g with ⟨g1,_⟩ | ⟨g1,c',g2,g3⟩
        ·rw[hcl] at g1;cases g1
        ·rw [q1] at g2;cases g2
         refine .inr ⟨?_,c,q4,g3.keeps kept⟩
         rw[hkind,hkind',hfree]
       ·cases h1
  ·exact absurd h1 hi
structure StepZ(Z β:List Addr)(s s':Shared)(β':List Addr):Prop where
 gens:s'.gens=s.gens
 os:s'.os=s.os
 pre:β <+: β'
 fresh:∀ a∈β',a∈β∨s.heap.get? a=none
 alive:∀ b o,b∉Z→s.heap.get? b=some o→∃ o',s'.heap.get? b=some o'
 kept:∀ b o,b∉Z→s.heap.get? b=some o→b∉β→∃ o',s'.heap.get? b=some o'∧Kin o o'
theorem StepZ.keptE{Z β:List Addr}{s s':Shared}{β':List Addr}(x:StepZ Z β s s' β'){b:Addr}{o:Obj}(hz:b∉Z)(e:s.heap.get? b=some o)(hb:b∉β)(hd:∀ es n,o.data≠.dict es n):s'.heap.get? b=some o:=by
 obtain⟨o',e',k⟩:=x.kept b o hz e hb
 rw[e',k.same hd]
theorem Step.z{Z β β':List Addr}{s s' s'':Shared}(st:Step Z β s s' β')(kz:KeepsZ Z s' s''):StepZ Z β s s'' β':=
 ⟨kz.gens.trans st.gens,kz.os.trans st.os,st.pre,st.fresh,fun b o hz e=>let ⟨o',e'⟩:=st.alive b o e;⟨o',kz.kept b o' hz e'⟩,fun b o hz e hb=>let ⟨o',e',kn⟩:=st.kept b o e hb hz;⟨o',kz.kept b o' hz e',kn⟩⟩
theorem Step.thenStepZ{W Z β₀ β β':List Addr}{s₀ s s':Shared}(st:Step W β₀ s₀ s β)(sz:StepZ Z β s s' β')(hz:∀ z∈Z,s₀.heap.get? z=none):Step W β₀ s₀ s' β' where
 gens:=sz.gens.trans st.gens
 os:=sz.os.trans st.os
 pre:=st.pre.trans sz.pre
 fresh:=fun a ha=>by
  rcases sz.fresh a ha with h | h
  ·exact st.fresh a h
  ·right
   cases e:s₀.heap.get? a with
   | none=>rfl
   | some o=>obtain⟨o',e'⟩:=st.alive a o e;rw[e'] at h;cases h
 alive:=fun b o e=>by
  obtain⟨o',e'⟩:=st.alive b o e
  exact sz.alive b o' (fun h=>by rw[hz b h] at e;cases e) e'
 kept:=fun b o e hb hW=>by
  obtain⟨o',e',kn⟩:=st.kept b o e hb hW
  obtain⟨o'',e'',kn'⟩:=sz.kept b o' (fun h=>by rw[hz b h] at e;cases e) e' fun hb'=>by
   rcases st.fresh b hb' with h | h
   ·exact hb h
   ·rw[e] at h;cases h
  exact⟨o'',e'',kn.trans kn'⟩
structure CompEnd(G:Gl)(F:Fm)(scope:Scope)(Z β₁:List Addr)(s₁:Shared)(C D:Addr)(acc:List PyData)(O':za)(s':Shared)(β':List Addr):Prop where
 step:StepZ Z β₁ s₁ s' β'
 br:BR G (D::(C::(cellsFrom (C+1) scope.names []).map (·.2))++F.B) β' O' s'.heap
 list:ListAt s'.heap (D::(C::(cellsFrom (C+1) scope.names []).map (·.2))++F.B) β' D acc
 ns:∃ m,s'.heap.Ns C m
 stor:∀ a∈C::(cellsFrom (C+1) scope.names []).map (·.2),∃ o,s'.heap.get? a=some o∧∀ vs n,o.data=.seq vs n→o.cls≠.type "tuple"
 notBox:∀ a∈D::(C::(cellsFrom (C+1) scope.names []).map (·.2))++F.B,a∉β'
 new:∀ a∈D::C::(cellsFrom (C+1) scope.names []).map (·.2),s₁.heap.get? a=none
 notCell:D∉(cellsFrom (C+1) scope.names []).map (·.2)
 plain:Plain s'.heap D
inductive CInv(G:Gl)(F':Fm)(src:Src)(Z β₁:List Addr)(s₁:Shared)(D:Addr)(ρc:Loc)(St:Nat→List Addr→List Addr→Heap→Prop)(go:List PyData→List PyData→za→Prop)(k:Nat)(s:Shared):Prop
 | mk (i:Nat) (β:List Addr) (O:za) (acc:List PyData) (hk:k=src.xs.length+1 - i) (hi:i≤src.xs.length) (step:Step Z β₁ s₁ s β) (sr:SR G F' β ρc O s.heap) (has:src.Has O) (st:St i F'.B β s.heap)
   (hl:ListAt s.heap F'.B β D acc) (hpl:Plain s.heap D) (hal:acc.length≤i) (hgo:go (src.xs.drop i) acc O)
inductive zl2(evX:za→R za V)(O₂:za):Bool→Option PyData→za→Prop
 | skip:zl2 evX O₂ false none O₂
 | put (d:PyData) (O':za) (h:evX O₂=.ok (.d d) O'):zl2 evX O₂ true (some d) O'
inductive TurnOk(tgt:CT)(evT:Loc→za→R za Bool)(evX:Loc→za→R za V)(ρ:Loc)(x:PyData)(O:za)(y:Option PyData)(O':za):Prop
 | mk (ρ':Loc) (b:Bool) (O₂:za) (hb:zt tgt (.d x) ρ=some ρ') (ht:evT ρ' O=.ok b O₂) (hp:zl2 (evX ρ') O₂ b y O')
theorem zmn{r:R za V}{y:Option PyData}{O':za}(h:(r.bind fun v O=>(match v with | .d y=>R.ok (some y) O | _=>.stuck))=.ok y O'):∃ d,r=.ok (.d d) O'∧y=some d:=by
 cases r with
 | ok v O=>cases v <;> first | (cases h;done) | skip
           exact⟨_,by cases h;rfl,by cases h;rfl⟩
 | _=>cases h
theorem zjb{tgt:CT}{evT:Loc→za→R za Bool}{evX:Loc→za→R za V}{ρ:Loc}{x:PyData}{O:za}{y:Option PyData}{O':za}(h:xn tgt evT evX ρ x O=.ok y O'):TurnOk tgt evT evX ρ x O y O':=by
 unfold xn at h
 cases hb:zt tgt (.d x) ρ with
 | none=>rw[hb] at h;cases h
 | some ρ'=>
   rw[hb] at h
   dsimp only at h
   cases ht:evT ρ' O with
   | ok b O₂=>
     rw[ht] at h
     cases b with
     | false=>cases h;exact⟨ρ',false,_,hb,ht,.skip⟩
     | true=>obtain⟨d,e,rfl⟩:=zmn h;exact⟨ρ',true,O₂,hb,ht,.put d O' e⟩
   | _=>rw[ht] at h;cases h
inductive GoOk(src:Src)(turn:PyData→za→R za (Option PyData))(x:PyData)(xs acc:List PyData)(O:za)(v:V)(O':za):Prop
 | mk (y:Option PyData) (O₂:za) (ht:turn x O=.ok y O₂) (hs:src.still O₂=true) (hg:yd src turn xs (acc++y.toList) O₂=.ok v O')
theorem zql{src:Src}{turn:PyData→za→R za (Option PyData)}{x:PyData}{xs acc:List PyData}{O:za}{v:V}{O':za}(h:yd src turn (x::xs) acc O=.ok v O'):GoOk src turn x xs acc O v O':=by
 have h:(match turn x O with
  | .ok y O'=>if src.still O' then yd src turn xs (acc++y.toList) O' else .stuck
  | _=>.stuck)=R.ok v O':=h
 cases ht:turn x O with
 | ok y O₂=>
   rw[ht] at h
   dsimp only at h
   by_cases hs:src.still O₂=true
   ·rw[if_pos hs] at h;exact⟨y,O₂,ht,hs,h⟩
   ·rw[if_neg hs] at h;cases h
 | _=>rw[ht] at h;cases h
theorem po{F':Fm}{D:Addr}{acc:List PyData}{s s':Shared}{β β':List Addr}{ρ:Loc}{O:za}(hDB:D∈F'.B)(hDW:D∉F'.W)(sr:SR G F' β ρ O s.heap)(st:Step F'.W β s s' β')(h:ListAt s.heap F'.B β D acc):ListAt s'.heap F'.B β' D acc:=by
 obtain⟨o,vs,n,e1,e2,e3,as,e4,e5⟩:=h
 obtain⟨q1,q2⟩:=zx sr.br sr.fm st e4 e5
 exact⟨o,vs,n,st.keptE e1 (sr.fm.notBox D hDB) hDW (fun es n q=>by rw[e3] at q;cases q),e2,e3,as,q1,q2⟩
theorem v0{F':Fm}{D:Addr}{acc:List PyData}{s s':Shared}{β β':List Addr}{ρ:Loc}{O:za}(hDB:D∈F'.B)(hDW:D∉F'.W)(sr:SR G F' β ρ O s.heap)(st:Step F'.W β s s' β')(p:Plain s.heap D)(h:ListAt s.heap F'.B β D acc):Plain s'.heap D:=by
 obtain⟨o,vs,n,e1,e2,e3,as,e4,e5⟩:=h
 exact p.at fun o e=>st.keptE e (sr.fm.notBox D hDB) hDW (fun es n q=>by rw[e1] at e;cases e;rw[e3] at q;cases q)
theorem ziv{F':Fm}{D:Addr}{acc:List PyData}{s:Shared}{β:List Addr}{ρ:Loc}{O:za}{v:Value}{y:PyData}{Q:Value→Shared→Prop}{E:Value→Shared→Prop}(hDB:D∈F'.B)(sr:SR G F' β ρ O s.heap)(rv:VR G F'.B β s.heap v (.d y))(hl:ListAt s.heap F'.B β D acc)(hpl:Plain s.heap D)(hn:acc.length≤line)
 (k:∀ h',(∀ b o,b≠D→s.heap.get? b=some o→h'.get? b=some o)→(∃ o,h'.get? D=some o)→SR G F' β ρ O h'→(∀ v x,VR G F'.B β s.heap v (.d x)→VR G F'.B β h' v (.d x))→ListAt h' F'.B β D (acc++[y])→Plain h' D→Q .none { s with heap:=h' }) :
 wpAny (model G.prog G.w) A (call (.builtin "list.append") [.ref D,v]) Q E s:=by
 obtain⟨o,vs,n,e1,e2,e3,as,e4,e5⟩:=hl
 have hvl:=zf e4
 have hvs:vs.size≤sizeLine:=by
  rw[← Array.length_toList,hvl]
  exact Nat.le_trans hn (by decide)
 have hPL:s.heap.PlainList D vs:=by
  obtain⟨o₉,g1,g2,g3⟩:=hpl
  rw[e1] at g1;cases g1
  obtain⟨cl,di,da,sl⟩:=o
  simp only at e2 e3 g2 g3
  subst e2 e3 g2 g3
  exact⟨n,e1⟩
 refine wpAny_list_append_plain hPL (fun h' hl₆ hs₆=>?_) hvs
 obtain⟨n',f1⟩:=hl₆
 have hs':∀ b o,b≠D→s.heap.get? b=some o→h'.get? b=some o:=fun b o hb e=>(hs₆.2 b hb).trans e
 have tup:∀ o₂ vs₂ n₂,s.heap.get? D=some o₂→o₂.data=.seq vs₂ n₂→o₂.cls≠.type "tuple":=fun o₂ vs₂ n₂ e₂ _=>by rw [e1] at e₂;cases e₂;rw [e2];decide
 have vr:∀ v x,VR G F'.B β s.heap v (.d x)→VR G F'.B β h' v (.d x):=fun v x r=>r.but hs' hDB tup
 obtain⟨bs,r5,q5⟩:=vr _ _ rv
 have r4:ReadsAll h' vs.toList acc as:=xr (P:=fun a=>a≠D) (fun a o e p=>hs' a o p e) (fun a o vs n e hc hd=>fun e'=>by subst e';exact tup o vs n e hd hc) e4 fun a ha e'=>(e5 a ha).2 (e' ▸ hDB)
 refine k h' hs' ⟨_,f1⟩ (sr.but (n':=n') (vs':=vs) hs' hDB e1 e2 e3 f1 rfl) vr ⟨_,_,n',f1,rfl,rfl,as++(bs++[]),?_,fun a ha=>?_⟩ ⟨_,f1,rfl,rfl⟩
 ·rw[Array.toList_push]
  exact y5 r4 (.cons r5 .nil)
 ·rw[List.append_nil] at ha
  exact (List.mem_append.mp ha).elim (e5 a) (q5 a)
theorem ziw{elt iter:Expr}{ifs:List Expr}{pos:Pos}{src:Src}{I D:Addr}{Z:List Addr}{St:Nat→List Addr→List Addr→Heap→Prop}{evT:Loc→za→R za Bool}{evX:Loc→za→R za V}{F':Fm}{cx':Cx}{own:Str→Bool}
 (g:GOk G gval gname) (hh:A.handled=none) (fit':Fits F' cx') (hown:∀ x,own x=true→F'.own x=true) (hc:chkT cx' own tgt t=true)
 (ht:∀ s β ρ O,SR G F' β ρ O s.heap→Does G F' A s β (xa ifs F'.env) ((evT ρ O).lift ρ) BRel)
 (he:∀ s β ρ O,SR G F' β ρ O s.heap→Does G F' A s β (eval elt F'.env) ((evX ρ O).lift ρ) (VRel G F'))
 (W:Turns G A t I Z src St) {s₁ s:Shared} {β₁:List Addr} {ρ:Loc} {O₁:za} (hz0:∀ z∈Z,G.h₀.get? z=none) (hzF:∀ z∈Z,z∉F'.B) (hDn:s₁.heap.get? D=none) (hWn:∀ a∈F'.W,s₁.heap.get? a=none) (hDW:D∉F'.W) (hDB:D∈F'.B)
 (hlen:src.xs.length≤line) (step:Step Z β₁ s₁ s β₁) (sr:SR G F' β₁ (clr (yi tgt) ρ) O₁ s.heap) (has:src.Has O₁) (st:St 0 F'.B β₁ s.heap) (hlist:s.heap.PlainList D #[])
 {v:V} {O':za} (hgo:yd src (xn tgt evT evX ρ) src.xs [] O₁=.ok v O') {R:Result→Shared→Prop}
 (hR:∀ s' β' res,v=.d (.list res)→StepZ Z β₁ s₁ s' β'→SR G F' β' (clr (yi tgt) ρ) O' s'.heap→ListAt s'.heap F'.B β' D res→Plain s'.heap D→R (.ok .next) s') :
 codeAny (model G.prog G.w) A (.compLoop (.ListComp elt [⟨t,iter,ifs,0⟩] scope pos) 0 (.ref I) (.ref D) F'.env) R s:=by
 obtain⟨n,e1⟩:=hlist
 refine qk (CInv G F' src Z β₁ s₁ D (clr (yi tgt) ρ) St fun xs acc O=>yd src (xn tgt evT evX ρ) xs acc O=.ok v O') ?_ (src.xs.length+1) ⟨0,β₁,O₁,[],rfl,Nat.zero_le _,step,sr,has,st,⟨_,_,n,e1,rfl,rfl,[],.nil,fun _ h=>nomatch h⟩,⟨_,e1,rfl,rfl⟩,Nat.le_refl _,hgo⟩
 clear hgo st has sr step e1
 intro k s hI
 obtain⟨i,β,O,acc,rfl,hi,step,sr,has,st,hl,hpl,hal,hgo⟩:=hI
 have hitr:=W.itr _ _ _ _ st
 by_cases hlt:i < src.xs.length
 ·rw[List.drop_eq_getElem_cons hlt] at hgo
  have hx:src.xs[i]?=some src.xs[i]:=List.getElem?_eq_getElem hlt
  generalize src.xs[i]=x at hgo hx
  obtain⟨y,O₃,ht',hst,hgo⟩:=zql hgo
  obtain⟨ρ',b,O₂,hbt,het,hput⟩:=zjb ht'
  refine W.item i _ β O s x _ _ hx sr.br has st fun v s₂ kk=>?_
  refine kk _ _ fun s' kz rv st'=>?_
  have sr':=sr.keepZ hitr kz.kept g.clsRef hz0 hzF
  have step':Step Z β₁ s₁ s' β:=⟨kz.gens.trans step.gens,kz.os.trans step.os,step.pre,step.fresh,fun b o e=>by
   by_cases hb:b∈Z
   ·obtain⟨o',_,_,e',_⟩:=W.itr _ _ _ _ st' b hb;exact⟨o',e'⟩
   ·obtain⟨o',e'⟩:=step.alive b o e;exact⟨o',kz.kept b o' hb e'⟩,fun b o e hb hz=>let ⟨o',e',kn⟩:=step.kept b o e hb hz;⟨o',kz.kept b o' hz e',kn⟩⟩
  have hl':ListAt s'.heap F'.B β D acc:=BoxAt.keepZ (bx:=.lst acc) hitr kz.kept hl
  have hpl':Plain s'.heap D:=hpl.at fun o e=>kz.kept D o (fun h=>hzF D h hDB) e
  have da:=xy (A:=A) hh fit' hown tgt hc sr' rv
  unfold bindR at da
  dsimp only at da
  rw[zi2,hbt] at da
  dsimp only at da
  refine da _ _ fun s₃ β₃ _ st₃ sr₃ _=>?_
  have step₃:=step'.thenW st₃ hWn
  have stZ₃:=W.over sr' hzF st' st₃
  have hl₃:=po hDB hDW sr' st₃ hl'
  have hpl₃:=v0 hDB hDW sr' st₃ hpl' hl'
  have clear':∀ {s β O},SR G F' β ρ' O s→SR G F' β (clr (yi tgt) ρ) O s:=fun sr=>sr.fewer fun j v hv=>by
   have hj:j∉yi tgt:=fun hm=>d9 _ _ _ _ hm hv
   rw[vc _ _ _ hj] at hv
   rw[ze1 tgt _ ρ ρ' hbt j hj];exact hv
  have dt:=ht s₃ β₃ ρ' O sr₃
  rw[het] at dt
  refine dt _ _ fun s₄ β₄ b' st₄ sr₄ hb=>?_
  have hb:b'=b:=hb
  subst hb
  have step₄:=step₃.thenW st₄ hWn
  have stZ₄:=W.over sr₃ hzF stZ₃ st₄
  have hl₄:=po hDB hDW sr₃ st₄ hl₃
  have hpl₄:=v0 hDB hDW sr₃ st₄ hpl₃ hl₃
  have hk:src.xs.length+1 - (i+1) < src.xs.length+1 - i:=by omega
  cases hput with
  | skip=>
    rw[if_neg (by decide)]
    rw[Option.toList_none,List.append_nil] at hgo
    exact⟨_,hk,i+1,β₄,_,acc,rfl,hlt,step₄,clear' sr₄,Src.has_of hst,stZ₄,hl₄,hpl₄,Nat.le_succ_of_le hal,hgo⟩
  | put y _ hex=>
    rw[if_pos rfl]
    have dx:=he s₄ β₄ ρ' O₂ sr₄
    rw[hex] at dx
    refine dx _ _ fun s₅ β₅ v₅ st₅ sr₅ rv₅=>?_
    have step₅:=step₄.thenW st₅ hWn
    have stZ₅:=W.over sr₄ hzF stZ₄ st₅
    refine ziv hDB sr₅ rv₅ (po hDB hDW sr₄ st₅ hl₄) (v0 hDB hDW sr₄ st₅ hpl₄ hl₄) (Nat.le_trans hal (Nat.le_trans (Nat.le_of_lt hlt) hlen)) fun h' hs' hD sr₆ vr₆ hl₆ hpl₆=>?_
    refine⟨_,hk,i+1,β₅,O₃,acc++[y],rfl,hlt,?_,clear' sr₆,Src.has_of hst,W.keep _ _ _ _ _ _ _ stZ₅ (fun z hz o e=>hs' z o (fun e'=>hzF z hz (e' ▸ hDB)) e) vr₆ (List.prefix_refl _),hl₆,hpl₆,by rw[List.length_append];exact Nat.succ_le_succ hal,hgo⟩
    exact⟨step₅.gens,step₅.os,step₅.pre,step₅.fresh,fun b o e=>by
     by_cases hb:b=D
     ·subst hb;exact hD
     ·obtain⟨o₂,e₂⟩:=step₅.alive b o e;exact⟨o₂,hs' b o₂ hb e₂⟩,fun b o e hb hz=>let ⟨o',e',kn⟩:=step₅.kept b o e hb hz;⟨o',hs' b o' (fun e₂=>by subst e₂;rw[hDn] at e;cases e) e',kn⟩⟩
 ·have hie:i=src.xs.length:=by omega
  rw[hie,List.drop_length] at hgo
  have hgo:Mine.R.ok (V.d (.list acc)) O=Mine.R.ok v O':=hgo
  cases hgo
  refine W.done i _ β _ s _ _ hie.symm sr.br has st fun s' kz=>?_
  exact hR s' β acc rfl (step.z kz) (sr.keepZ hitr kz.kept g.clsRef hz0 hzF) (BoxAt.keepZ (bx:=.lst _) hitr kz.kept hl) (hpl.at fun o e=>kz.kept D o (fun h=>hzF D h hDB) e)
theorem zgm{elt iter:Expr}{ifs:List Expr}{pos:Pos}{src:Src}{I C D:Addr}{Z:List Addr}{St:Nat→List Addr→List Addr→Heap→Prop}{evT:Loc→za→R za Bool}{evX:Loc→za→R za V}
 (g:GOk G gval gname) (hh:A.handled=none) (fit':Fits (zl cx F tgt t scope C D) (cx.inner tgt t scope)) (hc:chkT (cx.inner tgt t scope) (ownOf scope) tgt t=true)
 (ht:∀ s β ρ O,SR G (zl cx F tgt t scope C D) β ρ O s.heap→Does G (zl cx F tgt t scope C D) A s β (xa ifs (zl cx F tgt t scope C D).env) ((evT ρ O).lift ρ) BRel)
 (he:∀ s β ρ O,SR G (zl cx F tgt t scope C D) β ρ O s.heap→Does G (zl cx F tgt t scope C D) A s β (eval elt (zl cx F tgt t scope C D).env) ((evX ρ O).lift ρ) (VRel G (zl cx F tgt t scope C D)))
 (W:Turns G A t I Z src St) {s₁ s:Shared} {β₁:List Addr} {ρ:Loc} {O₁:za} (hz1:∀ z∈Z,Itr s₁.heap z) (hz0:∀ z∈Z,G.h₀.get? z=none) (hzB:∀ z∈Z,z∉F.B)
 (hM:∀ a∈D::C::(cellsFrom (C+1) scope.names []).map (·.2),s₁.heap.get? a=none) (hDC:D≠C) (hDcell:∀ x,(x,D)∉cellsFrom (C+1) scope.names [])
 (hlen:src.xs.length≤line)
 (step:Step Z β₁ s₁ s β₁) (sr:SR G (zl cx F tgt t scope C D) β₁ (clr (yi tgt) ρ) O₁ s.heap) (has:src.Has O₁) (st:St 0 (zl cx F tgt t scope C D).B β₁ s.heap) (hlist:s.heap.PlainList D #[])
 {res:List PyData} {O':za}
 (hgo:yd src (xn tgt evT evX ρ) src.xs [] O₁=.ok (.d (.list res)) O') {R:Result→Shared→Prop}
 (hR:∀ s' β',CompEnd G F scope Z β₁ s₁ C D res O' s' β'→R (.ok .next) s') :
 codeAny (model G.prog G.w) A (.compLoop (.ListComp elt [⟨t,iter,ifs,0⟩] scope pos) 0 (.ref I) (.ref D) (zl cx F tgt t scope C D).env) R s:=by
 have hzF:∀ z∈Z,z∉(zl cx F tgt t scope C D).B:=fun z hz hm=>by
  rcases List.mem_append.mp hm with hm | hm
  ·obtain⟨o,_,_,e,_⟩:=hz1 z hz
   rw[hM z hm] at e;cases e
  ·exact hzB z hz hm
 have hDW:D∉(zl cx F tgt t scope C D).W:=fun hm=>by
  rcases List.mem_cons.mp hm with e | hm
  ·exact hDC e
  ·obtain⟨p,hp,e⟩:=List.mem_map.mp hm
   exact hDcell p.1 (by rw[← e];exact hp)
 refine ziw g hh fit' (fun x h=>h) hc ht he W hz0 hzF (hM D List.mem_cons_self) (fun a ha=>hM a (List.mem_cons_of_mem _ ha)) hDW List.mem_cons_self hlen step sr has st hlist hgo fun s' β res' e sz sr' hl hpl=>?_
 cases e
 exact hR s' β ⟨sz,sr'.br,hl,sr'.fm.ns,fun a ha=>sr'.fm.stor a (List.mem_append_left _ (List.mem_cons_of_mem _ ha)),sr'.fm.notBox,hM,fun hm=>hDW (List.mem_cons_of_mem _ hm),hpl⟩
end
noncomputable def Fm.plus(F:Fm)(M:List Addr):Fm:={ F with B:=M++F.B }
section
variable{G:Gl}{F:Fm}{A:Around}{Z β β' N M:List Addr}{O O':za}{ρ:Loc}{s s':Shared}(hz:∀ z∈Z,Itr s.heap z)(hc:∀ c,∃ C,G.cls c=.ref C)(sz:StepZ Z β s s' β')
include hz sz
theorem zcm{as:List Addr}(al:∀ a∈as,∃ o,s.heap.get? a=some o)(q:∀ a∈as,a∉β∧a∉N):∀ a∈as,a∉β'∧a∉N:=fun a ha=>by
 refine⟨fun hb=>?_,(q a ha).2⟩
 rcases sz.fresh a hb with h | h
 ·exact (q a ha).1 h
 ·obtain⟨o,e⟩:=al a ha;rw[e] at h;cases h
theorem uh(br:BR G N β O s.heap){v:Value}{x:PyData}{as:List Addr}(r:Reads s.heap v x as)(q:∀ a∈as,a∉β∧a∉N):Reads s'.heap v x as∧∀ a∈as,a∉β'∧a∉N:=by
 refine⟨qx (P:=fun a=>a∉β∧a∉Z) (fun a o e p=>sz.kept a o p.2 e p.1) (fun a o vs n e hcl hd=>⟨fun hb=>?_,notZ hz e fun fs h=>by rw[hd] at h;cases h⟩) r fun a ha=>⟨(q a ha).1,let ⟨o,e,hd⟩:=pf r a ha;notZ hz e hd⟩,zcm hz sz (y8 r) q⟩
 obtain⟨o',e',h'⟩:=br.alive a hb
 rw[e] at e';cases e'
 rw[hcl] at h'
 rcases h' with h' | h' <;> exact absurd h' (by decide)
theorem ItsR.stepZ(br:BR G N β O s.heap){vs:List Value}{its:List It}(r:ItsR N β s.heap vs its):ItsR N β' s'.heap vs its:=by
 induction r with
 | nil=>exact .nil
 | b h1 _ ih=>exact .b (x4 sz.pre h1) ih
 | x h1 h2 _ ih=>obtain⟨r',q'⟩:=uh hz sz br h1 h2;exact .x r' q' ih
include hc in
theorem VR.stepZ(br:BR G N β O s.heap){v:Value}{x:V}(r:VR G N β s.heap v x):VR G N β' s'.heap v x:=by
 have nb:∀ {a:Addr} {o:Obj},s.heap.get? a=some o→a∉β→a∉β':=fun e h hb=>by
  rcases sz.fresh _ hb with h' | h'
  ·exact h h'
  ·rw[e] at h';cases h'
 cases x with
 | d x=>obtain⟨as,r,q⟩:=r;obtain⟨r',q'⟩:=uh hz sz br r q;exact⟨as,r',q'⟩
 | box n=>obtain⟨a,h1,h2⟩:=r;exact⟨a,x4 sz.pre h1,h2⟩
 | tm its=>
   obtain⟨a,o,vs,k,rfl,h1,h2,h3,h4⟩:=r
   refine⟨a,o,vs,k,rfl,sz.keptE (notZ hz h1 fun fs h=>by rw[h3] at h;cases h) h1 (fun hb=>?_) (fun es n q=>by rw[h3] at q;cases q),h2,h3,ItsR.stepZ hz sz br h4⟩
   obtain⟨o',e',h'⟩:=br.alive a hb
   rw[h1] at e';cases e'
   rw[h2] at h'
   rcases h' with h' | h' <;> exact absurd h' (by decide)
include hc in
theorem SR.outerZ(sr:SR G F β ρ O s.heap)(hzB:∀ z∈Z,z∉F.B)(hM:∀ a∈M,s.heap.get? a=none)(br:BR G (M++F.B) β' O' s'.heap)(nb:∀ a∈M++F.B,a∉β')
 (hst:∀ a∈M,∃ o,s'.heap.get? a=some o∧∀ vs n,o.data=.seq vs n→o.cls≠.type "tuple"):SR G (F.plus M) β' ρ O' s'.heap:=by
 have hB:∀ a∈F.B,∀ o,s.heap.get? a=some o→∃ o',s'.heap.get? a=some o'∧Kin o o':=fun a ha o e=>sz.kept a o (fun h=>hzB a h ha) e (sr.fm.notBox a ha)
 have hL:F.env.locals∈F.B:=sr.fm.sub _ sr.fm.nsW
 have hns:∀ m,s.heap.Ns F.env.locals m→s'.heap.Ns F.env.locals m:=fun m hm=>Kin.ns hm (hB _ hL)
 refine⟨br,⟨sr.fm.kind,sr.fm.globals,sr.fm.builtins,sr.fm.once,?_,sr.fm.nsW,?_,sr.fm.apart,fun a ha=>List.mem_append_right _ (sr.fm.sub a ha),?_,nb,fun a ha=>?_,fun a ha=>List.mem_append_right _ (sr.fm.frB a ha),fun a ha=>let ⟨m,hm⟩:=sr.fm.frs a ha;⟨m,Kin.ns hm (hB a (sr.fm.frB a ha))⟩,fun m e=>⟨hns m (sr.fm.pin m e).1,(sr.fm.pin m e).2⟩⟩,fun i x v h1 h2=>?_⟩
 ·obtain⟨m,hm⟩:=sr.fm.ns;exact⟨m,hns m hm⟩
 ·intro x hx
  obtain⟨c,v,h3,h4,h6,h7⟩:=sr.fm.cell x hx
  exact⟨c,v,h3,Kin.cell h4 (hB c h6),List.mem_append_right _ h6,h7⟩
 ·have:=zdq (F:=F) (fr:=[]) sr.br hM ⟨sr.fm.new.1,sr.fm.new.2.1⟩
  exact⟨this.1,this.2.1,sr.fm.new.2.2⟩
 ·rcases List.mem_append.mp ha with ha | ha
  ·exact hst a ha
  ·obtain⟨o,h1,h2⟩:=sr.fm.stor a ha
   obtain⟨o',e',kn⟩:=hB a ha o h1
   exact⟨o',e',fun vs n hv=>by rw[kn.cls];exact h2 vs n (kn.data.symm.trans hv)⟩
 ·obtain⟨val,g,r⟩:=sr.get i x v h1 h2
  refine⟨val,?_,(r.grow hM).stepZ hz hc sz (sr.br.grow hM)⟩
  rcases g with ⟨g1,m,g2,g3⟩ | ⟨g1,c,g2,g3⟩
  ·exact .inl ⟨g1,m,hns m g2,g3⟩
  ·obtain⟨c',v',h3,h4,h6,h7⟩:=sr.fm.cell x g1
   rw[g2] at h3;cases h3
   exact .inr ⟨g1,c,g2,Kin.cell g3 (hB c h6)⟩
end
section
variable{G:Gl}{F:Fm}{A:Around}{β β₁ N M:List Addr}{O:za}{ρ:Loc}{h h' h₁:Heap}
theorem ItsR.less{N':List Addr}(hs:∀ a∈N,a∈N'){vs:List Value}{its:List It}(r:ItsR N' β h vs its):ItsR N β h vs its:=by
 induction r with
 | nil=>exact .nil
 | b h1 _ ih=>exact .b h1 ih
 | x h1 h2 _ ih=>exact .x h1 (fun a ha=>⟨(h2 a ha).1,fun hn=>(h2 a ha).2 (hs a hn)⟩) ih
theorem VR.less{N':List Addr}(hs:∀ a∈N,a∈N'){v:Value}{x:V}(r:VR G N' β h v x):VR G N β h v x:=by
 cases x with
 | d x=>obtain⟨as,r,q⟩:=r;exact⟨as,r,fun a ha=>⟨(q a ha).1,fun hn=>(q a ha).2 (hs a hn)⟩⟩
 | box n=>exact r
 | tm its=>obtain⟨a,o,vs,k,e,h1,h2,h3,h4⟩:=r;exact⟨a,o,vs,k,e,h1,h2,h3,h4.less hs⟩
theorem SR.drop{C:Addr}(fm:FmOk G F β₁ h₁)(sr:SR G (F.plus M) β ρ O h)(hC:C∈M)(hCB:C∉F.B)(hs:∀ b o,b≠C→h.get? b=some o→h'.get? b=some o):SR G F β ρ O h':=by
 have hCM:C∈(F.plus M).B:=List.mem_append_left _ hC
 have ht:∀ o vs n,h.get? C=some o→o.data=.seq vs n→o.cls≠.type "tuple":=fun o vs n e hd=>by
  obtain⟨o',e',q⟩:=sr.fm.stor C hCM
  rw[e] at e';cases e'
  exact q vs n hd
 have sub:∀ a∈F.B,a∈(F.plus M).B:=fun a ha=>List.mem_append_right _ ha
 have hL:F.env.locals∈F.B:=fm.sub _ fm.nsW
 have hB:∀ a∈F.B,∀ o,h.get? a=some o→h'.get? a=some o:=fun a ha o e=>hs a o (fun e'=>hCB (e' ▸ ha)) e
 have hns:∀ m,h.Ns F.env.locals m→h'.Ns F.env.locals m:=fun m ⟨o,es,ep,h1,r⟩=>⟨o,es,ep,hB _ hL o h1,r⟩
 refine⟨(sr.br.but hs hCM (sr.fm.notBox C hCM) (sr.fm.newB hCM fun e=>hCB (e ▸ fm.new.2.1)) ht).less sub,⟨sr.fm.kind,sr.fm.globals,sr.fm.builtins,sr.fm.once,?_,sr.fm.nsW,?_,sr.fm.apart,fm.sub,fm.new,fun a ha=>sr.fm.notBox a (sub a ha),fun a ha=>?_,fm.frB,fun a ha=>?_,fun m e=>⟨hns m (sr.fm.pin m e).1,(sr.fm.pin m e).2⟩⟩,fun i x v h1 h2=>?_⟩
 ·obtain⟨m,hm⟩:=sr.fm.ns;exact⟨m,hns m hm⟩
 ·intro x hx
  obtain⟨c,v,h3,⟨o,h4,h5⟩,_,h7⟩:=sr.fm.cell x hx
  obtain⟨c',_,q1,_,q2,q3⟩:=fm.cell x hx
  have:F.env.cells.lookup x=some c:=h3
  rw[this] at q1;cases q1
  exact⟨c,v,h3,⟨o,hB c q2 o h4,h5⟩,q2,q3⟩
 ·obtain⟨o,h1,h2⟩:=sr.fm.stor a (sub a ha)
  exact⟨o,hB a ha o h1,h2⟩
 ·obtain⟨m,o,es,ep,h1,h2⟩:=sr.fm.frs a ha
  exact⟨m,o,es,ep,hB a (fm.frB a ha) o h1,h2⟩
 ·obtain⟨val,g,r⟩:=sr.get i x v h1 h2
  refine⟨val,?_,(r.but hs hCM ht).less sub⟩
  rcases g with ⟨g1,m,g2,g3⟩ | ⟨g1,c,g2,o,g3,g4⟩
  ·exact .inl ⟨g1,m,hns m g2,g3⟩
  ·obtain⟨c',_,q1,_,q2,q3⟩:=fm.cell x g1
   have g2':F.env.cells.lookup x=some c:=g2
   rw[g2'] at q1;cases q1
   exact .inr ⟨g1,c,g2,o,hB c q2 o g3,g4⟩
end
section
variable{G:Gl}{F:Fm}{A:Around}{cx:Cx}{tgt:CT}{t:Expr}{scope:Scope}{gval:Nat→Option PyData}{gname:Nat→Option Str}
theorem zbp{elt iter:Expr}{ifs:List Expr}{pos:Pos}{src:Src}{I:Addr}{Z:List Addr}{St:Nat→List Addr→List Addr→Heap→Prop}{evT:Loc→za→R za Bool}{evX:Loc→za→R za V}{E:Value→Shared→Prop}
 (g:GOk G gval gname) (hh:A.handled=none) (fit:Fits F cx) (hsc:xb scope cx.sc=true) (honce:xg (cx.inner tgt t scope).names=true) (hc:chkT (cx.inner tgt t scope) (ownOf scope) tgt t=true)
 (ht:∀ C D s β ρ O,SR G (zl cx F tgt t scope C D) β ρ O s.heap→Does G (zl cx F tgt t scope C D) A s β (xa ifs (zl cx F tgt t scope C D).env) ((evT ρ O).lift ρ) BRel)
 (he:∀ C D s β ρ O,SR G (zl cx F tgt t scope C D) β ρ O s.heap→Does G (zl cx F tgt t scope C D) A s β (eval elt (zl cx F tgt t scope C D).env) ((evX ρ O).lift ρ) (VRel G (zl cx F tgt t scope C D)))
 (W:Turns G A t I Z src St) {s₁:Shared} {β₁:List Addr} {ρ:Loc} {O₁:za} (sr₁:SR G F β₁ ρ O₁ s₁.heap) (hz0:∀ z∈Z,G.h₀.get? z=none) (hzB:∀ z∈Z,z∉F.B)
 (hlen:src.xs.length≤line) (has:src.Has O₁) (st:St 0 F.B β₁ s₁.heap) {res:List PyData} {O':za} (hgo:yd src (xn tgt evT evX ρ) src.xs [] O₁=.ok (.d (.list res)) O') {RR:Value→Addr→Result→Shared→Prop}
 (hR:∀ C D s' β',CompEnd G F scope Z β₁ s₁ C D res O' s' β'→RR (.ref D) C (.ok .next) s') :
 wpAny (model G.prog G.w) A (newList []) (fun acc s₃=>wpAny (model G.prog G.w) A (newFunctionEnv scope F.env.globals (jg F.env scope.names []) [] F.env.qual none .none (some F.env)) (fun cenv s₄=>
  codeAny (model G.prog G.w) A (.compStart (.ListComp elt [⟨t,iter,ifs,0⟩] scope pos) 0 (.ref I) acc { cenv with scope:=relabel scope F.env }) (RR acc cenv.locals) s₄) E s₃) E s₁:=by
 refine wpAny_newObj_type ?_
 refine zet fun s₄ ka hns ok=>?_
 have kp:=KeepsAll.push s₁ { cls:=.type "list",data:=.seq ([]:List Value).toArray } s₁.toks
 have ka1:KeepsAll s₁ s₄:=kp.trans ka
 generalize hD:s₁.heap.objs.size=D at *
 have hCe:(s₁.heap.push { cls:=.type "list",data:=.seq ([]:List Value).toArray }).objs.size=D+1:=by rw [Heap.size_push,hD]
 dsimp only at hns ok ⊢
 rw[hCe] at hns ok ⊢
 have hlo:∀ a,D≤a→s₁.heap.get? a=none:=fun a ha=>Heap.get?_none_of_le (by rw[hD];exact ha)
 have hDo:s₄.heap.get? D=some { cls:=.type "list",data:=.seq ([]:List Value).toArray }:=ka.kept _ _ (by rw [← hD];exact Heap.get?_push_size _ rfl)
 have hM:∀ a∈D::(D+1)::(cellsFrom (D+1+1) scope.names []).map (·.2),s₁.heap.get? a=none:=fun a ha=>by
  rcases List.mem_cons.mp ha with rfl | ha
  ·exact hlo _ (Nat.le_refl _)
  ·rcases List.mem_cons.mp ha with rfl | ha
   ·exact hlo _ (Nat.le_succ _)
   ·obtain⟨p,hp,rfl⟩:=List.mem_map.mp ha
    exact hlo _ (by have:=(ok.empty p.1 p.2 hp).2;omega)
 have sr₄:=zjj (C:=D+1) (D:=D) (tgt:=tgt) (t:=t) fit sr₁ hsc honce ka1.kept hns ok (fun a ha=>hlo a (Nat.le_of_succ_le ha)) (hlo _ (Nat.le_refl _)) hDo rfl
 have fit':=dj (tgt:=tgt) (t:=t) (scope:=scope) fit sr₁.fm.kind hsc (D+1) D
 have hz1:=W.itr _ _ _ _ st
 have st₄:St 0 (zl cx F tgt t scope (D+1) D).B β₁ s₄.heap:=W.keep 0 F.B _ β₁ β₁ s₁.heap s₄.heap st (fun z hz o e=>ka1.kept z o e) (fun v x r=>(r.grow hM).keepAll ka1.kept) (List.prefix_refl _)
 have loop:codeAny (model G.prog G.w) A (.compLoop (.ListComp elt [⟨t,iter,ifs,0⟩] scope pos) 0 (.ref I) (.ref D) (zl cx F tgt t scope (D+1) D).env) (RR (.ref D) (D+1)) s₄:=
  zgm g hh fit' hc (ht _ _) (he _ _) W hz1 hz0 hzB hM (Nat.ne_of_lt (Nat.lt_succ_self D)) (fun x hm=>by have:=(ok.empty x D hm).2;omega) hlen (ka1.step _ _) sr₄ has st₄ ⟨_,hDo⟩ hgo (hR _ _)
 exact codeAny_compStart_list loop (W.self 0 _ _ _ _ _ st₄ loop)
end
theorem BR.addBox{G:Gl}{N β:List Addr}{O:za}{h:Heap}{D:Addr}{xs:List PyData}(b:BR G (D::N) β O h)(l:ListAt h (D::N) β D xs)(hb:D∉β)(h0:G.h₀.get? D=none)(hpl:Plain h D):BR G N (β++[D]) (O++[.lst xs]) h:=by
 have ap:∀ {as:List Addr},(∀ a∈as,a∉β∧a∉D::N)→∀ a∈as,a∉β++[D]∧a∉N:=fun q a ha=>by
  obtain⟨q1,q2⟩:=q a ha
  refine⟨fun hm=>?_,fun hm=>q2 (List.mem_cons_of_mem _ hm)⟩
  rcases List.mem_append.mp hm with hm | hm
  ·exact q1 hm
  ·rw[List.mem_singleton.mp hm] at q2;exact q2 List.mem_cons_self
 refine⟨b.keep,by simp[b.len],?_,fun a ha=>?_,fun i a bx h1 h2=>?_,fun a ha=>(List.mem_append.mp ha).elim (b.plain a) fun h=>by rw[List.mem_singleton.mp h];exact hpl⟩
 ·rw[List.nodup_append]
  exact⟨b.nodup,by simp,fun a ha c hc=>by rw[List.mem_singleton.mp hc];exact fun e=>hb (e ▸ ha)⟩
 ·rcases List.mem_append.mp ha with h | h
  ·exact b.new a h
  ·rw[List.mem_singleton.mp h];exact h0
 ·rcases Nat.lt_or_ge i β.length with hi | hi
  ·rw[List.getElem?_append_left hi] at h1
   rw[List.getElem?_append_left (by rw[← b.len];exact hi)] at h2
   have hx:=b.at_ i a bx h1 h2
   cases bx with
   | lst ys=>obtain⟨o,vs,n,e1,e2,e3,as,e4,e5⟩:=hx;exact⟨o,vs,n,e1,e2,e3,as,e4,ap e5⟩
   | dct kvs=>
     obtain⟨o,es,n,e1,e2,e3,e4,e5⟩:=hx
     refine⟨o,es,n,e1,e2,e3,e4,fun i e kv he hkv=>?_⟩
     obtain⟨hq,as,bs,r1,r2,q⟩:=e5 i e kv he hkv
     exact⟨hq,as,bs,r1,r2,ap q⟩
  ·rw[List.getElem?_append_right hi] at h1
   rw[List.getElem?_append_right (by rw[← b.len];exact hi)] at h2
   have hi0:i - β.length=0:=by
    rcases Nat.eq_zero_or_pos (i - β.length) with h | h
    ·exact h
    ·rw[List.getElem?_eq_none (show [D].length≤i - β.length from h)] at h1;cases h1
   rw[hi0] at h1
   rw[← b.len,hi0] at h2
   cases h1;cases h2
   obtain⟨o,vs,n,e1,e2,e3,as,e4,e5⟩:=l
   exact⟨o,vs,n,e1,e2,e3,as,e4,ap e5⟩
section
variable{G:Gl}{F:Fm}{A:Around}{cx:Cx}{tgt:CT}{t:Expr}{scope:Scope}{gval:Nat→Option PyData}{gname:Nat→Option Str}
variable{Z β₁ β':List Addr}{s₁ s':Shared}{C D:Addr}{res:List PyData}{O₁ O':za}{ρ:Loc}
noncomputable abbrev y0(scope:Scope)(C:Addr):List Addr:=C::(cellsFrom (C+1) scope.names []).map (·.2)
theorem CompEnd.sr(e:CompEnd G F scope Z β₁ s₁ C D res O' s' β')(sr₁:SR G F β₁ ρ O₁ s₁.heap)(hz:∀ z∈Z,Itr s₁.heap z)(hzB:∀ z∈Z,z∉F.B)(hc:∀ c,∃ C,G.cls c=.ref C)(hDM:D∉y0 scope C) :
 SR G (F.plus (y0 scope C)) β' ρ O' s'.heap∧VR G (F.plus (y0 scope C)).B β' s'.heap (.ref D) (.d (.list res)):=by
 refine⟨SR.outerZ hz hc e.step sr₁ hzB (fun a ha=>e.new a (List.mem_cons_of_mem _ ha)) (e.br.less fun a ha=>List.mem_cons_of_mem _ ha) (fun a ha=>e.notBox a (List.mem_cons_of_mem _ ha)) e.stor,?_⟩
 obtain⟨o,vs,n,e1,e2,e3,as,e4,e5⟩:=e.list
 refine xe e1 e2 e3 e4 (fun a ha=>⟨(e5 a ha).1,fun hm=>(e5 a ha).2 (List.mem_cons_of_mem _ hm)⟩) ⟨e.notBox D List.mem_cons_self,fun hm=>?_⟩
 rcases List.mem_append.mp hm with hm | hm
 ·exact hDM hm
 ·obtain⟨o',q,_⟩:=sr₁.fm.stor D hm
  rw[e.new D List.mem_cons_self] at q;cases q
theorem CompEnd.srB(e:CompEnd G F scope Z β₁ s₁ C D res O' s' β')(sr₁:SR G F β₁ ρ O₁ s₁.heap)(hz:∀ z∈Z,Itr s₁.heap z)(hzB:∀ z∈Z,z∉F.B)(hc:∀ c,∃ C,G.cls c=.ref C)(hDM:D∉y0 scope C) :
 StepZ Z β₁ s₁ s' (β'++[D])∧SR G (F.plus (y0 scope C)) (β'++[D]) ρ (O'++[.lst res]) s'.heap∧VR G (F.plus (y0 scope C)).B (β'++[D]) s'.heap (.ref D) (.box O'.length):=by
 have hDn:=e.new D List.mem_cons_self
 have hDb:=e.notBox D List.mem_cons_self
 have sz:StepZ Z β₁ s₁ s' (β'++[D]):=⟨e.step.gens,e.step.os,e.step.pre.trans (List.prefix_append _ _),fun a ha=>by
  rcases List.mem_append.mp ha with h | h
  ·exact e.step.fresh a h
  ·rw[List.mem_singleton.mp h];exact .inr hDn,e.step.alive,e.step.kept⟩
 have h0:G.h₀.get? D=none:=by
  cases q:G.h₀.get? D with
  | none=>rfl
  | some o=>have:=sr₁.br.keep D o q;rw[hDn] at this;cases this
 have br:=e.br.addBox (N:=y0 scope C++F.B) e.list hDb h0 e.plain
 refine⟨sz,SR.outerZ hz hc sz sr₁ hzB (fun a ha=>e.new a (List.mem_cons_of_mem _ ha)) br (fun a ha hm=>?_) e.stor,⟨D,by rw[← e.br.len];simp,rfl⟩⟩
 rcases List.mem_append.mp hm with hm | hm
 ·exact e.notBox a (List.mem_cons_of_mem _ ha) hm
 ·rw[List.mem_singleton.mp hm] at ha
  rcases List.mem_append.mp ha with ha | ha
  ·exact hDM ha
  ·obtain⟨o',q,_⟩:=sr₁.fm.stor D ha
   rw[hDn] at q;cases q
theorem uk{sc:Scope}(hsc:xb scope sc=true):∀ x∈scope.names,x.2=.local→scope.names.lookup x.1=some .local:=fun x hx h=>by
 obtain⟨_,k2,_⟩:=yt hsc
 obtain⟨n,k⟩:=x
 cases h
 exact (lookup_mem k2).mp hx
theorem zbs{β:List Addr}{h:Heap}{sc:Scope}(fit:Fits F cx)(fm:FmOk G F β h)(hsc:xb scope cx.sc=true):∀ p∈scope.names,p.2=.free→(F.env.cells.lookup p.1).isSome=true:=fun p hp hf=>by
 obtain⟨n,k⟩:=p
 obtain⟨_,_,k3⟩:=yt hsc
 cases hf
 rcases k3 n _ hp with h | h | h | ⟨_,h⟩
 ·cases h
 ·cases h
 ·cases h
 ·obtain⟨c,v,q,_⟩:=fm.cell n ((fit.kind n).trans h)
  rw[q];rfl
inductive Fin2:(V→za→R za V)→Prop
 | plain:Fin2 fun v O=>.ok v O
 | box:Fin2 boxK
theorem kl{src:Src}{turn:PyData→za→R za (Option PyData)}:∀ (xs acc:List PyData) (O:za),(∃ ys O',yd src turn xs acc O=.ok (.d (.list ys)) O')∨yd src turn xs acc O=.stuck
 | [],acc,O=>.inl ⟨acc,O,rfl⟩
 | x::xs,acc,O=>by
   unfold yd
   split
   ·split
    ·exact kl xs _ _
    ·exact .inr rfl
   ·exact .inr rfl
set_option tactic.hygienic true in
theorem zrd{elt iter:Expr}{ifs:List Expr}{pos:Pos}{r:R za Src}{evT:Loc→za→R za Bool}{evX:Loc→za→R za V}{K:V→za→R za V}{s:Shared}{β:List Addr}{O:za}
 (g:GOk G gval gname) (hh:A.handled=none) (fit:Fits F cx) (hsc:xb scope cx.sc=true) (honce:xg (cx.inner tgt t scope).names=true) (hc:chkT (cx.inner tgt t scope) (ownOf scope) tgt t=true) (hset:∀ l k p,iter≠.Set l k p)
 (ht:∀ C D s β ρ O,SR G (zl cx F tgt t scope C D) β ρ O s.heap→Does G (zl cx F tgt t scope C D) A s β (xa ifs (zl cx F tgt t scope C D).env) ((evT ρ O).lift ρ) BRel)
 (he:∀ C D s β ρ O,SR G (zl cx F tgt t scope C D) β ρ O s.heap→Does G (zl cx F tgt t scope C D) A s β (eval elt (zl cx F tgt t scope C D).env) ((evX ρ O).lift ρ) (VRel G (zl cx F tgt t scope C D)))
 (sr:SR G F β ρ O s.heap) (hI:DoesW G F s β (zbg G A iter F.env) (r.lift ρ) (IRel G F A t s)) (has:∀ src O',r=.ok src O'→src.Has O') (hK:Fin2 K) :
 Does G F A s β (eval (.ListComp elt [⟨t,iter,ifs,0⟩] scope pos) F.env) (((r.bind fun src O=>if src.xs.length≤line then yd src (xn tgt evT evX ρ) src.xs [] O else .stuck).bind K).lift ρ) (VRel G F):=by
 obtain⟨k1,k2,k3⟩:=yt hsc
 have hclos:=vm (zbs (sc:=cx.sc) fit sr.fm hsc)
 have hfold:∀ x,foldedSetIterable iter F.env x=pure x:=fun x=>qe hset _ _
 cases r with
 | stuck=>trivial
 | ok src O₁=>
   show DoesW G F s β _ (R.lift ρ (R.bind (if src.xs.length≤line then yd src (xn tgt evT evX ρ) src.xs [] O₁ else .stuck) K)) _
   split
   ·rename_i hlen
    rcases kl (src:=src) (turn:=xn tgt evT evX ρ) src.xs [] O₁ with ⟨res,O',hgo⟩ | hgo
    ·rw[hgo]
     show DoesW G F s β _ (R.lift ρ (K (.d (.list res)) O')) _
     have run:∀ (Q:Value→Shared→Prop) (E:Value→Shared→Prop),(∀ s₁ β₁ Z C D s' β' h',Step F.W β s s₁ β₁→SR G F β₁ ρ O₁ s₁.heap→(∀ z∈Z,Itr s₁.heap z)→(∀ z∈Z,z∉F.B)→(∀ z∈Z,s.heap.get? z=none) →
      CompEnd G F scope Z β₁ s₁ C D res O' s' β'→D∉y0 scope C→Heap.SameBut C s'.heap h'→Q (.ref D) { s' with heap:=h' })→wpAny (model G.prog G.w) A (eval (.ListComp elt [⟨t,iter,ifs,0⟩] scope pos) F.env) Q E s:=by
      intro Q E k
      rw[eval_ListComp]
      refine wpAny_comprehension_free (use:=none) rfl hfold hclos k1 (uk hsc) (hI _ _ fun s₁ β₁ it st sr₁ ⟨I,Z,St,e,W,h0,hz⟩=>?_)
      subst e
      have hz0:∀ z∈Z,G.h₀.get? z=none:=fun z hz'=>by
       cases e:G.h₀.get? z with
       | none=>rfl
       | some o=>have:=sr.br.keep z o e;rw[hz z hz'] at this;cases this
      have hzB:∀ z∈Z,z∉F.B:=fun z hz' hB=>by
       obtain⟨o,e,_⟩:=sr.fm.stor z hB
       rw[hz z hz'] at e;cases e
      refine zbp (RR:=fun acc C=>compPost (model G.prog G.w) A E none Q acc C) g hh fit hsc honce hc ht he W sr₁ hz0 hzB hlen (has _ _ rfl) h0 hgo fun C D s' β' ce=>?_
      obtain⟨m,hm⟩:=ce.ns
      have hDM:D∉y0 scope C:=fun hm'=>by
       obtain⟨o,vs,n,q1,q2,q3,_⟩:=ce.list
       rcases List.mem_cons.mp hm' with e | hm'
       ·subst e
        obtain⟨o',es,ep,p1,p2,_⟩:=hm
        rw[q1] at p1;cases p1;rw[q3] at p2;cases p2
       ·exact ce.notCell hm'
      exact⟨m,hm,fun h' hs=>k s₁ β₁ Z C D s' β' h' st sr₁ (W.itr _ _ _ _ h0) hzB hz ce hDM hs⟩
     cases hK with
     | plain=>
       intro Q E k
       refine run Q E fun s₁ β₁ Z C D s' β' h' st sr₁ hz1 hzB hz ce hDM hs=>?_
       obtain⟨srp,vr⟩:=ce.sr sr₁ hz1 hzB g.clsRef hDM
       have hCM:C∈y0 scope C:=List.mem_cons_self
       have hCB:C∉F.B:=fun hB=>by
        obtain⟨o,e,_⟩:=sr₁.fm.stor C hB
        rw[ce.new C (List.mem_cons_of_mem _ List.mem_cons_self)] at e;cases e
       have hs':∀ b o,b≠C→s'.heap.get? b=some o→h'.get? b=some o:=fun b o hb e=>(hs.2 b hb).trans e
       have srF:=SR.drop sr₁.fm srp hCM hCB hs'
       have stF:Step F.W β s { s' with heap:=h' } β':=by
        have s1:=st.thenStepZ ce.step hz
        exact s1.thenZ (Z:=[C]) ⟨rfl,rfl,fun b o hb e=>hs' b o (fun e'=>hb (by simp [e'])) e⟩ fun z hz'=>by
         rw [List.mem_singleton.mp hz']
         cases e:s.heap.get? C with
         | none=>rfl
         | some o=>obtain⟨o',e'⟩:=st.alive _ _ e;rw[ce.new C (List.mem_cons_of_mem _ List.mem_cons_self)] at e';cases e'
       refine k _ β' _ stF srF ?_
       have hCMp:C∈(F.plus (y0 scope C)).B:=List.mem_append_left _ hCM
       exact (vr.but hs' hCMp (fun o vs n e hd=>by
        obtain⟨o',e',q⟩:=srp.fm.stor C hCMp
        rw[e] at e';cases e';exact q vs n hd)).less fun a ha=>List.mem_append_right _ ha
     | box=>
       intro Q E k
       refine run Q E fun s₁ β₁ Z C D s' β' h' st sr₁ hz1 hzB hz ce hDM hs=>?_
       obtain⟨sz,srp,vr⟩:=ce.srB sr₁ hz1 hzB g.clsRef hDM
       have hCM:C∈y0 scope C:=List.mem_cons_self
       have hCB:C∉F.B:=fun hB=>by
        obtain⟨o,e,_⟩:=sr₁.fm.stor C hB
        rw[ce.new C (List.mem_cons_of_mem _ List.mem_cons_self)] at e;cases e
       have hs':∀ b o,b≠C→s'.heap.get? b=some o→h'.get? b=some o:=fun b o hb e=>(hs.2 b hb).trans e
       have srF:=SR.drop sr₁.fm srp hCM hCB hs'
       have stF:Step F.W β s { s' with heap:=h' } (β'++[D]):=by
        have s1:=st.thenStepZ sz hz
        exact s1.thenZ (Z:=[C]) ⟨rfl,rfl,fun b o hb e=>hs' b o (fun e'=>hb (by simp [e'])) e⟩ fun z hz'=>by
         rw [List.mem_singleton.mp hz']
         cases e:s.heap.get? C with
         | none=>rfl
         | some o=>obtain⟨o',e'⟩:=st.alive _ _ e;rw[ce.new C (List.mem_cons_of_mem _ List.mem_cons_self)] at e';cases e'
       exact k _ _ _ stF srF vr
    ·rw[hgo];trivial
   ·trivial
end
theorem ze0{M:Model}{A:Around}{E:Value→Shared→Prop}{s:Shared}{op:BoolOp}{x y:Expr}{r:List Expr}{pos:Pos}{env:Env}{Q:Value→Shared→Prop}
 (h:wpAny M A (eval x env) (fun v s₁=>wpAny M A (truthy v) (fun t s₂=>if t=(op == .Or) then Q v s₂ else wpAny M A (boolOp pos op (evalEach (y::r) env)) Q E s₂) E s₁) E s) :
 wpAny M A (eval (.BoolOp op (x::y::r) pos) env) Q E s:=by
 show wpAny M A (do
  let v ← eval x env
  standAt pos
  let t ← holding [v] (truthy v)
  match op,t with
  | .And,false | .Or,true=>pure v
  | _,_=>boolOp pos op (evalEach (y::r) env)) Q E s
 refine wpAny_bind (wpAny_mono h (fun v s₁ h₁=>wpAny_bind (wpAny_standAt (wpAny_bind (wpAny_holding (wpAny_mono h₁ (fun t s₂ h₂=>?_) fun _ _ x=>x))))) fun _ _ x=>x)
 cases op <;> cases t
 ·rw[if_pos (by decide)] at h₂;exact wpAny_pure h₂
 ·rw[if_neg (by decide)] at h₂;exact h₂
 ·rw[if_neg (by decide)] at h₂;exact h₂
 ·rw[if_pos (by decide)] at h₂;exact wpAny_pure h₂
section
variable{G:Gl}{F:Fm}{A:Around}{s:Shared}{β:List Addr}{ρ:Loc}{O:za}
theorem zot{x y:Expr}{r:List Expr}{p:Pos}{ra:R za V}{rb:za→R za V}(h1:Does G F A s β (eval x F.env) (ra.lift ρ) (VRel G F))
 (h2:∀ s' β' O',SR G F β' ρ O' s'.heap→Does G F A s' β' (boolOp p .And (evalEach (y::r) F.env)) ((rb O').lift ρ) (VRel G F)) :
 Does G F A s β (eval (.BoolOp .And (x::y::r) p) F.env) ((ra.bind fun v O=>(opt (truth v) O).bind (andK rb)).lift ρ) (VRel G F):=by
 refine DoesW.seqE (T₂:=fun v Q E s'=>wpAny (model G.prog G.w) A (truthy v) (fun t s₂=>if t=(BoolOp.And == .Or) then Q v s₂ else wpAny (model G.prog G.w) A (boolOp p .And (evalEach (y::r) F.env)) Q E s₂) E s') (fun Q E h=>ze0 h) h1 fun s' β' v d O' e st sr rv=>?_
 refine DoesW.seqE (T₂:=fun t Q E s₂=>if t=(BoolOp.And == .Or) then Q v s₂ else wpAny (model G.prog G.w) A (boolOp p .And (evalEach (y::r) F.env)) Q E s₂) (fun Q E h=>h) (jf sr rv) fun s₂ β₂ b b' O₂ e₂ st₂ sr₂ hb=>?_
 have hb:b=b':=hb
 subst hb
 have hd:truth d=some b:=by cases h:truth d with
  | none=>rw[h] at e₂;cases e₂
  | some c=>rw[h] at e₂;cases e₂;rfl
 have:=we rv hd
 subst this
 cases b with
 | true=>exact (h2 s₂ β₂ O₂ sr₂).weaken (fun Q E h=>by show if _ then _ else _;rw[if_neg (by decide)];exact h) fun _ _ _ _ h=>h
 | false=>exact d_ok sr₂ VR.bool fun Q E h=>by show if _ then _ else _;rw[if_pos (by decide)];exact h
theorem ztf{op:Cop}{o:CmpOp}{x y:Expr}{p:Pos}{ra:R za V}{rb:za→R za V}{k:Nat}(ro:Room A k)(ho:x0 op o=true)(hs:∀ l k p,y≠.Set l k p)
 (h1:Does G F A s β (eval x F.env) (ra.lift ρ) (VRel G F)) (h2:∀ s' β' O',SR G F β' ρ O' s'.heap→Does G F A s' β' (eval y F.env) ((rb O').lift ρ) (VRel G F)) :
 Does G F A s β (eval (.Compare x [o] [y] p) F.env) ((ra.bind fun v O=>(rb O).bind fun u O=>cmpV op v u O).lift ρ) (VRel G F):=by
 refine DoesW.seqE (T₂:=fun a Q E s₁=>wpAny (model G.prog G.w) A (eval y F.env) (fun b s₂=>wpAny (model G.prog G.w) A (compareOp o a b) Q E s₂) E s₁) (fun Q E h=>wpAny_Compare1 h (xm hs o)) h1 fun s' β' v d O' e st sr rv=>?_
 refine DoesW.seqE (T₁:=tr G A (eval y F.env)) (T₂:=fun b=>tr G A (compareOp o v b)) (fun Q E h=>h) (h2 s' β' O' sr) fun s₂ β₂ u d₂ O₂ e₂ st₂ sr₂ ru=>?_
 exact ua ro ho sr₂ (rv.step sr.br sr.fm st₂) ru
theorem vd{M:Model}{E:Value→Shared→Prop}{x y z:Expr}{o1 o2:CmpOp}{pos:Pos}{env:Env}{Q:Value→Shared→Prop}
 (h:wpAny M A (eval x env) (fun a s₁=>wpAny M A (eval y env) (fun b s₂=>wpAny M A (compareOp o1 a b) (fun c s₃=>wpAny M A (truthy c) (fun t s₄=>if t=true then wpAny M A (eval z env) (fun d s₅=>wpAny M A (compareOp o2 b d) Q E s₅) E s₄ else Q c s₄) E s₃) E s₂) E s₁) E s)
 (hy:∀ l k p,y≠.Set l k p) (hz:∀ l k p,z≠.Set l k p):wpAny M A (eval (.Compare x [o1,o2] [y,z] pos) env) Q E s:=by
 show wpAny M A (do compareChain pos (← eval x env) [o1,o2] (markedEach [o1,o2] [y,z] (evalEach [y,z] env))) Q E s
 have hm:markedEach [o1,o2] [y,z] (evalEach [y,z] env)=[eval y env,eval z env]:=by
  show [eval y env,markedBehindIn o2 z (eval z env)]=_
  rw[markedBehindIn_of_false (xm hz o2)]
 rw[hm]
 refine wpAny_bind (wpAny_mono h (fun a s₁ h₁=>?_) fun _ _ x=>x)
 show wpAny M A (do
  let rv ← holding [a] (eval y env)
  standAt pos
  let c ← holding [a,rv] (compareOp o1 a rv)
  release [a,rv] [c]
  if ← holding [c,rv] (truthy c) then compareChain pos rv [o2] [eval z env] else pure c) Q E s₁
 refine wpAny_bind (wpAny_holding (wpAny_mono h₁ (fun b s₂ h₂=>wpAny_bind (wpAny_standAt (wpAny_bind (wpAny_holding (wpAny_mono h₂ (fun c s₃ h₃=>?_) fun _ _ x=>x))))) fun _ _ x=>x))
 refine wpAny_bind (wpAny_release (wpAny_bind (wpAny_holding (wpAny_mono h₃ (fun t s₄ h₄=>?_) fun _ _ x=>x))))
 cases t with
 | false=>rw[if_neg (by decide)] at h₄;exact wpAny_pure h₄
 | true=>
   rw[if_pos rfl] at h₄
   show wpAny M A (do
    let rv ← holding [b] (eval z env)
    standAt pos
    operate [b,rv] (compareOp o2 b rv)) Q E s₄
   exact wpAny_bind (wpAny_holding (wpAny_mono h₄ (fun d s₅ h₅=>wpAny_bind (wpAny_standAt (wpAny_operating h₅))) fun _ _ x=>x))
end
noncomputable def tv(r:R za V):R za Bool:=r.bind fun v O=>opt (truth v) O
section
variable{G:Gl}{F:Fm}{A:Around}{s:Shared}{β:List Addr}{ρ:Loc}{O:za}
theorem zn1{p q:Cop}{o1 o2:CmpOp}{x y z:Expr}{ps:Pos}{ra:R za V}{rb rc:za→R za V}{k:Nat}(ro:Room A k)(h1o:x0 p o1=true)(h2o:x0 q o2=true)
 (hy:∀ l k p,y≠.Set l k p) (hz:∀ l k p,z≠.Set l k p)
 (h1:Does G F A s β (eval x F.env) (ra.lift ρ) (VRel G F)) (h2:∀ s' β' O',SR G F β' ρ O' s'.heap→Does G F A s' β' (eval y F.env) ((rb O').lift ρ) (VRel G F))
 (h3:∀ s' β' O',SR G F β' ρ O' s'.heap→Does G F A s' β' (eval z F.env) ((rc O').lift ρ) (VRel G F)) :
 Does G F A s β (eval (.Compare x [o1,o2] [y,z] ps) F.env) ((ra.bind fun v O=>(rb O).bind fun u O=>(cmpV p v u O).bind fun t O=>(opt (truth t) O).bind (andK fun O=>(rc O).bind fun y O=>cmpV q u y O)).lift ρ) (VRel G F):=by
 refine DoesW.seqE (T₂:=fun a Q E s₁=>wpAny (model G.prog G.w) A (eval y F.env) (fun b s₂=>wpAny (model G.prog G.w) A (compareOp o1 a b) (fun c s₃=>wpAny (model G.prog G.w) A (truthy c) (fun t s₄=>if t=true then wpAny (model G.prog G.w) A (eval z F.env) (fun d s₅=>wpAny (model G.prog G.w) A (compareOp o2 b d) Q E s₅) E s₄ else Q c s₄) E s₃) E s₂) E s₁)
  (fun Q E h=>vd h hy hz) h1 fun s' β' v d O' e st sr rv=>?_
 refine DoesW.seqE (T₁:=tr G A (eval y F.env)) (T₂:=fun b Q E s₂=>wpAny (model G.prog G.w) A (compareOp o1 v b) (fun c s₃=>wpAny (model G.prog G.w) A (truthy c) (fun t s₄=>if t=true then wpAny (model G.prog G.w) A (eval z F.env) (fun d s₅=>wpAny (model G.prog G.w) A (compareOp o2 b d) Q E s₅) E s₄ else Q c s₄) E s₃) E s₂) (fun Q E h=>h) (h2 s' β' O' sr) fun s₂ β₂ u d₂ O₂ e₂ st₂ sr₂ ru=>?_
 refine DoesW.seqE (T₁:=tr G A (compareOp o1 v u)) (T₂:=fun c Q E s₃=>wpAny (model G.prog G.w) A (truthy c) (fun t s₄=>if t=true then wpAny (model G.prog G.w) A (eval z F.env) (fun d s₅=>wpAny (model G.prog G.w) A (compareOp o2 u d) Q E s₅) E s₄ else Q c s₄) E s₃) (fun Q E h=>h) (ua ro h1o sr₂ (rv.step sr.br sr.fm st₂) ru) fun s₃ β₃ c d₃ O₃ e₃ st₃ sr₃ rc'=>?_
 refine DoesW.seqE (T₁:=tr G A (truthy c)) (T₂:=fun t Q E s₄=>if t=true then wpAny (model G.prog G.w) A (eval z F.env) (fun d s₅=>wpAny (model G.prog G.w) A (compareOp o2 u d) Q E s₅) E s₄ else Q c s₄) (fun Q E h=>h) (jf sr₃ rc') fun s₄ β₄ b b' O₄ e₄ st₄ sr₄ hb=>?_
 have hb:b=b':=hb
 subst hb
 have hd:truth d₃=some b:=by cases h:truth d₃ with
  | none=>rw[h] at e₄;cases e₄
  | some c=>rw[h] at e₄;cases e₄;rfl
 have:=we rc' hd
 subst this
 have ru':=(ru.step sr₂.br sr₂.fm (st₃.trans st₄))
 cases b with
 | false=>exact d_ok sr₄ VR.bool fun Q E h=>by show if _ then _ else _;rw[if_neg (by decide)];exact h
 | true=>
   refine DoesW.seqE (T₁:=tr G A (eval z F.env)) (T₂:=fun d=>tr G A (compareOp o2 u d)) (fun Q E h=>by show if _ then _ else _;rw[if_pos rfl];exact h) (h3 s₄ β₄ O₄ sr₄) fun s₅ β₅ w d₅ O₅ e₅ st₅ sr₅ rw'=>?_
   exact ua ro h2o sr₅ (ru'.step sr₄.br sr₄.fm st₅) rw'
theorem ztc{x y z:Expr}{p:Pos}{rt:R za V}{ra rb:za→R za V}(h1:Does G F A s β (isTrue x F.env (eval x F.env)) ((tv rt).lift ρ) BRel)
 (h2:∀ s' β' O',SR G F β' ρ O' s'.heap→Does G F A s' β' (eval y F.env) ((ra O').lift ρ) (VRel G F))
 (h3:∀ s' β' O',SR G F β' ρ O' s'.heap→Does G F A s' β' (eval z F.env) ((rb O').lift ρ) (VRel G F)) :
 Does G F A s β (eval (.IfExp x y z p) F.env) ((rt.bind fun v O=>(opt (truth v) O).bind (iteK ra rb)).lift ρ) (VRel G F):=by
 have e:(rt.bind fun v O=>(opt (truth v) O).bind (iteK ra rb))=(tv rt).bind (iteK ra rb):=by cases rt <;> rfl
 rw[e]
 refine DoesW.seqE (T₂:=fun b Q E s₁=>if b=true then wpAny (model G.prog G.w) A (eval y F.env) Q E s₁ else wpAny (model G.prog G.w) A (eval z F.env) Q E s₁) (fun Q E h=>?_) h1 fun s' β' b b' O' e st sr rb'=>?_
 ·show wpAny (model G.prog G.w) A (do if ← isTrue x F.env (eval x F.env) then eval y F.env else eval z F.env) Q E s
  refine wpAny_bind (wpAny_mono h (fun b s₁ h₁=>?_) fun _ _ x=>x)
  cases b with
  | true=>rw[if_pos rfl] at h₁;exact h₁
  | false=>rw[if_neg (by decide)] at h₁;exact h₁
 have hb:b=b':=rb'
 subst hb
 cases b with
 | true=>exact (h2 s' β' O' sr).weaken (fun Q E h=>by show if _ then _ else _;rw[if_pos rfl];exact h) fun _ _ _ _ h=>h
 | false=>exact (h3 s' β' O' sr).weaken (fun Q E h=>by show if _ then _ else _;rw[if_neg (by decide)];exact h) fun _ _ _ _ h=>h
theorem zme{e:Expr}{r:R za V}(he:isTrue e F.env (eval e F.env)=(do let v ← eval e F.env;standAt e.pos;holding [v] (truthy v)))
 (h1:Does G F A s β (eval e F.env) (r.lift ρ) (VRel G F)):Does G F A s β (isTrue e F.env (eval e F.env)) ((tv r).lift ρ) BRel:=
 DoesW.seqE (T₂:=fun v=>tr G A (truthy v)) (fun Q E h=>wpAny_isTrue_value h he) h1 fun s' β' v d O' e st sr rv=>jf sr rv
theorem zrt{x:Expr}{p:Pos}{r:R za V}(h1:Does G F A s β (isTrue x F.env (eval x F.env)) ((tv r).lift ρ) BRel) :
 Does G F A s β (isTrue (.UnaryOp .Not x p) F.env (eval (.UnaryOp .Not x p) F.env)) ((tv (r.bind fun v O=>opt ((truth v).map fun b=>V.d (.bool !b)) O)).lift ρ) BRel:=by
 have e:tv (r.bind fun v O=>opt ((truth v).map fun b=>V.d (.bool !b)) O)=(tv r).bind fun b O=>.ok (!b) O:=by
  cases r with
  | ok v O=>show R.bind (opt ((truth v).map fun b=>V.d (.bool !b)) O) _=R.bind (opt (truth v) O) _;cases truth v <;> rfl
  | stuck=>rfl
 rw[e]
 refine DoesW.seqE (T₂:=fun b Q E s₁=>Q (!b) s₁) (fun Q E h=>wpAny_isTrue_Not h) h1 fun s' β' b b' O' e st sr hb=>?_
 have hb:b=b':=hb
 subst hb
 exact Does.leaf sr fun Q E q=>q _ _ (KeepsAll.refl s') rfl
theorem za1{op:BoolOp}(sr:SR G F β ρ O s.heap):Does G F A s β (allTrue op [] F.env) ((R.ok (op == .And) O).lift ρ) BRel:=
 Does.leaf sr fun Q E q=>wpAny_pure (q _ _ (KeepsAll.refl s) rfl)
theorem w8{x:Expr}{rest:List Expr}{ra:R za V}{rb:za→R za Bool}(h1:Does G F A s β (isTrue x F.env (eval x F.env)) ((tv ra).lift ρ) BRel)
 (h2:∀ s' β' O',SR G F β' ρ O' s'.heap→Does G F A s' β' (allTrue .And rest F.env) ((rb O').lift ρ) BRel) :
 Does G F A s β (allTrue .And (x::rest) F.env) (((tv ra).bind fun t O=>(match t with | true=>rb O | false=>.ok false O)).lift ρ) BRel:=by
 refine DoesW.seqE (T₂:=fun t Q E s₁=>if t=true then wpAny (model G.prog G.w) A (allTrue .And rest F.env) Q E s₁ else Q false s₁) (fun Q E h=>?_) h1 fun s' β' b b' O' e st sr hb=>?_
 ·show wpAny (model G.prog G.w) A (do
   match BoolOp.And,← isTrue x F.env (eval x F.env) with
   | .And,false=>pure false
   | .Or,true=>pure true
   | _,_=>allTrue .And rest F.env) Q E s
  refine wpAny_bind (wpAny_mono h (fun t s₁ h₁=>?_) fun _ _ x=>x)
  cases t with
  | true=>rw[if_pos rfl] at h₁;exact h₁
  | false=>rw[if_neg (by decide)] at h₁;exact wpAny_pure h₁
 have hb:b=b':=hb
 subst hb
 cases b with
 | true=>exact (h2 s' β' O' sr).weaken (fun Q E h=>by show if _ then _ else _;rw[if_pos rfl];exact h) fun _ _ _ _ h=>h
 | false=>exact Does.leaf sr fun Q E q=>by show if _ then _ else _;rw[if_neg (by decide)];exact q _ _ (KeepsAll.refl s') rfl
theorem gi{x:Expr}{rest:List Expr}{ra:R za V}{rb:za→R za Bool}(h1:Does G F A s β (isTrue x F.env (eval x F.env)) ((tv ra).lift ρ) BRel)
 (h2:∀ s' β' O',SR G F β' ρ O' s'.heap→Does G F A s' β' (allTrue .Or rest F.env) ((rb O').lift ρ) BRel) :
 Does G F A s β (allTrue .Or (x::rest) F.env) (((tv ra).bind fun t O=>(match t with | true=>.ok true O | false=>rb O)).lift ρ) BRel:=by
 refine DoesW.seqE (T₂:=fun t Q E s₁=>if t=true then Q true s₁ else wpAny (model G.prog G.w) A (allTrue .Or rest F.env) Q E s₁) (fun Q E h=>?_) h1 fun s' β' b b' O' e st sr hb=>?_
 ·show wpAny (model G.prog G.w) A (do
   match BoolOp.Or,← isTrue x F.env (eval x F.env) with
   | .And,false=>pure false
   | .Or,true=>pure true
   | _,_=>allTrue .Or rest F.env) Q E s
  refine wpAny_bind (wpAny_mono h (fun t s₁ h₁=>?_) fun _ _ x=>x)
  cases t with
  | true=>rw[if_pos rfl] at h₁;exact wpAny_pure h₁
  | false=>rw[if_neg (by decide)] at h₁;exact h₁
 have hb:b=b':=hb
 subst hb
 cases b with
 | false=>exact (h2 s' β' O' sr).weaken (fun Q E h=>by show if _ then _ else _;rw[if_neg (by decide)];exact h) fun _ _ _ _ h=>h
 | true=>exact Does.leaf sr fun Q E q=>by show if _ then _ else _;rw[if_pos rfl];exact q _ _ (KeepsAll.refl s') rfl
theorem zru{op:Cop}{o:CmpOp}{x y:Expr}{p:Pos}{ra:R za V}{rb:za→R za V}{k:Nat}(ro:Room A k)(ho:x0 op o=true)(hs:∀ l k p,y≠.Set l k p)
 (h1:Does G F A s β (eval x F.env) (ra.lift ρ) (VRel G F)) (h2:∀ s' β' O',SR G F β' ρ O' s'.heap→Does G F A s' β' (eval y F.env) ((rb O').lift ρ) (VRel G F)) :
 Does G F A s β (isTrue (.Compare x [o] [y] p) F.env (eval (.Compare x [o] [y] p) F.env)) ((tv (ra.bind fun v O=>(rb O).bind fun u O=>cmpV op v u O)).lift ρ) BRel:=by
 have e:tv (ra.bind fun v O=>(rb O).bind fun u O=>cmpV op v u O)=ra.bind fun v O=>(rb O).bind fun u O=>(cmpV op v u O).bind fun c O=>opt (truth c) O:=by
  cases ra with
  | ok v O=>show R.bind (R.bind (rb O) _) _=R.bind (rb O) _;cases rb O <;> rfl
  | stuck=>rfl
 rw[e]
 refine DoesW.seqE (T₂:=fun a Q E s₁=>wpAny (model G.prog G.w) A (eval y F.env) (fun b s₂=>wpAny (model G.prog G.w) A (compareOp o a b) (fun c s₃=>wpAny (model G.prog G.w) A (truthy c) Q E s₃) E s₂) E s₁) (fun Q E h=>wpAny_isTrue_Compare1 h (xm hs o)) h1 fun s' β' v d O' e st sr rv=>?_
 refine DoesW.seqE (T₁:=tr G A (eval y F.env)) (T₂:=fun b Q E s₂=>wpAny (model G.prog G.w) A (compareOp o v b) (fun c s₃=>wpAny (model G.prog G.w) A (truthy c) Q E s₃) E s₂) (fun Q E h=>h) (h2 s' β' O' sr) fun s₂ β₂ u d₂ O₂ e₂ st₂ sr₂ ru=>?_
 refine DoesW.seqE (T₁:=tr G A (compareOp o v u)) (T₂:=fun c=>tr G A (truthy c)) (fun Q E h=>h) (ua ro ho sr₂ (rv.step sr.br sr.fm st₂) ru) fun s₃ β₃ c d₃ O₃ e₃ st₃ sr₃ rc=>?_
 exact jf sr₃ rc
end
section
variable{G:Gl}{F:Fm}{A:Around}{s:Shared}{β:List Addr}{ρ:Loc}{O:za}
theorem w5{M:Model}{E:Value→Shared→Prop}{x y z:Expr}{o1 o2:CmpOp}{pos:Pos}{env:Env}{whole:Sem Value}{Q:Bool→Shared→Prop}
 (h:wpAny M A (eval x env) (fun a s₁=>wpAny M A (eval y env) (fun b s₂=>wpAny M A (compareOp o1 a b) (fun c s₃=>wpAny M A (truthy c) (fun t s₄=>if t=true then wpAny M A (eval z env) (fun d s₅=>wpAny M A (compareOp o2 b d) (fun e s₆=>wpAny M A (truthy e) Q E s₆) E s₅) E s₄ else Q false s₄) E s₃) E s₂) E s₁) E s)
 (hy:∀ l k p,y≠.Set l k p) (hz:∀ l k p,z≠.Set l k p):wpAny M A (isTrue (.Compare x [o1,o2] [y,z] pos) env whole) Q E s:=by
 show wpAny M A (do testChain pos (← eval x env) [o1,o2] (markedEach [o1,o2] [y,z] (evalEach [y,z] env))) Q E s
 have hm:markedEach [o1,o2] [y,z] (evalEach [y,z] env)=[eval y env,eval z env]:=by
  show [eval y env,markedBehindIn o2 z (eval z env)]=_
  rw[markedBehindIn_of_false (xm hz o2)]
 rw[hm]
 refine wpAny_bind (wpAny_mono h (fun a s₁ h₁=>?_) fun _ _ x=>x)
 show wpAny M A (do
  let rv ← holding [a] (eval y env)
  standAt pos
  let c ← holding [a,rv] (compareOp o1 a rv)
  release [a,rv] [c]
  if ← holding [c,rv] (truthy c) then testChain pos rv [o2] [eval z env] else pure false) Q E s₁
 refine wpAny_bind (wpAny_holding (wpAny_mono h₁ (fun b s₂ h₂=>wpAny_bind (wpAny_standAt (wpAny_bind (wpAny_holding (wpAny_mono h₂ (fun c s₃ h₃=>?_) fun _ _ x=>x))))) fun _ _ x=>x))
 refine wpAny_bind (wpAny_release (wpAny_bind (wpAny_holding (wpAny_mono h₃ (fun t s₄ h₄=>?_) fun _ _ x=>x))))
 cases t with
 | false=>rw[if_neg (by decide)] at h₄;exact wpAny_pure h₄
 | true=>
   rw[if_pos rfl] at h₄
   show wpAny M A (do
    let rv ← holding [b] (eval z env)
    standAt pos
    let c ← operate [b,rv] (compareOp o2 b rv)
    holding [c] (truthy c)) Q E s₄
   exact wpAny_bind (wpAny_holding (wpAny_mono h₄ (fun d s₅ h₅=>wpAny_bind (wpAny_standAt (wpAny_bind (wpAny_operating (wpAny_mono h₅ (fun e s₆ h₆=>wpAny_holding h₆) fun _ _ x=>x))))) fun _ _ x=>x))
theorem zmg{p q:Cop}{o1 o2:CmpOp}{x y z:Expr}{ps:Pos}{ra:R za V}{rb rc:za→R za V}{k:Nat}(ro:Room A k)(h1o:x0 p o1=true)(h2o:x0 q o2=true)
 (hy:∀ l k p,y≠.Set l k p) (hz:∀ l k p,z≠.Set l k p)
 (h1:Does G F A s β (eval x F.env) (ra.lift ρ) (VRel G F)) (h2:∀ s' β' O',SR G F β' ρ O' s'.heap→Does G F A s' β' (eval y F.env) ((rb O').lift ρ) (VRel G F))
 (h3:∀ s' β' O',SR G F β' ρ O' s'.heap→Does G F A s' β' (eval z F.env) ((rc O').lift ρ) (VRel G F)) :
 Does G F A s β (isTrue (.Compare x [o1,o2] [y,z] ps) F.env (eval (.Compare x [o1,o2] [y,z] ps) F.env)) ((tv (ra.bind fun v O=>(rb O).bind fun u O=>(cmpV p v u O).bind fun t O=>(opt (truth t) O).bind (andK fun O=>(rc O).bind fun y O=>cmpV q u y O))).lift ρ) BRel:=by
 have e:tv (ra.bind fun v O=>(rb O).bind fun u O=>(cmpV p v u O).bind fun t O=>(opt (truth t) O).bind (andK fun O=>(rc O).bind fun y O=>cmpV q u y O))=ra.bind fun v O=>(rb O).bind fun u O=>(cmpV p v u O).bind fun t O=>(opt (truth t) O).bind fun z O=>(match z with
  | false=>R.ok false O
  | true=>(rc O).bind fun y O=>(cmpV q u y O).bind fun c O=>opt (truth c) O):=by
  cases ra with
  | ok v O=>
    show R.bind (R.bind (rb O) _) _=R.bind (rb O) _
    cases rb O with
    | ok u O=>
      show R.bind (R.bind (cmpV p v u O) _) _=R.bind (cmpV p v u O) _
      cases cmpV p v u O with
      | ok t O=>
        show R.bind (R.bind (opt (truth t) O) _) _=R.bind (opt (truth t) O) _
        cases truth t with
        | none=>rfl
        | some b=>cases b with
          | false=>rfl
          | true=>show R.bind (R.bind (rc O) _) _=R.bind (rc O) _;cases rc O <;> rfl
      | stuck=>rfl
    | stuck=>rfl
  | stuck=>rfl
 rw[e]
 refine DoesW.seqE (T₂:=fun a Q E s₁=>wpAny (model G.prog G.w) A (eval y F.env) (fun b s₂=>wpAny (model G.prog G.w) A (compareOp o1 a b) (fun c s₃=>wpAny (model G.prog G.w) A (truthy c) (fun t s₄=>if t=true then wpAny (model G.prog G.w) A (eval z F.env) (fun d s₅=>wpAny (model G.prog G.w) A (compareOp o2 b d) (fun e s₆=>wpAny (model G.prog G.w) A (truthy e) Q E s₆) E s₅) E s₄ else Q false s₄) E s₃) E s₂) E s₁)
  (fun Q E h=>w5 h hy hz) h1 fun s' β' v d O' e st sr rv=>?_
 refine DoesW.seqE (T₁:=tr G A (eval y F.env)) (T₂:=fun b Q E s₂=>wpAny (model G.prog G.w) A (compareOp o1 v b) (fun c s₃=>wpAny (model G.prog G.w) A (truthy c) (fun t s₄=>if t=true then wpAny (model G.prog G.w) A (eval z F.env) (fun d s₅=>wpAny (model G.prog G.w) A (compareOp o2 b d) (fun e s₆=>wpAny (model G.prog G.w) A (truthy e) Q E s₆) E s₅) E s₄ else Q false s₄) E s₃) E s₂) (fun Q E h=>h) (h2 s' β' O' sr) fun s₂ β₂ u d₂ O₂ e₂ st₂ sr₂ ru=>?_
 refine DoesW.seqE (T₁:=tr G A (compareOp o1 v u)) (T₂:=fun c Q E s₃=>wpAny (model G.prog G.w) A (truthy c) (fun t s₄=>if t=true then wpAny (model G.prog G.w) A (eval z F.env) (fun d s₅=>wpAny (model G.prog G.w) A (compareOp o2 u d) (fun e s₆=>wpAny (model G.prog G.w) A (truthy e) Q E s₆) E s₅) E s₄ else Q false s₄) E s₃) (fun Q E h=>h) (ua ro h1o sr₂ (rv.step sr.br sr.fm st₂) ru) fun s₃ β₃ c d₃ O₃ e₃ st₃ sr₃ rc'=>?_
 refine DoesW.seqE (T₁:=tr G A (truthy c)) (T₂:=fun t Q E s₄=>if t=true then wpAny (model G.prog G.w) A (eval z F.env) (fun d s₅=>wpAny (model G.prog G.w) A (compareOp o2 u d) (fun e s₆=>wpAny (model G.prog G.w) A (truthy e) Q E s₆) E s₅) E s₄ else Q false s₄) (fun Q E h=>h) (jf sr₃ rc') fun s₄ β₄ b b' O₄ e₄ st₄ sr₄ hb=>?_
 have hb:b=b':=hb
 subst hb
 have ru':=(ru.step sr₂.br sr₂.fm (st₃.trans st₄))
 cases b with
 | false=>exact Does.leaf sr₄ fun Q E q=>by show if _ then _ else _;rw[if_neg (by decide)];exact q _ _ (KeepsAll.refl _) rfl
 | true=>
   refine DoesW.seqE (T₁:=tr G A (eval z F.env)) (T₂:=fun d Q E s₅=>wpAny (model G.prog G.w) A (compareOp o2 u d) (fun e s₆=>wpAny (model G.prog G.w) A (truthy e) Q E s₆) E s₅) (fun Q E h=>by show if _ then _ else _;rw[if_pos rfl];exact h) (h3 s₄ β₄ O₄ sr₄) fun s₅ β₅ w d₅ O₅ e₅ st₅ sr₅ rw'=>?_
   refine DoesW.seqE (T₁:=tr G A (compareOp o2 u w)) (T₂:=fun e=>tr G A (truthy e)) (fun Q E h=>h) (ua ro h2o sr₅ (ru'.step sr₄.br sr₄.fm st₅) rw') fun s₆ β₆ c' d₆ O₆ e₆ st₆ sr₆ rc''=>?_
   exact jf sr₆ rc''
end
section
variable{G:Gl}{F:Fm}{A:Around}{cx:Cx}{tgt:CT}{t:Expr}{scope:Scope}{gval:Nat→Option PyData}{gname:Nat→Option Str}{s:Shared}{β:List Addr}{ρ:Loc}{O:za}
theorem ug(env:Env):∀ (ifs:List Expr),(forIn ifs false fun c r=>if r=true then do let ok ← isTrue c env (eval c env);pure (ForInStep.yield ok) else pure (ForInStep.yield r):Sem Bool)=pure false
 | []=>by rw[List.forIn_nil]
 | c::rest=>by
   rw[List.forIn_cons]
   simp only[Bool.false_eq_true,if_false,pure_bind]
   exact ug env rest
theorem zen(sr:SR G F β ρ O s.heap):Does G F A s β (xa [] F.env) ((R.ok true O).lift ρ) BRel:=
 Does.leaf sr fun Q E q=>wpAny_pure (q _ _ (KeepsAll.refl s) rfl)
theorem zcv{x:Expr}{rest:List Expr}{ra:R za V}{rb:za→R za Bool}(h1:Does G F A s β (isTrue x F.env (eval x F.env)) ((tv ra).lift ρ) BRel)
 (h2:∀ s' β' O',SR G F β' ρ O' s'.heap→Does G F A s' β' (xa rest F.env) ((rb O').lift ρ) BRel) :
 Does G F A s β (xa (x::rest) F.env) (((tv ra).bind fun t O=>(match t with | true=>rb O | false=>.ok false O)).lift ρ) BRel:=by
 refine DoesW.seqE (T₂:=fun t Q E s₁=>if t=true then wpAny (model G.prog G.w) A (xa rest F.env) Q E s₁ else Q false s₁) (fun Q E h=>?_) h1 fun s' β' b b' O' e st sr hb=>?_
 ·show wpAny (model G.prog G.w) A (xa (x::rest) F.env) Q E s
  unfold xa
  rw[List.forIn_cons]
  simp only[if_true]
  refine wpAny_bind (wpAny_bind (wpAny_mono h (fun t s₁ h₁=>?_) fun _ _ x=>x))
  cases t with
  | true=>rw[if_pos rfl] at h₁;exact wpAny_pure h₁
  | false=>
    rw[if_neg (by decide)] at h₁
    refine wpAny_pure ?_
    show wpAny _ _ (forIn rest false _) Q E s₁
    rw[ug];exact wpAny_pure h₁
 have hb:b=b':=hb
 subst hb
 cases b with
 | true=>exact (h2 s' β' O' sr).weaken (fun Q E h=>by show if _ then _ else _;rw[if_pos rfl];exact h) fun _ _ _ _ h=>h
 | false=>exact Does.leaf sr fun Q E q=>by show if _ then _ else _;rw[if_neg (by decide)];exact q _ _ (KeepsAll.refl s') rfl
theorem Fits.plus(fit:Fits F cx)(M:List Addr):Fits (F.plus M) cx:=⟨fit.names,fit.kind,fit.sck⟩
set_option tactic.hygienic true in
theorem ziu{elt iter:Expr}{ifs:List Expr}{pos spos px:Pos}{x:Str}{i:Nat}{own:Str→Bool}{r:R za Src}{evT:Loc→za→R za Bool}{evX:Loc→za→R za V}{K:V→za→R za V}
 (g:GOk G gval gname) (hh:A.handled=none) (fit:Fits F cx) (hown:∀ x,own x=true→F.own x=true) (hx:chkT cx own (.name i) (.Name x px)=true) (hsc:xb scope cx.sc=true) (honce:xg (cx.inner tgt t scope).names=true) (hc:chkT (cx.inner tgt t scope) (ownOf scope) tgt t=true) (hset:∀ l k p,iter≠.Set l k p)
 (ht:∀ C D s β ρ O,SR G (zl cx F tgt t scope C D) β ρ O s.heap→Does G (zl cx F tgt t scope C D) A s β (xa ifs (zl cx F tgt t scope C D).env) ((evT ρ O).lift ρ) BRel)
 (he:∀ C D s β ρ O,SR G (zl cx F tgt t scope C D) β ρ O s.heap→Does G (zl cx F tgt t scope C D) A s β (eval elt (zl cx F tgt t scope C D).env) ((evX ρ O).lift ρ) (VRel G (zl cx F tgt t scope C D)))
 (sr:SR G F β ρ O s.heap) (hI:DoesW G F s β (zbg G A iter F.env) (r.lift ρ) (IRel G F A t s)) (has:∀ src O',r=.ok src O'→src.Has O') (hK:Fin2 K)
 (hsw:swapsWith (.ListComp elt [⟨t,iter,ifs,0⟩] scope pos) (some (.Name x px)) spos.line F.env=pure true) :
 Does G F A s β (exec (.Assign [.Name x px] (.ListComp elt [⟨t,iter,ifs,0⟩] scope pos) spos) F.env) ((((r.bind fun src O=>if src.xs.length≤line then yd src (xn tgt evT evX ρ) src.xs [] O else .stuck).bind K).lift ρ).bind (asgR (.name i))) (yw G F):=by
 obtain⟨k1,k2,k3⟩:=yt hsc
 have hclos:=vm (zbs (sc:=cx.sc) fit sr.fm hsc)
 have hfold:∀ x,foldedSetIterable iter F.env x=pure x:=fun x=>qe hset _ _
 have open_:∀ (Q:Flow→Shared→Prop) (E:Value→Shared→Prop),
  wpAny (model G.prog G.w) A (comprehension (.ListComp elt [⟨t,iter,ifs,0⟩] scope pos) scope F.env iter.pos (newList []) false (eval iter F.env) (some (assign (.Name x px) F.env))) (fun _ s'=>Q .next s') E s →
  wpAny (model G.prog G.w) A (exec (.Assign [.Name x px] (.ListComp elt [⟨t,iter,ifs,0⟩] scope pos) spos) F.env) Q E s:=fun Q E h=>by
  rw[exec_Assign_Name_used _ _ _ _ hsw]
  refine wpAny_bind (wpAny_standAt (wpAny_bind ?_))
  show wpAny _ A (do let _ ← comprehension (.ListComp elt [⟨t,iter,ifs,0⟩] scope pos) scope F.env _ (newList []) false (eval iter F.env) (some (assign (.Name x px) F.env))) _ _ s
  exact wpAny_bind (wpAny_mono h (fun _ s' hq=>wpAny_pure (wpAny_pure hq)) fun _ _ e=>e)
 cases r with
 | stuck=>trivial
 | ok src O₁=>
   show DoesW G F s β _ ((R.lift ρ (R.bind (if src.xs.length≤line then yd src (xn tgt evT evX ρ) src.xs [] O₁ else .stuck) K)).bind (asgR (.name i))) _
   split
   ·rename_i hlen
    rcases kl (src:=src) (turn:=xn tgt evT evX ρ) src.xs [] O₁ with ⟨res,O',hgo⟩ | hgo
    ·rw[hgo]
     show DoesW G F s β _ ((R.lift ρ (K (.d (.list res)) O')).bind (asgR (.name i))) _
     have run:∀ (Q:Flow→Shared→Prop) (E:Value→Shared→Prop),(∀ s₁ β₁ Z C D s' β',Step F.W β s s₁ β₁→SR G F β₁ ρ O₁ s₁.heap→(∀ z∈Z,Itr s₁.heap z)→(∀ z∈Z,z∉F.B)→(∀ z∈Z,s.heap.get? z=none) →
      CompEnd G F scope Z β₁ s₁ C D res O' s' β'→D∉y0 scope C→wpAny (model G.prog G.w) A (assign (.Name x px) F.env (.ref D)) (fun _ s''=>∃ m,s''.heap.Ns C m∧∀ h',Heap.SameBut C s''.heap h'→Q .next { s'' with heap:=h' }) E s') →
      wpAny (model G.prog G.w) A (exec (.Assign [.Name x px] (.ListComp elt [⟨t,iter,ifs,0⟩] scope pos) spos) F.env) Q E s:=by
      intro Q E k
      refine open_ Q E ?_
      refine wpAny_comprehension_free (use:=some _) rfl hfold hclos k1 (uk hsc) (hI _ _ fun s₁ β₁ it st sr₁ ⟨I,Z,St,e,W,h0,hz⟩=>?_)
      subst e
      have hz0:∀ z∈Z,G.h₀.get? z=none:=fun z hz'=>by
       cases e:G.h₀.get? z with
       | none=>rfl
       | some o=>have:=sr.br.keep z o e;rw[hz z hz'] at this;cases this
      have hzB:∀ z∈Z,z∉F.B:=fun z hz' hB=>by
       obtain⟨o,e,_⟩:=sr.fm.stor z hB
       rw[hz z hz'] at e;cases e
      refine zbp (RR:=fun acc C=>compPost (model G.prog G.w) A E (some (assign (.Name x px) F.env)) (fun _ s'=>Q .next s') acc C) g hh fit hsc honce hc ht he W sr₁ hz0 hzB hlen (has _ _ rfl) h0 hgo fun C D s' β' ce=>?_
      obtain⟨m,hm⟩:=ce.ns
      have hDM:D∉y0 scope C:=fun hm'=>by
       obtain⟨o,vs,n,q1,q2,q3,_⟩:=ce.list
       rcases List.mem_cons.mp hm' with e | hm'
       ·subst e
        obtain⟨o',es,ep,p1,p2,_⟩:=hm
        rw[q1] at p1;cases p1;rw[q3] at p2;cases p2
       ·exact ce.notCell hm'
      exact k s₁ β₁ Z C D s' β' st sr₁ (W.itr _ _ _ _ h0) hzB hz ce hDM
     have fin:∀ (Q:Flow→Shared→Prop) (E:Value→Shared→Prop) (s₁:Shared) (β₁ Z:List Addr) (C D:Addr) (s':Shared) (β' β₂:List Addr) (v:V) (O₂:za) (S:Loc×za),Step F.W β s s₁ β₁→SR G F β₁ ρ O₁ s₁.heap→(∀ z∈Z,s.heap.get? z=none) →
      CompEnd G F scope Z β₁ s₁ C D res O' s' β'→StepZ Z β₁ s₁ s' β₂→SR G (F.plus (y0 scope C)) β₂ ρ O₂ s'.heap→VR G (F.plus (y0 scope C)).B β₂ s'.heap (.ref D) v→asgR (.name i) v (ρ,O₂)=.ok .next S →
      (∀ s' β' a,Step F.W β s s' β'→SR G F β' S.1 S.2 s'.heap→yw G F β' s'.heap a .next→Q a s') →
      wpAny (model G.prog G.w) A (assign (.Name x px) F.env (.ref D)) (fun _ s''=>∃ m,s''.heap.Ns C m∧∀ h',Heap.SameBut C s''.heap h'→Q .next { s'' with heap:=h' }) E s':=by
      intro Q E s₁ β₁ Z C D s' β' β₂ v O₂ S st sr₁ hz ce sz srp vr hasg k
      have hCM:C∈y0 scope C:=List.mem_cons_self
      have hCn:=ce.new C (List.mem_cons_of_mem _ List.mem_cons_self)
      have hCB:C∉F.B:=fun hB=>by
       obtain⟨o,e,_⟩:=sr₁.fm.stor C hB
       rw[hCn] at e;cases e
      have hCMp:C∈(F.plus (y0 scope C)).B:=List.mem_append_left _ hCM
      have da:=xy (A:=A) hh (fit.plus (y0 scope C)) hown (.name i) hx srp vr
      unfold asgR at hasg
      unfold bindR at da
      dsimp only at hasg da
      cases hbt:zt (.name i) v ρ with
      | none=>rw[hbt] at hasg;cases hasg
      | some ρ'=>
        rw[hbt] at hasg da
        cases hasg
        refine da _ _ fun s₃ β₃ _ st₃ sr₃ _=>?_
        obtain⟨m,hm⟩:=ce.ns
        refine⟨m,Kin.ns hm fun o p1=>st₃.kept C o p1 (srp.fm.notBox C hCMp) fun hw=>hCB (sr₁.fm.sub C hw),fun h' hs=>?_⟩
        have hs':∀ b o,b≠C→s₃.heap.get? b=some o→h'.get? b=some o:=fun b o hb e=>(hs.2 b hb).trans e
        have srF:=SR.drop sr₁.fm sr₃ hCM hCB hs'
        refine k _ β₃ _ ?_ srF rfl
        have s1:Step F.W β s s₃ β₃:=(st.thenStepZ sz hz).trans st₃
        exact s1.thenZ (Z:=[C]) ⟨rfl,rfl,fun b o hb e=>hs' b o (fun e'=>hb (by simp [e'])) e⟩ fun z hz'=>by
         rw [List.mem_singleton.mp hz']
         cases e:s.heap.get? C with
         | none=>rfl
         | some o=>obtain⟨o',e'⟩:=st.alive _ _ e;rw[hCn] at e';cases e'
     cases hK with
     | plain=>
       show DoesW G F s β _ (asgR (.name i) (.d (.list res)) (ρ,O')) _
       cases hasg:asgR (.name i) (.d (.list res)) (ρ,O') with
       | stuck=>trivial
       | ok fl S=>
         have hfl:fl=.next:=by unfold asgR at hasg;split at hasg <;> cases hasg;rfl
         subst hfl
         intro Q E k
         refine run Q E fun s₁ β₁ Z C D s' β' st sr₁ hz1 hzB hz ce hDM=>?_
         obtain ⟨srp,vr⟩:=ce.sr sr₁ hz1 hzB g.clsRef hDM
         exact fin Q E s₁ β₁ Z C D s' β' β' _ O' S st sr₁ hz ce ce.step srp vr hasg k
     | box=>
       show DoesW G F s β _ (asgR (.name i) (.box O'.length) (ρ,O'++[.lst res])) _
       cases hasg:asgR (.name i) (.box O'.length) (ρ,O'++[.lst res]) with
       | stuck=>trivial
       | ok fl S=>
         have hfl:fl=.next:=by unfold asgR at hasg;split at hasg <;> cases hasg;rfl
         subst hfl
         intro Q E k
         refine run Q E fun s₁ β₁ Z C D s' β' st sr₁ hz1 hzB hz ce hDM=>?_
         obtain ⟨sz,srp,vr⟩:=ce.srB sr₁ hz1 hzB g.clsRef hDM
         exact fin Q E s₁ β₁ Z C D s' β' _ _ _ S st sr₁ hz ce sz srp vr hasg k
    ·rw[hgo];trivial
   ·trivial
end
section
variable{G:Gl}{F:Fm}{A:Around}{s:Shared}{β:List Addr}{ρ:Loc}{O:za}
theorem xf{s:Shared}{h':Heap}{tk:Nat}(hk:∀ b o,s.heap.get? b=some o→h'.get? b=some o):KeepsAll s { s with heap:=h',toks:=tk }:=⟨rfl,rfl,hk⟩
noncomputable def zod:Ty→String
 | .int=>"int"
 | .bool=>"bool"
 | .tuple=>"tuple"
 | .list=>"list"
 | .str=>"str"
theorem zo5(t:Ty):(vp t,Value.type (zod t))∈bis:=by cases t <;> decide
theorem zkc{t:Ty}{v:Value}{d:V}{x:PyData}(sr:SR G F β ρ O s.heap)(rv:VR G F.B β s.heap v d)(hx:look O d=some x) :
 LeafD G F s β (tr G A (call (.builtin "isinstance") [v,.type (zod t)])) (V.d (.bool (isTy t x))) (FRel G F s):=by
 obtain⟨as,r⟩:=v6 sr rv hx
 have kT:∀ (Q:Value→Shared→Prop) b,(∀ v' s',KeepsAll s s'→FRel G F s β s'.heap v' (V.d (.bool b))→Q v' s')→Q (.bool b) s∧Q (.bool b) { s with toks:=s.toks+1 }:=fun Q b k=>
  ⟨k _ _ (KeepsAll.refl s) ⟨VR.bool,fun _ h=>by cases h⟩,k _ _ (KeepsAll.toks s _) ⟨VR.bool,fun _ h=>by cases h⟩⟩
 refine LeafD.leaf sr fun Q E k=>?_
 obtain⟨k1,k2⟩:=kT Q _ k
 cases r with
 | none=>cases t <;> first | exact IsiPair.NoneType_int k2 | exact IsiPair.NoneType_bool k2 | exact IsiPair.NoneType_tuple k2 | exact IsiPair.NoneType_list k2 | exact IsiPair.NoneType_str k2
 | bool b=>cases t <;> first | exact IsiPair.bool_int k1 | exact IsiPair.bool_bool k1 | exact IsiPair.bool_tuple k2 | exact IsiPair.bool_list k2 | exact IsiPair.bool_str k2
 | int i u=>cases t <;> first | exact IsiPair.int_int k1 | exact IsiPair.int_bool k2 | exact IsiPair.int_tuple k2 | exact IsiPair.int_list k2 | exact IsiPair.int_str k2
 | str x u=>cases t <;> first | exact IsiPair.str_int k2 | exact IsiPair.str_bool k2 | exact IsiPair.str_tuple k2 | exact IsiPair.str_list k2 | exact IsiPair.str_str k1
 | list h1 h2 h3 h4=>cases t <;> first | exact IsiPair.list_int h1 h2 k2 | exact IsiPair.list_bool h1 h2 k2 | exact IsiPair.list_tuple h1 h2 k2 | exact IsiPair.list_list h1 h2 k1 | exact IsiPair.list_str h1 h2 k2
 | tuple h1 h2 h3 h4=>cases t <;> first | exact IsiPair.tuple_int h1 h2 k2 | exact IsiPair.tuple_bool h1 h2 k2 | exact IsiPair.tuple_tuple h1 h2 k1 | exact IsiPair.tuple_list h1 h2 k2 | exact IsiPair.tuple_str h1 h2 k2
 | dict h1 h2 h3 h4 h5=>cases t <;> first | exact IsiPair.dict_int h1 h2 k2 | exact IsiPair.dict_bool h1 h2 k2 | exact IsiPair.dict_tuple h1 h2 k2 | exact IsiPair.dict_list h1 h2 k2 | exact IsiPair.dict_str h1 h2 k2
theorem zf5{v:Value}{d:V}{xs:List PyData}(sr:SR G F β ρ O s.heap)(rv:VR G F.B β s.heap v d)(hx:look O d=some (.list xs))(hl:xs.length≤line) :
 LeafD G F s β (tr G A (call (.builtin "len") [v])) (V.d (.int xs.length)) (FRel G F s):=by
 obtain⟨a,rfl,o,vs,n,h1,h2,h3,as,h4,h5⟩:=yf sr rv hx
 have hsz:vs.size=xs.length:=by rw[← Array.length_toList,zf h4]
 refine LeafD.leaf sr fun Q E k=>Calls.call_len_list ⟨o,h1,h2,n,h3⟩ (by rw[hsz];have:line=1000000:=rfl;omega) ?_
 rw[hsz]
 exact k _ _ (KeepsAll.toks s _) ⟨VR.int,fun _ h=>by cases h⟩
theorem zdy{v:Value}{xs:List PyData}(sr:SR G F β ρ O s.heap)(rv:VR G F.B β s.heap v (.d (.tuple xs)))(hl:xs.length≤line) :
 LeafD G F s β (tr G A (call (.builtin "len") [v])) (V.d (.int xs.length)) (FRel G F s):=by
 obtain⟨a,o,vs,n,rfl,h1,h2,h3,as,h4,h5⟩:=rv.tuple_inv
 have hsz:vs.size=xs.length:=by rw[← Array.length_toList,zf h4]
 refine LeafD.leaf sr fun Q E k=>PyProof.Rows.len_tuple ⟨o,h1,h2,n,h3⟩ (by rw[hsz];have:line=1000000:=rfl;omega) ?_
 rw[hsz]
 exact k _ _ (KeepsAll.toks s _) ⟨VR.int,fun _ h=>by cases h⟩
theorem zbu{h:Heap}{vs:List Value}{xs:List PyData}{as:List Addr}(r:ReadsAll h vs xs as):∀ {bs:List Bool},vn xs=some bs→vs=bs.map Value.bool:=by
 refine z9 (motive:=fun vs xs _=>∀ {bs:List Bool},vn xs=some bs→vs=bs.map Value.bool) (fun e=>by cases e;rfl) ?_ r
 intro v d as vs ds bs r _ ih is e
 cases d with
 | bool i=>
   obtain⟨bs,e1,rfl⟩:=Option.map_eq_some_iff.mp e
   cases r
   rw[ih e1];rfl
 | _=>cases e
theorem ints_get{h:Heap}{vs:List Value}{xs:List PyData}{as:List Addr}(r:ReadsAll h vs xs as):∀ {is:List Int},Mine.intsOf xs=some is→IntsAre vs is:=by
 refine z9 (motive:=fun vs xs _=>∀ {is:List Int},Mine.intsOf xs=some is→IntsAre vs is) (fun e=>by cases e;exact .nil) ?_ r
 intro v d as vs ds bs r _ ih is e
 cases d with
 | int i=>
   obtain⟨bs,e1,rfl⟩:=Option.map_eq_some_iff.mp e
   cases r
   exact .cons _ _ (ih e1)
 | _=>cases e
theorem ints_length:∀ {xs:List PyData} {is:List Int},Mine.intsOf xs=some is→xs=is.map PyData.int
 | [],_,e=>by cases e;rfl
 | x::xs,is,e=>by
   cases x with
   | int i=>
     obtain⟨bs,e1,rfl⟩:=Option.map_eq_some_iff.mp e
     rw[ints_length e1];rfl
   | _=>cases e
theorem range_all(bs:List Bool):(List.range bs.length).all (fun i=>bs[i]?.getD false)=bs.all id:=by
 rw[Bool.eq_iff_iff,List.all_eq_true,List.all_eq_true]
 constructor
 ·intro h b hb
  obtain⟨i,hi,rfl⟩:=List.getElem_of_mem hb
  have:=h i (List.mem_range.mpr hi)
  rwa [List.getElem?_eq_getElem hi] at this
 ·intro h i hi
  have hi:=List.mem_range.mp hi
  rw[List.getElem?_eq_getElem hi]
  exact h _ (List.getElem_mem hi)
theorem range_any(bs:List Bool):(List.range bs.length).any (fun i=>bs[i]?.getD false)=bs.any id:=by
 rw[Bool.eq_iff_iff,List.any_eq_true,List.any_eq_true]
 constructor
 ·rintro⟨i,hi,h⟩
  have hi:=List.mem_range.mp hi
  rw[List.getElem?_eq_getElem hi] at h
  exact⟨_,List.getElem_mem hi,h⟩
 ·rintro⟨b,hb,h⟩
  obtain⟨i,hi,rfl⟩:=List.getElem_of_mem hb
  exact⟨i,List.mem_range.mpr hi,by rw[List.getElem?_eq_getElem hi];exact h⟩
theorem zf9{s:Shared}{h':Heap}{tk:Nat}{o:Obj}(hk:∀ b o',b∉[s.heap.objs.size]→(s.heap.push o).get? b=some o'→h'.get? b=some o'):KeepsAll s { ({ s with heap:=s.heap.push o }:Shared) with heap:=h',toks:=tk }:=
 ⟨rfl,rfl,fun b o' e=>hk b o' (fun hm=>by rw[List.mem_singleton.mp hm,Heap.get?_none_of_le (Nat.le_refl _)] at e;cases e) (Heap.get?_push_of_some _ e)⟩
theorem zsk{v:Value}{d:V}{xs:List PyData}{bs:List Bool}(hh:A.handled=none)(sr:SR G F β ρ O s.heap)(rv:VR G F.B β s.heap v d)(hx:look O d=some (.list xs))(hb:vn xs=some bs) :
 LeafD G F s β (tr G A (call (.builtin "all") [v])) (V.d (.bool (bs.all id))) (FRel G F s):=by
 obtain⟨a,rfl,o,vs,n,h1,h2,h3,as,h4,h5⟩:=yf sr rv hx
 have hvs:=zbu h4 hb
 have hsz:vs.size=bs.length:=by rw[← Array.length_toList,hvs];simp
 refine LeafD.leaf sr fun Q E k=>call_all_walk (wpAny_pyIter_list ⟨o,h1,h2,n,h3⟩ ?_)
 refine⟨_,_,_,_,_,_,fun i=>bs[i]?.getD false,rfl,Walks.list (A:=A.in1) hh s.heap.objs.size a (Nat.ne_of_lt (Heap.lt_size h1)) vs,⟨⟨_,Heap.get?_push_size _ rfl,rfl,rfl⟩,⟨o,Heap.get?_push_of_some _ h1,h2,n,h3⟩⟩,?_,fun h' tk hk=>?_⟩
 ·intro i v s' Q E hv q
  rw[← Array.getElem?_toList,hvs,List.getElem?_map] at hv
  cases hi:bs[i]? with
  | none=>rw[hi] at hv;cases hv
  | some b=>rw[hi] at hv;cases hv;dsimp only at q;rw[hi] at q;exact wpAny_truthy_bool q
 ·rw[hsz,range_all]
  exact k _ _ (zf9 hk) ⟨VR.bool,fun _ h=>by cases h⟩
theorem zsj{v:Value}{d:V}{xs:List PyData}{bs:List Bool}(hh:A.handled=none)(sr:SR G F β ρ O s.heap)(rv:VR G F.B β s.heap v d)(hx:look O d=some (.list xs))(hb:vn xs=some bs) :
 LeafD G F s β (tr G A (call (.builtin "any") [v])) (V.d (.bool (bs.any id))) (FRel G F s):=by
 obtain⟨a,rfl,o,vs,n,h1,h2,h3,as,h4,h5⟩:=yf sr rv hx
 have hvs:=zbu h4 hb
 have hsz:vs.size=bs.length:=by rw[← Array.length_toList,hvs];simp
 refine LeafD.leaf sr fun Q E k=>call_any_walk (wpAny_pyIter_list ⟨o,h1,h2,n,h3⟩ ?_)
 refine⟨_,_,_,_,_,_,fun i=>bs[i]?.getD false,rfl,Walks.list (A:=A.in1) hh s.heap.objs.size a (Nat.ne_of_lt (Heap.lt_size h1)) vs,⟨⟨_,Heap.get?_push_size _ rfl,rfl,rfl⟩,⟨o,Heap.get?_push_of_some _ h1,h2,n,h3⟩⟩,?_,fun h' tk hk=>?_⟩
 ·intro i v s' Q E hv q
  rw[← Array.getElem?_toList,hvs,List.getElem?_map] at hv
  cases hi:bs[i]? with
  | none=>rw[hi] at hv;cases hv
  | some b=>rw[hi] at hv;cases hv;dsimp only at q;rw[hi] at q;exact wpAny_truthy_bool q
 ·rw[hsz,range_any]
  exact k _ _ (zf9 hk) ⟨VR.bool,fun _ h=>by cases h⟩
theorem uq:∀ {vs:List Value} {is:List Int},IntsAre vs is→∀ (i:Nat) v,vs[i]?=some v→∃ n t,is[i]?=some n∧v=.int n t
 | _,_,.nil,i,v,e=>by simp at e
 | _,_,.cons n t r,0,v,e=>by simp at e;exact⟨n,t,by simp,e.symm⟩
 | _,_,.cons _ _ r,i+1,v,e=>by simp at e;simpa using uq r i v e
theorem preSum_eq(is:List Int):preSum (fun i=>is[i]?.getD 0) is.length=is.sum:=by
 have:∀ k,k≤is.length→preSum (fun i=>is[i]?.getD 0) k=(is.take k).sum:=by
  intro k
  induction k with
  | zero=>intro _;simp[preSum]
  | succ k ih=>
    intro hk
    have hk':k < is.length:=hk
    show preSum _ k+_=_
    rw[ih (Nat.le_of_lt hk'),List.take_add_one,List.sum_append,List.getElem?_eq_getElem hk']
    simp[List.getElem?_eq_getElem hk']
 rw[this _ (Nat.le_refl _),List.take_length]
theorem uo:∀ {vs:List Value} {is:List Int},IntsAre vs is→vs.length=is.length
 | _,_,.nil=>rfl
 | _,_,.cons _ _ r=>by simp[uo r]
theorem l_sum{v:Value}{d:V}{xs:List PyData}{is:List Int}(hh:A.handled=none)(sr:SR G F β ρ O s.heap)(rv:VR G F.B β s.heap v d)(hx:look O d=some (.list xs))(hb:Mine.intsOf xs=some is) :
 LeafD G F s β (tr G A (call (.builtin "sum") [v])) (V.d (.int is.sum)) (FRel G F s):=by
 obtain⟨a,rfl,o,vs,n,h1,h2,h3,as,h4,h5⟩:=yf sr rv hx
 have hvs:=ints_get h4 hb
 have hsz:vs.size=is.length:=by rw[← Array.length_toList,uo hvs]
 refine LeafD.leaf sr fun Q E k=>call_sum_walkG (wpAny_pyIter_list ⟨o,h1,h2,n,h3⟩ ?_)
 refine⟨_,_,_,_,_,_,fun i=>is[i]?.getD 0,rfl,Walks.list (A:=A.in1) hh s.heap.objs.size a (Nat.ne_of_lt (Heap.lt_size h1)) vs,⟨⟨_,Heap.get?_push_size _ rfl,rfl,rfl⟩,⟨o,Heap.get?_push_of_some _ h1,h2,n,h3⟩⟩,fun b hb=>?_,fun i v hv=>?_,fun h' tk t' hk=>?_⟩
 ·show b < (s.heap.push _).objs.size
  rw[Heap.size_push]
  rcases List.mem_cons.mp hb with rfl | hb
  ·exact Nat.lt_succ_self _
  ·rw[List.mem_singleton.mp hb];exact Nat.lt_succ_of_lt (Heap.lt_size h1)
 ·rw[← Array.getElem?_toList] at hv
  obtain⟨n,t,e1,e2⟩:=uq hvs i v hv
  exact⟨t,by dsimp only;rw[e1];exact e2⟩
 ·rw[hsz,preSum_eq]
  exact k _ _ (zf9 hk) ⟨VR.int,fun _ h=>by cases h⟩
theorem zkb{v:Value}{d:V}{x:PyData}{xs:List PyData}(sr:SR G F β ρ O s.heap)(rv:VR G F.B β s.heap v d)(hx:look O d=some x)(hi:items x=some xs)(hl:xs.length≤line) :
 LeafD G F s β (tr G A (call (.type "list") [v])) (V.d (.list xs)) (FRel G F s):=by
 have key:∀ (a:Addr) (o:Obj) (vs:Array Value) (n:Nat) (T:String) (as:List Addr),T = "list"∨T = "tuple"→s.heap.get? a=some o→o.cls=.type T→o.data=.seq vs n→ReadsAll s.heap vs.toList xs as→(∀ b∈as,b∉β∧b∉F.B) →
  LeafD G F s β (tr G A (call (.type "list") [.ref a])) (V.d (.list xs)) (FRel G F s):=by
  intro a o vs n T as hT h1 h2 h3 h4 h5
  have hsz:vs.size≤sizeLine:=by rw[← Array.length_toList,zf h4];exact Nat.le_trans hl (by decide)
  refine LeafD.leaf sr fun Q E k=>call_list_seq (hsz:=hsz) a hT h1 h2 h3 fun h' c' hk hS=>?_
  exact k _ _ (xf (tk:=s.toks) hk) ⟨xe hS rfl rfl (zy hk h4) h5 sr.size_new,fun _ _=>⟨_,rfl,Heap.get?_none_of_le (Nat.le_refl _),_,hS,rfl,rfl⟩⟩
 cases x with
 | list ys=>
   cases hi
   obtain⟨a,rfl,o,vs,n,h1,h2,h3,as,h4,h5⟩:=yf sr rv hx
   exact key a o vs n _ as (.inl rfl) h1 h2 h3 h4 h5
 | tuple ys=>
   cases hi
   have:=ym hx (fun _ h=>by cases h);subst this
   obtain⟨a,o,vs,n,rfl,h1,h2,h3,as,h4,h5⟩:=rv.tuple_inv
   exact key a o vs n _ as (.inr rfl) h1 h2 h3 h4 h5
 | _=>cases hi
theorem zci{v:Value}{d:V}{xs:List PyData}(sr:SR G F β ρ O s.heap)(rv:VR G F.B β s.heap v d)(hx:look O d=some (.list xs))(hl:xs.length≤line) :
 LeafD G F s β (tr G A (call (.type "tuple") [v])) (V.d (.tuple xs)) (FRel G F s):=by
 obtain⟨a,rfl,o,vs,n,h1,h2,h3,as,h4,h5⟩:=yf sr rv hx
 have hsz:vs.size≤sizeLine:=by rw[← Array.length_toList,zf h4];exact Nat.le_trans hl (by decide)
 refine LeafD.leaf sr fun Q E k=>call_tuple_list (hsz:=hsz) ⟨o,h1,h2,n,h3⟩ fun h' hk=>?_
 have hk':∀ b o,s.heap.get? b=some o→(h'.push { cls:=.type "tuple",data:=.seq vs }).get? b=some o:=fun b o e=>Heap.get?_push_of_some _ (hk b o e)
 exact k _ _ (xf (tk:=s.toks) hk') ⟨ky (Heap.get?_push_size _ rfl) rfl rfl (zy hk' h4) h5,fun _ h=>by cases h⟩
theorem zao{v:Value}{xs:List PyData}(sr:SR G F β ρ O s.heap)(rv:VR G F.B β s.heap v (.d (.tuple xs))) :
 LeafD G F s β (tr G A (call (.type "tuple") [v])) (V.d (.tuple xs)) (FRel G F s):=by
 obtain⟨a,o,vs,n,rfl,h1,h2,h3,as,h4,h5⟩:=id rv.tuple_inv
 refine LeafD.leaf sr fun Q E k=>call_tuple_tup ⟨o,h1,h2,n,h3⟩ (k _ _ (KeepsAll.refl s) ⟨rv,fun _ h=>by cases h⟩)
end
section
variable{G:Gl}{F:Fm}{A:Around}{cx:Cx}{s:Shared}{β:List Addr}{ρ:Loc}{O:za}{gval:Nat→Option PyData}{gname:Nat→Option Str}
theorem zer(sr:SR G F β ρ O s.heap):Does G F A s β (execs [] F.env) (.ok .next (ρ,O)) (yw G F):=
 Does.leaf sr fun Q E q=>wpAny_execs_nil (q _ _ (KeepsAll.refl s) rfl)
theorem zcx{x:Stmt}{xs:List Stmt}{r:R (Loc×za) Fl}{g:Loc→za→R (Loc×za) Fl}(h1:Does G F A s β (exec x F.env) r (yw G F))
 (h2:∀ s' β' ρ' O',SR G F β' ρ' O' s'.heap→Does G F A s' β' (execs xs F.env) (g ρ' O') (yw G F)) :
 Does G F A s β (execs (x::xs) F.env) (r.bind (seqK fun S=>g S.1 S.2)) (yw G F):=by
 refine DoesW.seq (T₂:=fun f Q E s'=>match f with | .next=>wpAny (model G.prog G.w) A (execs xs F.env) Q E s' | f=>Q f s') (fun Q E h=>wpAny_execs_cons h) h1 fun s' β' f d S e st sr rf=>?_
 cases d with
 | next=>
   have:f=.next:=rf
   subst this
   exact h2 s' β' S.1 S.2 sr
 | ret v=>
   obtain⟨val,rfl,rv⟩:=rf
   exact Does.leaf sr fun Q E q=>q _ _ (KeepsAll.refl s') ⟨val,rfl,rv⟩
theorem zs8{e:Expr}{p:Pos}{r:R za V}(h1:Does G F A s β (eval e F.env) (r.lift ρ) (VRel G F)) :
 Does G F A s β (exec (.Return (some e) p) F.env) ((r.lift ρ).bind fun v S=>.ok (.ret v) S) (yw G F):=
 DoesW.by (f:=Flow.ret) (q:=Fl.ret) (fun Q E h=>wpAny_Return_some h) h1 fun β h a d rv=>⟨a,rfl,rv⟩
theorem ztd{t:Expr}{a b:List Stmt}{p:Pos}{r:R za V}{ga gb:Loc→za→R (Loc×za) Fl}(h1:Does G F A s β (isTrue t F.env (eval t F.env)) ((tv r).lift ρ) BRel)
 (h2:∀ s' β' ρ' O',SR G F β' ρ' O' s'.heap→Does G F A s' β' (execs a F.env) (ga ρ' O') (yw G F)) (h3:∀ s' β' ρ' O',SR G F β' ρ' O' s'.heap→Does G F A s' β' (execs b F.env) (gb ρ' O') (yw G F)) :
 Does G F A s β (exec (.If t a b p) F.env) (((tv r).lift ρ).bind (ifeK (fun S=>ga S.1 S.2) fun S=>gb S.1 S.2)) (yw G F):=by
 refine DoesW.seq (T₂:=fun z Q E s₂=>if z then wpAny (model G.prog G.w) A (execs a F.env) Q E s₂ else wpAny (model G.prog G.w) A (execs b F.env) Q E s₂) (fun Q E h=>wpAny_If h) h1 fun s' β' z d S e st sr hz=>?_
 have hz:z=d:=hz
 subst hz
 cases z with
 | true=>exact (h2 s' β' S.1 S.2 sr).weaken (fun Q E h=>by show if _ then _ else _;rw[if_pos rfl];exact h) fun _ _ _ _ h=>h
 | false=>exact (h3 s' β' S.1 S.2 sr).weaken (fun Q E h=>by show if _ then _ else _;rw[if_neg (by decide)];exact h) fun _ _ _ _ h=>h
theorem zc7{e:Expr}(h:∀ a b c d,e≠.ListComp a b c d)(h2:∀ a b c d,e≠.SetComp a b c d)(h3:∀ a b c d f,e≠.DictComp a b c d f)(t:Option Expr)(n:Nat)(env:Env):swapsWith e t n env=pure false:=by
 cases e <;> first | rfl | exact absurd rfl (h _ _ _ _) | exact absurd rfl (h2 _ _ _ _) | exact absurd rfl (h3 _ _ _ _ _)
theorem zrc{e:Expr}{p:Pos}{r:R za V}(hk:F.env.scope.kind=.function)(hi:interactive F.env=false)(hs:swapsWith e none p.line F.env=pure false)(h1:Does G F A s β (eval e F.env) (r.lift ρ) (VRel G F)) :
 Does G F A s β (exec (.Expr e p) F.env) ((r.lift ρ).bind fun _ S=>.ok .next S) (yw G F):=by
 refine DoesW.seq (T₂:=fun _ Q E s'=>Q .next s') (fun Q E h=>wpAny_Expr_any h hi hs) h1 fun s' β' v d S e st sr rv=>?_
 exact Does.leaf sr fun Q E q=>q _ _ (KeepsAll.refl s') rfl
set_option tactic.hygienic true in
theorem d0{x:Str}{px spos:Pos}{i:Nat}{own:Str→Bool}{value:Expr}{r:R za V}(fit:Fits F cx)(hown:∀ x,own x=true→F.own x=true)(hx:chkT cx own (.name i) (.Name x px)=true)
 (hs:swapsWith value (some (.Name x px)) spos.line F.env=pure false) (h1:Does G F A s β (eval value F.env) (r.lift ρ) (VRel G F)) :
 Does G F A s β (exec (.Assign [.Name x px] value spos) F.env) ((r.lift ρ).bind (asgR (.name i))) (yw G F):=by
 obtain⟨y,p,e,h2,h3⟩:=ub hx
 cases e
 obtain⟨g1,g2⟩:=um fit h2
 refine DoesW.seq (T₂:=fun v Q E s'=>wpAny (model G.prog G.w) A (storeName F.env x v) (fun _=>Q .next) E s') (fun Q E h=>wpAny_Assign_Name h hs) h1 fun s' β' v d S e st sr rv=>?_
 have ds:=zhl (A:=A) sr g1 g2 (hown x h3) rv
 unfold asgR zt
 split
 ·rename_i ρ' heq
  split at heq
  ·cases heq
   intro Q E k
   exact ds _ _ fun s'' β'' _ st' sr' _=>k s'' β'' .next st' sr' rfl
  ·cases heq
 ·trivial
theorem zes{elts:List Expr}{k:Nat}{tpos spos:Pos}{c:CT}{own:Str→Bool}{value:Expr}{r:R za V}(hh:A.handled=none)(fit:Fits F cx)(hown:∀ x,own x=true→F.own x=true)(hx:chkT cx own c (.Tuple elts k tpos)=true)
 (hs:swapsWithSole [.Tuple elts k tpos] value spos.line F.env=pure false) (hw:swappedStores [.Tuple elts k tpos] value F.env=pure none) (h1:Does G F A s β (eval value F.env) (r.lift ρ) (VRel G F)) :
 Does G F A s β (exec (.Assign [.Tuple elts k tpos] value spos) F.env) ((r.lift ρ).bind (asgR c)) (yw G F):=by
 refine DoesW.seq (T₂:=fun v Q E s'=>wpAny (model G.prog G.w) A (assign (.Tuple elts k tpos) F.env v) (fun _=>Q .next) E s') (fun Q E h=>Assign_Tuple h hs hw) h1 fun s' β' v d S e st sr rv=>?_
 have da:=xy (A:=A) hh fit hown c hx sr rv
 unfold bindR at da
 unfold asgR
 cases hb:zt c d S.1 with
 | none=>trivial
 | some ρ'=>
   rw[hb] at da
   intro Q E k
   exact da _ _ fun s'' β'' _ st' sr' _=>k s'' β'' .next st' sr' rfl
theorem znv{t:Expr}{body:List Stmt}{p:Pos}{ev:Loc→za→R za V}{evb:Loc→za→R (Loc×za) Fl}{N:Nat}
 (ht:∀ s β ρ O,SR G F β ρ O s.heap→Does G F A s β (isTrue t F.env (eval t F.env)) ((tv (ev ρ O)).lift ρ) BRel)
 (hb:∀ s β ρ O,SR G F β ρ O s.heap→Does G F A s β (execs body F.env) (evb ρ O) (yw G F)) (sr:SR G F β ρ O s.heap) :
 Does G F A s β (exec (.While t body [] p) F.env) (yx (fun ρ O=>(tv (ev ρ O)).lift ρ) evb N ρ O) (yw G F):=by
 cases hgo:yx (fun ρ O=>(tv (ev ρ O)).lift ρ) evb N ρ O with
 | stuck=>trivial
 | ok fl S=>
   intro Q E k
   refine wpAny_While (codeAny_whileLoop (fun n s'=>∃ β' ρ' O',Step F.W β s s' β'∧SR G F β' ρ' O' s'.heap∧yx (fun ρ O=>(tv (ev ρ O)).lift ρ) evb n ρ' O'=.ok fl S) ?_ N ⟨β,ρ,O,Step.refl _ _ _,sr,hgo⟩)
   rintro n s' ⟨β',ρ',O',st,sr',hgo'⟩
   cases n with
   | zero=>cases hgo'
   | succ n=>
     unfold yx at hgo'
     have dt:=ht s' β' ρ' O' sr'
     cases he:(tv (ev ρ' O')).lift ρ' with
     | stuck=>rw[he] at hgo';cases hgo'
     | ok b S'=>
       rw[he] at hgo' dt
       refine dt _ _ fun s₂ β₂ b' st₂ sr₂ hb'=>?_
       have hb':b'=b:=hb'
       subst hb'
       cases b' with
       | false=>
         cases hgo'
         rw [if_neg (by decide)]
         exact wpAny_execs_nil (k s₂ β₂ .next (st.trans st₂) sr₂ rfl)
       | true=>
         rw [if_pos rfl]
         dsimp only at hgo'
         have db:=hb s₂ β₂ S'.1 S'.2 sr₂
         cases he2:evb S'.1 S'.2 with
         | stuck=>rw [he2] at hgo';cases hgo'
         | ok f S''=>
           rw [he2] at hgo' db
           refine db _ _ fun s₃ β₃ f' st₃ sr₃ rf=>?_
           cases f with
           | ret u=>
             cases hgo'
             obtain ⟨val,rfl,rv⟩:=rf
             exact k s₃ β₃ (.ret val) (st.trans (st₂.trans st₃)) sr₃ ⟨val,rfl,rv⟩
           | next=>
             have rf:f'=.next:=rf
             subst rf
             exact⟨n,Nat.lt_succ_self n,β₃,S''.1,S''.2,st.trans (st₂.trans st₃),sr₃,hgo'⟩
end
theorem zbw{kindOf:Str→Option NameKind}:∀ {binds:List (Str×Value)} {m:Str→Option Value} {x:Str} {v:Value},(binds.map (·.1)).Nodup→(x,v)∈binds→kindOf x=some .local→bindL kindOf binds m x=some v
 | (n,u)::r,m,x,v,hn,hm,hk=>by
   obtain⟨h1,h2⟩:=List.nodup_cons.mp hn
   unfold bindL
   rcases List.mem_cons.mp hm with e | hm
   ·have hx:x=n:=(Prod.mk.inj e).1
    have hv:v=u:=(Prod.mk.inj e).2
    subst hx;subst hv
    rw[if_pos hk]
    have:∀ (r:List (Str×Value)) (m:Str→Option Value),x∉r.map (·.1)→bindL kindOf r m x=m x:=by
     intro r
     induction r with
     | nil=>intro m _;rfl
     | cons p r ih=>
       intro m hx
       obtain⟨n',u'⟩:=p
       have hx':x≠n'∧x∉r.map (·.1):=by simpa using hx
       unfold bindL
       rw[ih _ hx'.2]
       split
       ·exact if_neg hx'.1
       ·rfl
    rw[this r _ h1];simp
   ·exact zbw h2 hm hk
theorem zi4{kindOf:Str→Option NameKind}{x:Str}(r:List (Str×Value)):∀ (m:Str→Option Value),x∉r.map (·.1)→bindC kindOf r m x=m x:=by
 induction r with
 | nil=>exact fun m _=>rfl
 | cons p r ih=>
   intro m hx
   obtain⟨n',u'⟩:=p
   have hx':x≠n'∧x∉r.map (·.1):=by simpa using hx
   unfold bindC
   rw[ih _ hx'.2]
   split
   ·rfl
   ·exact if_neg hx'.1
theorem zi3{kindOf:Str→Option NameKind}{binds:List (Str×Value)}{x:Str}{v:Value}(hk:kindOf x=some .cell):∀ {m:Str→Option Value},(binds.map (·.1)).Nodup→(x,v)∈binds→bindC kindOf binds m x=some v:=by
 induction binds with
 | nil=>exact fun _ hm=>absurd hm List.not_mem_nil
 | cons p r ih=>
   intro m hn hm
   obtain⟨n,u⟩:=p
   obtain⟨h1,h2⟩:=List.nodup_cons.mp hn
   unfold bindC
   rcases List.mem_cons.mp hm with e | hm
   ·obtain⟨hx,hv⟩:=Prod.mk.inj e
    subst hx;subst hv
    rw[if_neg (by rw[hk];decide),zi4 r _ h1]
    exact if_pos rfl
   ·exact ih h2 hm
theorem VRs.get{G:Gl}{N β:List Addr}{h:Heap}{vs:List Value}{ds:List V}(r:VRs G N β h vs ds):∀ (i:Nat) (h1:i < vs.length) (h2:i < ds.length),VR G N β h vs[i] ds[i]:=by
 induction r with
 | nil=>intro i h1;simp at h1
 | cons r rs ih=>
   intro i h1 h2
   cases i with
   | zero=>exact r
   | succ i=>exact ih i (by simpa using h1) (by simpa using h2)
theorem BoxAt.less2{N N' β β':List Addr}{h:Heap}(hs:∀ a∈N,a∈N')(hb:∀ a∈β,a∈β'){a:Addr}{bx:Box}(r:BoxAt h N' β' a bx):BoxAt h N β a bx:=by
 cases bx with
 | lst xs=>obtain⟨o,vs,n,h1,h2,h3,as,h4,h5⟩:=r;exact⟨o,vs,n,h1,h2,h3,as,h4,fun b hb'=>⟨fun hm=>(h5 b hb').1 (hb b hm),fun hn=>(h5 b hb').2 (hs b hn)⟩⟩
 | dct kvs=>
   obtain⟨o,es,n,h1,h2,h3,h4,h5⟩:=r
   refine⟨o,es,n,h1,h2,h3,h4,fun i e kv he hkv=>?_⟩
   obtain⟨hq,as,bs,r1,r2,q⟩:=h5 i e kv he hkv
   exact⟨hq,as,bs,r1,r2,fun b hb'=>⟨fun hm=>(q b hb').1 (hb b hm),fun hn=>(q b hb').2 (hs b hn)⟩⟩
noncomputable def xd(fd:FuncData)(L a:Addr)(names:List (Option Str))(B fr:List Addr):Fm:=
 { env:=callEnvC fd L a,names:=names,own:=ownOf fd.scope,W:=L::(cellsFrom (L+1) fd.scope.names []).map (·.2),B:=(L::(cellsFrom (L+1) fd.scope.names []).map (·.2))++B,fr:=L::fr }
structure FnOk(G:Gl)(J:Cx→List Stmt→CSs→Prop)(fname gname cname:Nat→Option Str)(x:Str)(fn:Fn)(a:Addr)(o:Obj)(fd:FuncData)(body:List Stmt)(names:List Str):Prop where
 at_:FnAt G x a o fd
 code:G.h₀.CodeRec fd.code fd.qualname
 body_:fd.body=.stmts body
 clos:fd.closure=[]
 globals:fd.globals=mainGlobals
 builtins:fd.builtins=builtinsNs
 defaults:fd.defaults=.none
 chk:zhm fn names fd.params fd.scope=true
 js:J { names:=yu fn names,sc:=fd.scope,fname,gname,cname } body fn.body
noncomputable def zhr(G:Gl)(J:Cx→List Stmt→CSs→Prop)(fname gname cname:Nat→Option Str)(T:Nat→Option Fn):Prop:=
 ∀ f x,fname f=some x→(∃ a o fd,FnAt G x a o fd)∧∀ fn,T f=some fn→∃ a o fd body names,FnOk G J fname gname cname x fn a o fd body names
structure HdOk(fn:Fn)(names:List Str)(a:Arguments)(sc:Scope):Prop where
 p1:a.posonlyargs=[]
 p2:a.vararg=none
 p3:a.kwonlyargs=[]
 p4:a.kwarg=none
 p5:a.args.map (·.arg)=names.take fn.arity
 k1:sc.kind=.function
 k2:sc.isGenerator=false
 k3:sc.isCoroutine=false
 k4:(sc.names.map (·.1)).Nodup
 k5:∀ x k,(x,k)∈sc.names→k=.local∨k=.cell∨k=.globalImplicit
 n1:names.Nodup
 n2:names.length≤fn.slots
 n3:fn.arity≤names.length
 n4:∀ x∈names,ownOf sc x=true
theorem ql{fn:Fn}{names:List Str}{a:Arguments}{sc:Scope}(h:zhm fn names a sc=true):HdOk fn names a sc:=by
 unfold zhm at h
 simp only[Bool.and_eq_true,decide_eq_true_eq] at h
 obtain⟨⟨⟨⟨⟨h1,h2⟩,h3⟩,h4⟩,h5⟩,h6⟩:=h
 unfold uj at h1
 simp only[Bool.and_eq_true,List.isEmpty_iff,Option.isNone_iff_eq_none,beq_iff_eq] at h1
 unfold zbl at h2
 simp only[Bool.and_eq_true,Bool.not_eq_true',decide_eq_true_eq,beq_iff_eq] at h2
 refine⟨h1.1.1.1.1.1.1.1,h1.1.1.1.1.1.1.2,h1.1.1.1.1.1.2,h1.1.1.1.2,h1.1.2,h2.1.1.1.1,h2.1.1.1.2,h2.1.1.2,h2.1.2,fun x k hm=>?_,h3,h4,h5,List.all_eq_true.mp h6⟩
 have:=List.all_eq_true.mp h2.2 (x,k) hm
 simpa [Bool.or_eq_true,beq_iff_eq,or_assoc] using this
section
variable{G:Gl}{J:Cx→List Stmt→CSs→Prop}{F:Fm}{A:Around}{gval:Nat→Option PyData}{fname gname cname:Nat→Option Str}{T:Nat→Option Fn}{P:Pg}
structure Out(G:Gl)(B fr β:List Addr)(h:Heap):Prop where
 new:(∀ a∈B,a≠sysModules→G.h₀.get? a=none)∧sysModules∈B∧sysModules∉fr
 notBox:∀ a∈B,a∉β
 stor:∀ a∈B,∃ o,h.get? a=some o∧∀ vs n,o.data=.seq vs n→o.cls≠.type "tuple"
 frB:∀ a∈fr,a∈B
 frs:∀ a∈fr,∃ m,h.Ns a m
theorem FmOk.out{β:List Addr}{h:Heap}(fm:FmOk G F β h):Out G F.B F.fr β h:=⟨⟨fm.new.1,fm.new.2.1,fm.new.2.2.2⟩,fm.notBox,fm.stor,fm.frB,fm.frs⟩
theorem za2{fn:Fn}{x:Str}{a:Addr}{o:Obj}{fd:FuncData}{body:List Stmt}{names:List Str}(fo:FnOk G J fname gname cname x fn a o fd body names){s s₁:Shared}{β B fr:List Addr}{O:za}{vals:List Value}{vs:List V}(br:BR G B β O s.heap)(fm:Out G B fr β s.heap)
 (rvs:VRs G B β s.heap vals vs) (hlen:vs.length=fn.arity)
 (ic:InCallC s (callEnvC fd s.heap.objs.size a).locals (bindL (callEnvC fd s.heap.objs.size a).kindOf ((names.take fn.arity).zip vals) fun _=>none) (callEnvC fd s.heap.objs.size a).cells
   (bindC (callEnvC fd s.heap.objs.size a).kindOf ((names.take fn.arity).zip vals) fun _=>none) s₁) :
 SR G (xd fd s.heap.objs.size a (yu fn names) B fr) β (vs.map some++List.replicate (fn.slots - fn.arity) none) O s₁.heap∧KeepsAll s s₁:=by
 obtain⟨_,_,_,_,_,k1,k2,k3,k4,k5,n1,n2,n3,n4⟩:=ql fo.chk
 have kept:∀ b o,s.heap.get? b=some o→s₁.heap.get? b=some o:=ic.toInCall.keep
 obtain⟨h₁,tk,e₁⟩:=ic.toInCall.same
 have ka:KeepsAll s s₁:=⟨by rw[e₁],by rw[e₁],kept⟩
 refine⟨?_,ka⟩
 have hns:=ic.toInCall.ns
 have hLn:s.heap.get? s.heap.objs.size=none:=z7 s
 have hcn:∀ y c,(y,c)∈cellsFrom (s.heap.objs.size+1) fd.scope.names []→s.heap.get? c=none:=fun y c hm=>Heap.get?_none_of_le (Nat.le_of_lt (ic.above y c hm))
 have hM:∀ b∈s.heap.objs.size::(cellsFrom (s.heap.objs.size+1) fd.scope.names []).map (·.2),s.heap.get? b=none:=fun b hb=>by
  rcases List.mem_cons.mp hb with rfl | hb
  ·exact hLn
  ·obtain⟨p,hp,rfl⟩:=List.mem_map.mp hb
   exact hcn p.1 p.2 hp
 have h0:∀ b,s.heap.get? b=none→G.h₀.get? b=none:=fun b hb=>by
  cases e:G.h₀.get? b with
  | none=>rfl
  | some o=>have:=br.keep b o e;rw[hb] at this;cases this
 have hnames:(yu fn names)=names.map some++List.replicate (fn.slots - names.length) none:=rfl
 have nget:∀ (i:Nat) y,(yu fn names)[i]?=some (some y)→names[i]?=some y:=fun i y h=>by
  rw[hnames] at h
  rcases Nat.lt_or_ge i names.length with hi | hi
  ·rw[List.getElem?_append_left (by simpa using hi),List.getElem?_map] at h
   cases hn:names[i]? with
   | none=>rw[hn] at h;cases h
   | some z=>rw[hn] at h;cases h;rfl
  ·rw[List.getElem?_append_right (by simpa using hi),List.getElem?_replicate] at h
   split at h <;> cases h
 have cellok:∀ y c,(y,c)∈cellsFrom (s.heap.objs.size+1) fd.scope.names []→(cellsFrom (s.heap.objs.size+1) fd.scope.names []).lookup y=some c→∃ v,s₁.heap.IsCell c v:=fun y c _ hl=>⟨_,ic.cell y c hl⟩
 refine⟨(br.grow hM).keepAll kept,⟨k1,fo.globals,fo.builtins,fun i j y h1 h2=>?_,⟨_,hns⟩,List.mem_cons_self,fun y hy=>?_,fun y z c hy hz=>?_,fun b hb=>List.mem_append_left _ hb,?_,fun b hb hb'=>?_,fun b hb=>?_,fun b hb=>?_,fun b hb=>?_,fun m e=>nomatch e⟩,fun i y v h1 h2=>?_⟩
 ·have e1:=nget i y h1
  have e2:=nget j y h2
  have hi:i < names.length:=(List.getElem?_eq_some_iff.mp e1).1
  have hj:j < names.length:=(List.getElem?_eq_some_iff.mp e2).1
  rw[List.getElem?_eq_getElem hi] at e1
  rw[List.getElem?_eq_getElem hj] at e2
  exact (List.getElem_inj (h₀:=hi) (h₁:=hj) n1).mp ((Option.some.inj e1).trans (Option.some.inj e2).symm)
 ·have hy':fd.scope.names.lookup y=some .cell:=hy
  obtain⟨c,hc⟩:=Option.isSome_iff_exists.mp (yj fd.scope.names (s.heap.objs.size+1) [] (.inl ((lookup_mem k4).mpr hy')))
  have hW:c∈s.heap.objs.size::(cellsFrom (s.heap.objs.size+1) fd.scope.names []).map (·.2):=List.mem_cons_of_mem _ (List.mem_map.mpr ⟨(y,c),mem_of_lookup hc,rfl⟩)
  exact⟨c,_,hc,ic.cell y c hc,List.mem_append_left _ hW,fun _=>hW⟩
 ·exact name_of_addr ic.apart (mem_of_lookup hy) (mem_of_lookup hz)
 ·refine⟨fun b hb hs=>?_,List.mem_append_right _ fm.new.2.1,fun hm=>br.notSys (hM _ hm) rfl,fun hm=>?_⟩
  ·rcases List.mem_append.mp hb with hb | hb
   ·exact h0 b (hM b hb)
   ·exact fm.new.1 b hb hs
  ·rcases List.mem_cons.mp hm with q | hm
   ·exact br.notSys hLn q.symm
   ·exact fm.new.2.2 hm
 ·rcases List.mem_append.mp hb with hb | hb
  ·obtain⟨o,e,_⟩:=br.alive b hb'
   rw[hM b hb] at e;cases e
  ·exact fm.notBox b hb hb'
 ·rcases List.mem_append.mp hb with hb | hb
  ·rcases List.mem_cons.mp hb with rfl | hb
   ·obtain⟨o,es,ep,q1,q2,_⟩:=hns
    exact⟨o,q1,fun vs n q=>by rw[q2] at q;cases q⟩
   ·obtain⟨p,hp,rfl⟩:=List.mem_map.mp hb
    obtain⟨c,hc⟩:=Option.isSome_iff_exists.mp (yj fd.scope.names (s.heap.objs.size+1) [] (x:=p.1) (by
     rcases xt _ _ _ (show (p.1,p.2)∈_ from hp) with h | h
     ·exact .inl h
     ·cases h))
    have hpc:c=p.2:=by
     have hkeys:∀ (names:List (Str×NameKind)) (n:Nat) (acc:List (Str×Addr)),(names.map (·.1)).Nodup→(∀ q∈acc,q.1∉names.map (·.1))→(acc.map (·.1)).Nodup→((cellsFrom n names acc).map (·.1)).Nodup:=by
      intro names
      induction names with
      | nil=>intro n acc _ _ h;exact h
      | cons z r ih=>
        intro n acc hn ha hacc
        obtain⟨zn,zk⟩:=z
        obtain⟨hz1,hz2⟩:=List.nodup_cons.mp hn
        unfold cellsFrom
        split
        ·refine ih _ _ hz2 (fun q hq=>?_) ?_
         ·rcases List.mem_cons.mp hq with rfl | hq
          ·exact hz1
          ·exact fun hm=>ha q hq (List.mem_cons_of_mem _ hm)
         ·rw [List.map_cons,List.nodup_cons]
          exact⟨fun hm=>by obtain⟨q,hq,e⟩:=List.mem_map.mp hm;exact ha q hq (by rw[e];exact List.mem_cons_self),hacc⟩
        ·exact ih _ _ hz2 (fun q hq hm=>ha q hq (List.mem_cons_of_mem _ hm)) hacc
     have hk:=hkeys fd.scope.names (s.heap.objs.size+1) [] k4 (fun _ h=>nomatch h) (by simp)
     have e1:=(lookup_mem hk (x:=p.1) (k:=p.2)).mp hp
     rw[hc] at e1;cases e1;rfl
    subst hpc
    obtain⟨o,q1,q2⟩:=ic.cell p.1 p.2 hc
    exact⟨o,q1,fun vs n q=>by rw[q2] at q;cases q⟩
  ·obtain⟨o,q1,q2⟩:=fm.stor b hb
   exact⟨o,kept _ _ q1,q2⟩
 ·rcases List.mem_cons.mp hb with rfl | hb
  ·exact List.mem_append_left _ List.mem_cons_self
  ·exact List.mem_append_right _ (fm.frB b hb)
 ·rcases List.mem_cons.mp hb with rfl | hb
  ·exact⟨_,hns⟩
  ·obtain⟨m,hm⟩:=fm.frs b hb
   exact⟨m,hm.keeps kept⟩
 ·have hvl:vals.length=vs.length:=rvs.length
  have hi:i < vs.length:=by
   rcases Nat.lt_or_ge i vs.length with h | h
   ·exact h
   ·rw[List.getElem?_append_right (by simpa using h),List.getElem?_replicate] at h2
    split at h2 <;> cases h2
  rw[List.getElem?_append_left (by simpa using hi),List.getElem?_map,List.getElem?_eq_getElem hi] at h2
  cases h2
  have hiv:i < vals.length:=by rw[hvl];exact hi
  have hy:=nget i y h1
  have hz:(y,vals[i])∈(names.take fn.arity).zip vals:=by
   have:((names.take fn.arity).zip vals)[i]?=some (y,vals[i]):=by
    rw[List.getElem?_zip_eq_some]
    refine⟨?_,List.getElem?_eq_getElem hiv⟩
    rw[List.getElem?_take_of_lt (by rw[← hlen];exact hi)];exact hy
   exact List.mem_of_getElem? this
  have hnd:(((names.take fn.arity).zip vals).map (·.1)).Nodup:=by
   have:((names.take fn.arity).zip vals).map (·.1)=names.take fn.arity:=by
    rw[List.map_fst_zip]
    rw[List.length_take,hvl,hlen];exact Nat.min_le_left _ _
   rw[this];exact n1.sublist (List.take_sublist _ _)
  refine⟨vals[i],?_,((rvs.get i hiv hi).grow hM).keepAll kept⟩
  have how:=n4 y (List.mem_of_getElem? hy)
  unfold ownOf at how
  simp only[Bool.or_eq_true,beq_iff_eq] at how
  rcases how with how | how
  ·exact .inl ⟨how,_,hns,zbw hnd hz how⟩
  ·obtain⟨c,hc⟩:=Option.isSome_iff_exists.mp (yj fd.scope.names (s.heap.objs.size+1) [] (.inl ((lookup_mem k4).mpr how)))
   refine .inr ⟨how,c,hc,?_⟩
   have:=ic.cell y c hc
   rwa [zi3 how hnd hz] at this
end
section
variable{G:Gl}{N N' β β':List Addr}{O':za}{h:Heap}{base:Nat}
theorem pre_take{β β':List Addr}(hp:β <+: β'):β=β'.take β.length:=by obtain⟨t,rfl⟩:=hp;simp
theorem BR.short(br:BR G N' β' O' h)(hN:∀ a∈N,a∈N')(hp:β <+: β')(hl:β.length=base):BR G N β (O'.take base) h:=by
 have hle:β.length≤β'.length:=hp.length_le
 have hget:∀ {i:Nat} {a:Addr},β[i]?=some a→β'[i]?=some a:=fun e=>x4 hp e
 refine⟨br.keep,by rw[List.length_take,← br.len,hl];omega,br.nodup.sublist hp.sublist,fun a ha=>br.new a (hp.subset ha),fun i a bx h1 h2=>?_,fun a ha=>br.plain a (hp.subset ha)⟩
 have h2':O'[i]?=some bx:=by
  rw[List.getElem?_take] at h2
  split at h2
  ·exact h2
  ·cases h2
 exact (br.at_ i a bx (hget h1) h2').less2 hN fun a ha=>hp.subset ha
theorem ze3{n:Nat}{b:Addr}(br:BR G N' β' O' h)(hp:β <+: β')(hn:β.length≤n)(hb:β'[n]?=some b):b∉β:=fun hm=>by
 obtain⟨i,hi⟩:=List.getElem?_of_mem hm
 have hi':=x4 hp hi
 have hil:i < β.length:=(List.getElem?_eq_some_iff.mp hi).1
 have h1:i < β'.length:=(List.getElem?_eq_some_iff.mp hi').1
 have h2:n < β'.length:=(List.getElem?_eq_some_iff.mp hb).1
 rw[List.getElem?_eq_getElem h1] at hi'
 rw[List.getElem?_eq_getElem h2] at hb
 have:=(List.getElem_inj (h₀:=h1) (h₁:=h2) br.nodup).mp ((Option.some.inj hi').trans (Option.some.inj hb).symm)
 omega
theorem BR.shortB{n:Nat}{b:Addr}{xs:List PyData}(br:BR G N' β' O' h)(hN:∀ a∈N,a∈N')(hp:β <+: β')(hl:β.length=base)(hn:base≤n)(hb:β'[n]?=some b)(hx:O'[n]?=some (.lst xs)) :
 BR G N (β++[b]) (O'.take base++[.lst xs]) h∧(∀ a∈β++[b],a∈β'):=by
 have s:=br.short (base:=base) hN hp hl
 have hbm:b∈β':=List.mem_of_getElem? hb
 have sub:∀ a∈β++[b],a∈β':=fun a ha=>(List.mem_append.mp ha).elim (fun h=>hp.subset h) fun h=>by rw[List.mem_singleton.mp h];exact hbm
 have hbβ:b∉β:=ze3 br hp (by rw[hl];exact hn) hb
 refine⟨⟨br.keep,by simp[s.len],?_,fun a ha=>br.new a (sub a ha),fun i a bx h1 h2=>?_,fun a ha=>br.plain a (sub a ha)⟩,sub⟩
 ·rw[List.nodup_append]
  exact⟨s.nodup,by simp,fun a ha c hc=>by rw[List.mem_singleton.mp hc];exact fun e=>hbβ (e ▸ ha)⟩
 ·rcases Nat.lt_or_ge i β.length with hi | hi
  ·rw[List.getElem?_append_left hi] at h1
   rw[List.getElem?_append_left (by rw[← s.len];exact hi),List.getElem?_take] at h2
   split at h2
   ·exact (br.at_ i a bx (x4 hp h1) h2).less2 hN sub
   ·cases h2
  ·rw[List.getElem?_append_right hi] at h1
   rw[List.getElem?_append_right (by rw[← s.len];exact hi)] at h2
   have hi0:i - β.length=0:=by
    rcases Nat.eq_zero_or_pos (i - β.length) with h | h
    ·exact h
    ·rw[List.getElem?_eq_none (show [b].length≤i - β.length from h)] at h1;cases h1
   rw[hi0] at h1
   rw[← s.len,hi0] at h2
   cases h1;cases h2
   exact (br.at_ n b (.lst xs) hb hx).less2 hN sub
theorem zac{n:Nat}{b:Addr}{xs:List PyData}(br:BR G N' β' O' h)(hN:∀ a∈N,a∈N')(nb:∀ a∈N',a∉β')(hp:β <+: β')(hn:β.length≤n)(hb:β'[n]?=some b)(hx:O'[n]?=some (.lst xs)):VR G N β h (.ref b) (.d (.list xs)):=by
 obtain⟨o,vs,k,e1,e2,e3,as,e4,e5⟩:=br.at_ n b (.lst xs) hb hx
 exact⟨b::as,.list e1 e2 e3 e4,fun a ha=>(List.mem_cons.mp ha).elim (fun e=>e ▸ ⟨ze3 br hp hn hb,fun hm=>nb b (hN b hm) (List.mem_of_getElem? hb)⟩) fun ha=>⟨fun hm=>(e5 a ha).1 (hp.subset hm),fun hm=>(e5 a ha).2 (hN a hm)⟩⟩
theorem zib{O:za}{n:Nat}{x:PyData}(e:kr O n=some x):∃ xs,x=.list xs∧O[n]?=some (.lst xs):=by
 unfold kr at e
 cases ho:O[n]? with
 | none=>rw[ho] at e;cases e
 | some bx=>
   rw[ho] at e
   cases bx with
   | lst xs=>cases e;exact⟨xs,rfl,rfl⟩
   | dct kvs=>cases e
set_option tactic.hygienic true in
theorem zqn(br:BR G N' β' O' h)(hN:∀ a∈N,a∈N')(nb:∀ a∈N',a∉β')(hp:β <+: β')(hl:β.length=base){vs:List Value}{its:List It}(r:ItsR N' β' h vs its):∀ {ds:List PyData},frz O' base its=some ds→∃ as,ReadsAll h vs ds as∧∀ a∈as,a∉β∧a∉N:=by
 induction r with
 | nil=>intro ds e;cases e;exact⟨[],.nil,fun _ h=>nomatch h⟩
 | b hb _ ih=>
   rename_i n a vs its _
   intro ds e
   have e:(if base≤n then (kr O' n).bind fun x=>(frz O' base its).map (x::·) else none)=some ds:=e
   by_cases hn:base≤n
   ·rw[if_pos hn] at e
    obtain⟨x,h1,e⟩:=Option.bind_eq_some_iff.mp e
    obtain⟨ds',h2,rfl⟩:=Option.map_eq_some_iff.mp e
    obtain⟨xs,rfl,hx⟩:=zib h1
    obtain⟨as,r,q⟩:=zac br hN nb hp (by rw[hl];exact hn) hb hx
    obtain⟨bs,rs,qs⟩:=ih h2
    exact⟨as++bs,.cons r rs,fun a ha=>(List.mem_append.mp ha).elim (q a) (qs a)⟩
   ·rw[if_neg hn] at e;cases e
 | x r q _ ih=>
   intro ds e
   obtain⟨ds',h2,rfl⟩:=Option.map_eq_some_iff.mp e
   obtain⟨bs,rs,qs⟩:=ih h2
   exact⟨_++bs,.cons r rs,fun a ha=>(List.mem_append.mp ha).elim (fun ha=>⟨fun hm=>(q a ha).1 (hp.subset hm),fun hm=>(q a ha).2 (hN a hm)⟩) (qs a)⟩
inductive zox(G:Gl)(N β β':List Addr)(O'':za)(h:Heap)(val:Value)(v':V):Prop
 | mk (β'':List Addr) (q1:β <+: β'') (q2:∀ a∈β'',a∈β') (q3:BR G N β'' O'' h) (q4:VR G N β'' h val v')
theorem zil{keep:Bool}{n:Nat}{b:Addr}{v':V}{O'':za}(br:BR G N' β' O' h)(hN:∀ a∈N,a∈N')(nb:∀ a∈N',a∉β')(hp:β <+: β')(hl:β.length=base)(hb:β'[n]?=some b)(hf:dn base keep n O'=.ok v' O''):zox G N β β' O'' h (.ref b) v':=by
 unfold dn at hf
 by_cases hn:n < base
 ·rw[if_pos hn] at hf
  cases hf
  refine⟨β,List.prefix_refl _,fun a ha=>hp.subset ha,br.short hN hp hl,b,?_,rfl⟩
  rw[pre_take hp,List.getElem?_take,if_pos (by rw[hl];exact hn)];exact hb
 ·rw[if_neg hn] at hf
  cases hx:O'[n]? with
  | none=>rw[hx] at hf;cases hf
  | some bx=>
    rw[hx] at hf
    cases bx with
    | dct kvs=>cases hf
    | lst xs=>
      cases keep with
      | true=>
        cases hf
        obtain⟨b1,b2⟩:=br.shortB hN hp hl (Nat.not_lt.mp hn) hb hx
        exact⟨β++[b],List.prefix_append _ _,b2,b1,b,by rw[← hl,List.getElem?_append_right (Nat.le_refl _),Nat.sub_self];rfl,rfl⟩
      | false=>
        cases hf
        exact⟨β,List.prefix_refl _,fun a ha=>hp.subset ha,br.short hN hp hl,zac br hN nb hp (by rw[hl];exact Nat.not_lt.mp hn) hb hx⟩
theorem zkx{keep:Bool}{val:Value}{v v':V}{O'':za}(br:BR G N' β' O' h)(hN:∀ a∈N,a∈N')(nb:∀ a∈N',a∉β')(hp:β <+: β')(hl:β.length=base)(rv:VR G N' β' h val v)(hf:fin base keep v O'=.ok v' O'') :
 zox G N β β' O'' h val v':=by
 cases v with
 | d x=>
   cases hf
   obtain⟨as,r,q⟩:=rv
   exact⟨β,List.prefix_refl _,fun a ha=>hp.subset ha,br.short hN hp hl,as,r,fun a ha=>⟨fun hm=>(q a ha).1 (hp.subset hm),fun hm=>(q a ha).2 (hN a hm)⟩⟩
 | box n=>
   obtain⟨b,hb,rfl⟩:=rv
   exact zil br hN nb hp hl hb hf
 | tm its=>
   obtain⟨a,o,vs,k,rfl,e1,e2,e3,e4⟩:=rv
   have hf:(match frz O' base its with
    | some ds=>.ok (.d (.tuple ds)) (O'.take base)
    | none=>.stuck)=R.ok v' O'':=hf
   cases hz:frz O' base its with
   | none=>rw[hz] at hf;cases hf
   | some ds=>
     rw[hz] at hf
     cases hf
     obtain⟨as,r,q⟩:=zqn br hN nb hp hl e4 hz
     exact⟨β,List.prefix_refl _,fun a ha=>hp.subset ha,br.short hN hp hl,as,.tuple e1 e2 e3 r,q⟩
end
section
variable{G:Gl}{J:Cx→List Stmt→CSs→Prop}{gval:Nat→Option PyData}{fname gname cname:Nat→Option Str}{T:Nat→Option Fn}{P:Pg}
theorem FrA.deeper{A:Around}{F:Fm}{fd:FuncData}{L a:Addr}{names:List (Option Str)}(fr:FrA A F)(k1:fd.scope.kind=.function):FrA (A.deeper (callEnvC fd L a)) (xd fd L a names F.B F.fr):=by
 obtain⟨l,h1,h2⟩:=fr
 refine⟨_,Around.frames_deeper h1,fun env he=>?_⟩
 rcases List.mem_cons.mp he with rfl | he
 ·exact⟨by show fd.scope.kind≠.module;rw[k1];decide,L,rfl,List.mem_cons_self⟩
 ·obtain⟨h3,L',h4,h5⟩:=h2 env he
  exact⟨h3,L',h4,List.mem_cons_of_mem _ h5⟩
noncomputable def TopA(A:Around)(F:Fm):Prop:=(∃ outer,A.frames=some (F.env::outer))∧∃ L,F.env.frame=some L
noncomputable def BodyOk(G:Gl)(J:Cx→List Stmt→CSs→Prop)(A:Around)(fname gname cname:Nat→Option Str)(P:Pg):Prop:=
 ∀ (F:Fm) (cx:Cx) (c:CSs) (body:List Stmt) (s:Shared) (β:List Addr) (ρ:Loc) (O:za),cx.fname=fname→cx.gname=gname→cx.cname=cname→Fits F cx→FrA A F→TopA A F→(∀ x,ownOf cx.sc x=true→F.own x=true)→J cx body c→SR G F β ρ O s.heap →
  Does G F A s β (execs body F.env) (evSs P c ρ O) (yw G F)
theorem zky{base:Nat}{keep:Bool}{O:za}:fin base keep (.d .none) O=.ok (.d .none) (O.take base):=rfl
theorem zc5{A:Around}{F:Fm}{fd:FuncData}{L a:Addr}{names:List (Option Str)}{B fr:List Addr}(frA:FrA A F):TopA (A.deeper (callEnvC fd L a)) (xd fd L a names B fr):=by
 obtain⟨l,h1,_⟩:=frA
 exact⟨⟨l,Around.frames_deeper h1⟩,L,rfl⟩
theorem zea{Fc F:Fm}{β β':List Addr}{ρ:Loc}{O O'':za}{S:Loc×za}{s s₁ s':Shared}{keep:Bool}{val:Value}{v res:V}(sr:SR G F β ρ O s.heap)(hWn:∀ b∈Fc.W,s.heap.get? b=none)(subB:∀ b∈F.B,b∈Fc.B)(ka:KeepsAll s s₁)
 (st:Step Fc.W β s₁ s' β') (srE:SR G Fc β' S.1 S.2 s'.heap) (rv:VR G Fc.B β' s'.heap val v) (hf:Mine.fin O.length keep v S.2=.ok res O''):∃ β'',Step F.W β s s' β''∧SR G F β'' ρ O'' s'.heap∧VR G F.B β'' s'.heap val res:=by
 obtain⟨β'',q1,q2,q3,q4⟩:=zkx srE.br subB srE.fm.notBox st.pre sr.br.len rv hf
 have st0:Step [] β s s' β':=((ka.step [] β).thenW st hWn)
 have st1:Step [] β s s' β'':=⟨st0.gens,st0.os,q1,fun b hb'=>st0.fresh b (q2 b hb'),st0.alive,st0.kept⟩
 exact⟨β'',⟨st1.gens,st1.os,st1.pre,st1.fresh,st1.alive,fun b o e hb' _=>st1.kept b o e hb' List.not_mem_nil⟩,sr.outer st1 q3 fun b hb' hm=>srE.fm.notBox b (subB b hb') (q2 b hm),q4⟩
inductive Callee(G:Gl)(F:Fm)(A':Around)(cx:Cx)(β:List Addr)(ρ:Loc)(O:za)(env:Env)(s s₁:Shared):Prop
 | mk (Fc:Fm) (hE:Fc.env=env) (ka:KeepsAll s s₁) (srC:SR G Fc β ρ O s₁.heap) (fit:Fits Fc cx) (fr:FrA A' Fc) (top:TopA A' Fc) (own:∀ x,ownOf cx.sc x=true→Fc.own x=true) (hWn:∀ b∈Fc.W,s.heap.get? b=none) (subB:∀ b∈F.B,b∈Fc.B)
set_option tactic.hygienic true in
theorem call_one(g:GOk G gval gname)(fns:zhr G J fname gname cname T){A:Around}{k:Nat}(ro:Room A (k+1)){call:Bool→Nat→List V→za→R za V}{hd:Bool}
 (hb:∀ env,BodyOk G J (A.deeper env) fname gname cname { P with call:=call,hd:=hd }):ud G A fname (fun f args O=>match T f with
   | some fn=>if args.length=fn.arity∧fn.arity≤fn.slots then evFn { P with call:=call,hd:=hd } fn args O else .stuck
   | none=>.stuck):=by
 intro F s β ρ O f x vals vs sr frA hf rvs
 obtain⟨⟨a,o,fd,fa⟩,hfn⟩:=fns f x hf
 cases hT:T f with
 | none=>exact⟨a,o,fd,fa,by dsimp only;rw[hT];trivial⟩
 | some fn=>
   obtain⟨a,o,fd,body,names,fo⟩:=hfn fn hT
   refine⟨a,o,fd,fo.at_,?_⟩
   dsimp only
   rw[hT]
   dsimp only
   split
   ·rename_i hlen
    obtain⟨p1,p2,p3,p4,p5,k1,k2,k3,k4,k5,n1,n2,n3,n4⟩:=ql fo.chk
    have hget:s.heap.get? a=some o:=sr.br.keep _ _ fo.at_.get
    have hnt:(names.take fn.arity).length=fn.arity:=by rw[List.length_take];omega
    have hbind:bindArgs fd ⟨vals,[]⟩=pure ((names.take fn.arity).zip vals):=qp p1 p2 p3 p4 p5 (by rw[rvs.length,hnt];exact hlen.1) (n1.sublist (List.take_sublist _ _)) fo.defaults
    have hkind:∀ y∈(names.take fn.arity).zip vals,fd.scope.names.lookup y.1=some .local∨(fd.scope.names.lookup y.1=some .cell∧((cellsFrom (s.heap.objs.size+1) fd.scope.names []).lookup y.1).isSome=true):=fun y hy=>by
     have hy':y.1∈names:=List.mem_of_mem_take (List.of_mem_zip hy).1
     have how:=n4 y.1 hy'
     unfold ownOf at how
     simp only[Bool.or_eq_true,beq_iff_eq] at how
     rcases how with how | how
     ·exact .inl how
     ·exact .inr ⟨how,yj _ _ _ (.inl ((lookup_mem k4).mpr how))⟩
    have enter:∀ (Q:Value→Shared→Prop) (E:Value→Shared→Prop),_→wpAny (model G.prog G.w) A (PySem.call (.ref a) vals) Q E s:=fun Q E h=>wpAny_call (codeAny_call_cells ro.room hget fo.at_.data (g.nolimit.keeps sr.br.keep) (Heap.CodeRec.keeps fo.code sr.br.keep) fo.body_ hbind fo.clos hkind h k3 k2 k1)
    have facts:∀ s₁,InCallC s (callEnvC fd s.heap.objs.size a).locals (bindL (callEnvC fd s.heap.objs.size a).kindOf ((names.take fn.arity).zip vals) fun _=>none) (callEnvC fd s.heap.objs.size a).cells (bindC (callEnvC fd s.heap.objs.size a).kindOf ((names.take fn.arity).zip vals) fun _=>none) s₁→Callee G F (A.deeper (callEnvC fd s.heap.objs.size a)) { names:=yu fn names,sc:=fd.scope,fname:=fname,gname:=gname,cname:=cname } β (vs.map some++List.replicate (fn.slots - fn.arity) none) O (callEnvC fd s.heap.objs.size a) s s₁:=fun s₁ ic=>by
     obtain⟨srC,ka⟩:=za2 fo sr.br sr.fm.out rvs hlen.1 ic
     refine⟨xd fd s.heap.objs.size a (yu fn names) F.B F.fr,rfl,ka,srC,⟨rfl,fun _=>rfl,k1⟩,frA.deeper k1,zc5 frA,fun _ h=>h,fun b hb'=>?_,fun b hb'=>List.mem_append_right _ hb'⟩
     rcases List.mem_cons.mp hb' with rfl | hb'
     ·exact z7 s
     ·obtain⟨p,hp,rfl⟩:=List.mem_map.mp hb'
      exact Heap.get?_none_of_le (Nat.le_of_lt (ic.above p.1 p.2 hp))
    obtain⟨l₀,hfr₀,_⟩:=id frA
    have hfr':(A.deeper (callEnvC fd s.heap.objs.size a)).frames=some (callEnvC fd s.heap.objs.size a::l₀):=Around.frames_deeper hfr₀
    have hrun:=hb (callEnvC fd s.heap.objs.size a)
    unfold evFn
    cases he:evSs { P with call:=call,hd:=hd } fn.body (vs.map some++List.replicate (fn.slots - fn.arity) none) O with
    | stuck=>trivial
    | ok fl S=>
      cases fl with
      | ret v=>
        show DoesW G F s β _ ((Mine.fin O.length fn.keep v S.2).lift ρ) _
        cases hev:Mine.fin O.length fn.keep v S.2 with
        | stuck=>trivial
        | ok res O''=>
          intro Q E kk
          refine enter Q E fun s₁ ic=>?_
          obtain ⟨Fc,hE,ka,srC,fitC,frC,topC,own,hWn,subB⟩:=facts s₁ ic
          have db:=hrun Fc _ fn.body body s₁ β _ O rfl rfl rfl fitC frC topC own fo.js srC
          rw [he,hE] at db
          refine db _ _ fun s' β' fl' st srE rf=>?_
          obtain ⟨val,rfl,rv⟩:=rf
          obtain ⟨β'',a1,a2,a3⟩:=zea sr hWn subB ka st srE rv hev
          exact kk s' β'' val a1 a2 a3
      | next=>
        intro Q E kk
        refine enter Q E fun s₁ ic=>?_
        obtain⟨Fc,hE,ka,srC,fitC,frC,topC,own,hWn,subB⟩:=facts s₁ ic
        have db:=hrun Fc _ fn.body body s₁ β _ O rfl rfl rfl fitC frC topC own fo.js srC
        rw[he,hE] at db
        refine db _ _ fun s' β' fl' st srE rf=>?_
        have rf:fl'=.next:=rf
        subst rf
        obtain⟨β'',a1,a2,a3⟩:=zea (keep:=fn.keep) sr hWn subB ka st srE VR.none zky
        exact kk s' β'' .none a1 a2 a3
   ·trivial
structure Like(A A':Around):Prop where
 depth:A'.depth=A.depth
 units:A'.units=A.units
 frames:A'.frames=A.frames
 guards:A'.guards=A.guards
theorem Like.refl(A:Around):Like A A:=⟨rfl,rfl,rfl,rfl⟩
theorem Room.like{A A':Around}{k:Nat}(r:Room A k)(l:Like A A'):Room A' k:=⟨by rw[l.depth];exact r.depth,by rw[l.units];exact r.units,by rw[l.guards];exact r.guards⟩
theorem zey(g:GOk G gval gname)(fns:zhr G J fname gname cname T)
 (body:∀ (A:Around) (call:Bool→Nat→List V→za→R za V) (hd:Bool),Room A 0→(hd=false→A.handled=none) →
   (∀ A' hd',Like A A'→(hd'=false→A'.handled=none)→ud G A' fname (call hd'))→BodyOk G J A fname gname cname { P with call:=call,hd:=hd }) :
 ∀ (k:Nat) (A:Around) (hd:Bool),Room A k→(hd=false→A.handled=none)→ud G A fname (zg P T k hd)
 | 0,A,hd,ro,hm=>fun F s β ρ O f x vals vs sr fr hf rvs=>let ⟨⟨a,o,fd,fa⟩,_⟩:=fns f x hf;⟨a,o,fd,fa,trivial⟩
 | k+1,A,hd,ro,hm=>by
   have:=call_one (P:=P) g fns ro (call:=zg P T k) (hd:=hd) fun env=>body _ _ _ ⟨by have:=(ro.deeper env).depth;omega,by have:=(ro.deeper env).units;omega,(ro.deeper env).guards⟩ hm
    fun A' hd' lk hm'=>zey g fns body k A' hd' ((ro.deeper env).like lk) hm'
   exact this
end
section
variable{G:Gl}{F:Fm}{A:Around}{s:Shared}{β:List Addr}{ρ:Loc}{O:za}{cx:Cx}{gval:Nat→Option PyData}{gname:Nat→Option Str}
theorem SR.setBox{n:Nat}{a:Addr}{bx:Box}{s':Shared}(sr:SR G F β ρ O s.heap)(hn:β[n]?=some a)(hs:Heap.SameBut a s.heap s'.heap)(hg:s'.gens=s.gens)(hos:s'.os=s.os)
 (hx:Step F.W β s s' β→BoxAt s'.heap F.B β a bx) (hp:Plain s'.heap a):Step F.W β s s' β∧SR G F β ρ (O.set n bx) s'.heap:=by
 have ha:a∈β:=List.mem_of_getElem? hn
 have kp:∀ b o,b≠a→s.heap.get? b=some o→s'.heap.get? b=some o:=fun b o hb e=>(hs.2 b hb).trans e
 have st0:Step [] β s s' β:=⟨hg,hos,List.prefix_refl _,fun _ h=>.inl h,fun b o e=>by
  by_cases hb:b=a
  ·subst hb;obtain⟨o',e',_⟩:=hp;exact⟨o',e'⟩
  ·exact⟨o,kp b o hb e⟩,fun b o e hb _=>⟨o,kp b o (fun h=>hb (h ▸ ha)) e,Kin.refl o⟩⟩
 have st:Step F.W β s s' β:=⟨st0.gens,st0.os,st0.pre,st0.fresh,st0.alive,fun b o e hb _=>st0.kept b o e hb (by simp)⟩
 refine⟨st,sr.outer st0 ⟨fun c o e=>kp c o (fun h=>?_) (sr.br.keep c o e),by rw[List.length_set];exact sr.br.len,sr.br.nodup,sr.br.new,fun i b bx' h1 h2=>?_,fun b hb=>?_⟩ sr.fm.notBox⟩
 ·subst h
  have:=sr.br.new c ha
  rw[e] at this;cases this
 ·by_cases hi:n=i
  ·subst hi
   have hl:n < O.length:=by rw[← sr.br.len];exact (List.getElem?_eq_some_iff.mp hn).1
   rw[List.getElem?_set_self hl] at h2
   cases h2
   rw[hn] at h1;cases h1
   exact hx st
  ·rw[List.getElem?_set_ne hi] at h2
   have hne:b≠a:=fun e=>by
    subst e
    have e1:=(List.getElem?_eq_some_iff.mp hn)
    have e2:=(List.getElem?_eq_some_iff.mp h1)
    exact hi ((List.getElem_inj (h₀:=e1.1) (h₁:=e2.1) sr.br.nodup).mp (e1.2.trans e2.2.symm))
   have hb:=sr.br.at_ i b bx' h1 h2
   cases bx' with
   | lst xs=>
     obtain⟨o,vs,n,e1,e2,e3,as,e4,e5⟩:=hb
     exact⟨o,vs,n,kp _ _ hne e1,e2,e3,as,(zx sr.br sr.fm st e4 e5).1,e5⟩
   | dct kvs=>
     obtain⟨o,es,n,e1,e2,e3,e4,e5⟩:=hb
     refine⟨o,es,n,kp _ _ hne e1,e2,e3,e4,fun i e kv he hkv=>?_⟩
     obtain⟨hq,as,bs,r1,r2,q⟩:=e5 i e kv he hkv
     exact⟨hq,as,bs,(z8 sr.br sr.fm st r1 fun a ha=>q a (List.mem_append_left _ ha)).1,(z8 sr.br sr.fm st r2 fun a ha=>q a (List.mem_append_right _ ha)).1,q⟩
 ·by_cases hba:b=a
  ·subst hba;exact hp
  ·exact (sr.br.plain b hb).at fun o e=>kp b o hba e
theorem kf{h:Heap}{N:List Addr}{a:Addr}{xs:List PyData}(hp:Plain h a)(hl:ListAt h N β a xs):∃ vs as,h.PlainList a vs∧ReadsAll h vs.toList xs as∧∀ b∈as,b∉β∧b∉N:=by
 obtain⟨o,vs,n,e1,e2,e3,as,e4,e5⟩:=hl
 obtain⟨o₉,g1,g2,g3⟩:=hp
 rw[e1] at g1;cases g1
 obtain⟨cl,di,da,sl⟩:=o
 simp only at e2 e3 g2 g3
 subst e2 e3 g2 g3
 exact⟨vs,as,⟨n,e1⟩,e4,e5⟩
set_option tactic.hygienic true in
theorem zln{o e:Expr}{p q:Pos}{ra:R za V}{rb:za→R za V}(hm:zcg o p q=true)(hs:starEach [e] F.env=[(false,eval e F.env)])
 (h1:Does G F A s β (eval o F.env) (ra.lift ρ) (VRel G F)) (h2:∀ s' β' O',SR G F β' ρ O' s'.heap→Does G F A s' β' (eval e F.env) ((rb O').lift ρ) (VRel G F)) :
 Does G F A s β (eval (.Call (.Attribute o "append" p) [e] [] q) F.env) ((ra.bind fun v O=>if recv .append v O=true then (rb O).bind fun u O=>meth .append v [u] O else .stuck).lift ρ) (VRel G F):=by
 have hline:(p.endLine == q.line)=true:=(and2 hm).1
 have hbase:attributeBase o "append" F.env (eval o F.env)=eval o F.env:=by
  unfold zcg at hm
  have:=(and2 hm).2
  cases o <;> first | rfl | exact (Bool.false_ne_true this).elim
 have htrees:backTo q (starEach [e] F.env)=[(false,eval e F.env)]:=by rw[hs];rfl
 refine DoesW.seqE (T₂:=fun ov Q E s₁=>∃ D its,ov=.ref D∧PlainL s₁.heap D its∧wpAny (model G.prog G.w) A (eval e F.env) (fun y s₂=>wpAny (model G.prog G.w) A (call (.builtin "list.append") [.ref D,y]) Q E s₂) E s₁)
  (fun Q E h=>wpAny_Call_append hbase (by rw[htrees];rfl) hline htrees h) h1 fun s' β' v d O' _ st sr rv=>?_
 split
 ·rename_i hr
  cases d with
  | box n=>
    have hr:zd0 O' n=true:=hr
    unfold zd0 at hr
    cases hx:O'[n]? with
    | none=>rw[hx] at hr;cases hr
    | some bx=>
      rw[hx] at hr
      cases bx with
      | dct _=>cases hr
      | lst xs=>
        obtain⟨a,hn,rfl⟩:=rv
        obtain⟨vs,as,hpl,r1,q1⟩:=kf (sr.br.plain a (List.mem_of_getElem? hn)) (sr.br.at_ n a _ hn hx)
        obtain⟨k0,e0⟩:=hpl
        refine DoesW.seqE (T₁:=tr G A (eval e F.env)) (T₂:=fun y Q E s₂=>wpAny (model G.prog G.w) A (call (.builtin "list.append") [.ref a,y]) Q E s₂) (fun Q E h=>⟨a,vs,rfl,⟨_,_,e0,rfl,rfl,rfl⟩,h⟩) (h2 s' β' O' sr) fun s₂ β₂ y u O₂ _ st₂ sr₂ ry=>?_
        have hn₂:=x4 st₂.pre hn
        show DoesW _ _ _ _ _ (R.lift ρ (boxL (.box n) O₂ fun n xs=>oneD (fun x=>if xs.length < line then .ok (.d .none) (O₂.set n (.lst (xs++[x]))) else .stuck) [u])) _
        unfold boxL
        dsimp only
        cases hy:O₂[n]? with
        | none=>trivial
        | some bx₂=>
          cases bx₂ with
          | dct _=>trivial
          | lst ys=>
            cases u with
            | d x'=>
              show DoesW _ _ _ _ _ (R.lift ρ (if ys.length < line then R.ok (V.d .none) (O₂.set n (.lst (ys++[x']))) else .stuck)) _
              by_cases hlen:ys.length < line
              ·rw [if_pos hlen]
               obtain ⟨ws,bs,hpl₂,r2,q2⟩:=kf (sr₂.br.plain a (List.mem_of_getElem? hn₂)) (sr₂.br.at_ n a _ hn₂ hy)
               intro Q E k
               have hsz:ws.size≤sizeLine:=by rw [← Array.length_toList,zf r2];exact Nat.le_trans (Nat.le_of_lt hlen) (by decide)
               refine wpAny_list_append_plain hpl₂ (fun h' hl' hs'=>?_) hsz
               obtain ⟨k',e'⟩:=hl'
               obtain ⟨cs,r3,q3⟩:=ry
               have hb:Step F.W β₂ s₂ { s₂ with heap:=h' } β₂→BoxAt h' F.B β₂ a (.lst (ys++[x'])):=fun st₃=>by
                refine ⟨_,_,k',e',rfl,rfl,bs++(cs++[]),?_,fun b hb=>?_⟩
                ·rw [Array.toList_push]
                 exact y5 (zx sr₂.br sr₂.fm st₃ r2 q2).1 (.cons (z8 sr₂.br sr₂.fm st₃ r3 q3).1 .nil)
                ·rw [List.append_nil] at hb
                 exact (List.mem_append.mp hb).elim (q2 b) (q3 b)
               obtain ⟨st₃,sr₃⟩:=SR.setBox (bx:=.lst (ys++[x'])) (s':={ s₂ with heap:=h' }) sr₂ hn₂ hs' rfl rfl hb ⟨_,e',rfl,rfl⟩
               exact k _ β₂ .none st₃ sr₃ VR.none
              ·rw [if_neg hlen];trivial
            | _=>trivial
  | _=>cases hr
 ·trivial
theorem zf6{v:Value}{b:Bool}(sr:SR G F β ρ O s.heap)(rv:VR G F.B β s.heap v (.d (.bool b))) :
 LeafD G F s β (tr G A (call (.type "int") [v])) (V.d (.int (if b then 1 else 0))) (FRel G F s):=by
 obtain⟨as,r,_⟩:=rv
 cases r
 exact LeafD.leaf sr fun Q E k=>call_int_bool (k _ _ (KeepsAll.toks s _) ⟨VR.int,fun _ h=>by cases h⟩)
end
theorem R.bind_ok{σ α:Type}(r:R σ α):(r.bind fun v O=>R.ok v O)=r:=by cases r <;> rfl
section
variable{G:Gl}{F:Fm}{A:Around}{s:Shared}{β:List Addr}{ρ:Loc}{O:za}{cx:Cx}{gval:Nat→Option PyData}{gname:Nat→Option Str}{P:Pg}{K:V→za→R za V}
theorem LeafD.fin2{T:WT Value}{c:PyData}(hK:Fin2 K)(sr:SR G F β ρ O s.heap)(h:LeafD G F s β T (V.d c) (FRel G F s)):DoesW G F s β T ((K (.d c) O).lift ρ) (VRel G F):=by
 cases hK with
 | plain=>exact (h.does sr).weaken (fun _ _ h=>h) fun _ _ _ _ r=>r.1
 | box=>exact h.box sr
theorem g8{T:WT Value}{o:Option PyData}(hK:Fin2 K)(sr:SR G F β ρ O s.heap)(h:∀ c,o=some c→LeafD G F s β T (V.d c) (FRel G F s)):DoesW G F s β T (((opt (o.map V.d) O).bind K).lift ρ) (VRel G F):=by
 cases o with
 | none=>trivial
 | some c=>exact (h c rfl).fin2 hK sr
theorem zn0{elts:List Expr}{pos:Pos}{r:R za (List V)}(hK:Fin2 K)(hl:∀ vs O,r=.ok vs O→vs.length≤line)
 (h1:Does G F A s β (spliced (backTo pos (starEach elts F.env))) (r.lift ρ) (VRsl G F)) :
 Does G F A s β (eval (.List elts pos) F.env) (((r.bind fun vs O=>opt ((allD vs).map fun xs=>V.d (.list xs)) O).bind K).lift ρ) (VRel G F):=by
 rw[R.bind_assoc]
 refine DoesW.seqE (T₂:=fun vs Q E s₁=>vs.length≤sizeLine∧Q (.ref s₁.heap.objs.size) { s₁ with heap:=s₁.heap.push { cls:=.type "list",data:=.seq vs.toArray } }) (fun Q E h=>wpAny_List h) h1 fun s' β' vs ds O' e st sr rv=>?_
 have hz:vs.length≤sizeLine:=by rw[rv.length];exact Nat.le_trans (hl _ _ e) (by decide)
 have:((allD ds).map fun xs=>V.d (.list xs))=((allD ds).map PyData.list).map V.d:=by rw[Option.map_map];rfl
 rw[this]
 refine g8 hK sr fun c hc=>?_
 cases hd:allD ds with
 | none=>rw[hd] at hc;cases hc
 | some xs=>
   rw[hd] at hc;cases hc
   exact LeafD.leaf sr fun Q E q=>⟨hz,q _ _ (KeepsAll.push s' _ s'.toks) ⟨zc4 sr rv hd,fun _ _=>⟨_,rfl,z7 s',_,Heap.get?_push_size _ rfl,rfl,rfl⟩⟩⟩
theorem zrg{op:Bop}{o:Operator}{x y:Expr}{p:Pos}{ra:R za V}{rb:za→R za V}(hK:Fin2 K)(ho:zez op o=true)
 (h1:Does G F A s β (eval x F.env) (ra.lift ρ) (VRel G F)) (h2:∀ s' β' O',SR G F β' ρ O' s'.heap→Does G F A s' β' (eval y F.env) ((rb O').lift ρ) (VRel G F)) :
 Does G F A s β (eval (.BinOp x o y p) F.env) (((ra.bind fun v O=>(rb O).bind fun u O=>opt (((look O v).bind fun x=>(look O u).bind fun y=>zbv op x y).map V.d) O).bind K).lift ρ) (VRel G F):=by
 rw[R.bind_assoc]
 refine DoesW.seqE (T₂:=fun v Q E s₁=>wpAny (model G.prog G.w) A (eval y F.env) (fun u s₂=>wpAny (model G.prog G.w) A (binaryOp o v u) Q E s₂) E s₁) (fun Q E h=>wpAny_BinOp h) h1 fun s' β' v d O' _ st sr rv=>?_
 rw[R.bind_assoc]
 refine DoesW.seqE (T₂:=fun u=>tr G A (binaryOp o v u)) (fun Q E h=>h) (h2 s' β' O' sr) fun s₂ β₂ u d₂ O₂ _ st₂ sr₂ ru=>?_
 exact g8 hK sr₂ fun c hc=>zm1 ho sr₂ (rv.step sr.br sr.fm st₂) ru hc
noncomputable def fvOf:Prim→Value
 | .isinst _ | .isexc _=>.builtin "isinstance"
 | .len | .lenset=>.builtin "len"
 | .all=>.builtin "all"
 | .any=>.builtin "any"
 | .sum=>.builtin "sum"
 | .sorted | .sortedset=>.builtin "sorted"
 | .list=>.type "list"
 | .tuple=>.type "tuple"
 | .min2 | .min=>.builtin "min"
 | .max=>.builtin "max"
 | .int=>.type "int"
 | .str=>.type "str"
theorem zkt(p:Prim):(wm p,fvOf p)∈bis:=by cases p <;> first | decide | exact (by decide:(("isinstance" : Str),Value.builtin "isinstance")∈bis)
theorem znb(p:Prim):(∃ id,fvOf p=.builtin id)∨∃ T,fvOf p=.type T:=by cases p <;> first | exact .inl ⟨_,rfl⟩ | exact .inr ⟨_,rfl⟩
end
section
variable{G:Gl}{F:Fm}{A:Around}{s:Shared}{β:List Addr}{ρ:Loc}{O:za}{cx:Cx}{gval:Nat→Option PyData}{gname:Nat→Option Str}{P:Pg}{K:V→za→R za V}
theorem zmo{p:Prim}{v:V}(hp:∀ c,p≠.isexc c):prim P p [v] O=opt (((look O v).bind fun x=>ui P p [x]).map V.d) O:=by
 have:prim P p [v] O=(match ([v].mapM (look O)).bind (ui P p) with | some y=>R.ok (V.d y) O | none=>.stuck):=by
  cases p <;> first | rfl | exact absurd rfl (hp _)
 rw[this]
 cases hl:look O v with
 | none=>simp[List.mapM_cons,hl,opt]
 | some x=>
   simp only[List.mapM_cons,List.mapM_nil,hl]
   show (match ui P p [x] with | some y=>R.ok (V.d y) O | none=>.stuck)=opt ((ui P p [x]).map V.d) O
   cases ui P p [x] <;> rfl
noncomputable def zbx(G:Gl)(P:Pg):Prop:=∀ (A:Around) (F:Fm) (s:Shared) (β:List Addr) (ρ:Loc) (O:za) (v:Value) (d:V) (xs ys:List PyData) (k:Nat),Room A k→SR G F β ρ O s.heap→VR G F.B β s.heap v d→look O d=some (.list xs)→xs.length < 64→P.srt xs=some ys →
 LeafD G F s β (tr G A (call (.builtin "sorted") [v])) (V.d (.list ys)) (FRel G F s)
noncomputable def zl1(G:Gl)(P:Pg):Prop:=P.sets=true→∀ (A:Around) (F:Fm) (s:Shared) (β:List Addr) (ρ:Loc) (O:za) (v:Value) (xs:List PyData) (is:List Int) (k:Nat),Room A k→A.handled=none→SR G F β ρ O s.heap→VR G F.B β s.heap v (.d (.tuple xs))→Mine.intsOf xs=some is→small is=true →
 LeafD G F s β (fun Q E s=>wpAny (model G.prog G.w) A (call (.type "set") [v]) (fun S s₁=>wpAny (model G.prog G.w) A (call (.builtin "len") [S]) Q E s₁) E s) (V.d (.int (w0 is).length)) (FRel G F s) ∧
 LeafD G F s β (fun Q E s=>wpAny (model G.prog G.w) A (call (.type "set") [v]) (fun S s₁=>wpAny (model G.prog G.w) A (call (.builtin "sorted") [S]) Q E s₁) E s) (V.d (.list ((w0 is).map .int))) (FRel G F s)
noncomputable def zl3(G:Gl)(z:Str)(v:Value):Prop:=G.mg z=some v∨(G.mg z=none∧G.mb z=some v)
structure zht(G:Gl)(P:Pg)(cname:Nat→Option Str):Prop where
 inst:∀ c z,cname c=some z→∃ cv,zl3 G z cv∧∀ (A:Around) (s:Shared) (x:Nat) (b:Bool) (e:Addr) (oe:Obj) (Q:Value→Shared→Prop) (E:Value→Shared→Prop),P.sub x c=some b→(∀ b o,G.h₀.get? b=some o→s.heap.get? b=some o) →
  s.heap.get? e=some oe→oe.cls=G.cls x→oe.dict=none→(∃ fs,oe.data=.fields fs)→(∀ s',KeepsAll s s'→Q (.bool b) s')→wpAny (model G.prog G.w) A (call (.builtin "isinstance") [.ref e,cv]) Q E s
 matches_:∀ c z,cname c=some z→∃ cv,zl3 G z cv∧∀ (A:Around) (s:Shared) (x:Nat) (b:Bool) (e:Addr) (oe:Obj) (Q:Bool→Shared→Prop) (E:Value→Shared→Prop),P.sub x c=some b→(∀ b o,G.h₀.get? b=some o→s.heap.get? b=some o) →
  s.heap.get? e=some oe→oe.cls=G.cls x→Q b s→wpAny (model G.prog G.w) A (excMatches (.ref e) cv) Q E s
 raise:∀ (c:Nat) (z:Str) (A:Around) (s:Shared) (env:Env) (x:Str) (y:Str) (np cpos pos yp:Pos) (yk:Nat) (Q:Flow→Shared→Prop) (E:Value→Shared→Prop),cname c=some z→c≠0→A.handled=none→(∀ b o,G.h₀.get? b=some o→s.heap.get? b=some o) →
  env.scope.kind=.function→env.globals=mainGlobals→env.kindOf z=some .globalImplicit→(z == ("__debug__" : Str))=false →
  (∀ h' tk e t oe,(∀ b o,s.heap.get? b=some o→h'.get? b=some o)→s.heap.get? e=none→h'.get? e=some oe→oe.cls=G.cls c→oe.dict=none→oe.data=.fields t→t[1]?=some .none→E (.ref e) { s with heap:=h',toks:=tk }) →
  wpAny (model G.prog G.w) A (exec (.Raise (some (.Call (.Name z np) [.Constant (.str y) yk yp] [] cpos)) none pos) env) Q E s
theorem q0{f:List PyData→Option PyData}{x y:PyData}(h:zdu f x=some y):∃ xs,x=.list xs∧f xs=some y:=by
 cases x <;> first | (cases h;done) | skip
 exact⟨_,rfl,h⟩
theorem zp3{p:Prim}{v:Value}{d:V}{x y:PyData}{k:Nat}(hp:p.plain=true)(hh:p.calm=true∨A.handled=none)(so:zbx G P)(ro:Room A k)(sr:SR G F β ρ O s.heap)(rv:VR G F.B β s.heap v d)(hx:look O d=some x)(e:za7 P p x=some y) :
 LeafD G F s β (tr G A (call (fvOf p) [v])) (V.d y) (FRel G F s):=by
 have hh':p.calm=false→A.handled=none:=fun h=>by
  rcases hh with hh | hh
  ·rw[h] at hh;cases hh
  ·exact hh
 cases p with
 | len=>
   cases x with
   | list xs=>obtain⟨h1,rfl⟩:=yz e;exact zf5 sr rv hx h1
   | tuple xs=>
     obtain⟨h1,rfl⟩:=yz e
     have:=ym hx (fun _ h=>by cases h);subst this
     exact zdy sr rv h1
   | _=>cases e
 | all=>
   obtain⟨xs,rfl,e⟩:=q0 e
   obtain⟨bs,hb,rfl⟩:=Option.map_eq_some_iff.mp e
   exact zsk (hh' rfl) sr rv hx hb
 | any=>
   obtain⟨xs,rfl,e⟩:=q0 e
   obtain⟨bs,hb,rfl⟩:=Option.map_eq_some_iff.mp e
   exact zsj (hh' rfl) sr rv hx hb
 | sum=>
   obtain⟨xs,rfl,e⟩:=q0 e
   obtain⟨bs,hb,rfl⟩:=Option.map_eq_some_iff.mp e
   exact l_sum (hh' rfl) sr rv hx hb
 | sorted=>
   obtain⟨xs,rfl,e⟩:=q0 e
   have e:(if xs.length < 64 then (P.srt xs).map PyData.list else none)=some y:=e
   by_cases hl:xs.length < 64
   ·rw[if_pos hl] at e
    obtain⟨ys,hs,rfl⟩:=Option.map_eq_some_iff.mp e
    exact so A F s β ρ O v d xs ys k ro sr rv hx hl hs
   ·rw[if_neg hl] at e;cases e
 | list=>
   cases x with
   | list xs=>obtain⟨h1,rfl⟩:=yz e;exact zkb sr rv hx rfl h1
   | tuple xs=>obtain⟨h1,rfl⟩:=yz e;exact zkb sr rv hx rfl h1
   | _=>cases e
 | tuple=>
   cases x with
   | list xs=>obtain⟨h1,rfl⟩:=yz e;exact zci sr rv hx h1
   | tuple xs=>
     cases e
     have:=ym hx (fun _ h=>by cases h);subst this
     exact zao sr rv
   | _=>cases e
 | int=>
   cases x with
   | bool b=>
     cases e
     have:=ym hx (fun _ h=>by cases h);subst this
     exact zf6 sr rv
   | _=>cases e
 | min=>cases e
 | max=>cases e
 | str=>cases e
 | isinst _=>cases hp
 | isexc _=>cases hp
 | min2=>cases hp
 | lenset=>cases hp
 | sortedset=>cases hp
set_option tactic.hygienic true in
theorem znz{p:Prim}{y:Expr}{ps q:Pos}{r:R za V}{k:Nat}(hK:Fin2 K)(hp:p.plain=true)(hh:p.calm=true∨A.handled=none)(so:zbx G P)(ro:Room A k)(g:GOk G gval gname)(sr:SR G F β ρ O s.heap)(fit:Fits F cx)(hx:cx.isGlob (wm p)=true)
 (he:starEach [y] F.env=(false,eval y F.env)::starEach [] F.env) (h1:Does G F A s β (eval y F.env) (r.lift ρ) (VRel G F)) :
 Does G F A s β (eval (.Call (.Name (wm p) ps) [y] [] q) F.env) ((((r.bind fun v O=>R.ok [v] O).bind fun vs O=>prim P p vs O).bind K).lift ρ) (VRel G F):=by
 rw[R.bind_assoc]
 refine w3 (r:=r.bind fun v O=>R.ok [v] O) g sr fit hx (zkt p) (znb p) he rfl (yq he h1 fun s' β' O' sr'=>xh sr') fun s' β' vals vs O' e st sr' rvs=>?_
 cases r with
 | stuck=>cases e
 | ok v O₁=>
   cases (e)
   cases rvs with
   | cons rv rs=>cases rs with
     | nil=>
       rename_i val
       have hpr:=zmo (P:=P) (v:=v) (O:=O') (p:=p) (fun c e=>by subst e;cases hp)
       rw[hpr]
       refine g8 hK sr' fun c hc=>?_
       cases hl:look O' v with
       | none=>rw[hl] at hc;cases hc
       | some x=>rw[hl] at hc;exact zp3 hp hh so ro sr' rv hl (show za7 P p x=some c from hc)
theorem zlm{t:Ty}{y:Expr}{ps pz q:Pos}{r:R za V}(g:GOk G gval gname)(sr:SR G F β ρ O s.heap)(fit:Fits F cx)(hx:cx.isGlob "isinstance" = true)(hz:cx.isGlob (vp t)=true)
 (he:∀ rest,starEach (y::rest) F.env=(false,eval y F.env)::starEach rest F.env) (h1:Does G F A s β (eval y F.env) (r.lift ρ) (VRel G F)) :
 Does G F A s β (eval (.Call (.Name "isinstance" ps) [y,.Name (vp t) pz] [] q) F.env) (((r.bind fun v O=>R.ok [v] O).bind fun vs O=>prim P (.isinst t) vs O).lift ρ) (VRel G F):=by
 obtain⟨b1,b2⟩:=g.bi _ (zkt (.isinst t))
 have e1:((r.bind fun v O=>R.ok [v] O).bind fun vs O=>prim P (.isinst t) vs O)=r.bind fun v O=>opt (((look O v).map fun x=>V.d (.bool (isTy t x)))) O:=by
  rw[R.bind_assoc]
  cases r with
  | ok v O₁=>
    show prim P (.isinst t) [v] O₁=opt (((look O₁ v).map fun x=>V.d (.bool (isTy t x)))) O₁
    unfold prim
    cases hl:look O₁ v with
    | none=>simp[List.mapM_cons,hl,opt]
    | some x=>simp[List.mapM_cons,hl,opt,ui,za7]
  | _=>rfl
 rw[e1]
 have hne:starEach [Expr.Name (vp t) pz] F.env=(false,eval (.Name (vp t) pz) F.env)::starEach [] F.env:=rfl
 obtain⟨c1,c2⟩:=g.bi _ (zo5 t)
 refine DoesW.seqE (T₂:=fun v Q E s₁=>wpAny (model G.prog G.w) A (eval (.Name (vp t) pz) F.env) (fun c s₂=>wpAny (model G.prog G.w) A (call (.builtin "isinstance") [v,c]) Q E s₂) E s₁)
  (fun Q E h=>Call_Name rfl (yo g sr fit hx b1 b2 (callWith_builtin1 (spliced_more (wpAny_mono h (fun v s₁ h₁=>spliced_more (wpAny_mono h₁ (fun c s₂ h₂=>spliced_none h₂) (fun _ _ x=>x)) hne) (fun _ _ x=>x)) (he _)) (he _) rfl))) h1 fun s' β' val v O' _ st sr' rv=>?_
 cases hl:look O' v with
 | none=>trivial
 | some x=>exact ((zkc sr' rv hl).does sr').weaken (fun Q E h=>yo g sr' fit hz c1 c2 h) fun _ _ _ _ r=>r.1
end
structure Run(G:Gl)(A:Around)(P:Pg)(fname gname cname:Nat→Option Str):Prop where
 g:GOk G P.gval gname
 ro:Room A 0
 hm:P.hd=false→A.handled=none
 ck:∀ A' hd,Like A A'→(hd=false→A'.handled=none)→ud G A' fname (P.call hd)
 so:zbx G P
 se:zl1 G P
 cl:zht G P cname
noncomputable def zjy:Expr→Bool
 | .Set _ _ _=>false
 | .Starred _ _=>false
 | .Slice _ _ _ _=>false
 | _=>true
noncomputable def PX(e:Expr):Prop:=zjy e=true
theorem PX.star{e:Expr}(h:PX e){env:Env}{rest:List Expr}:starEach (e::rest) env=(false,eval e env)::starEach rest env:=by
 cases e <;> first | rfl | cases h
theorem PX.set{e:Expr}(h:PX e):∀ l k p,e≠.Set l k p:=fun _ _ _ q=>by subst q;cases h
theorem PX.slice{e:Expr}(h:PX e):∀ l u t p,e≠.Slice l u t p:=fun _ _ _ _ q=>by subst q;cases h
theorem zja(ra:R za V)(rb:za→R za V):tv (ra.bind fun v O=>(opt (truth v) O).bind (andK rb))=(tv ra).bind fun t O=>(match t with | true=>tv (rb O) | false=>R.ok false O):=by
 cases ra with
 | ok v O=>
   show tv ((opt (truth v) O).bind (andK rb))=(opt (truth v) O).bind _
   cases truth v with
   | none=>rfl
   | some b=>cases b <;> rfl
 | _=>rfl
theorem zoe(ra:R za V)(rb:za→R za V):tv (ra.bind fun v O=>(opt (truth v) O).bind (orK rb))=(tv ra).bind fun t O=>(match t with | true=>R.ok true O | false=>tv (rb O)):=by
 cases ra with
 | ok v O=>
   show tv ((opt (truth v) O).bind (orK rb))=(opt (truth v) O).bind _
   cases truth v with
   | none=>rfl
   | some b=>cases b <;> rfl
 | _=>rfl
theorem zhn(r:R za Bool):(r.bind fun t O=>(match t with | true=>R.ok true O | false=>R.ok false O))=r:=by
 cases r with
 | ok t O=>cases t <;> rfl
 | _=>rfl
section
variable{G:Gl}{F:Fm}{A:Around}{s:Shared}{β:List Addr}{ρ:Loc}{O:za}
end
noncomputable def CEs.len:CEs→Nat
 | .nil=>0
 | .cons _ es=>es.len+1
theorem zeb{P:Pg}{ρ:Loc}:∀ (es:CEs) (O:za) (vs:List V) (O':za),evEs P ρ es O=.ok vs O'→vs.length=es.len
 | .nil,O,vs,O',h=>by cases h;rfl
 | .cons e es,O,vs,O',h=>by
   unfold evEs at h
   cases he:evE P ρ e O with
   | stuck=>rw[he] at h;cases h
   | ok v O₁=>
     rw[he] at h
     cases hes:evEs P ρ es O₁ with
     | stuck=>simp only[R.bind,hes] at h;cases h
     | ok ws O₂=>
       simp only[R.bind,hes] at h
       cases h
       exact congrArg (· + 1) (zeb es O₁ ws _ hes)
set_option tactic.hygienic true in
theorem zji{v:V}{O O':za}{src:Src}(h:srcV v O=.ok src O'):src.Has O':=by
 unfold srcV at h
 split at h
 ·rename_i x
  cases hi:items x with
  | none=>rw[hi] at h;cases h
  | some xs=>rw[hi] at h;cases h;trivial
 ·split at h
  ·cases h;assumption
  ·cases h
 ·cases h
theorem qo{α β:Type}{r:R za α}{f:α→za→R za β}{b:β}{O:za}(h:r.bind f=.ok b O):∃ a O₁,r=.ok a O₁∧f a O₁=.ok b O:=by
 cases r with
 | ok a O₁=>exact⟨a,O₁,rfl,h⟩
 | _=>cases h
section
variable{G:Gl}{F:Fm}{A:Around}{s:Shared}{β:List Addr}{ρ:Loc}{O:za}{cx:Cx}{gval:Nat→Option PyData}{gname:Nat→Option Str}{K:V→za→R za V}
set_option tactic.hygienic true in
theorem zeq{y:Expr}{p q:Pos}{r:R za (Int×Int)}(hK:Fin2 K)(g:GOk G gval gname)(hh:A.handled=none)(sr:SR G F β ρ O s.heap)(fit:Fits F cx)(hx:cx.isGlob "list" = true)(he:starEach [y] F.env=(false,eval y F.env)::starEach [] F.env)
 (hs:∀ p O',r=.ok p O'→zby p) (h1:Does G F A s β (eval y F.env) (r.lift ρ) (RRel s)) :
 Does G F A s β (eval (.Call (.Name "list" p) [y] [] q) F.env) (((r.bind fun p O=>if (zj p.1 p.2).length≤line then R.ok (V.d (.list (zj p.1 p.2))) O else .stuck).bind K).lift ρ) (VRel G F):=by
 obtain ⟨b1,b2⟩:=g.bi ("list",.type "list") (by decide)
 rw[R.bind_assoc]
 refine DoesW.seqE (T₂:=fun v=>tr G A (call (.type "list") [v])) (fun Q E h=>Call_Name rfl (yo g sr fit hx b1 b2 (callWith_type1 (spliced_more (wpAny_mono h (fun v s₁ h₁=>spliced_none h₁) (fun _ _ x=>x)) he) he rfl))) h1 fun s' β' v d O' e st sr' rv=>?_
 obtain⟨rr,t,u,w,rfl,hr⟩:=rv
 obtain⟨p1,p2,p3,p4⟩:=hs _ _ e
 split
 ·rename_i hlen
  refine LeafD.fin2 (c:=.list (zj d.1 d.2)) hK sr' (LeafD.leaf sr' fun Q E k=>call_list_range (n:=(d.2 - d.1).toNat) hh hr (small_one (by omega) (by omega) (by omega) (by omega)) wl ?_ fun h' tk acc' c' hk hS hacc=>?_)
  ·have:(zj d.1 d.2).length=(d.2 - d.1).toNat:=by unfold zj;simp
   rw[this] at hlen
   exact Nat.le_trans hlen (by decide)
  ·have hra:∃ as,ReadsAll h' acc'.toList (zj d.1 d.2) as∧∀ a∈as,a∉β'∧a∉F.B:=by
    refine⟨[],?_,fun _ h=>nomatch h⟩
    obtain⟨hsz,hit⟩:=hacc
    have key:∀ (l:List Value) (xs:List PyData),l.length=xs.length→(∀ (i:Nat) (h:i < l.length) (h2:i < xs.length),∃ t n,l[i]=.int n t∧xs[i]=.int n)→ReadsAll h' l xs []:=by
     intro l
     induction l with
     | nil=>intro xs hl _;cases xs with
       | nil=>exact .nil
       | cons _ _=>cases hl
     | cons v l ih=>
       intro xs hl hx
       cases xs with
       | nil=>cases hl
       | cons x xs=>
         obtain ⟨t,n,e1,e2⟩:=hx 0 (by simp) (by simp)
         have e1:v=.int n t:=e1
         have e2:x=.int n:=e2
         subst e1;subst e2
         refine ReadsAll.cons (as:=[]) (bs:=[]) (.int n t) (ih xs (by simpa using hl) fun i h h2=>?_)
         exact hx (i+1) (by simpa using h) (by simpa using h2)
    refine key _ _ ?_ fun i h h2=>?_
    ·rw[Array.length_toList,hsz];unfold zj;simp
    ·obtain⟨t,ht⟩:=hit i acc'.toList[i] (by rw[← Array.getElem?_toList];exact List.getElem?_eq_getElem h)
     refine⟨t,_,ht,?_⟩
     have hlen':(zj d.1 d.2).length=(d.2 - d.1).toNat:=by unfold zj;simp
     have e9:(zj d.1 d.2)[i]?=some (.int (d.1+i)):=by
      unfold zj
      rw[List.getElem?_map,List.getElem?_range (by rw[← hlen'];exact h2)];rfl
     rw[List.getElem?_eq_getElem h2] at e9
     rw[Option.some.inj e9,Int.mul_one]
   obtain⟨as,r1,q1⟩:=hra
   exact k _ _ (xf hk) ⟨xe hS rfl rfl r1 q1 sr'.size_new,fun _ _=>⟨_,rfl,z7 s',_,hS,rfl,rfl⟩⟩
 ·trivial
end
structure Here(G:Gl)(A:Around)(P:Pg)(F:Fm)(cx:Cx):Prop where
 run:Run G A P cx.fname cx.gname cx.cname
 fit:Fits F cx
 fr:FrA A F
structure zl5(G:Gl)(A:Around)(P:Pg)(F:Fm)(cx:Cx):Prop extends Here G A P F cx where
 top:TopA A F
 own:∀ x,ownOf cx.sc x=true→F.own x=true
structure JK(cx:Cx)(x:Expr)(c:CE):Prop where
 px:PX x
 d:∀ {G:Gl} {A:Around} {P:Pg} {F:Fm} {s:Shared} {β:List Addr} {ρ:Loc} {O:za} {K:V→za→R za V},Here G A P F cx→SR G F β ρ O s.heap→Fin2 K→Does G F A s β (eval x F.env) (((evE P ρ c O).bind K).lift ρ) (VRel G F)
structure JE(cx:Cx)(x:Expr)(c:CE):Prop where
 px:PX x
 d:∀ {G:Gl} {A:Around} {P:Pg} {F:Fm} {s:Shared} {β:List Addr} {ρ:Loc} {O:za},Here G A P F cx→SR G F β ρ O s.heap→Does G F A s β (eval x F.env) ((evE P ρ c O).lift ρ) (VRel G F)
structure JT(cx:Cx)(x:Expr)(c:CE):Prop where
 d:∀ {G:Gl} {A:Around} {P:Pg} {F:Fm} {s:Shared} {β:List Addr} {ρ:Loc} {O:za},Here G A P F cx→SR G F β ρ O s.heap→Does G F A s β (isTrue x F.env (eval x F.env)) ((tv (evE P ρ c O)).lift ρ) BRel
structure JEs(cx:Cx)(l:List Expr)(es:CEs):Prop where
 d:∀ {G:Gl} {A:Around} {P:Pg} {F:Fm} {s:Shared} {β:List Addr} {ρ:Loc} {O:za} {pos:Pos},Here G A P F cx→SR G F β ρ O s.heap→Does G F A s β (spliced (backTo pos (starEach l F.env))) ((evEs P ρ es O).lift ρ) (VRsl G F)
structure JIfs(cx:Cx)(l:List Expr)(es:CEs):Prop where
 d:∀ {G:Gl} {A:Around} {P:Pg} {F:Fm} {s:Shared} {β:List Addr} {ρ:Loc} {O:za},Here G A P F cx→SR G F β ρ O s.heap→Does G F A s β (xa l F.env) ((xo P ρ es O).lift ρ) BRel
structure JI(cx:Cx)(x:Expr)(it:CI):Prop where
 px:PX x
 d:∀ {G:Gl} {A:Around} {P:Pg} {F:Fm} {s:Shared} {β:List Addr} {ρ:Loc} {O:za} {target:Expr},A.handled=none→Here G A P F cx→SR G F β ρ O s.heap→DoesW G F s β (zbg G A x F.env) ((evI P ρ it O).lift ρ) (IRel G F A target s)
 has:∀ {P:Pg} {ρ:Loc} {O O':za} {src:Src},evI P ρ it O=.ok src O'→src.Has O'
structure JR(cx:Cx)(x:Expr)(a b:CE):Prop where
 px:PX x
 d:∀ {G:Gl} {A:Around} {P:Pg} {F:Fm} {s:Shared} {β:List Addr} {ρ:Loc} {O:za},Here G A P F cx→SR G F β ρ O s.heap→Does G F A s β (eval x F.env) ((rng a b P ρ O).lift ρ) (RRel s)
structure JS(cx:Cx)(st:Stmt)(c:CS):Prop where
 d:∀ {G:Gl} {A:Around} {P:Pg} {F:Fm} {s:Shared} {β:List Addr} {ρ:Loc} {O:za},zl5 G A P F cx→SR G F β ρ O s.heap→Does G F A s β (exec st F.env) (evS P c ρ O) (yw G F)
structure JSs(cx:Cx)(l:List Stmt)(c:CSs):Prop where
 d:∀ {G:Gl} {A:Around} {P:Pg} {F:Fm} {s:Shared} {β:List Addr} {ρ:Loc} {O:za},zl5 G A P F cx→SR G F β ρ O s.heap→Does G F A s β (execs l F.env) (evSs P c ρ O) (yw G F)
section
variable{cx:Cx}{x y z u:Expr}{a b c:CE}{p q ps pz:Pos}
theorem JK.e(h:JK cx x c):JE cx x c:=⟨h.px,fun hr sr=>by have:=h.d hr sr .plain;rwa [R.bind_ok] at this⟩
theorem zm5(h:JK cx x c):JE cx x (.boxed c):=⟨h.px,fun hr sr=>h.d hr sr .box⟩
theorem zp8{k:Nat}:JE cx (.Constant .none k p) .none:=⟨rfl,fun {G A P F s β ρ O} hr sr=>Does.leaf sr fun Q E q=>wpAny_Constant_none (q _ _ (KeepsAll.refl s) VR.none)⟩
theorem zqg{k:Nat}{v:Bool}:JE cx (.Constant (.bool v) k p) (.bool v):=⟨rfl,fun {G A P F s β ρ O} hr sr=>Does.leaf sr fun Q E q=>wpAny_Constant_bool (q _ _ (KeepsAll.refl s) VR.bool)⟩
theorem zss{k:Nat}{v:Int}:JE cx (.Constant (.int v) k p) (.int v):=⟨rfl,fun {G A P F s β ρ O} hr sr=>Does.leaf sr fun Q E q=>wpAny_Constant_int (q _ _ (KeepsAll.toks s _) VR.int)⟩
theorem zso{k:Nat}{v:Str}:JE cx (.Constant (.str v) k p) (.str v):=⟨rfl,fun {G A P F s β ρ O} hr sr=>Does.leaf sr fun Q E q=>wpAny_Constant_str (q _ _ (KeepsAll.toks s _) VR.str)⟩
theorem zsq{i:Nat}{n:Str}(h:cx.isLoc i n=true):JE cx (.Name n p) (.loc i):=⟨rfl,fun hr sr=>ztb sr hr.fit h⟩
theorem zqd{k:Nat}{n:Str}(h:(cx.gname k == some n && cx.isGlob n)=true):JE cx (.Name n p) (.glob k):=⟨rfl,fun hr sr=>zq9 hr.run.g sr hr.fit (beq_iff_eq.mp (and2 h).1) (and2 h).2⟩
theorem zj8{es:CEs}(hl:Nat.ble es.len 1000=true){P:Pg}{ρ:Loc}{O:za}(vs:List V)(O':za)(e:evEs P ρ es O=.ok vs O'):vs.length≤line:=by
 rw[zeb es O vs O' e];exact Nat.le_trans (Nat.le_of_ble_eq_true hl) (by decide)
theorem zsn{l:List Expr}{es:CEs}{k:Nat}(h:JEs cx l es)(hl:Nat.ble es.len 1000=true):JE cx (.Tuple l k p) (.tup es):=⟨rfl,fun hr sr=>zs7 (zj8 hl) (h.d hr sr)⟩
theorem zp2{l:List Expr}{es:CEs}(h:JEs cx l es)(hl:Nat.ble es.len 1000=true):JK cx (.List l p) (.list es):=⟨rfl,fun hr sr k=>zn0 k (zj8 hl) (h.d hr sr)⟩
theorem zsp(h:JE cx x a):JE cx (.UnaryOp .USub x p) (.neg a):=⟨rfl,fun hr sr=>zs9 (h.d hr sr)⟩
theorem j_nt(h:JE cx x a):JE cx (.UnaryOp .Not x p) (.nt a):=⟨rfl,fun hr sr=>d_nt (h.d hr sr)⟩
theorem zqi(h1:JE cx x a)(h2:JE cx y b):JE cx (.BoolOp .And [x,y] p) (.and_ a b):=⟨rfl,fun {G A P F s β ρ O} hr sr=>zot (rb:=fun O=>evE P ρ b O) (h1.d hr sr) fun s' β' O' sr'=>h2.d hr sr'⟩
theorem zqh{r:List Expr}(h1:JE cx x a)(h2:JE cx (.BoolOp .And (y::z::r) p) b):JE cx (.BoolOp .And (x::y::z::r) p) (.and_ a b):=⟨rfl,fun {G A P F s β ρ O} hr sr=>zot (rb:=fun O=>evE P ρ b O) (h1.d hr sr) fun s' β' O' sr'=>h2.d hr sr'⟩
theorem zsc{op:Bop}{o:Operator}(h1:JE cx x a)(h2:JE cx y b)(ho:zez op o=true):JK cx (.BinOp x o y p) (.bin op a b):=⟨rfl,fun {G A P F s β ρ O K} hr sr k=>zrg (rb:=fun O=>evE P ρ b O) k ho (h1.d hr sr) fun s' β' O' sr'=>h2.d hr sr'⟩
theorem zsu{op:Cop}{o:CmpOp}(h1:JE cx x a)(h2:JE cx y b)(ho:x0 op o=true):JE cx (.Compare x [o] [y] p) (.cmp op a b):=⟨rfl,fun {G A P F s β ρ O} hr sr=>ztf (rb:=fun O=>evE P ρ b O) hr.run.ro ho h2.px.set (h1.d hr sr) fun s' β' O' sr'=>h2.d hr sr'⟩
theorem zm4{op1 op2:Cop}{o1 o2:CmpOp}(h1:JE cx x a)(h2:JE cx y b)(h3:JE cx z c)(ho:x0 op1 o1=true)(ho2:x0 op2 o2=true):JE cx (.Compare x [o1,o2] [y,z] p) (.chain op1 op2 a b c):=
 ⟨rfl,fun {G A P F s β ρ O} hr sr=>zn1 (rb:=fun O=>evE P ρ b O) (rc:=fun O=>evE P ρ c O) hr.run.ro ho ho2 h2.px.set h3.px.set (h1.d hr sr) (fun s' β' O' sr'=>h2.d hr sr') fun s' β' O' sr'=>h3.d hr sr'⟩
theorem zsr(h1:JT cx x a)(h2:JE cx y b)(h3:JE cx z c):JE cx (.IfExp x y z p) (.ite a b c):=
 ⟨rfl,fun {G A P F s β ρ O} hr sr=>ztc (ra:=fun O=>evE P ρ b O) (rb:=fun O=>evE P ρ c O) (h1.d hr sr) (fun s' β' O' sr'=>h2.d hr sr') fun s' β' O' sr'=>h3.d hr sr'⟩
theorem zst(h1:JE cx x a)(h2:JE cx y b):JE cx (.Subscript x y p) (.idx a b):=⟨rfl,fun {G A P F s β ρ O} hr sr=>zte (rb:=fun O=>evE P ρ b O) hr.run.ro h2.px.slice (h1.d hr sr) fun s' β' O' sr'=>h2.d hr sr'⟩
structure JP(cx:Cx)(o:Option Expr)(c:CE):Prop where
 d:∀ {G:Gl} {A:Around} {P:Pg} {F:Fm} {s:Shared} {β:List Addr} {ρ:Loc} {O:za},Here G A P F cx→SR G F β ρ O s.heap→Does G F A s β (evalPart o F.env) ((evE P ρ c O).lift ρ) (VRel G F)
theorem zpz:JP cx none .none:=⟨fun hr sr=>zep sr⟩
theorem zpy(h:JE cx x c):JP cx (some x) c:=⟨fun hr sr=>h.d hr sr⟩
theorem zm3{lo hi:Option Expr}(h1:JE cx x a)(h2:JP cx lo b)(h3:JP cx hi c):JE cx (.Subscript x (.Slice lo hi none ps) p) (.slice a b c):=
 ⟨rfl,fun {G A P F s β ρ O} hr sr=>znw (rl:=fun O=>evE P ρ b O) (rh:=fun O=>evE P ρ c O) (h1.d hr sr) (fun s' β' O' sr'=>h2.d hr sr') fun s' β' O' sr'=>h3.d hr sr'⟩
theorem Here.inner{G:Gl}{A:Around}{P:Pg}{F:Fm}{tgt:CT}{t:Expr}{scope:Scope}(hr:Here G A P F cx)(hk:F.env.scope.kind=.function)(h1:xb scope cx.sc=true)(C D:Addr):Here G A P (zl cx F tgt t scope C D) (cx.inner tgt t scope):=
 ⟨hr.run,dj hr.fit hk h1 C D,hr.fr⟩
theorem zj3{t:Expr}{fs:List Expr}{scope:Scope}{tgt:CT}{it:CI}{ifs:CEs}(hi:JI cx y it)(hf:JIfs (cx.inner tgt t scope) fs ifs)(hx:JE (cx.inner tgt t scope) x c)
 (hc:(xb scope cx.sc && xg (cx.inner tgt t scope).names && chkT (cx.inner tgt t scope) (ownOf scope) tgt t)=true):JK cx (.ListComp x [⟨t,y,fs,0⟩] scope p) (.comp c tgt it ifs):=
 ⟨rfl,fun {G A P F s β ρ O K} hr sr k=>by
   obtain⟨h1,h2,h3⟩:=and3 hc
   show Does G F A s β _ (R.lift ρ ((if P.hd=true then .stuck else _:R za V).bind K)) _
   by_cases hd:P.hd=true
   ·rw[if_pos hd];trivial
   rw[if_neg hd]
   have hh:=hr.run.hm (Bool.eq_false_iff.mpr hd)
   exact zrd (r:=evI P ρ it O) (evT:=fun ρ O=>xo P ρ ifs O) (evX:=fun ρ O=>evE P ρ c O) hr.run.g hh hr.fit h1 h2 h3 hi.px.set (fun C D s' β' ρ' O' sr'=>hf.d (hr.inner sr.fm.kind h1 C D) sr') (fun C D s' β' ρ' O' sr'=>hx.d (hr.inner sr.fm.kind h1 C D) sr') sr (hi.d hh hr sr) (fun _ _ e=>hi.has e) k⟩
theorem za5{P:Pg}{ρ:Loc}{O O':za}{pr:Int×Int}(h:rng a b P ρ O=.ok pr O'):zby pr:=by
 obtain⟨v,O₁,_,h⟩:=qo h
 obtain⟨w,O₂,_,h⟩:=qo h
 exact (zcc h).1
theorem zr2(h:JE cx y b)(hg:cx.isGlob "range" = true):JR cx (.Call (.Name "range" ps) [y] [] q) (.int 0) b:=⟨rfl,fun hr sr=>zli hr.run.g sr hr.fit hg rfl h.px.star (h.d hr sr)⟩
theorem zr1(h1:JE cx x a)(h2:JE cx y b)(hg:cx.isGlob "range" = true):JR cx (.Call (.Name "range" ps) [x,y] [] q) a b:=⟨rfl,fun {G A P F s β ρ O} hr sr=>zlh (rb:=fun O=>evE P ρ b O) hr.run.g sr hr.fit hg rfl h1.px.star h2.px.star (h1.d hr sr) fun s' β' O' sr'=>h2.d hr sr'⟩
theorem zna(h:JR cx x a b):JI cx x (.range a b):=⟨h.px,fun hh hr sr=>zcw hr.run.g hh (fun _ _ e=>za5 e) (h.d hr sr),fun e=>by obtain⟨_,_,_,e⟩:=qo e;cases e;trivial⟩
theorem i_e(h:JE cx x a):JI cx x (.e a):=⟨h.px,fun hh hr sr=>zll hr.run.g hh (h.d hr sr),fun e=>by obtain⟨_,_,_,e⟩:=qo e;exact zji e⟩
theorem zmx(h:JR cx y a b)(hg:cx.isGlob "list" = true):JK cx (.Call (.Name "list" ps) [y] [] q) (.listI (.range a b)):=
 ⟨rfl,fun {G A P F s β ρ O K} hr sr k=>by
   show Does G F A s β _ (R.lift ρ ((if P.hd=true then .stuck else _:R za V).bind K)) _
   by_cases hd:P.hd=true
   ·rw[if_pos hd];trivial
   rw[if_neg hd]
   have e1:((evI P ρ (.range a b) O).bind fun src O=>if src.xs.length≤line then R.ok (V.d (.list src.xs)) O else .stuck)=(rng a b P ρ O).bind fun p O=>if (zj p.1 p.2).length≤line then R.ok (V.d (.list (zj p.1 p.2))) O else .stuck:=R.bind_assoc _ _ _
   rw[e1]
   exact zeq k hr.run.g (hr.run.hm (Bool.eq_false_iff.mpr hd)) sr hr.fit hg h.px.star (fun _ _ e=>za5 e) (h.d hr sr)⟩
theorem zqf{f:Nat}{n:Str}{l:List Expr}{es:CEs}(h:JEs cx (x::l) es)(hx:zjy x=true)(hf:(cx.fname f == some n && cx.isGlob n)=true):JE cx (.Call (.Name n p) (x::l) [] q) (.call f es):=
 ⟨rfl,fun {G A P F s β ρ O} hr sr=>zrf (fname:=cx.fname) hr.run.g (hr.run.ck A P.hd (Like.refl A) hr.run.hm) hr.fr sr hr.fit (beq_iff_eq.mp (and2 hf).1) (and2 hf).2 (PX.star hx) (h.d hr sr)⟩
theorem zp0{P:Pg}{ρ:Loc}{O:za}:evEs P ρ (.cons a .nil) O=(evE P ρ a O).bind fun v O=>R.ok [v] O:=rfl
theorem zn4{G:Gl}{A:Around}{P:Pg}{f g h:Nat→Option Str}{pr:Prim}(run:Run G A P f g h)(hd:¬(P.hd && !pr.calm)=true):pr.calm=true∨A.handled=none:=by
 cases hc:pr.calm with
 | true=>exact .inl rfl
 | false=>
   rw[hc] at hd
   exact .inr (run.hm (by cases hh:P.hd with | false=>rfl | true=>rw[hh] at hd;exact absurd rfl hd))
theorem zmw{pr:Prim}{n:Str}(h:JE cx y a)(hp:(n == wm pr && pr.plain && cx.isGlob n)=true):JK cx (.Call (.Name n ps) [y] [] q) (.prim pr (.cons a .nil)):=
 ⟨rfl,fun {G A P F s β ρ O K} hr sr k=>by
   obtain⟨h1,h2,h3⟩:=and3 hp
   have:=beq_iff_eq.mp h1;subst this
   show Does G F A s β _ (R.lift ρ ((if (P.hd && !pr.calm)=true then .stuck else _:R za V).bind K)) _
   by_cases hd:(P.hd && !pr.calm)=true
   ·rw[if_pos hd];trivial
   rw[if_neg hd]
   exact znz k h2 (zn4 hr.run hd) hr.run.so hr.run.ro hr.run.g sr hr.fit h3 h.px.star (h.d hr sr)⟩
theorem zkk{t:Ty}{n:Str}(h:JE cx y a)(hp:(n == vp t && cx.isGlob "isinstance" && cx.isGlob n)=true):JE cx (.Call (.Name "isinstance" ps) [y,.Name n pz] [] q) (.prim (.isinst t) (.cons a .nil)):=
 ⟨rfl,fun {G A P F s β ρ O} hr sr=>by
   obtain⟨h1,h2,h3⟩:=and3 hp
   have:=beq_iff_eq.mp h1;subst this
   have hd:(P.hd && !(Prim.isinst t).calm)=false:=by cases P.hd <;> rfl
   show Does G F A s β _ (R.lift ρ (if (P.hd && !(Prim.isinst t).calm)=true then .stuck else _:R za V)) _
   rw[hd,if_neg (by decide)]
   exact zlm hr.run.g sr hr.fit h2 h3 (fun rest=>h.px.star) (h.d hr sr)⟩
theorem zkl(h1:JE cx x a)(h2:JE cx y b)(hm:zcg x p q=true):JE cx (.Call (.Attribute x "append" p) [y] [] q) (.meth .append a (.cons b .nil)):=
 ⟨rfl,fun {G A P F s β ρ O} hr sr=>by
   have e1:∀ (v:V) (O:za),((evEs P ρ (.cons b .nil) O).bind fun vs O=>meth .append v vs O)=(evE P ρ b O).bind fun u O=>meth .append v [u] O:=fun v O=>by
    rw[zp0,R.bind_assoc];cases evE P ρ b O <;> rfl
   have e2:evE P ρ (.meth .append a (.cons b .nil)) O=(evE P ρ a O).bind fun v O=>if recv .append v O=true then (evE P ρ b O).bind fun u O=>meth .append v [u] O else .stuck:=by
    show ((evE P ρ a O).bind fun v O=>if recv .append v O=true then (evEs P ρ (.cons b .nil) O).bind fun vs O=>meth .append v vs O else .stuck)=_
    simp only[e1]
   rw[e2]
   exact zln (rb:=fun O=>evE P ρ b O) hm h2.px.star (h1.d hr sr) fun s' β' O' sr'=>h2.d hr sr'⟩
theorem zqs:JEs cx [] .nil:=⟨fun hr sr=>xh sr⟩
theorem znf{l:List Expr}{es:CEs}(h1:JE cx x a)(h2:JEs cx l es):JEs cx (x::l) (.cons a es):=⟨fun {G A P F s β ρ O pos} hr sr=>yq (g:=fun O=>evEs P ρ es O) h1.px.star (h1.d hr sr) fun s' β' O' sr'=>h2.d hr sr'⟩
theorem zm8:JIfs cx [] .nil:=⟨fun hr sr=>zen sr⟩
theorem zkq{l:List Expr}{es:CEs}(h1:JT cx x a)(h2:JIfs cx l es):JIfs cx (x::l) (.cons a es):=⟨fun {G A P F s β ρ O} hr sr=>by
 have:=zcv (rb:=fun O=>xo P ρ es O) (h1.d hr sr) fun s' β' O' sr'=>h2.d hr sr'
 unfold tv at this
 rw[R.bind_assoc] at this
 exact this⟩
noncomputable def zof:Expr→Bool
 | .UnaryOp o _ _=>(match o with
    | .Not=>true
    | _=>false)
 | .BoolOp _ _ _=>true
 | .IfExp _ _ _ _=>true
 | .Compare _ _ _ _=>true
 | _=>false
theorem isTrue_plain{e:Expr}{env:Env}(h:zof e=false):isTrue e env (eval e env)=(do let v ← eval e env;standAt e.pos;holding [v] (truthy v)):=by
 cases e with
 | UnaryOp o x p=>cases o <;> first | rfl | cases h
 | BoolOp o l p=>cases h
 | IfExp a b c p=>cases h
 | Compare a b c p=>cases h
 | _=>rfl
theorem zmf(h:JE cx x c)(ht:zof x=false):JT cx x c:=⟨fun hr sr=>zme (isTrue_plain ht) (h.d hr sr)⟩
theorem zrr(h:JT cx x a):JT cx (.UnaryOp .Not x p) (.nt a):=⟨fun hr sr=>zrt (h.d hr sr)⟩
theorem q8{G:Gl}{F:Fm}{A:Around}{s:Shared}{β:List Addr}{ρ:Loc}{t:Sem Bool}{r r':R za Bool}(e:r=r')(h:Does G F A s β t (r'.lift ρ) BRel):Does G F A s β t (r.lift ρ) BRel:=e ▸ h
theorem zmb(h1:JT cx x a)(h2:JT cx y b):JT cx (.BoolOp .And [x,y] p) (.and_ a b):=⟨fun {G A P F s β ρ O} hr sr=>
 q8 (zja (evE P ρ a O) fun O=>evE P ρ b O) (w8 (rb:=fun O=>tv (evE P ρ b O)) (h1.d hr sr) fun s' β' O' sr'=>
  q8 (zhn (tv (evE P ρ b O'))).symm (w8 (rb:=fun O=>R.ok true O) (h2.d hr sr') fun s'' β'' O'' sr''=>za1 (op:=.And) sr''))⟩
theorem zma{r:List Expr}(h1:JT cx x a)(h2:JT cx (.BoolOp .And (y::z::r) p) b):JT cx (.BoolOp .And (x::y::z::r) p) (.and_ a b):=⟨fun {G A P F s β ρ O} hr sr=>
 q8 (zja (evE P ρ a O) fun O=>evE P ρ b O) (w8 (rb:=fun O=>tv (evE P ρ b O)) (h1.d hr sr) fun s' β' O' sr'=>h2.d hr sr')⟩
theorem zo7(h1:JT cx x a)(h2:JT cx y b):JT cx (.BoolOp .Or [x,y] p) (.or_ a b):=⟨fun {G A P F s β ρ O} hr sr=>
 q8 (zoe (evE P ρ a O) fun O=>evE P ρ b O) (gi (rb:=fun O=>tv (evE P ρ b O)) (h1.d hr sr) fun s' β' O' sr'=>
  q8 (zhn (tv (evE P ρ b O'))).symm (gi (rb:=fun O=>R.ok false O) (h2.d hr sr') fun s'' β'' O'' sr''=>za1 (op:=.Or) sr''))⟩
theorem zo6{r:List Expr}(h1:JT cx x a)(h2:JT cx (.BoolOp .Or (y::z::r) p) b):JT cx (.BoolOp .Or (x::y::z::r) p) (.or_ a b):=⟨fun {G A P F s β ρ O} hr sr=>
 q8 (zoe (evE P ρ a O) fun O=>evE P ρ b O) (gi (rb:=fun O=>tv (evE P ρ b O)) (h1.d hr sr) fun s' β' O' sr'=>h2.d hr sr')⟩
theorem zo8{op:Cop}{o:CmpOp}(h1:JE cx x a)(h2:JE cx y b)(ho:x0 op o=true):JT cx (.Compare x [o] [y] p) (.cmp op a b):=⟨fun {G A P F s β ρ O} hr sr=>zru (rb:=fun O=>evE P ρ b O) hr.run.ro ho h2.px.set (h1.d hr sr) fun s' β' O' sr'=>h2.d hr sr'⟩
theorem zje{op1 op2:Cop}{o1 o2:CmpOp}(h1:JE cx x a)(h2:JE cx y b)(h3:JE cx z c)(ho:x0 op1 o1=true)(ho2:x0 op2 o2=true):JT cx (.Compare x [o1,o2] [y,z] p) (.chain op1 op2 a b c):=⟨fun {G A P F s β ρ O} hr sr=>
 zmg (rb:=fun O=>evE P ρ b O) (rc:=fun O=>evE P ρ c O) hr.run.ro ho ho2 h2.px.set h3.px.set (h1.d hr sr) (fun s' β' O' sr'=>h2.d hr sr') fun s' β' O' sr'=>h3.d hr sr'⟩
end
section
variable{cx:Cx}{x y z u:Expr}{a b c:CE}{p q ps pz:Pos}
theorem zrw(h:JE cx x a):JS cx (.Return (some x) p) (.ret a):=⟨fun hr sr=>zs8 (h.d hr.toHere sr)⟩
noncomputable def noCompX:Expr→Bool
 | .ListComp _ _ _ _=>false
 | .SetComp _ _ _ _=>false
 | .DictComp _ _ _ _ _=>false
 | _=>true
theorem noCompX.swaps{e:Expr}(h:noCompX e=true)(t:Option Expr)(n:Nat)(env:Env):swapsWith e t n env=pure false:=
 zc7 (fun _ _ _ _ q=>by subst q;cases h) (fun _ _ _ _ q=>by subst q;cases h) (fun _ _ _ _ _ q=>by subst q;cases h) t n env
theorem zpq(h:JE cx x a)(hx:noCompX x=true):JS cx (.Expr x p) (.expr a):=⟨fun hr sr=>zrc sr.fm.kind (by unfold interactive;rw[sr.fm.kind];rfl) (noCompX.swaps hx _ _ _) (h.d hr.toHere sr)⟩
theorem zhc{h:Bool}{i:Nat}:(h && !(CT.name i).isName)=false:=by cases h <;> rfl
theorem zrz{n:Str}{i:Nat}(h:JE cx x a)(hx:(chkT cx (ownOf cx.sc) (.name i) (.Name n ps) && noCompX x)=true):JS cx (.Assign [.Name n ps] x p) (.asg (.name i) a):=⟨fun {G A P F s β ρ O} hr sr=>by
 obtain⟨h1,h2⟩:=and2 hx
 show Does G F A s β _ (if (P.hd && !(CT.name i).isName)=true then .stuck else _:R (Loc×za) Fl) _
 rw[zhc,if_neg Bool.false_ne_true]
 exact d0 hr.fit hr.own h1 (noCompX.swaps h2 _ _ _) (h.d hr.toHere sr)⟩
noncomputable def unpX:Expr→Bool
 | .Name _ _=>true
 | .Subscript _ _ _=>true
 | .Call _ _ _ _=>true
 | _=>false
theorem zc6{l:List Expr}{k n:Nat}{ps:Pos}{x:Expr}{env:Env}(h:unpX x=true):swapsWithSole [.Tuple l k ps] x n env=pure false∧swappedStores [.Tuple l k ps] x env=pure none:=by
 cases x <;> first | exact⟨rfl,rfl⟩ | cases h
theorem zpr{l:List Expr}{k:Nat}{t:CT}(h:JE cx x a)(hx:(chkT cx (ownOf cx.sc) t (.Tuple l k ps) && unpX x && !t.isName)=true):JS cx (.Assign [.Tuple l k ps] x p) (.asg t a):=⟨fun {G A P F s β ρ O} hr sr=>by
 obtain⟨h1,h2,h3⟩:=and3 hx
 show Does G F A s β _ (if (P.hd && !t.isName)=true then .stuck else _:R (Loc×za) Fl) _
 rw[h3,Bool.and_true]
 by_cases hd:P.hd=true
 ·rw[if_pos hd];trivial
 rw[if_neg hd]
 have e:=zc6 (l:=l) (k:=k) (n:=p.line) (ps:=ps) (env:=F.env) h2
 exact zes (hr.run.hm (Bool.eq_false_iff.mpr hd)) hr.fit hr.own h1 e.1 e.2 (h.d hr.toHere sr)⟩
theorem zlw{n:Str}{i:Nat}{t:Expr}{fs:List Expr}{scope:Scope}{tgt:CT}{it:CI}{ifs:CEs}(hi:JI cx y it)(hf:JIfs (cx.inner tgt t scope) fs ifs)(hx:JE (cx.inner tgt t scope) x c)
 (hc:(xb scope cx.sc && xg (cx.inner tgt t scope).names && chkT (cx.inner tgt t scope) (ownOf scope) tgt t)=true) (hn:chkT cx (ownOf cx.sc) (.name i) (.Name n ps)=true)
 {G:Gl} {A:Around} {P:Pg} {F:Fm} {s:Shared} {β:List Addr} {ρ:Loc} {O:za} {K:V→za→R za V} (hr:zl5 G A P F cx) (sr:SR G F β ρ O s.heap) (hK:Fin2 K) :
 Does G F A s β (exec (.Assign [.Name n ps] (.ListComp x [⟨t,y,fs,0⟩] scope q) p) F.env) ((((evE P ρ (.comp c tgt it ifs) O).bind K).lift ρ).bind (asgR (.name i))) (yw G F):=by
 obtain⟨b,hb⟩ : ∃ b,swapsWith (.ListComp x [⟨t,y,fs,0⟩] scope q) (some (.Name n ps)) p.line F.env=pure b:=⟨_,rfl⟩
 cases b with
 | false=>exact d0 hr.fit hr.own hn hb ((zj3 hi hf hx hc).d hr.toHere sr hK)
 | true=>
   obtain⟨h1,h2,h3⟩:=and3 hc
   show Does G F A s β _ ((R.lift ρ ((if P.hd=true then .stuck else _:R za V).bind K)).bind _) _
   by_cases hd:P.hd=true
   ·rw[if_pos hd];trivial
   rw[if_neg hd]
   have hh:=hr.run.hm (Bool.eq_false_iff.mpr hd)
   exact ziu (evT:=fun ρ O=>xo P ρ ifs O) (evX:=fun ρ O=>evE P ρ c O) hr.run.g hh hr.fit hr.own hn h1 h2 h3 hi.px.set (fun C D s' β' ρ' O' sr'=>hf.d (hr.toHere.inner sr.fm.kind h1 C D) sr') (fun C D s' β' ρ' O' sr'=>hx.d (hr.toHere.inner sr.fm.kind h1 C D) sr') sr (hi.d hh hr.toHere sr) (fun _ _ e=>hi.has e) hK hb
theorem zps{n:Str}{i:Nat}{t:Expr}{fs:List Expr}{scope:Scope}{tgt:CT}{it:CI}{ifs:CEs}(hi:JI cx y it)(hf:JIfs (cx.inner tgt t scope) fs ifs)(hx:JE (cx.inner tgt t scope) x c)
 (hc:(xb scope cx.sc && xg (cx.inner tgt t scope).names && chkT (cx.inner tgt t scope) (ownOf scope) tgt t)=true) (hn:chkT cx (ownOf cx.sc) (.name i) (.Name n ps)=true) :
 JS cx (.Assign [.Name n ps] (.ListComp x [⟨t,y,fs,0⟩] scope q) p) (.asg (.name i) (.comp c tgt it ifs)):=⟨fun {G A P F s β ρ O} hr sr=>by
 have:=zlw hi hf hx hc hn (p:=p) (q:=q) hr sr .plain
 rw[R.bind_ok] at this
 show Does G F A s β _ (if (P.hd && !(CT.name i).isName)=true then .stuck else _:R (Loc×za) Fl) _
 rw[zhc,if_neg Bool.false_ne_true]
 exact this⟩
theorem zrx{l m:List Stmt}{d e:CSs}(h1:JT cx x a)(h2:JSs cx l d)(h3:JSs cx m e):JS cx (.If x l m p) (.ife a d e):=⟨fun {G A P F s β ρ O} hr sr=>
 ztd (ga:=fun ρ O=>evSs P d ρ O) (gb:=fun ρ O=>evSs P e ρ O) (h1.d hr.toHere sr) (fun s' β' ρ' O' sr'=>h2.d hr sr') fun s' β' ρ' O' sr'=>h3.d hr sr'⟩
theorem zry{l:List Stmt}{d:CSs}{t:CT}{it:CI}(h1:JI cx x it)(h2:JSs cx l d)(hc:chkT cx (ownOf cx.sc) t y=true):JS cx (.For y x l [] p) (.for_ t it d):=⟨fun {G A P F s β ρ O} hr sr=>by
 show Does G F A s β _ (if P.hd=true then .stuck else _:R (Loc×za) Fl) _
 by_cases hd:P.hd=true
 ·rw[if_pos hd];trivial
 rw[if_neg hd]
 have hh:=hr.run.hm (Bool.eq_false_iff.mpr hd)
 exact zos (evb:=fun ρ O=>evSs P d ρ O) hr.run.g hh hr.fit hr.own hc h1.px.set (fun s' β' ρ' O' sr'=>h2.d hr sr') sr (h1.d hh hr.toHere sr) fun _ _ e=>h1.has e⟩
theorem zmm{l:List Stmt}{d:CSs}(h1:JT cx x a)(h2:JSs cx l d):JS cx (.While x l [] p) (.while_ a d):=⟨fun {G A P F s β ρ O} hr sr=>
 znv (ev:=fun ρ O=>evE P ρ a O) (evb:=fun ρ O=>evSs P d ρ O) (fun s' β' ρ' O' sr'=>h1.d hr.toHere sr') (fun s' β' ρ' O' sr'=>h2.d hr sr') sr⟩
theorem zpi:JSs cx [] .nil:=⟨fun hr sr=>zer sr⟩
theorem zgx{st:Stmt}{l:List Stmt}{d:CS}{e:CSs}(h1:JS cx st d)(h2:JSs cx l e):JSs cx (st::l) (.cons d e):=⟨fun {G A P F s β ρ O} hr sr=>
 zcx (g:=fun ρ O=>evSs P e ρ O) (h1.d hr sr) fun s' β' ρ' O' sr'=>h2.d hr sr'⟩
end
theorem gn{G:Gl}{P:Pg}{fname gname cname:Nat→Option Str}(g:GOk G P.gval gname)(so:zbx G P)(se:zl1 G P)(cl:zht G P cname)(A:Around)(call:Bool→Nat→List V→za→R za V)(hd:Bool)(ro:Room A 0)(hm:hd=false→A.handled=none)
 (ck:∀ A' hd',Like A A'→(hd'=false→A'.handled=none)→ud G A' fname (call hd')):BodyOk G JSs A fname gname cname { P with call:=call,hd:=hd }:=by
 intro F cx c body s β ρ O e1 e2 e3 fit fr top own hc sr
 subst e1;subst e2;subst e3
 exact hc.d ⟨⟨⟨g,ro,hm,ck,so,se,⟨cl.inst,cl.matches_,cl.raise⟩⟩,fit,fr⟩,top,own⟩ sr
section
variable{G:Gl}{fname gname cname:Nat→Option Str}{T:Nat→Option Fn}{P:Pg}
set_option tactic.hygienic true in
theorem go_top(g:GOk G P.gval gname)(fns:zhr G JSs fname gname cname T)(so:zbx G P)(se:zl1 G P)(cl:zht G P cname){k:Nat}{A:Around}(ro:Room A (k+1))(hm:A.handled=none)(hfr:A.frames=some []){s:Shared}(hs:s.heap=G.h₀)
 {f:Nat} {x:Str} (hf:fname f=some x) {vals:List Value} {vs:List V} (rvs:VRs G [sysModules] [] s.heap vals vs) {d:PyData} {O'':za} (hev:zg P T (k+1) false f vs []=.ok (.d d) O'') {Q:Value→Shared→Prop} {E:Value→Shared→Prop}
 (kk:∀ s' val as,s'.gens=s.gens→s'.os=s.os→(∀ b o,s.heap.get? b=some o→s'.heap.get? b=some o)→Reads s'.heap val d as→Q val s') :
 ∀ a,G.mg x=some (.ref a)→wpAny (model G.prog G.w) A (call (.ref a) vals) Q E s:=by
 intro a₀ ha₀
 rw[zg] at hev
 cases hT:T f with
 | none=>rw[hT] at hev;cases hev
 | some fn=>
   obtain⟨a,o,fd,body,names,fo⟩:=(fns f x hf).2 fn hT
   have haa:a=a₀:=by have:=fo.at_.name.symm.trans ha₀;cases this;rfl
   subst haa
   rw[hT] at hev
   dsimp only at hev
   split at hev
   ·rename_i hlen
    obtain⟨p1,p2,p3,p4,p5,k1,k2,k3,k4,k5,n1,n2,n3,n4⟩:=ql fo.chk
    have kp:∀ b o,G.h₀.get? b=some o→s.heap.get? b=some o:=by rw[hs];exact fun _ _ h=>h
    have br:BR G [sysModules] [] [] s.heap:=⟨kp,rfl,.nil,fun _ h=>(nomatch h),fun i a bx h=>by simp at h,fun _ h=>(nomatch h)⟩
    have ou:Out G [sysModules] [] [] s.heap:=⟨⟨fun a ha hs=>absurd (List.mem_singleton.mp ha) hs,List.mem_singleton.mpr rfl,fun h=>(nomatch h)⟩,fun _ _ h=>(nomatch h),fun a ha=>by
     obtain⟨o',es,n,e1,e2⟩:=br.sysAlive
     exact⟨o',by rw[List.mem_singleton.mp ha];exact e1,fun vs n q=>by rw[e2] at q;cases q⟩,fun _ h=>(nomatch h),fun _ h=>(nomatch h)⟩
    have hget:s.heap.get? a=some o:=kp _ _ fo.at_.get
    have hnt:(names.take fn.arity).length=fn.arity:=by rw[List.length_take];omega
    have hbind:bindArgs fd ⟨vals,[]⟩=pure ((names.take fn.arity).zip vals):=qp p1 p2 p3 p4 p5 (by rw[rvs.length,hnt];exact hlen.1) (n1.sublist (List.take_sublist _ _)) fo.defaults
    have hkind:∀ y∈(names.take fn.arity).zip vals,fd.scope.names.lookup y.1=some .local∨(fd.scope.names.lookup y.1=some .cell∧((cellsFrom (s.heap.objs.size+1) fd.scope.names []).lookup y.1).isSome=true):=fun y hy=>by
     have hy':y.1∈names:=List.mem_of_mem_take (List.of_mem_zip hy).1
     have how:=n4 y.1 hy'
     unfold ownOf at how
     simp only[Bool.or_eq_true,beq_iff_eq] at how
     rcases how with how | how
     ·exact .inl how
     ·exact .inr ⟨how,yj _ _ _ (.inl ((lookup_mem k4).mpr how))⟩
    refine wpAny_call (codeAny_call_cells ro.room hget fo.at_.data (g.nolimit.keeps kp) (Heap.CodeRec.keeps fo.code kp) fo.body_ hbind fo.clos hkind (fun s₁ ic=>?_) k3 k2 k1)
    obtain⟨srC,ka⟩:=za2 fo br ou rvs hlen.1 ic
    have fitC:Fits (xd fd s.heap.objs.size a (yu fn names) [sysModules] []) { names:=yu fn names,sc:=fd.scope,fname:=fname,gname:=gname,cname:=cname }:=⟨rfl,fun _=>rfl,k1⟩
    have frC:FrA (A.deeper (callEnvC fd s.heap.objs.size a)) (xd fd s.heap.objs.size a (yu fn names) [sysModules] []):=⟨_,Around.frames_deeper hfr,fun env he=>by
     have he':=List.mem_singleton.mp he
     subst he'
     exact⟨by show fd.scope.kind≠.module;rw[k1];decide,_,rfl,List.mem_cons_self⟩⟩
    have topC:TopA (A.deeper (callEnvC fd s.heap.objs.size a)) (xd fd s.heap.objs.size a (yu fn names) [sysModules] []):=⟨⟨[],Around.frames_deeper hfr⟩,_,rfl⟩
    have roD:=ro.deeper (callEnvC fd s.heap.objs.size a)
    have db:=gn g so se cl (A.deeper (callEnvC fd s.heap.objs.size a)) (zg P T k) false ⟨by have:=roD.depth;omega,by have:=roD.units;omega,roD.guards⟩ (fun _=>hm) (fun A' hd' lk hm'=>zey g fns (gn g so se cl) k A' hd' (roD.like lk) hm')
     _ _ fn.body body s₁ [] _ [] rfl rfl rfl fitC frC topC (fun _ h=>h) fo.js srC
    unfold evFn at hev
    cases he:evSs { P with call:=zg P T k,hd:=false } fn.body (vs.map some++List.replicate (fn.slots - fn.arity) none) [] with
    | stuck=>rw[he] at hev;cases hev
    | ok fl S=>
      rw[he] at hev db
      have fin:∀ (s':Shared) (β':List Addr) (val:Value) (v:V),Step (xd fd s.heap.objs.size a (yu fn names) [sysModules] []).W [] s₁ s' β'→SR G (xd fd s.heap.objs.size a (yu fn names) [sysModules] []) β' S.1 S.2 s'.heap →
       VR G (xd fd s.heap.objs.size a (yu fn names) [sysModules] []).B β' s'.heap val v→Mine.fin 0 fn.keep v S.2=.ok (.d d) O''→Q val s':=by
       intro s' β' val v st srE rv hf
       obtain⟨β'',q1,q2,q3,as,q4,q5⟩:=zkx srE.br (N:=[sysModules]) (fun a ha=>List.mem_append_right _ ha) srE.fm.notBox st.pre rfl rv hf
       exact kk s' val as (st.gens.trans ka.gens) (st.os.trans ka.os) (by rw[hs];exact srE.br.keep) q4
      refine db _ _ fun s' β' fl' st srE rf=>?_
      cases fl with
      | ret v=>
        obtain⟨val,rfl,rv⟩:=rf
        exact fin s' β' val v st srE rv hev
      | next=>
        have rf:fl'=.next:=rf
        subst rf
        exact fin s' β' .none (.d .none) st srE VR.none hev
   ·cases hev
end
noncomputable def zgg(p:Program)(fname:Nat→Option Str)(T:Nat→Option Fn)(slots:Nat→List Str)(at_:Nat→Nat)(f:Nat):Bool:=match fname f,T f,(recsOf p)[at_ f]? with
 | some x,some fn,some d=>d.name == x && zhm fn (slots f) d.params d.scope
 | _,_,_=>false
noncomputable def zai(p:Program)(fname gname cname:Nat→Option Str)(T:Nat→Option Fn)(slots:Nat→List Str)(at_:Nat→Nat):Prop:=
 ∀ f fn d,T f=some fn→(recsOf p)[at_ f]?=some d→JSs { names:=yu fn (slots f),sc:=d.scope,fname,gname,cname } d.body fn.body
set_option tactic.hygienic true in
theorem zqo{G:Gl}{p:Program}{loose:List Str}{mean:ExcName→Option Value}{fname gname cname:Nat→Option Str}{T:Nat→Option Fn}{slots:Nat→List Str}{at_:Nat→Nat}(t:Top p loose mean G.mg G.mb G.h₀)(n:Nat)(h0:∀ f,n≤f→fname f=none)
 (h:(List.range n).all (zgg p fname T slots at_)=true) (hb:zai p fname gname cname T slots at_):zhr G JSs fname gname cname T:=by
 intro f x hf
 have hn:f < n:=by
  rcases Nat.lt_or_ge f n with h | h
  ·exact h
  ·rw[h0 f h] at hf;cases hf
 have hh:=List.all_eq_true.mp h f (List.mem_range.mpr hn)
 unfold zgg at hh
 rw[hf] at hh
 split at hh
 ·rename_i x' fn d e1 e2 e3
  cases e1
  obtain⟨q1,q2⟩:=and2 hh
  have hx:d.name=x:=beq_iff_eq.mp q1
  obtain⟨a,o,pm,code,doc,h1,h2,h3,h4⟩:=t.fn d (List.mem_of_getElem? e3)
  rw[hx] at h1
  exact⟨⟨a,o,_,h1,h2,h3⟩,fun fn' hfn'=>by
   rw[e2] at hfn';cases hfn'
   exact⟨a,o,_,_,slots f,⟨⟨h1,h2,h3⟩,h4,rfl,rfl,rfl,rfl,rfl,q2,hb f fn d e2 e3⟩⟩⟩
 ·cases hh
noncomputable def zls(K:W.Frag):Bool:=bis.all fun p=>W.nsIn K mainGlobals p.1 == some none && bootBuiltins p.1 == some p.2 && p.1 != "__name__"
theorem zbi{h:Heap}:∀ {is:List Int} {vs:List Value} {as:List Addr},ReadsAll h vs (is.map .int) as→as=[]
 | [],_,_,.nil=>rfl
 | _::_,_,_,.cons r rs=>by cases r;rw[zbi rs];rfl
theorem zfo{h:Heap}{is:List Int}{a:Addr}{rs:List Addr}{m:Str→Option Value}(hm:h.Ns sysModules m)(r:Reads h (.ref a) (.list (is.map .int)) rs):sysModules∉rs:=by
 cases r with
 | list h1 h2 h3 h4=>
   rw[zbi h4]
   intro hs
   have e:sysModules=a:=List.mem_singleton.mp hs
   obtain⟨o,es,ep,q1,q2,_⟩:=hm
   rw[e,h1] at q1;cases q1
   rw[h3] at q2;cases q2
end Mine
end
section
namespace Mine
open PySem
section
variable{prog:Program}{w:World}{K:Type}[DecidableEq K]
structure ItemKind(prog:Program)(w:World)(K:Type)[DecidableEq K] where
 is:Heap→K→Value→Prop
 hash:K→Int
 draws:K→Nat
 room:Around→Prop
 dep:Nat
 inj:∀ {h:Heap} {v:Value} {x y:K},is h x v→is h y v→x=y
 keeps:∀ {h h':Heap} {k:K} {v:Value} {d:Addr} {o:Obj} {es ep},is h k v→h.get? d=some o→o.data=.dict es ep→Heap.SameBut d h h'→is h' k v
 pyHash:∀ {A:Around} {E:Value→Shared→Prop} {s:Shared} {k:K} {v:Value} {Q:Int→Shared→Prop},room A→is s.heap k v→Q (hash k) { s with toks:=s.toks+draws k }→wpAny (model prog w) A (PySem.pyHash v) Q E s
 eqBool:∀ {A:Around} {E:Value→Shared→Prop} {s:Shared} {x y:K} {u v:Value} {Q:Bool→Shared→Prop},room A→is s.heap x u→is s.heap y v→Q (decide (x=y)) s→wpAny (model prog w) A (PySem.eqBool u v) Q E s
 quiet:∀ {A:Around} {E:Value→Shared→Prop} {s:Shared} {k:K} {v:Value} {n:Nat} {Q:Bool→Shared→Prop},dep≤n→is s.heap k v→Q true s→wpAny (model prog w) A (eqIsQuiet n v) Q E s
inductive ItemsK(ik:ItemKind prog w K)(h:Heap):List K→List Value→Prop
 | nil:ItemsK ik h [] []
 | cons {k:K} {v:Value} {ks:List K} {vs:List Value}:ik.is h k v→ItemsK ik h ks vs→ItemsK ik h (k::ks) (v::vs)
noncomputable def IsTupK(ik:ItemKind prog w K)(h:Heap)(ks:List K)(a:Addr):Prop:=∃ o items n,h.get? a=some o∧o.cls=.type "tuple"∧o.data=.seq items n∧ItemsK ik h ks items.toList
variable{ik:ItemKind prog w K}
theorem ItemsK.inj{h:Heap}{x y:List K}{vs:List Value}(hx:ItemsK ik h x vs)(hy:ItemsK ik h y vs):x=y:=by
 induction hx generalizing y with
 | nil=>cases hy;rfl
 | cons h1 _ ih=>
   cases hy with
   | cons h2 t2=>rw[ik.inj h1 h2,ih t2]
theorem ItemsK.length{h:Heap}{x:List K}{vs:List Value}(hx:ItemsK ik h x vs):x.length=vs.length:=by
 induction hx with
 | nil=>rfl
 | cons _ _ ih=>simp[ih]
theorem ItemsK.keeps{h h':Heap}{x:List K}{vs:List Value}{d:Addr}{o:Obj}{es ep}(hx:ItemsK ik h x vs)(ho:h.get? d=some o)(hd:o.data=.dict es ep)(hs:Heap.SameBut d h h'):ItemsK ik h' x vs:=by
 induction hx with
 | nil=>exact .nil
 | cons h1 _ ih=>exact .cons (ik.keeps h1 ho hd hs) ih
theorem IsTupK.typeIs{s:Shared}{ks:List K}{a:Addr}(x:IsTupK ik s.heap ks a):s.TypeIs (.ref a) "tuple":=let ⟨o,_,_,ho,hc,_⟩:=x;⟨o,ho,hc⟩
theorem IsTupK.inj{h:Heap}{a:Addr}{x y:List K}(hx:IsTupK ik h x a)(hy:IsTupK ik h y a):x=y:=by
 obtain⟨o,items,n,ho,_,hd,hi⟩:=hx
 obtain⟨o',items',n',ho',_,hd',hi'⟩:=hy
 obtain rfl:o=o':=Option.some.inj (ho.symm.trans ho')
 rw[hd] at hd'
 injection hd' with h1 _
 subst h1
 exact hi.inj hi'
theorem IsTupK.keeps{h h':Heap}{ks:List K}{a d:Addr}{o:Obj}{es ep}(x:IsTupK ik h ks a)(ho:h.get? d=some o)(hd:o.data=.dict es ep)(hs:Heap.SameBut d h h'):IsTupK ik h' ks a:=by
 obtain⟨o',items,n,ho',hc,hd',hi⟩:=x
 have hne:a≠d:=by
  rintro rfl
  obtain rfl:o'=o:=Option.some.inj (ho'.symm.trans ho)
  rw[hd] at hd';exact nomatch hd'
 exact⟨o',items,n,(hs.2 a hne).trans ho',hc,hd',hi.keeps ho hd hs⟩
variable(ik) in
noncomputable def zfg(ks:List K):Int:=reduceHash (Builtin.Tuple.tupleHashOf (ks.map ik.hash))
variable(ik) in
noncomputable def zb4(ks:List K):Nat:=(ks.map ik.draws).sum+1
variable{A:Around}{E:Value→Shared→Prop}{s:Shared}
theorem zij{ks:List K}{a:Addr}{Q:Int→Shared→Prop}(hu:A.units < cLine)(hr:ik.room A.in1)(hk:IsTupK ik s.heap ks a)(h:Q (zfg ik ks) { s with toks:=s.toks+zb4 ik ks }) :
 wpAny (model prog w) A (pyHash (.ref a)) Q E s:=by
 have hT:=hk.typeIs
 obtain⟨o,items,n,ho,_,hd,hi⟩:=hk
 unfold pyHash
 unfold pyHashByItsType
 refine wpAny_bind (wpAny_cRoomFor_or (.inr hu) ?_)
 refine wpAny_bind (wpAny_specialOf hT F.slot_tuple_hash.lookup ?_)
 show wpAny _ _ (if (some (Value.builtin "tuple.__hash__") == some Value.none)=true then _ else _) Q E s
 rw[if_neg (by rw[beq_builtin_none];exact Bool.false_ne_true)]
 refine wpAny_bind (wpAny_specialOf hT F.slot_tuple_hash.lookup ?_)
 show wpAny _ _ (callSpecialIfBoundUnlessNone? (.ref a) "__hash__" _ >>= _) Q E s
 refine wpAny_bind (wpAny_callSpecialIfBoundUnlessNone?_slot hT F.slot_tuple_hash (wpAny_call_entry F.slot_tuple_hash hT F.entry_tuple_hash ?_ (F.args_tuple_hash_1 _)))
 show wpAny _ _ (Builtin.Tuple.tupleItemsOf (.ref a) >>= _) _ _ s
 refine wpAny_bind (wpAny_tupleItemsOf ho hd ?_)
 refine wpAny_bind ?_
 rw[← Array.forIn_toList]
 refine wpAny_forIn_list _
  (fun rest (b:Array Int) s'=>∃ done left,ks=done++left∧ItemsK ik s.heap left rest∧b.toList=done.map ik.hash∧s' = { s with toks:=s.toks+(done.map ik.draws).sum })
  _ ?_ ?_ _ _ ⟨[],ks,rfl,hi,rfl,rfl⟩
 ·rintro x rest b s' ⟨done,left,rfl,hl,hb,rfl⟩
  cases hl with
  | @cons k _ ks' _ h1 hl'=>
    refine wpAny_bind (ik.pyHash (s:={ s with toks:=s.toks+(done.map ik.draws).sum }) hr h1 ?_)
    first
     | exact wpAny_pure ⟨done++[k],ks',by simp,hl',by simp[hb],by simp[Nat.add_assoc]⟩
     | exact wpAny_bind (wpAny_pure (wpAny_pure ⟨done++[k],ks',by simp,hl',by simp[hb],by simp[Nat.add_assoc]⟩))
 ·rintro b s' ⟨done,left,rfl,hl,hb,rfl⟩
  cases hl
  rw[List.append_nil] at h
  show wpAny _ _ (retInt (Builtin.Tuple.tupleHashOf b.toList)) _ _ _
  rw[hb]
  refine wpAny_ret_mkInt ?_
  show wpAny _ _ (if (decide (-(2:Int) ^ 63≤Builtin.Tuple.tupleHashOf (done.map ik.hash)) && decide (Builtin.Tuple.tupleHashOf (done.map ik.hash) < 2 ^ 63))=true then _ else _) Q E _
  unfold zfg reduceHash at h
  unfold zb4 at h
  by_cases hr:(decide (-(2:Int) ^ 63≤Builtin.Tuple.tupleHashOf (done.map ik.hash)) && decide (Builtin.Tuple.tupleHashOf (done.map ik.hash) < 2 ^ 63))=true
  ·rw[if_pos hr]
   rw[if_pos hr] at h
   exact wpAny_pure (by simpa [Nat.add_assoc] using h)
  ·rw[if_neg hr]
   rw[if_neg hr] at h
   exact wpAny_bind (wpAny_rule (wpAny_pure (by simpa [Nat.add_assoc] using h)))
theorem zk2{x y:List K}{a b:Addr}{P:Fin→Shared→Prop}(hr:ik.room A)(hx:IsTupK ik s.heap x a)(hy:IsTupK ik s.heap y b)(h:P (.done (.ret (.bool (decide (x=y))))) s) :
 wpAny (model prog w) A (Builtin.«tuple.__eq__» ⟨[.ref a,.ref b],[]⟩) P E s:=by
 have hTb:=hy.typeIs
 obtain⟨oa,xs,na,hoa,_,hda,hia⟩:=hx
 obtain⟨ob,ys,nb,hob,_,hdb,hib⟩:=hy
 show wpAny _ _ (isInstance (.ref b) (.type "tuple") >>= _) _ _ s
 refine wpAny_bind (wpAny_isInstance hTb isSubtype_tuple_tuple ?_)
 simp only[Bool.not_true,Bool.false_eq_true,if_false]
 refine wpAny_bind (wpAny_tupleItemsOf hoa hda ?_)
 refine wpAny_bind (wpAny_tupleItemsOf hob hdb ?_)
 refine wpAny_bind ?_
 refine wpAny_forIn_list _
  (fun rest r s'=>r.1=none∧s'=s∧∃ x' y' xs' ys',rest=List.zip xs' ys'∧ItemsK ik s.heap x' xs'∧ItemsK ik s.heap y' ys'∧decide (x'=y')=decide (x=y)∧(xs'.length == ys'.length)=(xs.size == ys.size))
  _ ?_ ?_ _ _ ⟨rfl,rfl,x,y,xs.toList,ys.toList,rfl,hia,hib,rfl,by simp⟩
 ·rintro⟨u,v⟩ rest r s' ⟨hr',rfl,x',y',xs',ys',hz,hx',hy',hdec,hlen⟩
  cases hx' with
  | nil=>simp at hz
  | @cons k1 u' x'' xs'' h1 hx''=>
    cases hy' with
    | nil=>simp at hz
    | @cons k2 v' y'' ys'' h2 hy''=>
      simp only[List.zip_cons_cons,List.cons.injEq,Prod.mk.injEq] at hz
      obtain⟨⟨rfl,rfl⟩,rfl⟩:=hz
      refine wpAny_bind (ik.eqBool (x:=k1) (y:=k2) hr h1 h2 ?_)
      by_cases hk:k1=k2
      ·subst hk
       rw[decide_eq_true rfl]
       simp only[Bool.not_true,Bool.false_eq_true,if_false]
       refine wpAny_pure ⟨rfl,rfl,x'',y'',xs'',ys'',rfl,hx'',hy'',?_,by simpa using hlen⟩
       rw[← hdec]
       by_cases hxy:x''=y''
       ·simp[hxy]
       ·simp[hxy]
      ·rw[decide_eq_false hk]
       simp only[Bool.not_false,if_true]
       have hf:decide (x=y)=false:=by rw[← hdec];simp[hk]
       rw[hf] at h
       exact wpAny_bind (wpAny_pure (wpAny_pure (wpAny_pure h)))
 ·rintro⟨r1,r2⟩ s' ⟨hr',rfl,x',y',xs',ys',hz,hx',hy',hdec,hlen⟩
  simp only at hr'
  subst hr'
  refine wpAny_pure ?_
  have hfin:(xs.size == ys.size)=decide (x=y):=by
   rw[← hdec,← hlen]
   cases hx' with
   | nil=>
     cases hy' with
     | nil=>simp
     | cons _ _=>simp
   | cons _ _=>
     cases hy' with
     | nil=>simp
     | cons _ _=>simp at hz
  show P (.done (.ret (.bool (xs.size == ys.size)))) s'
  rw[hfin];exact h
theorem zng{x y:List K}{a b:Addr}{Q:Bool→Shared→Prop}(hu:A.units < cLine)(hr:ik.room A.in1)(hx:IsTupK ik s.heap x a)(hy:IsTupK ik s.heap y b)(h:Q (decide (x=y)) s) :
 wpAny (model prog w) A (eqBool (.ref a) (.ref b)) Q E s:=by
 unfold eqBool
 try with_reducible refine wpAny_holding ?_
 show wpAny _ _ (if (Value.ref a == Value.ref b)=true then _ else _) Q E s
 by_cases hab:(Value.ref a == Value.ref b)=true
 ·rw[if_pos hab]
  have e:a=b:=by have:=eq_of_beq hab;injection this
  subst e
  obtain rfl:=hx.inj hy
  exact wpAny_bind (wpAny_rule (wpAny_pure (by simpa using h)))
 ·rw[if_neg hab]
  exact wpAny_bind (wpAny_richCompare_same_room (op:=.Eq) hx.typeIs hy.typeIs F.slot_tuple_eq
   (wpAny_call_entry F.slot_tuple_eq hx.typeIs F.entry_tuple_eq (zk2 hr hx hy ⟨_,rfl,(fun e=>nomatch e),wpAny_truthy_bool h⟩) (F.args_tuple_eq_2 _ _)) hu)
theorem zfv{ks:List K}{a:Addr}{n:Nat}{Q:Bool→Shared→Prop}(hn:ik.dep+1≤n)(hk:IsTupK ik s.heap ks a)(h:Q true s):wpAny (model prog w) A (eqIsQuiet n (.ref a)) Q E s:=by
 obtain⟨n,rfl⟩ : ∃ n',n=n' + 1:=⟨n - 1,by omega⟩
 have hT:=hk.typeIs
 obtain⟨o,items,_,ho,_,hd,hi⟩:=hk
 unfold eqIsQuiet
 refine wpAny_bind (wpAny_specialOf hT F.slot_tuple_eq.lookup ?_)
 show wpAny _ _ (isInstance (.ref a) (.type "tuple") >>= _) _ _ s
 refine wpAny_bind (wpAny_isInstance hT isSubtype_tuple_tuple ?_)
 simp only[Bool.not_true,Bool.false_eq_true,if_false]
 refine wpAny_bind (wpAny_seqItems ho hd ?_)
 refine wpAny_bind ?_
 show wpAny _ _ (forIn items _ _) _ _ s
 rw[← Array.forIn_toList]
 refine wpAny_forIn_list _ (fun rest r s'=>r.1=none∧s'=s∧∃ ks',ItemsK ik s.heap ks' rest) _ ?_ ?_ _ _ ⟨rfl,rfl,ks,hi⟩
 ·rintro v rest r s' ⟨hr,rfl,ks',hall⟩
  cases hall with
  | cons h1 h2=>
    refine wpAny_bind (ik.quiet (by omega) h1 ?_)
    simp only[Bool.not_true,Bool.false_eq_true,if_false]
    exact wpAny_pure ⟨rfl,rfl,_,h2⟩
 ·rintro⟨r1,r2⟩ s' ⟨hr,rfl,_⟩
  simp only at hr
  subst hr
  exact wpAny_pure h
end
section
variable{prog:Program}{w:World}{K:Type}[DecidableEq K]
noncomputable def uz(ik:ItemKind prog w K):ItemKind prog w (List K) where
 is:=fun h ks v=>∃ a,v=.ref a∧IsTupK ik h ks a
 hash:=zfg ik
 draws:=zb4 ik
 room:=fun A=>A.units < cLine∧ik.room A.in1
 dep:=ik.dep+1
 inj:=fun ⟨a,e,h1⟩ ⟨b,e',h2⟩=>by subst e;cases e';exact h1.inj h2
 keeps:=fun ⟨a,e,h1⟩ ho hd hs=>⟨a,e,h1.keeps ho hd hs⟩
 pyHash:=fun ⟨hu,hr⟩ ⟨a,e,h1⟩ h=>by subst e;exact zij hu hr h1 h
 eqBool:=fun ⟨hu,hr⟩ ⟨a,e,h1⟩ ⟨b,e',h2⟩ h=>by subst e;subst e';exact zng hu hr h1 h2 h
 quiet:=fun hn ⟨a,e,h1⟩ h=>by subst e;exact zfv hn h1 h
noncomputable def q9:ItemKind prog w Int where
 is:=fun _ i v=>(intKind prog w).is i v=true
 hash:=(intKind prog w).hash
 draws:=fun _=>1
 room:=fun _=>True
 dep:=0
 inj:=fun h1 h2=>(intKind prog w).inj _ _ _ h1 h2
 keeps:=fun h _ _ _=>h
 pyHash:=fun _ h1 h=>(intKind prog w).pyHash h1 h
 eqBool:=fun _ h1 h2 h=>(intKind prog w).eqBool h1 h2 h
 quiet:=fun _ h1 h=>by rw[eqIsQuiet_byValue _ ((intKind prog w).byValue _ _ h1)];exact wpAny_pure h
noncomputable def IsPairK{K':Type}[DecidableEq K'](ik:ItemKind prog w K)(jk:ItemKind prog w K')(h:Heap)(k:K×K')(a:Addr):Prop:=∃ o x y n,h.get? a=some o∧o.cls=.type "tuple"∧o.data=.seq #[x,y] n∧ik.is h k.1 x∧jk.is h k.2 y
variable{K':Type}[DecidableEq K']{ik:ItemKind prog w K}{jk:ItemKind prog w K'}{A:Around}{E:Value→Shared→Prop}{s:Shared}
theorem IsPairK.typeIs{k:K×K'}{a:Addr}(x:IsPairK ik jk s.heap k a):s.TypeIs (.ref a) "tuple":=let ⟨o,_,_,_,ho,hc,_⟩:=x;⟨o,ho,hc⟩
theorem IsPairK.inj{h:Heap}{a:Addr}{x y:K×K'}(hx:IsPairK ik jk h x a)(hy:IsPairK ik jk h y a):x=y:=by
 obtain⟨o,u,v,n,ho,_,hd,h1,h2⟩:=hx
 obtain⟨o',u',v',n',ho',_,hd',h1',h2'⟩:=hy
 obtain rfl:o=o':=Option.some.inj (ho.symm.trans ho')
 rw[hd] at hd'
 cases hd'
 exact Prod.ext (ik.inj h1 h1') (jk.inj h2 h2')
theorem IsPairK.keeps{h h':Heap}{k:K×K'}{a d:Addr}{o:Obj}{es ep}(x:IsPairK ik jk h k a)(ho:h.get? d=some o)(hd:o.data=.dict es ep)(hs:Heap.SameBut d h h'):IsPairK ik jk h' k a:=by
 obtain⟨o',u,v,n,ho',hc,hd',h1,h2⟩:=x
 have hne:a≠d:=by
  rintro rfl
  obtain rfl:o'=o:=Option.some.inj (ho'.symm.trans ho)
  rw[hd] at hd';exact nomatch hd'
 exact⟨o',u,v,n,(hs.2 a hne).trans ho',hc,hd',ik.keeps h1 ho hd hs,jk.keeps h2 ho hd hs⟩
variable(ik jk) in
noncomputable def zfw(k:K×K'):Int:=reduceHash (Builtin.Tuple.tupleHashOf [ik.hash k.1,jk.hash k.2])
variable(ik jk) in
noncomputable def zcd(k:K×K'):Nat:=ik.draws k.1+jk.draws k.2+1
theorem zge{k:K×K'}{a:Addr}{Q:Int→Shared→Prop}(hu:A.units < cLine)(hr:ik.room A.in1)(hr':jk.room A.in1)(hk:IsPairK ik jk s.heap k a)(h:Q (zfw ik jk k) { s with toks:=s.toks+zcd ik jk k }) :
 wpAny (model prog w) A (pyHash (.ref a)) Q E s:=by
 have hT:=hk.typeIs
 obtain⟨o,x,y,n,ho,_,hd,h1,h2⟩:=hk
 unfold pyHash
 unfold pyHashByItsType
 refine wpAny_bind (wpAny_cRoomFor_or (.inr hu) ?_)
 refine wpAny_bind (wpAny_specialOf hT F.slot_tuple_hash.lookup ?_)
 show wpAny _ _ (if (some (Value.builtin "tuple.__hash__") == some Value.none)=true then _ else _) Q E s
 rw[if_neg (by rw[beq_builtin_none];exact Bool.false_ne_true)]
 refine wpAny_bind (wpAny_specialOf hT F.slot_tuple_hash.lookup ?_)
 show wpAny _ _ (callSpecialIfBoundUnlessNone? (.ref a) "__hash__" _ >>= _) Q E s
 refine wpAny_bind (wpAny_callSpecialIfBoundUnlessNone?_slot hT F.slot_tuple_hash (wpAny_call_entry F.slot_tuple_hash hT F.entry_tuple_hash ?_ (F.args_tuple_hash_1 _)))
 show wpAny _ _ (Builtin.Tuple.tupleItemsOf (.ref a) >>= _) _ _ s
 refine wpAny_bind (wpAny_tupleItemsOf ho hd ?_)
 refine wpAny_bind ?_
 rw[← Array.forIn_toList]
 refine wpAny_forIn_list _
  (fun rest (b:Array Int) s'=>(rest=[x,y]∧b = #[]∧s'=s)∨(rest=[y]∧b = #[ik.hash k.1]∧s' = { s with toks:=s.toks+ik.draws k.1 }) ∨
    (rest=[]∧b = #[ik.hash k.1,jk.hash k.2]∧s' = { s with toks:=s.toks+ik.draws k.1+jk.draws k.2 }))
  _ ?_ ?_ _ _ (.inl ⟨rfl,rfl,rfl⟩)
 ·rintro v rest b s' (⟨hr1,rfl,rfl⟩ | ⟨hr1,rfl,rfl⟩ | ⟨hr1,_⟩)
  ·cases hr1
   refine wpAny_bind (ik.pyHash hr h1 ?_)
   first
    | exact wpAny_pure (.inr (.inl ⟨rfl,rfl,rfl⟩))
    | exact wpAny_bind (wpAny_pure (wpAny_pure (.inr (.inl ⟨rfl,rfl,rfl⟩))))
  ·cases hr1
   refine wpAny_bind (jk.pyHash (s:={ s with toks:=s.toks+ik.draws k.1 }) hr' h2 ?_)
   first
    | exact wpAny_pure (.inr (.inr ⟨rfl,rfl,rfl⟩))
    | exact wpAny_bind (wpAny_pure (wpAny_pure (.inr (.inr ⟨rfl,rfl,rfl⟩))))
  ·cases hr1
 ·rintro b s' (⟨hr1,_⟩ | ⟨hr1,_⟩ | ⟨_,rfl,rfl⟩)
  ·cases hr1
  ·cases hr1
  ·show wpAny _ _ (retInt (Builtin.Tuple.tupleHashOf [ik.hash k.1,jk.hash k.2])) _ _ _
   refine wpAny_ret_mkInt ?_
   show wpAny _ _ (if (decide (-(2:Int) ^ 63≤Builtin.Tuple.tupleHashOf [ik.hash k.1,jk.hash k.2]) && decide (Builtin.Tuple.tupleHashOf [ik.hash k.1,jk.hash k.2] < 2 ^ 63))=true then _ else _) Q E _
   unfold zfw reduceHash at h
   unfold zcd at h
   by_cases hr:(decide (-(2:Int) ^ 63≤Builtin.Tuple.tupleHashOf [ik.hash k.1,jk.hash k.2]) && decide (Builtin.Tuple.tupleHashOf [ik.hash k.1,jk.hash k.2] < 2 ^ 63))=true
   ·rw[if_pos hr]
    rw[if_pos hr] at h
    exact wpAny_pure (by simpa [Nat.add_assoc] using h)
   ·rw[if_neg hr]
    rw[if_neg hr] at h
    exact wpAny_bind (wpAny_rule (wpAny_pure (by simpa [Nat.add_assoc] using h)))
theorem zk1{x y:K×K'}{a b:Addr}{P:Fin→Shared→Prop}(hr:ik.room A)(hr':jk.room A)(hx:IsPairK ik jk s.heap x a)(hy:IsPairK ik jk s.heap y b)(h:P (.done (.ret (.bool (decide (x=y))))) s) :
 wpAny (model prog w) A (Builtin.«tuple.__eq__» ⟨[.ref a,.ref b],[]⟩) P E s:=by
 have hTb:=hy.typeIs
 obtain⟨oa,u,v,na,hoa,_,hda,i1,i2⟩:=hx
 obtain⟨ob,u',v',nb,hob,_,hdb,j1,j2⟩:=hy
 show wpAny _ _ (isInstance (.ref b) (.type "tuple") >>= _) _ _ s
 refine wpAny_bind (wpAny_isInstance hTb isSubtype_tuple_tuple ?_)
 simp only[Bool.not_true,Bool.false_eq_true,if_false]
 refine wpAny_bind (wpAny_tupleItemsOf hoa hda ?_)
 refine wpAny_bind (wpAny_tupleItemsOf hob hdb ?_)
 refine wpAny_bind ?_
 refine wpAny_forIn_list _
  (fun rest r s'=>r.1=none∧s'=s∧(rest=[(u,u'),(v,v')]∨(rest=[(v,v')]∧x.1=y.1)∨(rest=[]∧x=y))) _ ?_ ?_ _ _ ⟨rfl,rfl,.inl rfl⟩
 ·rintro⟨p,q⟩ rest r s' ⟨hr1,rfl,hz | ⟨hz,e1⟩ | ⟨hz,_⟩⟩
  ·cases hz
   refine wpAny_bind (ik.eqBool (x:=x.1) (y:=y.1) hr i1 j1 ?_)
   by_cases hk:x.1=y.1
   ·rw[decide_eq_true hk]
    simp only[Bool.not_true,Bool.false_eq_true,if_false]
    exact wpAny_pure ⟨rfl,rfl,by simp[hk]⟩
   ·rw[decide_eq_false hk]
    simp only[Bool.not_false,if_true]
    have hf:decide (x=y)=false:=decide_eq_false fun e=>hk (by rw[e])
    rw[hf] at h
    exact wpAny_bind (wpAny_pure (wpAny_pure (wpAny_pure h)))
  ·cases hz
   refine wpAny_bind (jk.eqBool (x:=x.2) (y:=y.2) hr' i2 j2 ?_)
   by_cases hk:x.2=y.2
   ·rw[decide_eq_true hk]
    simp only[Bool.not_true,Bool.false_eq_true,if_false]
    exact wpAny_pure ⟨rfl,rfl,by simp[Prod.ext e1 hk]⟩
   ·rw[decide_eq_false hk]
    simp only[Bool.not_false,if_true]
    have hf:decide (x=y)=false:=decide_eq_false fun e=>hk (by rw[e])
    rw[hf] at h
    exact wpAny_bind (wpAny_pure (wpAny_pure (wpAny_pure h)))
  ·cases hz
 ·rintro⟨r1,r2⟩ s' ⟨hr1,rfl,hz | ⟨hz,_⟩ | ⟨_,e⟩⟩
  ·cases hz
  ·cases hz
  ·simp only at hr1
   subst hr1
   refine wpAny_pure ?_
   rw[decide_eq_true e] at h
   exact h
theorem zk3{x y:K×K'}{a b:Addr}{Q:Bool→Shared→Prop}(hu:A.units < cLine)(hr:ik.room A.in1)(hr':jk.room A.in1)(hx:IsPairK ik jk s.heap x a)(hy:IsPairK ik jk s.heap y b)(h:Q (decide (x=y)) s) :
 wpAny (model prog w) A (eqBool (.ref a) (.ref b)) Q E s:=by
 unfold eqBool
 try with_reducible refine wpAny_holding ?_
 show wpAny _ _ (if (Value.ref a == Value.ref b)=true then _ else _) Q E s
 by_cases hab:(Value.ref a == Value.ref b)=true
 ·rw[if_pos hab]
  have e:a=b:=by have:=eq_of_beq hab;injection this
  subst e
  obtain rfl:=hx.inj hy
  exact wpAny_bind (wpAny_rule (wpAny_pure (by simpa using h)))
 ·rw[if_neg hab]
  exact wpAny_bind (wpAny_richCompare_same_room (op:=.Eq) hx.typeIs hy.typeIs F.slot_tuple_eq
   (wpAny_call_entry F.slot_tuple_eq hx.typeIs F.entry_tuple_eq (zk1 hr hr' hx hy ⟨_,rfl,(fun e=>nomatch e),wpAny_truthy_bool h⟩) (F.args_tuple_eq_2 _ _)) hu)
theorem zdn{k:K×K'}{a:Addr}{n:Nat}{Q:Bool→Shared→Prop}(hn:ik.dep+1≤n)(hn':jk.dep+1≤n)(hk:IsPairK ik jk s.heap k a)(h:Q true s):wpAny (model prog w) A (eqIsQuiet n (.ref a)) Q E s:=by
 obtain⟨n,rfl⟩ : ∃ n',n=n' + 1:=⟨n - 1,by omega⟩
 have hT:=hk.typeIs
 obtain⟨o,x,y,_,ho,_,hd,h1,h2⟩:=hk
 unfold eqIsQuiet
 refine wpAny_bind (wpAny_specialOf hT F.slot_tuple_eq.lookup ?_)
 show wpAny _ _ (isInstance (.ref a) (.type "tuple") >>= _) _ _ s
 refine wpAny_bind (wpAny_isInstance hT isSubtype_tuple_tuple ?_)
 simp only[Bool.not_true,Bool.false_eq_true,if_false]
 refine wpAny_bind (wpAny_seqItems ho hd ?_)
 refine wpAny_bind ?_
 show wpAny _ _ (forIn #[x,y] _ _) _ _ s
 rw[← Array.forIn_toList]
 refine wpAny_forIn_list _ (fun rest r s'=>r.1=none∧s'=s∧(rest=[x,y]∨rest=[y]∨rest=[])) _ ?_ ?_ _ _ ⟨rfl,rfl,.inl rfl⟩
 ·rintro v rest r s' ⟨hr,rfl,hz | hz | hz⟩
  ·cases hz
   refine wpAny_bind (ik.quiet (by omega) h1 ?_)
   simp only[Bool.not_true,Bool.false_eq_true,if_false]
   exact wpAny_pure ⟨rfl,rfl,by simp⟩
  ·cases hz
   refine wpAny_bind (jk.quiet (by omega) h2 ?_)
   simp only[Bool.not_true,Bool.false_eq_true,if_false]
   exact wpAny_pure ⟨rfl,rfl,by simp⟩
  ·cases hz
 ·rintro⟨r1,r2⟩ s' ⟨hr,rfl,_⟩
  simp only at hr
  subst hr
  exact wpAny_pure h
noncomputable def zjz(ik:ItemKind prog w K)(jk:ItemKind prog w K')(hd:ik.dep≤7)(hd':jk.dep≤7):HeapKind prog w (K×K') where
 is:=IsPairK ik jk
 hash:=zfw ik jk
 draws:=zcd ik jk
 room:=fun A=>A.units < cLine∧ik.room A.in1∧jk.room A.in1
 inj:=fun hx hy=>hx.inj hy
 keeps:=fun x ho hd hs=>x.keeps ho hd hs
 pyHash:=fun hu hk h=>zge hu.1 hu.2.1 hu.2.2 hk h
 eqBool:=fun hu hx hy h=>zk3 hu.1 hu.2.1 hu.2.2 hx hy h
 quiet:=fun hk h=>zdn (by omega) (by omega) hk h
noncomputable def yn(prog:Program)(w:World):HeapKind prog w (List (List Int)×Int):=zjz (uz (uz q9)) q9 (show 2≤7 by decide) (show 0≤7 by decide)
end
end Mine
end
section
namespace Mine
open PySem PyProof.Rows
section
variable{prog:Program}{w:World}{h:Heap}
theorem int_is{v:Value}{i:Int}:(intKind prog w).is i v=true↔∃ t,v=.int i t:=by
 constructor
 ·intro e
  cases v with
  | int j t=>exact⟨t,by have:=(intKind prog w).inj _ _ _ e (intKind_is _ _ j t);rw[this]⟩
  | _=>cases e
 ·rintro⟨t,rfl⟩;exact intKind_is _ _ _ _
theorem zbj:∀ {c:List Int} {vs:List Value} {as:List Addr},ReadsAll h vs (c.map .int) as→ItemsK (q9 (prog:=prog) (w:=w)) h c vs
 | [],_,_,.nil=>.nil
 | _::_,_,_,.cons r rs=>by cases r;exact .cons (int_is.mpr ⟨_,rfl⟩) (zbj rs)
theorem items_int:∀ {c:List Int} {vs:List Value},ItemsK (q9 (prog:=prog) (w:=w)) h c vs→ReadsAll h vs (c.map .int) []
 | _,_,.nil=>.nil
 | _,_,.cons r rs=>by obtain⟨t,rfl⟩:=int_is.mp r;exact ReadsAll.cons (as:=[]) (bs:=[]) (.int _ t) (items_int rs)
theorem zaz:∀ {c:List (List Int)} {vs:List Value} {as:List Addr},ReadsAll h vs (c.map fun c=>.tuple (c.map .int)) as→ItemsK (uz (q9 (prog:=prog) (w:=w))) h c vs
 | [],_,_,.nil=>.nil
 | _::_,_,_,.cons r rs=>by
   cases r with
   | tuple h1 h2 h3 h4=>exact .cons ⟨_,rfl,_,_,_,h1,h2,h3,zbj h4⟩ (zaz rs)
theorem zbh:∀ {c:List (List Int)} {vs:List Value},ItemsK (uz (q9 (prog:=prog) (w:=w))) h c vs→ReadsAll h vs (c.map fun c=>.tuple (c.map .int)) []
 | _,_,.nil=>.nil
 | _,_,.cons r rs=>by
   obtain⟨a,rfl,o,its,n,h1,h2,h3,h4⟩:=r
   exact ReadsAll.cons (as:=[]) (bs:=[]) (.tuple h1 h2 h3 (items_int h4)) (zbh rs)
theorem u4{k:MKey}{v:Value}{as:List Addr}(r:Reads h v (p9 k) as):∃ a,v=.ref a∧(yn prog w).is h k a:=by
 cases r with
 | @tuple a o vs n xs bs h1 h2 h3 h4=>
   refine⟨a,rfl,?_⟩
   obtain⟨l⟩:=vs
   cases h4 with
   | cons r1 r2=>cases r2 with
     | cons r3 r4=>
       cases r4
       cases r1 with
       | tuple g1 g2 g3 g4=>
         cases r3 with
         | int i t=>exact⟨o,_,_,n,h1,h2,h3,⟨_,rfl,_,_,_,g1,g2,g3,zaz g4⟩,int_is.mpr ⟨t,rfl⟩⟩
theorem zf0{k:MKey}{a:Addr}(r:(yn prog w).is h k a):Reads h (.ref a) (p9 k) []:=by
 obtain⟨o,x,y,n,h1,h2,h3,⟨b,rfl,o',its,n',g1,g2,g3,g4⟩,h5⟩:=r
 obtain⟨t,rfl⟩:=int_is.mp h5
 exact .tuple h1 h2 h3 (ReadsAll.cons (as:=[]) (bs:=[]) (.tuple g1 g2 g3 (zbh g4)) (ReadsAll.cons (as:=[]) (bs:=[]) (.int _ t) .nil))
theorem zh7(k:MKey):(yn prog w).hash k=zoo k:=rfl
noncomputable def w4(h:Heap)(N β:List Addr)(xs:List (MKey×Addr×Value))(kvs:List (MKey×PyData)):Prop:=
 xs.length=kvs.length∧∀ (i:Nat) x kv,xs[i]?=some x→kvs[i]?=some kv→x.1=kv.1∧∃ bs,Reads h x.2.2 kv.2 bs∧∀ b∈bs,b∉β∧b∉N
theorem zcu{N β:List Addr}{d:Addr}{kvs:List (MKey×PyData)}(hp:Plain h d)(hd:DictAt h N β d kvs):∃ xs,h.DictOfH (yn prog w) d xs∧w4 h N β xs kvs:=by
 obtain⟨o,es,n,h1,h2,h3,⟨h4,hn⟩,h5⟩:=hd
 obtain⟨o',h1',hd',hs'⟩:=hp
 rw[h1] at h1';cases h1'
 have key:∀ (es:List DictEntry) (kvs:List (MKey×PyData)),es.length=kvs.length→(∀ (i:Nat) e kv,es[i]?=some e→kvs[i]?=some kv→zhs h N β e kv) →
  ∃ xs,es=xs.map (entryOfKey (yn prog w))∧(∀ x∈xs,(yn prog w).is h x.1 x.2.1)∧xs.map (·.1)=kvs.map (·.1)∧w4 h N β xs kvs:=by
  intro es
  induction es with
  | nil=>
    intro kvs hl _
    cases kvs with
    | nil=>exact⟨[],rfl,fun _ h=>(nomatch h),rfl,rfl,fun i x kv hx=>by simp at hx⟩
    | cons _ _=>cases hl
  | cons e es ih=>
    intro kvs hl hE
    cases kvs with
    | nil=>cases hl
    | cons kv kvs=>
      obtain⟨xs,e1,e2,e3,e4,e5⟩:=ih kvs (by simpa using hl) fun i e' kv' he hk=>hE (i+1) e' kv' (by simpa using he) (by simpa using hk)
      obtain⟨hq,as,bs,r1,r2,q⟩:=hE 0 e kv rfl rfl
      obtain⟨a,ha,hk⟩:=u4 (prog:=prog) (w:=w) r1
      refine⟨(kv.1,a,e.val)::xs,?_,fun x hx=>?_,by simp[e3],by simp[e4],fun i x kv' hx hk'=>?_⟩
      ·rw[List.map_cons,← e1]
       congr 1
       obtain⟨eh,ek,ev⟩:=e
       dsimp only at ha hq
       subst ha;subst hq
       rfl
      ·rcases List.mem_cons.mp hx with rfl | hx
       ·exact hk
       ·exact e2 x hx
      ·cases i with
       | zero=>
         simp at hx hk'
         subst hx;subst hk'
         exact⟨rfl,bs,r2,fun b hb=>q b (List.mem_append_right _ hb)⟩
       | succ i=>exact e5 i x kv' (by simpa using hx) (by simpa using hk')
 obtain⟨xs,e1,e2,e3,e4⟩:=key es.toList kvs (by simpa using h4) fun i e kv he hk=>h5 i e kv (by simpa using he) hk
 exact⟨xs,⟨o,es,n,h1,⟨h2,hd',hs'⟩,h3,e1,e2,by rw[e3];exact hn⟩,e4⟩
theorem znu{N β:List Addr}{d:Addr}{xs:List (MKey×Addr×Value)}{kvs:List (MKey×PyData)}(hd:h.DictOfH (yn prog w) d xs)(hv:w4 h N β xs kvs):DictAt h N β d kvs∧Plain h d:=by
 obtain⟨o,es,n,h1,⟨h2,g1,g2⟩,h3,h4,h5,h6⟩:=hd
 have hl:es.size=xs.length:=by rw[← Array.length_toList,h4,List.length_map]
 refine⟨⟨o,es,n,h1,h2,h3,⟨hl.trans hv.1,?_⟩,fun i e kv he hk=>?_⟩,o,h1,g1,g2⟩
 ·have:kvs.map (·.1)=xs.map (·.1):=by
   refine List.ext_getElem? fun i=>?_
   rw[List.getElem?_map,List.getElem?_map]
   cases hx:xs[i]? with
   | none=>
     have:kvs[i]?=none:=by rw[List.getElem?_eq_none_iff] at hx ⊢;rw[← hv.1];exact hx
     rw[this];rfl
   | some x=>
     have hi:=(List.getElem?_eq_some_iff.mp hx).1
     rw[hv.1] at hi
     have hk:kvs[i]?=some kvs[i]:=List.getElem?_eq_getElem hi
     rw[hk]
     exact congrArg some ((hv.2 i x _ hx hk).1).symm
  rw[this];exact h6
 ·have he':es.toList[i]?=some e:=by simpa using he
  rw[h4,List.getElem?_map] at he'
  cases hx:xs[i]? with
  | none=>rw[hx] at he';cases he'
  | some x=>
    rw[hx] at he'
    cases he'
    obtain⟨e1,bs,r,q⟩:=hv.2 i x kv hx hk
    obtain⟨kk,dd⟩:=kv
    have e1:x.1=kk:=e1
    subst e1
    exact⟨zh7 _,[],bs,zf0 (h5 x (List.mem_of_getElem? hx)),r,fun b hb=>q b (by simpa using hb)⟩
theorem qt{N β:List Addr}{k:MKey}:∀ {xs:List (MKey×Addr×Value)} {kvs:List (MKey×PyData)},w4 h N β xs kvs→(atKey xs k=none∧z0 kvs k=none)∨∃ p d bs,atKey xs k=some p∧z0 kvs k=some d∧Reads h p.2 d bs∧∀ b∈bs,b∉β∧b∉N
 | [],[],_=>.inl ⟨rfl,rfl⟩
 | [],_::_,hv=>by cases hv.1
 | _::_,[],hv=>by cases hv.1
 | x::xs,kv::kvs,hv=>by
   obtain⟨e,bs,r,q⟩:=hv.2 0 x kv rfl rfl
   by_cases hk:x.1=k
   ·right
    refine⟨x.2,kv.2,bs,by simp[atKey,hk],by simp[z0,← e,hk],r,q⟩
   ·have hk':¬ kv.1=k:=by rw[← e];exact hk
    have:=qt (k:=k) (xs:=xs) (kvs:=kvs) ⟨by simpa using hv.1,fun i x' kv' h1 h2=>hv.2 (i+1) x' kv' (by simpa using h1) (by simpa using h2)⟩
    have e1:atKey (x::xs) k=atKey xs k:=by simp[atKey,hk]
    have e2:z0 (kv::kvs) k=z0 kvs k:=by simp[z0,hk']
    rw[e1,e2]
    exact this
end
set_option tactic.hygienic true in
theorem zha:∀ {xs:List PyData} {is:List Int},intsOf xs=some is→xs=is.map PyData.int
 | [],_,h=>by cases h;rfl
 | x::xs,is,h=>by
   cases x <;> first | (cases h;done) | skip
   rename_i i
   unfold intsOf at h
   cases hr:intsOf xs with
   | none=>rw[hr] at h;cases h
   | some r=>rw[hr] at h;cases h;rw[zha hr];rfl
theorem zgw:∀ {xs:List PyData} {kss:List (List Int)},x9 xs=some kss→xs=kss.map fun c=>PyData.tuple (c.map .int)
 | [],_,h=>by cases h;rfl
 | x::xs,kss,h=>by
   unfold x9 at h
   cases hx:tupI x with
   | none=>rw[hx] at h;cases h
   | some c=>
     rw[hx] at h
     cases hr:x9 xs with
     | none=>rw[hr] at h;cases h
     | some r=>
       rw[hr] at h;cases h
       rw[zgw hr]
       cases x <;> first | (cases hx;done) | skip
       have hx:intsOf _=some c:=hx
       rw[zha hx];rfl
set_option tactic.hygienic true in
theorem de{x:PyData}{k:MKey}(h:keyOf x=some k):x=p9 k:=by
 unfold keyOf at h
 split at h
 ·rename_i xs n
  cases hr:x9 xs with
  | none=>rw[hr] at h;cases h
  | some r=>rw[hr] at h;cases h;rw[zgw hr];rfl
 ·cases h
section
variable{G:Gl}{F:Fm}{A:Around}{s:Shared}{β:List Addr}{ρ:Loc}{O:za}
theorem Room.memo{k:Nat}(ro:Room A k):(yn G.prog G.w).room A.in1:=by
 have h:=ro.units
 have hc:cLine=9900:=rfl
 refine⟨?_,⟨?_,?_,trivial⟩,trivial⟩
 ·show A.units+1 < cLine;omega
 ·show A.units+1+1 < cLine;omega
 ·show A.units+1+1+1 < cLine;omega
theorem zar{d a:Addr}{k:MKey}{xs:List (MKey×Addr×Value)}{E:Value→Shared→Prop}{Q:Bool→Shared→Prop}(hu:(yn G.prog G.w).room A.in1)(hkey:(yn G.prog G.w).is s.heap k a)(hd:(d == sysModules)=false)(hm:s.heap.DictOfH (yn G.prog G.w) d xs)
 (h:Q (atKey xs k).isSome { s with toks:=s.toks+(yn G.prog G.w).draws k }):wpAny (model G.prog G.w) A (contains (.ref d) (.ref a)) Q E s:=by
 unfold contains
 try with_reducible refine wpAny_holding ?_
 refine wpAny_bind (wpAny_specialOf hm.typeIs slot_dict_contains.lookup ?_)
 show wpAny _ _ (if (some (Value.builtin "dict.__contains__") == some Value.none)=true then _ else _) _ E s
 rw[if_neg (by rw[beq_builtin_none];exact Bool.false_ne_true)]
 refine wpAny_bind (wpAny_callSpecialUnlessNone?_slot (name:=Str.ofString "__contains__") hm.typeIs slot_dict_contains
  (wpAny_call_entry slot_dict_contains hm.typeIs entry_dict_contains ?_ (args_dict_contains _ _)))
 show wpAny _ _ (dictGet d (.ref a) >>= _) _ _ s
 refine wpAny_bind (wpAny_dictGet_heap hu hkey hm ?_)
 cases hf:atKey xs k with
 | some p=>
   rw[hf] at h
   show wpAny _ _ (ret (.bool true)) _ _ _
   exact wpAny_pure ⟨_,rfl,wpAny_truthy_bool h⟩
 | none=>
   rw[hf] at h
   show wpAny _ _ (Builtin.Dict.pendingKey? d (.ref a) >>= _) _ _ _
   exact wpAny_bind (wpAny_pendingKey_other hd (wpAny_pure ⟨_,rfl,wpAny_truthy_bool h⟩))
theorem zaq{v u:Value}{n:Nat}{x:PyData}{kvs:List (MKey×PyData)}{q:MKey}{k:Nat}(ro:Room A k)(sr:SR G F β ρ O s.heap)(ho:O[n]?=some (.dct kvs))(hk:keyOf x=some q)
 (rv:VR G F.B β s.heap v (.d x)) (ru:VR G F.B β s.heap u (.box n)) :
 Does G F A s β (compareOp .NotIn v u) ((R.ok (V.d (.bool !(z0 kvs q).isSome)) O).lift ρ) (VRel G F):=by
 obtain⟨d,hd,rfl⟩:=ru
 obtain⟨as,r,_⟩:=rv
 rw[de hk] at r
 obtain⟨a,rfl,hkey⟩:=u4 (prog:=G.prog) (w:=G.w) r
 have hm:=List.mem_of_getElem? hd
 obtain⟨xs,hD,hv⟩:=zcu (prog:=G.prog) (w:=G.w) (sr.br.plain d hm) (sr.br.at_ n d _ hd ho)
 refine Does.leaf sr fun Q E kk=>?_
 show wpAny _ _ (do return Value.bool (!(← contains (.ref d) (.ref a)))) Q E s
 refine wpAny_bind (zar ro.memo hkey (G.notSys (sr.br.new d hm)) hD (wpAny_pure ?_))
 have e:(atKey xs q).isSome=(z0 kvs q).isSome:=by
  rcases qt (k:=q) hv with ⟨e1,e2⟩ | ⟨p,d',bs,e1,e2,_⟩ <;> rw[e1,e2] <;> rfl
 rw[e]
 exact kk _ _ (KeepsAll.toks s _) VR.bool
theorem zel{value slice:Expr}{v u:Value}{n:Nat}{x:PyData}{kvs:List (MKey×PyData)}{q:MKey}{k:Nat}(ro:Room A k)(sr:SR G F β ρ O s.heap)(ho:O[n]?=some (.dct kvs))(hk:keyOf x=some q)
 (rv:VR G F.B β s.heap v (.box n)) (ru:VR G F.B β s.heap u (.d x)) (hs:subscripted slice false v u=operate [v,u] (getItem v u)) :
 Does G F A s β (subscriptTail value slice v u) ((opt ((z0 kvs q).map V.d) O).lift ρ) (VRel G F):=by
 obtain⟨d,hd,rfl⟩:=rv
 obtain⟨as,r,_⟩:=ru
 rw[de hk] at r
 obtain⟨a,rfl,hkey⟩:=u4 (prog:=G.prog) (w:=G.w) r
 have hm:=List.mem_of_getElem? hd
 obtain⟨xs,hD,hv⟩:=zcu (prog:=G.prog) (w:=G.w) (sr.br.plain d hm) (sr.br.at_ n d _ hd ho)
 rcases qt (k:=q) hv with ⟨e1,e2⟩ | ⟨p,d',bs,e1,e2,r',hb⟩
 ·rw[e2];trivial
 ·rw[e2]
  refine Does.leaf sr fun Q E kk=>?_
  refine tail_any (T:="dict") hD.typeIs slot_dict_getitem.lookup ?_ hs
  exact wpAny_getItem_heap ro.memo hkey hD e1 (kk _ _ (KeepsAll.toks s _) ⟨bs,r',hb⟩)
end
end Mine
end
section
namespace Mine
open PySem PySem.SetTable
noncomputable abbrev Ent:=Nat×Int×Value
noncomputable def places(L:List Ent):Array Nat:=(L.map (·.1)).toArray
noncomputable def elems(L:List Ent):Array (Int×Value):=(L.map (·.2)).toArray
noncomputable def Rise(L:List Ent):Prop:=L.Pairwise fun a b=>a.1 < b.1
theorem zlu{xs:Array Nat}{j c:Nat}(h:∀ i (hi:i < xs.size),xs[i] < j↔i < c):∀ (fuel lo hi:Nat),lo≤c→c≤hi→hi≤xs.size→hi≤fuel+lo→below.go xs j fuel lo hi=c:=by
 intro fuel
 induction fuel with
 | zero=>exact fun lo hi h1 h2 _ h4=>Nat.le_antisymm h1 (Nat.le_trans h2 (Nat.zero_add lo ▸ h4))
 | succ fuel ih=>
   intro lo hi h1 h2 h3 h4
   show (if lo < hi then (if xs.getD ((lo+hi) / 2) j < j then below.go xs j fuel ((lo+hi) / 2+1) hi else below.go xs j fuel lo ((lo+hi) / 2)) else lo)=c
   by_cases hl:lo < hi
   ·have a1:lo≤(lo+hi) / 2:=by omega
    have a2:(lo+hi) / 2 < hi:=by omega
    generalize (lo+hi) / 2=m at a1 a2
    have hm:m < xs.size:=Nat.lt_of_lt_of_le a2 h3
    have e:xs.getD m j=xs[m]:=by rw[Array.getD_eq_getD_getElem?,Array.getElem?_eq_getElem hm];rfl
    rw[if_pos hl,e]
    by_cases hx:xs[m] < j
    ·rw[if_pos hx]
     exact ih _ hi ((h _ hm).mp hx) h2 h3 (Nat.le_trans h4 (by omega))
    ·rw[if_neg hx]
     exact ih lo _ h1 (Nat.le_of_not_lt fun q=>hx ((h _ hm).mpr q)) (Nat.le_of_lt hm) (Nat.le_of_lt_succ (Nat.lt_of_lt_of_le a2 (Nat.succ_add fuel lo ▸ h4)))
   ·rw[if_neg hl]
    exact Nat.le_antisymm h1 (Nat.le_trans h2 (Nat.le_of_not_lt hl))
theorem zlv{xs:Array Nat}{j c:Nat}(hc:c≤xs.size)(h:∀ i (hi:i < xs.size),xs[i] < j↔i < c):below xs j=c:=
 zlu h _ _ _ (Nat.zero_le _) hc (Nat.le_refl _) (Nat.le_refl _)
theorem jv{A B:List Ent}{j:Nat}(hA:∀ e∈A,e.1 < j)(hB:∀ e∈B,j≤e.1):below (places (A++B)) j=A.length:=by
 refine zlv (by simp[places]) fun i hi=>?_
 have hs:i < (A++B).length:=by simpa [places] using hi
 have e:(places (A++B))[i]=((A++B)[i]).1:=by
  apply Option.some.inj
  rw[← Array.getElem?_eq_getElem hi]
  unfold places
  rw[List.getElem?_toArray,List.getElem?_map,List.getElem?_eq_getElem hs]
  rfl
 rw[e]
 by_cases h:i < A.length
 ·rw[List.getElem_append_left h]
  exact⟨fun _=>h,fun _=>hA _ (List.getElem_mem _)⟩
 ·rw[List.getElem_append_right (by omega)]
  have:=hB _ (List.getElem_mem (l:=B) (n:=i - A.length) (by simp at hs;omega))
  constructor
  ·intro q;omega
  ·intro q;omega
theorem vz(j:Nat):∀ (L:List Ent),Rise L→∃ A B,L=A++B∧(∀ e∈A,e.1 < j)∧∀ e∈B,j≤e.1
 | [],_=>⟨[],[],rfl,fun _ h=>(nomatch h),fun _ h=>(nomatch h)⟩
 | x::L,h=>by
   have h':Rise L:=(List.pairwise_cons.mp h).2
   by_cases hx:x.1 < j
   ·obtain⟨A,B,rfl,h1,h2⟩:=vz j L h'
    exact⟨x::A,B,rfl,fun e he=>by
     rcases List.mem_cons.mp he with rfl | he
     ·exact hx
     ·exact h1 e he,h2⟩
   ·refine⟨[],x::L,rfl,fun _ h=>(nomatch h),fun e he=>?_⟩
    rcases List.mem_cons.mp he with rfl | he
    ·omega
    ·have:=(List.pairwise_cons.mp h).1 e he;omega
structure jw(t:SetTable)(m:Nat)(ld:Bool)(L:List Ent):Prop where
 mask:t.mask=m
 place:t.place=places L
 dummies:t.dummies = #[]
 led:t.led=ld
 plain:t.plain=true
theorem za3{t:SetTable}{m:Nat}{ld:Bool}{A B:List Ent}{e:Ent}(ht:jw t m ld (A++e::B))(hr:Rise (A++e::B)):t.slot e.1=.live A.length:=by
 have hA:∀ x∈A,x.1 < e.1:=fun x hx=>(List.pairwise_append.mp hr).2.2 x hx e List.mem_cons_self
 have hB:∀ x∈e::B,e.1≤x.1:=fun x hx=>by
  rcases List.mem_cons.mp hx with rfl | hx
  ·exact Nat.le_refl _
  ·exact Nat.le_of_lt ((List.pairwise_cons.mp (List.pairwise_append.mp hr).2.1).1 x hx)
 unfold slot
 rw[ht.place,jv hA hB]
 dsimp only
 rw[if_pos]
 simp[places]
theorem zfk{t:SetTable}{m:Nat}{ld:Bool}{L:List Ent}{j:Nat}(ht:jw t m ld L)(hr:Rise L)(hj:∀ e∈L,e.1≠j):t.slot j=.empty:=by
 obtain⟨A,B,rfl,hA,hB⟩:=vz j L hr
 unfold slot
 rw[ht.place,jv hA hB,ht.dummies]
 dsimp only
 have h1:((places (A++B))[A.length]? == some j)=false:=by
  cases B with
  | nil=>simp[places]
  | cons b B=>
    have:(places (A++b::B))[A.length]?=some b.1:=by simp[places]
    rw[this]
    have hb:=hj b (by simp)
    simpa using hb
 rw[if_neg (by rw[h1];decide)]
 have h2:has #[] j=false:=by simp[has]
 rw[if_neg (by rw[h2];decide)]
theorem zpw{t:SetTable}{m:Nat}{ld:Bool}{L:List Ent}{j:Nat}(ht:jw t m ld L)(hr:Rise L)(hj:∀ e∈L,e.1≠j)(h:Int)(x:Value):∃ A B,L=A++B∧(t.put j).2=A.length∧jw (t.put j).1 m ld (A++(j,h,x)::B)∧Rise (A++(j,h,x)::B) ∧
 insertAt (elems L) A.length (h,x)=elems (A++(j,h,x)::B):=by
 obtain⟨A,B,rfl,hA,hB⟩:=vz j L hr
 have hB':∀ e∈B,j < e.1:=fun e he=>Nat.lt_of_le_of_ne (hB e he) (fun q=>hj e (List.mem_append_right _ he) q.symm)
 have ins:∀ {α:Type} (f:Ent→α) (z:α),insertAt ((A++B).map f).toArray A.length z=(A.map f++z::B.map f).toArray:=by
  intro α f z
  unfold insertAt
  apply Array.toList_inj.mp
  simp
  exact List.take_of_length_le (by simp)
 refine⟨A,B,rfl,?_,⟨ht.mask,?_,?_,ht.led,ht.plain⟩,?_,?_⟩
 ·unfold put;dsimp only;rw[ht.place,jv hA hB]
 ·unfold put;dsimp only
  rw[ht.place,jv hA hB]
  unfold places
  rw[ins];simp
 ·unfold put;dsimp only
  rw[ht.dummies]
  rfl
 ·refine List.pairwise_append.mpr ⟨(List.pairwise_append.mp hr).1,List.pairwise_cons.mpr ⟨hB',(List.pairwise_append.mp hr).2.1⟩,fun a ha b hb=>?_⟩
  rcases List.mem_cons.mp hb with rfl | hb
  ·exact hA a ha
  ·exact (List.pairwise_append.mp hr).2.2 a ha b hb
 ·unfold elems
  rw[ins];simp
noncomputable def advM(m:Nat)(p:Probe):Probe:=
 if p.more > 0 then { p with j:=p.j+1,more:=p.more - 1 } else
 { p with j:=(leap m p.i p.perturb).1,more:=runEnd m (leap m p.i p.perturb).1 - (leap m p.i p.perturb).1,i:=(leap m p.i p.perturb).1,perturb:=(leap m p.i p.perturb).2 }
theorem zgo(t:SetTable)(p:Probe):t.advance p=advM t.mask p:=by unfold advance advM;split <;> rfl
noncomputable def lp(m i pt:Nat):Probe:={ j:=i,more:=runEnd m i - i,i:=i,perturb:=pt,dummy:=none }
noncomputable def advN(m:Nat):Nat→Probe→Probe
 | 0,p=>p
 | n+1,p=>advN m n (advM m p)
theorem xz(m:Nat):∀ (a b:Nat) (p:Probe),advN m (a+b) p=advN m b (advN m a p)
 | 0,b,p=>by rw[Nat.zero_add];rfl
 | a+1,b,p=>by rw[Nat.succ_add];exact xz m a b (advM m p)
theorem zaf(m:Nat):∀ (k:Nat) (p:Probe),k≤p.more→advN m k p = { p with j:=p.j+k,more:=p.more - k }
 | 0,p,_=>rfl
 | k+1,p,h=>by
   rw[advN,zaf m k _ (by unfold advM;rw[if_pos (by omega)];show k≤p.more - 1;omega)]
   unfold advM
   rw[if_pos (by omega)]
   simp only[Probe.mk.injEq]
   refine⟨by omega,by omega,trivial,trivial,trivial⟩
theorem uc(m:Nat)(p:Probe)(hd:p.dummy=none):advN m (p.more+1) p=lp m (leap m p.i p.perturb).1 (leap m p.i p.perturb).2:=by
 rw[xz,zaf m _ _ (Nat.le_refl _)]
 show advM m _=_
 unfold advM lp
 rw[if_neg (by show ¬ (p.more - p.more > 0);omega)]
 simp[hd]
theorem more_le{m i:Nat}:runEnd m i - i≤9:=by unfold runEnd;split <;> omega
noncomputable def lpN(m:Nat):Nat→Nat×Nat→Nat×Nat
 | 0,x=>x
 | q+1,x=>lpN m q (leap m x.1 x.2)
theorem zg5(m:Nat):∀ (a b:Nat) (x:Nat×Nat),lpN m (a+b) x=lpN m b (lpN m a x)
 | 0,b,x=>by rw[Nat.zero_add];rfl
 | a+1,b,x=>by rw[Nat.succ_add];exact zg5 m a b _
theorem zok(m:Nat):∀ (q i pt:Nat),∃ n,n≤10 * q∧advN m n (lp m i pt)=lp m (lpN m q (i,pt)).1 (lpN m q (i,pt)).2
 | 0,i,pt=>⟨0,Nat.le_refl _,rfl⟩
 | q+1,i,pt=>by
   obtain⟨n,h1,h2⟩:=zok m q (leap m i pt).1 (leap m i pt).2
   refine⟨(lp m i pt).more+1+n,?_,?_⟩
   ·have:(lp m i pt).more≤9:=more_le
    omega
   ·rw[xz,uc m _ rfl]
    exact h2
theorem zj5(m:Nat):∀ (q i pt:Nat),(lpN m q (i,pt)).2=pt / 32 ^ q
 | 0,i,pt=>by simp[lpN]
 | q+1,i,pt=>by
   show (lpN m q ((leap m i pt).1,(leap m i pt).2)).2=_
   rw[zj5 m q]
   show pt / 32 / 32 ^ q=_
   rw[Nat.div_div_eq_div_mul,Nat.pow_succ,Nat.mul_comm]
theorem zj6(m:Nat):∀ (q i pt:Nat),i≤m→(lpN m q (i,pt)).1≤m
 | 0,i,pt,h=>h
 | q+1,i,pt,h=>zj6 m q _ _ (by show (i * 5+1+pt / 32) % (m+1)≤m;have:=Nat.mod_lt (i * 5+1+pt / 32) (show 0 < m+1 by omega);omega)
noncomputable def full(m:Nat):Bool:=(List.range (m+1)).all fun i=>(List.range (m+1)).all fun j=>(List.range (m+1)).any fun q=>(lpN m q (i,0)).1 == j
theorem zsz:full 7=true:=by decide +kernel
theorem zku:full 31=true:=by decide +kernel
theorem g7{m:Nat}(hf:full m=true){i pt j:Nat}(hi:i≤m)(hp:pt < 2 ^ 64)(hj:j≤m):∃ q,q≤13+m∧(lpN m q (i,pt)).1=j:=by
 have h0:(lpN m 13 (i,pt)).2=0:=by rw[zj5];exact Nat.div_eq_of_lt (Nat.lt_of_lt_of_le hp (by decide))
 have h1:=zj6 m 13 i pt hi
 unfold full at hf
 have h2:=List.all_eq_true.mp (List.all_eq_true.mp hf _ (List.mem_range.mpr (Nat.lt_succ_of_le h1))) j (List.mem_range.mpr (Nat.lt_succ_of_le hj))
 obtain⟨q,hq,h3⟩:=List.any_eq_true.mp h2
 rw[List.mem_range] at hq
 refine⟨13+q,by omega,?_⟩
 rw[zg5]
 have:lpN m 13 (i,pt)=((lpN m 13 (i,pt)).1,0):=Prod.ext rfl h0
 rw[this]
 exact beq_iff_eq.mp h3
structure Stand(m:Nat)(p:Probe):Prop where
 d:p.dummy=none
 i:p.i≤m
 pt:p.perturb < 2 ^ 64
 more:p.more≤9
theorem zho(h:Int):bits h < 2 ^ 64:=by
 unfold bits
 have h1:0≤h % (2 ^ 64:Int):=Int.emod_nonneg _ (by decide)
 have h2:h % (2 ^ 64:Int) < 2 ^ 64:=Int.emod_lt_of_pos _ (by decide)
 omega
theorem Stand.lp{m i pt:Nat}(hi:i≤m)(hp:pt < 2 ^ 64):Stand m (lp m i pt):=⟨rfl,hi,hp,more_le⟩
theorem Stand.adv{m:Nat}{p:Probe}(h:Stand m p):Stand m (advM m p):=by
 unfold advM
 split
 ·exact⟨h.d,h.i,h.pt,by show p.more - 1≤9;have:=h.more;omega⟩
 ·refine⟨h.d,?_,?_,more_le⟩
  ·show (p.i * 5+1+p.perturb / 32) % (m+1)≤m
   have:=Nat.mod_lt (p.i * 5+1+p.perturb / 32) (show 0 < m+1 by omega);omega
  ·show p.perturb / 32 < 2 ^ 64
   have:=h.pt;omega
theorem Stand.advN{m:Nat}:∀ (n:Nat) {p:Probe},Stand m p→Stand m (advN m n p)
 | 0,_,h=>h
 | n+1,_,h=>Stand.advN n h.adv
theorem meets{m:Nat}(hf:full m=true){p:Probe}(hp:Stand m p){j:Nat}(hj:j≤m):∃ n,n < 10 * turns m∧(advN m n p).j=j:=by
 have hl:(leap m p.i p.perturb).1≤m:=by
  show (p.i * 5+1+p.perturb / 32) % (m+1)≤m
  have:=Nat.mod_lt (p.i * 5+1+p.perturb / 32) (show 0 < m+1 by omega);omega
 have h2:(leap m p.i p.perturb).2 < 2 ^ 64:=by
  show p.perturb / 32 < 2 ^ 64
  have:=hp.pt;omega
 obtain⟨q,hq,e⟩:=g7 hf hl h2 hj
 obtain⟨n,hn,en⟩:=zok m q (leap m p.i p.perturb).1 (leap m p.i p.perturb).2
 refine⟨p.more+1+n,?_,?_⟩
 ·have:=hp.more
  unfold turns
  omega
 ·rw[xz,uc m p hp.d,en]
  exact e
theorem nodup_le:∀ {l l':List Nat},l.Nodup→(∀ x∈l,x∈l')→l.length≤l'.length
 | [],_,_,_=>Nat.zero_le _
 | a::l,l',hn,hs=>by
   obtain⟨h1,h2⟩:=List.nodup_cons.mp hn
   have:=nodup_le (l':=l'.erase a) h2 fun x hx=>(List.mem_erase_of_ne (fun e=>h1 (by rw[← e];exact hx))).mpr (hs x (List.mem_cons_of_mem _ hx))
   rw[List.length_erase_of_mem (hs a List.mem_cons_self)] at this
   have hp:0 < l'.length:=List.length_pos_of_mem (hs a List.mem_cons_self)
   rw[List.length_cons]
   omega
noncomputable def FirstFree(L:List Ent)(m n:Nat)(p:Probe):Prop:=(∀ e∈L,e.1≠(advN m n p).j)∧∀ k,k < n→∃ e∈L,e.1=(advN m k p).j
theorem zik{L:List Ent}{m:Nat}(hf:full m=true)(hl:L.length≤m){p:Probe}(hp:Stand m p):∃ n,n < 10 * turns m∧FirstFree L m n p:=by
 have hfree:∃ j,j≤m∧∀ e∈L,e.1≠j:=by
  refine Classical.byContradiction fun hn=>?_
  have hall:∀ j,j∈List.range (m+1)→j∈L.map (·.1):=fun j hj=>by
   refine Classical.byContradiction fun hc=>hn ⟨j,Nat.lt_succ_iff.mp (List.mem_range.mp hj),fun e he q=>hc (List.mem_map.mpr ⟨e,he,q⟩)⟩
  have:=nodup_le List.nodup_range hall
  simp at this
  omega
 obtain⟨j,hj,hfr⟩:=hfree
 obtain⟨n,hn,e⟩:=meets hf hp hj
 have key:∀ n,(∀ e∈L,e.1≠(advN m n p).j)→∃ k,k≤n∧FirstFree L m k p:=by
  intro n
  induction n using Nat.strongRecOn with
  | ind n ih=>
    intro h
    by_cases hx:∃ k,k < n∧∀ e∈L,e.1≠(advN m k p).j
    ·obtain⟨k,hk,h'⟩:=hx
     obtain⟨k',h1,h2⟩:=ih k hk h'
     exact⟨k',by omega,h2⟩
    ·refine⟨n,Nat.le_refl _,h,fun k hk=>?_⟩
     refine Classical.byContradiction fun hc=>hx ⟨k,hk,fun e he q=>hc ⟨e,he,q⟩⟩
 obtain⟨k,h1,h2⟩:=key n (by rw[e];exact hfr)
 exact⟨k,by omega,h2⟩
noncomputable def yy(m:Nat)(h:Int):Probe:=lp m (bits h % (m+1)) (bits h)
theorem zc8(m:Nat)(h:Int):Stand m (yy m h):=.lp (by have:=Nat.mod_lt (bits h) (show 0 < m+1 by omega);omega) (zho h)
noncomputable def Reach(L:List Ent)(m:Nat):Prop:=∀ e∈L,∃ n,(advN m n (yy m e.2.1)).j=e.1∧∀ k,k < n→∃ e'∈L,e'.1=(advN m k (yy m e.2.1)).j
theorem Reach.before{L:List Ent}{m n:Nat}{e:Ent}(hr:Reach L m)(he:e∈L)(hf:FirstFree L m n (yy m e.2.1)):∃ k,k < n∧(advN m k (yy m e.2.1)).j=e.1:=by
 obtain⟨k,h1,h2⟩:=hr e he
 refine⟨k,?_,h1⟩
 rcases Nat.lt_trichotomy k n with h | h | h
 ·exact h
 ·subst h;exact absurd h1.symm (hf.1 e he)
 ·obtain⟨e',he',h3⟩:=h2 n h
  exact absurd h3 (hf.1 e' he')
theorem Reach.put{A B:List Ent}{m n:Nat}{h:Int}{x:Value}(hr:Reach (A++B) m)(hf:FirstFree (A++B) m n (yy m h)):Reach (A++((advN m n (yy m h)).j,h,x)::B) m:=by
 have sub:∀ e∈A++B,e∈A++((advN m n (yy m h)).j,h,x)::B:=fun e he=>by
  rcases List.mem_append.mp he with he | he
  ·exact List.mem_append_left _ he
  ·exact List.mem_append_right _ (List.mem_cons_of_mem _ he)
 have old:∀ e∈A++B,∃ n',(advN m n' (yy m e.2.1)).j=e.1∧∀ k,k < n'→∃ e'∈A++((advN m n (yy m h)).j,h,x)::B,e'.1=(advN m k (yy m e.2.1)).j:=fun e he=>by
  obtain⟨k,h1,h2⟩:=hr e he
  exact⟨k,h1,fun i hi=>let ⟨e',he',q⟩:=h2 i hi;⟨e',sub e' he',q⟩⟩
 intro e he
 rcases List.mem_append.mp he with he | he
 ·exact old e (List.mem_append_left _ he)
 ·rcases List.mem_cons.mp he with rfl | he
  ·exact⟨n,rfl,fun k hk=>let ⟨e',he',q⟩:=hf.2 k hk;⟨e',sub e' he',q⟩⟩
  ·exact old e (List.mem_append_right _ he)
section
variable{m:Nat}{owner:Array (Option Nat)}
noncomputable def Fr(owner:Array (Option Nat))(j:Nat):Prop:=owner[j]?=some none
noncomputable def Oc(owner:Array (Option Nat))(j:Nat):Prop:=∃ i,owner[j]?=some (some i)
theorem zpu{i:Nat}(hi:i≤m):runEnd m i≤m:=by unfold runEnd;split <;> omega
theorem zjq{i:Nat}:i≤runEnd m i:=by unfold runEnd;split <;> omega
theorem p0(hs:owner.size=m+1){j:Nat}(hj:j≤m):((owner.getD j (some 0)).isNone=true∧Fr owner j)∨((owner.getD j (some 0)).isNone=false∧Oc owner j):=by
 have hl:j < owner.size:=by omega
 have e:owner[j]?=some owner[j]:=Array.getElem?_eq_getElem hl
 rw[Array.getD_eq_getD_getElem?]
 unfold Fr Oc
 rw[e]
 cases owner[j] with
 | none=>exact .inl ⟨rfl,rfl⟩
 | some i=>exact .inr ⟨rfl,i,rfl⟩
theorem znc(hs:owner.size=m+1):∀ (fuel i pt q:Nat),i≤m→q < fuel→Fr owner (lpN m q (i,pt)).1→∃ n,layClean.free m owner fuel i pt=some (advN m n (lp m i pt)).j∧Fr owner (advN m n (lp m i pt)).j∧∀ k,k < n→Oc owner (advN m k (lp m i pt)).j:=by
 intro fuel
 induction fuel with
 | zero=>exact fun _ _ _ _ h=>absurd h (Nat.not_lt_zero _)
 | succ fuel ih=>
   intro i pt q hi hq hfr
   have hin:∀ k,k < runEnd m i - i+1→i+k≤m:=fun k hk=>Nat.le_trans (Nat.add_le_add_left (Nat.le_of_lt_succ hk) i) (Nat.le_trans (Nat.le_of_eq (Nat.add_sub_of_le zjq)) (zpu hi))
   have ef:layClean.free m owner (fuel+1) i pt=((List.range (runEnd m i+1 - i)).find? fun k=>(owner.getD (i+k) (some 0)).isNone).elim (layClean.free m owner fuel (leap m i pt).1 (leap m i pt).2) (fun k=>some (i+k)):=by
    show (match (List.range (runEnd m i+1 - i)).find? fun k=>(owner.getD (i+k) (some 0)).isNone with | some k=>some (i+k) | none=>layClean.free m owner fuel (leap m i pt).1 (leap m i pt).2)=_
    cases (List.range (runEnd m i+1 - i)).find? fun k=>(owner.getD (i+k) (some 0)).isNone <;> rfl
   rw[ef,Nat.succ_sub zjq]
   clear ef
   have hr:(lp m i pt).more=runEnd m i - i:=rfl
   generalize runEnd m i - i=r at hin hr
   have e:∀ k,k≤r→(advN m k (lp m i pt)).j=i+k:=fun k hk=>by
    rw[zaf m k _ (hr ▸ hk)];rfl
   cases hfind:(List.range (r+1)).find? fun k=>(owner.getD (i+k) (some 0)).isNone with
   | some k=>
     obtain⟨h1,h2,h3⟩:=List.find?_range_eq_some.mp hfind
     have h2:=List.mem_range.mp h2
     refine⟨k,congrArg some (e k (Nat.le_of_lt_succ h2)).symm,?_,fun k' hk'=>?_⟩
     ·rw[e k (Nat.le_of_lt_succ h2)]
      rcases p0 hs (hin k h2) with h | h
      ·exact h.2
      ·exact absurd (h1.symm.trans h.1) nofun
     ·have h4:=Nat.lt_trans hk' h2
      rw[e k' (Nat.le_of_lt_succ h4)]
      rcases p0 hs (hin k' h4) with h | h
      ·have:=h3 k' hk'
       rw[h.1] at this;cases this
      ·exact h.2
   | none=>
     have hall:∀ k,k < r+1→Oc owner (i+k):=fun k hk=>
      (p0 hs (hin k hk)).elim (fun h=>absurd h.1 (List.find?_eq_none.mp hfind k (List.mem_range.mpr hk))) (·.2)
     cases q with
     | zero=>
       obtain⟨i',h⟩:=hall 0 (Nat.succ_pos _)
       exact absurd ((show owner[i]?=some none from hfr).symm.trans h) nofun
     | succ q=>
       obtain⟨n,h1,h2,h3⟩:=ih (leap m i pt).1 (leap m i pt).2 q (Nat.le_of_lt_succ (Nat.mod_lt _ (Nat.succ_pos m))) (Nat.lt_of_succ_lt_succ hq) hfr
       have e':∀ k,advN m (r+1+k) (lp m i pt)=advN m k (lp m (leap m i pt).1 (leap m i pt).2):=fun k=>by
        rw[← hr,xz,uc m _ rfl];rfl
       refine⟨r+1+n,?_,?_,fun k hk=>?_⟩
       ·rw[e'];exact h1
       ·rw[e'];exact h2
       ·by_cases hk':k < r+1
        ·rw [e k (Nat.le_of_lt_succ hk')]
         exact hall k hk'
        ·obtain ⟨k',rfl⟩:=Nat.exists_eq_add_of_le (Nat.le_of_not_lt hk')
         rw [e']
         exact h3 k' (Nat.lt_of_add_lt_add_left hk)
end
structure Own(m:Nat)(owner:Array (Option Nat))(hs:List Int)(js:List Nat):Prop where
 size:owner.size=m+1
 len:js.length=hs.length
 nd:js.Nodup
 at_:∀ (j i:Nat),owner[j]?=some (some i)↔js[i]?=some j
 le:∀ j∈js,j≤m
 way:∀ (i:Nat) (h:Int) (j:Nat),hs[i]?=some h→js[i]?=some j→∃ n,(advN m n (yy m h)).j=j∧∀ k,k < n→Oc owner (advN m k (yy m h)).j
theorem zj9{m:Nat}(hf:full m=true){owner:Array (Option Nat)}{hs:List Int}{js:List Nat}(o:Own m owner hs js)(hl:hs.length≤m)(h:Int) :
 ∃ j,layClean.free m owner (turns m) (bits h % (m+1)) (bits h)=some j∧Own m (owner.setIfInBounds j (some hs.length)) (hs++[h]) (js++[j]):=by
 have hi:bits h % (m+1)≤m:=by have:=Nat.mod_lt (bits h) (show 0 < m+1 by omega);omega
 have hfree:∃ j,j≤m∧j∉js:=by
  refine Classical.byContradiction fun hn=>?_
  have:=nodup_le (l:=List.range (m+1)) (l':=js) List.nodup_range fun x hx=>by
   refine Classical.byContradiction fun hc=>hn ⟨x,by have:=List.mem_range.mp hx;omega,hc⟩
  rw[List.length_range,o.len] at this
  omega
 obtain⟨j0,hj0,hn0⟩:=hfree
 have hfr0:Fr owner j0:=by
  have hlt:j0 < owner.size:=by rw[o.size];omega
  have e:owner[j0]?=some owner[j0]:=Array.getElem?_eq_getElem hlt
  unfold Fr
  rw[e]
  cases hx:owner[j0] with
  | none=>rfl
  | some i=>
    rw[hx] at e
    exact absurd (List.mem_of_getElem? ((o.at_ j0 i).mp e)) hn0
 obtain⟨q,hq,eq⟩:=g7 hf hi (zho h) hj0
 obtain⟨n,h1,h2,h3⟩:=znc o.size (turns m) (bits h % (m+1)) (bits h) q hi (by unfold turns;omega) (by rw[eq];exact hfr0)
 generalize hj:(advN m n (lp m (bits h % (m+1)) (bits h))).j=j at h1 h2
 have hjlt:j < owner.size:=by
  unfold Fr at h2
  exact (Array.getElem?_eq_some_iff.mp h2).1
 have hjn:j∉js:=fun hm=>by
  obtain⟨i,hi'⟩:=List.getElem?_of_mem hm
  have:=(o.at_ j i).mpr hi'
  unfold Fr at h2
  rw[h2] at this;cases this
 have grow:∀ k,Oc owner k→Oc (owner.setIfInBounds j (some hs.length)) k:=fun k ⟨i,hk⟩=>by
  by_cases e:j=k
  ·subst e;exact⟨hs.length,by rw[Array.getElem?_setIfInBounds_self,if_pos hjlt]⟩
  ·exact⟨i,by rw[Array.getElem?_setIfInBounds_ne e];exact hk⟩
 refine⟨j,h1,?_⟩
 constructor
 ·rw[Array.size_setIfInBounds];exact o.size
 ·simp[o.len]
 ·exact List.nodup_append.mpr ⟨o.nd,by simp,fun a ha b hb=>by rw[List.mem_singleton.mp hb];rintro rfl;exact hjn ha⟩
 ·intro k i
  by_cases e:j=k
  ·subst e
   rw[Array.getElem?_setIfInBounds_self,if_pos hjlt]
   constructor
   ·intro q;cases q;rw[← o.len];simp
   ·intro q
    by_cases hi':i < js.length
    ·rw[List.getElem?_append_left hi'] at q
     exact absurd (List.mem_of_getElem? q) hjn
    ·have:i=js.length:=by
      have:=(List.getElem?_eq_some_iff.mp q).1
      simp at this;omega
     subst this;rw[o.len]
  ·rw[Array.getElem?_setIfInBounds_ne e,o.at_]
   constructor
   ·intro q
    have:=(List.getElem?_eq_some_iff.mp q).1
    rw[List.getElem?_append_left this];exact q
   ·intro q
    by_cases hi':i < js.length
    ·rw[List.getElem?_append_left hi'] at q;exact q
    ·have:i=js.length:=by
      have:=(List.getElem?_eq_some_iff.mp q).1
      simp at this;omega
     subst this
     simp at q
     exact absurd q e
 ·intro k hk
  rcases List.mem_append.mp hk with hk | hk
  ·exact o.le k hk
  ·rw[List.mem_singleton.mp hk];have:=o.size;omega
 ·intro i h' j' e1 e2
  by_cases hi':i < js.length
  ·rw[List.getElem?_append_left hi'] at e2
   rw[List.getElem?_append_left (by rw[← o.len];exact hi')] at e1
   obtain⟨n',q1,q2⟩:=o.way i h' j' e1 e2
   exact⟨n',q1,fun k hk=>grow _ (q2 k hk)⟩
  ·have:i=js.length:=by
    have:=(List.getElem?_eq_some_iff.mp e2).1
    simp at this;omega
   subst this
   rw[List.getElem?_append_right (Nat.le_refl _),Nat.sub_self] at e2
   rw[o.len,List.getElem?_append_right (Nat.le_refl _),Nat.sub_self] at e1
   cases e1;cases e2
   exact⟨n,hj,fun k hk=>grow _ (h3 k hk)⟩
theorem lay_all{m:Nat}(hf:full m=true):∀ (rest hs:List Int) (owner:Array (Option Nat)) (js:List Nat),Own m owner hs js→hs.length+rest.length≤m →
 ∃ owner' js',rest.foldl (init:=some (owner,hs.length)) (fun acc h=>do
  let (owner,k) ← acc
  let j ← layClean.free m owner (turns m) (bits h % (m+1)) (bits h)
  pure (owner.setIfInBounds j (some k),k+1))=some (owner',hs.length+rest.length)∧Own m owner' (hs++rest) js'
 | [],hs,owner,js,o,_=>⟨owner,js,rfl,by rw[List.append_nil];exact o⟩
 | h::rest,hs,owner,js,o,hl=>by
   rw[List.length_cons] at hl
   obtain⟨j,h1,h2⟩:=zj9 hf o (by omega) h
   obtain⟨owner',js',e,o'⟩:=lay_all hf rest (hs++[h]) _ _ h2 (by simp;omega)
   refine⟨owner',js',?_,by rw[List.append_assoc] at o';exact o'⟩
   rw[List.foldl_cons]
   rw[List.length_append,List.length_singleton] at e
   have:(do
    let (owner,k) ← some (owner,hs.length)
    let j ← layClean.free m owner (turns m) (bits h % (m+1)) (bits h)
    pure (owner.setIfInBounds j (some k),k+1))=some (owner.setIfInBounds j (some hs.length),hs.length+1):=by
    show (layClean.free m owner (turns m) (bits h % (m+1)) (bits h)).bind _=_
    rw[h1];rfl
   rw[this,e,List.length_cons]
   congr 2
   omega
theorem own0(m:Nat):Own m (Array.replicate (m+1) none) [] [] where
 size:=by simp
 len:=rfl
 nd:=List.nodup_nil
 at_:=fun j i=>by
  constructor
  ·intro q
   rw[Array.getElem?_replicate] at q
   split at q <;> cases q
  ·intro q;simp at q
 le:=fun _ h=>nomatch h
 way:=fun i h j e=>by simp at e
theorem zh2{ld:Bool}{t:SetTable}{m wanted:Nat}{es:Array (Int×Value)}(hf:full m=true)(hm:sizeAbove wanted - 1=m)(hl:es.size≤m)(hled:t.led=ld)(hplain:t.plain=true) :
 ∃ t' order L,t.relaid (es.map (·.1)) wanted=some (t',order)∧order.filterMap (es[·]?)=elems L∧L.length=es.size∧jw t' m ld L∧Rise L∧Reach L m∧(∀ e∈L,e.1≤m)∧(∀ p,(∃ e∈L,e.2=p)↔p∈es):=by
 obtain⟨owner,js,e1,o⟩:=lay_all hf (es.toList.map (·.1)) [] _ _ (own0 m) (by simp;exact hl)
 rw[List.nil_append] at o
 have hn:js.length=es.size:=by rw[o.len];simp
 have elay:layClean m (es.map (·.1))=some owner:=by
  unfold layClean
  have:(es.map (·.1))=(es.toList.map (·.1)).toArray:=by apply Array.toList_inj.mp;simp
  rw[this,← Array.foldl_toList]
  rw[List.toList_toArray]
  rw[show (0:Nat)=([]:List Int).length from rfl,e1]
  rfl
 let live:=(List.range (m+1)).filterMap fun j=>(owner.getD j none).map (j,·)
 have mem_live:∀ j i,(j,i)∈live↔js[i]?=some j:=fun j i=>by
  rw[← o.at_]
  simp only[live,List.mem_filterMap,List.mem_range]
  constructor
  ·rintro⟨k,hk,e⟩
   rw[Array.getD_eq_getD_getElem?,Array.getElem?_eq_getElem (by rw[o.size];exact hk)] at e
   simp only[Option.getD_some,Option.map_eq_some_iff,Prod.mk.injEq] at e
   obtain⟨i',h1,rfl,rfl⟩:=e
   rw[Array.getElem?_eq_getElem (by rw[o.size];exact hk),h1]
  ·intro q
   have hk:=(Array.getElem?_eq_some_iff.mp q).1
   refine⟨j,by rw[← o.size];exact hk,?_⟩
   rw[Array.getD_eq_getD_getElem?,q];rfl
 have idx_lt:∀ j i,(j,i)∈live→i < es.size:=fun j i h=>by
  have:=(List.getElem?_eq_some_iff.mp ((mem_live j i).mp h)).1
  omega
 let entOf:Nat×Nat→Ent:=fun x=>(x.1,es.getD x.2 (0,.none))
 have get_es:∀ i,i < es.size→es[i]?=some (es.getD i (0,.none)):=fun i hi=>by
  rw[Array.getD_eq_getD_getElem?,Array.getElem?_eq_getElem hi];rfl
 have rise_live:live.Pairwise fun a b=>a.1 < b.1:=by
  refine List.Pairwise.filterMap _ ?_ List.pairwise_lt_range
  intro a b hab x hx y hy
  simp only[Option.map_eq_some_iff] at hx hy
  obtain⟨_,_,rfl⟩:=hx
  obtain⟨_,_,rfl⟩:=hy
  exact hab
 have len_live:live.length=es.size:=by
  have nd1:(live.map (·.1)).Nodup:=by
   refine List.Pairwise.imp (R:=(· < ·)) (fun h=>Nat.ne_of_lt h) (List.pairwise_map.mpr rise_live)
  have a1:=nodup_le nd1 (l':=js) fun x hx=>by
   obtain⟨p,hp,rfl⟩:=List.mem_map.mp hx
   exact List.mem_of_getElem? ((mem_live p.1 p.2).mp hp)
  have a2:=nodup_le o.nd (l':=live.map (·.1)) fun x hx=>by
   obtain⟨i,hi⟩:=List.getElem?_of_mem hx
   exact List.mem_map.mpr ⟨(x,i),(mem_live x i).mpr hi,rfl⟩
  rw[List.length_map] at a1 a2
  omega
 refine⟨{ mask:=m,place:=(live.map (·.1)).toArray,dummies:=#[],finger:=t.finger,led:=t.led,moves:=t.movedTo m,plain:=t.plain },(live.map (·.2)).toArray,live.map entOf,?_,?_,by rw[List.length_map,len_live],⟨rfl,?_,rfl,hled,hplain⟩,?_,?_,?_,?_⟩
 ·unfold relaid laid
  rw[hm,elay]
  rfl
 ·-- the order
  unfold elems
  show Array.filterMap (fun x=>es[x]?) (live.map (·.2)).toArray=_
  rw[List.filterMap_toArray,List.map_map,List.filterMap_map]
  congr 1
  have:∀ l:List (Nat×Nat),(∀ x∈l,x∈live)→l.filterMap ((fun x=>es[x]?)∘fun x=>x.2)=l.map ((fun x=>x.2)∘entOf):=by
   intro l
   induction l with
   | nil=>intro _;rfl
   | cons x l ih=>
     intro hx
     rw[List.filterMap_cons,List.map_cons]
     have e9:((fun x=>es[x]?)∘fun x:Nat×Nat=>x.2) x=some (es.getD x.2 (0,.none)):=get_es x.2 (idx_lt x.1 x.2 (hx x List.mem_cons_self))
     rw[e9]
     dsimp only
     rw[ih fun y hy=>hx y (List.mem_cons_of_mem _ hy)]
     rfl
  exact this live fun _ h=>h
 ·unfold places
  rw[List.map_map];rfl
 ·exact List.pairwise_map.mpr rise_live
 ·intro e he
  obtain⟨x,hx,rfl⟩:=List.mem_map.mp he
  have hx':=(mem_live x.1 x.2).mp hx
  have hlt:=idx_lt x.1 x.2 hx
  obtain⟨n,h1,h2⟩:=o.way x.2 (es.getD x.2 (0,.none)).1 x.1 (by
   rw[List.getElem?_map,Array.getElem?_toList,get_es x.2 hlt];rfl) hx'
  refine⟨n,h1,fun k hk=>?_⟩
  obtain⟨i,hi⟩:=h2 k hk
  exact⟨entOf ((advN m k (yy m (es.getD x.2 (0,.none)).1)).j,i),List.mem_map.mpr ⟨_,(mem_live _ i).mpr ((o.at_ _ i).mp hi),rfl⟩,rfl⟩
 ·intro e he
  obtain⟨x,hx,rfl⟩:=List.mem_map.mp he
  exact o.le x.1 (List.mem_of_getElem? ((mem_live x.1 x.2).mp hx))
 ·intro p
  constructor
  ·rintro⟨e,he,rfl⟩
   obtain⟨x,hx,rfl⟩:=List.mem_map.mp he
   exact Array.mem_of_getElem? (get_es x.2 (idx_lt x.1 x.2 hx))
  ·intro hp
   obtain⟨i,hi,e⟩:=Array.getElem_of_mem hp
   have hj:i < js.length:=by omega
   refine⟨entOf (js[i],i),List.mem_map.mpr ⟨(js[i],i),(mem_live _ _).mpr (List.getElem?_eq_getElem hj),rfl⟩,?_⟩
   show es.getD i (0,.none)=p
   rw[Array.getD_eq_getD_getElem?,Array.getElem?_eq_getElem hi,← e];rfl
theorem Rise.unique{L:List Ent}(h:Rise L):∀ {e e':Ent},e∈L→e'∈L→e.1=e'.1→e=e':=by
 induction L with
 | nil=>intro e e' he;exact absurd he List.not_mem_nil
 | cons x L ih=>
   intro e e' he he' q
   obtain⟨h1,h2⟩:=List.pairwise_cons.mp h
   rcases List.mem_cons.mp he with r | r
   ·rcases List.mem_cons.mp he' with r' | r'
    ·rw[r,r']
    ·subst r;have:=h1 e' r';omega
   ·rcases List.mem_cons.mp he' with r' | r'
    ·subst r';have:=h1 e r;omega
    ·exact ih h2 r r' q
theorem FirstFree.next{L:List Ent}{m n:Nat}{p:Probe}(h:FirstFree L m (n+1) p):FirstFree L m n (advM m p):=
 ⟨h.1,fun k hk=>h.2 (k+1) (by omega)⟩
theorem FirstFree.drop{L:List Ent}{m:Nat}:∀ (k:Nat) {n:Nat} {p:Probe},FirstFree L m n p→k≤n→FirstFree L m (n - k) (advN m k p)
 | 0,n,p,h,_=>h
 | k+1,n,p,h,hk=>by
   obtain⟨n,rfl⟩ : ∃ n',n=n' + 1:=⟨n - 1,by omega⟩
   have:=FirstFree.drop k h.next (by omega)
   rw[show n+1 - (k+1)=n - k by omega]
   exact this
theorem advM_dummy{m:Nat}{p:Probe}:(advM m p).dummy=p.dummy:=by unfold advM;split <;> rfl
theorem zop{t:SetTable}{hashAt:Nat→Int}{h:Int}{fuel:Nat}{p:Probe}{x:Slot}(hs:t.slot p.j=x):probe.go t hashAt h (fuel+1) p=match (generalizing:=false) x with
 | .empty=>some (.empty p.j p.dummy)
 | .dummy=>probe.go t hashAt h fuel (t.advance { p with dummy:=some p.j })
 | .live i=>if hashAt i == h then some (.candidate p.j i (t.advance p)) else probe.go t hashAt h fuel (t.advance p):=by subst hs;rfl
theorem zsx{t:SetTable}{m:Nat}{ld:Bool}{L:List Ent}(ht:jw t m ld L)(hr:Rise L){hashAt:Nat→Int}(hh:∀ (i:Nat) (e:Int×Value),(elems L)[i]?=some e→hashAt i=e.1){h:Int} :
 ∀ (fuel n:Nat) (p:Probe),n < fuel→p.dummy=none→FirstFree L m n p →
  (∃ k A e B,k < n∧L=A++e::B∧e.1=(advN m k p).j∧e.2.1=h∧probe.go t hashAt h fuel p=some (.candidate e.1 A.length (advM m (advN m k p)))∧∀ k',k' < k→∀ e'∈L,e'.1=(advN m k' p).j→e'.2.1≠h) ∨
  ((∀ k,k < n→∀ e∈L,e.1=(advN m k p).j→e.2.1≠h)∧probe.go t hashAt h fuel p=some (.empty (advN m n p).j none)):=by
 intro fuel
 induction fuel with
 | zero=>exact fun n _ hn=>absurd hn (Nat.not_lt_zero _)
 | succ fuel ih=>
   intro n p hn hd hf
   cases n with
   | zero=>
     exact .inr ⟨fun k hk=>absurd hk (Nat.not_lt_zero _),(zop (zfk ht hr (fun e he=>hf.1 e he))).trans (hd ▸ rfl)⟩
   | succ n=>
     obtain⟨e,he,hej⟩:=hf.2 0 (Nat.succ_pos n)
     have hej:e.1=p.j:=hej
     obtain⟨A,B,hL⟩:=List.append_of_mem he
     have hs:t.slot p.j=.live A.length:=hej ▸ za3 (hL ▸ ht) (hL ▸ hr)
     have hhe:hashAt A.length=e.2.1:=hh A.length e.2 (by rw[hL];simp[elems])
     have ego:=zop (hashAt:=hashAt) (h:=h) (fuel:=fuel) hs
     dsimp only at ego
     rw[zgo,ht.mask] at ego
     by_cases hq:e.2.1=h
     ·have ego:=ego.trans (if_pos (by rw[hhe,hq];exact beq_self_eq_true _))
      exact .inl ⟨0,A,e,B,Nat.succ_pos n,hL,hej,hq,hej ▸ ego,fun k' hk'=>absurd hk' (Nat.not_lt_zero _)⟩
     ·have zero:∀ e'∈L,e'.1=p.j→e'.2.1≠h:=fun e' he' q=>hr.unique he' he (q.trans hej.symm) ▸ hq
      have ego:=ego.trans (if_neg (by rw[hhe];exact fun q=>hq (beq_iff_eq.mp q)))
      rw[ego]
      rcases ih n (advM m p) (Nat.lt_of_succ_lt_succ hn) (advM_dummy.trans hd) hf.next with ⟨k,A',e',B',h1,h2,h3,h4,h5,h6⟩ | ⟨h1,h2⟩
      ·refine .inl ⟨k+1,A',e',B',Nat.succ_lt_succ h1,h2,h3,h4,h5,fun k' hk'=>?_⟩
       cases k' with
       | zero=>exact zero
       | succ k'=>exact h6 k' (Nat.lt_of_succ_lt_succ hk')
      ·refine .inr ⟨fun k hk=>?_,h2⟩
       cases k with
       | zero=>exact zero
       | succ k=>exact h1 k (Nat.lt_of_succ_lt_succ hk)
section
variable{prog:Program}{w:World}{A:Around}{E:Value→Shared→Prop}{s:Shared}
variable(prog w) in
noncomputable abbrev TK(h:Heap)(ks:List Int)(a:Addr):Prop:=IsTupleKey (intKind prog w) h ks a
variable(prog w) in
noncomputable abbrev tkh(ks:List Int):Int:=tupleKeyHash (intKind prog w) ks
variable(prog w) in
noncomputable def Ents(h:Heap)(L:List Ent):Prop:=∀ e∈L,∃ a ks,e.2.2=.ref a∧TK prog w h ks a∧e.2.1=tkh prog w ks
theorem zas(n:Nat){v:Value}(h:carriedByValue v=true):ofAClassStatement n v=pure false:=by
 cases v with
 | ref a=>simp[carriedByValue] at h
 | _=>cases n <;> rfl
theorem uu{d:Nat}{ks:List Int}{a:Addr}{Q:Bool→Shared→Prop}(hk:TK prog w s.heap ks a)(h:Q false s):wpAny (model prog w) A (ofAClassStatement (d+1) (.ref a)) Q E s:=by
 have hT:=IsTupleKey.typeIs hk
 obtain⟨o,items,n,ho,_,hd,hi⟩:=hk
 unfold ofAClassStatement
 refine wpAny_bind (wpAny_typeOf hT ?_)
 refine wpAny_ite_true rfl (wpAny_bind (wpAny_pure (wpAny_ite_false rfl ?_)))
 refine wpAny_bind (wpAny_seqItems ho hd (wpAny_bind ?_))
 show wpAny _ _ (forIn items _ _) _ _ s
 rw[← Array.forIn_toList]
 refine wpAny_forIn_list _ (fun rest r s'=>r.1=none∧s'=s∧∀ v∈rest,carriedByValue v=true) _ ?_ ?_ _ _ ⟨rfl,rfl,hi.byValue⟩
 ·rintro v rest r s' ⟨hr,rfl,hall⟩
  rw[zas _ (hall v List.mem_cons_self)]
  refine wpAny_bind (wpAny_pure (wpAny_ite_false rfl ?_))
  exact wpAny_pure ⟨rfl,rfl,fun u hu'=>hall u (List.mem_cons_of_mem _ hu')⟩
 ·rintro⟨r1,r2⟩ s' ⟨hr,rfl,_⟩
  simp only at hr
  subst hr
  exact wpAny_pure h
theorem zml{ks:List Int}{a:Addr}{l:List Value}{Q:Bool→Shared→Prop}(hk:TK prog w s.heap ks a)(hl:∀ y∈l,∃ b ks',y=.ref b∧TK prog w s.heap ks' b)(h:Q false s) :
 wpAny (model prog w) A (searchCouldBeSeen (.ref a) l) Q E s:=by
 unfold searchCouldBeSeen
 refine wpAny_bind ?_
 refine wpAny_forIn_list _ (fun rest r s'=>r.1=none∧s'=s∧∀ y∈rest,∃ b ks',y=.ref b∧TK prog w s.heap ks' b) _ ?_ ?_ _ _ ⟨rfl,rfl,hl⟩
 ·rintro v rest r s' ⟨hr,rfl,hall⟩
  obtain⟨b,ks',rfl,hb⟩:=hall v List.mem_cons_self
  have next:∀ r:Option Bool×PUnit,r.1=none→∀ y∈rest,∃ b ks',y=Value.ref b∧TK prog w s'.heap ks' b:=fun _ _ y hy=>hall y (List.mem_cons_of_mem _ hy)
  dsimp only
  refine wpAny_ite_split (fun _=>wpAny_pure ⟨rfl,rfl,next (none,()) rfl⟩) fun _=>?_
  refine wpAny_bind (wpAny_eqIsQuiet_tuple hk (wpAny_ite_false rfl ?_))
  refine wpAny_bind (wpAny_eqIsQuiet_tuple hb (wpAny_ite_false rfl ?_))
  refine wpAny_bind (uu hk (wpAny_ite_false rfl ?_))
  refine wpAny_bind (uu hb (wpAny_ite_false rfl ?_))
  exact wpAny_pure ⟨rfl,rfl,next (none,()) rfl⟩
 ·rintro⟨r1,r2⟩ s' ⟨hr,rfl,_⟩
  simp only at hr
  subst hr
  exact wpAny_pure h
theorem zgp{m:Nat}(n:Nat):∀ (p:Probe),(advN m n p).dummy=p.dummy:=by
 induction n with
 | zero=>exact fun _=>rfl
 | succ n ih=>exact fun p=>(ih _).trans advM_dummy
theorem zmi{α:Type}{o:Option (Int×Value)}{x:Int}{y:Value}{f:Int→Value→Sem α}{g:Sem α}{Q:α→Shared→Prop}(h:o=some (x,y))(k:wpAny (model prog w) A (f x y) Q E s) :
 wpAny (model prog w) A (match o with | some (x,y)=>f x y | none=>g) Q E s:=by subst h;exact k
theorem zjk{α:Type}{o:Option (Int×Value)}{x:Int}{y:Value}{f:Value→Sem α}{g:Sem α}{Q:α→Shared→Prop}(h:o=some (x,y))(k:wpAny (model prog w) A (f y) Q E s) :
 wpAny (model prog w) A (match o with | some (_,y)=>f y | _=>g) Q E s:=by subst h;exact k
theorem zh1{S:Addr}{o:Obj}{ep m:Nat}{t:SetTable}{ld:Bool}{L:List Ent}(ho:s.heap.get? S=some o)(hd:o.data=.set (elems L) ep t)(ht:jw t m ld L)(hr:Rise L)(hL:L.length≤m)(hodd:m % 2=1)
 (he:Ents prog w s.heap L) (hu:A.units < cLine) {a:Addr} {ks:List Int} (hk:TK prog w s.heap ks a) {Q:SetFound→Shared→Prop} (hQ1:(∃ e∈L,∃ b,e.2.2=.ref b∧TK prog w s.heap ks b)→Q (.there none) s) :
 ∀ (fuel n:Nat) (st:Option Probe) (p:Probe),st.getD (t.probeStart (tkh prog w ks))=p→n < fuel→n < 10 * turns m→p.dummy=none→FirstFree L m n p →
  ((∀ k,k < n→∀ e∈L,e.1=(advN m k p).j→∀ b,e.2.2=.ref b→¬ TK prog w s.heap ks b)→Q (.free (advN m n p).j false) s) →
  wpAny (model prog w) A (setSearchFrom S (.ref a) (tkh prog w ks) true fuel st) Q E s:=by
 have hfit:t.fits (elems L).size=true:=by
  simp only[SetTable.fits,SetTable.fill,ht.place,ht.dummies,ht.mask,places,elems,Bool.and_eq_true,beq_iff_eq,decide_eq_true_eq]
  simp;exact hL
 have hgw:t.gaveWay=false:=by unfold gaveWay;rw[ht.mask,hodd];decide
 have other:∀ e∈L,e.2.1≠tkh prog w ks→∀ b,e.2.2=.ref b→¬ TK prog w s.heap ks b:=fun e heL hne b hb hkb=>by
  obtain⟨b',ks',e1,e2,e3⟩:=he e heL
  rw[hb] at e1;cases e1
  rw[IsTupleKey.inj e2 hkb] at e3
  exact hne e3
 have hseen:∀ y∈((elems L).filter (·.1 == tkh prog w ks)).toList.map (·.2),∃ b ks',y=.ref b∧TK prog w s.heap ks' b:=fun y hy=>by
  obtain⟨z,hz,rfl⟩:=List.mem_map.mp hy
  have hz':z∈elems L:=(Array.mem_filter.mp (Array.mem_toList_iff.mp hz)).1
  unfold elems at hz'
  rw[List.mem_toArray] at hz'
  obtain⟨e',he',rfl⟩:=List.mem_map.mp hz'
  obtain⟨b',ks'',q1,q2,_⟩:=he e' he'
  exact⟨b',ks'',q1,q2⟩
 intro fuel
 induction fuel with
 | zero=>exact fun n _ _ _ hn=>absurd hn (Nat.not_lt_zero _)
 | succ fuel ih=>
   intro n st p hst hn hn' hpd hf hQ2
   have hgo:=zsx ht hr (hashAt:=fun i=>((elems L)[i]?.map (·.1)).getD 0) (fun i e he=>by rw[he];rfl) (h:=tkh prog w ks) (10 * turns t.mask) n p (by rw[ht.mask];exact hn') hpd hf
   rcases hgo with ⟨k,A',e,B',h1,h2,h3,h4,h5,h6⟩ | ⟨h1,h2⟩
   ·have heL:e∈L:=by rw[h2];simp
    obtain⟨b,ks',e1,e2,e3⟩:=he e heL
    have hget:(elems L)[A'.length]?=some e.2:=by rw[h2];simp[elems]
    have hsl:t.slot e.1=.live A'.length:=za3 (h2 ▸ ht) (h2 ▸ hr)
    have hle:=Nat.succ_le_of_lt h1
    have hadv:advM m (advN m k p)=advN m (k+1) p:=by rw[xz];rfl
    have again:ks'≠ks→wpAny (model prog w) A (setSearchFrom S (.ref a) (tkh prog w ks) true fuel (some (advM m (advN m k p)))) Q E s:=fun hkk=>by
     refine ih (n - (k+1)) _ (advN m (k+1) p) hadv (Nat.lt_of_le_of_lt (Nat.sub_le_sub_left (Nat.succ_pos k) n) (Nat.sub_lt_left_of_lt_add (Nat.lt_of_le_of_lt (Nat.zero_le _) h1) (Nat.add_comm _ _ ▸ hn))) (Nat.lt_of_le_of_lt (Nat.sub_le _ _) hn') ((zgp _ p).trans hpd) (hf.drop (k+1) hle) fun hno=>?_
     rw[← xz,Nat.add_sub_of_le hle]
     refine hQ2 fun i hi e' he' q=>?_
     rcases Nat.lt_trichotomy i k with hik | rfl | hik
     ·exact other e' he' (h6 i hik e' he' q)
     ·rw[hr.unique he' heL (q.trans h3.symm)]
      intro b' hb' hkb'
      rw[e1] at hb';cases hb'
      exact hkk (IsTupleKey.inj e2 hkb')
     ·exact hno (i - (k+1)) (Nat.sub_lt_sub_right hik hi) e' he' (by rw[← xz,Nat.add_sub_of_le hik];exact q)
    clear ih hQ2 hf hpd hn hn' h6 h3 h4 hadv
    obtain⟨ej,eh,ev⟩:=e
    have e1:ev=.ref b:=e1
    subst e1
    have hsm:t.sameMemory t.moves t.mask=some true:=by unfold sameMemory;rw[if_pos (beq_self_eq_true _)]
    have hlast:wpAny (model prog w) A (do
     if true && decide (ks'=ks) then return .there none
     let some same:=t.sameMemory t.moves t.mask | unsupported "set.changed-during-lookup:is-the-new-block-at-the-old-address"
     let still ← match (if same then t.slot ej else .empty) with
      | .live i'=>match (elems L)[i']? with
        | some (_,y')=>do pure (if ← isSame y' (.ref b) then some i' else none)
        | none=>pure none
      | _=>pure none
     match still with
     | none=>rule "set.search.anew";setSearchFrom S (.ref a) (tkh prog w ks) true fuel none
     | some i'=>if decide (ks'=ks) then return .there (some i') else setSearchFrom S (.ref a) (tkh prog w ks) true fuel (some (advM m (advN m k p)))) Q E s:=by
     rw[hsm,hsl]
     by_cases hkk:ks'=ks
     ·exact wpAny_ite_true (by rw[decide_eq_true hkk];rfl) (wpAny_pure (hQ1 ⟨_,heL,b,rfl,hkk ▸ e2⟩))
     ·exact wpAny_ite_false (by rw[decide_eq_false hkk];rfl) (zmi hget (wpAny_bind (wpAny_isSame_ref_self (wpAny_bind (wpAny_pure (wpAny_ite_false (by rw[decide_eq_false hkk];rfl) (again hkk)))))))
    clear again hsm hsl
    show wpAny _ _ (setState S >>= _) _ _ _
    refine wpAny_bind (wpAny_setState_of ho hd hfit ?_)
    refine wpAny_ite_false (by rw[hgw];rfl) ?_
    dsimp only
    rw[hst]
    unfold probe
    erw [h5]
    refine wpAny_ite_split (fun _=>wpAny_bind (zml hk hseen (wpAny_ite_false rfl ?_))) fun _=>?_ <;> (refine zjk hget ?_;exact (wpAny_bind (wpAny_holding (wpAny_eqBool_tuple hu e2 hk (wpAny_bind (wpAny_setState_of ho hd hfit hlast))))))
   ·show wpAny _ _ (setState S >>= _) _ _ _
    refine wpAny_bind (wpAny_setState_of ho hd hfit ?_)
    refine wpAny_ite_false (by rw[hgw];rfl) ?_
    dsimp only
    rw[hst]
    unfold probe
    erw [h2]
    exact wpAny_pure (hQ2 fun k hk e' he' q=>other e' he' (h1 k hk e' he' q))
end
section
variable{prog:Program}{w:World}{A:Around}{E:Value→Shared→Prop}{s:Shared}
theorem zau{ks:List Int}{a:Addr}{Q:Bool→Shared→Prop}(hk:TK prog w s.heap ks a)(h:Q true s):wpAny (model prog w) A (hashByValue 8 (.ref a)) Q E s:=by
 have hT:=IsTupleKey.typeIs hk
 obtain⟨o,items,n,ho,_,hd,hi⟩:=hk
 have hint:∀ v∈items.toList,∃ i t,v=.int i t:=by
  generalize items.toList=l at hi
  induction hi with
  | nil=>intro v hv;simp at hv
  | @cons k v' ks vs h1 _ ih=>
    intro v hv
    rcases List.mem_cons.mp hv with rfl | hv
    ·cases v with
     | int i t=>exact⟨i,t,rfl⟩
     | _=>cases h1
    ·exact ih v hv
 unfold hashByValue
 refine wpAny_bind (wpAny_specialOf hT F.slot_tuple_hash.lookup ?_)
 dsimp only
 refine wpAny_bind (wpAny_seqItems ho hd ?_)
 refine wpAny_bind ?_
 show wpAny _ _ (forIn items _ _) _ _ s
 rw[← Array.forIn_toList]
 refine wpAny_forIn_list _ (fun rest r s'=>r.1=none∧s'=s∧∀ v∈rest,∃ i t,v=Value.int i t) _ ?_ ?_ _ _ ⟨rfl,rfl,hint⟩
 ·rintro v rest r s' ⟨hr,rfl,hall⟩
  obtain⟨i,t,rfl⟩:=hall v List.mem_cons_self
  have e:hashByValue 7 (.int i t)=pure true:=by first | rfl | simp[hashByValue]
  rw[e]
  exact wpAny_bind (wpAny_pure (wpAny_ite_false rfl (wpAny_pure ⟨rfl,rfl,fun u hu'=>hall u (List.mem_cons_of_mem _ hu')⟩)))
 ·rintro⟨r1,r2⟩ s' ⟨hr,rfl,_⟩
  simp only at hr
  subst hr
  exact wpAny_pure h
variable(prog w) in
inductive TSet(h:Heap)(S:Addr)(ld:Bool)(K:List (List Int)):Prop
 | mk (o:Obj) (ep:Nat) (t:SetTable) (m:Nat) (L:List Ent) (ho:h.get? S=some o) (hex:o.ExactSet) (hd:o.data=.set (elems L) ep t) (ht:jw t m ld L) (hr:Rise L) (hre:Reach L m) (hlen:L.length=K.length) (hnd:K.Nodup) (hent:Ents prog w h L)
   (hmem:∀ ks,ks∈K↔∃ e∈L,∃ b,e.2.2=.ref b∧TK prog w h ks b) (hm:(m=7∧L.length≤4)∨(m=31∧L.length≤18))
theorem zb3{h h':Heap}{S:Addr}{o:Obj}(ho:h.get? S=some o)(hc:o.ExactSet)(hs:Heap.SameBut S h h'){ks:List Int}{b:Addr}(hk:TK prog w h ks b):TK prog w h' ks b:=by
 obtain⟨o',items,n,ho',hc',r⟩:=hk
 refine⟨o',items,n,(hs.2 b fun q=>?_).trans ho',hc',r⟩
 subst q
 rw[ho] at ho';cases ho'
 rw[hc.1] at hc';exact absurd hc' (by decide)
theorem zmd{h h':Heap}{S:Addr}{o':Obj}(ho:h'.get? S=some o')(hc:o'.ExactSet)(hs:Heap.SameBut S h h'){ks:List Int}{b:Addr}(hk:TK prog w h' ks b):TK prog w h ks b:=by
 obtain⟨o,items,n,ho',hc',r⟩:=hk
 refine⟨o,items,n,(hs.2 b fun q=>?_).symm.trans ho',hc',r⟩
 subst q
 rw[ho] at ho';cases ho'
 rw[hc.1] at hc';exact absurd hc' (by decide)
theorem zfr(a:Addr)(wanted:Nat):setRelay a wanted=(do
 let (es,_,t) ← setState a
 if SetTable.sizeAbove wanted > sizeLine then unsupported "set:memory"
 let (es,t) ← (do
  let some (t,order):=t.relaid (es.map (·.1)) wanted | unsupported "internal:set-table-without-room"
  let es':=order.filterMap (es[·]?)
  if es'.size != es.size then unsupported "internal:set-table-lost-an-element"
  pure (es',t):Sem (Array (Int×Value)×SetTable))
 storeSet a es t):=rfl
theorem zjr{S:Addr}{o:Obj}{ep:Nat}{t:SetTable}{ld:Bool}{L:List Ent}(ho:s.heap.get? S=some o)(hd:o.data=.set (elems L) ep t)(ht:jw t 7 ld L)(h5:L.length=5){Q:Unit→Shared→Prop}
 (h:∀ t' L',jw t' 31 ld L'→Rise L'→Reach L' 31→L'.length=5→(∀ p,(∃ e∈L',e.2=p)↔∃ e∈L,e.2=p)→Q () { s with heap:=s.heap.update S (Obj.putSet (elems L') t') }) :
 wpAny (model prog w) A (setRelay S (grown 5)) Q E s:=by
 have hsz:(elems L).size=5:=by simp[elems,h5]
 have hfit:t.fits (elems L).size=true:=by
  simp only[SetTable.fits,SetTable.fill,ht.place,ht.dummies,ht.mask,places,elems,Bool.and_eq_true,beq_iff_eq,decide_eq_true_eq]
  simp[h5]
 have h32:sizeAbove (grown 5)=32:=by decide
 obtain⟨t',order,L',e1,e2,e3,e4,e5,e6,e7,e8⟩:=zh2 (t:=t) (wanted:=grown 5) (es:=elems L) zku (by rw[h32]) (by rw[hsz];decide) ht.led ht.plain
 have hl':(elems L').size=(elems L).size:=by rw[← e3];simp[elems]
 have fin:=h t' L' e4 e5 e6 (by rw[e3,hsz]) fun p=>by
  rw[e8]
  unfold elems
  rw[List.mem_toArray,List.mem_map]
 rw[← e2] at fin hl'
 clear h e2 e3 e4 e5 e6 e7 e8
 rw[zfr]
 refine wpAny_bind (wpAny_setState_of ho hd hfit (wpAny_ite_false (by rw[h32,sizeLine_eq];rfl) (wpAny_bind ?_)))
 dsimp only
 rw[e1]
 exact wpAny_ite_false (by rw[hl',bne_self_eq_false];rfl) (wpAny_pure (wpAny_storeSet_of ho hd fin (by rw[hl',hsz,sizeLine_eq];decide)))
theorem zah(a:Addr)(x:Value)(h:Int)(fuel:Nat):setAddHashedIn a x h (fuel+1)=(do
 let (es₀,_,t₀) ← setState a
 if byScan x es₀ then
  match ← setAddByScan a x h es₀ t₀ with
  | some added=>return added
  | none=>return ← setAddHashedIn a x h fuel
 let .free slot wasDummy ← setSearch a x h (adding:=true) | return false
 let (es,_,t) ← setState a
 let (t,p):=t.put slot
 let byValue ← if t.plain then hashByValue 8 x else pure true
 let t:=if byValue then t else { t with plain:=false }
 storeSet a (SetTable.insertAt es p (h,x)) t
 if !wasDummy && t.tooFull then setRelay a (SetTable.grown (es.size+1))
 return true):=rfl
theorem zjw{t:SetTable}{m n:Nat}{ld:Bool}{L:List Ent}{h:Int}{x:Value}(ht:jw t m ld L)(hr:Rise L)(hre:Reach L m)(hf:FirstFree L m n (yy m h)) :
 ∃ p t₁ L',t.put (advN m n (yy m h)).j=(t₁,p)∧insertAt (elems L) p (h,x)=elems L'∧jw t₁ m ld L'∧Rise L'∧Reach L' m∧L'.length=L.length+1∧∀ y,(∃ e∈L',e.2=y)↔y=(h,x)∨∃ e∈L,e.2=y:=by
 obtain⟨A,B,rfl,p1,p2,p3,p4⟩:=zpw ht hr hf.1 h x
 refine⟨A.length,_,_,Prod.ext rfl p1,p4,p2,p3,hre.put hf,?_,fun y=>?_⟩
 ·rw[List.length_append,List.length_append];rfl
 ·constructor
  ·rintro⟨e,he,rfl⟩
   rcases List.mem_append.mp he with he | he
   ·exact .inr ⟨e,List.mem_append_left _ he,rfl⟩
   ·rcases List.mem_cons.mp he with rfl | he
    ·exact .inl rfl
    ·exact .inr ⟨e,List.mem_append_right _ he,rfl⟩
  ·rintro (rfl | ⟨e,he,rfl⟩)
   ·exact⟨_,List.mem_append_right _ List.mem_cons_self,rfl⟩
   ·refine⟨e,?_,rfl⟩
    rcases List.mem_append.mp he with he | he
    ·exact List.mem_append_left _ he
    ·exact List.mem_append_right _ (List.mem_cons_of_mem _ he)
theorem TSet.more{h h':Heap}{S a:Addr}{ld:Bool}{K:List (List Int)}{ks:List Int}{o o':Obj}{ep' m':Nat}{t':SetTable}{L L' L'':List Ent}(ho:h.get? S=some o)(hex:o.ExactSet)(hk:TK prog w h ks a)(hlen:L.length=K.length)(hnd:K.Nodup)(hent:Ents prog w h L)
 (hmem:∀ ks,ks∈K↔∃ e∈L,∃ b,e.2.2=.ref b∧TK prog w h ks b) (hnK:ks∉K) (hnew:∀ y,(∃ e∈L',e.2=y)↔y=(tkh prog w ks,Value.ref a)∨∃ e∈L,e.2=y)
 (hsb:Heap.SameBut S h h') (ho':h'.get? S=some o') (hex':o'.ExactSet) (hd':o'.data=.set (elems L'') ep' t') (ht':jw t' m' ld L'') (hr':Rise L'') (hre':Reach L'' m') (hl':L''.length=L.length+1)
 (hsame:∀ p,(∃ e∈L'',e.2=p)↔∃ e∈L',e.2=p) (hm':(m'=7∧L''.length≤4)∨(m'=31∧L''.length≤18)):TSet prog w h' S ld (K++[ks]):=by
 have hn:∀ y,(∃ e∈L'',e.2=y)↔y=(tkh prog w ks,Value.ref a)∨∃ e∈L,e.2=y:=fun y=>(hsame y).trans (hnew y)
 have tk:=zb3 ho hex hsb hk
 refine⟨o',ep',t',m',L'',ho',hex',hd',ht',hr',hre',by rw[hl',hlen,List.length_append];rfl,?_,?_,fun ks'=>?_,hm'⟩
 ·exact List.nodup_append.mpr ⟨hnd,List.nodup_cons.mpr ⟨List.not_mem_nil,List.nodup_nil⟩,fun x hx y hy=>by rw[List.mem_singleton.mp hy];rintro rfl;exact hnK hx⟩
 ·intro e he
  rcases (hn e.2).mp ⟨e,he,rfl⟩ with q | ⟨e₁,he₁,q⟩
  ·rw[q];exact⟨a,ks,rfl,tk,rfl⟩
  ·rw[← q]
   obtain⟨b,ks',q1,q2,q3⟩:=hent e₁ he₁
   exact⟨b,ks',q1,zb3 ho hex hsb q2,q3⟩
 ·rw[List.mem_append,List.mem_singleton,hmem]
  constructor
  ·rintro (⟨e,he,b,hb,hkb⟩ | rfl)
   ·obtain⟨e₁,he₁,q⟩:=(hn e.2).mpr (.inr ⟨e,he,rfl⟩)
    exact⟨e₁,he₁,b,q ▸ hb,zb3 ho hex hsb hkb⟩
   ·obtain⟨e₁,he₁,q⟩:=(hn _).mpr (.inl rfl)
    exact⟨e₁,he₁,a,q ▸ rfl,tk⟩
  ·rintro⟨e,he,b,hb,hkb⟩
   have hkb':TK prog w h ks' b:=zmd ho' hex' hsb hkb
   rcases (hn e.2).mp ⟨e,he,rfl⟩ with q | ⟨e₁,he₁,q⟩
   ·rw[q] at hb
    cases hb
    exact .inr (IsTupleKey.inj hkb' hk)
   ·exact .inl ⟨e₁,he₁,b,q ▸ hb,hkb'⟩
theorem zff{t:SetTable}{m:Nat}{ld:Bool}{L:List Ent}(ht:jw t m ld L):t.tooFull=decide (m * 3≤L.length * 5):=by
 unfold tooFull fill
 rw[ht.place,ht.dummies,ht.mask]
 simp[places]
theorem zn7{S:Addr}{ld:Bool}{K:List (List Int)}(hS:TSet prog w s.heap S ld K)(hu:A.units < cLine){a:Addr}{ks:List Int}(hk:TK prog w s.heap ks a)(hK:K.length≤17){Q:Bool→Shared→Prop}
 (h:∀ b h',Heap.SameBut S s.heap h'→TSet prog w h' S ld (if ks∈K then K else K++[ks])→Q b { s with heap:=h' }) :
 wpAny (model prog w) A (setAddHashed S (.ref a) (tkh prog w ks)) Q E s:=by
 have old:ks∈K→∀ b,Q b s:=fun hin b=>h b s.heap (Heap.SameBut.refl S s.heap) (by rw[if_pos hin];exact hS)
 have new:ks∉K→∀ b h',Heap.SameBut S s.heap h'→TSet prog w h' S ld (K++[ks])→Q b { s with heap:=h' }:=fun hin b h' hs hT=>h b h' hs (by rw[if_neg hin];exact hT)
 clear h
 obtain⟨o,ep,t,m,L,ho,hex,hd,ht,hr,hre,hlen,hnd,hent,hmem,hm⟩:=hS
 have hLm:L.length≤m:=by rcases hm with ⟨rfl,h⟩ | ⟨rfl,h⟩ <;> exact Nat.le_trans h (by decide)
 have hfull:full m=true:=by rcases hm with ⟨rfl,_⟩ | ⟨rfl,_⟩ <;> first | exact zsz | exact zku
 have hodd:m % 2=1:=by rcases hm with ⟨rfl,_⟩ | ⟨rfl,_⟩ <;> rfl
 have hfit:t.fits (elems L).size=true:=by
  simp only[SetTable.fits,SetTable.fill,ht.place,ht.dummies,ht.mask,places,elems,Bool.and_eq_true,beq_iff_eq,decide_eq_true_eq]
  simp;exact hLm
 have hstart:t.probeStart (tkh prog w ks)=yy m (tkh prog w ks):=by
  show lp t.mask (bits (tkh prog w ks) % (t.mask+1)) (bits (tkh prog w ks))=_
  rw[ht.mask];rfl
 obtain⟨n,hn,hff⟩:=zik (L:=L) hfull hLm (zc8 m (tkh prog w ks))
 have hturn:n < 100000:=Nat.lt_of_lt_of_le hn (by rcases hm with ⟨rfl,_⟩ | ⟨rfl,_⟩ <;> decide)
 have hnot:(∀ k,k < n→∀ e∈L,e.1=(advN m k (yy m (tkh prog w ks))).j→∀ b,e.2.2=.ref b→¬ TK prog w s.heap ks b)→ks∉K:=fun hno hin=>by
  obtain⟨e,he,b,hb,hkb⟩:=(hmem ks).mp hin
  obtain⟨b',ks',q1,q2,q3⟩:=hent e he
  rw[hb] at q1;cases q1
  rw[IsTupleKey.inj q2 hkb] at q3
  obtain⟨k,hk1,hk2⟩:=hre.before he (q3.symm ▸ hff)
  rw[q3] at hk2
  exact hno k hk1 e he hk2.symm b hb hkb
 obtain⟨p,t₁,L',eput,eins,p2,p3,p4,hlen',hnew⟩:=zjw (x:=.ref a) ht hr hre hff
 have hsz':(elems L').size=L.length+1:=by rw[← hlen'];simp[elems]
 have hsb1:=Heap.SameBut.update s.heap S (Obj.putSet (elems L') t₁)
 have hg1:=Heap.get?_update_self (Obj.putSet (elems L') t₁) ho (by rw[putSet_of _ _ hd];rfl)
 rw[putSet_of _ _ hd] at hg1
 have last:ks∉K→wpAny (model prog w) A (if (!false && t₁.tooFull)=true then setRelay S (grown ((elems L).size+1)) >>= fun _=>pure true else pure true) Q E { s with heap:=s.heap.update S (Obj.putSet (elems L') t₁) }:=fun hnK=>by
  have size:(elems L).size=L.length:=by simp[elems]
  rw[zff p2,hlen']
  by_cases hfl:m * 3≤(L.length+1) * 5
  ·have h74:m=7∧L.length=4:=by rcases hm with ⟨rfl,h⟩ | ⟨rfl,h⟩ <;> omega
   obtain⟨rfl,h4⟩:=h74
   rw[size,h4]
   refine wpAny_ite_true (by rw[← h4,decide_eq_true hfl];rfl) (wpAny_bind (zjr (s:={ s with heap:=s.heap.update S (Obj.putSet (elems L') t₁) }) hg1 rfl p2 (hlen'.trans (congrArg (· + 1) h4)) fun t' L'' q1 q2 q3 q4 q5=>wpAny_pure ?_))
   have hsb2:=Heap.SameBut.update (s.heap.update S (Obj.putSet (elems L') t₁)) S (Obj.putSet (elems L'') t')
   have hg2:=Heap.get?_update_self (Obj.putSet (elems L'') t') hg1 (by rw[putSet_of (es:=elems L') (ep:=ep+1) _ _ rfl];rfl)
   rw[putSet_of (es:=elems L') (ep:=ep+1) _ _ rfl] at hg2
   exact new hnK _ _ (hsb1.trans hsb2) (.more ho hex hk hlen hnd hent hmem hnK hnew (hsb1.trans hsb2) hg2 hex rfl q1 q2 q3 (q4.trans (congrArg (· + 1) h4.symm)) q5 (.inr ⟨rfl,q4 ▸ (by decide)⟩))
  ·exact wpAny_ite_false (by rw[decide_eq_false hfl];rfl) (wpAny_pure (new hnK _ _ hsb1 (.more ho hex hk hlen hnd hent hmem hnK hnew hsb1 hg1 hex rfl p2 p3 p4 hlen' (fun _=>Iff.rfl) (by rw[hlen'];rcases hm with ⟨rfl,h⟩ | ⟨rfl,h⟩ <;> omega))))
 clear hnew p3 p4 hsb1 hg1 new hfull
 unfold setAddHashed
 rw[zah]
 refine wpAny_holding (wpAny_bind (wpAny_setState_of ho hd hfit (wpAny_ite_false rfl ?_)))
 refine wpAny_bind (zh1 ho hd ht hr hLm hodd hent hu hk (fun hin=>wpAny_pure (old ((hmem ks).mpr hin) _)) 100000 n none (yy m (tkh prog w ks)) hstart hturn hn rfl hff fun hno=>?_)
 refine wpAny_bind (wpAny_setState_of ho hd hfit ?_)
 dsimp only
 rw[eput]
 refine wpAny_ite_true (by rw[p2.plain];rfl) (wpAny_bind (zau hk ?_))
 show wpAny _ _ (storeSet S (insertAt (elems L) p (tkh prog w ks,.ref a)) t₁ >>= _) _ _ _
 rw[eins]
 exact wpAny_bind (wpAny_storeSet_of ho hd (last (hnot hno)) (by rw[hsz',sizeLine_eq];omega))
end
end Mine
end
section
namespace Mine
open PySem PyProof.Rows PySem.W
noncomputable def lexI:List Int→List Int→Bool
 | [],[]=>false
 | [],_::_=>true
 | _::_,[]=>false
 | x::xs,y::ys=>if x=y then lexI xs ys else decide (x < y)
section
variable{prog:Program}{w:World}{A:Around}{E:Value→Shared→Prop}{s:Shared}
theorem zee{x y:Int}{t u:Tok}{Q:Bool→Shared→Prop}(hu:A.units < cLine)(h:Q (decide (x=y)) s):wpAny (model prog w) A (eqBool (.int x t) (.int y u)) Q E s:=by
 have:=SeqAt.eqBoolOverData prog w A E s (.int x t) (.int y u) (.int x) (.int y) [] [] Q (.int x t) (.int y u) rfl rfl (by show A.units+min 0 0 < cLine;simpa using hu)
 refine this ?_
 exact h
theorem zaj{a b:Addr}{oa ob:Obj}{xs ys:Array Value}{na nb:Nat}{x y:List Int}{P:PySem.Fin→Shared→Prop}(hu:A.units < cLine)(hoa:s.heap.get? a=some oa)(hca:oa.cls=.type "tuple")(hda:oa.data=.seq xs na)(hia:IntsAre xs.toList x)
 (hob:s.heap.get? b=some ob) (hcb:ob.cls=.type "tuple") (hdb:ob.data=.seq ys nb) (hib:IntsAre ys.toList y) (h:P (.done (.ret (.bool (lexI x y)))) s) :
 wpAny (model prog w) A (Builtin.«tuple.__lt__» ⟨[.ref a,.ref b],[]⟩) P E s:=by
 have hTb:s.TypeIs (.ref b) "tuple":=⟨ob,hob,hcb⟩
 show wpAny _ _ (isInstance (.ref b) (.type "tuple") >>= _) _ _ s
 refine wpAny_bind (wpAny_isInstance hTb isSubtype_tuple_tuple ?_)
 simp only[Bool.not_true,Bool.false_eq_true,if_false]
 refine wpAny_bind (wpAny_tupleItemsOf hoa hda ?_)
 refine wpAny_bind (wpAny_tupleItemsOf hob hdb ?_)
 refine wpAny_bind ?_
 refine wpAny_forIn_list _
  (fun rest r s'=>r.1=none∧s'=s∧∃ x' y' xs' ys',rest=List.zip xs' ys'∧IntsAre xs' x'∧IntsAre ys' y'∧lexI x' y'=lexI x y∧(decide (xs'.length < ys'.length))=(decide (xs.size < ys.size)))
  _ ?_ ?_ _ _ ⟨rfl,rfl,x,y,xs.toList,ys.toList,rfl,hia,hib,rfl,by simp⟩
 ·rintro⟨u,v⟩ rest r s' ⟨hr,rfl,x',y',xs',ys',hz,hx',hy',hdec,hlen⟩
  cases hx' with
  | nil=>simp at hz
  | cons k1 t1 hx''=>
    cases hy' with
    | nil=>simp at hz
    | cons k2 t2 hy''=>
      simp only[List.zip_cons_cons,List.cons.injEq,Prod.mk.injEq] at hz
      obtain⟨⟨rfl,rfl⟩,rfl⟩:=hz
      refine wpAny_bind (zee hu ?_)
      by_cases hk:k1=k2
      ·subst hk
       rw[decide_eq_true rfl]
       simp only[Bool.not_true,Bool.false_eq_true,if_false]
       refine wpAny_pure ⟨rfl,rfl,_,_,_,_,rfl,hx'',hy'',?_,by simpa using hlen⟩
       rw[← hdec]
       simp[lexI]
      ·rw[decide_eq_false hk]
       simp only[Bool.not_false,if_true]
       have hf:lexI x y=decide (k1 < k2):=by rw[← hdec];simp[lexI,hk]
       rw[hf] at h
       refine wpAny_bind (wpAny_rule (wpAny_bind ?_))
       refine wpAny_lt_int (A:=A) ?_
       exact wpAny_bind (wpAny_pure (wpAny_pure (wpAny_pure h)))
 ·rintro⟨r1,r2⟩ s' ⟨hr,rfl,x',y',xs',ys',hz,hx',hy',hdec,hlen⟩
  simp only at hr
  subst hr
  refine wpAny_pure ?_
  have hfin:decide (xs.size < ys.size)=lexI x y:=by
   rw[← hdec,← hlen]
   cases hx' with
   | nil=>
     cases hy' with
     | nil=>simp[lexI]
     | cons _ _ _=>simp[lexI]
   | cons _ _ _=>
     cases hy' with
     | nil=>simp[lexI]
     | cons _ _ _=>simp at hz
  show P (.done (.ret (.bool (decide (xs.size < ys.size))))) s'
  rw[hfin];exact h
theorem zia{a b:Addr}{oa ob:Obj}{xs ys:Array Value}{na nb:Nat}{x y:List Int}{Q:Value→Shared→Prop}(hu:A.units+1 < cLine)(hoa:s.heap.get? a=some oa)(hca:oa.cls=.type "tuple")(hda:oa.data=.seq xs na)(hia:IntsAre xs.toList x)
 (hob:s.heap.get? b=some ob) (hcb:ob.cls=.type "tuple") (hdb:ob.data=.seq ys nb) (hib:IntsAre ys.toList y) (h:Q (.bool (lexI x y)) s):wpAny (model prog w) A (compareOp .Lt (.ref a) (.ref b)) Q E s:=by
 show wpAny _ _ (richCompare .Lt (.ref a) (.ref b)) Q E s
 have hTa:s.TypeIs (.ref a) "tuple":=⟨oa,hoa,hca⟩
 have hTb:s.TypeIs (.ref b) "tuple":=⟨ob,hob,hcb⟩
 exact wpAny_richCompare_same_room (op:=.Lt) hTa hTb F.slot_tuple_lt (wpAny_call_entry F.slot_tuple_lt hTa F.entry_tuple_lt (zaj (A:=A.in1) hu hoa hca hda hia hob hcb hdb hib ⟨_,rfl,(fun e=>nomatch e),h⟩) (F.args_tuple_lt_2 _ _)) (by omega)
noncomputable def wq{α:Type}(lt:Nat→Nat→Option Bool):KasT α→Option α
 | .ret a=>some a
 | .ask i j k=>match lt i j with
   | some b=>wq lt (k b)
   | none=>none
theorem zkg{α:Type}{cmp:Nat→Nat→(Bool→Shared→Prop)→Shared→Prop}{lt:Nat→Nat→Option Bool}{s:Shared}(hc:∀ i j b (C:Bool→Shared→Prop),lt i j=some b→C b s→cmp i j C s){Q:α→Shared→Prop}{a:α}(hq:Q a s) :
 ∀ (t:KasT α),wq lt t=some a→t.kasWp cmp Q s
 | .ret b,h=>by cases h;exact hq
 | .ask i j k,h=>by
   unfold wq at h
   cases hl:lt i j with
   | none=>rw[hl] at h;cases h
   | some b=>
     rw[hl] at h
     exact hc i j b _ hl (zkg hc hq (k b) h)
theorem zhw{a:Addr}{vs:List Value}{n:Nat}{κ:SortKind}{lt:Nat→Nat→Option Bool}{out:List Value}{P:PySem.Fin→Shared→Prop}(ho:s.heap.get? a=some (seqObj "list" vs.toArray n))(h64:vs.length < 64)
 (hk:∀ (s':Shared),(∀ b o,b≠a→s.heap.get? b=some o→s'.heap.get? b=some o)→2≤vs.length→∀ (Q:SortKind→Shared→Prop),Q κ s'→wpAny (model prog w) A (keyKind' vs.toArray) Q E s')
 (hc:∀ (s':Shared),(∀ b o,b≠a→s.heap.get? b=some o→s'.heap.get? b=some o)→∀ i j b (C:Bool→Shared→Prop),lt i j=some b→C b s'→wpAny (model prog w) A (keyLt' κ (vs.getD i Value.none) (vs.getD j Value.none)) C (fun _ _=>False) s')
 (hev:(vs.length < 2∧out=vs)∨(2≤vs.length∧∃ p,wq lt (kas_sort vs.length)=some p∧out=p.toList.map fun i=>vs.getD i Value.none))
 (h:P (.done (.ret .none)) { s with heap:=sortedHeap s.heap a vs out.toArray }):wpAny (model prog w) A (Builtin.«list.sort» ⟨[.ref a],[]⟩) P E s:=by
 rw[list_sort_plain]
 have ha:a < s.heap.objs.size:=Heap.lt_size ho
 refine wpAny_bind (listItems_at ho rfl ?_)
 refine wpAny_bind (listUpdate_at ho rfl ?_ (by rw[List.size_toArray,sizeLine_eq];omega) (Nat.zero_le _))
 obtain ⟨e1,ho1⟩ : ∃ e1,(s.heap.update a (Obj.mapSeq fun _=>#[])).get? a=some (seqObj "list" #[] e1):=⟨_,get?_update_seq ho (fun _=>#[])⟩
 refine wpAny_bind (seqEpoch_at ho1 rfl ?_)
 refine wpAny_bind (wpAny_newTuple ?_ (by show vs.length≤_;rw[sizeLine_eq];omega))
 refine wpAny_bind (wpAny_newList ?_ (Nat.zero_le _))
 refine wpAny_holding ?_
 have ho6:(((s.heap.update a (Obj.mapSeq fun _=>#[])).push (seqObj "tuple" vs.toArray 0)).push (seqObj "list" #[] 0)).get? a=some (seqObj "list" #[] e1):=by
  rw[Heap.get?_push_ne _ _ _ (by rw[size_push',Heap.size_update];exact Nat.ne_of_lt (Nat.lt_succ_of_lt ha)),Heap.get?_push_ne _ _ _ (by rw[Heap.size_update];exact Nat.ne_of_lt ha)]
  exact ho1
 show wpAny (model prog w) A _ P E { s with heap:=((s.heap.update a (Obj.mapSeq fun _=>#[])).push (seqObj "tuple" vs.toArray 0)).push (seqObj "list" #[] 0) }
 have keep:∀ b o,b≠a→s.heap.get? b=some o→(((s.heap.update a (Obj.mapSeq fun _=>#[])).push (seqObj "tuple" vs.toArray 0)).push (seqObj "list" #[] 0)).get? b=some o:=fun b o hb e=>
  Heap.get?_push_of_some _ (Heap.get?_push_of_some _ ((Heap.get?_update_ne _ _ _ _ hb).trans e))
 dsimp only
 have hsz:vs.toArray.size=vs.length:=by simp
 rcases hev with ⟨h2,hout⟩ | ⟨h2,p,hp,rfl⟩
 ·rw[hout] at h
  have h2':vs.toArray.size < 2:=by rw[hsz];exact h2
  rw[if_pos h2',if_pos h2']
  refine wpAny_bind (wpAny_pure ?_)
  rw[StateT.run_pure]
  refine wpAny_bind (wpAny_pure ?_)
  dsimp only
  refine wpAny_bind (seqEpoch_at ho6 rfl ?_)
  have hmap:Array.map (fun x=>x.2) (arrOf (SortSt.mk' general' (vs.toArray.zip vs.toArray) #[] 7 none))=vs.toArray:=by
   show Array.map (fun x=>x.2) (vs.toArray.zip vs.toArray)=vs.toArray
   apply Array.toList_inj.mp
   simp[List.map_snd_zip]
  rw[hmap]
  refine wpAny_bind (listUpdate_at ho6 rfl ?_ (Nat.zero_le _) (by rw[List.size_toArray,sizeLine_eq];omega))
  simp only[bne_self_eq_false,Bool.false_eq_true,if_false]
  exact wpAny_pure h
 ·have h2':¬ vs.toArray.size < 2:=by rw[hsz];omega
  rw[if_neg h2',if_neg h2']
  refine wpAny_bind (hk _ keep h2 _ ?_)
  refine wpAny_bind (wpAny_mono (kat_run (ks:=vs) (Q:=fun st' s'=>s' = { s with heap:=((s.heap.update a (Obj.mapSeq fun _=>#[])).push (seqObj "tuple" vs.toArray 0)).push (seqObj "list" #[] 0) }∧p.size=vs.length∧arrOf st'=p.map (kas_item (vs.toArray.zip vs.toArray))∧failedOf st'=none)
   (G:=fun q s'=>q=p∧s' = { s with heap:=((s.heap.update a (Obj.mapSeq fun _=>#[])).push (seqObj "tuple" vs.toArray 0)).push (seqObj "list" #[] 0) }) rfl h2 h64 (fun q st' s' a1 a2 a3 a4=>by obtain ⟨rfl,rfl⟩:=a4;exact ⟨rfl,a1,a2,a3⟩)
   (zkg (fun i j b C hl hC=>hc _ keep i j b C hl hC) ⟨rfl,rfl⟩ _ hp)) ?_ fun _ _ e=>e)
  rintro⟨⟨⟩,st'⟩ s' ⟨rfl,hps,har,hf⟩
  dsimp only
  refine wpAny_bind (seqEpoch_at ho6 rfl ?_)
  rw[kat_snds rfl har]
  refine wpAny_bind (listUpdate_at ho6 rfl ?_ (Nat.zero_le _) (by rw[List.size_toArray,List.length_map,Array.length_toList,hps,sizeLine_eq];omega))
  rw[hf]
  simp only[bne_self_eq_false,Bool.false_eq_true,if_false]
  exact wpAny_pure h
theorem zdc{h:Heap}{a:Addr}{vs out:List Value}{n:Nat}(ho:h.get? a=some (seqObj "list" vs.toArray n)) :
 (∀ b o,b≠a→h.get? b=some o→(sortedHeap h a vs out.toArray).get? b=some o)∧∃ c,(sortedHeap h a vs out.toArray).get? a=some (seqObj "list" out.toArray c):=by
 have ha:a < h.objs.size:=Heap.lt_size ho
 obtain ⟨e1,ho1⟩ : ∃ e1,(h.update a (Obj.mapSeq fun _=>#[])).get? a=some (seqObj "list" #[] e1):=⟨_,get?_update_seq ho (fun _=>#[])⟩
 have ho6:(((h.update a (Obj.mapSeq fun _=>#[])).push (seqObj "tuple" vs.toArray 0)).push (seqObj "list" #[] 0)).get? a=some (seqObj "list" #[] e1):=by
  rw[Heap.get?_push_ne _ _ _ (by rw[size_push',Heap.size_update];exact Nat.ne_of_lt (Nat.lt_succ_of_lt ha)),Heap.get?_push_ne _ _ _ (by rw[Heap.size_update];exact Nat.ne_of_lt ha)]
  exact ho1
 refine⟨fun b o hb e=>?_,_,get?_update_seq ho6 fun _=>out.toArray⟩
 unfold sortedHeap
 rw[Heap.get?_update_ne _ _ _ _ hb]
 exact Heap.get?_push_of_some _ (Heap.get?_push_of_some _ ((Heap.get?_update_ne _ _ _ _ hb).trans e))
theorem zdb{l:Addr}{vs:List Value}{κ:SortKind}{lt:Nat→Nat→Option Bool}{out:List Value}{Q:Value→Shared→Prop}(hl:s.heap.IsList l vs.toArray)(h64:vs.length < 64)
 (hk:∀ (s':Shared),(∀ b o,s.heap.get? b=some o→s'.heap.get? b=some o)→2≤vs.length→∀ (Q:SortKind→Shared→Prop),Q κ s'→wpAny (model prog w) A.in1.in1 (keyKind' vs.toArray) Q (fun _ _=>False) s')
 (hc:∀ (s':Shared),(∀ b o,s.heap.get? b=some o→s'.heap.get? b=some o)→∀ i j b (C:Bool→Shared→Prop),lt i j=some b→C b s'→wpAny (model prog w) A.in1.in1 (keyLt' κ (vs.getD i Value.none) (vs.getD j Value.none)) C (fun _ _=>False) s')
 (hev:(vs.length < 2∧out=vs)∨(2≤vs.length∧∃ p,wq lt (kas_sort vs.length)=some p∧out=p.toList.map fun i=>vs.getD i Value.none))
 (h:∀ D h' c,s.heap.get? D=none→(∀ b o,s.heap.get? b=some o→h'.get? b=some o)→h'.get? D=some (seqObj "list" out.toArray c)→Q (.ref D) { s with heap:=h' }) :
 wpAny (model prog w) A (call (.builtin "sorted") [.ref l]) Q E s:=by
 refine Calls.call_function_entry kind_sorted plain_sorted entry_sorted (args_sorted1 _) ?_
 unfold Builtin.«sorted»
 refine wpAny_bind (m:=checkCount "sorted" 1 1 _) (wpAny_pure ?_)
 refine wpAny_bind (collect_list hl ?_ (by rw[sizeLine_eq];omega))
 refine wpAny_bind (wpAny_newList ?_ (by rw[sizeLine_eq];omega))
 have hsz:((s.heap.push (seqObj "list" #[] 0)).update s.heap.objs.size (Obj.mapSeq (·++vs.toArray))).objs.size=s.heap.objs.size+1:=by
  rw[Heap.size_update,size_push']
 have hoL:(((s.heap.push (seqObj "list" #[] 0)).update s.heap.objs.size (Obj.mapSeq (·++vs.toArray))).push (seqObj "list" vs.toArray 0)).get? (s.heap.objs.size+1)=some (seqObj "list" vs.toArray 0):=by
  rw[← hsz];exact Heap.get?_push_size _ rfl
 have keep:∀ b o,s.heap.get? b=some o→(((s.heap.push (seqObj "list" #[] 0)).update s.heap.objs.size (Obj.mapSeq (·++vs.toArray))).push (seqObj "list" vs.toArray 0)).get? b=some o:=fun b o q=>by
  have hlt:b < s.heap.objs.size:=Heap.lt_size q
  rw[Heap.get?_push_ne _ _ _ (by rw[hsz];exact Nat.ne_of_lt (Nat.lt_succ_of_lt hlt)),Heap.get?_update_ne _ _ _ _ (Nat.ne_of_lt hlt),Heap.get?_push_ne _ _ _ (Nat.ne_of_lt hlt)]
  exact q
 have ne:∀ b o,s.heap.get? b=some o→b≠s.heap.objs.size+1:=fun b o q=>Nat.ne_of_lt (Nat.lt_succ_of_lt (Heap.lt_size q))
 show wpAny _ _ _ _ _ { s with heap:=((s.heap.push (seqObj "list" #[] 0)).update s.heap.objs.size (Obj.mapSeq (·++vs.toArray))).push (seqObj "list" vs.toArray 0) }
 rw[hsz]
 obtain⟨k1,c,k2⟩:=zdc (out:=out) hoL
 refine wpAny_bind (wpAny_holding (wpAny_call_entry slot_list_sort ⟨_,hoL,rfl⟩ entry_list_sort ?body (args_list_sort _)))
 case body=>
  refine wpAny_mono (zhw (E:=fun _ _=>False) (P:=fun r s'=>r=.done (.ret .none)∧s'=_) hoL h64 (fun s' hk' h2 Q q=>hk s' (fun b o e=>hk' b o (ne b o e) (keep b o e)) h2 Q q) (fun s' hk' i j b C hl hC=>hc s' (fun b o e=>hk' b o (ne b o e) (keep b o e)) i j b C hl hC) hev ⟨rfl,rfl⟩) (fun r s' hr=>?_) fun _ _ x=>x.elim
  obtain⟨rfl,rfl⟩:=hr
  exact⟨_,rfl,wpAny_pure ⟨_,rfl,h _ _ c (Heap.get?_none_of_le (Nat.le_succ _)) (fun b o e=>k1 b o (ne b o e) (keep b o e)) k2⟩⟩
end
noncomputable def za0:PyData→Option (List Int)
 | .tuple a=>Mine.intsOf a
 | _=>none
noncomputable def zoi:List PyData→Option (List Int×List Int)
 | [x,y]=>(za0 x).bind fun a=>(za0 y).map fun b=>(a,b)
 | _=>none
noncomputable def pairOf:PyData→Option (List Int×List Int)
 | .tuple xs=>zoi xs
 | _=>none
noncomputable def ltP(p q:List Int×List Int):Bool:=if p.1=q.1 then (if p.2=q.2 then false else lexI p.2 q.2) else lexI p.1 q.1
noncomputable def ltAt(ps:List (List Int×List Int))(i j:Nat):Option Bool:=match ps[i]?,ps[j]? with
 | some p,some q=>some (ltP p q)
 | _,_=>none
noncomputable def j7:List PyData→Option (List (List Int×List Int))
 | []=>some []
 | x::r=>(pairOf x).bind fun p=>(j7 r).map (p::·)
noncomputable def zc9(xs:List PyData):Option (List PyData):=(j7 xs).bind fun ps=>if xs.length < 2 then some xs else (wq (ltAt ps) (kas_sort xs.length)).map fun p=>p.toList.map fun i=>xs.getD i .none
theorem lays:∀ is:List Int,PyData.canLayAll0 (is.map .int)=true
 | []=>rfl
 | _::is=>lays is
theorem qh:∀ a b:List Int,PyData.eqvAll (a.map .int) (b.map .int)=decide (a=b)
 | [],[]=>rfl
 | [],_::_=>rfl
 | _::_,[]=>rfl
 | x::a,y::b=>by
   show (decide (x=y) && PyData.eqvAll (a.map .int) (b.map .int))=_
   rw[qh a b]
   by_cases h:x=y <;> by_cases h':a=b <;> simp[h,h']
theorem qj:∀ a:List Int,PyData.depthAll (a.map .int)≤0
 | []=>Nat.le_refl 0
 | _::a=>Nat.max_le.mpr ⟨Nat.le_refl 0,qj a⟩
theorem zd1{a:List PyData}{x:List Int}(h:Mine.intsOf a=some x):PyData.canLayAll0 a=true:=by rw[ints_length h];exact lays x
theorem zkn{a b:List PyData}{x y:List Int}(h1:Mine.intsOf a=some x)(h2:Mine.intsOf b=some y):PyData.eqvAll a b=decide (x=y):=by rw[ints_length h1,ints_length h2];exact qh x y
theorem zgc{a:List PyData}{x:List Int}(h:Mine.intsOf a=some x):PyData.depthAll a≤0:=by rw[ints_length h];exact qj x
inductive TupI(h:Heap)(b:Addr)(p:List Int):Prop
 | mk (o:Obj) (n:Nat) (vs:Array Value) (g1:h.get? b=some o) (g2:o.cls=.type "tuple") (g3:o.data=.seq vs n) (g4:IntsAre vs.toList p) (xs:List PyData) (as:List Addr) (r:Reads h (.ref b) (.tuple xs) as) (i:Mine.intsOf xs=some p)
inductive PairAt(h:Heap)(v:Value)(p:List Int×List Int):Prop
 | mk (a b c:Addr) (o:Obj) (n:Nat) (e:v=.ref a) (h1:h.get? a=some o) (h2:o.cls=.type "tuple") (h3:o.data=.seq #[.ref b,.ref c] n) (t1:TupI h b p.1) (t2:TupI h c p.2)
theorem zb2{h:Heap}{v:Value}{x:PyData}{as:List Addr}{p:List Int}(r:Reads h v x as)(e:za0 x=some p):∃ b,v=.ref b∧TupI h b p:=by
 cases x <;> first | (cases e;done) | skip
 have r':=r
 cases r with
 | tuple h1 h2 h3 h4=>exact⟨_,rfl,_,_,_,h1,h2,h3,ints_get h4 e,_,_,r',e⟩
theorem zh5{xs:List PyData}{p:List Int×List Int}(e:zoi xs=some p):∃ x y,xs=[x,y]∧za0 x=some p.1∧za0 y=some p.2:=by
 cases xs with
 | nil=>cases e
 | cons x xs=>cases xs with
   | nil=>cases e
   | cons y xs=>cases xs with
     | cons _ _=>cases e
     | nil=>
       obtain⟨a,h1,e⟩:=Option.bind_eq_some_iff.mp e
       obtain⟨b,h2,rfl⟩:=Option.map_eq_some_iff.mp e
       exact⟨x,y,rfl,h1,h2⟩
set_option tactic.hygienic true in
theorem zmq{h:Heap}{v:Value}{x:PyData}{as:List Addr}{p:List Int×List Int}(r:Reads h v x as)(e:pairOf x=some p):PairAt h v p:=by
 cases x <;> first | (cases e;done) | skip
 obtain⟨x,y,rfl,hx,hy⟩:=zh5 e
 cases r with
 | tuple h1 h2 h3 h4=>
   rename_i ad o vs n
   obtain⟨v1,v2,bs,cs,hvs,r1,_,r2,_⟩:=wi (P:=fun _=>True) h4 fun _ _=>trivial
   obtain⟨b,rfl,t1⟩:=zb2 r1 hx
   obtain⟨c,rfl,t2⟩:=zb2 r2 hy
   exact⟨_,b,c,o,n,rfl,h1,h2,by rw[h3,Array.toList_inj.mp (show vs.toList = #[Value.ref b,.ref c].toList from hvs)],t1,t2⟩
theorem TupI.keeps{h h':Heap}{b:Addr}{p:List Int}(hk:∀ b o,h.get? b=some o→h'.get? b=some o)(x:TupI h b p):TupI h' b p:=
 let ⟨o,n,vs,g1,g2,g3,g4,xs,as,r,i⟩:=x;⟨o,n,vs,hk _ _ g1,g2,g3,g4,xs,as,z6 hk r,i⟩
theorem PairAt.keeps{h h':Heap}{v:Value}{p:List Int×List Int}(hk:∀ b o,h.get? b=some o→h'.get? b=some o)(x:PairAt h v p):PairAt h' v p:=
 let ⟨a,b,c,o,n,e,h1,h2,h3,t1,t2⟩:=x;⟨a,b,c,o,n,e,hk _ _ h1,h2,h3,t1.keeps hk,t2.keeps hk⟩
theorem pairs_at{h:Heap}{vs:List Value}{xs:List PyData}{as:List Addr}(r:ReadsAll h vs xs as):∀ {ps:List (List Int×List Int)},j7 xs=some ps→vs.length=ps.length∧∀ (i:Nat) p,ps[i]?=some p→∃ v,vs[i]?=some v∧PairAt h v p:=by
 refine z9 (motive:=fun vs xs _=>∀ {ps:List (List Int×List Int)},j7 xs=some ps→vs.length=ps.length∧∀ (i:Nat) p,ps[i]?=some p→∃ v,vs[i]?=some v∧PairAt h v p) ?_ ?_ r
 ·intro ps e;cases e;exact⟨rfl,fun i p h=>by rw[List.getElem?_nil] at h;cases h⟩
 ·intro v d as vs ds bs r _ ih ps e
  obtain⟨p,hx,e⟩:=Option.bind_eq_some_iff.mp e
  obtain⟨q,hr,rfl⟩:=Option.map_eq_some_iff.mp e
  obtain⟨l,k⟩:=ih hr
  refine⟨congrArg (· + 1) l,fun i p' h=>?_⟩
  cases i with
  | zero=>have h:some p=some p':=h
          cases h;exact⟨v,rfl,zmq r hx⟩
  | succ i=>exact k i p' h
section
variable{prog:Program}{w:World}{A:Around}{E:Value→Shared→Prop}{s:Shared}
theorem zhg{b b':Addr}{p q:List Int}{C:Bool→Shared→Prop}(hu:A.units+10 < cLine)(t:TupI s.heap b p)(t':TupI s.heap b' q)(h:C (decide (p=q)) s):wpAny (model prog w) A (eqBool (.ref b) (.ref b')) C E s:=by
 obtain⟨_,_,_,_,_,_,_,xs,as,r,i⟩:=t
 obtain⟨_,_,_,_,_,_,_,xs',as',r',i'⟩:=t'
 have d1:(PyData.tuple xs).depth≤1:=Nat.succ_le_succ (zgc i)
 refine SeqAt.eqBoolOverData prog w A _ s _ _ _ _ _ _ _ r r' (zd1 i) (zd1 i') (by omega) ?_
 have e1:PyData.eqv (.tuple xs) (.tuple xs')=decide (p=q):=zkn i i'
 rw[e1];exact h
theorem zg4{b b':Addr}{p q:List Int}{Q:Value→Shared→Prop}(hu:A.units+1 < cLine)(t:TupI s.heap b p)(t':TupI s.heap b' q)(h:Q (.bool (lexI p q)) s):wpAny (model prog w) A (compareOp .Lt (.ref b) (.ref b')) Q E s:=by
 obtain⟨_,_,_,g1,g2,g3,g4,_,_,_,_⟩:=t
 obtain⟨_,_,_,k1,k2,k3,k4,_,_,_,_⟩:=t'
 exact zia hu g1 g2 g3 g4 k1 k2 k3 k4 h
theorem zj4{v u:Value}{p q:List Int×List Int}{C:Bool→Shared→Prop}(hu:A.units+10 < cLine)(hv:PairAt s.heap v p)(hw:PairAt s.heap u q)(h:C (ltP p q) s):wpAny (model prog w) A (keyLt' (tuples' false) v u) C E s:=by
 obtain⟨a,b,c,o,n,rfl,h1,h2,h3,t1,t2⟩:=hv
 obtain⟨a',b',c',o',n',rfl,h1',h2',h3',t1',t2'⟩:=hw
 have hu1:A.units+1 < cLine:=by omega
 refine kat_lt h1 h3 h1' h3' ?_
 show KatLex prog w A false (decide (2 < 2)) C [(.ref b,.ref b'),(.ref c,.ref c')] 0 s
 refine kat_cons (zhg hu t1 t1' ?_)
 unfold ltP at h
 by_cases hp:p.1=q.1
 ·rw[if_pos hp] at h
  rw[decide_eq_true hp]
  refine kat_yes (kat_cons (zhg hu t2 t2' ?_))
  by_cases hq:p.2=q.2
  ·rw[if_pos hq] at h
   rw[decide_eq_true hq]
   exact kat_yes (kat_nil h)
  ·rw[if_neg hq] at h
   rw[decide_eq_false hq]
   exact kat_no (kat_one _ _ (zg4 hu1 t2 t2' h))
 ·rw[if_neg hp] at h
  rw[decide_eq_false hp]
  exact kat_no (kat_one _ _ (zg4 hu1 t1 t1' h))
theorem zf8{vs:List Value}{ps:List (List Int×List Int)}{Q:SortKind→Shared→Prop}(hl:vs.length=ps.length)(hp:∀ (i:Nat) p,ps[i]?=some p→∃ v,vs[i]?=some v∧PairAt s.heap v p)(h2:2≤vs.length)(h:Q (tuples' false) s) :
 wpAny (model prog w) A (keyKind' vs.toArray) Q E s:=by
 have key:∀ (vs:List Value) (ps:List (List Int×List Int)),vs.length=ps.length→(∀ (i:Nat) p,ps[i]?=some p→∃ v,vs[i]?=some v∧PairAt s.heap v p)→∃ fs,KatTups s.heap vs fs∧fs.length=vs.length∧∀ f∈fs,∃ b o,f=Value.ref b∧s.heap.get? b=some o∧o.cls=.type "tuple":=by
  intro vs
  induction vs with
  | nil=>intro ps _ _;exact⟨[],trivial,rfl,fun _ h=>nomatch h⟩
  | cons v vs ih=>
    intro ps hl hp
    cases ps with
    | nil=>cases hl
    | cons p ps=>
      obtain⟨fs,k1,k2,k3⟩:=ih ps (Nat.succ.inj hl) fun i p' h=>hp (i+1) p' h
      obtain⟨v',e,a,b,c,o,n,rfl,h1,h2,h3,⟨o1,_,_,g1,g2,_,_,_,_,_,_⟩,_⟩:=hp 0 p rfl
      have e:some v=some _:=e
      cases e
      refine⟨.ref b::fs,KatTups.cons h1 h2 h3 (by simp) k1,by simp[k2],fun f hf=>?_⟩
      rcases List.mem_cons.mp hf with rfl | hf
      ·exact⟨b,o1,rfl,g1,g2⟩
      ·exact k3 f hf
 obtain⟨fs,k1,k2,k3⟩:=key vs ps hl hp
 refine kat_kind (T:=.type "tuple") k1 (by rw [k2];omega) (fun f hf=>?_) (by decide) h
 obtain⟨b,o,rfl,h1,h2⟩:=k3 f hf
 rw[← h2]
 exact (Looks.ld h1).andThen .now
end
theorem zdm{h:Heap}{P:Addr→Prop}{vs:List Value}{xs:List PyData}{as:List Addr}(r:ReadsAll h vs xs as)(q:∀ a∈as,P a)(i:Nat)(x:PyData)(e:xs[i]?=some x):∃ v bs,vs[i]?=some v∧Reads h v x bs∧∀ b∈bs,P b:=zr r q e
theorem vf{h:Heap}{P:Addr→Prop}{vs:List Value}{xs:List PyData}{as:List Addr}(r:ReadsAll h vs xs as)(q:∀ a∈as,P a):∀ (l:List Nat),(∀ i∈l,i < xs.length)→∃ bs,ReadsAll h (l.map fun i=>vs.getD i Value.none) (l.map fun i=>xs.getD i .none) bs∧∀ b∈bs,P b
 | [],_=>⟨[],.nil,fun _ h=>nomatch h⟩
 | i::l,hl=>by
   have hi:=hl i List.mem_cons_self
   obtain⟨v,bs,e1,r1,q1⟩:=zdm r q i _ (List.getElem?_eq_getElem hi)
   obtain⟨cs,r2,q2⟩:=vf r q l fun j hj=>hl j (List.mem_cons_of_mem _ hj)
   refine⟨bs++cs,?_,fun b hb=>(List.mem_append.mp hb).elim (q1 b) (q2 b)⟩
   have ev:vs.getD i Value.none=v:=by simp[List.getD,e1]
   have ex:xs.getD i .none=xs[i]:=by simp[List.getD,hi]
   rw[List.map_cons,List.map_cons,ev,ex]
   exact .cons r1 r2
noncomputable def zfh(xs:List PyData):Bool:=match wq (ltAt ((j7 xs).getD [])) (kas_sort xs.length) with
 | some p=>p.toList.all fun i=>decide (i < xs.length)
 | none=>true
noncomputable def zfi(xs:List PyData):Option (List PyData):=if zfh xs=true then zc9 xs else none
set_option tactic.hygienic true in
theorem zpj{G:Gl}{P:Pg}(hP:P.srt=zfi):zbx G P:=by
 intro A F s β ρ O v d xs ys k ro sr rv hx h64 hs
 obtain⟨a,rfl,o,vs,n,h1,h2,h3,as,h4,h5⟩:=yf sr rv hx
 rw[hP] at hs
 unfold zfi at hs
 by_cases hcond:zfh xs=true
 ·rw[if_pos hcond] at hs
  ·have hy:=hs
   unfold zc9 at hy
   cases hps:j7 xs with
   | none=>rw[hps] at hy;cases hy
   | some ps=>
     rw[hps] at hy
     simp only[Option.bind_some] at hy
     obtain⟨hl,hat⟩:=pairs_at h4 hps
     have hvl:vs.toList.length=xs.length:=zf h4
     have hu:=ro.c (n:=200)
     have hL:s.heap.IsList a vs.toList.toArray:=⟨o,h1,h2,n,by simpa using h3⟩
     have fin:∀ (out:List Value) (bs:List Addr),(∀ h',(∀ b o,s.heap.get? b=some o→h'.get? b=some o)→ReadsAll h' out ys bs)→(∀ b∈bs,b∉β∧b∉F.B) →
      ((vs.toList.length < 2∧out=vs.toList)∨(2≤vs.toList.length∧∃ p,wq (ltAt ps) (kas_sort vs.toList.length)=some p∧out=p.toList.map fun i=>vs.toList.getD i Value.none)) →
      LeafD G F s β (tr G A (call (.builtin "sorted") [.ref a])) (V.d (.list ys)) (FRel G F s):=by
      intro out bs hrd hq hev
      refine LeafD.leaf sr fun Q E kk=>zdb (κ:=tuples' false) (lt:=ltAt ps) (out:=out) hL (by rw[hvl];exact h64) (fun s' hk h2' Q q=>zf8 hl (fun i p hi=>let ⟨v,e,pa⟩:=hat i p hi;⟨v,e,pa.keeps hk⟩) h2' q)
       (fun s' hk i j b C hlt hC=>?_) hev fun D h' c hDn hk hD=>?_
      ·unfold ltAt at hlt
       split at hlt
       ·rename_i p q hp hq'
        cases hlt
        obtain⟨v,e,pv⟩:=hat i p hp
        obtain⟨u,e',pu⟩:=hat j q hq'
        have ev:vs.toList.getD i Value.none=v:=by simp only[List.getD,e,Option.getD_some]
        have eu:vs.toList.getD j Value.none=u:=by simp only[List.getD,e',Option.getD_some]
        rw[ev,eu]
        exact zj4 (by show A.units+1+1+10 < cLine;omega) (pv.keeps hk) (pu.keeps hk) hC
       ·cases hlt
      ·have hDβ:D∉β∧D∉F.B:=⟨fun hm=>(by obtain⟨o,e,_⟩:=sr.br.alive D hm;rw[hDn] at e;cases e),fun hm=>(by obtain⟨o,e,_⟩:=sr.fm.stor D hm;rw[hDn] at e;cases e)⟩
       exact kk _ _ (xf (tk:=s.toks) hk) ⟨xe hD rfl rfl (by simpa using hrd h' hk) hq hDβ,fun _ _=>⟨D,rfl,hDn,_,hD,rfl,rfl⟩⟩
     split at hy
     ·rename_i hlt
      cases hy
      exact fin vs.toList as (fun h' hk=>zy hk h4) h5 (.inl ⟨by rw[hvl];exact hlt,rfl⟩)
     ·rename_i hge
      cases hev:wq (ltAt ps) (kas_sort xs.length) with
      | none=>rw[hev] at hy;cases hy
      | some p=>
        rw[hev] at hy
        cases hy
        have hall:∀ i∈p.toList,i < xs.length:=by
         have:=hcond
         unfold zfh at this
         rw [hps] at this
         simp only [Option.getD_some,hev] at this
         intro i hi
         exact of_decide_eq_true (List.all_eq_true.mp this i hi)
        obtain⟨bs,r1,q1⟩:=vf h4 h5 p.toList hall
        exact fin _ bs (fun h' hk=>zy hk r1) q1 (.inr ⟨by rw[hvl];omega,p,by rw[hvl];exact hev,rfl⟩)
 ·rw[if_neg hcond] at hs;cases hs
noncomputable def tabOf(L:List Int)(led:Bool):SetTable:={ mask:=7,place:=(L.map Int.toNat).toArray,dummies:=#[],finger:=0,led:=led,moves:=0,plain:=true }
structure Few(L:List Int)(n:Nat):Prop where
 up:L.Pairwise (· < ·)
 lo:∀ x∈L,0≤x∧x < 5
 len:L.length≤n
theorem zqr{x:Int}(h:0≤x∧x < 5):∃ a:_root_.Fin 5,x=(a.val:Int):=⟨⟨x.toNat,by omega⟩,by simp;omega⟩
set_option tactic.hygienic true in
theorem zag:∀ (k:Int) (L:List Int) (x:Int),x∈addI k L↔x=k∨x∈L
 | k,[],x=>by simp[addI]
 | k,b::r,x=>by
   unfold addI
   split
   ·simp
   ·split
    ·rename_i h;subst h;simp
    ·simp only[List.mem_cons,zag k r x]
     constructor
     ·rintro (h | h | h) <;> simp[h]
     ·rintro (h | h | h) <;> simp[h]
set_option tactic.hygienic true in
theorem zhq:∀ (k:Int) (L:List Int),L.Pairwise (· < ·)→(addI k L).Pairwise (· < ·)
 | k,[],_=>by simp[addI]
 | k,b::r,h=>by
   obtain⟨h1,h2⟩:=List.pairwise_cons.mp h
   unfold addI
   split
   ·rename_i hk
    refine List.pairwise_cons.mpr ⟨fun x hx=>?_,h⟩
    rcases List.mem_cons.mp hx with rfl | hx
    ·exact hk
    ·exact Int.lt_trans hk (h1 x hx)
   ·split
    ·exact h
    ·rename_i hk hne
     refine List.pairwise_cons.mpr ⟨fun x hx=>?_,zhq k r h2⟩
     rcases (zag k r x).mp hx with rfl | hx
     ·omega
     ·exact h1 x hx
theorem ze6:∀ (k:Int) (L:List Int),(addI k L).length≤L.length+1
 | k,[]=>by simp[addI]
 | k,b::r=>by
   unfold addI
   split
   ·simp
   ·split
    ·simp
    ·have:=ze6 k r;simp;omega
theorem Few.add{L:List Int}{k:Int}{n:Nat}(f:Few L n)(hk:0≤k∧k < 5):Few (addI k L) (n+1):=
 ⟨zhq k L f.up,fun x hx=>by rcases (zag k L x).mp hx with rfl | hx;exact hk;exact f.lo x hx,Nat.le_trans (ze6 k L) (Nat.succ_le_succ f.len)⟩
noncomputable def SmallSet(h:Heap)(S:Addr)(L:List Int)(led:Bool):Prop:=
 ∃ o es ep,h.get? S=some o∧o.ExactSet∧o.data=.set es ep (tabOf L led)∧es.toList.map (·.1)=L∧∀ e∈es.toList,∃ t,e.2=.int e.1 t
section
variable{prog:Program}{w:World}{A:Around}{E:Value→Shared→Prop}{s:Shared}
theorem zgd{k:Int}(hk:0≤k∧k < 5):(intKind prog w).hash k=k:=by
 obtain⟨k,rfl⟩:=zqr hk
 show hashInt (k.val:Int)=_
 revert k
 decide +kernel
theorem SmallSet.elems{es:List (Int×Value)}{L:List Int}{n:Nat}(f:Few L n)(h1:es.map (·.1)=L)(h2:∀ e∈es,∃ t,e.2=.int e.1 t):ElemsOf (intKind prog w) es:=fun e he=>by
 obtain⟨t,ht⟩:=h2 e he
 have hm:e.1∈L:=by rw[← h1];exact List.mem_map.mpr ⟨e,he,rfl⟩
 refine⟨⟨e.1,?_,(zgd (f.lo _ hm)).symm⟩,by rw[ht];rfl⟩
 rw[ht];exact intKind_is _ _ _ _
variable{I:Addr}{fp wr:List Addr}{R:Result→Shared→Prop}{P:Nat→Value→Prop}{St:Nat→Heap→Prop}
end
section
variable{prog:Program}{w:World}{A:Around}{E:Value→Shared→Prop}{s:Shared}
theorem code_set_new(a:Value){Q₁:Value→Shared→Prop}
 (h:Q₁ (.ref s.heap.objs.size) { s with heap:=s.heap.push { cls:=.type "set",dict:=none,data:=.set #[] 0 (.fresh 0 0 (!w.params.followText "set-order")) } }) :
 codeAny (model prog w) A (.call (.builtin "set.__new__") ⟨[.type "set",a],[]⟩) (wants Q₁ E) s:=by
 refine codeAny_of_tree ?_
 show wpAny _ A.in1 (do checkBuiltinCall "set.__new__" ⟨[.type "set",a],[]⟩;again (.builtin "set.__new__" ⟨[.type "set",a],[]⟩)) _ _ s
 refine wpAny_bind (wpAny_of_eq (PySem.F.newCall_set_1 a) (wpAny_pure ⟨plainId_quiet PySem.F.plain_set_new _,codeAny_builtin PySem.F.entry_set_new ?_⟩))
 rw[Around.under_plainId PySem.F.plain_set_new _]
 unfold Builtin.«set.__new__» Builtin.Frozenset.newClass
 have hsub:=sub_set_self
 obtain⟨hp,g,d,tk,os⟩:=s
 dsimp only
 wp_walk
 refine wpAny_askSetting (wpAny_pure ?_)
 dsimp only
 simp only[newObj]
 refine wpAny_bind (wpAny_alloc (wpAny_pure ?_))
 exact wpAny_pure h
noncomputable abbrev newSet(w:World):Obj:={ cls:=.type "set",dict:=none,data:=.set #[] 0 (.fresh 0 0 (!w.params.followText "set-order")) }
noncomputable abbrev zj0(c:String)(l:Addr):Obj:={ cls:=.type c,data:=.fields #[.ref l,.int 0 0] }
theorem zcy{l:Addr}{c ci:String}{ol:Obj}{T:Heap→Prop}{Q:Value→Shared→Prop}(hol:s.heap.get? l=some ol)(hcl:ol.cls=.type c)
 (hsls:isSubtype (.type c) (.type "set")=pure false) (hslf:isSubtype (.type c) (.type "frozenset")=pure false) (hne:(Value.type c == Value.type "dict")=false)
 (hit:∀ {A:Around} {E:Value→Shared→Prop} {s':Shared} {Q':Value→Shared→Prop},s'.heap.get? l=some ol→Q' (.ref s'.heap.objs.size) { s' with heap:=s'.heap.push (zj0 ci l) }→wpAny (model prog w) A (pyIter (.ref l)) Q' E s')
 (fill:∀ (R:Result→Shared→Prop),(∀ h' tk,(∀ b o,s.heap.get? b=some o→h'.get? b=some o)→T h'→R (.ok (.ret .none)) { s with heap:=h',toks:=tk }) →
   codeAny (model prog w) A.in1.in1 (.builtin "set.update.loop" ⟨[.ref s.heap.objs.size,.ref (s.heap.push (newSet w)).objs.size],[]⟩) R { s with heap:=(s.heap.push (newSet w)).push (zj0 ci l) })
 (h:∀ (h':Heap) (tk:Nat),T h'→(∀ b o,s.heap.get? b=some o→h'.get? b=some o)→Q (.ref s.heap.objs.size) { s with heap:=h',toks:=tk }) :
 wpAny (model prog w) A (call (.type "set") [.ref l]) Q E s:=by
 obtain⟨c',tl,hmro⟩:=PySem.F.called_set.mro
 have hmade:=PySem.F.called_set.made
 have hsub:=PySem.F.called_set.sub
 refine wpAny_call (codeAny_of_tree ?_)
 show wpAny _ _ (callAny (.type "set") _) _ _ _
 refine wpAny_pure ⟨Code.quiet_builtin _ (by decide +kernel),codeAny_builtin PySem.F.entry_type_call ?_⟩
 rw [Around.under_plain (weight_type_call_type "set" [.ref l] []) rfl]
 have h1:=PySem.F.called_set.notType
 have h2:=PySem.F.called_set.canCreate
 have hct:=PySem.F.typeCall_set_1 (.ref l)
 repeat (any_goals (first | assumption | wp_step))
 refine codeAny_mono (code_set_new (.ref l) (E:=E) (Q₁:=fun obj s₁=>obj=.ref s.heap.objs.size∧s₁ = { s with heap:=s.heap.push (newSet w) }) ⟨rfl,rfl⟩) fun r s₁ hr=>?_
 cases r with
 | error e=>exact hr
 | ok fl=>
   cases fl with
   | ret obj=>
     obtain⟨rfl,rfl⟩:=hr
     have hS:(s.heap.push (newSet w)).get? s.heap.objs.size=some (newSet w):=Heap.get?_push_size _ rfl
     have hT:Shared.TypeIs { s with heap:=s.heap.push (newSet w) } (.ref s.heap.objs.size) "set":=⟨_,hS,rfl⟩
     have hli:=PySem.F.called_set.init.lookup
     have hbi:=PySem.F.called_set.init.bind (.ref s.heap.objs.size)
     repeat (any_goals (first | assumption | wp_step))
     refine codeAny_mono (codeAny_call_builtin (R:=wants (fun r s₂=>r=.none∧∃ h' tk,s₂ = { s with heap:=h',toks:=tk }∧T h'∧(∀ b o,s.heap.get? b=some o→h'.get? b=some o)) E) PySem.F.called_set.init.plain PySem.F.entry_set_init (check_set_init_1 hT ?_)) fun r₂ s₂ hr₂=>?_
     ·have hol':(s.heap.push (newSet w)).get? l=some ol:=Heap.get?_push_of_some _ hol
      clear hol h
      obtain⟨ocls,odict,odata,oslots⟩:=ol
      have hcl:ocls=_:=hcl
      subst hcl
      unfold Builtin.«set.__init__» noKeywords Builtin.Frozenset.updateFrom
      generalize hPI:pyIter=PI
      wp_walk
      subst hPI
      refine hit hol' (wpAny_bind (wpAny_runValue (fill _ fun h' tk hk hT=>?_)))
      show wpAny _ _ _ _ _ _
      refine wpAny_pure ?_
      show wpAny _ _ (ret Value.none) _ _ _
      exact wpAny_pure ⟨rfl,h',tk,rfl,hT,hk⟩
     ·cases r₂ with
      | error e=>exact hr₂
      | ok fl₂=>
        cases fl₂ with
        | ret r=>
          obtain ⟨rfl,h',tk,rfl,hS',hk'⟩:=hr₂
          repeat (any_goals (first | assumption | wp_step))
          exact h _ _ hS' hk'
        | _=>exact hr₂.elim
   | _=>exact hr.elim
theorem zhy{h h':Heap}{w:World}{c:String}{l:Addr}(hm:∀ b o,b∉h.objs.size::[(h.push (newSet w)).objs.size]→((h.push (newSet w)).push (zj0 c l)).get? b=some o→h'.get? b=some o):∀ b o,h.get? b=some o→h'.get? b=some o:=fun b o e=>by
 have hb:=Heap.lt_size e
 refine hm b o (fun hx=>?_) (Heap.get?_push_of_some _ (Heap.get?_push_of_some _ e))
 rw[Heap.size_push] at hx
 rcases List.mem_cons.mp hx with rfl | hx
 ·exact Nat.lt_irrefl _ hb
 ·rw[List.mem_singleton.mp hx] at hb
  exact Nat.lt_irrefl _ (Nat.lt_trans (Nat.lt_succ_self _) hb)
theorem zhz{h:Heap}{w:World}{l:Addr}(hl:l < h.objs.size):l≠(h.push (newSet w)).objs.size∧h.objs.size∉[(h.push (newSet w)).objs.size,l]:=by
 rw[Heap.size_push]
 refine⟨Nat.ne_of_lt (Nat.lt_succ_of_lt hl),fun hx=>?_⟩
 rcases List.mem_cons.mp hx with hx | hx
 ·exact absurd hx (Nat.ne_of_lt (Nat.lt_succ_self _))
 ·exact absurd (List.mem_singleton.mp hx) (Nat.ne_of_gt hl)
end
noncomputable def addK(K:List (List Int))(ks:List Int):List (List Int):=if ks∈K then K else K++[ks]
noncomputable def yr(kss:List (List Int))(i:Nat):List (List Int):=(kss.take i).foldl addK []
theorem uf{kss:List (List Int)}{i:Nat}{k:List Int}(h:kss[i]?=some k):yr kss (i+1)=addK (yr kss i) k:=by
 unfold yr
 rw[List.take_add_one,h,List.foldl_append]
 rfl
theorem w7(kss:List (List Int)):∀ i,(yr kss i).length≤i
 | 0=>by simp[yr]
 | i+1=>by
   have ih:=w7 kss i
   cases h:kss[i]? with
   | none=>
     have:yr kss (i+1)=yr kss i:=by unfold yr;rw[List.take_add_one,h];simp
     rw[this];omega
   | some k=>
     rw[uf h]
     unfold addK
     split
     ·omega
     ·rw[List.length_append,List.length_singleton];omega
section
variable{prog:Program}{w:World}{A:Around}{E:Value→Shared→Prop}{s:Shared}
variable{I:Addr}{fp wr:List Addr}{R:Result→Shared→Prop}{P:Nat→Value→Prop}{St:Nat→Heap→Prop}
theorem TK.keep{h h':Heap}{ks:List Int}{b:Addr}(hk:TK prog w h ks b)(hs:∀ b o,h.get? b=some o→h'.get? b=some o):TK prog w h' ks b:=by
 obtain⟨o,items,n,ho,r⟩:=hk
 exact⟨o,items,n,hs b o ho,r⟩
theorem TSet.keep{h h':Heap}{S:Addr}{ld:Bool}{K:List (List Int)}(hS:TSet prog w h S ld K)(z:List Addr)(hz:∀ b∈z,∀ o,h.get? b=some o→o.cls≠.type "tuple")(hSz:S∉z)(hs:∀ b o,b∉z→h.get? b=some o→h'.get? b=some o):TSet prog w h' S ld K:=by
 obtain⟨o,ep,t,m,L,ho,hex,hd,ht,hr,hre,hlen,hnd,hent,hmem,hm⟩:=hS
 have up:∀ {ks:List Int} {b:Addr},TK prog w h ks b→TK prog w h' ks b:=fun {ks b} ⟨o',items,n,ho',hc',r⟩=>⟨o',items,n,hs b o' (fun hb=>hz b hb o' ho' hc') ho',hc',r⟩
 refine⟨o,ep,t,m,L,hs S o hSz ho,hex,hd,ht,hr,hre,hlen,hnd,fun e he=>?_,fun ks=>?_,hm⟩
 ·obtain⟨a,ks,q1,q2,q3⟩:=hent e he
  exact⟨a,ks,q1,up q2,q3⟩
 ·rw[hmem]
  constructor
  ·rintro⟨e,he,b,hb,hk⟩
   exact⟨e,he,b,hb,up hk⟩
  ·rintro⟨e,he,b,hb,hk⟩
   obtain⟨a,ks',q1,q2,q3⟩:=hent e he
   rw[hb] at q1;cases q1
   have:=IsTupleKey.inj (up q2) hk
   subst this
   exact⟨e,he,b,hb,q2⟩
theorem zkz{kss:List (List Int)}{ld:Bool}(W:Walks prog w A.in1 I fp wr kss.length P St)(S:Addr)(hSf:S∉fp)(h0:Heap)(hu:A.in1.units < cLine)
 (hval:∀ (i:Nat) v,i < kss.length→P i v→∃ b ks,kss[i]?=some ks∧v=.ref b∧TK prog w h0 ks b) (hwr:∀ i h,St i h→∀ z∈wr,∀ o,h.get? z=some o→o.cls≠.type "tuple") (hS0:h0.get? S=none) (hw0:∀ z∈wr,h0.get? z=none) (h4:kss.length≤17) :
 ∀ (k i:Nat) (s:Shared),kss.length - i=k→i≤kss.length→St i s.heap→TSet prog w s.heap S ld (yr kss i)→(∀ b o,h0.get? b=some o→s.heap.get? b=some o) →
  (∀ h' tk,(∀ b o,b∉S::wr→s.heap.get? b=some o→h'.get? b=some o)→TSet prog w h' S ld (yr kss kss.length)→R (.ok (.ret .none)) { s with heap:=h',toks:=tk }) →
  codeAny (model prog w) A (.builtin "set.update.loop" ⟨[.ref S,.ref I],[]⟩) R s:=by
 have hSw:S∉wr:=fun h=>hSf (W.sub _ h)
 intro k
 induction k with
 | zero=>
   intro i s hk hi hst hS hkp hR
   have hin:i=kss.length:=by omega
   subst hin
   refine codeAny_builtin F.entry_set_update_loop ?_
   rw[Around.under_plainId F.plain_set_update_loop _]
   show wpAny _ A.in1 (pyNext (.ref I) >>= _) _ _ s
   refine wpAny_bind (W.done s _ _ hst fun h' tk hm=>?_)
   show wpAny _ A.in1 (ret Value.none) _ _ _
   refine wpAny_pure (hR h' tk (fun b o hb e=>hm b o (fun h=>hb (List.mem_cons_of_mem _ h)) e) ?_)
   exact hS.keep wr (hwr _ _ hst) hSw hm
 | succ k ih=>
   intro i s hk hi hst hS hkp hR
   have hlt:i < kss.length:=by omega
   refine codeAny_builtin F.entry_set_update_loop ?_
   rw[Around.under_plainId F.plain_set_update_loop _]
   show wpAny _ A.in1 (pyNext (.ref I) >>= _) _ _ s
   refine wpAny_bind (W.item i s _ _ hlt hst fun v h₁ tk₁ hP hst' hm=>?_)
   obtain⟨b,ks,hx,rfl,hkb⟩:=hval i v hlt hP
   have hS':TSet prog w h₁ S ld (yr kss i):=hS.keep wr (hwr _ _ hst) hSw hm
   have hkp1:∀ b o,h0.get? b=some o→h₁.get? b=some o:=fun b o e=>hm b o (fun hb=>by rw[hw0 b hb] at e;cases e) (hkp b o e)
   have hk1:TK prog w h₁ ks b:=hkb.keep hkp1
   show wpAny _ A.in1 (holding [Value.ref b] (setAdd S (.ref b)) >>= _) _ _ _
   refine wpAny_bind (wpAny_holding ?_)
   unfold setAdd
   refine wpAny_holding ?_
   refine wpAny_bind (wpAny_pyHash_tuple (s:={ s with heap:=h₁,toks:=tk₁ }) hu hk1 ?_)
   refine zn7 (s:={ s with heap:=h₁,toks:=tk₁+(ks.length+1) }) hS' hu hk1 (by have:=w7 kss i;omega) fun b' h' hsb hS2=>?_
   have hS2:TSet prog w h' S ld (yr kss (i+1)):=by rw[uf hx];exact hS2
   refine wpAny_pure ⟨plainId_quiet F.plain_set_update_loop _,ih (i+1) _ (by omega) hlt (W.frame _ _ _ hst' fun b hb o e=>?_) hS2 (fun b o e=>?_) fun h'' tk hk'' hS''=>?_⟩
   ·exact (hsb.2 b (fun h:b=S=>hSf (by rw[← h];exact hb))).trans e
   ·exact (hsb.2 b (fun h:b=S=>by rw[h,hS0] at e;cases e)).trans (hkp1 b o e)
   ·refine hR h'' tk (fun b o hb e=>hk'' b o hb ?_) hS''
    exact (hsb.2 b (fun h:b=S=>hb (by rw[h];exact List.mem_cons_self))).trans (hm b o (fun h=>hb (List.mem_cons_of_mem _ h)) e)
theorem zat{l:Addr}{items:Array Value}{kss:List (List Int)}{Q:Value→Shared→Prop}
 (hh:A.handled=none) (hu:A.units+10 < cLine) (hl:s.heap.IsList l items) (hsz:items.size=kss.length) (hi:∀ (i:Nat) v,items[i]?=some v→∃ b ks,kss[i]?=some ks∧v=.ref b∧TK prog w s.heap ks b) (h4:kss.length≤17)
 (h:∀ (h':Heap) (tk:Nat),TSet prog w h' s.heap.objs.size (!w.params.followText "set-order") (yr kss kss.length) →
   (∀ b o,s.heap.get? b=some o→h'.get? b=some o)→Q (.ref s.heap.objs.size) { s with heap:=h',toks:=tk }) :
 wpAny (model prog w) A (call (.type "set") [.ref l]) Q E s:=by
 obtain⟨ol,hol,hcl,nl,hdl⟩:=hl
 refine zcy (ci:="list_iterator") hol hcl PySem.F.sub_list_set PySem.F.sub_list_frozenset (by decide) (fun e hQ=>wpAny_pyIter_list ⟨_,e,hcl,nl,hdl⟩ hQ) (fun R hR=>?_) h
 obtain⟨hneI,hSf⟩:=zhz (w:=w) (Heap.lt_size hol)
 have W:=Walks.list (prog:=prog) (w:=w) (A:=A.in1.in1.in1) (by simp[hh]) (s.heap.push (newSet w)).objs.size l hneI items
 rw[hsz] at W
 have nn:∀ j,s.heap.objs.size≤j→s.heap.get? j=none:=fun j hj=>by
  cases e:s.heap.get? j with
  | none=>rfl
  | some o'=>exact absurd (Heap.lt_size e) (Nat.not_lt.mpr hj)
 refine zkz (kss:=kss) (ld:=!w.params.followText "set-order") W s.heap.objs.size hSf s.heap (by simp only [Around.in1_units];omega) (fun i v hi' hv=>hi i v hv) (fun i h' st z hz o' e=>?_) (nn _ (Nat.le_refl _)) (fun z hz=>nn z (by rw [List.mem_singleton.mp hz,Heap.size_push];exact Nat.le_succ _)) h4 kss.length 0 _ rfl (Nat.zero_le _)
  ⟨⟨_,Heap.get?_push_size _ rfl,rfl,rfl⟩,ol,Heap.get?_push_of_some _ (Heap.get?_push_of_some _ hol),hcl,nl,hdl⟩ ?_ (fun b o e=>Heap.get?_push_of_some _ (Heap.get?_push_of_some _ e)) fun h' tk hm hS'=>hR h' tk (zhy hm) hS'
 ·obtain⟨⟨oI,hoI,hcI,_⟩,_⟩:=st
  rw[List.mem_singleton.mp hz] at e
  rw[e] at hoI;cases hoI
  rw[hcI];decide
 ·exact⟨_,0,_,7,[],Heap.get?_push_of_some _ (Heap.get?_push_size _ rfl),⟨rfl,rfl,rfl⟩,rfl,⟨rfl,rfl,rfl,rfl,rfl⟩,.nil,fun _ h=>(nomatch h),rfl,by simp[yr],fun _ h=>(nomatch h),fun ks=>by simp[yr],.inl ⟨rfl,Nat.zero_le _⟩⟩
end
end Mine
end
section
namespace Mine
open PySem PyProof.Rows
noncomputable def CSs.stuck:CSs:=fun _ _ _=>.stuck
theorem zjh{cx:Cx}{l:List Stmt}:JSs cx l .stuck:=⟨fun _ _=>trivial⟩
section
variable{G:Gl}{F:Fm}{A:Around}{s:Shared}{β:List Addr}{ρ:Loc}{O:za}{cx:Cx}{gval:Nat→Option PyData}{gname:Nat→Option Str}
theorem zn3{α:Type}{x:Str}{fv:Value}{y:Expr}{ps q:Pos}{r:R za V}{k:V→za→R za α}{Rel:List Addr→Heap→Value→α→Prop}(g:GOk G gval gname)(sr:SR G F β ρ O s.heap)(fit:Fits F cx)(hx:cx.isGlob x=true)(hb:(x,fv)∈bis)(hfv:(∃ id,fv=.builtin id)∨∃ T,fv=.type T)
 (he:starEach [y] F.env=(false,eval y F.env)::starEach [] F.env) (h1:Does G F A s β (eval y F.env) (r.lift ρ) (VRel G F))
 (h2:∀ s' β' val v O',SR G F β' ρ O' s'.heap→VR G F.B β' s'.heap val v→Does G F A s' β' (call fv [val]) ((k v O').lift ρ) Rel) :
 Does G F A s β (eval (.Call (.Name x ps) [y] [] q) F.env) ((r.bind k).lift ρ) Rel:=by
 have e1:r.bind k=(r.bind fun v O=>(R.ok ([]:List V) O).bind fun vs O=>R.ok (v::vs) O).bind fun vs O=>(match vs with | [u]=>k u O | _=>.stuck):=by cases r <;> rfl
 rw[e1]
 refine w3 g sr fit hx hb hfv he rfl (yq he h1 fun s' β' O' sr'=>xh sr') fun s' β' vals vs O' e' st sr' rvs=>?_
 cases vs with
 | nil=>trivial
 | cons u vs=>cases vs with
   | cons _ _=>trivial
   | nil=>
     obtain⟨v,rfl,ru⟩:=rvs.one
     exact h2 s' β' v u O' sr' ru
theorem zn2{α:Type}{x:Str}{fv:Value}{y z:Expr}{ps q:Pos}{ra:R za V}{rb:za→R za V}{k:V→V→za→R za α}{Rel:List Addr→Heap→Value→α→Prop}(g:GOk G gval gname)(sr:SR G F β ρ O s.heap)(fit:Fits F cx)(hx:cx.isGlob x=true)(hb:(x,fv)∈bis)(hfv:(∃ id,fv=.builtin id)∨∃ T,fv=.type T)
 (he:starEach [y,z] F.env=(false,eval y F.env)::starEach [z] F.env) (he':starEach [z] F.env=(false,eval z F.env)::starEach [] F.env)
 (h1:Does G F A s β (eval y F.env) (ra.lift ρ) (VRel G F)) (h2:∀ s' β' O',SR G F β' ρ O' s'.heap→Does G F A s' β' (eval z F.env) ((rb O').lift ρ) (VRel G F))
 (h3:∀ s' β' val wal v w O',SR G F β' ρ O' s'.heap→VR G F.B β' s'.heap val v→VR G F.B β' s'.heap wal w→Does G F A s' β' (call fv [val,wal]) ((k v w O').lift ρ) Rel) :
 Does G F A s β (eval (.Call (.Name x ps) [y,z] [] q) F.env) ((ra.bind fun v O=>(rb O).bind fun u O=>k v u O).lift ρ) Rel:=by
 have d1:Does G F A s β (spliced (backTo q (starEach [y,z] F.env))) ((ra.bind fun v O=>((rb O).bind fun v O=>(R.ok ([]:List V) O).bind fun vs O=>.ok (v::vs) O).bind fun vs O=>.ok (v::vs) O).lift ρ) (VRsl G F):=
  yq he h1 fun s' β' O' sr'=>yq he' (h2 s' β' O' sr') fun s' β' O' sr'=>xh sr'
 have e1:(ra.bind fun v O=>(rb O).bind fun u O=>k v u O)=(ra.bind fun v O=>((rb O).bind fun v O=>(R.ok ([]:List V) O).bind fun vs O=>.ok (v::vs) O).bind fun vs O=>.ok (v::vs) O).bind fun vs O=>(match vs with | [v,u]=>k v u O | _=>.stuck):=by
  cases ra with
  | ok v O=>
    show (rb O).bind (fun u O=>k v u O)=(((rb O).bind fun v O=>(R.ok ([]:List V) O).bind fun vs O=>R.ok (v::vs) O).bind fun vs O=>R.ok (v::vs) O).bind _
    cases rb O <;> rfl
  | stuck=>rfl
 rw[e1]
 refine w3 g sr fit hx hb hfv he (by rw[he'];rfl) d1 fun s' β' vals vs O' e' st sr' rvs=>?_
 cases vs with
 | nil=>trivial
 | cons u vs=>cases vs with
   | nil=>trivial
   | cons w vs=>cases vs with
     | cons _ _=>trivial
     | nil=>
       obtain⟨v,v',rfl,rv,ru⟩:=rvs.two
       exact h3 s' β' v v' u w O' sr' rv ru
end
noncomputable def minV(v u:V)(O:za):R za V:=match intV v with
 | some i=>(match intV u with
    | some j=>.ok (.d (.int (min i j))) O
    | none=>.stuck)
 | none=>.stuck
noncomputable def CE.min2(a b:CE):CE:=fun P ρ O=>if P.hd=true then .stuck else (evE P ρ a O).bind fun v O=>(evE P ρ b O).bind fun u O=>minV v u O
section
variable{cx:Cx}{x y:Expr}{a b:CE}{p q ps pz:Pos}
theorem zq6{G:Gl}{F:Fm}{A:Around}{s:Shared}{β:List Addr}{ρ:Loc}{O:za}{v u:Value}{d e:V}(hh:A.handled=none)(sr:SR G F β ρ O s.heap)(rv:VR G F.B β s.heap v d)(ru:VR G F.B β s.heap u e) :
 Does G F A s β (call (.builtin "min") [v,u]) ((minV d e O).lift ρ) (VRel G F):=by
 unfold minV
 cases h1:intV d with
 | none=>trivial
 | some i=>
   cases h2:intV e with
   | none=>trivial
   | some j=>
     obtain⟨t,rfl⟩:=rv.intV h1
     obtain⟨t',rfl⟩:=ru.intV h2
     refine Does.leaf sr fun Q E q=>min_two_ints hh fun h' tk hk=>?_
     by_cases hij:j < i
     ·rw[if_pos hij]
      rw[show min i j=j from Int.min_eq_right (Int.le_of_lt hij)] at q
      exact q _ _ (xf hk) VR.int
     ·rw[if_neg hij]
      rw[show min i j=i from Int.min_eq_left (Int.not_lt.mp hij)] at q
      exact q _ _ (xf hk) VR.int
theorem zp9(h1:JE cx x a)(h2:JE cx y b)(hg:cx.isGlob "min" = true):JE cx (.Call (.Name "min" ps) [x,y] [] q) (.min2 a b):=
 ⟨rfl,fun {G A P F s β ρ O} hr sr=>by
   show Does G F A s β _ (R.lift ρ (if P.hd=true then .stuck else _:R za V)) _
   by_cases hd:P.hd=true
   ·rw[if_pos hd];trivial
   rw[if_neg hd]
   exact zn2 (rb:=fun O=>evE P ρ b O) (fv:=.builtin "min") hr.run.g sr hr.fit hg (by decide) (.inl ⟨_,rfl⟩) h1.px.star h2.px.star (h1.d hr sr) (fun s' β' O' sr'=>h2.d hr sr') fun s' β' v w d e O' sr' rv rw=>zq6 (hr.run.hm (Bool.eq_false_iff.mpr hd)) sr' rv rw⟩
end
section
variable{cx:Cx}{x y:Expr}{a b:CE}{p q ps pz:Pos}
end
section
variable{prog:Program}{w:World}{A:Around}{E:Value→Shared→Prop}{s:Shared}
theorem zak{l:Addr}{items:Array Value}{k:Int}{t:Tok}{v:Value}{Q:Unit→Shared→Prop}(hl:s.heap.PlainList l items)(h0:0≤k)(hfit:k < 2 ^ 63)(hn:k < items.size)
 (hQ:∀ h',h'.PlainList l (items.setIfInBounds k.toNat v)→Heap.SameBut l s.heap h'→Q () { s with heap:=h' }):wpAny (model prog w) A (setItem (.ref l) (.int k t) v) Q E s:=by
 obtain⟨n,ho⟩:=hl
 have hT:s.TypeIs (.ref l) "list":=⟨_,ho,rfl⟩
 unfold setItem
 try with_reducible refine wpAny_holding ?_
 first | refine wpAny_bind (wpAny_pure ?_) | skip
 refine wpAny_bind (wpAny_sequenceKey hT (by decide) ?_)
 refine wpAny_bind (wpAny_callSpecial?_slot (name:=Str.ofString "__setitem__") hT slot_list_setitem (wpAny_call_entry slot_list_setitem hT entry_list_setitem ?_ (args_list_setitem _ _ _)))
 show wpAny _ _ (Builtin.List.listSubscript? (.int k t) >>= _) _ _ s
 refine wpAny_bind (wpAny_listSubscript_int (fitsIndex_of h0 hfit) ?_)
 clear hfit
 obtain⟨j,rfl⟩:=Int.eq_ofNat_of_zero_le h0
 have hj:j < items.size:=by omega
 show wpAny _ _ ((seqItemAt l j >>= fun r=>pure (r.map (j,·))) >>= _) _ _ s
 refine wpAny_bind (wpAny_bind (wpAny_seqItemAt ho rfl (wpAny_pure ?_)))
 rw[Array.getElem?_eq_getElem hj]
 show wpAny _ _ (setSeqItemAt l j v >>= _) _ _ s
 have hfin:(s.heap.update l (Obj.mapSeq (·.setIfInBounds j v))).PlainList l (items.setIfInBounds j v):=⟨_,Heap.get?_update_self _ ho rfl⟩
 refine wpAny_bind (wpAny_setSeqItemAt ho rfl ?_)
 first
  | exact wpAny_bind (wpAny_pure (wpAny_pure ⟨.none,rfl,wpAny_pure (hQ _ hfin (Heap.SameBut.update ..))⟩))
  | exact wpAny_pure ⟨.none,rfl,wpAny_pure (hQ _ hfin (Heap.SameBut.update ..))⟩
end
theorem zca{h:Heap}{P:Addr→Prop}{v:Value}{y:PyData}{cs:List Addr}(rv:Reads h v y cs)(qv:∀ a∈cs,P a){vs:List Value}{xs:List PyData}{as:List Addr}(r:ReadsAll h vs xs as):(∀ a∈as,P a)→∀ (j:Nat),∃ bs,ReadsAll h (vs.set j v) (xs.set j y) bs∧∀ a∈bs,P a:=by
 refine z9 (motive:=fun vs xs as=>(∀ a∈as,P a)→∀ (j:Nat),∃ bs,ReadsAll h (vs.set j v) (xs.set j y) bs∧∀ a∈bs,P a) ?_ ?_ r
 ·intro _ j;exact⟨[],.nil,fun _ h=>nomatch h⟩
 ·intro u d as vs ds bs r rs ih q j
  cases j with
  | zero=>exact⟨cs++bs,.cons rv rs,fun a ha=>(List.mem_append.mp ha).elim (qv a) fun h=>q a (List.mem_append_right _ h)⟩
  | succ j=>
    obtain⟨b,r',q'⟩:=ih (fun a ha=>q a (List.mem_append_right _ ha)) j
    exact⟨as++b,.cons r r',fun a ha=>(List.mem_append.mp ha).elim (fun h=>q a (List.mem_append_left _ h)) (q' a)⟩
noncomputable def zoh(n:Nat)(xs:List PyData)(k x:V)(O:za):R za Unit:=match intV k with
 | some j=>(match x with
    | .d y=>if 0≤j∧j < xs.length∧xs.length≤line then .ok () (O.set n (.lst (xs.set j.toNat y))) else .stuck
    | _=>.stuck)
 | none=>.stuck
noncomputable def zg0(w k x:V)(O:za):R za Unit:=match w with
 | .box n=>(match O[n]? with
    | some (.lst xs)=>zoh n xs k x O
    | _=>.stuck)
 | _=>.stuck
noncomputable def CS.setI(o i e:CE):CS:=fun P ρ O=>(((evE P ρ e O).bind fun x O=>(evE P ρ o O).bind fun w O=>(evE P ρ i O).bind fun k O=>zg0 w k x O).lift ρ).bind fun _ S=>.ok .next S
section
variable{G:Gl}{F:Fm}{A:Around}{s:Shared}{β:List Addr}{ρ:Loc}{O:za}
set_option tactic.hygienic true in
theorem zny{v u z:Value}{w k x:V}(sr:SR G F β ρ O s.heap)(rw_:VR G F.B β s.heap v w)(rk:VR G F.B β s.heap u k)(rx:VR G F.B β s.heap z x) :
 Does G F A s β (setItem v u z) ((zg0 w k x O).lift ρ) (fun _ _ _ _=>True):=by
 cases w <;> first | trivial | skip
 rename_i n
 unfold zg0
 dsimp only
 cases hx:O[n]? with
 | none=>trivial
 | some bx=>
   cases bx with
   | dct _=>trivial
   | lst xs=>
     dsimp only
     unfold zoh
     cases hk:intV k with
     | none=>trivial
     | some j=>
       cases x <;> first | trivial | skip
       rename_i y
       dsimp only
       by_cases hj:0≤j∧j < xs.length∧xs.length≤line
       ·rw[if_pos hj]
        obtain⟨a,hn,rfl⟩:=rw_
        obtain⟨t,rfl⟩:=rk.intV hk
        obtain⟨vs,as,hpl,r1,q1⟩:=kf (sr.br.plain a (List.mem_of_getElem? hn)) (sr.br.at_ n a _ hn hx)
        have hsz:vs.size=xs.length:=by rw[← Array.length_toList,zf r1]
        intro Q E kk
        have hline:line < 2 ^ 63:=by decide
        refine zak hpl hj.1 (by omega) (by rw[hsz];exact hj.2.1) fun h' hl' hs'=>?_
        obtain⟨k',e'⟩:=hl'
        obtain⟨cs,r3,q3⟩:=rx
        have hb:Step F.W β s { s with heap:=h' } β→BoxAt h' F.B β a (.lst (xs.set j.toNat y)):=fun st₃=>by
         obtain ⟨bs,r4,q4⟩:=zca (z8 sr.br sr.fm st₃ r3 q3).1 q3 (zx sr.br sr.fm st₃ r1 q1).1 q1 j.toNat
         exact⟨_,_,k',e',rfl,rfl,bs,by rw[Array.toList_setIfInBounds];exact r4,q4⟩
        obtain⟨st₃,sr₃⟩:=SR.setBox (bx:=.lst (xs.set j.toNat y)) (s':={ s with heap:=h' }) sr hn hs' rfl rfl hb ⟨_,e',rfl,rfl⟩
        exact kk _ β () st₃ sr₃ trivial
       ·rw[if_neg hj];trivial
theorem zq5{o i value:Expr}{p spos:Pos}{re:R za V}{ro ri:za→R za V}(hs:swapsWith value (some (.Subscript o i p)) spos.line F.env=pure false)
 (h1:Does G F A s β (eval value F.env) (re.lift ρ) (VRel G F)) (h2:∀ s' β' O',SR G F β' ρ O' s'.heap→Does G F A s' β' (eval o F.env) ((ro O').lift ρ) (VRel G F)) (h3:∀ s' β' O',SR G F β' ρ O' s'.heap→Does G F A s' β' (eval i F.env) ((ri O').lift ρ) (VRel G F)) :
 Does G F A s β (exec (.Assign [.Subscript o i p] value spos) F.env) (((re.bind fun x O=>(ro O).bind fun w O=>(ri O).bind fun k O=>zg0 w k x O).lift ρ).bind fun _ S=>.ok .next S) (yw G F):=by
 refine DoesW.seq (T₁:=fun Q E s=>wpAny (model G.prog G.w) A (eval value F.env) (fun v s₁=>wpAny (model G.prog G.w) A (eval o F.env) (fun ov s₂=>wpAny (model G.prog G.w) A (eval i F.env) (fun iv s₃=>wpAny (model G.prog G.w) A (setItem ov iv v) Q E s₃) E s₂) E s₁) E s)
  (T₂:=fun _ Q E s'=>Q .next s') (Rel₁:=fun _ _ _ _=>True) (fun Q E h=>wpAny_Assign_Subscript h hs) ?_ fun s' β' v d S e st sr rv=>Does.leaf sr fun Q E q=>q .next _ (KeepsAll.refl s') rfl
 refine DoesW.seqE (T₂:=fun v Q E s₁=>wpAny (model G.prog G.w) A (eval o F.env) (fun ov s₂=>wpAny (model G.prog G.w) A (eval i F.env) (fun iv s₃=>wpAny (model G.prog G.w) A (setItem ov iv v) Q E s₃) E s₂) E s₁) (fun Q E h=>h) h1 fun s₁ β₁ v x O₁ _ st₁ sr₁ rx=>?_
 refine DoesW.seqE (T₁:=tr G A (eval o F.env)) (T₂:=fun ov Q E s₂=>wpAny (model G.prog G.w) A (eval i F.env) (fun iv s₃=>wpAny (model G.prog G.w) A (setItem ov iv v) Q E s₃) E s₂) (fun Q E h=>h) (h2 s₁ β₁ O₁ sr₁) fun s₂ β₂ ov w O₂ _ st₂ sr₂ rw_=>?_
 refine DoesW.seqE (T₁:=tr G A (eval i F.env)) (T₂:=fun iv=>tr G A (setItem ov iv v)) (fun Q E h=>h) (h3 s₂ β₂ O₂ sr₂) fun s₃ β₃ iv k O₃ _ st₃ sr₃ rk=>?_
 exact zny sr₃ (rw_.step sr₂.br sr₂.fm st₃) rk (rx.step sr₁.br sr₁.fm (st₂.trans st₃))
end
theorem zpn{cx:Cx}{x y z:Expr}{a b c:CE}{p ps:Pos}(h1:JE cx x a)(h2:JE cx y b)(h3:JE cx z c)(hx:noCompX z=true):JS cx (.Assign [.Subscript x y ps] z p) (.setI a b c):=
 ⟨fun {G A P F s β ρ O} hr sr=>zq5 (ro:=fun O=>evE P ρ a O) (ri:=fun O=>evE P ρ b O) (noCompX.swaps hx _ _ _) (h3.d hr.toHere sr) (fun s' β' O' sr'=>h1.d hr.toHere sr') fun s' β' O' sr'=>h2.d hr.toHere sr'⟩
noncomputable def CE.memo:CE:=fun _ _ O=>.ok (.box O.length) (O++[.dct []])
noncomputable def qb(w k:V)(O:za):Option (Nat×List (MKey×PyData)×MKey):=match w,k with
 | .box n,.d x=>(match O[n]? with
    | some (.dct kvs)=>(keyOf x).map fun q=>(n,kvs,q)
    | _=>none)
 | _,_=>none
inductive zrm(w k:V)(O:za)(n:Nat)(kvs:List (MKey×PyData))(q:MKey):Prop
 | mk (x:PyData) (e1:w=.box n) (e2:k=.d x) (e3:O[n]?=some (.dct kvs)) (e4:keyOf x=some q)
set_option tactic.hygienic true in
theorem v5{w k:V}{O:za}{n:Nat}{kvs:List (MKey×PyData)}{q:MKey}(h:qb w k O=some (n,kvs,q)):zrm w k O n kvs q:=by
 cases w <;> first | (cases h;done) | skip
 rename_i m
 cases k <;> first | (cases h;done) | skip
 rename_i x
 have h:(match O[m]? with
  | some (.dct kvs)=>(keyOf x).map fun q=>(m,kvs,q)
  | _=>none)=some (n,kvs,q):=h
 cases e:O[m]? with
 | none=>rw[e] at h;cases h
 | some b=>
   rw[e] at h
   cases b with
   | lst _=>cases h
   | dct kv=>
     have h:(keyOf x).map (fun q=>(m,kv,q))=some (n,kvs,q):=h
     cases e':keyOf x with
     | none=>rw[e'] at h;cases h
     | some q'=>rw[e'] at h;cases h;exact⟨x,rfl,rfl,e,e'⟩
noncomputable def notinM(k w:V)(O:za):R za V:=match qb w k O with
 | some (_,kvs,q)=>.ok (.d (.bool !(z0 kvs q).isSome)) O
 | none=>.stuck
noncomputable def getM(w k:V)(O:za):R za V:=match qb w k O with
 | some (_,kvs,q)=>opt ((z0 kvs q).map V.d) O
 | none=>.stuck
noncomputable def setM(w k x:V)(O:za):R za Unit:=match qb w k O,x with
 | some (n,kvs,q),.d y=>if z0 kvs q=none∧kvs.length≤line then .ok () (O.set n (.dct (kvs++[(q,y)]))) else .stuck
 | _,_=>.stuck
noncomputable def CE.notinM(a b:CE):CE:=fun P ρ O=>(evE P ρ a O).bind fun v O=>(evE P ρ b O).bind fun u O=>Mine.notinM v u O
noncomputable def CE.getM(a b:CE):CE:=fun P ρ O=>(evE P ρ a O).bind fun v O=>(evE P ρ b O).bind fun u O=>Mine.getM v u O
noncomputable def CS.setM(o i e:CE):CS:=fun P ρ O=>(((evE P ρ e O).bind fun x O=>(evE P ρ o O).bind fun w O=>(evE P ρ i O).bind fun k O=>Mine.setM w k x O).lift ρ).bind fun _ S=>.ok .next S
section
variable{G:Gl}{F:Fm}{A:Around}{s:Shared}{β:List Addr}{ρ:Loc}{O:za}
theorem zq7{p:Pos}(sr:SR G F β ρ O s.heap):Does G F A s β (eval (.Dict [] [] p) F.env) ((R.ok (V.box O.length) (O++[.dct []])).lift ρ) (VRel G F):=by
 intro Q E k
 have hL:s.heap.objs.size≠F.env.locals:=fun e=>by
  obtain⟨m,o,_,_,h,_⟩:=sr.fm.ns
  rw[← e,z7 s] at h;cases h
 refine wpAny_Dict_empty ?_
 have hg:(s.heap.push { cls:=.type "dict",data:=.dict #[] }).get? s.heap.objs.size=some { cls:=.type "dict",data:=.dict #[] }:=Heap.get?_push_size _ rfl
 obtain ⟨st,sr'⟩:=SR.keepNB (bx₀:=.dct []) (s':={ s with heap:=s.heap.push { cls:=.type "dict",data:=.dict #[] } }) (KeepsAll.push s _ s.toks).toL sr (z7 s) ⟨_,_,_,hg,rfl,rfl,⟨rfl,List.nodup_nil⟩,fun i e kv h1 h2=>by simp at h2⟩ ⟨_,hg,rfl,rfl⟩
 exact k _ _ _ st sr' ⟨_,by rw[← sr.br.len];simp,rfl⟩
theorem zlk{v u:Value}{x y:V}{k:Nat}(ro:Room A k)(sr:SR G F β ρ O s.heap)(rv:VR G F.B β s.heap v x)(ru:VR G F.B β s.heap u y):Does G F A s β (compareOp .NotIn v u) ((notinM x y O).lift ρ) (VRel G F):=by
 unfold notinM
 cases h:qb y x O with
 | none=>trivial
 | some p=>
   obtain⟨n,kvs,q⟩:=p
   obtain⟨d,rfl,rfl,e3,e4⟩:=v5 h
   exact zaq ro sr e3 e4 rv ru
theorem zra{value slice:Expr}{v u:Value}{x y:V}{k:Nat}(ro:Room A k)(hs:∀ l u t p,slice≠.Slice l u t p)(sr:SR G F β ρ O s.heap)(rv:VR G F.B β s.heap v x)(ru:VR G F.B β s.heap u y):Does G F A s β (subscriptTail value slice v u) ((getM x y O).lift ρ) (VRel G F):=by
 unfold getM
 cases h:qb x y O with
 | none=>trivial
 | some p=>
   obtain⟨n,kvs,q⟩:=p
   obtain⟨d,rfl,rfl,e3,e4⟩:=v5 h
   exact zel ro sr e3 e4 rv ru (xj hs _ _)
set_option tactic.hygienic true in
theorem zq4{v u z:Value}{w k x:V}{r:Nat}(ro:Room A r)(sr:SR G F β ρ O s.heap)(rw_:VR G F.B β s.heap v w)(rk:VR G F.B β s.heap u k)(rx:VR G F.B β s.heap z x):Does G F A s β (setItem v u z) ((setM w k x O).lift ρ) (fun _ _ _ _=>True):=by
 unfold setM
 cases h:qb w k O with
 | none=>trivial
 | some p=>
   obtain⟨n,kvs,q⟩:=p
   obtain⟨d,rfl,rfl,e3,e4⟩:=v5 h
   cases x <;> first | trivial | skip
   rename_i y
   dsimp only
   by_cases hj:z0 kvs q=none∧kvs.length≤line
   ·rw[if_pos hj]
    obtain⟨D,hd,rfl⟩:=rw_
    obtain⟨as,rr,_⟩:=rk
    rw[de e4] at rr
    obtain⟨a,rfl,hkey⟩:=u4 (prog:=G.prog) (w:=G.w) rr
    have hm:=List.mem_of_getElem? hd
    obtain⟨xs,hD,hv⟩:=zcu (prog:=G.prog) (w:=G.w) (sr.br.plain D hm) (sr.br.at_ n D _ hd e3)
    have hnone:atKey xs q=none:=by
     rcases qt (k:=q) hv with ⟨e1,e2⟩ | ⟨p,d',bs,e1,e2,_⟩
     ·exact e1
     ·rw[hj.1] at e2;cases e2
    intro Q E kk
    refine wpAny_setItem_heap ro.memo hkey hD (fun h' hD' hs'=>?_) (by rw[hv.1];exact Nat.le_trans hj.2 (by decide))
    rw[storedH_new hnone] at hD'
    obtain⟨cs,r3,q3⟩:=rx
    have hb:Step F.W β s { s with heap:=h',toks:=s.toks+(yn G.prog G.w).draws q } β→w4 h' F.B β (xs++[(q,a,z)]) (kvs++[(q,y)]):=fun st₃=>by
     refine⟨by simp[hv.1],fun i x kv h1 h2=>?_⟩
     rcases Nat.lt_or_ge i xs.length with hi | hi
     ·rw[List.getElem?_append_left hi] at h1
      rw[List.getElem?_append_left (by rw[← hv.1];exact hi)] at h2
      obtain⟨e,bs,r,qq⟩:=hv.2 i x kv h1 h2
      obtain⟨p1,p2⟩:=z8 sr.br sr.fm st₃ r qq
      exact⟨e,bs,p1,p2⟩
     ·rw[List.getElem?_append_right hi] at h1
      rw[List.getElem?_append_right (by rw[← hv.1];exact hi),← hv.1] at h2
      obtain⟨e1,e2⟩ : x=(q,a,z)∧kv=(q,y):=by
       cases e:i - xs.length with
       | zero=>rw[e] at h1 h2;cases h1;cases h2;exact⟨rfl,rfl⟩
       | succ j=>rw[e] at h1;simp at h1
      subst e1;subst e2
      obtain⟨p1,p2⟩:=z8 sr.br sr.fm st₃ r3 q3
      exact⟨rfl,cs,p1,p2⟩
    obtain⟨st₃,sr₃⟩:=SR.setBox (bx:=.dct (kvs++[(q,y)])) (s':={ s with heap:=h',toks:=s.toks+(yn G.prog G.w).draws q }) sr hd hs' rfl rfl (fun st₃=>(znu hD' (hb st₃)).1) (by obtain⟨o,es,n,h1,⟨_,g1,g2⟩,_⟩:=hD';exact⟨o,h1,g1,g2⟩)
    exact kk _ β () st₃ sr₃ trivial
   ·rw[if_neg hj];trivial
theorem znx{o i value:Expr}{p spos:Pos}{re:R za V}{ro ri:za→R za V}{r:Nat}(rm:Room A r)(hs:swapsWith value (some (.Subscript o i p)) spos.line F.env=pure false)
 (h1:Does G F A s β (eval value F.env) (re.lift ρ) (VRel G F)) (h2:∀ s' β' O',SR G F β' ρ O' s'.heap→Does G F A s' β' (eval o F.env) ((ro O').lift ρ) (VRel G F)) (h3:∀ s' β' O',SR G F β' ρ O' s'.heap→Does G F A s' β' (eval i F.env) ((ri O').lift ρ) (VRel G F)) :
 Does G F A s β (exec (.Assign [.Subscript o i p] value spos) F.env) (((re.bind fun x O=>(ro O).bind fun w O=>(ri O).bind fun k O=>setM w k x O).lift ρ).bind fun _ S=>.ok .next S) (yw G F):=by
 refine DoesW.seq (T₁:=fun Q E s=>wpAny (model G.prog G.w) A (eval value F.env) (fun v s₁=>wpAny (model G.prog G.w) A (eval o F.env) (fun ov s₂=>wpAny (model G.prog G.w) A (eval i F.env) (fun iv s₃=>wpAny (model G.prog G.w) A (setItem ov iv v) Q E s₃) E s₂) E s₁) E s)
  (T₂:=fun _ Q E s'=>Q .next s') (Rel₁:=fun _ _ _ _=>True) (fun Q E h=>wpAny_Assign_Subscript h hs) ?_ fun s' β' v d S e st sr rv=>Does.leaf sr fun Q E q=>q .next _ (KeepsAll.refl s') rfl
 refine DoesW.seqE (T₂:=fun v Q E s₁=>wpAny (model G.prog G.w) A (eval o F.env) (fun ov s₂=>wpAny (model G.prog G.w) A (eval i F.env) (fun iv s₃=>wpAny (model G.prog G.w) A (setItem ov iv v) Q E s₃) E s₂) E s₁) (fun Q E h=>h) h1 fun s₁ β₁ v x O₁ _ st₁ sr₁ rx=>?_
 refine DoesW.seqE (T₁:=tr G A (eval o F.env)) (T₂:=fun ov Q E s₂=>wpAny (model G.prog G.w) A (eval i F.env) (fun iv s₃=>wpAny (model G.prog G.w) A (setItem ov iv v) Q E s₃) E s₂) (fun Q E h=>h) (h2 s₁ β₁ O₁ sr₁) fun s₂ β₂ ov w O₂ _ st₂ sr₂ rw_=>?_
 refine DoesW.seqE (T₁:=tr G A (eval i F.env)) (T₂:=fun iv=>tr G A (setItem ov iv v)) (fun Q E h=>h) (h3 s₂ β₂ O₂ sr₂) fun s₃ β₃ iv k O₃ _ st₃ sr₃ rk=>?_
 exact zq4 rm sr₃ (rw_.step sr₂.br sr₂.fm st₃) rk (rx.step sr₁.br sr₁.fm (st₂.trans st₃))
end
section
variable{cx:Cx}{x y z:Expr}{a b c:CE}{p ps:Pos}
theorem zqa:JE cx (.Dict [] [] p) .memo:=⟨rfl,fun hr sr=>zq7 sr⟩
theorem zqe(h1:JE cx x a)(h2:JE cx y b):JE cx (.Subscript x y p) (.getM a b):=⟨rfl,fun {G A P F s β ρ O} hr sr=>by
 refine DoesW.seqE (T₂:=fun a Q E s₁=>wpAny (model G.prog G.w) A (eval y F.env) (fun b s₂=>wpAny (model G.prog G.w) A (subscriptTail x y a b) Q E s₂) E s₁) (fun Q E h=>Subscript_ h) (h1.d hr sr) fun s' β' v d O' e st sr rv=>?_
 refine DoesW.seqE (T₁:=tr G A (eval y F.env)) (T₂:=fun b=>tr G A (subscriptTail x y v b)) (fun Q E h=>h) (h2.d hr sr) fun s₂ β₂ u d₂ O₂ e₂ st₂ sr₂ ru=>?_
 exact zra hr.run.ro h2.px.slice sr₂ (rv.step sr.br sr.fm st₂) ru⟩
theorem zpm(h1:JE cx x a)(h2:JE cx y b)(h3:JE cx z c)(hx:noCompX z=true):JS cx (.Assign [.Subscript x y ps] z p) (.setM a b c):=
 ⟨fun {G A P F s β ρ O} hr sr=>znx (ro:=fun O=>evE P ρ a O) (ri:=fun O=>evE P ρ b O) hr.run.ro (noCompX.swaps hx _ _ _) (h3.d hr.toHere sr) (fun s' β' O' sr'=>h1.d hr.toHere sr') fun s' β' O' sr'=>h2.d hr.toHere sr'⟩
end
noncomputable def qi(xs:List PyData):List PyData:=xs.zipIdx.map fun p=>.tuple [.int p.2,p.1]
theorem zim{xs:List PyData}{i:Nat}{x:PyData}(h:(qi xs)[i]?=some x):∃ y,xs[i]?=some y∧x=.tuple [.int i,y]:=by
 unfold qi at h
 rw[List.getElem?_map,List.getElem?_zipIdx] at h
 cases e:xs[i]? with
 | none=>rw[e] at h;cases h
 | some y=>
   rw[e] at h
   simp only[Option.map_some,Option.some.injEq,Nat.zero_add] at h
   exact⟨y,rfl,h.symm⟩
theorem zcp{xs:List PyData}:(qi xs).length=xs.length:=by simp[qi]
noncomputable def zs0(v:V)(O:za):R za Src:=match v with
 | .d (.list xs)=>.ok (.plain (qi xs)) O
 | _=>.stuck
noncomputable def CI.enum(a:CE):CI:=fun P ρ O=>(evE P ρ a O).bind zs0
section
variable{G:Gl}{F:Fm}{A:Around}{es:List Expr}{kt:Nat}{pt:Pos}(hc:∀ c,∃ C,G.cls c=.ref C)
inductive EnSt(G:Gl)(I it ax:Addr)(xs:List PyData)(i:Nat)(N β:List Addr)(h:Heap):Prop
 | mk (old:Value) (e:IsEnum h I it (i:Int) old) (l:h.IsListIter it ax i) (r:VR G N β h (.ref ax) (.d (.list xs)))
theorem EnSt.itr{I it ax:Addr}{xs:List PyData}{i:Nat}{N β:List Addr}{h:Heap}(st:EnSt G I it ax xs i N β h):∀ z∈[I,it],Itr h z:=fun z hz=>by
 obtain⟨old,e,⟨o,h1,h2,h3⟩,r⟩:=st
 rcases List.mem_cons.mp hz with rfl | hz
 ·exact⟨_,_,_,e,rfl,rfl⟩
 ·rw[List.mem_singleton.mp hz];exact⟨o,_,_,h1,h2,h3⟩
include hc in
theorem Turns.enum(hh:A.handled=none)(I it ax:Addr)(hne:I≠it)(xs:List PyData):Turns G A (.Tuple es kt pt) I [I,it] (.plain (qi xs)) (EnSt G I it ax xs) where
 itr:=fun i N β h st=>st.itr
 keep:=fun i N N' β β' h h' st k1 k2 _=>by
  obtain⟨old,e,l,r⟩:=st
  exact⟨old,k1 I (by simp) _ e,l.at fun o e=>k1 it (by simp) o e,k2 _ _ r⟩
 item:=fun i N β O s x Q E hx br has st k=>by
  have hitr:=st.itr
  obtain⟨old,e,l,r⟩:=st
  obtain⟨⟨o,vs,n,h1,h2,h3,as,h4,h5⟩,_⟩:=q7 r
  obtain⟨y,hy,rfl⟩:=zim hx
  obtain⟨v,cs,e1,e2,e3⟩:=zr h4 h5 (i:=i) hy
  refine wpAny_pyNext_enum_item e l ⟨o,h1,h2,n,h3⟩ (x:=v) (by rw[← Array.getElem?_toList];exact e1) hne fun h' he' hit' ht' hz' hk'=>?_
  refine k _ _ fun Q' E' k'=>wpAny_letOwnedTupleGo_enum he' fun h₂ he₂ hs₂=>?_
  have hI:s.heap.objs.size≠I:=Nat.ne_of_gt (Heap.lt_size e)
  have kz:KeepsZ [I,it] s { s with heap:=h₂,toks:=s.toks+1 }:=⟨rfl,rfl,fun b o hb hbo=>by
   rw[List.mem_cons,List.mem_singleton,not_or] at hb
   exact (hs₂.2 b hb.1).trans (hk' b o hb.1 hb.2 hbo)⟩
  have rv:VR G N β h₂ v (.d y):=VR.keepZ (x:=.d y) hitr kz.kept hc ⟨cs,e2,e3⟩
  refine k' _ kz ?_ ⟨v,he₂,hit'.extBut hs₂.extBut hne.symm,VR.keepZ hitr kz.kept hc r⟩
  obtain⟨as',r',q'⟩:=rv
  exact⟨_,.tuple ((hs₂.2 _ hI).trans ht') rfl rfl (.cons (.int _ _) (.cons r' .nil)),by simpa using q'⟩
 done:=fun i N β O s Q E hx br has st k=>by
  obtain⟨old,e,l,r⟩:=st
  obtain⟨⟨o,vs,n,h1,h2,h3,as,h4,h5⟩,_⟩:=q7 r
  refine wpAny_pyNext_enum_end hh e l ⟨o,h1,h2,n,h3⟩ ?_ fun h' he=>k _ ⟨rfl,rfl,fun b o hb hbo=>he b o (fun h=>hb (by simp[h])) hbo⟩
  rw[Array.getElem?_eq_none]
  have hx:(qi xs).length=i:=hx
  rw[zcp] at hx
  rw[← Array.length_toList,zf h4];exact Nat.le_of_eq hx
 self:=fun i N β s Q E st q=>by
  obtain⟨old,e,_⟩:=st
  exact wpAny_pyIter_enum e q
end
set_option tactic.hygienic true in
theorem zpp{cx:Cx}{x:Expr}{a:CE}{ps q pt p:Pos}{es:List Expr}{kt:Nat}{l:List Stmt}{d:CSs}{t:CT}(h:JE cx x a)(hx:cx.isGlob "enumerate" = true)(h2:JSs cx l d)(hc:chkT cx (ownOf cx.sc) t (.Tuple es kt pt)=true) :
 JS cx (.For (.Tuple es kt pt) (.Call (.Name "enumerate" ps) [x] [] q) l [] p) (.for_ t (.enum a) d):=⟨fun {G A P F s β ρ O} hr sr=>by
 show Does G F A s β _ (if P.hd=true then .stuck else _:R (Loc×za) Fl) _
 by_cases hd:P.hd=true
 ·rw[if_pos hd];trivial
 rw[if_neg hd]
 have hh:=hr.run.hm (Bool.eq_false_iff.mpr hd)
 obtain ⟨b1,b2⟩:=hr.run.g.bi ("enumerate",.type "enumerate") (by decide)
 refine zos (r:=evI P ρ (.enum a) O) (evb:=fun ρ O=>evSs P d ρ O) hr.run.g hh hr.fit hr.own hc (fun _ _ _ h=>nomatch h) (fun s' β' ρ' O' sr'=>h2.d hr sr') sr ?_ fun src O' e=>?_
 ·refine DoesW.seqE (T₂:=fun v Q E s=>wpAny (model G.prog G.w) A (call (.type "enumerate") [v]) (fun S s₁=>wpAny (model G.prog G.w) A (pyIter S) Q E s₁) E s) (fun Q E h'=>?_) (h.d hr.toHere sr) fun s' β' v d O' e st sr' rv=>?_
  ·exact Call_Name rfl (yo hr.run.g sr hr.fit hx b1 b2 (callWith_type1 (spliced_more (wpAny_mono h' (fun v s₁ h₁=>spliced_none h₁) (fun _ _ x=>x)) h.px.star) h.px.star rfl))
  ·clear e
   cases d <;> first | trivial | skip
   rename_i z
   cases z <;> first | trivial | skip
   rename_i xs
   have rv':=rv
   obtain⟨b,rfl,⟨o,vs,n,h1,h2,h3,as,h4,h5⟩,h6⟩:=rv.list_inv
   refine DoesW.weaken (T₁:=fun Q E s=>wpAny (model G.prog G.w) A (call (.type "enumerate") [.ref b]) (fun S s₁=>wpAny (model G.prog G.w) A (pyIter S) Q E s₁) E s) (Does.leaf sr' fun Q E k=>?_) (fun Q E h=>h) fun _ _ _ _ r=>IRel.back (target:=.Tuple es kt pt) st r
   refine call_enumerate_list ⟨o,h1,h2,n,h3⟩ fun h' he hl hz hk=>wpAny_pyIter_enum he (k _ { s' with heap:=h' } ⟨rfl,rfl,hk⟩ ⟨_,_,_,rfl,Turns.enum hr.run.g.clsRef hh _ _ b (Nat.succ_ne_self _) xs,⟨_,he,hl,rv'.keepAll hk⟩,fun z hz=>?_⟩)
   refine Heap.get?_none_of_le ?_
   rcases List.mem_cons.mp hz with rfl | hz
   ·exact Nat.le_succ _
   ·rw[List.mem_singleton.mp hz];exact Nat.le_refl _
 ·obtain⟨v,O₁,e',e⟩:=qo e
  clear e'
  cases v <;> first | (cases e;done) | skip
  rename_i z
  cases z <;> first | (cases e;done) | skip
  cases e;trivial⟩
inductive SqK | lst | tup
noncomputable def SqK.cls:SqK→String
 | .lst=>"list"
 | .tup=>"tuple"
noncomputable def SqK.itc:SqK→String
 | .lst=>"list_iterator"
 | .tup=>"tuple_iterator"
noncomputable def IsSq(q:SqK)(h:Heap)(a:Addr)(xs:Array Value):Prop:=∃ o,h.get? a=some o∧o.cls=.type q.cls∧∃ n,o.data=.seq xs n
noncomputable def IsIt(q:SqK)(h:Heap)(i a:Addr)(j:Nat):Prop:=∃ o,h.get? i=some o∧o.cls=.type q.itc∧o.data=.fields #[.ref a,.int j 0]
theorem IsSq.ext{q:SqK}{h h':Heap}{a c:Addr}{xs:Array Value}(x:IsSq q h a xs)(hs:Heap.ExtBut c h h')(hne:a≠c):IsSq q h' a xs:=x.elim fun o r=>⟨o,hs _ _ hne r.1,r.2⟩
theorem IsIt.ext{q:SqK}{h h':Heap}{i a c:Addr}{j:Nat}(x:IsIt q h i a j)(hs:Heap.ExtBut c h h')(hne:i≠c):IsIt q h' i a j:=x.elim fun o r=>⟨o,hs _ _ hne r.1,r.2⟩
structure ZAt(q1 q2:SqK)(h:Heap)(z TI TO i1 i2 t l:Addr)(k:Nat)(f:Value):Prop where
 zip:IsZip h z TI TO f
 ti:IsPair h TI (.ref i1) (.ref i2)
 it1:IsIt q1 h i1 t k
 it2:IsIt q2 h i2 l k
section
variable{prog:Program}{w:World}{A:Around}{E:Value→Shared→Prop}{s:Shared}
theorem zfx{it t:Addr}{i:Nat}{items:Array Value}{x:Value}{Q:Value→Shared→Prop}(hit:IsTupIter s.heap it t i)(ht:IsTup s.heap t items)(hx:items[i]?=some x)
 (hQ:∀ h',IsTupIter h' it t (i+1)→Heap.SameBut it s.heap h'→Q x { s with heap:=h' }):wpAny (model prog w) A (Builtin.SmallTypes.nextOf (.ref it)) Q E s:=by
 obtain⟨o,ho,hc,hd⟩:=id hit
 obtain⟨ol,hol,_,nl,hdl⟩:=ht
 unfold Builtin.SmallTypes.nextOf
 refine wpAny_bind (wpAny_callSpecial?_slot (name:=Str.ofString "__next__") hit.typeIs slot_tupleiter_next (wpAny_call_entry slot_tupleiter_next hit.typeIs entry_tupleiter_next ?_ (args_tupleiter_next _)))
 show wpAny _ _ (field (.ref it) 0 >>= _) _ _ s
 refine wpAny_bind (wpAny_field ho hd (x:=.ref t) rfl ?_)
 show wpAny _ _ (if (Value.ref t == Value.none)=true then _ else _) _ _ s
 rw[if_neg (show ¬ ((Value.ref t == Value.none)=true) from Bool.false_ne_true)]
 refine wpAny_bind (wpAny_field ho hd (x:=.int i 0) rfl (wpAny_bind (wpAny_seqItems hol hdl ?_)))
 simp only[Int.toNat_natCast,hx]
 refine wpAny_bind (wpAny_setField ho hd (by simp) (wpAny_pure ⟨x,rfl,wpAny_pure (hQ _ ?_ (Heap.SameBut.update ..))⟩))
 exact⟨_,Heap.get?_update_self _ ho (Obj.isFreed_of_fields (Obj.data_mapFields hd _)),(Obj.cls_mapFields ..).trans hc,by
  rw[Obj.data_mapFields hd];simp[rawInt]⟩
theorem zbb{q:SqK}{it t:Addr}{i:Nat}{items:Array Value}{x:Value}{Q:Value→Shared→Prop}(hit:IsIt q s.heap it t i)(ht:IsSq q s.heap t items)(hx:items[i]?=some x)
 (hQ:∀ h',IsIt q h' it t (i+1)→Heap.SameBut it s.heap h'→Q x { s with heap:=h' }):wpAny (model prog w) A (Builtin.SmallTypes.nextOf (.ref it)) Q E s:=by
 cases q with
 | tup=>exact zfx hit ht hx hQ
 | lst=>exact wpAny_nextOf_list_item hit ht hx hQ
variable{q1 q2:SqK}{z TI TO i1 i2 t l:Addr}{k:Nat}{xs ys:Array Value}{x y a b:Value}
theorem zi6{Q:Option Value→Shared→Prop}(D:ZipApart z TI TO i1 i2 t l)(Z:ZAt q1 q2 s.heap z TI TO i1 i2 t l k .none)(hTO:IsPair s.heap TO a b)(hl1:IsSq q1 s.heap t xs)(hl2:IsSq q2 s.heap l ys)(hx:xs[k]?=some x)(hy:ys[k]?=some y)
 (hQ:∀ h',ZAt q1 q2 h' z TI TO i1 i2 t l (k+1) (rawInt s.heap.objs.size)→IsPair h' TO x y→IsPair h' s.heap.objs.size x y →
   (∀ c o,c≠z→c≠TO→c≠i1→c≠i2→s.heap.get? c=some o→h'.get? c=some o)→Q (some (.ref s.heap.objs.size)) { s with heap:=h' }) :
 wpAny (model prog w) A (pyNext (.ref z)) Q E s:=by
 obtain⟨hz,hTI,h1,h2⟩:=Z
 have hT:s.TypeIs (.ref z) "zip":=⟨_,hz,rfl⟩
 unfold pyNext
 refine wpAny_bind (wpAny_attempt (wpAny_callSpecial?_slot (name:=Str.ofString "__next__") hT F.slot_zip_next (wpAny_call_entry F.slot_zip_next hT F.entry_zip_next ?_ (F.args_zip_next_1 _))))
 show wpAny _ _ (field (.ref z) 2 >>= _) _ _ _
 refine wpAny_bind (wpAny_field hz rfl (x:=.bool false) rfl ?_)
 show wpAny _ _ (field (.ref z) 3 >>= _) _ _ _
 refine wpAny_bind (wpAny_field hz rfl (x:=.ref TI) rfl (wpAny_bind (wpAny_seqItems hTI rfl ?_)))
 show wpAny _ _ (Builtin.SmallTypes.ownedTupleIsFree (.ref z) >>= _) _ _ _
 refine wpAny_bind ?_
 unfold Builtin.SmallTypes.ownedTupleIsFree
 refine wpAny_bind (wpAny_field hz rfl (x:=.none) rfl (wpAny_pure ?_))
 simp only[if_true]
 refine wpAny_bind (wpAny_rule (wpAny_bind (wpAny_field hz rfl (x:=.ref TO) rfl (wpAny_bind (wpAny_setField_rec hz (by simp) fun h₁ hz₁ hs₁=>?_)))))
 replace hz₁:IsZip h₁ z TI TO .ellipsis:=hz₁
 refine wpAny_bind ?_
 simp only[List.zipIdx_cons,List.zipIdx_nil,List.forIn_cons,List.forIn_nil]
 refine wpAny_bind (wpAny_bind (wpAny_onRaise ?_))
 show wpAny _ _ (Builtin.SmallTypes.nextOf (.ref i1) >>= _) _ _ _
 refine wpAny_bind (zbb (h1.ext hs₁.extBut D.i1z) (hl1.ext hs₁.extBut D.l1z) hx fun h₂ h1₂ hs₂=>wpAny_pure ?_)
 have hTO₂:IsPair h₂ TO a b:=hs₂.extBut _ _ D.TOi1 (hs₁.extBut _ _ D.TOz hTO)
 refine wpAny_bind (wpAny_seqItems hTO₂ rfl (wpAny_bind (wpAny_updateSeq_pair hTO₂ fun h₃ hTO₃ hs₃=>?_)))
 replace hTO₃:IsPair h₃ TO x b:=hTO₃
 refine wpAny_bind (wpAny_letGo (wpAny_pure ?_))
 refine wpAny_bind (wpAny_bind (wpAny_onRaise ?_))
 show wpAny _ _ (Builtin.SmallTypes.nextOf (.ref i2) >>= _) _ _ _
 refine wpAny_bind (zbb (((h2.ext hs₁.extBut D.i2z).ext hs₂.extBut D.i12.symm).ext hs₃.extBut D.TOi2.symm)
  (((hl2.ext hs₁.extBut D.l2z).ext hs₂.extBut D.l2i1).ext hs₃.extBut D.l2TO) hy fun h₄ h2₄ hs₄=>wpAny_pure ?_)
 have hTO₄:IsPair h₄ TO x b:=hs₄.extBut _ _ D.TOi2 hTO₃
 refine wpAny_bind (wpAny_seqItems hTO₄ rfl (wpAny_bind (wpAny_updateSeq_pair hTO₄ fun h₅ hTO₅ hs₅=>?_)))
 replace hTO₅:IsPair h₅ TO x y:=hTO₅
 refine wpAny_bind (wpAny_letGo (wpAny_pure (wpAny_pure ?_)))
 refine wpAny_bind (wpAny_seqItems hTO₅ rfl (wpAny_bind (wpAny_newTuple ?_)))
 have hsz:h₅.objs.size=s.heap.objs.size:=by rw[hs₅.1,hs₄.1,hs₃.1,hs₂.1,hs₁.1]
 have hk₅:∀ c o,c≠z→c≠TO→c≠i1→c≠i2→s.heap.get? c=some o→h₅.get? c=some o:=fun c o c1 c2 c3 c4 e=>
  hs₅.extBut _ _ c2 (hs₄.extBut _ _ c4 (hs₃.extBut _ _ c2 (hs₂.extBut _ _ c3 (hs₁.extBut _ _ c1 e))))
 have hz₅:IsZip h₅ z TI TO .ellipsis:=hs₅.extBut _ _ D.TOz.symm (hs₄.extBut _ _ D.i2z.symm (hs₃.extBut _ _ D.TOz.symm (hs₂.extBut _ _ D.i1z.symm hz₁)))
 have h1₅:IsIt q1 h₅ i1 t (k+1):=((h1₂.ext hs₃.extBut D.TOi1.symm).ext hs₄.extBut D.i12).ext hs₅.extBut D.TOi1.symm
 have h2₅:IsIt q2 h₅ i2 l (k+1):=h2₄.ext hs₅.extBut D.TOi2.symm
 have hTI₅:IsPair h₅ TI (.ref i1) (.ref i2):=hk₅ _ _ D.TIz D.TITO D.TIi1 D.TIi2 hTI
 have hzlt:z < h₅.objs.size:=Heap.lt_size hz₅
 show wpAny _ _ (Builtin.SmallTypes.ownedTupleHandOut (.ref z) (.ref h₅.objs.size) >>= _) _ _ _
 refine wpAny_bind ?_
 unfold Builtin.SmallTypes.ownedTupleHandOut
 have hz₆:IsZip (h₅.push { cls:=.type "tuple",data:=.seq #[x,y] }) z TI TO .ellipsis:=Heap.get?_push_of_some _ hz₅
 refine wpAny_bind (wpAny_setField_rec hz₆ (by simp) fun h₇ hz₇ hs₇=>?_)
 replace hz₇:IsZip h₇ z TI TO (rawInt h₅.objs.size):=hz₇
 refine wpAny_setField_rec hz₇ (by simp) fun h₈ hz₈ hs₈=>?_
 replace hz₈:IsZip h₈ z TI TO (rawInt h₅.objs.size):=hz₈
 have up:∀ c o,c≠z→h₅.get? c=some o→h₈.get? c=some o:=fun c o c1 e=>hs₈.extBut _ _ c1 (hs₇.extBut _ _ c1 (Heap.get?_push_of_some _ e))
 have hT₈:IsPair h₈ h₅.objs.size x y:=hs₈.extBut _ _ (Nat.ne_of_gt hzlt) (hs₇.extBut _ _ (Nat.ne_of_gt hzlt) (Heap.get?_push_size _ rfl))
 rw[hsz] at hz₈ hT₈
 refine wpAny_pure ⟨_,rfl,?_⟩
 rw[hsz]
 exact wpAny_pure (hQ h₈ ⟨hz₈,up _ _ D.TIz hTI₅,h1₅.elim fun o r=>⟨o,up _ _ D.i1z r.1,r.2⟩,h2₅.elim fun o r=>⟨o,up _ _ D.i2z r.1,r.2⟩⟩ (up _ _ D.TOz hTO₅) hT₈ fun c o c1 c2 c3 c4 e=>up c o c1 (hk₅ c o c1 c2 c3 c4 e))
theorem gy{it t:Addr}{i:Nat}{items:Array Value}{Q:Value→Shared→Prop}(hh:A.handled=none)(hit:IsTupIter s.heap it t i)(ht:IsTup s.heap t items)(hx:items[i]?=none)
 (hE:∀ h' e,Heap.ExtBut it s.heap h'→(∃ o,h'.get? e=some o∧o.cls=.type "StopIteration")→E (.ref e) { s with heap:=h' }):wpAny (model prog w) A (Builtin.SmallTypes.nextOf (.ref it)) Q E s:=by
 obtain⟨o,ho,hc,hd⟩:=id hit
 obtain⟨ol,hol,_,nl,hdl⟩:=ht
 unfold Builtin.SmallTypes.nextOf
 refine wpAny_bind (wpAny_callSpecial?_slot (name:=Str.ofString "__next__") hit.typeIs slot_tupleiter_next (wpAny_call_entry slot_tupleiter_next hit.typeIs entry_tupleiter_next ?_ (args_tupleiter_next _)))
 show wpAny _ _ (field (.ref it) 0 >>= _) _ _ s
 refine wpAny_bind (wpAny_field ho hd (x:=.ref t) rfl ?_)
 show wpAny _ _ (if (Value.ref t == Value.none)=true then _ else _) _ _ s
 rw[if_neg (show ¬ ((Value.ref t == Value.none)=true) from Bool.false_ne_true)]
 refine wpAny_bind (wpAny_field ho hd (x:=.int i 0) rfl (wpAny_bind (wpAny_seqItems hol hdl ?_)))
 simp only[Int.toNat_natCast,hx]
 refine wpAny_bind (wpAny_rule (wpAny_bind (wpAny_setField ho hd (by simp) ?_)))
 show wpAny _ _ (newExc (.type "StopIteration") [] >>= _) _ _ _
 refine wpAny_bind ?_
 simp only[newExc,newTuple]
 refine wpAny_bind (wpAny_newObj_type ?_ (by size_fits))
 refine wpAny_bind (m:=firstArgMember _ _) (wpAny_of_eq (a:=Value.none) (by first | rfl | (simp only[firstArgMember];rfl)) ?_)
 refine wpAny_newObj_type ?_ (by size_fits)
 simp only[raiseNew]
 refine wpAny_bind (wpAny_handled ?_)
 first | rw[show A.in1.handled=none from hh] | rw[hh]
 refine wpAny_bind (wpAny_pure (wpAny_throw ?_))
 exact hE _ _ (((Heap.SameBut.update ..).extBut.push _).push _) ⟨_,Heap.get?_push_size _ rfl,rfl⟩
theorem zfy{q:SqK}{it t:Addr}{i:Nat}{items:Array Value}{Q:Value→Shared→Prop}(hh:A.handled=none)(hit:IsIt q s.heap it t i)(ht:IsSq q s.heap t items)(hx:items[i]?=none)
 (hE:∀ h' e,Heap.ExtBut it s.heap h'→(∃ o,h'.get? e=some o∧o.cls=.type "StopIteration")→E (.ref e) { s with heap:=h' }):wpAny (model prog w) A (Builtin.SmallTypes.nextOf (.ref it)) Q E s:=by
 cases q with
 | tup=>exact gy hh hit ht hx hE
 | lst=>exact wpAny_nextOf_list_end hh hit ht hx hE
theorem zl7{Q:Option Value→Shared→Prop}(hh:A.handled=none)(D:ZipApart z TI TO i1 i2 t l)(Z:ZAt q1 q2 s.heap z TI TO i1 i2 t l k .none)(hl1:IsSq q1 s.heap t xs)(hx:xs[k]?=none)
 (hQ:∀ h',(∀ c o,c≠z→c≠i1→s.heap.get? c=some o→h'.get? c=some o)→Q none { s with heap:=h' }) :
 wpAny (model prog w) A (pyNext (.ref z)) Q E s:=by
 obtain⟨hz,hTI,h1,h2⟩:=Z
 have hT:s.TypeIs (.ref z) "zip":=⟨_,hz,rfl⟩
 unfold pyNext
 refine wpAny_bind (wpAny_attempt (wpAny_callSpecial?_slot (name:=Str.ofString "__next__") hT F.slot_zip_next (wpAny_call_entry F.slot_zip_next hT F.entry_zip_next ?_ (F.args_zip_next_1 _))))
 show wpAny _ _ (field (.ref z) 2 >>= _) _ _ _
 refine wpAny_bind (wpAny_field hz rfl (x:=.bool false) rfl ?_)
 show wpAny _ _ (field (.ref z) 3 >>= _) _ _ _
 refine wpAny_bind (wpAny_field hz rfl (x:=.ref TI) rfl (wpAny_bind (wpAny_seqItems hTI rfl ?_)))
 show wpAny _ _ (Builtin.SmallTypes.ownedTupleIsFree (.ref z) >>= _) _ _ _
 refine wpAny_bind ?_
 unfold Builtin.SmallTypes.ownedTupleIsFree
 refine wpAny_bind (wpAny_field hz rfl (x:=.none) rfl (wpAny_pure ?_))
 simp only[if_true]
 refine wpAny_bind (wpAny_rule (wpAny_bind (wpAny_field hz rfl (x:=.ref TO) rfl (wpAny_bind (wpAny_setField_rec hz (by simp) fun h₁ hz₁ hs₁=>?_)))))
 replace hz₁:IsZip h₁ z TI TO .ellipsis:=hz₁
 refine wpAny_bind ?_
 simp only[List.zipIdx_cons,List.zipIdx_nil,List.forIn_cons,List.forIn_nil]
 refine wpAny_bind (wpAny_bind (wpAny_onRaise ?_))
 show wpAny _ _ (Builtin.SmallTypes.nextOf (.ref i1) >>= _) _ _ _
 refine wpAny_bind (zfy hh (h1.ext hs₁.extBut D.i1z) (hl1.ext hs₁.extBut D.l1z) hx fun h₂ e hs₂ he=>?_)
 obtain⟨oe,hoe,hce⟩:=he
 have hz₂:IsZip h₂ z TI TO .ellipsis:=hs₂ _ _ D.i1z.symm hz₁
 have hez:e≠z:=fun x=>by subst x;rw[hz₂] at hoe;cases hoe;simp at hce
 refine wpAny_setField_rec hz₂ (by simp) fun h₃ _ hs₃=>?_
 refine wpAny_bind (wpAny_isInstance (T:="StopIteration") (b:=true) ⟨oe,hs₃.extBut _ _ hez hoe,hce⟩ isSubtype_stop ?_)
 exact wpAny_pure (hQ h₃ fun c o c1 c3 x=>hs₃.extBut _ _ c1 (hs₂ _ _ c3 (hs₁.extBut _ _ c1 x)))
theorem zg9{q:SqK}{l:Addr}{xs:Array Value}{Q:Value→Shared→Prop}(hl:IsSq q s.heap l xs)(hQ:Q (.ref s.heap.objs.size) { s with heap:=s.heap.push { cls:=.type q.itc,data:=.fields #[.ref l,.int 0 0] } }):wpAny (model prog w) A (pyIter (.ref l)) Q E s:=by
 cases q with
 | tup=>exact iter_tuple hl hQ
 | lst=>exact wpAny_pyIter_list hl hQ
noncomputable abbrev zH1(q1:SqK)(h:Heap)(l:Addr):Heap:=h.push { cls:=.type q1.itc,data:=.fields #[.ref l,.int 0 0] }
noncomputable abbrev zH2(q1 q2:SqK)(h:Heap)(l t:Addr):Heap:=(zH1 q1 h l).push { cls:=.type q2.itc,data:=.fields #[.ref t,.int 0 0] }
noncomputable abbrev zH3(q1 q2:SqK)(h:Heap)(l t:Addr):Heap:=(zH2 q1 q2 h l t).push { cls:=.type "tuple",data:=.seq #[.ref h.objs.size,.ref (zH1 q1 h l).objs.size] }
noncomputable abbrev zH4(q1 q2:SqK)(h:Heap)(l t:Addr):Heap:=(zH3 q1 q2 h l t).push { cls:=.type "tuple",data:=.seq #[.none,.none] }
noncomputable abbrev zH5(q1 q2:SqK)(h:Heap)(l t:Addr):Heap:=(zH4 q1 q2 h l t).push { cls:=.type "zip",data:=.fields #[.none,.bool false,.bool false,.ref (zH2 q1 q2 h l t).objs.size,.ref (zH3 q1 q2 h l t).objs.size] }
theorem zh8(q1 q2:SqK)(l t:Addr)(xs ys:Array Value) :
 Meets (Builtin.«zip.__new__» ⟨[.type "zip",.ref l,.ref t],[]⟩) (fun _ R s=>IsSq q1 s.heap l xs∧IsSq q2 s.heap t ys ∧
  R (.ok (.ret (.ref (zH4 q1 q2 s.heap l t).objs.size))) { s with heap:=zH5 q1 q2 s.heap l t }):=
 .of_wp fun prog w A R s h=>by
  obtain⟨hp,g,d,tk,os⟩:=s;obtain⟨hl1,hl2,h⟩:=h
  have hsub:=sub_zip
  have hL1:IsSq q1 (Shared.heap ⟨hp,g,d,tk,os⟩) l xs:=hl1
  have hL2:IsSq q2 (Shared.heap ⟨hp.push { cls:=.type q1.itc,data:=.fields #[.ref l,.int 0 0] },g,d,tk,os⟩) t ys:=let ⟨o,e,r⟩:=hl2;⟨o,Heap.get?_push_of_some _ e,r⟩
  wp_walk using zg9 hL1,zg9 hL2
  exact⟨_,rfl,h⟩
theorem zlq{l t:Addr}{Q:Value→Shared→Prop}(hl1:IsSq q1 s.heap l xs)(hl2:IsSq q2 s.heap t ys)
 (h:∀ h' z TI TO i1 i2,ZAt q1 q2 h' z TI TO i1 i2 l t 0 .none→IsPair h' TO .none .none→ZipApart z TI TO i1 i2 l t→(∀ c∈[z,TI,TO,i1,i2],s.heap.get? c=none)→(∀ c o,s.heap.get? c=some o→h'.get? c=some o)→Q (.ref z) { s with heap:=h' }) :
 wpAny (model prog w) A (call (.type "zip") [.ref l,.ref t]) Q E s:=by
 refine callType_new F.called_zip (by decide) (F.typeCall_zip_2 _ _) (F.newCall_zip_2 _ _) (fun obj=>F.args_object_init_3 obj _ _) F.entry_zip_new (zh8 q1 q2 l t xs ys) ⟨hl1,hl2,?_⟩
 have hl:l < s.heap.objs.size:=by obtain⟨_,e,_⟩:=hl1;exact Heap.lt_size e
 have ht:t < s.heap.objs.size:=by obtain⟨_,e,_⟩:=hl2;exact Heap.lt_size e
 have z1:(zH1 q1 s.heap l).objs.size=s.heap.objs.size+1:=Heap.size_push ..
 have z2:(zH2 q1 q2 s.heap l t).objs.size=s.heap.objs.size+2:=by rw[Heap.size_push,z1]
 have z3:(zH3 q1 q2 s.heap l t).objs.size=s.heap.objs.size+3:=by rw[Heap.size_push,z2]
 have z4:(zH4 q1 q2 s.heap l t).objs.size=s.heap.objs.size+4:=by rw[Heap.size_push,z3]
 have g5:(zH5 q1 q2 s.heap l t).get? (zH4 q1 q2 s.heap l t).objs.size=some _:=Heap.get?_push_size _ rfl
 have g4:(zH5 q1 q2 s.heap l t).get? (zH3 q1 q2 s.heap l t).objs.size=some _:=Heap.get?_push_of_some _ (Heap.get?_push_size _ rfl)
 have g3:(zH5 q1 q2 s.heap l t).get? (zH2 q1 q2 s.heap l t).objs.size=some _:=Heap.get?_push_of_some _ (Heap.get?_push_of_some _ (Heap.get?_push_size _ rfl))
 have g2:(zH5 q1 q2 s.heap l t).get? (zH1 q1 s.heap l).objs.size=some _:=Heap.get?_push_of_some _ (Heap.get?_push_of_some _ (Heap.get?_push_of_some _ (Heap.get?_push_size _ rfl)))
 have g1:(zH5 q1 q2 s.heap l t).get? s.heap.objs.size=some _:=Heap.get?_push_of_some _ (Heap.get?_push_of_some _ (Heap.get?_push_of_some _ (Heap.get?_push_of_some _ (Heap.get?_push_size _ rfl))))
 refine⟨⟨_,g5,rfl⟩,h _ _ _ _ _ _ ⟨g5,g3,⟨_,g1,rfl,rfl⟩,⟨_,g2,rfl,rfl⟩⟩ g4 ?_ (fun c hc=>Heap.get?_none_of_le ?_) fun c o x=>
  Heap.get?_push_of_some _ (Heap.get?_push_of_some _ (Heap.get?_push_of_some _ (Heap.get?_push_of_some _ (Heap.get?_push_of_some _ x))))⟩
 ·rw[z4,z3,z2,z1];exact zipApart_new hl ht
 ·simp only[List.mem_cons,List.not_mem_nil,or_false] at hc
  rcases hc with rfl | rfl | rfl | rfl | rfl
  ·rw[z4];exact Nat.le_add_right _ _
  ·rw[z2];exact Nat.le_add_right _ _
  ·rw[z3];exact Nat.le_add_right _ _
  ·exact Nat.le_refl _
  ·rw[z1];exact Nat.le_add_right _ _
end
inductive Shy(Bd:List PyData→Prop):PyData→Prop
 | none:Shy Bd .none
 | bool (b:Bool):Shy Bd (.bool b)
 | int (i:Int):Shy Bd (.int i)
 | str (x:Str):Shy Bd (.str x)
 | list {xs:List PyData} (h:∀ x∈xs,Shy Bd x):Shy Bd (.list xs)
 | tuple {xs:List PyData} (h:∀ x∈xs,Shy Bd x) (hb:¬ Bd xs):Shy Bd (.tuple xs)
variable{Bd:List PyData→Prop}
theorem Shy.of_list{xs:List PyData}(h:Shy Bd (.list xs)):∀ x∈xs,Shy Bd x:=by cases h;assumption
theorem Shy.of_tuple{xs:List PyData}(h:Shy Bd (.tuple xs)):(∀ x∈xs,Shy Bd x)∧¬ Bd xs:=by cases h;exact⟨by assumption,by assumption⟩
noncomputable def ShyV(Bd:List PyData→Prop):V→Prop
 | .d x=>Shy Bd x
 | .box _=>True
 | .tm _=>False
noncomputable def ShyB(Bd:List PyData→Prop):Box→Prop
 | .lst xs=>∀ x∈xs,Shy Bd x
 | .dct kvs=>∀ kv∈kvs,Shy Bd (p9 kv.1)∧Shy Bd kv.2
structure ShyS(Bd:List PyData→Prop)(ρ:Loc)(O:za):Prop where
 loc:∀ v,some v∈ρ→ShyV Bd v
 box:∀ b∈O,ShyB Bd b
theorem Reads.same{h:Heap}{v:Value}{x:PyData}{as:List Addr}(r:Reads h v x as):Shy Bd x→∀ (x':PyData) (as':List Addr),Reads h v x' as'→x'=x:=
 Reads.rec (motive_1:=fun v x as _=>Shy Bd x→∀ (x':PyData) (as':List Addr),Reads h v x' as'→x'=x) (motive_2:=fun vs xs as _=>(∀ x∈xs,Shy Bd x)→∀ (xs':List PyData) (as':List Addr),ReadsAll h vs xs' as'→xs'=xs)
  (fun _ x' as' r=>by cases r;rfl) (fun b _ x' as' r=>by cases r;rfl) (fun i t _ x' as' r=>by cases r;rfl) (fun x t _ x' as' r=>by cases r;rfl)
  (fun h1 h2 h3 _ ih s x' as' r=>by
    cases r with
    | list q1 q2 q3 q4=>rw[h1] at q1;cases q1;rw[h3] at q3;cases q3;rw[ih s.of_list _ _ q4]
    | tuple q1 q2 q3 q4=>rw[h1] at q1;cases q1;rw[h2] at q2;exact absurd q2 (by simp)
    | dict q1 q2 q3 q4=>rw[h1] at q1;cases q1;rw[h2] at q2;exact absurd q2 (by simp))
  (fun h1 h2 h3 _ ih s x' as' r=>by
    cases r with
    | list q1 q2 q3 q4=>rw[h1] at q1;cases q1;rw[h2] at q2;exact absurd q2 (by simp)
    | tuple q1 q2 q3 q4=>rw[h1] at q1;cases q1;rw[h3] at q3;cases q3;rw[ih s.of_tuple.1 _ _ q4]
    | dict q1 q2 q3 q4=>rw[h1] at q1;cases q1;rw[h2] at q2;exact absurd q2 (by simp))
  (fun _ _ _ _ _ _ _ s=>nomatch s)
  (fun _ xs' as' r=>by cases r;rfl)
  (fun _ _ i1 i2 s xs' as' r=>by
    cases r with
    | cons r1 r2=>rw[i1 (s _ List.mem_cons_self) _ _ r1,i2 (fun x hx=>s x (List.mem_cons_of_mem _ hx)) _ _ r2]) r
inductive ZOwn(Bd:List PyData→Prop)(h:Heap)(T:Addr):Prop
 | none (e:IsPair h T .none .none):ZOwn Bd h T
 | data (a b:Value) (e:IsPair h T a b) (x y:PyData) (as cs:List Addr) (r1:Reads h a x as) (r2:Reads h b y cs) (s1:Shy Bd x) (s2:Shy Bd y) (hb:Bd [x,y]):ZOwn Bd h T
theorem ZOwn.pair{h:Heap}{T:Addr}(o:ZOwn Bd h T):∃ a b,IsPair h T a b:=by
 cases o with
 | none e=>exact⟨_,_,e⟩
 | data a b e=>exact⟨a,b,e⟩
theorem ZOwn.bad{h:Heap}{T:Addr}(hN:Bd [.none,.none])(o:ZOwn Bd h T){ob:Obj}{vs:Array Value}{n:Nat}(e:h.get? T=some ob)(hd:ob.data=.seq vs n){xs:List PyData}{as:List Addr}(r:ReadsAll h vs.toList xs as):Bd xs:=by
 cases o with
 | none e'=>
   have e':h.get? T=_:=e'
   rw[e] at e';cases e';cases hd
   cases r with
   | cons r1 r=>
     cases r with
     | cons r2 r=>cases r;cases r1;cases r2;exact hN
 | data a b e' x y as cs g1 g2 s1 s2 hb=>
   have e':h.get? T=_:=e'
   rw[e] at e';cases e';cases hd
   cases r with
   | cons r1 r=>
     cases r with
     | cons r2 r=>
       cases r
       rw[Reads.same g1 s1 _ _ r1,Reads.same g2 s2 _ _ r2];exact hb
section
variable{G:Gl}{F:Fm}{N β Z:List Addr}{T:Addr}{ρ:Loc}{O:za}{h h':Heap}(hz:∀ z∈Z,Itr h z)(hN:Bd [.none,.none])(ho:ZOwn Bd h T)(hk:∀ b o,b∉Z→b≠T→h.get? b=some o→h'.get? b=some o)
include hz hN ho hk
theorem getS{b:Addr}{o:Obj}(e:h.get? b=some o)(hd:∀ fs,o.data≠.fields fs)(hc:∀ vs n,o.data=.seq vs n→o.cls≠.type "tuple"):h'.get? b=some o:=by
 refine hk b o (notZ hz e hd) (fun hb=>?_) e
 obtain⟨x,y,ep⟩:=ho.pair
 have ep:h.get? T=_:=ep
 rw[← hb,e] at ep;cases ep
 exact hc _ _ rfl rfl
theorem jp{v:Value}{x:PyData}{as:List Addr}(r:Reads h v x as):Shy Bd x→Reads h' v x as:=
 Reads.rec (motive_1:=fun v x as _=>Shy Bd x→Reads h' v x as) (motive_2:=fun vs xs as _=>(∀ x∈xs,Shy Bd x)→ReadsAll h' vs xs as)
  (fun _=>.none) (fun b _=>.bool b) (fun i t _=>.int i t) (fun x t _=>.str x t)
  (fun h1 h2 h3 _ ih s=>.list (getS hz hN ho hk h1 (fun fs q=>by rw[h3] at q;cases q) fun _ _ _ q=>by rw[h2] at q;exact absurd q (by simp)) h2 h3 (ih s.of_list))
  (fun {a o vs n xs as} h1 h2 h3 r ih s=>.tuple (hk a o (notZ hz h1 fun fs q=>by rw[h3] at q;cases q) (fun e=>s.of_tuple.2 (ho.bad hN (e ▸ h1) h3 r)) h1) h2 h3 (ih s.of_tuple.1))
  (fun _ _ _ _ _ _ _ s=>nomatch s)
  (fun _=>.nil) (fun _ _ i1 i2 s=>.cons (i1 (s _ List.mem_cons_self)) (i2 fun x hx=>s x (List.mem_cons_of_mem _ hx))) r
theorem gu{vs:List Value}{xs:List PyData}{as:List Addr}(r:ReadsAll h vs xs as)(s:∀ x∈xs,Shy Bd x):ReadsAll h' vs xs as:=by
 revert s
 refine z9 (motive:=fun vs xs as=>(∀ x∈xs,Shy Bd x)→ReadsAll h' vs xs as) (fun _=>.nil) (fun {v d as vs ds bs} r _ ih s=>.cons (jp hz hN ho hk r (s _ List.mem_cons_self)) (ih fun x hx=>s x (List.mem_cons_of_mem _ hx))) r
theorem VR.keepS{v:Value}{x:V}(r:VR G N β h v x)(s:ShyV Bd x):VR G N β h' v x:=by
 cases x with
 | d x=>obtain⟨as,r,q⟩:=r;exact⟨as,jp hz hN ho hk r s,q⟩
 | box n=>exact r
 | tm its=>cases s
theorem BoxAt.keepS{a:Addr}{bx:Box}(r:BoxAt h N β a bx)(s:ShyB Bd bx):BoxAt h' N β a bx:=by
 cases bx with
 | lst xs=>obtain⟨o,vs,n,h1,h2,h3,as,h4,h5⟩:=r;exact⟨o,vs,n,getS hz hN ho hk h1 (fun fs q=>by rw[h3] at q;cases q) (fun _ _ _ q=>by rw[h2] at q;exact absurd q (by simp)),h2,h3,as,gu hz hN ho hk h4 s,h5⟩
 | dct kvs=>
   obtain⟨o,es,n,h1,h2,h3,h4,h5⟩:=r
   refine⟨o,es,n,getS hz hN ho hk h1 (fun fs q=>by rw[h3] at q;cases q) (fun _ _ q=>by rw[h3] at q;cases q),h2,h3,h4,fun i e kv he hkv=>?_⟩
   obtain⟨hq,as,bs,r1,r2,q⟩:=h5 i e kv he hkv
   exact⟨hq,as,bs,jp hz hN ho hk r1 (s _ (List.mem_of_getElem? hkv)).1,jp hz hN ho hk r2 (s _ (List.mem_of_getElem? hkv)).2,q⟩
theorem nsS{L:Addr}{m:Str→Option Value}(x:h.Ns L m):h'.Ns L m:=by
 obtain⟨o,es,ep,h1,h2,r⟩:=x
 exact⟨o,es,ep,getS hz hN ho hk h1 (fun fs q=>by rw[h2] at q;cases q) (fun _ _ q=>by rw[h2] at q;cases q),h2,r⟩
theorem zov{c:Addr}{v:Option Value}(x:h.IsCell c v):h'.IsCell c v:=by
 obtain⟨o,h1,h2⟩:=x
 exact⟨o,getS hz hN ho hk h1 (fun fs q=>by rw[h2] at q;cases q) (fun _ _ q=>by rw[h2] at q;cases q),h2⟩
theorem SR.keepS(hz0:∀ z∈Z,G.h₀.get? z=none)(hT0:G.h₀.get? T=none)(hzB:∀ z∈Z,z∉F.B)(hTB:T∉F.B)(r:SR G F β ρ O h)(s:ShyS Bd ρ O):SR G F β ρ O h':=by
 have f:=r.fm
 refine⟨⟨fun c o e=>hk _ _ (fun hb=>by rw[hz0 c hb] at e;cases e) (fun hb=>by rw[hb,hT0] at e;cases e) (r.br.keep c o e),r.br.len,r.br.nodup,r.br.new,fun i a bx h1 h2=>(r.br.at_ i a bx h1 h2).keepS hz hN ho hk (s.box _ (List.mem_of_getElem? h2)),fun a ha=>(r.br.plain a ha).at fun o e=>?_⟩,
  ⟨f.kind,f.globals,f.builtins,f.once,let ⟨m,e⟩:=f.ns;⟨m,nsS hz hN ho hk e⟩,f.nsW,fun x h1=>let ⟨c,v,h3,h4,h5⟩:=f.cell x h1;⟨c,v,h3,zov hz hN ho hk h4,h5⟩,f.apart,f.sub,f.new,f.notBox,
    fun a ha=>let ⟨o,h1,h2⟩:=f.stor a ha;⟨o,hk _ _ (fun hb=>hzB a hb ha) (fun hb=>hTB (hb ▸ ha)) h1,h2⟩,f.frB,fun a ha=>let ⟨m,e⟩:=f.frs a ha;⟨m,nsS hz hN ho hk e⟩,fun m e=>⟨nsS hz hN ho hk (f.pin m e).1,(f.pin m e).2⟩⟩,
  fun i x v h1 h2=>?_⟩
 ·refine hk a o (r.br.notItr hz (fun b o hb e=>e) ha) (fun hT=>?_) e
  obtain⟨o',e',hc⟩:=r.br.alive a ha
  obtain⟨x,y,ep⟩:=ho.pair
  have ep:h.get? T=_:=ep
  rw[← hT,e'] at ep;cases ep
  rcases hc with hc | hc <;> exact absurd hc (by simp)
 ·obtain⟨val,h3,h4⟩:=r.get i x v h1 h2
  refine⟨val,?_,h4.keepS hz hN ho hk (s.loc v (List.mem_of_getElem? h2))⟩
  rcases h3 with ⟨g1,m,g2,g3⟩ | ⟨g1,c,g2,g3⟩
  ·exact .inl ⟨g1,m,nsS hz hN ho hk g2,g3⟩
  ·exact .inr ⟨g1,c,g2,zov hz hN ho hk g3⟩
end
end Mine
end
section
namespace Mine
open PySem PyProof.Rows
theorem zhv{i n:Nat}(h:i < n):n+1 - (i+1) < n+1 - i:=by omega
theorem in5{α:Type}{z a b c d:α}:∀ x∈[z,c,d],x∈[z,a,b,c,d]:=fun _ h=>List.Sublist.subset (.cons_cons _ (.cons _ (.cons _ (List.Sublist.refl _)))) h
theorem all4{α:Type}{p:α→Prop}{a b c d:α}(h1:p a)(h2:p b)(h3:p c)(h4:p d):∀ x∈[a,b,c,d],p x:=fun x hx=>by
 rcases List.mem_cons.mp hx with rfl | hx
 ·exact h1
 rcases List.mem_cons.mp hx with rfl | hx
 ·exact h2
 rcases List.mem_cons.mp hx with rfl | hx
 ·exact h3
 ·rw[List.mem_singleton.mp hx];exact h4
noncomputable def zipT(xs ys:List PyData):List PyData:=List.zipWith (fun x y=>.tuple [x,y]) xs ys
noncomputable def SqK.mk:SqK→List PyData→PyData
 | .lst,xs=>.list xs
 | .tup,xs=>.tuple xs
noncomputable def sqOf:SqK→PyData→Option (List PyData)
 | .lst,.list xs=>some xs
 | .tup,.tuple xs=>some xs
 | _,_=>none
theorem zda{q:SqK}{x:PyData}{xs:List PyData}(h:sqOf q x=some xs):x=q.mk xs:=by
 cases q <;> cases x <;> first | (cases h;rfl) | cases h
structure ZOk(Bd:List PyData→Prop)(q1 q2:SqK)(xs ys:List PyData):Prop where
 len:xs.length=ys.length
 sx:Shy Bd (q1.mk xs)
 sy:Shy Bd (q2.mk ys)
 non:Bd [.none,.none]
 bad:∀ (i:Nat) x y,xs[i]?=some x→ys[i]?=some y→Bd [x,y]
theorem Shy.of_sq{Bd:List PyData→Prop}{q:SqK}{xs:List PyData}(h:Shy Bd (q.mk xs)):∀ x∈xs,Shy Bd x:=by
 cases q with
 | lst=>exact Shy.of_list h
 | tup=>exact (Shy.of_tuple h).1
inductive SqV(q:SqK)(h:Heap)(N β:List Addr)(v:Value)(xs:List PyData):Prop
 | mk (a:Addr) (o:Obj) (vs:Array Value) (n:Nat) (hv:v=.ref a) (h1:h.get? a=some o) (h2:o.cls=.type q.cls) (h3:o.data=.seq vs n) (as:List Addr) (h4:ReadsAll h vs.toList xs as) (h5:∀ a∈as,a∉β∧a∉N)
theorem VR.sq_inv{G:Gl}{q:SqK}{h:Heap}{N β:List Addr}{v:Value}{xs:List PyData}(r:VR G N β h v (.d (q.mk xs))):SqV q h N β v xs:=by
 cases q with
 | tup=>obtain⟨a,o,vs,n,e,h1,h2,h3,as,h4,h5⟩:=VR.tuple_inv r;exact⟨a,o,vs,n,e,h1,h2,h3,as,h4,h5⟩
 | lst=>obtain⟨a,e,⟨o,vs,n,h1,h2,h3,as,h4,h5⟩,_⟩:=VR.list_inv r;exact⟨a,o,vs,n,e,h1,h2,h3,as,h4,h5⟩
noncomputable def y6(Bd:List PyData→Prop)(c:CT)(evb:Loc→za→R (Loc×za) Fl)(x:PyData)(ρ:Loc)(O:za):R (Loc×za) Fl:=@ite _ (ShyS Bd ρ O) (Classical.propDecidable _) (j3 c evb x ρ O) .stuck
noncomputable def zkw(Bd:List PyData→Prop)(q1 q2:SqK)(c:CT)(evb:Loc→za→R (Loc×za) Fl)(o1 o2:Option (List PyData))(S:Loc×za):R (Loc×za) Fl:=match o1,o2 with
 | some xs,some ys=>@ite _ (ZOk Bd q1 q2 xs ys) (Classical.propDecidable _) (zu (.plain (zipT xs ys)) (y6 Bd c evb) (zipT xs ys) S.1 S.2) .stuck
 | _,_=>.stuck
noncomputable def zhd(Bd:List PyData→Prop)(q1 q2:SqK)(c:CT)(evb:Loc→za→R (Loc×za) Fl)(p:V×V)(S:Loc×za):R (Loc×za) Fl:=match p with
 | (.d x,.d y)=>zkw Bd q1 q2 c evb (sqOf q1 x) (sqOf q2 y) S
 | _=>.stuck
noncomputable def CS.forG(Bd:List PyData→Prop)(q1 q2:SqK)(t:CT)(a b:CE)(c:CSs):CS:=fun P ρ O=>if P.hd=true then .stuck else (((evE P ρ a O).bind fun v O=>(evE P ρ b O).bind fun u O=>.ok (v,u) O).lift ρ).bind (zhd Bd q1 q2 t fun ρ O=>evSs P c ρ O)
variable{Bd:List PyData→Prop}{q1 q2:SqK}
theorem zkv{src:Src}{c:CT}{evb:Loc→za→R (Loc×za) Fl}{x:PyData}{xs:List PyData}{ρ:Loc}{O:za}{fl:Fl}{S:Loc×za}(h:zu src (y6 Bd c evb) (x::xs) ρ O=.ok fl S):ShyS Bd ρ O∧zl6 src c evb x (zu src (y6 Bd c evb) xs) ρ O fl S:=by
 have h:(match y6 Bd c evb x ρ O with
  | .ok (.ret v) S=>.ok (.ret v) S
  | .ok .next S=>if src.still S.2 then zu src (y6 Bd c evb) xs S.1 S.2 else .stuck
  | _=>.stuck)=R.ok fl S:=h
 by_cases hs:ShyS Bd ρ O
 ·rw[show y6 Bd c evb x ρ O=j3 c evb x ρ O from if_pos hs] at h
  exact⟨hs,zd5 h⟩
 ·rw[show y6 Bd c evb x ρ O=.stuck from if_neg hs] at h
  cases h
section
variable{G:Gl}{F:Fm}{A:Around}{cx:Cx}{gval:Nat→Option PyData}{gname:Nat→Option Str}
inductive OwnV(G:Gl)(Bd:List PyData→Prop)(N β:List Addr)(h:Heap)(T:Addr):Prop
 | none (e:IsPair h T .none .none):OwnV G Bd N β h T
 | data (a b:Value) (e:IsPair h T a b) (x y:PyData) (r1:VR G N β h a (.d x)) (r2:VR G N β h b (.d y)) (s1:Shy Bd x) (s2:Shy Bd y) (hb:Bd [x,y]):OwnV G Bd N β h T
theorem OwnV.own{N β:List Addr}{h:Heap}{T:Addr}(o:OwnV G Bd N β h T):ZOwn Bd h T:=by
 cases o with
 | none e=>exact .none e
 | data a b e x y r1 r2 s1 s2 hb=>obtain⟨as,r1,_⟩:=r1;obtain⟨cs,r2,_⟩:=r2;exact .data a b e x y as cs r1 r2 s1 s2 hb
inductive TInv(G:Gl)(Bd:List PyData→Prop)(q1 q2:SqK)(F:Fm)(β₀:List Addr)(s₀:Shared)(z TI TO i1 i2 t l:Addr)(xs ys:List PyData)(go:List PyData→Loc→za→Prop)(k:Nat)(s:Shared):Prop
 | mk (i:Nat) (β:List Addr) (ρ:Loc) (O:za) (hk:k=xs.length+1 - i) (hi:i≤xs.length) (step:Step F.W β₀ s₀ s β) (sr:SR G F β ρ O s.heap) (Z:ZAt q1 q2 s.heap z TI TO i1 i2 t l i .none) (own:OwnV G Bd F.B β s.heap TO)
    (rt:VR G F.B β s.heap (.ref t) (.d (q1.mk xs))) (rl:VR G F.B β s.heap (.ref l) (.d (q2.mk ys))) (hgo:go ((zipT xs ys).drop i) ρ O)
theorem ZAt.at{h h':Heap}{z TI TO i1 i2 t l:Addr}{k:Nat}{f:Value}(Z:ZAt q1 q2 h z TI TO i1 i2 t l k f)(hk:∀ c∈[z,TI,i1,i2],∀ o,(∀ es n,o.data≠.dict es n)→h.get? c=some o→h'.get? c=some o):ZAt q1 q2 h' z TI TO i1 i2 t l k f:=by
 obtain⟨h1,h2,⟨o4,h4,c4,d4⟩,⟨o5,h5,c5,d5⟩⟩:=Z
 exact⟨hk z (.head _) _ (fun _ _ e=>nomatch e) h1,hk TI (.tail _ (.head _)) _ (fun _ _ e=>nomatch e) h2,
  ⟨o4,hk i1 (.tail _ (.tail _ (.head _))) _ (fun _ _ e=>by rw[d4] at e;cases e) h4,c4,d4⟩,⟨o5,hk i2 (.tail _ (.tail _ (.tail _ (.head _)))) _ (fun _ _ e=>by rw[d5] at e;cases e) h5,c5,d5⟩⟩
theorem ZAt.itr{h:Heap}{z TI TO i1 i2 t l:Addr}{k:Nat}{f:Value}(Z:ZAt q1 q2 h z TI TO i1 i2 t l k f):∀ c∈[z,i1,i2],Itr h c:=fun c hc=>by
 obtain⟨h1,h2,⟨o4,h4,c4,d4⟩,⟨o5,h5,c5,d5⟩⟩:=Z
 rcases List.mem_cons.mp hc with rfl | hc
 ·exact⟨_,_,_,h1,rfl,rfl⟩
 rcases List.mem_cons.mp hc with rfl | hc
 ·exact⟨o4,_,_,h4,c4,d4⟩
 ·rw[List.mem_singleton.mp hc];exact⟨o5,_,_,h5,c5,d5⟩
theorem BR.notTup{N β:List Addr}{O:za}{h:Heap}(b:BR G N β O h){c:Addr}{x y:Value}(e:IsPair h c x y):c∉β:=fun hc=>by
 obtain⟨o,e',hd⟩:=b.alive c hc
 have e:h.get? c=_:=e
 rw[e] at e';cases e'
 rcases hd with hd | hd <;> exact absurd hd (by simp)
theorem zrb{es:List Expr}{kt:Nat}{pt:Pos}{c:CT}{own:Str→Bool}{body:List Stmt}{evb:Loc→za→R (Loc×za) Fl}{xs ys:List PyData}(g:GOk G gval gname)(hh:A.handled=none)(fit:Fits F cx)(hown:∀ x,own x=true→F.own x=true)(hc:chkT cx own c (.Tuple es kt pt)=true)
 (hb:∀ s β ρ O,SR G F β ρ O s.heap→Does G F A s β (execs body F.env) (evb ρ O) (yw G F)) {s:Shared} {β:List Addr} {ρ:Loc} {O:za} {v u:Value} (sr:SR G F β ρ O s.heap) (rv:VR G F.B β s.heap v (.d (q1.mk xs))) (ru:VR G F.B β s.heap u (.d (q2.mk ys))) (ok:ZOk Bd q1 q2 xs ys)
 {fl:Fl} {S:Loc×za} (hgo:zu (.plain (zipT xs ys)) (y6 Bd c evb) (zipT xs ys) ρ O=.ok fl S) {Q:Flow→Shared→Prop} {E:Value→Shared→Prop}
 (kk:∀ s' β' f,Step F.W β s s' β'→SR G F β' S.1 S.2 s'.heap→yw G F β' s'.heap f fl→Q f s') :
 wpAny (model G.prog G.w) A (call (.type "zip") [v,u]) (fun z s₁=>wpAny (model G.prog G.w) A (pyIter z) (fun it s₂=>codeAny (model G.prog G.w) A (.forLoop (.Tuple es kt pt) it body [] F.env)
  (fun r s'=>match r with | .ok f=>Q f s' | .error e=>cameBackBy (model G.prog G.w) A F.env E e s') s₂) E s₁) E s:=by
 have rv₀:=rv
 have ru₀:=ru
 obtain⟨t,ot,vt,nt,rfl,t1,t2,t3,at',t4,t5⟩:=rv.sq_inv
 obtain⟨l,ol,vl,nl,rfl,l1,l2,l3,al,l4,l5⟩:=ru.sq_inv
 refine zlq (q1:=q1) (q2:=q2) ⟨ot,t1,t2,nt,t3⟩ ⟨ol,l1,l2,nl,l3⟩ fun h₁ z TI TO i1 i2 Z hTO D fresh kept=>wpAny_pyIter_zip Z.zip ?_
 clear t1 t2 t3 t4 t5 l1 l2 l3 l4 l5
 have f0:∀ c∈[z,TI,TO,i1,i2],G.h₀.get? c=none:=fun c hc=>by
  cases e:G.h₀.get? c with
  | none=>rfl
  | some o=>have:=sr.br.keep c o e;rw[fresh c hc] at this;cases this
 have fB:∀ c∈[z,TI,TO,i1,i2],c∉F.B:=fun c hc hB=>by
  obtain⟨o,e,_⟩:=sr.fm.stor c hB
  rw[fresh c hc] at e;cases e
 have m3:∀ c∈[z,i1,i2],c∈[z,TI,TO,i1,i2]:=in5
 have ka:KeepsAll s { s with heap:=h₁ }:=⟨rfl,rfl,kept⟩
 refine codeAny_forLoop_any (TInv G Bd q1 q2 F β s z TI TO i1 i2 t l xs ys fun zs ρ O=>zu (.plain (zipT xs ys)) (y6 Bd c evb) zs ρ O=.ok fl S) ?_ (xs.length+1) ⟨0,β,ρ,O,rfl,Nat.zero_le _,ka.step _ _,sr.keepAll kept,Z,.none hTO,rv₀.keepAll kept,ru₀.keepAll kept,hgo⟩
 clear hgo Z hTO ka rv₀ ru₀
 intro k s' hI
 obtain⟨i,β',ρ',O',rfl,hi,step,sr',Z,own,rt,rl,hgo⟩:=hI
 have hitr:=Z.itr
 have hlz:(zipT xs ys).length=xs.length:=by unfold zipT;rw[List.length_zipWith,← ok.len,Nat.min_self]
 have rt':=rt
 have rl':=rl
 obtain⟨t',ot,vt,nt,e,t1,t2,t3,at',t4,t5⟩:=rt.sq_inv
 cases e
 obtain⟨l',ol,vl,nl,e,l1,l2,l3,al,l4,l5⟩:=rl.sq_inv
 cases e
 by_cases hlt:i < xs.length
 ·have hxi:xs[i]?=some xs[i]:=List.getElem?_eq_getElem hlt
  have hly:i < ys.length:=by rw[← ok.len];exact hlt
  have hyi:ys[i]?=some ys[i]:=List.getElem?_eq_getElem hly
  have hzi:(zipT xs ys).drop i=.tuple [xs[i],ys[i]]::(zipT xs ys).drop (i+1):=by
   rw[List.drop_eq_getElem_cons (by rw[hlz];exact hlt)]
   unfold zipT
   rw[List.getElem_zipWith]
  rw[hzi] at hgo
  obtain⟨hshy,ρ'',f,S',hbt,he,hrest⟩:=zkv hgo
  have sx:Shy Bd xs[i]:=ok.sx.of_sq _ (List.mem_of_getElem? hxi)
  have sy:Shy Bd ys[i]:=ok.sy.of_sq _ (List.mem_of_getElem? hyi)
  have hbd:Bd [xs[i],ys[i]]:=ok.bad i _ _ hxi hyi
  have hN:=ok.non
  generalize xs[i]=x at hxi hbt sx hzi hbd
  generalize ys[i]=y at hyi hbt sy hzi hbd
  obtain⟨vx,bx,x1,x2,x3⟩:=zr t4 t5 hxi
  obtain⟨vy,by',y1,y2,y3⟩:=zr l4 l5 hyi
  rw[Array.getElem?_toList] at x1 y1
  obtain⟨ta,tb,hTO⟩:=own.own.pair
  refine zi6 D Z hTO ⟨ot,t1,t2,nt,t3⟩ ⟨ol,l1,l2,nl,l3⟩ x1 y1 fun h₂ Z₂ hTO₂ hT hk₂=>?_
  have zlt:s'.heap.objs.size≠z:=Nat.ne_of_gt (Heap.lt_size Z.zip)
  refine wpAny_letOwnedTupleGo_zip (s:={ s' with heap:=h₂ }) Z₂.zip fun h₃ hz₃ hs₃=>?_
  have hk₃:∀ b o,b∉[z,i1,i2]→b≠TO→s'.heap.get? b=some o→h₃.get? b=some o:=fun b o hb hbT e=>by
   exact hs₃.extBut _ _ (fun e=>hb (e ▸ .head _)) (hk₂ b o (fun e=>hb (e ▸ .head _)) hbT (fun e=>hb (e ▸ .tail _ (.head _))) (fun e=>hb (e ▸ .tail _ (.tail _ (.head _)))) e)
  have Z₃:ZAt q1 q2 h₃ z TI TO i1 i2 t l (i+1) .none:=by
   obtain⟨_,q2,⟨o4,q4,r4⟩,q5⟩:=Z₂
   exact⟨hz₃,hs₃.extBut _ _ D.TIz q2,⟨o4,hs₃.extBut _ _ D.i1z q4,r4⟩,q5.ext hs₃.extBut D.i2z⟩
  have hTO₃:IsPair h₃ TO vx vy:=hs₃.extBut _ _ D.TOz hTO₂
  have sr₃:SR G F β' ρ' O' h₃:=sr'.keepS hitr hN own.own hk₃ (fun c hc=>f0 c (m3 c hc)) (f0 TO (.tail _ (.tail _ (.head _)))) (fun c hc=>fB c (m3 c hc)) (fB TO (.tail _ (.tail _ (.head _)))) hshy
  have rx:VR G F.B β' h₃ vx (.d x):=VR.keepS hitr hN own.own hk₃ (x:=.d x) ⟨bx,x2,x3⟩ sx
  have ry:VR G F.B β' h₃ vy (.d y):=VR.keepS hitr hN own.own hk₃ (x:=.d y) ⟨by',y2,y3⟩ sy
  have rt₃:=rt'.keepS hitr hN own.own hk₃ ok.sx
  have rl₃:=rl'.keepS hitr hN own.own hk₃ ok.sy
  have rp:VR G F.B β' h₃ (.ref s'.heap.objs.size) (.d (.tuple [x,y])):=by
   obtain⟨as,r1,q1⟩:=id rx
   obtain⟨bs,r2,q2⟩:=id ry
   exact⟨_,.tuple (hs₃.extBut _ _ zlt hT) rfl rfl (.cons r1 (.cons r2 .nil)),fun a ha=>by
    rw[List.append_nil] at ha
    exact (List.mem_append.mp ha).elim (q1 a) (q2 a)⟩
  have step₃:Step F.W β s { s' with heap:=h₃ } β':=step.thenZ (Z:=[z,TI,TO,i1,i2]) ⟨rfl,rfl,fun b o hb e=>hk₃ b o (fun h=>hb (m3 b h)) (fun h=>hb (h ▸ .tail _ (.tail _ (.head _)))) e⟩ fresh
  have da:=xy (A:=A) (s:={ s' with heap:=h₃ }) hh fit hown c hc sr₃ rp
  unfold bindR at da
  dsimp only at da
  rw[hbt] at da
  dsimp only at da
  refine da _ _ fun s₄ β₄ _ st₄ sr₄ _=>?_
  have db:=hb s₄ β₄ ρ'' O' sr₄
  rw[he] at db
  refine db _ _ fun s₅ β₅ f' st₅ sr₅ rf=>?_
  have st:=st₄.trans st₅
  have step₅:=step₃.trans st
  cases hrest with
  | ret w e=>
    subst e
    obtain⟨val,rfl,rv'⟩:=rf
    exact kk s₅ β₅ (.ret val) step₅ sr₅ ⟨val,rfl,rv'⟩
  | next _ hst hgo=>
    have rf:f'=.next:=rf
    subst rf
    have nW:∀ c∈[z,TI,TO,i1,i2],c∉F.W:=fun c hc hW=>fB c hc (sr.fm.sub c hW)
    refine⟨xs.length+1 - (i+1),zhv hlt,i+1,β₅,S'.1,S'.2,rfl,hlt,step₅,sr₅,Z₃.at (all4 (fun o hd e=>st.keptE e (h8 sr₃.br Z₃.itr _ (.head _)) (nW _ (.head _)) hd) (fun o hd e=>st.keptE e (sr₃.br.notTup Z₃.ti) (nW _ (.tail _ (.head _))) hd) (fun o hd e=>st.keptE e (h8 sr₃.br Z₃.itr _ (.tail _ (.head _))) (nW _ (.tail _ (.tail _ (.tail _ (.head _))))) hd) fun o hd e=>st.keptE e (h8 sr₃.br Z₃.itr _ (.tail _ (.tail _ (.head _)))) (nW _ (.tail _ (.tail _ (.tail _ (.tail _ (.head _)))))) hd),.data vx vy ?_ x y (rx.step sr₃.br sr₃.fm st) (ry.step sr₃.br sr₃.fm st) sx sy hbd,rt₃.step sr₃.br sr₃.fm st,rl₃.step sr₃.br sr₃.fm st,hgo⟩
    exact st.keptE hTO₃ (sr₃.br.notTup hTO₃) (nW TO (.tail _ (.tail _ (.head _)))) fun _ _ e=>nomatch e
 ·have hie:i=xs.length:=by omega
  have hd:(zipT xs ys).drop i=[]:=by rw[List.drop_eq_nil_iff,hlz,hie];exact Nat.le_refl _
  rw[hd] at hgo
  have hgo:Mine.R.ok Fl.next (ρ',O')=Mine.R.ok fl S:=hgo
  cases hgo
  have hnone:vt[i]?=none:=by
   rw[← Array.getElem?_toList,List.getElem?_eq_none]
   rw[zf t4,hie];exact Nat.le_refl _
  refine zl7 hh D Z ⟨ot,t1,t2,nt,t3⟩ hnone fun h' hk=>?_
  have kz:KeepsZ [z,i1] s' { s' with heap:=h' }:=⟨rfl,rfl,fun b o hb e=>hk b o (fun e=>hb (e ▸ .head _)) (fun e=>hb (e ▸ .tail _ (.head _))) e⟩
  have m2:∀ c∈[z,i1],c∈[z,i1,i2]:=fun c hc=>List.mem_append_left [i2] hc
  exact wpAny_execs_nil (kk _ β' .next (step.thenZ kz fun c hc=>fresh c (m3 c (m2 c hc))) (sr'.keepZ (fun c hc=>hitr c (m2 c hc)) kz.kept g.clsRef (fun c hc=>f0 c (m3 c (m2 c hc))) fun c hc=>fB c (m3 c (m2 c hc))) rfl)
end
set_option tactic.hygienic true in
theorem zpo{cx:Cx}{x y:Expr}{a b:CE}{c:CSs}{t:CT}{body:List Stmt}{es:List Expr}{pt ps q pos:Pos}{kt:Nat}(h1:JE cx x a)(h2:JE cx y b)(hb:JSs cx body c)(hx:cx.isGlob "zip" = true)(hc:chkT cx (ownOf cx.sc) t (.Tuple es kt pt)=true) :
 JS cx (.For (.Tuple es kt pt) (.Call (.Name "zip" ps) [x,y] [] q) body [] pos) (.forG Bd q1 q2 t a b c):=⟨fun {G A P F s β ρ O} hr sr=>by
 show Does G F A s β _ (if P.hd=true then .stuck else _:R (Loc×za) Fl) _
 by_cases hd:P.hd=true
 ·rw[if_pos hd];trivial
 rw[if_neg hd]
 have hh:=hr.run.hm (Bool.eq_false_iff.mpr hd)
 obtain ⟨b1,b2⟩:=hr.run.g.bi ("zip",.type "zip") (by decide)
 let evb:Loc→za→R (Loc×za) Fl:=fun ρ O=>evSs P c ρ O
 have e1:(((evE P ρ a O).bind fun v O=>(evE P ρ b O).bind fun u O=>R.ok (v,u) O).lift ρ).bind (zhd Bd q1 q2 t evb)=((evE P ρ a O).lift ρ).bind fun v S=>((evE P ρ b S.2).lift ρ).bind fun u S'=>zhd Bd q1 q2 t evb (v,u) (ρ,S'.2):=by
  cases evE P ρ a O with
  | ok v O'=>
    show (((evE P ρ b O').bind fun u O=>R.ok (v,u) O).lift ρ).bind _=((evE P ρ b O').lift ρ).bind _
    cases evE P ρ b O' <;> rfl
  | stuck=>rfl
 rw[e1]
 let tail:Value→Value→WT Flow:=fun v u Q E s=>wpAny (model G.prog G.w) A (call (.type "zip") [v,u]) (fun z s₁=>wpAny (model G.prog G.w) A (pyIter z) (fun it s₂=>codeAny (model G.prog G.w) A (.forLoop (.Tuple es kt pt) it body [] F.env)
  (fun r s'=>match r with | .ok f=>Q f s' | .error e=>cameBackBy (model G.prog G.w) A F.env E e s') s₂) E s₁) E s
 refine DoesW.seq (T₂:=fun v Q E s=>wpAny (model G.prog G.w) A (eval y F.env) (fun u s₁=>tail v u Q E s₁) E s) (fun Q E h=>?_) (h1.d hr.toHere sr) fun s₁ β₁ v d S e st sr₁ rv=>?_
 ·exact wpAny_For (Call_Name rfl (yo hr.run.g sr hr.fit hx b1 b2 (callWith_type1 (spliced_more (wpAny_mono h (fun v s₁ h₁=>spliced_more (wpAny_mono h₁ (fun u s₂ h₂=>spliced_none h₂) fun _ _ x=>x) h2.px.star) fun _ _ x=>x) h1.px.star) h1.px.star (by rw[h2.px.star];rfl)))) fun v=>rfl
 ·have hS:S=(ρ,S.2):=by
   cases hv:evE P ρ a O with
   | ok _ _=>rw[hv] at e;cases e;rfl
   | stuck=>rw[hv] at e;cases e
  rw[hS] at sr₁
  refine DoesW.seq (T₁:=tr G A (eval y F.env)) (T₂:=fun u=>tail v u) (fun Q E h=>h) (h2.d hr.toHere sr₁) fun s₂ β₂ u d₂ S₂ e₂ st₂ sr₂ ru=>?_
  have hS₂:S₂.1=ρ:=by
   cases hv:evE P ρ b S.2 with
   | ok _ _=>rw[hv] at e₂;cases e₂;rfl
   | stuck=>rw[hv] at e₂;cases e₂
  rw[hS₂] at sr₂
  have rv₂:=rv.step sr₁.br sr₁.fm st₂
  clear rv e e₂
  cases d <;> first | trivial | skip
  rename_i dx
  cases d₂ <;> first | trivial | skip
  rename_i dy
  show DoesW G F s₂ β₂ _ (zkw Bd q1 q2 t evb (sqOf q1 dx) (sqOf q2 dy) (ρ,S₂.2)) _
  cases hx':sqOf q1 dx with
  | none=>trivial
  | some xs=>
    cases hy':sqOf q2 dy with
    | none=>trivial
    | some ys=>
      rw[zda hx'] at rv₂
      rw[zda hy'] at ru
      show DoesW G F s₂ β₂ _ (@ite _ (ZOk Bd q1 q2 xs ys) (Classical.propDecidable _) (zu (.plain (zipT xs ys)) (y6 Bd t evb) (zipT xs ys) ρ S₂.2) .stuck) _
      by_cases ok:ZOk Bd q1 q2 xs ys
      ·rw[if_pos ok]
       cases hgo:zu (.plain (zipT xs ys)) (y6 Bd t evb) (zipT xs ys) ρ S₂.2 with
       | stuck=>trivial
       | ok fl S'=>exact fun Q E kk=>zrb hr.run.g hh hr.fit hr.own hc (fun s' β' ρ' O' sr'=>hb.d hr sr') sr₂ rv₂ ru ok hgo kk
      ·rw[if_neg ok];trivial⟩
end Mine
end
section
namespace Mine
open PySem PyProof.Rows PySem.W
section
variable{prog:Program}{w:World}
theorem zkm{vs:List Value}{is:List Int}(h:IntsAre vs is):ItemsAre (intKind prog w) is vs:=by
 induction h with
 | nil=>exact .nil
 | cons i t _ ih=>exact .cons (by show Value.isInt i (.int i t)=true;unfold Value.isInt;exact decide_eq_true rfl) ih
theorem zjc{h:Heap}{vs:List Value}{xs:List PyData}{as:List Addr}(r:ReadsAll h vs xs as):∀ {kss:List (List Int)},x9 xs=some kss→vs.length=kss.length∧∀ (i:Nat) v,vs[i]?=some v→∃ b ks,kss[i]?=some ks∧v=.ref b∧TK (prog:=prog) (w:=w) h ks b:=by
 refine z9 (motive:=fun vs xs _=>∀ {kss:List (List Int)},x9 xs=some kss→vs.length=kss.length∧∀ (i:Nat) v,vs[i]?=some v→∃ b ks,kss[i]?=some ks∧v=.ref b∧TK (prog:=prog) (w:=w) h ks b) ?_ ?_ r
 ·intro kss e;cases e;exact⟨rfl,fun i v h=>by rw[List.getElem?_nil] at h;cases h⟩
 ·intro v d as vs ds bs r _ ih kss e
  obtain⟨p,hx,e⟩:=Option.bind_eq_some_iff.mp e
  obtain⟨q,hr,rfl⟩:=Option.map_eq_some_iff.mp e
  obtain⟨l,k⟩:=ih hr
  refine⟨congrArg (· + 1) l,fun i u h=>?_⟩
  cases i with
  | succ i=>exact k i u h
  | zero=>
    have h:some v=some u:=h
    cases h
    have hx:za0 d=some p:=hx
    obtain⟨b,rfl,o,n,us,g1,g2,g3,g4,_⟩:=zb2 r hx
    exact⟨b,p,rfl,rfl,o,us,n,g1,g2,g3,zkm g4⟩
end
noncomputable def g6(x:PyData):Option PyData:=ofList (fun xs=>(x9 xs).bind fun kss=>if kss.length≤17 then some (.int (yr kss kss.length).length) else none) x
noncomputable def CE.lenS(a:CE):CE:=fun P ρ O=>if P.hd=true then .stuck else (evE P ρ a O).bind fun v O=>opt (((look O v).bind g6).map .d) O
section
variable{G:Gl}{F:Fm}{A:Around}{s:Shared}{β:List Addr}{ρ:Loc}{O:za}{cx:Cx}{gval:Nat→Option PyData}{gname:Nat→Option Str}
theorem zp5{v:Value}{d:V}{x y:PyData}{k:Nat}(ro:Room A k)(hh:A.handled=none)(sr:SR G F β ρ O s.heap)(rv:VR G F.B β s.heap v d)(hx:look O d=some x)(hy:g6 x=some y) :
 DoesW G F s β (fun Q E s=>wpAny (model G.prog G.w) A (call (.type "set") [v]) (fun S s₁=>wpAny (model G.prog G.w) A (call (.builtin "len") [S]) Q E s₁) E s) (.ok (V.d y) (ρ,O)) (VRel G F):=by
 obtain⟨xs,rfl,h⟩:=v4 (f:=fun xs=>(x9 xs).bind fun kss=>if kss.length≤17 then some (.int (yr kss kss.length).length) else none) hy
 obtain⟨kss,h1,h⟩:=Option.bind_eq_some_iff.mp h
 obtain⟨h17,rfl⟩:=yz h
 obtain⟨a,rfl,o,vs,n,e1,e2,e3,as,r,q⟩:=yf sr rv hx
 obtain⟨l,hk⟩:=zjc (prog:=G.prog) (w:=G.w) r h1
 have hu:=ro.c (n:=200)
 refine Does.leaf sr fun Q E kk=>zat hh (by omega) ⟨o,e1,e2,n,e3⟩ (by rw[← Array.length_toList];exact l) (fun i v hv=>hk i v (by rw[← hv];exact Array.getElem?_toList)) h17 fun h' tk hS hkeep=>?_
 obtain⟨o',ep,t,m,L,ho,hex,hd,ht,hr,hre,hlen,hnd,hent,hmem,hm⟩:=hS
 have hsz:(elems L).size=(yr kss kss.length).length:=by rw[← hlen];unfold elems;rw[List.size_toArray,List.length_map]
 have hle:=w7 kss kss.length
 have hfit:t.fits (elems L).size=true:=by
  simp only[SetTable.fits,SetTable.fill,ht.place,ht.dummies,ht.mask,places,elems,Bool.and_eq_true,beq_iff_eq,decide_eq_true_eq]
  constructor
  ·simp
  ·simp;omega
 refine call_len_set (s:={ s with heap:=h',toks:=tk }) ho hex hd hfit (by rw[hsz];omega) ?_
 rw[hsz]
 exact kk _ _ ⟨rfl,rfl,hkeep⟩ VR.int
theorem zqc{y:Expr}{a:CE}{ps pz q q':Pos}(h:JE cx y a)(hg:(cx.isGlob "len" && cx.isGlob "set")=true):JE cx (.Call (.Name "len" ps) [.Call (.Name "set" pz) [y] [] q'] [] q) (.lenS a):=
 ⟨rfl,fun {G A P F s β ρ O} hr sr=>by
   obtain⟨hx,hz⟩:=and2 hg
   show Does G F A s β _ (R.lift ρ (if P.hd=true then .stuck else _:R za V)) _
   by_cases hd:P.hd=true
   ·rw[if_pos hd];trivial
   rw[if_neg hd]
   have hh:=hr.run.hm (Bool.eq_false_iff.mpr hd)
   obtain ⟨b1,b2⟩:=hr.run.g.bi ("len",.builtin "len") (by decide)
   obtain ⟨c1,c2⟩:=hr.run.g.bi ("set",.type "set") (by decide)
   have hne:starEach [Expr.Call (.Name "set" pz) [y] [] q'] F.env=(false,eval (.Call (.Name "set" pz) [y] [] q') F.env)::starEach [] F.env:=rfl
   refine DoesW.seqE (T₂:=fun v Q E s=>wpAny (model G.prog G.w) A (call (.type "set") [v]) (fun S s₁=>wpAny (model G.prog G.w) A (call (.builtin "len") [S]) Q E s₁) E s)
    (fun Q E h'=>?_) (h.d hr sr) fun s' β' val v O' _ st sr' rv=>?_
   ·exact Call_Name rfl (yo hr.run.g sr hr.fit hx b1 b2 (callWith_builtin1 (spliced_more (wpAny_mono (Call_Name rfl (yo hr.run.g sr hr.fit hz c1 c2 (callWith_type1 (spliced_more (wpAny_mono h' (fun v s₁ h₁=>spliced_none h₁) (fun _ _ x=>x)) h.px.star) h.px.star rfl))) (fun v s₁ h₁=>spliced_none h₁) (fun _ _ x=>x)) hne) hne rfl))
   ·cases hl:(look O' v).bind g6 with
    | none=>trivial
    | some y=>
      obtain⟨x,h1,h2⟩:=Option.bind_eq_some_iff.mp hl
      exact zp5 hr.run.ro hh sr' rv h1 h2⟩
end
end Mine
end
section
namespace Mine
open PySem PyProof.Rows
theorem zch:∀ (r:List Int) (a:Int),(r.foldl max a=a∨r.foldl max a∈r)∧a≤r.foldl max a∧∀ b∈r,b≤r.foldl max a
 | [],a=>⟨.inl rfl,Int.le_refl _,fun _ h=>nomatch h⟩
 | c::r,a=>by
   obtain⟨h1,h2,h3⟩:=zch r (max a c)
   rw[List.foldl_cons]
   refine⟨?_,Int.le_trans (Int.le_max_left a c) h2,fun b hb=>?_⟩
   ·rcases h1 with h1 | h1
    ·rw[h1]
     rcases Int.le_total a c with h | h
     ·rw[Int.max_eq_right h];exact .inr (.head _)
     ·rw[Int.max_eq_left h];exact .inl rfl
    ·exact .inr (.tail _ h1)
   ·rcases List.mem_cons.mp hb with rfl | hb
    ·exact Int.le_trans (Int.le_max_right a b) h2
    ·exact h3 b hb
theorem zj2{is:List Int}{M N:Int}(h:maxI is=some M)(h1:N∈is)(h2:∀ a∈is,a≤N):N=M:=by
 cases is with
 | nil=>cases h
 | cons a r=>
   cases h
   obtain⟨g1,g2,g3⟩:=zch r a
   refine Int.le_antisymm ?_ (h2 _ ?_)
   ·rcases List.mem_cons.mp h1 with rfl | h1
    ·exact g2
    ·exact g3 _ h1
   ·rcases g1 with g1 | g1
    ·rw[g1];exact .head _
    ·exact .tail _ g1
noncomputable def zj1(xs:List PyData):Option PyData:=(intsOf xs).bind fun is=>(maxI is).map .int
noncomputable def CE.maxL(a:CE):CE:=fun P ρ O=>if P.hd=true then .stuck else (evE P ρ a O).bind fun v O=>opt (((look O v).bind (ofList zj1)).map .d) O
section
variable{G:Gl}{F:Fm}{A:Around}{s:Shared}{β:List Addr}{ρ:Loc}{O:za}
theorem zta{v:Value}{d:V}(hh:A.handled=none)(sr:SR G F β ρ O s.heap)(rv:VR G F.B β s.heap v d) :
 Does G F A s β (call (.builtin "max") [v]) ((opt (((look O d).bind (ofList zj1)).map V.d) O).lift ρ) (VRel G F):=by
 cases hl:(look O d).bind (ofList zj1) with
 | none=>trivial
 | some y=>
   obtain⟨x,h1,h2⟩:=Option.bind_eq_some_iff.mp hl
   obtain⟨xs,rfl,h⟩:=v4 h2
   obtain⟨is,h3,h⟩:=Option.bind_eq_some_iff.mp h
   obtain⟨M,h4,rfl⟩:=Option.map_eq_some_iff.mp h
   obtain⟨a,rfl,o,vs,n,e1,e2,e3,as,r,q⟩:=yf sr rv h1
   have hi:=ints_get r h3
   obtain⟨ys,rfl⟩:=AllInts.items (vs:=vs) hi.allInts
   have hn:ys.toList.map (·.1)=is:=by rw[← nums_intItems,hi.numsOf]
   have hp:0 < ys.size:=by
    rw[← Array.length_toList,← List.length_map (f:=(·.1)),hn]
    cases is with
    | nil=>cases h4
    | cons _ _=>exact Nat.succ_pos _
   refine Does.leaf sr fun Q E k=>max_intList hh ⟨o,e1,e2,n,e3⟩ hp fun v h' tk hv hk=>?_
   obtain⟨t,rfl⟩:=intItems_at hv
   obtain⟨g1,g2⟩:=argBest_gt (numAt ys) (ys.size - 1)
   have hl:is.length=ys.size:=by rw[← hn,List.length_map,Array.length_toList]
   have hM:numAt ys (argBest (fun i j=>decide (numAt ys i > numAt ys j)) (ys.size - 1))=M:=zj2 h4 (by rw[numAt_eq,hn];exact getD_mem (by omega)) fun b hb=>by
    obtain⟨j,hj,rfl⟩:=mem_getD hb
    rw[← hn,← numAt_eq];exact g2 j (by omega)
   rw[hM]
   exact k _ _ (xf hk) VR.int
end
theorem zqb{cx:Cx}{x:Expr}{a:CE}{q ps:Pos}(h1:JE cx x a)(hg:cx.isGlob "max" = true):JE cx (.Call (.Name "max" ps) [x] [] q) (.maxL a):=
 ⟨rfl,fun {G A P F s β ρ O} hr sr=>by
   show Does G F A s β _ (R.lift ρ (if P.hd=true then .stuck else _:R za V)) _
   by_cases hd:P.hd=true
   ·rw[if_pos hd];trivial
   rw[if_neg hd]
   exact zn3 (fv:=.builtin "max") hr.run.g sr hr.fit hg (by decide) (.inl ⟨_,rfl⟩) h1.px.star (h1.d hr sr) fun s' β' v d O' sr' rv=>zta (hr.run.hm (Bool.eq_false_iff.mpr hd)) sr' rv⟩
section
variable{G:Gl}{F:Fm}{A:Around}{s:Shared}{β:List Addr}{ρ:Loc}{O:za}{cx:Cx}
end
noncomputable def zsa(f:List PyData→Option PyData):PyData→Option PyData
 | .tuple xs=>f xs
 | _=>none
noncomputable def zmj(xs:List PyData)(lo hi:PyData):Option PyData:=if xs.length≤line then (clip xs.length 0 lo).bind fun l=>(clip xs.length xs.length hi).map fun h=>.tuple (vv xs l h) else none
noncomputable def ztq(v l h:V)(O:za):R za V:=match l with
 | .d l=>(match h with
    | .d h=>opt (((look O v).bind (zsa fun xs=>zmj xs l h)).map .d) O
    | _=>.stuck)
 | _=>.stuck
section
variable{G:Gl}{F:Fm}{A:Around}{s:Shared}{β:List Addr}{ρ:Loc}{O:za}
end
section
variable{cx:Cx}{x y:Expr}{a b c:CE}{p q ps:Pos}
end
noncomputable def zlx(i j k:Nat)(v:V)(S:Loc×za):R (Loc×za) Fl:=match v with
 | .d (.tuple [x,y,z])=>if i < S.1.length∧j < S.1.length∧k < S.1.length then .ok .next (((S.1.set i (some (.d x))).set j (some (.d y))).set k (some (.d z)),S.2) else .stuck
 | _=>.stuck
noncomputable def CS.asg3(i j k:Nat)(e:CE):CS:=fun P ρ O=>if P.hd=true then .stuck else ((evE P ρ e O).lift ρ).bind (zlx i j k)
theorem zsf{α:Type}{l:List α}{a b c:α}(hl:l.length=3)(h0:l[0]?=some a)(h1:l[1]?=some b)(h2:l[2]?=some c):l=[a,b,c]:=by
 cases l with
 | nil=>cases h0
 | cons x l=>
   cases l with
   | nil=>cases h1
   | cons y l=>
     cases l with
     | nil=>cases h2
     | cons z l=>
       rw[List.eq_nil_of_length_eq_zero (Nat.succ.inj (Nat.succ.inj (Nat.succ.inj hl))),Option.some.inj h0,Option.some.inj h1,Option.some.inj h2]
inductive R3(h:Heap)(P:Addr→Prop)(vs:List Value)(x y z:PyData):Prop
 | mk (v1 v2 v3:Value) (b1 b2 b3:List Addr) (hv:vs=[v1,v2,v3]) (r1:Reads h v1 x b1) (q1:∀ a∈b1,P a) (r2:Reads h v2 y b2) (q2:∀ a∈b2,P a) (r3:Reads h v3 z b3) (q3:∀ a∈b3,P a)
theorem gr{h:Heap}{P:Addr→Prop}{vs:List Value}{x y z:PyData}{as:List Addr}(r:ReadsAll h vs [x,y,z] as)(q:∀ a∈as,P a):R3 h P vs x y z:=by
 obtain⟨v1,b1,e1,r1,q1⟩:=zr r q (i:=0) rfl
 obtain⟨v2,b2,e2,r2,q2⟩:=zr r q (i:=1) rfl
 obtain⟨v3,b3,e3,r3,q3⟩:=zr r q (i:=2) rfl
 refine⟨v1,v2,v3,b1,b2,b3,?_,r1,q1,r2,q2,r3,q3⟩
 exact zsf (zf r) e1 e2 e3
set_option tactic.hygienic true in
theorem zpt{cx:Cx}{x:Expr}{a:CE}{p ps pa pb pc:Pos}{kt i j k:Nat}{na nb nc:Str}(h:JE cx x a)(hx:(chkT cx (ownOf cx.sc) (.name i) (.Name na pa) && chkT cx (ownOf cx.sc) (.name j) (.Name nb pb) && chkT cx (ownOf cx.sc) (.name k) (.Name nc pc) && unpX x)=true) :
 JS cx (.Assign [.Tuple [.Name na pa,.Name nb pb,.Name nc pc] kt ps] x p) (.asg3 i j k a):=⟨fun {G A P F s β ρ O} hr sr=>by
 obtain⟨hx,h2⟩:=and2 hx
 obtain⟨ha,hb,hc⟩:=and3 hx
 show Does G F A s β _ (if P.hd=true then .stuck else _:R (Loc×za) Fl) _
 by_cases hd:P.hd=true
 ·rw[if_pos hd];trivial
 rw[if_neg hd]
 have e:=zc6 (l:=[.Name na pa,.Name nb pb,.Name nc pc]) (k:=kt) (n:=p.line) (ps:=ps) (env:=F.env) h2
 have hh:=hr.run.hm (Bool.eq_false_iff.mpr hd)
 refine DoesW.seq (T₂:=fun v Q E s'=>wpAny (model G.prog G.w) A (assign (.Tuple [.Name na pa,.Name nb pb,.Name nc pc] kt ps) F.env v) (fun _=>Q .next) E s') (fun Q E h=>Assign_Tuple h e.1 e.2) (h.d hr.toHere sr) fun s' β' v d S e st sr rv=>?_
 cases d <;> first | trivial | skip
 rename_i z
 cases z <;> first | trivial | skip
 rename_i l
 match l,rv with
 | [y1,y2,y3],rv=>
   by_cases hl:i < S.1.length∧j < S.1.length∧k < S.1.length
   ·show DoesW G F s' β' _ (if i < S.1.length∧j < S.1.length∧k < S.1.length then _ else _) _
    rw[if_pos hl]
    intro Q E kk
    obtain⟨a,o,vs,n,rfl,g1,g2,g3,as,r,q⟩:=rv.tuple_inv
    obtain⟨v1,v2,v3,b1,b2,b3,hvs,r1,q1,r2,q2,r3,q3⟩:=gr r q
    have hsz:vs.size=3:=by rw[← Array.length_toList,hvs];rfl
    refine wd (M:=model G.prog G.w) hh g1 (.inl g2) g3 (by rw[hsz];rfl) rfl fun s₁ ka=>?_
    show wpAny _ A (assignInOrder [assign (.Name na pa) F.env,assign (.Name nb pb) F.env,assign (.Name nc pc) F.env] vs.toList) _ _ s₁
    rw[hvs]
    have da:=xy (A:=A) hh hr.fit hr.own (.name i) ha (sr.keepAll ka.kept) (v:=v1) (d:=.d y1) ⟨b1,z6 ka.kept r1,q1⟩
    unfold bindR zt at da
    dsimp only at da
    rw[if_pos hl.1] at da
    refine assignInOrder_cons (da _ _ fun s₂ β₂ _ st₂ sr₂ _=>?_)
    have db:=xy (A:=A) hh hr.fit hr.own (.name j) hb sr₂ (v:=v2) (d:=.d y2) (VR.step (sr.keepAll ka.kept).br (sr.keepAll ka.kept).fm st₂ ⟨b2,z6 ka.kept r2,q2⟩)
    unfold bindR zt at db
    dsimp only at db
    rw[if_pos (by rw[List.length_set];exact hl.2.1)] at db
    refine assignInOrder_cons (db _ _ fun s₃ β₃ _ st₃ sr₃ _=>?_)
    have dc:=xy (A:=A) hh hr.fit hr.own (.name k) hc sr₃ (v:=v3) (d:=.d y3) (VR.step (sr.keepAll ka.kept).br (sr.keepAll ka.kept).fm (st₂.trans st₃) ⟨b3,z6 ka.kept r3,q3⟩)
    unfold bindR zt at dc
    dsimp only at dc
    rw[if_pos (by rw[List.length_set,List.length_set];exact hl.2.2)] at dc
    refine assignInOrder_cons (dc _ _ fun s₄ β₄ _ st₄ sr₄ _=>?_)
    exact assignInOrder_nil (kk s₄ β₄ .next ((ka.step _ _).trans ((st₂.trans st₃).trans st₄)) sr₄ rfl)
   ·show DoesW G F s' β' _ (if i < S.1.length∧j < S.1.length∧k < S.1.length then _ else _) _
    rw[if_neg hl];trivial
 | [],_=>trivial
 | [_],_=>trivial
 | [_,_],_=>trivial
 | _::_::_::_::_,_=>trivial⟩
section
variable{G:Gl}{F:Fm}{A:Around}{s:Shared}{β:List Addr}{ρ:Loc}{O:za}
end
theorem zhu{cx:Cx}{x y:Expr}{a b:CE}{p:Pos}(h1:JE cx x a)(h2:JE cx y b):JT cx (.Compare x [.NotIn] [y] p) (.notinM a b):=⟨fun {G A P F s β ρ O} hr sr=>by
 have e:tv (evE P ρ (.notinM a b) O)=(evE P ρ a O).bind fun v O=>(evE P ρ b O).bind fun u O=>(Mine.notinM v u O).bind fun c O=>opt (truth c) O:=by
  show tv ((evE P ρ a O).bind fun v O=>(evE P ρ b O).bind fun u O=>Mine.notinM v u O)=_
  cases evE P ρ a O with
  | ok v O=>show R.bind (R.bind (evE P ρ b O) _) _=R.bind (evE P ρ b O) _;cases evE P ρ b O <;> rfl
  | stuck=>rfl
 rw[e]
 refine DoesW.seqE (T₂:=fun a Q E s₁=>wpAny (model G.prog G.w) A (eval y F.env) (fun b s₂=>wpAny (model G.prog G.w) A (compareOp .NotIn a b) (fun c s₃=>wpAny (model G.prog G.w) A (truthy c) Q E s₃) E s₂) E s₁) (fun Q E h=>wpAny_isTrue_Compare1 h (xm h2.px.set .NotIn)) (h1.d hr sr) fun s' β' v d O' e st sr rv=>?_
 refine DoesW.seqE (T₁:=tr G A (eval y F.env)) (T₂:=fun b Q E s₂=>wpAny (model G.prog G.w) A (compareOp .NotIn v b) (fun c s₃=>wpAny (model G.prog G.w) A (truthy c) Q E s₃) E s₂) (fun Q E h=>h) (h2.d hr sr) fun s₂ β₂ u d₂ O₂ e₂ st₂ sr₂ ru=>?_
 refine DoesW.seqE (T₁:=tr G A (compareOp .NotIn v u)) (T₂:=fun c=>tr G A (truthy c)) (fun Q E h=>h) (zlk hr.run.ro sr₂ (rv.step sr.br sr.fm st₂) ru) fun s₃ β₃ c d₃ O₃ e₃ st₃ sr₃ rc=>?_
 exact jf sr₃ rc⟩
noncomputable def badP(xs:List PyData):Prop:=xs=[.none,.none]∨∃ a l,xs=[a,.list l]
noncomputable def badF(xs:List PyData):Prop:=xs=[.none,.none]∨∃ l a,xs=[.list l,a]
noncomputable def badH(xs:List PyData):Prop:=xs=[.none,.none]∨∃ a b o y,xs=[.tuple [.tuple a,.tuple b],.tuple [.int o,y]]
end Mine
end
section
namespace Mine.L07
open PySem Mine
noncomputable def c0:Fn:=⟨3,3,false,(.cons (.ret (.and_ (.prim (.isinst .int) (.cons (.loc 0) .nil)) (.and_ (.nt (.prim (.isinst .bool) (.cons (.loc 0) .nil))) (.chain .le .le (.loc 1) (.loc 0) (.loc 2))))) .nil)⟩
noncomputable def c1:Fn:=⟨1,1,false,(.cons (.ife (.nt (.call 0 (.cons (.loc 0) (.cons (.glob 0) (.cons (.glob 1) .nil))))) .stuck .nil) .nil)⟩
noncomputable def c2:Fn:=⟨2,3,false,(.cons (.ret (.and_ (.prim (.isinst .tuple) (.cons (.loc 1) .nil)) (.and_ (.cmp .eq (.prim .len (.cons (.loc 1) .nil)) (.loc 0)) (.prim .all (.cons (.comp (.call 0 (.cons (.loc 2) (.cons (.neg (.int 1)) (.cons (.int 1) .nil)))) (.name 2) (.e (.loc 1)) .nil) .nil))))) .nil)⟩
noncomputable def c3:Fn:=⟨2,3,false,(.cons (.expr (.call 1 (.cons (.loc 0) .nil))) (.cons (.ife (.or_ (.nt (.prim (.isinst .list) (.cons (.loc 1) .nil))) (.nt (.chain .le .le (.int 1) (.prim .len (.cons (.loc 1) .nil)) (.glob 2)))) .stuck .nil) (.cons (.ife (.nt (.prim .all (.cons (.comp (.call 2 (.cons (.loc 0) (.cons (.loc 2) .nil))) (.name 2) (.e (.loc 1)) .nil) .nil))) .stuck .nil) (.cons (.ife (.cmp .lt (.lenS (.loc 1)) (.prim .len (.cons (.loc 1) .nil))) .stuck .nil) .nil))))⟩
noncomputable def c4:Fn:=⟨2,4,false,(.cons (.ife (.or_ (.nt (.prim (.isinst .tuple) (.cons (.loc 1) .nil))) (.or_ (.cmp .eq (.prim .len (.cons (.loc 1) .nil)) (.int 0)) (.nt (.prim .all (.cons (.comp (.call 0 (.cons (.loc 2) (.cons (.int 0) (.cons (.bin .sub (.loc 0) (.int 1)) .nil)))) (.name 2) (.e (.loc 1)) .nil) .nil))))) (.cons (.ret (.bool false)) .nil) .nil) (.cons (.ret (.prim .all (.cons (.comp (.cmp .lt (.idx (.loc 1) (.bin .sub (.loc 3) (.int 1))) (.idx (.loc 1) (.loc 3))) (.name 3) (.range (.int 1) (.prim .len (.cons (.loc 1) .nil))) .nil) .nil))) .nil))⟩
noncomputable def c5:Fn:=⟨2,5,false,(.cons (.ife (.or_ (.nt (.prim (.isinst .tuple) (.cons (.loc 1) .nil))) (.cmp .ne (.prim .len (.cons (.loc 1) .nil)) (.int 2))) (.cons (.ret (.bool false)) .nil) .nil) (.cons (.asg (.two (.name 2) (.name 3)) (.loc 1)) (.cons (.ife (.or_ (.nt (.call 4 (.cons (.loc 0) (.cons (.loc 2) .nil)))) (.or_ (.nt (.call 4 (.cons (.loc 0) (.cons (.loc 3) .nil)))) (.cmp .ne (.prim .len (.cons (.loc 2) .nil)) (.prim .len (.cons (.loc 3) .nil))))) (.cons (.ret (.bool false)) .nil) .nil) (.cons (.ret (.nt (.prim .any (.cons (.comp (.cmp .in_ (.loc 4) (.loc 3)) (.name 4) (.e (.loc 2)) .nil) .nil)))) .nil))))⟩
noncomputable def c6:Fn:=⟨1,4,false,(.cons (.asg (.name 1) (.list (.cons (.tup .nil) .nil))) (.cons (.for_ (.name 2) (.e (.loc 0)) (.cons (.asg (.name 1) (.bin .add (.loc 1) (.comp (.bin .add (.loc 3) (.tup (.cons (.loc 2) .nil))) (.name 3) (.e (.loc 1)) .nil))) .nil)) (.cons (.ret (.loc 1)) .nil)))⟩
noncomputable def c7:Fn:=⟨1,5,false,(.cons (.asg (.name 1) (.call 6 (.cons (.listI (.range (.int 0) (.loc 0))) .nil))) (.cons (.asg (.name 2) (.boxed (.list .nil))) (.cons (.for_ (.name 3) (.e (.loc 1)) (.cons (.for_ (.name 4) (.e (.loc 1)) (.cons (.ife (.and_ (.call 5 (.cons (.loc 0) (.cons (.tup (.cons (.loc 3) (.cons (.loc 4) .nil))) .nil))) (.cmp .lt (.idx (.loc 3) (.int 0)) (.idx (.loc 4) (.int 0)))) (.cons (.expr (.meth .append (.loc 2) (.cons (.tup (.cons (.loc 3) (.cons (.loc 4) .nil))) .nil))) .nil) .nil) .nil)) .nil)) (.cons (.ret (.prim .sorted (.cons (.loc 2) .nil))) .nil))))⟩
noncomputable def c8:Fn:=⟨2,7,false,(.cons (.asg (.two (.name 2) (.name 3)) (.loc 0)) (.cons (.asg (.name 4) (.bin .sub (.prim .sum (.cons (.comp (.idx (.loc 1) (.loc 5)) (.name 5) (.e (.loc 2)) .nil) .nil)) (.prim .sum (.cons (.comp (.idx (.loc 1) (.loc 6)) (.name 6) (.e (.loc 3)) .nil) .nil)))) (.cons (.ife (.cmp .gt (.loc 4) (.int 0)) (.cons (.ret (.int 1)) .nil) .nil) (.cons (.ret (.ite (.cmp .lt (.loc 4) (.int 0)) (.neg (.int 1)) (.int 0))) .nil))))⟩
noncomputable def c9:Fn:=⟨2,5,false,(.cons (.asg (.name 2) (.boxed (.list .nil))) (.cons (.for_ (.name 3) (.e (.glob 3)) (.cons (.expr (.meth .append (.loc 2) (.cons (.comp (.loc 4) (.name 4) (.e (.loc 1)) (.cons (.cmp .eq (.call 8 (.cons (.loc 0) (.cons (.loc 4) .nil))) (.loc 3)) .nil)) .nil))) .nil)) (.cons (.ret (.loc 2)) .nil)))⟩
noncomputable def c10:Fn:=⟨1,3,false,(.cons (.asg (.name 1) (.int 1)) (.cons (.for_ (.name 2) (.range (.int 0) (.loc 0)) (.cons (.asg (.name 1) (.bin .mul (.loc 1) (.int 3))) .nil)) (.cons (.ret (.loc 1)) .nil)))⟩
noncomputable def c11:Fn:=⟨4,9,false,(.cons (.ife (.cmp .eq (.loc 3) (.tup (.cons (.str (Str.ofString "many")) .nil))) (.cons (.ret (.cmp .gt (.prim .len (.cons (.loc 1) .nil)) (.call 10 (.cons (.loc 2) .nil)))) .nil) .nil) (.cons (.ife (.or_ (.nt (.prim (.isinst .tuple) (.cons (.loc 3) .nil))) (.or_ (.cmp .ne (.prim .len (.cons (.loc 3) .nil)) (.int 2)) (.or_ (.cmp .ne (.idx (.loc 3) (.int 0)) (.str (Str.ofString "each"))) (.cmp .eq (.loc 2) (.int 0))))) (.cons (.ret (.bool false)) .nil) .nil) (.cons (.asg (.name 4) (.idx (.loc 3) (.int 1))) (.cons (.ife (.or_ (.nt (.prim (.isinst .tuple) (.cons (.loc 4) .nil))) (.cmp .ne (.prim .len (.cons (.loc 4) .nil)) (.prim .len (.cons (.loc 0) .nil)))) (.cons (.ret (.bool false)) .nil) .nil) (.cons (.forG badH .lst .tup (.two (.name 5) (.name 6)) (.loc 0) (.loc 4) (.cons (.ife (.or_ (.nt (.prim (.isinst .tuple) (.cons (.loc 6) .nil))) (.or_ (.cmp .ne (.prim .len (.cons (.loc 6) .nil)) (.int 2)) (.nt (.call 0 (.cons (.idx (.loc 6) (.int 0)) (.cons (.neg (.int 1)) (.cons (.int 1) .nil))))))) (.cons (.ret (.bool false)) .nil) .nil) (.cons (.asg (.name 7) (.comp (.loc 8) (.name 8) (.e (.loc 1)) (.cons (.cmp .eq (.call 8 (.cons (.loc 5) (.cons (.loc 8) .nil))) (.idx (.loc 6) (.int 0))) .nil))) (.cons (.ife (.nt (.call 11 (.cons (.loc 0) (.cons (.loc 7) (.cons (.bin .sub (.loc 2) (.int 1)) (.cons (.idx (.loc 6) (.int 1)) .nil)))))) (.cons (.ret (.bool false)) .nil) .nil) .nil)))) (.cons (.ret (.bool true)) .nil))))))⟩
noncomputable def c12:Fn:=⟨4,4,false,(.cons (.expr (.call 3 (.cons (.loc 0) (.cons (.loc 1) .nil)))) (.cons (.ife (.nt (.call 0 (.cons (.loc 2) (.cons (.int 0) (.cons (.glob 4) .nil))))) .stuck .nil) (.cons (.ret (.call 11 (.cons (.call 7 (.cons (.loc 0) .nil)) (.cons (.loc 1) (.cons (.loc 2) (.cons (.loc 3) .nil)))))) .nil)))⟩
noncomputable def c13:Fn:=⟨2,2,false,(.cons (.ife (.or_ (.nt (.prim (.isinst .tuple) (.cons (.loc 1) .nil))) (.cmp .ne (.prim .len (.cons (.loc 1) .nil)) (.int 2))) (.cons (.ret (.bool false)) .nil) .nil) (.cons (.ret (.and_ (.call 5 (.cons (.loc 0) (.cons (.idx (.loc 1) (.int 0)) .nil))) (.call 0 (.cons (.idx (.loc 1) (.int 1)) (.cons (.neg (.int 1)) (.cons (.int 1) .nil)))))) .nil))⟩
noncomputable def c14:Fn:=⟨3,7,false,(.cons (.expr (.call 3 (.cons (.loc 0) (.cons (.loc 1) .nil)))) (.cons (.ife (.or_ (.nt (.prim (.isinst .list) (.cons (.loc 2) .nil))) (.or_ (.cmp .gt (.prim .len (.cons (.loc 2) .nil)) (.glob 5)) (.nt (.prim .all (.cons (.comp (.call 13 (.cons (.loc 0) (.cons (.loc 3) .nil))) (.name 3) (.e (.loc 2)) .nil) .nil))))) .stuck .nil) (.cons (.ret (.comp (.loc 4) (.name 4) (.e (.loc 1)) (.cons (.prim .all (.cons (.comp (.cmp .eq (.call 8 (.cons (.loc 5) (.cons (.loc 4) .nil))) (.loc 6)) (.two (.name 5) (.name 6)) (.e (.loc 2)) .nil) .nil)) .nil))) .nil)))⟩
noncomputable def c15:Fn:=⟨3,4,false,(.cons (.ret (.prim .all (.cons (.comp (.cmp .eq (.call 8 (.cons (.loc 3) (.cons (.loc 1) .nil))) (.call 8 (.cons (.loc 3) (.cons (.loc 2) .nil)))) (.name 3) (.e (.loc 0)) .nil) .nil))) .nil)⟩
noncomputable def c16:Fn:=⟨2,5,false,(.cons (.for_ (.two (.name 2) (.name 3)) (.enum (.loc 1)) (.cons (.for_ (.name 4) (.e (.slice (.loc 1) (.bin .add (.loc 2) (.int 1)) .none)) (.cons (.ife (.call 15 (.cons (.loc 0) (.cons (.loc 3) (.cons (.loc 4) .nil)))) (.cons (.ret (.tup (.cons (.loc 3) (.cons (.loc 4) .nil)))) .nil) .nil) .nil)) .nil)) (.cons (.ret .none) .nil))⟩
noncomputable def c17:Fn:=⟨5,10,false,(.cons (.asg (.name 5) (.boxed (.list .nil))) (.cons (.forG badP .tup .lst (.two (.name 6) (.name 7)) (.glob 3) (.call 9 (.cons (.loc 1) (.cons (.loc 2) .nil))) (.cons (.ife (.cmp .eq (.loc 7) (.list .nil)) (.cons (.expr (.meth .append (.loc 5) (.cons .none .nil))) .nil) (.cons (.asg (.two (.name 8) (.name 9)) (.call 19 (.cons (.loc 0) (.cons (.loc 7) (.cons (.bin .sub (.loc 3) (.int 1)) (.cons (.loc 4) .nil)))))) (.cons (.ife (.cmp .eq (.loc 8) (.str (Str.ofString "hold"))) (.cons (.ret (.tup (.cons (.str (Str.ofString "hold")) (.cons (.tup (.cons (.loc 6) (.cons (.loc 9) .nil))) .nil)))) .nil) .nil) (.cons (.expr (.meth .append (.loc 5) (.cons (.loc 9) .nil))) .nil)))) .nil)) (.cons (.ret (.tup (.cons (.str (Str.ofString "plan")) (.cons (.tup (.cons (.str (Str.ofString "weigh")) (.cons (.loc 1) (.cons (.prim .tuple (.cons (.loc 5) .nil)) .nil)))) .nil)))) .nil)))⟩
noncomputable def c18:Fn:=⟨4,8,false,(.cons (.asg (.name 4) (.boxed (.list .nil))) (.cons (.for_ (.name 5) (.e (.loc 0)) (.cons (.asg (.two (.name 6) (.name 7)) (.call 17 (.cons (.loc 0) (.cons (.loc 5) (.cons (.loc 1) (.cons (.loc 2) (.cons (.loc 3) .nil))))))) (.cons (.ife (.cmp .eq (.loc 6) (.str (Str.ofString "plan"))) (.cons (.ret (.tup (.cons (.str (Str.ofString "plan")) (.cons (.loc 7) .nil)))) .nil) .nil) (.cons (.expr (.meth .append (.loc 4) (.cons (.loc 7) .nil))) .nil)))) (.cons (.ret (.tup (.cons (.str (Str.ofString "hold")) (.cons (.tup (.cons (.str (Str.ofString "each")) (.cons (.prim .tuple (.cons (.loc 4) .nil)) .nil))) .nil)))) .nil)))⟩
noncomputable def c19:Fn:=⟨4,5,false,(.cons (.ife (.cmp .eq (.prim .len (.cons (.loc 1) .nil)) (.int 1)) (.cons (.ret (.tup (.cons (.str (Str.ofString "plan")) (.cons (.tup (.cons (.str (Str.ofString "told")) (.cons (.idx (.loc 1) (.int 0)) .nil))) .nil)))) .nil) .nil) (.cons (.ife (.cmp .gt (.prim .len (.cons (.loc 1) .nil)) (.call 10 (.cons (.loc 2) .nil))) (.cons (.ret (.tup (.cons (.str (Str.ofString "hold")) (.cons (.tup (.cons (.str (Str.ofString "many")) .nil)) .nil)))) .nil) .nil) (.cons (.asg (.name 4) (.tup (.cons (.prim .tuple (.cons (.loc 1) .nil)) (.cons (.loc 2) .nil)))) (.cons (.ife (.notinM (.loc 4) (.loc 3)) (.cons (.setM (.loc 3) (.loc 4) (.call 18 (.cons (.loc 0) (.cons (.loc 1) (.cons (.loc 2) (.cons (.loc 3) .nil)))))) .nil) .nil) (.cons (.ret (.getM (.loc 3) (.loc 4))) .nil)))))⟩
noncomputable def c20:Fn:=⟨2,7,false,(.cons (.asg (.name 2) .memo) (.cons (.asg (.name 3) .none) (.cons (.asg (.name 4) (.int 0)) (.cons (.asg (.two (.name 5) (.name 6)) (.call 19 (.cons (.loc 0) (.cons (.loc 1) (.cons (.loc 4) (.cons (.loc 2) .nil)))))) (.cons (.while_ (.cmp .eq (.loc 5) (.str (Str.ofString "hold"))) (.cons (.asg (.name 3) (.loc 6)) (.cons (.asg (.name 4) (.bin .add (.loc 4) (.int 1))) (.cons (.asg (.two (.name 5) (.name 6)) (.call 19 (.cons (.loc 0) (.cons (.loc 1) (.cons (.loc 4) (.cons (.loc 2) .nil)))))) .nil)))) (.cons (.ret (.tup (.cons (.loc 6) (.cons (.loc 3) (.cons (.loc 4) .nil))))) .nil))))))⟩
noncomputable def c21:Fn:=⟨3,9,false,(.cons (.asg (.name 3) (.call 14 (.cons (.loc 0) (.cons (.loc 1) (.cons (.loc 2) .nil))))) (.cons (.asg (.name 4) (.call 7 (.cons (.loc 0) .nil))) (.cons (.ife (.cmp .eq (.loc 3) (.list .nil)) (.cons (.ret (.tup (.cons (.str (Str.ofString "none")) .nil))) .nil) .nil) (.cons (.asg (.name 5) (.call 16 (.cons (.loc 4) (.cons (.loc 3) .nil)))) (.cons (.ife (.cmp .isnot (.loc 5) .none) (.cons (.ret (.tup (.cons (.str (Str.ofString "alike")) (.cons (.idx (.loc 5) (.int 0)) (.cons (.idx (.loc 5) (.int 1)) .nil))))) .nil) .nil) (.cons (.asg3 6 7 8 (.call 20 (.cons (.loc 4) (.cons (.loc 3) .nil)))) (.cons (.ret (.tup (.cons (.str (Str.ofString "plan")) (.cons (.loc 6) (.cons (.loc 7) .nil))))) .nil)))))))⟩
noncomputable def c22:Fn:=⟨3,5,false,(.cons (.asg (.name 3) (.call 14 (.cons (.loc 0) (.cons (.loc 1) (.cons (.loc 2) .nil))))) (.cons (.asg (.name 4) (.call 7 (.cons (.loc 0) .nil))) (.cons (.ife (.or_ (.cmp .eq (.loc 3) (.list .nil)) (.cmp .isnot (.call 16 (.cons (.loc 4) (.cons (.loc 3) .nil))) .none)) (.cons (.ret .none) .nil) .nil) (.cons (.ret (.idx (.call 20 (.cons (.loc 4) (.cons (.loc 3) .nil))) (.int 2))) .nil))))⟩
noncomputable def c23:Fn:=⟨3,5,false,(.cons (.ife (.or_ (.nt (.prim (.isinst .tuple) (.cons (.loc 2) .nil))) (.or_ (.cmp .lt (.prim .len (.cons (.loc 2) .nil)) (.int 2)) (.nt (.prim (.isinst .str) (.cons (.idx (.loc 2) (.int 0)) .nil))))) (.cons (.ret (.bool false)) .nil) .nil) (.cons (.ife (.cmp .eq (.idx (.loc 2) (.int 0)) (.str (Str.ofString "told"))) (.cons (.ret (.and_ (.cmp .eq (.prim .len (.cons (.loc 2) .nil)) (.int 2)) (.and_ (.call 2 (.cons (.loc 0) (.cons (.idx (.loc 2) (.int 1)) .nil))) (.cmp .eq (.loc 1) (.list (.cons (.idx (.loc 2) (.int 1)) .nil)))))) .nil) .nil) (.cons (.ife (.or_ (.cmp .ne (.idx (.loc 2) (.int 0)) (.str (Str.ofString "weigh"))) (.or_ (.cmp .ne (.prim .len (.cons (.loc 2) .nil)) (.int 3)) (.nt (.call 5 (.cons (.loc 0) (.cons (.idx (.loc 2) (.int 1)) .nil)))))) (.cons (.ret (.bool false)) .nil) .nil) (.cons (.ife (.or_ (.nt (.prim (.isinst .tuple) (.cons (.idx (.loc 2) (.int 2)) .nil))) (.cmp .ne (.prim .len (.cons (.idx (.loc 2) (.int 2)) .nil)) (.int 3))) (.cons (.ret (.bool false)) .nil) .nil) (.cons (.forG badF .lst .tup (.two (.name 3) (.name 4)) (.call 9 (.cons (.idx (.loc 2) (.int 1)) (.cons (.loc 1) .nil))) (.idx (.loc 2) (.int 2)) (.cons (.ife (.and_ (.cmp .eq (.loc 3) (.list .nil)) (.cmp .isnot (.loc 4) .none)) (.cons (.ret (.bool false)) .nil) .nil) (.cons (.ife (.and_ (.cmp .ne (.loc 3) (.list .nil)) (.nt (.call 23 (.cons (.loc 0) (.cons (.loc 3) (.cons (.loc 4) .nil)))))) (.cons (.ret (.bool false)) .nil) .nil) .nil))) (.cons (.ret (.bool true)) .nil))))))⟩
noncomputable def c24:Fn:=⟨3,3,false,(.cons (.expr (.call 3 (.cons (.loc 0) (.cons (.loc 1) .nil)))) (.cons (.ret (.call 23 (.cons (.loc 0) (.cons (.loc 1) (.cons (.loc 2) .nil))))) .nil))⟩
noncomputable def c25:Fn:=⟨1,2,false,(.cons (.ife (.cmp .eq (.idx (.loc 0) (.int 0)) (.str (Str.ofString "told"))) (.cons (.ret (.int 0)) .nil) .nil) (.cons (.ret (.bin .add (.int 1) (.maxL (.comp (.call 25 (.cons (.loc 1) .nil)) (.name 1) (.e (.idx (.loc 0) (.int 2))) (.cons (.cmp .isnot (.loc 1) .none) .nil))))) .nil))⟩
noncomputable def c26:Fn:=⟨2,2,false,(.cons (.ife (.cmp .lt (.loc 1) (.prim .len (.cons (.loc 0) .nil))) (.cons (.ret (.idx (.loc 0) (.loc 1))) .nil) .nil) (.cons (.ret (.int 0)) .nil))⟩
noncomputable def c27:Fn:=⟨2,2,false,(.cons (.ret (.bin .fdiv (.bin .mod (.bin .mul (.bin .add (.bin .add (.call 26 (.cons (.loc 0) (.cons (.loc 1) .nil))) (.bin .mul (.int 7919) (.loc 1))) (.int 13)) (.int 48271)) (.int 2147483647)) (.int 3))) .nil)⟩
noncomputable def c28:Fn:=⟨1,1,false,(.cons (.ret (.and_ (.prim (.isinst .int) (.cons (.loc 0) .nil)) (.nt (.prim (.isinst .bool) (.cons (.loc 0) .nil))))) .nil)⟩
noncomputable def c29:Fn:=⟨2,4,false,(.cons (.asg (.name 2) (.int 0)) (.cons (.for_ (.name 3) (.e (.idx (.loc 0) (.int 0))) (.cons (.asg (.name 2) (.bin .add (.loc 2) (.idx (.loc 1) (.loc 3)))) .nil)) (.cons (.for_ (.name 3) (.e (.idx (.loc 0) (.int 1))) (.cons (.asg (.name 2) (.bin .sub (.loc 2) (.idx (.loc 1) (.loc 3)))) .nil)) (.cons (.ret (.ite (.cmp .gt (.loc 2) (.int 0)) (.int 1) (.ite (.cmp .lt (.loc 2) (.int 0)) (.neg (.int 1)) (.int 0)))) .nil))))⟩
noncomputable def c30:Fn:=⟨1,9,false,(.cons (.asg (.name 1) (.boxed (.list .nil))) (.cons (.for_ (.name 2) (.range (.int 0) (.idx (.list (.cons (.int 9) (.cons (.int 27) (.cons (.int 81) (.cons (.int 243) .nil))))) (.bin .sub (.loc 0) (.int 2)))) (.cons (.asg (.name 3) (.comp (.bin .mod (.bin .fdiv (.loc 2) (.idx (.list (.cons (.int 1) (.cons (.int 3) (.cons (.int 9) (.cons (.int 27) (.cons (.int 81) .nil)))))) (.loc 6))) (.int 3)) (.name 6) (.range (.int 0) (.loc 0)) .nil)) (.cons (.asg (.name 4) (.prim .tuple (.cons (.comp (.loc 7) (.name 7) (.range (.int 0) (.loc 0)) (.cons (.cmp .eq (.idx (.loc 3) (.loc 7)) (.int 1)) .nil)) .nil))) (.cons (.asg (.name 5) (.prim .tuple (.cons (.comp (.loc 8) (.name 8) (.range (.int 0) (.loc 0)) (.cons (.cmp .eq (.idx (.loc 3) (.loc 8)) (.int 2)) .nil)) .nil))) (.cons (.ife (.and_ (.cmp .eq (.prim .len (.cons (.loc 4) .nil)) (.prim .len (.cons (.loc 5) .nil))) (.and_ (.cmp .ne (.loc 4) (.tup .nil)) (.cmp .lt (.idx (.loc 4) (.int 0)) (.idx (.loc 5) (.int 0))))) (.cons (.expr (.meth .append (.loc 1) (.cons (.tup (.cons (.loc 4) (.cons (.loc 5) .nil))) .nil))) .nil) .nil) .nil))))) (.cons (.ret (.prim .sorted (.cons (.loc 1) .nil))) .nil)))⟩
noncomputable def c31:Fn:=⟨2,6,false,(.cons (.asg (.name 2) (.boxed (.list .nil))) (.cons (.for_ (.name 3) (.range (.int 0) (.loc 0)) (.cons (.for_ (.name 4) (.range (.int 0) (.loc 0)) (.cons (.asg (.name 5) (.boxed (.bin .mul (.list (.cons (.int 0) .nil)) (.loc 0)))) (.cons (.setI (.loc 5) (.loc 3) (.idx (.list (.cons (.int 1) (.cons (.neg (.int 1)) (.cons (.idx (.list (.cons (.int 1) (.cons (.neg (.int 1)) .nil))) (.bin .mod (.loc 4) (.int 2))) (.cons (.int 1) (.cons (.int 1) .nil)))))) (.loc 1))) (.cons (.ife (.and_ (.cmp .gt (.loc 1) (.int 2)) (.cmp .ne (.loc 3) (.loc 4))) (.cons (.setI (.loc 5) (.loc 4) (.idx (.list (.cons (.int 1) (.cons (.neg (.int 1)) .nil))) (.bin .sub (.loc 1) (.int 3)))) .nil) .nil) (.cons (.ife (.and_ (.cmp .notin (.prim .tuple (.cons (.loc 5) .nil)) (.loc 2)) (.or_ (.cmp .lt (.loc 1) (.int 3)) (.cmp .ne (.loc 3) (.loc 4)))) (.cons (.expr (.meth .append (.loc 2) (.cons (.prim .tuple (.cons (.loc 5) .nil)) .nil))) .nil) .nil) .nil))))) .nil)) (.cons (.ife (.cmp .eq (.loc 1) (.int 2)) (.cons (.expr (.meth .append (.loc 2) (.cons (.bin .mul (.tup (.cons (.int 0) .nil)) (.loc 0)) .nil))) .nil) .nil) (.cons (.ret (.loc 2)) .nil))))⟩
noncomputable def c32:Fn:=⟨3,12,false,(.cons (.asg (.name 3) (.call 27 (.cons (.loc 0) (.cons (.loc 1) .nil)))) (.cons (.asg (.name 4) (.min2 (.loc 2) (.idx (.list (.cons (.int 2) (.cons (.int 3) (.cons (.int 3) (.cons (.int 4) (.cons (.int 4) (.cons (.int 5) .nil))))))) (.bin .mod (.loc 3) (.int 6))))) (.cons (.asg (.name 5) (.idx (.list (.cons (.int 9) (.cons (.int 12) (.cons (.int 8) (.cons (.int 5) .nil))))) (.bin .sub (.loc 4) (.int 2)))) (.cons (.asg (.name 6) (.boxed (.list .nil))) (.cons (.for_ (.name 7) (.range (.int 0) (.int 12)) (.cons (.asg (.name 8) (.call 27 (.cons (.loc 0) (.cons (.bin .add (.bin .add (.loc 1) (.int 1)) (.loc 7)) .nil)))) (.cons (.expr (.meth .append (.loc 6) (.cons (.prim .tuple (.cons (.comp (.bin .sub (.bin .mod (.bin .fdiv (.loc 8) (.idx (.list (.cons (.int 1) (.cons (.int 3) (.cons (.int 9) (.cons (.int 27) (.cons (.int 81) .nil)))))) (.loc 11))) (.int 3)) (.int 1)) (.name 11) (.range (.int 0) (.loc 4)) .nil) .nil)) .nil))) .nil))) (.cons (.ife (.cmp .gt (.bin .mod (.bin .fdiv (.loc 3) (.int 6)) (.int 6)) (.int 0)) (.cons (.asg (.name 6) (.call 31 (.cons (.loc 4) (.cons (.bin .sub (.bin .mod (.bin .fdiv (.loc 3) (.int 6)) (.int 6)) (.int 1)) .nil)))) .nil) .nil) (.cons (.asg (.name 9) (.boxed (.list .nil))) (.cons (.asg (.name 8) (.bin .fdiv (.loc 3) (.int 36))) (.cons (.ife (.and_ (.cmp .gt (.loc 4) (.int 3)) (.and_ (.cmp .eq (.bin .mod (.bin .fdiv (.loc 8) (.int 256)) (.int 4)) (.int 1)) (.cmp .gt (.bin .mod (.bin .fdiv (.loc 3) (.int 6)) (.int 6)) (.int 0)))) (.cons (.asg (.name 5) (.int 12)) .nil) .nil) (.cons (.for_ (.name 7) (.range (.int 0) (.idx (.list (.cons (.bin .add (.int 1) (.bin .mod (.loc 8) (.loc 5))) (.cons (.loc 5) .nil))) (.prim .int (.cons (.and_ (.cmp .eq (.loc 5) (.int 12)) (.cmp .gt (.loc 4) (.int 3))) .nil)))) (.cons (.asg (.name 10) (.idx (.loc 6) (.bin .mod (.bin .add (.bin .fdiv (.loc 8) (.int 8)) (.bin .mul (.loc 7) (.bin .add (.int 1) (.bin .mod (.bin .fdiv (.loc 8) (.int 64)) (.int 2))))) (.prim .len (.cons (.loc 6) .nil))))) (.cons (.ife (.cmp .notin (.loc 10) (.loc 9)) (.cons (.expr (.meth .append (.loc 9) (.cons (.loc 10) .nil))) .nil) .nil) .nil))) (.cons (.ret (.tup (.cons (.loc 4) (.cons (.loc 9) .nil)))) .nil)))))))))))⟩
noncomputable def c33:Fn:=⟨4,13,false,(.cons (.asg (.name 4) (.call 27 (.cons (.loc 0) (.cons (.loc 1) .nil)))) (.cons (.asg (.name 5) (.call 30 (.cons (.loc 2) .nil))) (.cons (.asg (.name 6) (.boxed (.list .nil))) (.cons (.for_ (.name 7) (.range (.int 0) (.idx (.list (.cons (.int 0) (.cons (.int 0) (.cons (.int 1) (.cons (.int 2) (.cons (.int 3) .nil)))))) (.bin .mod (.loc 4) (.int 5)))) (.cons (.asg (.name 8) (.call 27 (.cons (.loc 0) (.cons (.bin .add (.bin .add (.loc 1) (.int 1)) (.loc 7)) .nil)))) (.cons (.asg (.two (.name 9) (.name 10)) (.idx (.loc 5) (.bin .mod (.loc 8) (.prim .len (.cons (.loc 5) .nil))))) (.cons (.asg (.name 11) (.idx (.list (.cons (.tup (.cons (.loc 9) (.cons (.loc 10) .nil))) (.cons (.tup (.cons (.loc 10) (.cons (.loc 9) .nil))) .nil))) (.bin .mod (.bin .fdiv (.loc 8) (.int 32)) (.int 2)))) (.cons (.asg (.name 12) (.call 29 (.cons (.loc 11) (.cons (.idx (.loc 3) (.bin .mod (.bin .fdiv (.loc 4) (.int 5)) (.prim .len (.cons (.loc 3) .nil)))) .nil)))) (.cons (.ife (.cmp .eq (.bin .mod (.bin .fdiv (.loc 8) (.int 64)) (.int 8)) (.int 1)) (.cons (.asg (.name 12) (.bin .sub (.bin .mod (.bin .fdiv (.loc 8) (.int 512)) (.int 3)) (.int 1))) .nil) .nil) (.cons (.expr (.meth .append (.loc 6) (.cons (.tup (.cons (.loc 11) (.cons (.loc 12) .nil))) .nil))) .nil))))))) (.cons (.ret (.loc 6)) .nil)))))⟩
noncomputable def c34:Fn:=⟨2,5,false,(.cons (.ret (.comp (.loc 2) (.name 2) (.e (.loc 0)) (.cons (.cmp .eq (.comp (.int 1) (.two (.name 3) (.name 4)) (.e (.loc 1)) (.cons (.cmp .ne (.call 29 (.cons (.loc 3) (.cons (.loc 2) .nil))) (.loc 4)) .nil)) (.list .nil)) .nil))) .nil)⟩
noncomputable def c35:Fn:=⟨3,4,false,(.cons (.ret (.cmp .eq (.comp (.loc 3) (.name 3) (.e (.loc 0)) (.cons (.cmp .ne (.call 29 (.cons (.loc 3) (.cons (.loc 1) .nil))) (.call 29 (.cons (.loc 3) (.cons (.loc 2) .nil)))) .nil)) (.list .nil))) .nil)⟩
noncomputable def c36:Fn:=⟨2,4,false,(.cons (.for_ (.name 2) (.range (.int 0) (.prim .len (.cons (.loc 1) .nil))) (.cons (.for_ (.name 3) (.e (.slice (.loc 1) .none (.loc 2))) (.cons (.ife (.call 35 (.cons (.loc 0) (.cons (.idx (.loc 1) (.loc 2)) (.cons (.loc 3) .nil)))) (.cons (.ret (.bool true)) .nil) .nil) .nil)) .nil)) (.cons (.ret (.bool false)) .nil))⟩
noncomputable def c37:Fn:=⟨1,3,false,(.cons (.asg (.name 1) (.int 1)) (.cons (.for_ (.name 2) (.range (.int 0) (.loc 0)) (.cons (.asg (.name 1) (.bin .mul (.int 3) (.loc 1))) .nil)) (.cons (.ret (.loc 1)) .nil)))⟩
noncomputable def c38:Fn:=⟨3,8,false,(.cons (.ife (.cmp .lt (.prim .len (.cons (.loc 1) .nil)) (.int 2)) (.cons (.ret (.bool true)) .nil) .nil) (.cons (.ife (.or_ (.cmp .eq (.loc 2) (.int 0)) (.cmp .gt (.prim .len (.cons (.loc 1) .nil)) (.call 37 (.cons (.loc 2) .nil)))) (.cons (.ret (.bool false)) .nil) .nil) (.cons (.for_ (.name 3) (.e (.loc 0)) (.cons (.asg (.name 4) (.comp (.comp (.loc 6) (.name 6) (.e (.loc 1)) (.cons (.cmp .eq (.call 29 (.cons (.loc 3) (.cons (.loc 6) .nil))) (.loc 5)) .nil)) (.name 5) (.e (.list (.cons (.neg (.int 1)) (.cons (.int 0) (.cons (.int 1) .nil))))) .nil)) (.cons (.ife (.and_ (.cmp .notin (.loc 1) (.loc 4)) (.prim .all (.cons (.comp (.call 38 (.cons (.loc 0) (.cons (.loc 7) (.cons (.bin .sub (.loc 2) (.int 1)) .nil)))) (.name 7) (.e (.loc 4)) .nil) .nil))) (.cons (.ret (.bool true)) .nil) .nil) .nil))) (.cons (.ret (.bool false)) .nil))))⟩
noncomputable def c39:Fn:=⟨1,11,false,(.cons (.asg (.two (.name 1) (.name 2)) (.call 32 (.cons (.loc 0) (.cons (.int 6) (.cons (.int 4) .nil))))) (.cons (.ife (.cmp .eq (.loc 1) (.int 4)) (.cons (.asg (.name 2) (.slice (.loc 2) .none (.int 4))) .nil) .nil) (.cons (.asg (.name 3) (.call 33 (.cons (.loc 0) (.cons (.int 1) (.cons (.loc 1) (.cons (.loc 2) .nil)))))) (.cons (.asg (.name 4) (.call 34 (.cons (.loc 2) (.cons (.loc 3) .nil)))) (.cons (.asg (.name 5) (.call 30 (.cons (.loc 1) .nil))) (.cons (.asg (.name 6) (.call 22 (.cons (.loc 1) (.cons (.prim .list (.cons (.loc 2) .nil)) (.cons (.prim .list (.cons (.loc 3) .nil)) .nil))))) (.cons (.ife (.or_ (.cmp .eq (.loc 4) (.list .nil)) (.call 36 (.cons (.loc 5) (.cons (.loc 4) .nil)))) (.cons (.ret (.and_ (.cmp .is (.loc 6) .none) (.cmp .ne (.idx (.call 21 (.cons (.loc 1) (.cons (.prim .list (.cons (.loc 2) .nil)) (.cons (.prim .list (.cons (.loc 3) .nil)) .nil)))) (.int 0)) (.str (Str.ofString "plan"))))) .nil) .nil) (.cons (.asg (.name 7) (.int 0)) (.cons (.while_ (.nt (.call 38 (.cons (.loc 5) (.cons (.loc 4) (.cons (.loc 7) .nil))))) (.cons (.asg (.name 7) (.bin .add (.loc 7) (.int 1))) .nil)) (.cons (.ife (.or_ (.nt (.call 28 (.cons (.loc 6) .nil))) (.cmp .ne (.loc 6) (.loc 7))) (.cons (.ret (.bool false)) .nil) .nil) (.cons (.asg3 8 9 10 (.call 21 (.cons (.loc 1) (.cons (.prim .list (.cons (.loc 2) .nil)) (.cons (.prim .list (.cons (.loc 3) .nil)) .nil))))) (.cons (.ife (.or_ (.cmp .ne (.loc 8) (.str (Str.ofString "plan"))) (.or_ (.cmp .ne (.call 25 (.cons (.loc 9) .nil)) (.loc 7)) (.cmp .isnot (.call 24 (.cons (.loc 1) (.cons (.prim .list (.cons (.loc 4) .nil)) (.cons (.loc 9) .nil)))) (.bool true)))) (.cons (.ret (.bool false)) .nil) .nil) (.cons (.ife (.cmp .eq (.loc 7) (.int 0)) (.cons (.ret (.cmp .is (.loc 10) .none)) .nil) .nil) (.cons (.ret (.and_ (.cmp .is (.call 12 (.cons (.loc 1) (.cons (.prim .list (.cons (.loc 4) .nil)) (.cons (.bin .sub (.loc 7) (.int 1)) (.cons (.loc 10) .nil))))) (.bool true)) (.cmp .is (.call 12 (.cons (.loc 1) (.cons (.prim .list (.cons (.loc 4) .nil)) (.cons (.loc 7) (.cons (.loc 10) .nil))))) (.bool false)))) .nil))))))))))))))⟩
noncomputable def zqp:List Str:=[("is_among" : Str),("need_count" : Str),("is_case" : Str),("need_cases" : Str),("is_pan" : Str),("is_weighing" : Str),("some_of" : Str),("all_leading" : Str),("came" : Str),("parted" : Str),("threes" : Str),("is_hold_at" : Str),("is_hold" : Str),("is_done" : Str),("still_open" : Str),("are_alike" : Str),("alike_of" : Str),("tried" : Str),("by_each" : Str),("looked" : Str),("found_for" : Str),("told" : Str),("least" : Str),("is_plan_for" : Str),("is_plan" : Str),("length_of" : Str),("_law_cell_at" : Str),("_law_mixed" : Str),("_law_whole" : Str),("_law_came" : Str),("_law_pans" : Str),("_law_pool" : Str),("_law_puzzle" : Str),("_law_done" : Str),("_law_open" : Str),("_law_alike" : Str),("_law_has_alike" : Str),("_law_threes" : Str),("_law_fits" : Str),("law" : Str)]
noncomputable def v9(f:Nat):Option Str:=zqp[f]?
noncomputable def zjl:List (List Str):=[[("thing" : Str),("least" : Str),("most" : Str)],[("many" : Str)],[("many" : Str),("thing" : Str)],[("many" : Str),("cases" : Str)],[("many" : Str),("thing" : Str)],[("many" : Str),("thing" : Str),("left" : Str),("right" : Str)],[("things" : Str),("found" : Str),("one" : Str)],[("many" : Str),("pans" : Str),("found" : Str),("left" : Str),("right" : Str)],[("weighing" : Str),("case" : Str),("left" : Str),("right" : Str),("more" : Str)],[("weighing" : Str),("cases" : Str),("found" : Str),("outcome" : Str)],[("number" : Str),("found" : Str),("turn" : Str)],[("pans" : Str),("cases" : Str),("number" : Str),("thing" : Str),("rows" : Str),("weighing" : Str),("row" : Str),("some" : Str)],[("many" : Str),("cases" : Str),("number" : Str),("thing" : Str)],[("many" : Str),("thing" : Str)],[("many" : Str),("cases" : Str),("done" : Str)],[("pans" : Str),("one" : Str),("other" : Str)],[("pans" : Str),("cases" : Str),("k" : Str),("one" : Str),("other" : Str)],[("pans" : Str),("weighing" : Str),("cases" : Str),("number" : Str),("known" : Str),("parts" : Str),("outcome" : Str),("some" : Str),("word" : Str),("found" : Str)],[("pans" : Str),("cases" : Str),("number" : Str),("known" : Str),("rows" : Str),("weighing" : Str),("word" : Str),("found" : Str)],[("pans" : Str),("cases" : Str),("number" : Str),("known" : Str),("key" : Str)],[("pans" : Str),("cases" : Str),("known" : Str),("hold" : Str),("number" : Str),("word" : Str),("found" : Str)],[("many" : Str),("cases" : Str),("done" : Str),("some" : Str),("pans" : Str),("pair" : Str),("plan" : Str),("hold" : Str),("number" : Str)],[("many" : Str),("cases" : Str),("done" : Str),("some" : Str),("pans" : Str)],[("many" : Str),("cases" : Str),("thing" : Str),("some" : Str),("part" : Str)],[("many" : Str),("cases" : Str),("thing" : Str)],[("plan" : Str)],[("_law_script" : Str),("_law_k" : Str)],[("_law_script" : Str),("_law_k" : Str)],[("_law_found" : Str)],[("_law_weighing" : Str),("_law_case" : Str),("_law_more" : Str),("_law_one" : Str)],[("_law_many" : Str),("_law_found" : Str),("_law_number" : Str),("_law_sides" : Str),("_law_left" : Str),("_law_right" : Str)],[("_law_many" : Str),("_law_kind" : Str),("_law_found" : Str),("_law_one" : Str),("_law_other" : Str),("_law_case" : Str)],[("_law_script" : Str),("_law_at" : Str),("_law_greatest" : Str),("_law_first" : Str),("_law_many" : Str),("_law_most" : Str),("_law_pool_here" : Str),("_law_k" : Str),("_law_number" : Str),("_law_found" : Str),("_law_case" : Str)],[("_law_script" : Str),("_law_at" : Str),("_law_many" : Str),("_law_cases" : Str),("_law_first" : Str),("_law_pans_here" : Str),("_law_found" : Str),("_law_k" : Str),("_law_number" : Str),("_law_left" : Str),("_law_right" : Str),("_law_weighing" : Str),("_law_due" : Str)],[("_law_cases" : Str),("_law_done_here" : Str)],[("_law_pans_here" : Str),("_law_one" : Str),("_law_other" : Str)],[("_law_pans_here" : Str),("_law_cases" : Str),("_law_k" : Str),("_law_other" : Str)],[("_law_number" : Str),("_law_found" : Str),("_law_turn" : Str)],[("_law_pans_here" : Str),("_law_cases" : Str),("_law_number" : Str),("_law_weighing" : Str),("_law_parts" : Str)],[("_law_script" : Str),("_law_many" : Str),("_law_cases" : Str),("_law_done_here" : Str),("_law_some" : Str),("_law_pans_here" : Str),("_law_found" : Str),("_law_due" : Str),("_law_word" : Str),("_law_plan" : Str),("_law_hold" : Str)]]
noncomputable def j5(f:Nat):List Str:=zjl[f]?.getD []
noncomputable def zqm:List Str:=[("LEAST_THINGS" : Str),("MOST_THINGS" : Str),("MOST_CASES" : Str),("OUTCOMES" : Str),("MOST_NUMBER" : Str),("MOST_DONE" : Str)]
noncomputable def pw(k:Nat):Option Str:=zqm[k]?
noncomputable def zri:List Str:=[]
noncomputable def d8(k:Nat):Option Str:=zri[k]?
noncomputable def table:Nat→Option Fn
 | 0=>some c0
 | 1=>some c1
 | 2=>some c2
 | 3=>some c3
 | 4=>some c4
 | 5=>some c5
 | 6=>some c6
 | 7=>some c7
 | 8=>some c8
 | 9=>some c9
 | 10=>some c10
 | 11=>some c11
 | 12=>some c12
 | 13=>some c13
 | 14=>some c14
 | 15=>some c15
 | 16=>some c16
 | 17=>some c17
 | 18=>some c18
 | 19=>some c19
 | 20=>some c20
 | 21=>some c21
 | 22=>some c22
 | 23=>some c23
 | 24=>some c24
 | 25=>some c25
 | 26=>some c26
 | 27=>some c27
 | 28=>some c28
 | 29=>some c29
 | 30=>some c30
 | 31=>some c31
 | 32=>some c32
 | 33=>some c33
 | 34=>some c34
 | 35=>some c35
 | 36=>some c36
 | 37=>some c37
 | 38=>some c38
 | 39=>some c39
 | _+40=>none
noncomputable def zqk:List PyData:=[.int (2),.int (5),.int (12),.tuple [.int (-1),.int (0),.int (1)],.int (20),.int (20)]
noncomputable def zsw(k:Nat):Option PyData:=zqk[k]?
noncomputable def zka:Nat:=39
noncomputable def zrl:List Nat:=[0,1,2,3,4,5,6,7,8,9,10,11,12,13,14,15,16,17,18,19,20,21,22,23,24,25,26,27,28,29,30,31,32,33,34,35,36,37,38,39]
noncomputable def at_(f:Nat):Nat:=zrl[f]?.getD 0
noncomputable def subs(x c:Nat):Option Bool:=match x with
 | _=>none
noncomputable def P:Pg:={ call:=fun _ _ _ _=>.stuck,hd:=false,gval:=zsw,turns:=200,sub:=subs,srt:=zfi,sets:=false,txt:=fun _=>none }
end Mine.L07
end
section
namespace Mine.L07
open PySem Mine PyProof.Rows
noncomputable def prog:Program:=PySem.Challenge.pw_uf050003_07
noncomputable def fnOf:Option Stmt→List Stmt×Scope
 | some (.FunctionDef _ _ b _ _ _ s _ _ _)=>(b,s)
 | _=>([],⟨.module,[],false,false,[]⟩)
noncomputable def bd(k:Nat):List Stmt:=(fnOf (prog.main.body[k]?)).1
noncomputable def sp(k:Nat):Scope:=(fnOf (prog.main.body[k]?)).2
noncomputable def cxOf(fn:Fn)(f k:Nat):Cx:={ names:=yu fn (j5 f),sc:=sp k,fname:=v9,gname:=pw,cname:=d8 }
theorem bs:JSs (cxOf c0 0 9) (bd 9) c0.body∧JSs (cxOf c1 1 10) (bd 10) c1.body∧JSs (cxOf c2 2 11) (bd 11) c2.body∧JSs (cxOf c3 3 12) (bd 12) c3.body∧JSs (cxOf c4 4 15) (bd 15) c4.body∧JSs (cxOf c5 5 16) (bd 16) c5.body∧JSs (cxOf c6 6 17) (bd 17) c6.body∧JSs (cxOf c7 7 18) (bd 18) c7.body∧JSs (cxOf c8 8 19) (bd 19) c8.body∧JSs (cxOf c9 9 20) (bd 20) c9.body∧JSs (cxOf c10 10 23) (bd 23) c10.body∧JSs (cxOf c11 11 24) (bd 24) c11.body∧JSs (cxOf c12 12 25) (bd 25) c12.body∧JSs (cxOf c13 13 28) (bd 28) c13.body∧JSs (cxOf c14 14 29) (bd 29) c14.body∧JSs (cxOf c15 15 31) (bd 31) c15.body∧JSs (cxOf c16 16 32) (bd 32) c16.body∧JSs (cxOf c17 17 33) (bd 33) c17.body∧JSs (cxOf c18 18 34) (bd 34) c18.body∧JSs (cxOf c19 19 35) (bd 35) c19.body∧JSs (cxOf c20 20 36) (bd 36) c20.body∧JSs (cxOf c21 21 37) (bd 37) c21.body∧JSs (cxOf c22 22 38) (bd 38) c22.body∧JSs (cxOf c23 23 40) (bd 40) c23.body∧JSs (cxOf c24 24 41) (bd 41) c24.body∧JSs (cxOf c25 25 42) (bd 42) c25.body∧JSs (cxOf c26 26 44) (bd 44) c26.body∧JSs (cxOf c27 27 45) (bd 45) c27.body∧JSs (cxOf c28 28 46) (bd 46) c28.body∧JSs (cxOf c29 29 47) (bd 47) c29.body∧JSs (cxOf c30 30 48) (bd 48) c30.body∧JSs (cxOf c31 31 49) (bd 49) c31.body∧JSs (cxOf c32 32 50) (bd 50) c32.body∧JSs (cxOf c33 33 51) (bd 51) c33.body∧JSs (cxOf c34 34 52) (bd 52) c34.body∧JSs (cxOf c35 35 53) (bd 53) c35.body∧JSs (cxOf c36 36 54) (bd 54) c36.body∧JSs (cxOf c37 37 55) (bd 55) c37.body∧JSs (cxOf c38 38 56) (bd 56) c38.body∧JSs (cxOf c39 39 57) (bd 57) c39.body:=by
 refine⟨?_,?_,?_,?_,?_,?_,?_,?_,?_,?_,?_,?_,?_,?_,?_,?_,?_,?_,?_,?_,?_,?_,?_,?_,?_,?_,?_,?_,?_,?_,?_,?_,?_,?_,?_,?_,?_,?_,?_,?_⟩ <;> apply zgx
 all_goals with_reducible repeat' first
  | apply q_nil | apply q_ret | apply q_if | apply zpi | apply zgx | apply zjh | apply s_ret0 | apply zrw | apply zrx | apply zps | apply s_asgB | apply zpt | apply zpr | apply zpm | apply zpn | apply zrz | apply s_forZ | apply zpo | apply s_forT | apply zpp | apply zry | apply zmm | apply zpq | apply s_raise | apply s_try
  | apply zhu | apply zrr | apply zmb | apply zma | apply zo7 | apply zo6 | apply tt_cmpB | apply zo8 | apply zje | apply tt_ite | apply zmf
  | apply zqa | apply j_notinM | apply zqe | apply j_minL | apply zp8 | apply zqg | apply zss | apply zso | apply zsq | apply zqd | apply zsn | apply j_listB | apply j_dict | apply zsp | apply j_nt | apply zqi | apply zqh | apply j_or2 | apply j_orN | apply zsu | apply zm4 | apply zsr
  | apply j_sliceT | apply j_backT | apply zqb | apply j_lenI | apply zm3 | apply j_back | apply j_idxB | apply zst | apply zkk | apply j_isexc | apply zqc | apply j_str1 | apply zp9 | apply j_ofset | apply zkl | apply j_clear | apply zqf | apply zm5 | apply JK.e
  | apply zp2 | apply zsc | apply zj3 | apply zmx | apply zmw
  | apply zqs | apply znf | apply zm8 | apply zkq | apply zpz | apply zpy | apply zna | apply i_rev | apply i_e | apply zr2 | apply zr1
  | exact .inl rfl | exact .inr rfl | kernel_rfl
theorem b0:JSs (cxOf c0 0 9) (bd 9) c0.body:=bs.1
theorem b1:JSs (cxOf c1 1 10) (bd 10) c1.body:=bs.2.1
theorem b2:JSs (cxOf c2 2 11) (bd 11) c2.body:=bs.2.2.1
theorem b3:JSs (cxOf c3 3 12) (bd 12) c3.body:=bs.2.2.2.1
theorem b4:JSs (cxOf c4 4 15) (bd 15) c4.body:=bs.2.2.2.2.1
theorem b5:JSs (cxOf c5 5 16) (bd 16) c5.body:=bs.2.2.2.2.2.1
theorem b6:JSs (cxOf c6 6 17) (bd 17) c6.body:=bs.2.2.2.2.2.2.1
theorem b7:JSs (cxOf c7 7 18) (bd 18) c7.body:=bs.2.2.2.2.2.2.2.1
theorem b8:JSs (cxOf c8 8 19) (bd 19) c8.body:=bs.2.2.2.2.2.2.2.2.1
theorem b9:JSs (cxOf c9 9 20) (bd 20) c9.body:=bs.2.2.2.2.2.2.2.2.2.1
theorem b10:JSs (cxOf c10 10 23) (bd 23) c10.body:=bs.2.2.2.2.2.2.2.2.2.2.1
theorem b11:JSs (cxOf c11 11 24) (bd 24) c11.body:=bs.2.2.2.2.2.2.2.2.2.2.2.1
theorem b12:JSs (cxOf c12 12 25) (bd 25) c12.body:=bs.2.2.2.2.2.2.2.2.2.2.2.2.1
theorem b13:JSs (cxOf c13 13 28) (bd 28) c13.body:=bs.2.2.2.2.2.2.2.2.2.2.2.2.2.1
theorem b14:JSs (cxOf c14 14 29) (bd 29) c14.body:=bs.2.2.2.2.2.2.2.2.2.2.2.2.2.2.1
theorem b15:JSs (cxOf c15 15 31) (bd 31) c15.body:=bs.2.2.2.2.2.2.2.2.2.2.2.2.2.2.2.1
theorem b16:JSs (cxOf c16 16 32) (bd 32) c16.body:=bs.2.2.2.2.2.2.2.2.2.2.2.2.2.2.2.2.1
theorem b17:JSs (cxOf c17 17 33) (bd 33) c17.body:=bs.2.2.2.2.2.2.2.2.2.2.2.2.2.2.2.2.2.1
theorem b18:JSs (cxOf c18 18 34) (bd 34) c18.body:=bs.2.2.2.2.2.2.2.2.2.2.2.2.2.2.2.2.2.2.1
theorem b19:JSs (cxOf c19 19 35) (bd 35) c19.body:=bs.2.2.2.2.2.2.2.2.2.2.2.2.2.2.2.2.2.2.2.1
theorem b20:JSs (cxOf c20 20 36) (bd 36) c20.body:=bs.2.2.2.2.2.2.2.2.2.2.2.2.2.2.2.2.2.2.2.2.1
theorem b21:JSs (cxOf c21 21 37) (bd 37) c21.body:=bs.2.2.2.2.2.2.2.2.2.2.2.2.2.2.2.2.2.2.2.2.2.1
theorem b22:JSs (cxOf c22 22 38) (bd 38) c22.body:=bs.2.2.2.2.2.2.2.2.2.2.2.2.2.2.2.2.2.2.2.2.2.2.1
theorem b23:JSs (cxOf c23 23 40) (bd 40) c23.body:=bs.2.2.2.2.2.2.2.2.2.2.2.2.2.2.2.2.2.2.2.2.2.2.2.1
theorem b24:JSs (cxOf c24 24 41) (bd 41) c24.body:=bs.2.2.2.2.2.2.2.2.2.2.2.2.2.2.2.2.2.2.2.2.2.2.2.2.1
theorem b25:JSs (cxOf c25 25 42) (bd 42) c25.body:=bs.2.2.2.2.2.2.2.2.2.2.2.2.2.2.2.2.2.2.2.2.2.2.2.2.2.1
theorem b26:JSs (cxOf c26 26 44) (bd 44) c26.body:=bs.2.2.2.2.2.2.2.2.2.2.2.2.2.2.2.2.2.2.2.2.2.2.2.2.2.2.1
theorem b27:JSs (cxOf c27 27 45) (bd 45) c27.body:=bs.2.2.2.2.2.2.2.2.2.2.2.2.2.2.2.2.2.2.2.2.2.2.2.2.2.2.2.1
theorem b28:JSs (cxOf c28 28 46) (bd 46) c28.body:=bs.2.2.2.2.2.2.2.2.2.2.2.2.2.2.2.2.2.2.2.2.2.2.2.2.2.2.2.2.1
theorem b29:JSs (cxOf c29 29 47) (bd 47) c29.body:=bs.2.2.2.2.2.2.2.2.2.2.2.2.2.2.2.2.2.2.2.2.2.2.2.2.2.2.2.2.2.1
theorem b30:JSs (cxOf c30 30 48) (bd 48) c30.body:=bs.2.2.2.2.2.2.2.2.2.2.2.2.2.2.2.2.2.2.2.2.2.2.2.2.2.2.2.2.2.2.1
theorem b31:JSs (cxOf c31 31 49) (bd 49) c31.body:=bs.2.2.2.2.2.2.2.2.2.2.2.2.2.2.2.2.2.2.2.2.2.2.2.2.2.2.2.2.2.2.2.1
theorem b32:JSs (cxOf c32 32 50) (bd 50) c32.body:=bs.2.2.2.2.2.2.2.2.2.2.2.2.2.2.2.2.2.2.2.2.2.2.2.2.2.2.2.2.2.2.2.2.1
theorem b33:JSs (cxOf c33 33 51) (bd 51) c33.body:=bs.2.2.2.2.2.2.2.2.2.2.2.2.2.2.2.2.2.2.2.2.2.2.2.2.2.2.2.2.2.2.2.2.2.1
theorem b34:JSs (cxOf c34 34 52) (bd 52) c34.body:=bs.2.2.2.2.2.2.2.2.2.2.2.2.2.2.2.2.2.2.2.2.2.2.2.2.2.2.2.2.2.2.2.2.2.2.1
theorem b35:JSs (cxOf c35 35 53) (bd 53) c35.body:=bs.2.2.2.2.2.2.2.2.2.2.2.2.2.2.2.2.2.2.2.2.2.2.2.2.2.2.2.2.2.2.2.2.2.2.2.1
theorem b36:JSs (cxOf c36 36 54) (bd 54) c36.body:=bs.2.2.2.2.2.2.2.2.2.2.2.2.2.2.2.2.2.2.2.2.2.2.2.2.2.2.2.2.2.2.2.2.2.2.2.2.1
theorem b37:JSs (cxOf c37 37 55) (bd 55) c37.body:=bs.2.2.2.2.2.2.2.2.2.2.2.2.2.2.2.2.2.2.2.2.2.2.2.2.2.2.2.2.2.2.2.2.2.2.2.2.2.1
theorem b38:JSs (cxOf c38 38 56) (bd 56) c38.body:=bs.2.2.2.2.2.2.2.2.2.2.2.2.2.2.2.2.2.2.2.2.2.2.2.2.2.2.2.2.2.2.2.2.2.2.2.2.2.2.1
theorem b39:JSs (cxOf c39 39 57) (bd 57) c39.body:=bs.2.2.2.2.2.2.2.2.2.2.2.2.2.2.2.2.2.2.2.2.2.2.2.2.2.2.2.2.2.2.2.2.2.2.2.2.2.2.2
theorem zm{f k:Nat}{fn fn':Fn}{d:DefRec}(h:((recsOf prog)[at_ f]?.map fun d=>(d.body,d.scope))=some (bd k,sp k))(hb:JSs (cxOf fn f k) (bd k) fn.body)(hT:some fn=some fn')(hd:(recsOf prog)[at_ f]?=some d) :
 JSs { names:=yu fn' (j5 f),sc:=d.scope,fname:=v9,gname:=pw,cname:=d8 } d.body fn'.body:=by
 cases hT
 rw[hd] at h
 injection h with h
 injection h with h1 h2
 rw[h1,h2];exact hb
theorem zrk:zai prog v9 pw d8 table j5 at_:=fun f fn d=>match f with
 | 0=>zm (k:=9) (by kernel_rfl) b0
 | 1=>zm (k:=10) (by kernel_rfl) b1
 | 2=>zm (k:=11) (by kernel_rfl) b2
 | 3=>zm (k:=12) (by kernel_rfl) b3
 | 4=>zm (k:=15) (by kernel_rfl) b4
 | 5=>zm (k:=16) (by kernel_rfl) b5
 | 6=>zm (k:=17) (by kernel_rfl) b6
 | 7=>zm (k:=18) (by kernel_rfl) b7
 | 8=>zm (k:=19) (by kernel_rfl) b8
 | 9=>zm (k:=20) (by kernel_rfl) b9
 | 10=>zm (k:=23) (by kernel_rfl) b10
 | 11=>zm (k:=24) (by kernel_rfl) b11
 | 12=>zm (k:=25) (by kernel_rfl) b12
 | 13=>zm (k:=28) (by kernel_rfl) b13
 | 14=>zm (k:=29) (by kernel_rfl) b14
 | 15=>zm (k:=31) (by kernel_rfl) b15
 | 16=>zm (k:=32) (by kernel_rfl) b16
 | 17=>zm (k:=33) (by kernel_rfl) b17
 | 18=>zm (k:=34) (by kernel_rfl) b18
 | 19=>zm (k:=35) (by kernel_rfl) b19
 | 20=>zm (k:=36) (by kernel_rfl) b20
 | 21=>zm (k:=37) (by kernel_rfl) b21
 | 22=>zm (k:=38) (by kernel_rfl) b22
 | 23=>zm (k:=40) (by kernel_rfl) b23
 | 24=>zm (k:=41) (by kernel_rfl) b24
 | 25=>zm (k:=42) (by kernel_rfl) b25
 | 26=>zm (k:=44) (by kernel_rfl) b26
 | 27=>zm (k:=45) (by kernel_rfl) b27
 | 28=>zm (k:=46) (by kernel_rfl) b28
 | 29=>zm (k:=47) (by kernel_rfl) b29
 | 30=>zm (k:=48) (by kernel_rfl) b30
 | 31=>zm (k:=49) (by kernel_rfl) b31
 | 32=>zm (k:=50) (by kernel_rfl) b32
 | 33=>zm (k:=51) (by kernel_rfl) b33
 | 34=>zm (k:=52) (by kernel_rfl) b34
 | 35=>zm (k:=53) (by kernel_rfl) b35
 | 36=>zm (k:=54) (by kernel_rfl) b36
 | 37=>zm (k:=55) (by kernel_rfl) b37
 | 38=>zm (k:=56) (by kernel_rfl) b38
 | 39=>zm (k:=57) (by kernel_rfl) b39
 | _+40=>fun hT _=>nomatch hT
end Mine.L07
end
section
namespace Mine.L07
open PySem PySem.W PySem.Calls PyProof.Rows Mine
theorem zsy{G:Gl}{p:Program}{loose:List Str}{mean:ExcName→Option Value}{gval:Nat→Option PyData}{gname:Nat→Option Str}{K:W.Frag}(X:K.In G.h₀)(t:Top p loose mean G.mg G.mb G.h₀)(hc:∀ c,∃ C,G.cls c=.ref C)(hb:zls K=true)
 (hv:∀ k d x,gval k=some d→gname k=some x→valOf p x=some d∨∃ v,nsIn K mainGlobals x=some (some v)∧∀ h,K.In h→Reads h v d []):GOk G gval gname where
 nolimit:=t.nolimit
 g:=t.g
 b:=t.b
 gl:=fun k d x h1 h2=>by
  rcases hv k d x h1 h2 with h | ⟨v,h,r⟩
  ·obtain⟨v,q1,q2⟩:=t.const x d h;exact⟨v,q1,q2 _⟩
  ·exact⟨v,W.mg_of X t.g h,r _ X⟩
 clsRef:=hc
 bi:=fun q hq=>by
  have:=List.all_eq_true.mp hb q hq
  simp only[Bool.and_eq_true,beq_iff_eq,bne_iff_ne,ne_eq] at this
  exact⟨W.mg_none_of X t.g this.1.1,by rw[t.builtins _ this.2];exact this.1.2⟩
 digits:=t.nodigits
theorem cl0{G:Gl}:zht G P d8:=⟨fun c z h=>(nomatch h),fun c z h=>(nomatch h),fun c z A s env x y np cpos pos yp yk Q E h=>(nomatch h)⟩
noncomputable abbrev oOut:Obj:=PySem.Obj.mk (Value.type "tuple") Option.none (PySem.Data.seq #[Value.int (-1) 294,Value.int 0 295,Value.int 1 296]) #[]
theorem h_gv{p:Program}{K:W.Frag}(h0:valOf p "LEAST_THINGS" = some (.int 2))(h1:valOf p "MOST_THINGS" = some (.int 5))(h2:valOf p "MOST_CASES" = some (.int 12))(h6:valOf p "MOST_NUMBER" = some (.int 20))(h5:valOf p "MOST_DONE" = some (.int 20))(h3:nsIn K mainGlobals "OUTCOMES" = some (some (.ref 88)))(h4:K.lookup 88=some oOut):∀ k d x,P.gval k=some d→pw k=some x→valOf p x=some d∨∃ v,nsIn K mainGlobals x=some (some v)∧∀ h,K.In h→Reads h v d []:=fun k d x e1 e2=>by
 match k,e1,e2 with
 | 0,e1,e2=>cases e1;cases e2;exact .inl h0
 | 1,e1,e2=>cases e1;cases e2;exact .inl h1
 | 2,e1,e2=>cases e1;cases e2;exact .inl h2
 | 3,e1,e2=>
   cases e1;cases e2
   exact .inr ⟨_,h3,fun h X=>.tuple (X 88 _ h4) rfl rfl (.cons (.int _ _) (.cons (.int _ _) (.cons (.int _ _) .nil)))⟩
 | 4,e1,e2=>cases e1;cases e2;exact .inl h6
 | 5,e1,e2=>cases e1;cases e2;exact .inl h5
 | n+6,e1,_=>cases e1
theorem h_no:∀ f,40≤f→v9 f=none:=fun f hf=>List.getElem?_eq_none hf
theorem zm0{p:Program}{loose:List Str}{mean:ExcName→Option Value}{K:W.Frag}{prog:Program}{w:World}{s:Shared}{mg mb:Str→Option Value}
 (t:Top p loose mean mg mb s.heap) (X:K.In s.heap) (hf:(List.range 40).all (zgg p v9 table j5 at_)=true) (hbo:zai p v9 pw d8 table j5 at_) (hb:zls K=true) (hv:∀ k d x,P.gval k=some d→pw k=some x→valOf p x=some d∨∃ v,nsIn K mainGlobals x=some (some v)∧∀ h,K.In h→Reads h v d [])
 (himp:importsNone p=true) {x:Str} (hfx:v9 zka=some x) {script:List Int} {a:Addr} {rs:List Addr} (r0:Reads s.heap (.ref a) (.list (script.map .int)) rs) {d:PyData} {O'':za}
 (hev:zg P table 61 false zka [.d (.list (script.map .int))] []=.ok (.d d) O'') {Q:Value→Shared→Prop} {E:Value→Shared→Prop}
 (kk:∀ s' val as,s'.gens=s.gens→s'.os=s.os→(∀ b o,s.heap.get? b=some o→s'.heap.get? b=some o)→Reads s'.heap val d as→Q val s') {fa:Addr} (hmg:mg x=some (.ref fa)):wpAny (model prog w) callerA (call (.ref fa) [.ref a]) Q E s:=
 go_top (G:={ prog:=prog,w:=w,h₀:=s.heap,mg:=mg,mb:=mb,cls:=fun _=>.ref 0,sys:=let ⟨m,h,_⟩:=(t.seer himp).mods;⟨m,h⟩ }) (zsy X t (fun _=>⟨0,rfl⟩) hb hv) (zqo t 40 h_no hf hbo) (zpj rfl) (fun h=>by cases h) cl0 (k:=60) ⟨by decide,by decide,rfl⟩ rfl rfl rfl hfx
  (vals:=[.ref a]) (vs:=[.d (.list (script.map .int))]) (.cons ⟨rs,r0,fun b hb=>⟨fun h=>(nomatch h),fun h=>by rw[List.mem_singleton.mp h] at hb;obtain⟨m,hm,_⟩:=(t.seer himp).mods;exact zfo hm r0 hb⟩⟩ .nil) hev kk fa hmg
set_option tactic.hygienic true in
theorem holds_of(hE:∀ script:List Int,script.length≤63→∃ O,zg P table 61 false zka [.d (.list (script.map .int))] []=.ok (.d (.bool true)) O):PySem.Challenge.rw_uf050003_07.Holds:=by
 w_on
 refine holds_law ws fun said=>?_
 refine holds_open (q:=view) (loose:=[]) (Xt:=fun s=>xlAt view [] s && recOk (RowW.records (OpenRow.toRowW (OpenLaw.row PySem.Challenge.rw_uf050003_07))) s) (XP:=XL view []) (Yf:=Hook.obs hook) (Ya:=Hook.val hook) (YP:=Hook.says hook) (N:=4600) ?hl (Hook.of hook) (Hook.keeps hook) (fun s e=>xl_of s (Bool.and_eq_true_iff.mp e).1) XL.keeps (by rfl) (by rfl) (by rfl) (fun s e=>recFacts_of (Bool.and_eq_true_iff.mp e).2) (by rfl) (by assumption) (by decide +kernel) ⟨rfl,rfl,rfl,rfl,rfl,by decide +kernel⟩ ?hw ?hc
 case hw=>w_witness2
 case hl=>exact zmz
 case hc=>
  intro w s₀ s₁ mg mb G Y fa o pm cd doc dV kV ho hd hcd hD hmg hg args vals as hpre hlay hrd hwl hlo
  have KX:=kIn_of Y
  have X:=(Ground.X G).1
  have V:=(Ground.X G).2
  refine Ground.open G ?_
  intro T B D TE TW
  clear hd hcd hD
  wrow_args hpre hlay hrd hwl hlo
  clear Y G X V B D TE TW ho
  rename_i script _ _ _ _ _ rs _ a vs _ hL ra _ r0 _ _ hlen _
  have hlen':script.length≤63:=by omega
  obtain⟨O,hev⟩:=hE script hlen'
  refine zm0 T KX (by kernel_rfl) zrk (by kernel_rfl) (h_gv (by kernel_rfl) (by kernel_rfl) (by kernel_rfl) (by kernel_rfl) (by kernel_rfl) (by kernel_rfl) (by kernel_rfl)) (by kernel_rfl) rfl r0 hev ?_ hmg
  intro s' val as' hgens hos hkeep hread
  have hread':=readsW_of_reads (R:=Challenge.rw_uf050003_07.row.claim.records) (cl:=classAt s₀.heap) hread
  cases hread
  refine⟨.inl ⟨_,.bool true,[],rfl,fun _=>rfl,?_,?_,fun _=>⟨.nil,fun _ h=>(nomatch h)⟩⟩,.of_keep hkeep,hos,.of_eq (hgens.trans hg)⟩
  ·exact hread'
  ·kernel_rfl
end Mine.L07
end
section
namespace Mine
open PySem
theorem d7{ys:List PyData}{turn:PyData→za→R za (Option PyData)}{f:PyData→PyData}{O:za}:∀ (xs acc:List PyData),(∀ x∈xs,turn x O=.ok (some (f x)) O)→yd (.plain ys) turn xs acc O=.ok (.d (.list (acc++xs.map f))) O
 | [],acc,_=>by simp[yd]
 | x::xs,acc,h=>by
   rw[yd,h x List.mem_cons_self]
   show (if (Src.plain ys).still O=true then _ else _)=_
   rw[if_pos (show (Src.plain ys).still _=true from rfl),d7 xs _ fun y hy=>h y (List.mem_cons_of_mem _ hy)]
   simp
theorem dk{α:Type}{ys:List PyData}{turn:PyData→Loc→za→R (Loc×za) Fl}(st:α→Loc×za)(f:α→PyData→α):∀ (xs:List PyData) (a:α),(∀ a,∀ x∈xs,turn x (st a).1 (st a).2=.ok .next (st (f a x))) →
 zu (.plain ys) turn xs (st a).1 (st a).2=.ok .next (st (xs.foldl f a))
 | [],a,_=>rfl
 | x::xs,a,h=>by
   rw[zu,h a x List.mem_cons_self]
   show (if (Src.plain ys).still _=true then _ else _)=_
   rw[if_pos (show (Src.plain ys).still _=true from rfl),dk st f xs (f a x) fun a y hy=>h a y (List.mem_cons_of_mem _ hy)]
   rfl
section
variable{P:Pg}{ρ:Loc}{O:za}{a b c t:CE}{es:CEs}
theorem ji{i:Int}:evE P ρ (.int i) O=.ok (.d (.int i)) O:=rfl
theorem x6{i:Nat}:evE P ρ (.loc i) O=opt (ρ[i]?.join) O:=rfl
theorem zob:evE P ρ (.tup es) O=(evEs P ρ es O).bind fun vs O=>opt (tupV vs) O:=rfl
theorem gd:evE P ρ (.list es) O=(evEs P ρ es O).bind fun vs O=>opt ((allD vs).map fun xs=>.d (.list xs)) O:=rfl
theorem zl9:evE P ρ (.boxed a) O=(evE P ρ a O).bind boxK:=rfl
theorem x_nt:evE P ρ (.nt a) O=(evE P ρ a O).bind fun v O=>opt ((truth v).map fun b=>.d (.bool !b)) O:=rfl
theorem zrp:evE P ρ (.and_ a b) O=(evE P ρ a O).bind fun v O=>(opt (truth v) O).bind (andK fun O=>evE P ρ b O):=rfl
theorem x_or:evE P ρ (.or_ a b) O=(evE P ρ a O).bind fun v O=>(opt (truth v) O).bind (orK fun O=>evE P ρ b O):=rfl
theorem zi7:evE P ρ (.ite t a b) O=(evE P ρ t O).bind fun v O=>(opt (truth v) O).bind (iteK (fun O=>evE P ρ a O) fun O=>evE P ρ b O):=rfl
theorem gf{op:Bop}:evE P ρ (.bin op a b) O=(evE P ρ a O).bind fun v O=>(evE P ρ b O).bind fun u O=>binK op v u O:=rfl
theorem zc3{op:Cop}:evE P ρ (.cmp op a b) O=(evE P ρ a O).bind fun v O=>(evE P ρ b O).bind fun u O=>cmpV op v u O:=rfl
theorem zl8{p q:Cop}:evE P ρ (.chain p q a b c) O=(evE P ρ a O).bind fun v O=>(evE P ρ b O).bind fun u O=>(cmpV p v u O).bind fun t O=>(opt (truth t) O).bind (andK fun O=>(evE P ρ c O).bind fun y O=>cmpV q u y O):=rfl
theorem zax:evE P ρ (.idx a b) O=(evE P ρ a O).bind fun v O=>(evE P ρ b O).bind fun u O=>idxV v u O:=rfl
theorem zgr:evE P ρ (.slice a b c) O=(evE P ρ a O).bind fun v O=>(evE P ρ b O).bind fun l O=>(evE P ρ c O).bind fun h O=>zfl v l h O:=rfl
theorem x_call{f:Nat}:evE P ρ (.call f es) O=(evEs P ρ es O).bind fun vs O=>P.call P.hd f vs O:=rfl
theorem ze9{p:Prim}:evE P ρ (.prim p es) O=if (P.hd && !p.calm)=true then .stuck else (evEs P ρ es O).bind fun vs O=>prim P p vs O:=rfl
theorem zoz{m:Meth}:evE P ρ (.meth m a es) O=(evE P ρ a O).bind fun v O=>if recv m v O then (evEs P ρ es O).bind fun vs O=>meth m v vs O else .stuck:=rfl
theorem ku:evEs P ρ .nil O=.ok [] O:=rfl
theorem x7:evEs P ρ (.cons a es) O=(evE P ρ a O).bind fun v O=>(evEs P ρ es O).bind fun vs O=>.ok (v::vs) O:=rfl
theorem zro:xo P ρ .nil O=.ok true O:=rfl
theorem zaw:xo P ρ (.cons a es) O=(evE P ρ a O).bind fun v O=>(opt (truth v) O).bind fun t O=>(match t with
 | true=>xo P ρ es O
 | false=>.ok false O):=rfl
theorem x_e:evI P ρ (.e a) O=(evE P ρ a O).bind srcV:=rfl
theorem zmh{n:Nat}{xs:List PyData}(h:O[n]?=some (.lst xs)):srcV (.box n) O=.ok (.box n xs) O:=by unfold srcV;dsimp only;rw[h]
noncomputable def zjt(v u:V)(O:za):R za Src:=(xc v u O).bind fun p O=>.ok (.plain (zj p.1 p.2)) O
theorem jc{i j:Int}(h : -(10 ^ 9)≤i∧i≤10 ^ 9∧-(10 ^ 9)≤j∧j≤10 ^ 9):zjt (.d (.int i)) (.d (.int j)) O=.ok (.plain (zj i j)) O:=by
 have:xc (.d (.int i)) (.d (.int j)) O=.ok (i,j) O:=if_pos h
 unfold zjt;rw[this];rfl
theorem wa:evI P ρ (.range a b) O=((evE P ρ a O).bind fun v O=>(evE P ρ b O).bind fun u O=>xc v u O).bind fun p O=>.ok (.plain (zj p.1 p.2)) O:=rfl
theorem zo3{elt:CE}{tgt:CT}{it:CI}{ifs:CEs}{xs:List PyData}{O':za}(hd:P.hd=false)(hit:evI P ρ it O=.ok (.plain xs) O')(hl:xs.length≤line)(f:PyData→PyData)
 (h:∀ x∈xs,∃ ρ',zt tgt (.d x) ρ=some ρ'∧xo P ρ' ifs O'=.ok true O'∧evE P ρ' elt O'=.ok (.d (f x)) O'):evE P ρ (.comp elt tgt it ifs) O=.ok (.d (.list (xs.map f))) O':=by
 show (if P.hd=true then .stuck else _:R za V)=_
 rw[if_neg (by rw[hd];decide),hit]
 show (if xs.length≤line then _ else _)=_
 rw[if_pos hl]
 refine d7 (f:=f) xs [] fun x hx=>?_
 obtain⟨ρ',h1,h2,h3⟩:=h x hx
 unfold xn
 rw[h1]
 dsimp only
 rw[h2]
 simp only[R.bind,h3]
theorem zgs:evS P (.ret a) ρ O=((evE P ρ a O).lift ρ).bind fun v S=>.ok (.ret v) S:=rfl
theorem wc{y:CT}:evS P (.asg y a) ρ O=if (P.hd && !y.isName)=true then .stuck else ((evE P ρ a O).lift ρ).bind (asgR y):=rfl
theorem zav{p q:CSs}:evS P (.ife t p q) ρ O=(((evE P ρ t O).bind fun v O=>opt (truth v) O).lift ρ).bind (ifeK (fun S=>evSs P p S.1 S.2) fun S=>evSs P q S.1 S.2):=rfl
noncomputable def ya(P:Pg)(y:CT)(p:CSs):PyData→Loc→za→R (Loc×za) Fl:=j3 y fun ρ O=>evSs P p ρ O
theorem kw{y:CT}{it:CI}{p:CSs}:evS P (.for_ y it p) ρ O=if P.hd=true then .stuck else ((evI P ρ it O).lift ρ).bind fun src S=>zu src (ya P y p) src.xs S.1 S.2:=rfl
theorem zo2:evS P (.expr a) ρ O=((evE P ρ a O).lift ρ).bind fun _ S=>.ok .next S:=rfl
theorem h9:evSs P .nil ρ O=.ok .next (ρ,O):=rfl
theorem jh{s:CS}{ss:CSs}:evSs P (.cons s ss) ρ O=(evS P s ρ O).bind (seqK fun S=>evSs P ss S.1 S.2):=rfl
end
section
variable{P:Pg}{ρ:Loc}{O:za}
theorem zv{σ α β:Type}{a:α}{s:σ}{f:α→σ→R σ β}:(R.ok a s).bind f=f a s:=rfl
theorem ke{α:Type}{a:α}:(R.ok a O).lift ρ=.ok a (ρ,O):=rfl
theorem jy{α:Type}{a:α}:opt (some a) O=.ok a O:=rfl
theorem zb6{b:Bool}:truth (.d (.bool b))=some b:=rfl
theorem zk0{p q:Loc×za→R (Loc×za) Fl}{S:Loc×za}:ifeK p q true S=p S:=rfl
theorem zhe{p q:Loc×za→R (Loc×za) Fl}{S:Loc×za}:ifeK p q false S=q S:=rfl
theorem zfp{p:Loc×za→R (Loc×za) Fl}{v:V}{S:Loc×za}:seqK p (.ret v) S=.ok (.ret v) S:=rfl
theorem zfq{p:Loc×za→R (Loc×za) Fl}{S:Loc×za}:seqK p .next S=p S:=rfl
theorem zad{i:Nat}{v:V}:zt (.name i) v ρ=if i < ρ.length then some (ρ.set i (some v)) else none:=rfl
theorem zcz:allD []=some []:=rfl
theorem zc0{x:PyData}{r:List V}:allD (.d x::r)=(allD r).map (x::·):=rfl
theorem zlp:Prim.calm .len=true:=rfl
theorem nm_1{i:Nat}:CT.isName (.name i)=true:=rfl
theorem zg2{p:Prim}{x y:PyData}(h:za7 P p x=some y):prim P p [.d x] O=.ok (.d y) O:=by
 have e:∀ (o:Option PyData),o=some y→(match o with | some y=>R.ok (V.d y) O | none=>.stuck)=R.ok (V.d y) O:=fun o h=>by rw[h]
 cases p with
 | isexc _=>cases h
 | _=>exact e _ h
theorem zce{xs:List PyData}(h:xs.length≤line):prim P .len [.d (.list xs)] O=.ok (.d (.int xs.length)) O:=zg2 (if_pos h)
theorem zbt{α:Type}(g:α→Bool):∀ xs:List α,vn (xs.map fun x=>.bool (g x))=some (xs.map g)
 | []=>rfl
 | x::xs=>by rw[List.map_cons,vn,zbt g xs];rfl
theorem ints_map{α:Type}(g:α→Int):∀ xs:List α,Mine.intsOf (xs.map fun x=>.int (g x))=some (xs.map g)
 | []=>rfl
 | x::xs=>by rw[List.map_cons,Mine.intsOf,ints_map g xs];rfl
theorem pq:∀ xs:List Int,Mine.intsOf (xs.map .int)=some xs
 | []=>rfl
 | x::xs=>by rw[List.map_cons,Mine.intsOf,pq xs];rfl
theorem zr9{α:Type}{g:α→Bool}{xs:List α}:prim P .all [.d (.list (xs.map fun x=>.bool (g x)))] O=.ok (.d (.bool (xs.all g))) O:=by
 have e:(xs.map g).all id=xs.all g:=by rw[List.all_map];rfl
 rw[← e]
 exact zg2 (show (vn (xs.map fun x=>.bool (g x))).map (fun bs=>PyData.bool (bs.all id))=_ by rw[zbt];rfl)
theorem zr8{α:Type}{g:α→Int}{xs:List α}:prim P .sum [.d (.list (xs.map fun x=>.int (g x)))] O=.ok (.d (.int (xs.map g).sum)) O:=
 zg2 (show (Mine.intsOf (xs.map fun x=>.int (g x))).map (fun is=>PyData.int is.sum)=_ by rw[ints_map];rfl)
theorem zpx{xs:List PyData}(h:xs.length≤line):prim P .tuple [.d (.list xs)] O=.ok (.d (.tuple xs)) O:=zg2 (if_pos h)
theorem v_eq{x y:PyData}:cmpV .eq (.d x) (.d y) O=opt ((vj .eq x y).map fun b=>.d (.bool b)) O:=rfl
theorem v_ne{x y:PyData}:cmpV .ne (.d x) (.d y) O=opt ((vj .ne x y).map fun b=>.d (.bool b)) O:=rfl
theorem v_lt{x y:Int}:cmpV .lt (.d (.int x)) (.d (.int y)) O=.ok (.d (.bool (decide (x < y)))) O:=rfl
theorem v_le{x y:Int}:cmpV .le (.d (.int x)) (.d (.int y)) O=.ok (.d (.bool (decide (x≤y)))) O:=rfl
theorem v_gt{x y:Int}:cmpV .gt (.d (.int x)) (.d (.int y)) O=.ok (.d (.bool (decide (x > y)))) O:=rfl
theorem ve{x k:PyData}:idxV (.d x) (.d k) O=opt ((idxD x k).map .d) O:=rfl
theorem wt{a b:Int}:binK .add (.d (.int a)) (.d (.int b)) O=.ok (.d (.int (a+b))) O:=rfl
theorem vi{a b:Int}:binK .sub (.d (.int a)) (.d (.int b)) O=.ok (.d (.int (a - b))) O:=rfl
theorem zkj{op:Bop}{x y:PyData}:binK op (.d x) (.d y) O=opt ((zbv op x y).map V.d) O:=rfl
theorem zkh{a b:Int}(h:a.natAbs < 2 ^ 64∨b.natAbs < 2 ^ 64):binK .mul (.d (.int a)) (.d (.int b)) O=.ok (.d (.int (a * b))) O:=by rw[zkj];show opt (Option.map V.d (if _ then _ else _)) O=_;rw[if_pos h];rfl
theorem zcj{a b:Int}(h:b≠0∧b.natAbs < 1073741824):binK .fdiv (.d (.int a)) (.d (.int b)) O=.ok (.d (.int (Int.fdiv a b))) O:=by rw[zkj];show opt (Option.map V.d (if _ then _ else _)) O=_;rw[if_pos h];rfl
theorem zki{a b:Int}(h:b≠0):binK .mod (.d (.int a)) (.d (.int b)) O=.ok (.d (.int (Int.fmod a b))) O:=by rw[zkj];show opt (Option.map V.d (if _ then _ else _)) O=_;rw[if_neg h];rfl
theorem zed{a b:Int}:eqOk (.int a) (.int b)=true:=by unfold eqOk;rfl
theorem zhf{a b:Int}:PyData.eqv (.int a) (.int b)=decide (a=b):=by first | rfl | simp[PyData.eqv]
theorem eq_int{a b:Int}:cmpV .eq (.d (.int a)) (.d (.int b)) O=.ok (.d (.bool (decide (a=b)))) O:=by rw[v_eq,vj,zed,zhf];rfl
theorem ne_int{a b:Int}:cmpV .ne (.d (.int a)) (.d (.int b)) O=.ok (.d (.bool (!decide (a=b)))) O:=by rw[v_ne,vj,zed,zhf];rfl
end
section
variable{P:Pg}{ρ ρ':Loc}{O O' O'':za}{a b c e t:CE}{es:CEs}{v u:V}
theorem x8(h:evE P ρ e O=.ok v O'):evS P (.expr e) ρ O=.ok .next (ρ,O'):=by rw[zo2,h];rfl
theorem z5{i:Nat}(h:evE P ρ e O=.ok v O')(hi:Nat.blt i ρ.length=true)(hr:ρ.set i (some v)=ρ'):evS P (.asg (.name i) e) ρ O=.ok .next (ρ',O'):=by
 subst hr
 rw[wc,h]
 have:(P.hd && !(CT.name i).isName)=false:=by cases P.hd <;> rfl
 rw[this,if_neg Bool.false_ne_true]
 show (match (if i < ρ.length then some (ρ.set i (some v)) else none) with | some ρ'=>R.ok Fl.next (ρ',O') | none=>.stuck)=_
 rw[if_pos (show i < ρ.length from Nat.le_of_ble_eq_true hi)]
theorem zw{p:CSs}(h:evE P ρ t O=.ok (.d (.bool false)) O'):evS P (.ife t p .nil) ρ O=.ok .next (ρ,O'):=by rw[zav,h];rfl
theorem w_if{p q:CSs}{bb:Bool}(h:evE P ρ t O=.ok (.d (.bool bb)) O'):evS P (.ife t p q) ρ O=if bb then evSs P p ρ O' else evSs P q ρ O':=by rw[zav,h];cases bb <;> rfl
theorem zz(h:evE P ρ e O=.ok v O'):evS P (.ret e) ρ O=.ok (.ret v) (ρ,O'):=by rw[zgs,h];rfl
theorem zc{st:CS}{ss:CSs}(h:evS P st ρ O=.ok .next (ρ',O')):evSs P (.cons st ss) ρ O=evSs P ss ρ' O':=by rw[jh,h];rfl
theorem zd{st:CS}{ss:CSs}{S:Loc×za}(h:evS P st ρ O=.ok (.ret v) S):evSs P (.cons st ss) ρ O=.ok (.ret v) S:=by rw[jh,h];rfl
theorem zi{f:Nat}{vs:List V}{r:R za V}(he:evEs P ρ es O=.ok vs O')(hc:P.call P.hd f vs O'=r):evE P ρ (.call f es) O=r:=by rw[x_call,he];exact hc
theorem zo{vs:List V}(h:evE P ρ a O=.ok v O')(h':evEs P ρ es O'=.ok vs O''):evEs P ρ (.cons a es) O=.ok (v::vs) O'':=by rw[x7,h,zv,h',zv]
theorem w_nt{bb:Bool}(h:evE P ρ a O=.ok (.d (.bool bb)) O'):evE P ρ (.nt a) O=.ok (.d (.bool !bb)) O':=by rw[x_nt,h];rfl
theorem w_or{bb:Bool}(h:evE P ρ a O=.ok (.d (.bool bb)) O'):evE P ρ (.or_ a b) O=if bb then .ok (.d (.bool true)) O' else evE P ρ b O':=by rw[x_or,h];cases bb <;> rfl
theorem w_and{bb:Bool}(h:evE P ρ a O=.ok (.d (.bool bb)) O'):evE P ρ (.and_ a b) O=if bb then evE P ρ b O' else .ok (.d (.bool false)) O':=by rw[zrp,h];cases bb <;> rfl
theorem xi{r:R za V}(h:evE P ρ a O=.ok (.d (.bool false)) O')(h':evE P ρ b O'=r):evE P ρ (.or_ a b) O=r:=(w_or h).trans h'
theorem zoc(h:evE P ρ a O=.ok (.d (.bool true)) O'):evE P ρ (.or_ a b) O=.ok (.d (.bool true)) O':=w_or h
theorem kx{r:R za V}(h:evE P ρ a O=.ok (.d (.bool true)) O')(h':evE P ρ b O'=r):evE P ρ (.and_ a b) O=r:=(w_and h).trans h'
theorem zfd(h:evE P ρ a O=.ok (.d (.bool false)) O'):evE P ρ (.and_ a b) O=.ok (.d (.bool false)) O':=w_and h
theorem yc{p:Prim}{r:R za V}(hp:(P.hd && !p.calm)=false)(h:evE P ρ a O=.ok v O')(hr:prim P p [v] O'=r):evE P ρ (.prim p (.cons a .nil)) O=r:=by rw[ze9,hp,if_neg Bool.false_ne_true,x7,h,zv,ku,zv,zv];exact hr
theorem zq{op:Cop}{r:R za V}(h1:evE P ρ a O=.ok v O')(h2:evE P ρ b O'=.ok u O'')(h3:cmpV op v u O''=r):evE P ρ (.cmp op a b) O=r:=by rw[zc3,h1,zv,h2,zv];exact h3
theorem yb{op:Bop}{r:R za V}(h1:evE P ρ a O=.ok v O')(h2:evE P ρ b O'=.ok u O'')(h3:binK op v u O''=r):evE P ρ (.bin op a b) O=r:=by rw[gf,h1,zv,h2,zv];exact h3
theorem jj{r:R za V}(h1:evE P ρ a O=.ok v O')(h2:evE P ρ b O'=.ok u O'')(h3:idxV v u O''=r):evE P ρ (.idx a b) O=r:=by rw[zax,h1,zv,h2,zv];exact h3
theorem w6{m:Meth}{vs:List V}{r:R za V}(h1:evE P ρ a O=.ok v O')(hr:recv m v O'=true)(h2:evEs P ρ es O'=.ok vs O'')(h3:meth m v vs O''=r):evE P ρ (.meth m a es) O=r:=by rw[zoz,h1,zv,if_pos hr,h2];exact h3
theorem kg{p:Prim}{x y:PyData}(hv:look O v=some x)(hp:za7 P p x=some y):prim P p [v] O=.ok (.d y) O:=by
 have e:([v].mapM (look O)).bind (ui P p)=some y:=by rw[List.mapM_cons,hv,List.mapM_nil];exact hp
 have e2:∀ (o:Option PyData),o=some y→(match o with | some y=>R.ok (V.d y) O | none=>.stuck)=R.ok (V.d y) O:=fun o h=>by rw[h]
 cases p with
 | isexc _=>cases hp
 | _=>exact e2 _ e
inductive Seen(O:za):V→List PyData→Prop
 | d (xs:List PyData):Seen O (.d (.list xs)) xs
 | box (n:Nat) (xs:List PyData) (h:O[n]?=some (.lst xs)):Seen O (.box n) xs
theorem Seen.look{xs:List PyData}(h:Seen O v xs):look O v=some (.list xs):=by
 cases h with
 | d xs=>rfl
 | box n xs h=>show kr O n=_;unfold kr;rw[h]
theorem Seen.src{xs:List PyData}(h:Seen O v xs):∃ src:Src,srcV v O=.ok src O∧src.xs=xs∧src.still O=true:=by
 cases h with
 | d xs=>exact⟨_,rfl,rfl,rfl⟩
 | box n xs h=>exact⟨_,zmh h,rfl,by unfold Src.still;exact @decide_eq_true _ (Classical.propDecidable _) h⟩
theorem Seen.more{xs:List PyData}{bx:Box}(h:Seen O v xs):Seen (O++[bx]) v xs:=by
 cases h with
 | d xs=>exact .d xs
 | box n xs h=>exact .box n xs (by rw[List.getElem?_append_left (qz h)];exact h)
theorem zdz{xs:List PyData}(h:Seen O v xs):prim P (.isinst .list) [v] O=.ok (.d (.bool true)) O:=kg h.look rfl
theorem zdv{xs:List PyData}(h:Seen O v xs)(hl:xs.length≤line):prim P .len [v] O=.ok (.d (.int xs.length)) O:=kg h.look (if_pos hl)
theorem zbq{src:Src}{turn:PyData→za→R za (Option PyData)}{f:PyData→Option PyData}(hs:src.still O=true):∀ (xs acc:List PyData),(∀ x∈xs,turn x O=.ok (f x) O)→yd src turn xs acc O=.ok (.d (.list (acc++xs.filterMap f))) O
 | [],acc,_=>by rw[yd,List.filterMap_nil,List.append_nil]
 | x::xs,acc,h=>by
   rw[yd,h x List.mem_cons_self]
   show (if src.still O=true then _ else _)=_
   rw[if_pos hs,zbq hs xs _ fun y hy=>h y (List.mem_cons_of_mem _ hy),List.append_assoc]
   cases hx:f x with
   | none=>rw[List.filterMap_cons_none hx];rfl
   | some y=>rw[List.filterMap_cons_some hx];rfl
theorem qr{elt:CE}{tgt:CT}{it:CI}{ifs:CEs}{src:Src}(hd:P.hd=false)(hit:evI P ρ it O=.ok src O)(hs:src.still O=true)(hl:src.xs.length≤line)(f:PyData→Option PyData)
 (h:∀ x∈src.xs,xn tgt (fun ρ O=>xo P ρ ifs O) (fun ρ O=>evE P ρ elt O) ρ x O=.ok (f x) O):evE P ρ (.comp elt tgt it ifs) O=.ok (.d (.list (src.xs.filterMap f))) O:=by
 show (if P.hd=true then .stuck else _:R za V)=_
 rw[if_neg (by rw[hd];decide),hit]
 show (if src.xs.length≤line then _ else _)=_
 rw[if_pos hl]
 exact zbq hs src.xs [] h
theorem zbz{elt:CE}{tgt:CT}{it:CI}{src:Src}(hd:P.hd=false)(hit:evI P ρ it O=.ok src O)(hs:src.still O=true)(hl:src.xs.length≤line)(f:PyData→PyData)
 (h:∀ x∈src.xs,∃ ρ',zt tgt (.d x) ρ=some ρ'∧evE P ρ' elt O=.ok (.d (f x)) O):evE P ρ (.comp elt tgt it .nil) O=.ok (.d (.list (src.xs.map f))) O:=by
 rw[← List.filterMap_eq_map]
 refine qr hd hit hs hl _ fun x hx=>?_
 obtain⟨ρ',h1,h2⟩:=h x hx
 unfold xn
 rw[h1]
 show R.bind (evE P ρ' elt O) _=_
 rw[h2];rfl
theorem wb{elt:CE}{tgt:CT}{it:CI}{src:Src}{xs:List PyData}(g:PyData→Bool)(hd:P.hd=false)(hit:evI P ρ it O=.ok src O)(hx:src.xs=xs)(hs:src.still O=true)(hl:xs.length≤line)
 (h:∀ x∈xs,∃ ρ',zt tgt (.d x) ρ=some ρ'∧evE P ρ' elt O=.ok (.d (.bool (g x))) O):evE P ρ (.prim .all (.cons (.comp elt tgt it .nil) .nil)) O=.ok (.d (.bool (xs.all g))) O:=by
 subst hx
 refine yc (by rw[hd];rfl) (zbz hd hit hs hl (fun x=>.bool (g x)) h) ?_
 exact zr9
end
end Mine
end
section
namespace Mine.L07
open PySem Mine
section
variable{P:Pg}{ρ:Loc}{O:za}{a b c:CE}
theorem zoy:evE P ρ (.min2 a b) O=if P.hd=true then .stuck else (evE P ρ a O).bind fun v O=>(evE P ρ b O).bind fun u O=>minV v u O:=rfl
theorem zo1:evE P ρ (.lenS a) O=if P.hd=true then .stuck else (evE P ρ a O).bind fun v O=>opt (((look O v).bind g6).map .d) O:=rfl
end
noncomputable abbrev PG(k:Nat)(hd:Bool):Pg:={ P with call:=zg P table k,hd:=hd }
theorem kb{k:Nat}{hd:Bool}{f:Nat}{fn:Fn}{args:List V}{O:za}(h:table f=some fn)(hl:args.length=fn.arity∧fn.arity≤fn.slots):zg P table (k+1) hd f args O=evFn (PG k hd) fn args O:=by
 rw[zg,h];exact if_pos hl
section
variable{k:Nat}{hd:Bool}{f:Nat}{fn:Fn}{args:List V}{O:za}{ρ ρ':Loc}{x:PyData}(h:table f=some fn)(hl:args.length=fn.arity∧fn.arity≤fn.slots)(hρ:args.map some++List.replicate (fn.slots - fn.arity) none=ρ)
include h hl hρ
theorem zex{O':za}(hb:evSs (PG k hd) fn.body ρ O=.ok (.ret (.d x)) (ρ',O++O')):zg P table (k+1) hd f args O=.ok (.d x) O:=by
 rw[kb h hl,evFn,hρ,hb]
 show R.ok (V.d x) ((O++O').take O.length)=_
 rw[List.take_left']
 rfl
theorem zh(hb:evSs (PG k hd) fn.body ρ O=.ok (.ret (.d x)) (ρ',O)):zg P table (k+1) hd f args O=.ok (.d x) O:=
 zex (O':=[]) h hl hρ (by rw[List.append_nil];exact hb)
theorem ziz(hb:evSs (PG k hd) fn.body ρ O=.ok .next (ρ',O)):zg P table (k+1) hd f args O=.ok (.d .none) O:=by
 rw[kb h hl,evFn,hρ,hb]
 show R.ok (V.d .none) (O.take O.length)=_
 rw[List.take_length]
end
noncomputable def good(m:Nat)(c:List Int):Prop:=c.length=m∧∀ i∈c,-1≤i∧i≤1
noncomputable def m4(m:Nat):Prop:=2≤m∧m≤5
theorem qc{m:Nat}(h:m4 m):m=2∨m=3∨m=4∨m=5:=by have:=h.1;have:=h.2;omega
structure Found(m:Nat)(cs:List (List Int)):Prop where
 good:∀ c∈cs,good m c
 nodup:cs.Nodup
 pos:1≤cs.length
 le:cs.length≤12
noncomputable def caseD(c:List Int):PyData:=.tuple (c.map .int)
noncomputable def zb(cs:List (List Int)):List PyData:=cs.map caseD
theorem zp{cs:List (List Int)}:(zb cs).length=cs.length:=List.length_map _
theorem dm:∀ (kss K:List (List Int)),(K++kss).Nodup→kss.foldl addK K=K++kss
 | [],K,_=>(List.append_nil K).symm
 | k::kss,K,h=>by
   have hk:k∉K:=fun hm=>(List.nodup_append.mp h).2.2 k hm k List.mem_cons_self rfl
   rw[List.foldl_cons]
   have:addK K k=K++[k]:=by unfold addK;rw[if_neg hk]
   rw[this,dm kss (K++[k]) (by rw[List.append_assoc];exact h),List.append_assoc];rfl
theorem vq:∀ cs:List (List Int),x9 (zb cs)=some cs
 | []=>rfl
 | c::cs=>by
   show ((intsOf (c.map .int)).bind fun a=>(x9 (zb cs)).map (a::·))=_
   rw[pq,vq cs];rfl
theorem zf3{cs:List (List Int)}(h:cs.length≤17)(hn:cs.Nodup):g6 (.list (zb cs))=some (.int cs.length):=by
 show ((x9 (zb cs)).bind fun kss=>if kss.length≤17 then some (PyData.int (yr kss kss.length).length) else none)=_
 rw[vq]
 show (if cs.length≤17 then _ else _)=_
 rw[if_pos h,show yr cs cs.length=cs by unfold yr;rw[List.take_length];exact dm cs [] hn]
noncomputable def allC:Nat→List (List Int)
 | 0=>[[]]
 | n+1=>(allC n).flatMap fun c=>[-1::c,0::c,1::c]
theorem zdr:∀ {m:Nat} {c:List Int},good m c→c∈allC m
 | 0,c,h=>by
   have:=List.length_eq_zero_iff.mp h.1
   subst this;exact List.mem_singleton.mpr rfl
 | m+1,c,h=>by
   cases c with
   | nil=>cases h.1
   | cons i c=>
     refine List.mem_flatMap.mpr ⟨c,zdr ⟨Nat.succ.inj h.1,fun j hj=>h.2 j (List.mem_cons_of_mem _ hj)⟩,?_⟩
     have hi:=h.2 i List.mem_cons_self
     have:i = -1∨i=0∨i=1:=by omega
     rcases this with rfl | rfl | rfl <;> simp
theorem jx{α β:Type}{f g:α→β}{l:List α}(h:l.map f=l.map g){x:α}(hx:x∈l):f x=g x:=List.map_inj_left.mp h x hx
noncomputable def Tk:Nat→za→za
 | 0,O=>O
 | n+1,O=>Tk n (O.take O.length)
theorem zl0:∀ (n:Nat) (O:za),Tk n O=O
 | 0,_=>rfl
 | n+1,O=>by rw[Tk,List.take_length];exact zl0 n O
noncomputable abbrev zew(m k:Nat)(O:za):Prop:=(allC m).map (fun c=>zg P table (k+2) false 2 [.d (.int m),.d (caseD c)] O)=(allC m).map fun _=>.ok (.d (.bool true)) ((Tk m O).take O.length)
theorem ztk{k:Nat}{O:za}:zew 2 k O:=by kernel_rfl
theorem ztj{k:Nat}{O:za}:zew 3 k O:=by kernel_rfl
theorem zti{k:Nat}{O:za}:zew 4 k O:=by kernel_rfl
theorem zth{k:Nat}{O:za}:zew 5 k O:=by kernel_rfl
theorem zei{k m:Nat}{c:List Int}{O:za}(hm:m4 m)(h:good m c):zg P table (k+2) false 2 [.d (.int m),.d (caseD c)] O=.ok (.d (.bool true)) O:=by
 have hc:=zdr h
 have hq:zew m k O:=by
  rcases qc hm with rfl | rfl | rfl | rfl
  ·exact ztk
  ·exact ztj
  ·exact zti
  ·exact zth
 refine (jx hq hc).trans ?_
 rw[zl0,List.take_length]
theorem zno{k m:Nat}{O:za}(hm:m4 m):zg P table (k+2) false 1 [.d (.int m)] O=.ok (.d .none) O:=by
 have:zg P table (k+2) false 1 [.d (.int m)] O=.ok (.d .none) ((O.take O.length).take O.length):=by rcases qc hm with rfl | rfl | rfl | rfl <;> kernel_rfl
 rw[this,List.take_length,List.take_length]
theorem zgj{k m:Nat}{cs:List (List Int)}{v:V}{O:za}(hm:m4 m)(f:Found m cs)(h:Seen O v (zb cs)):zg P table (k+3) false 3 [.d (.int m),v] O=.ok (.d .none) O:=by
 have f1:=f.pos
 have f2:=f.le
 have hl:(zb cs).length≤line:=by rw[zp];exact Nat.le_trans f.le (by decide)
 obtain⟨src,s1,s2,s3⟩:=h.src
 have pl:prim (PG (k+2) false) .len [v] O=.ok (.d (.int cs.length)) O:=by rw[zdv h hl,zp]
 have le:evE (PG (k+2) false) [some (.d (.int m)),some v,none] (.prim .len (.cons (.loc 1) .nil)) O=.ok (.d (.int cs.length)) O:=yc rfl rfl pl
 have d1:decide ((1:Int)≤(cs.length:Int))=true:=decide_eq_true (by omega)
 have d2:decide ((cs.length:Int)≤12)=true:=decide_eq_true (by omega)
 have d3:decide ((cs.length:Int) < (cs.length:Int))=false:=decide_eq_false (by omega)
 have t1:evE (PG (k+2) false) [some (.d (.int m)),some v,none] (.chain .le .le (.int 1) (.prim .len (.cons (.loc 1) .nil)) (.glob 2)) O=.ok (.d (.bool true)) O:=by
  rw[zl8,ji,zv,le,zv,v_le,d1]
  show cmpV .le (.d (.int cs.length)) (.d (.int 12)) O=_
  rw[v_le,d2]
 have t2:evE (PG (k+2) false) [some (.d (.int m)),some v,none] (.prim .all (.cons (.comp (.call 2 (.cons (.loc 0) (.cons (.loc 2) .nil))) (.name 2) (.e (.loc 1)) .nil) .nil)) O=.ok (.d (.bool true)) O:=by
  have:=wb (P:=PG (k+2) false) (ρ:=[some (.d (.int m)),some v,none]) (elt:=.call 2 (.cons (.loc 0) (.cons (.loc 2) .nil))) (tgt:=.name 2) (it:=.e (.loc 1)) (O:=O) (fun _=>true) rfl s1 s2 s3 hl fun x hx=>⟨[some (.d (.int m)),some v,some (.d x)],rfl,by
   obtain⟨c,hc,rfl⟩:=List.mem_map.mp hx
   exact zi rfl (zei hm (f.good c hc))⟩
  rw[this]
  congr 4
  exact List.all_eq_true.mpr fun _ _=>rfl
 have t3:evE (PG (k+2) false) [some (.d (.int m)),some v,none] (.lenS (.loc 1)) O=.ok (.d (.int cs.length)) O:=by
  rw[zo1,if_neg Bool.false_ne_true]
  show opt (((look O v).bind g6).map V.d) O=_
  rw[h.look]
  show opt ((g6 (.list (zb cs))).map V.d) O=_
  rw[zf3 (by omega) f.nodup];rfl
 refine ziz (fn:=c3) (ρ':=[some (.d (.int m)),some v,none]) rfl ⟨rfl,by decide⟩ rfl ?_
 refine (zc (x8 (zi rfl (zno hm)))).trans ?_
 refine (zc (zw (xi (w_nt (yc rfl rfl (zdz h))) (w_nt t1)))).trans ?_
 refine (zc (zw (w_nt t2))).trans ?_
 refine (zc (zw (zq t3 le ?_))).trans rfl
 rw[v_lt,d3]
theorem zd3{is:List Int}{j:Nat}(hl:is.length≤line)(hj:j < is.length):idxD (.list (is.map .int)) (.int j)=some (.int (is.getD j 0)):=by
 have e:(is.map PyData.int)[j]?=some (.int (is.getD j 0)):=by
  rw[List.getElem?_map,List.getD_eq_getElem?_getD,List.getElem?_eq_getElem hj];rfl
 unfold idxD items
 dsimp only
 rw[List.length_map,if_pos hl,if_pos (by omega)]
 exact e
theorem zd7{a:Int}{n:Nat}(hn:0 < n):∃ j:Nat,j < n∧Int.fmod a (n:Int)=(j:Int):=by
 have h1:Int.fmod a (n:Int)=a % (n:Int):=Int.fmod_eq_emod_of_nonneg _ (by omega)
 have h2:=Int.emod_nonneg a (show (n:Int)≠0 by omega)
 have h3:=Int.emod_lt_of_pos a (show (0:Int) < n by omega)
 exact⟨(a % (n:Int)).toNat,by omega,by rw[h1];omega⟩
theorem zcl{xs:List PyData}{j n:Nat}(hx:xs.length=n)(hl:n≤line)(hj:j < n):∃ y∈xs,idxD (.list xs) (.int j)=some y:=by
 have hj':j < xs.length:=by omega
 refine⟨xs[j],List.getElem_mem hj',?_⟩
 unfold idxD items
 dsimp only
 rw[hx,if_pos hl,if_pos (by omega)]
 exact List.getElem?_eq_getElem hj'
theorem zfz{a:Int}{n:Nat}{O:za}(hn:0 < n):∃ j:Nat,j < n∧Int.fmod a (n:Int)=(j:Int)∧binK .mod (.d (.int a)) (.d (.int (n:Int))) O=.ok (.d (.int (j:Int))) O:=by
 obtain⟨j,hj,e⟩:=zd7 (a:=a) hn
 exact⟨j,hj,e,by rw[zki (by omega),e]⟩
theorem zq3{k:Nat}{s:List Int}{j:Nat}{O:za}(hs:s.length≤63):zg P table (k+1) false 26 [.d (.list (s.map .int)),.d (.int j)] O=.ok (.d (.int (s.getD j 0))) O:=by
 refine zh (fn:=c26) (ρ:=[some (.d (.list (s.map .int))),some (.d (.int j))]) (ρ':=[some (.d (.list (s.map .int))),some (.d (.int j))]) rfl ⟨rfl,by decide⟩ rfl ?_
 have hlen:(s.map PyData.int).length≤line:=by rw[List.length_map];exact Nat.le_trans hs (by decide)
 by_cases h:j < s.length
 ·have hd:decide ((j:Int) < ((s.map PyData.int).length:Int))=true:=decide_eq_true (by rw[List.length_map];omega)
  simp only[c26,ji,x6,zc3,zax,ze9,ku,x7,zgs,zav,h9,jh,zv,ke,jy,zb6,zk0,zfp,v_lt,ve,Option.map_some,Option.join_some,List.getElem?_cons_zero,List.getElem?_cons_succ,Bool.not_true,Bool.and_false,Bool.false_eq_true,if_false,zlp,zce hlen,hd,zd3 (Nat.le_trans hs (by decide)) h]
 ·have hd:decide ((j:Int) < ((s.map PyData.int).length:Int))=false:=decide_eq_false (by rw[List.length_map];omega)
  have e:s.getD j 0=0:=by rw[List.getD_eq_getElem?_getD,List.getElem?_eq_none (by omega)];rfl
  simp only[c26,ji,x6,zc3,zax,ze9,ku,x7,zgs,zav,h9,jh,zv,ke,jy,zb6,zhe,zfp,zfq,v_lt,Option.join_some,List.getElem?_cons_zero,List.getElem?_cons_succ,Bool.not_true,Bool.and_false,Bool.false_eq_true,if_false,zlp,zce hlen,hd,e]
noncomputable def mixI(s:List Int)(j:Nat):Int:=Int.fdiv (Int.fmod ((s.getD j 0+7919 * (j:Int)+13) * 48271) 2147483647) 3
theorem u8{k:Nat}{s:List Int}{j:Nat}{O:za}(hs:s.length≤63):zg P table (k+2) false 27 [.d (.list (s.map .int)),.d (.int j)] O=.ok (.d (.int (mixI s j))) O:=by
 refine zh (fn:=c27) (ρ:=[some (.d (.list (s.map .int))),some (.d (.int j))]) (ρ':=[some (.d (.list (s.map .int))),some (.d (.int j))]) rfl ⟨rfl,by decide⟩ rfl ?_
 have e1:∀ n:Int,binK .mul (.d (.int 7919)) (.d (.int n)) O=.ok (.d (.int (7919 * n))) O:=fun n=>zkh (.inl (by decide))
 have e2:∀ n:Int,binK .mul (.d (.int n)) (.d (.int 48271)) O=.ok (.d (.int (n * 48271))) O:=fun n=>zkh (.inr (by decide))
 have e3:∀ n:Int,binK .mod (.d (.int n)) (.d (.int 2147483647)) O=.ok (.d (.int (Int.fmod n 2147483647))) O:=fun n=>zki (by decide)
 have e4:∀ n:Int,binK .fdiv (.d (.int n)) (.d (.int 3)) O=.ok (.d (.int (Int.fdiv n 3))) O:=fun n=>zcj ⟨by decide,by decide⟩
 simp only[c27,ji,x6,gf,x_call,ku,x7,zgs,h9,jh,zv,ke,jy,zfp,wt,Option.join_some,List.getElem?_cons_zero,List.getElem?_cons_succ,zq3 hs,e1,e2,e3,e4,mixI]
noncomputable def wn(m j:Nat):List (List Int):=match zg P table 1 false 31 [.d (.int m),.d (.int j)] [] with
 | .ok (.d (.list xs)) _=>(x9 xs).getD []
 | _=>[]
noncomputable def mjs:List (Nat×Nat):=[2,3,4,5].flatMap fun m=>[0,1,2,3,4].map fun j=>(m,j)
theorem zg3{m j:Nat}(hm:m4 m)(hj:j < 5):(m,j)∈mjs:=by
 have h2:j=0∨j=1∨j=2∨j=3∨j=4:=by omega
 exact List.mem_flatMap.mpr ⟨m,by rcases qc hm with rfl | rfl | rfl | rfl <;> simp,List.mem_map.mpr ⟨j,by rcases h2 with rfl | rfl | rfl | rfl | rfl <;> simp,rfl⟩⟩
noncomputable def zks(m:Nat)(c:List Int):Bool:=c.length == m && c.all fun i=>decide (-1≤i) && decide (i≤1)
theorem zgf{m:Nat}{c:List Int}(h:zks m c=true):good m c:=by
 unfold zks at h
 rw[Bool.and_eq_true,beq_iff_eq] at h
 refine⟨h.1,fun i hi=>?_⟩
 have:=List.all_eq_true.mp h.2 i hi
 rw[Bool.and_eq_true,decide_eq_true_eq,decide_eq_true_eq] at this
 exact this
theorem zjx:(mjs.all fun p=>(wn p.1 p.2).all (zks p.1) && decide (1≤(wn p.1 p.2).length) && decide ((wn p.1 p.2).length≤30))=true:=by kernel_rfl
theorem zh4{m j:Nat}(hm:m4 m)(hj:j < 5):(∀ c∈wn m j,good m c)∧1≤(wn m j).length∧(wn m j).length≤30:=by
 have h:=List.all_eq_true.mp zjx _ (zg3 hm hj)
 rw[Bool.and_eq_true,Bool.and_eq_true,decide_eq_true_eq,decide_eq_true_eq] at h
 exact⟨fun c hc=>zgf (List.all_eq_true.mp h.1.1 c hc),h.1.2,h.2⟩
theorem zmp{k:Nat}{xs:List PyData}:mjs.map (fun p=>zg P table (k+1) false 31 [.d (.int p.1),.d (.int p.2)] [Box.lst xs])=mjs.map fun p=>.ok (.d (.list (zb (wn p.1 p.2)))) [Box.lst xs]:=by kernel_rfl
theorem zqy{k m j:Nat}{xs:List PyData}(hm:m4 m)(hj:j < 5):zg P table (k+1) false 31 [.d (.int m),.d (.int j)] [Box.lst xs]=.ok (.d (.list (zb (wn m j)))) [Box.lst xs]:=jx zmp (zg3 hm hj)
theorem wy{ys:List PyData}{turn:PyData→Loc→za→R (Loc×za) Fl}(I:Nat→Loc→za→Prop):∀ (xs:List PyData) (i:Nat) (ρ:Loc) (O:za),(∀ j x,xs[j]?=some x→∀ ρ O,I (i+j) ρ O→∃ ρ' O',turn x ρ O=.ok .next (ρ',O')∧I (i+j+1) ρ' O')→I i ρ O →
 ∃ ρ' O',zu (.plain ys) turn xs ρ O=.ok .next (ρ',O')∧I (i+xs.length) ρ' O'
 | [],i,ρ,O,_,hi=>⟨ρ,O,rfl,hi⟩
 | x::xs,i,ρ,O,h,hi=>by
   obtain⟨ρ',O',e,hi'⟩:=h 0 x rfl ρ O hi
   obtain⟨ρ₂,O₂,e₂,hi₂⟩:=wy I xs (i+1) ρ' O' (fun j y hy ρ O hI=>by
    have:=h (j+1) y hy ρ O (by rw[show i+(j+1)=i+1+j by omega];exact hI)
    rwa [show i+(j+1)+1=i+1+j+1 by omega] at this) hi'
   refine⟨ρ₂,O₂,?_,by rw[List.length_cons,show i+(xs.length+1)=i+1+xs.length by omega];exact hi₂⟩
   rw[zu,e]
   show (if (Src.plain ys).still _=true then _ else _)=_
   rw[if_pos (show (Src.plain ys).still _=true from rfl)];exact e₂
theorem gv{a n:Int}{j:Nat}{x:PyData}(h:(zj a n)[j]?=some x):x=.int (a+j):=by
 unfold zj at h
 rw[List.getElem?_map] at h
 obtain⟨i,hi,rfl⟩:=Option.map_eq_some_iff.mp h
 have:=List.getElem?_eq_some_iff.mp hi
 obtain⟨h1,h2⟩:=this
 rw[List.getElem_range] at h2
 rw[h2]
theorem xp{a n:Int}:(zj a n).length=(n - a).toNat:=by unfold zj;rw[List.length_map,List.length_range]
noncomputable def toI:PyData→Int
 | .int n=>n
 | _=>0
noncomputable def pow3:List Int:=[1,3,9,27,81]
noncomputable def uw(n:Int)(m:Nat):List Int:=(List.range m).map fun i=>Int.fmod (Int.fdiv n (pow3.getD i 0)) 3 - 1
theorem zab{n:Int}{m:Nat}:good m (uw n m):=by
 refine⟨by unfold uw;rw[List.length_map,List.length_range],fun i hi=>?_⟩
 unfold uw at hi
 obtain⟨j,_,rfl⟩:=List.mem_map.mp hi
 obtain⟨t,ht,e⟩:=zd7 (a:=Int.fdiv n (pow3.getD j 0)) (n:=3) (by decide)
 have e:Int.fmod (Int.fdiv n (pow3.getD j 0)) 3=(t:Int):=e
 rw[e]
 omega
theorem zix{k:Nat}{ρ:Loc}{O:za}{n:Int}{m:Nat}{a b c:Nat}(hm:m4 m)(hc:c < ρ.length)(hac:a≠c)(ha:ρ[a]?=some (some (.d (.int n))))(hb:ρ[b]?=some (some (.d (.int m)))) :
 evE (PG k false) ρ (.comp (.bin .sub (.bin .mod (.bin .fdiv (.loc a) (.idx (.list (.cons (.int 1) (.cons (.int 3) (.cons (.int 9) (.cons (.int 27) (.cons (.int 81) .nil)))))) (.loc c))) (.int 3)) (.int 1)) (.name c) (.range (.int 0) (.loc b)) .nil) O=.ok (.d (.list ((uw n m).map .int))) O:=by
 have key:(uw n m).map PyData.int=(zj 0 m).map fun x=>.int (Int.fmod (Int.fdiv n (pow3.getD (toI x).toNat 0)) 3 - 1):=by
  unfold uw zj
  rw[List.map_map,List.map_map]
  have:((m:Int) - 0).toNat=m:=by omega
  rw[this]
  refine List.map_congr_left fun i hi=>?_
  show PyData.int _=PyData.int (Int.fmod (Int.fdiv n (pow3.getD (toI (.int ((0:Int)+i))).toNat 0)) 3 - 1)
  have:(toI (.int ((0:Int)+i))).toNat=i:=by show ((0:Int)+i).toNat=i;omega
  rw[this]
 rw[key]
 have hm5:=hm.2
 have hb':opt (ρ[b]?.join) O=.ok (.d (.int m)) O:=by rw[hb];rfl
 refine zo3 rfl (O':=O) (xs:=zj 0 m) (by
  simp only[wa,ji,x6,hb',zv]
  exact jc (by omega)) (by rw[xp];exact Nat.le_trans (show ((m:Int) - 0).toNat≤5 by omega) (by decide)) _ fun x hx=>⟨ρ.set c (some (.d x)),if_pos hc,zro,?_⟩
 obtain⟨i',hi',rfl⟩:=List.mem_map.mp hx
 rw[List.mem_range] at hi'
 have e0:((0:Int)+(i':Int))=(i':Int):=by omega
 have hi5:i' < 5:=by omega
 have ip:idxD (.list [.int 1,.int 3,.int 9,.int 27,.int 81]) (.int (i':Int))=some (.int (pow3.getD i' 0)):=zd3 (is:=pow3) (by decide) hi5
 have hp3:pow3.getD i' 0≠0∧(pow3.getD i' 0).natAbs < 1073741824:=by
  have:i'=0∨i'=1∨i'=2∨i'=3∨i'=4:=by omega
  rcases this with rfl | rfl | rfl | rfl | rfl <;> decide
 have fp:binK .fdiv (.d (.int n)) (.d (.int (pow3.getD i' 0))) O=.ok (.d (.int (Int.fdiv n (pow3.getD i' 0)))) O:=zcj hp3
 have m3:∀ z:Int,binK .mod (.d (.int z)) (.d (.int 3)) O=.ok (.d (.int (Int.fmod z 3))) O:=fun z=>zki (by decide)
 have et:(toI (.int (i':Int))).toNat=i':=by show (i':Int).toNat=i';omega
 rw[e0]
 have h1:opt ((ρ.set c (some (.d (.int (i':Int)))))[a]?.join) O=.ok (.d (.int n)) O:=by rw[List.getElem?_set_ne (Ne.symm hac),ha];rfl
 have h2:opt ((ρ.set c (some (.d (.int (i':Int)))))[c]?.join) O=.ok (.d (.int (i':Int))) O:=by rw[List.getElem?_set_self hc];rfl
 simp only[gf,zax,gd,x7,ku,ji,x6,h1,h2,zv,jy,zc0,zcz,Option.map_some,ve,ip,fp,m3,vi,et]
theorem app0{xs:List PyData}{x:PyData}(h:xs.length < line):meth .append (.box 0) [.d x] [Box.lst xs]=.ok (.d .none) [Box.lst (xs++[x])]:=by
 show (if xs.length < line then _ else _)=_
 rw[if_pos h];rfl
theorem app1{b:Box}{xs:List PyData}{x:PyData}(h:xs.length < line):meth .append (.box 1) [.d x] [b,Box.lst xs]=.ok (.d .none) [b,Box.lst (xs++[x])]:=by
 show (if xs.length < line then _ else _)=_
 rw[if_pos h];rfl
theorem uv{cs:List (List Int)}{c:List Int}:zb cs++[.tuple (c.map .int)]=zb (cs++[c]):=by unfold zb;rw[List.map_append];rfl
theorem dv{c b:Int}{O:za}(h:b≠0∧b.natAbs < 1073741824):binK .fdiv (.d (.int c)) (.d (.int b)) O=.ok (.d (.int (Int.fdiv c b))) O:=zcj h
theorem md(a:Int)(n:Nat)(O:za)(hn:0 < n):∃ j:Nat,j < n∧binK .mod (.d (.int a)) (.d (.int (n:Int))) O=.ok (.d (.int (j:Int))) O:=let ⟨j,hj,_,e⟩:=zfz (a:=a) (O:=O) hn;⟨j,hj,e⟩
noncomputable def xx:CSs:=(.cons (.asg (.name 8) (.call 27 (.cons (.loc 0) (.cons (.bin .add (.bin .add (.loc 1) (.int 1)) (.loc 7)) .nil)))) (.cons (.expr (.meth .append (.loc 6) (.cons (.prim .tuple (.cons (.comp (.bin .sub (.bin .mod (.bin .fdiv (.loc 8) (.idx (.list (.cons (.int 1) (.cons (.int 3) (.cons (.int 9) (.cons (.int 27) (.cons (.int 81) .nil)))))) (.loc 11))) (.int 3)) (.int 1)) (.name 11) (.range (.int 0) (.loc 4)) .nil) .nil)) .nil))) .nil))
noncomputable def L1(s:List Int)(n0:Int)(m w:Nat)(pv:V)(a b:Option V):Loc:=[some (.d (.list (s.map .int))),some (.d (.int 6)),some (.d (.int 4)),some (.d (.int n0)),some (.d (.int m)),some (.d (.int w)),some pv,a,b,none,none,none]
inductive AtD(s:List Int)(n0:Int)(m w:Nat)(i:Nat):Loc→za→Prop
 | mk (a b:Option V) (cs:List (List Int)) (g:∀ c∈cs,good m c) (len:cs.length=i):AtD s n0 m w i (L1 s n0 m w (.box 0) a b) [Box.lst (zb cs)]
theorem zpg{k:Nat}{s:List Int}{n0:Int}{m w i:Nat}{ρ:Loc}{O:za}(hs:s.length≤63)(hm:m4 m)(hi:i < 100)(h:AtD s n0 m w i ρ O) :
 ∃ ρ' O',ya (PG (k+2) false) (.name 7) xx (.int (0+(i:Int))) ρ O=.ok .next (ρ',O')∧AtD s n0 m w (i+1) ρ' O':=by
 obtain⟨a,b,cs,g,len⟩:=h
 have n1:=u8 (k:=k) (j:=7+i) (O:=[Box.lst (zb cs)]) hs
 rw[show ((7+i:Nat):Int)=(6:Int)+1+(0+(i:Int)) by omega] at n1
 generalize mixI s (7+i)=n at n1
 have hl':(zb cs).length < line:=by rw[zp,len];exact Nat.lt_of_lt_of_le hi (by decide)
 have cc:=zix (k:=k+2) (ρ:=L1 s n0 m w (.box 0) (some (.d (.int (0+(i:Int))))) (some (.d (.int n)))) (O:=[Box.lst (zb cs)]) (n:=n) (m:=m) (a:=8) (b:=4) (c:=11) hm (by show 11 < 12;decide) (by decide) rfl rfl
 have ap:=app0 (x:=.tuple ((uw n m).map .int)) hl'
 rw[uv] at ap
 refine⟨L1 s n0 m w (.box 0) (some (.d (.int (0+(i:Int))))) (some (.d (.int n))),_,?_,.mk _ _ (cs++[uw n m]) (fun c hc=>(List.mem_append.mp hc).elim (g c) fun h=>List.mem_singleton.mp h ▸ zab) (by rw[List.length_append,len];rfl)⟩
 show evSs (PG (k+2) false) xx (L1 s n0 m w (.box 0) (some (.d (.int (0+(i:Int))))) b) [Box.lst (zb cs)]=_
 unfold xx
 exact (zc (z5 (ρ':=L1 s n0 m w (.box 0) (some (.d (.int (0+(i:Int))))) (some (.d (.int n)))) (zi rfl n1) rfl rfl)).trans ((zc (x8 (w6 rfl rfl (zo (yc rfl cc (zpx (by rw[List.length_map,(zab (n:=n) (m:=m)).1];exact Nat.le_trans hm.2 (by decide)))) rfl) ap))).trans rfl)
theorem zp6{k:Nat}{s:List Int}{n0:Int}{m w:Nat}(hs:s.length≤63)(hm:m4 m):∃ a b cs,zu (.plain (zj 0 12)) (ya (PG (k+2) false) (.name 7) xx) (zj 0 12) (L1 s n0 m w (.box 0) none none) [Box.lst []]=.ok .next (L1 s n0 m w (.box 0) a b,[Box.lst (zb cs)])∧(∀ c∈cs,good m c)∧cs.length=12:=by
 obtain⟨ρ',O',e,h⟩:=wy (ys:=zj 0 12) (turn:=ya (PG (k+2) false) (.name 7) xx) (AtD s n0 m w) (zj 0 12) 0 (L1 s n0 m w (.box 0) none none) [Box.lst []]
  (fun j x hx ρ O h=>by
    have hj:j < 12:=by have:=(List.getElem?_eq_some_iff.mp hx).1;rw[xp] at this;exact this
    rw[gv hx]
    rw[Nat.zero_add] at h ⊢
    exact zpg hs hm (by omega) h) (.mk none none [] (fun _ h=>nomatch h) rfl)
 obtain⟨a,b,cs,g,len⟩:=h
 exact⟨a,b,cs,e,g,by rw[len,xp];rfl⟩
theorem zec{a c:List Int}:PyData.eqv (caseD a) (caseD c)=decide (a=c):=qh a c
theorem g9{c:List Int}:(caseD c).canLay0=true:=lays c
theorem xq:∀ cs:List (List Int),PyData.canLayAll0 (zb cs)=true
 | []=>rfl
 | c::cs=>by
   show ((caseD c).canLay0 && PyData.canLayAll0 (zb cs))=true
   rw[g9,xq cs];rfl
theorem dw(c:List Int):(caseD c).depth≤1:=Nat.succ_le_succ (qj c)
theorem ze4{c:List Int}:∀ cs:List (List Int),((zb cs).any fun y=>PyData.eqv y (caseD c))=decide (c∈cs)
 | []=>rfl
 | a::cs=>by
   show (PyData.eqv (caseD a) (caseD c) || (zb cs).any fun y=>PyData.eqv y (caseD c))=_
   rw[ze4 cs,zec]
   by_cases h:a=c
   ·subst h;simp
   ·have h':¬ c=a:=fun e=>h e.symm
    simp[h,h']
theorem zkp{c:List Int}{cs:List (List Int)}:inD (caseD c) (zb cs)=some (decide (c∈cs)):=by
 unfold inD
 have h:=dw c
 rw[g9,xq,ze4,if_pos]
 rw[decide_eq_true (show (caseD c).depth≤100 by omega)];rfl
theorem zp1{b:Box}{c:List Int}{cs:List (List Int)}:cmpV .notin (.d (caseD c)) (.box 1) [b,Box.lst (zb cs)]=.ok (.d (.bool !decide (c∈cs))) [b,Box.lst (zb cs)]:=by
 show opt (((inD (caseD c) (zb cs)).map (!·)).map fun b=>V.d (.bool b)) _=_
 rw[zkp];rfl
theorem y9{k:Nat}{v:V}{xs:List PyData}{O:za}(h:look O v=some (.list xs))(hl:xs.length≤line):prim (PG k false) .len [v] O=.ok (.d (.int xs.length)) O:=kg h (if_pos hl)
theorem zkr{v:V}{k x:PyData}{O:za}(h:look O v=some x):idxV v (.d k) O=opt ((idxD x k).map .d) O:=by
 show opt (((look O v).bind fun x=>idxD x k).map V.d) O=_
 rw[h];rfl
noncomputable def jd:CSs:=(.cons (.asg (.name 10) (.idx (.loc 6) (.bin .mod (.bin .add (.bin .fdiv (.loc 8) (.int 8)) (.bin .mul (.loc 7) (.bin .add (.int 1) (.bin .mod (.bin .fdiv (.loc 8) (.int 64)) (.int 2))))) (.prim .len (.cons (.loc 6) .nil))))) (.cons (.ife (.cmp .notin (.loc 10) (.loc 9)) (.cons (.expr (.meth .append (.loc 9) (.cons (.loc 10) .nil))) .nil) .nil) .nil))
noncomputable def L2(s:List Int)(n0 nn:Int)(m w:Nat)(pv:V)(a b:Option V):Loc:=[some (.d (.list (s.map .int))),some (.d (.int 6)),some (.d (.int 4)),some (.d (.int n0)),some (.d (.int m)),some (.d (.int w)),some pv,a,some (.d (.int nn)),some (.box 1),b,none]
noncomputable def zc1(pv:V)(b0:Box)(pcs:List (List Int)):Prop:=∀ b1,look [b0,b1] pv=some (.list (zb pcs))
inductive AtP(s:List Int)(n0 nn:Int)(m w:Nat)(pv:V)(b0:Box)(i:Nat):Loc→za→Prop
 | mk (a b:Option V) (cs:List (List Int)) (g:∀ c∈cs,good m c) (nd:cs.Nodup) (le:cs.length≤i) (pos:0 < i→1≤cs.length):AtP s n0 nn m w pv b0 i (L2 s n0 nn m w pv a b) [b0,Box.lst (zb cs)]
theorem zpc{k:Nat}{s:List Int}{n0 nn:Int}{m w i:Nat}{pv:V}{b0:Box}{ρ:Loc}{O:za}{pcs:List (List Int)}(hp:zc1 pv b0 pcs)(h1:1≤pcs.length)(h2:pcs.length≤100)(hg:∀ c∈pcs,good m c)(hi:i < 100)(h:AtP s n0 nn m w pv b0 i ρ O) :
 ∃ ρ' O',ya (PG (k+2) false) (.name 7) jd (.int (0+(i:Int))) ρ O=.ok .next (ρ',O')∧AtP s n0 nn m w pv b0 (i+1) ρ' O':=by
 obtain⟨a,b,cs,g,nd,le,pos⟩:=h
 have hlp:(zb pcs).length≤line:=by rw[zp];exact Nat.le_trans h2 (by decide)
 have pl:=y9 (k:=k+2) (hp (Box.lst (zb cs))) hlp
 obtain⟨j2,_,e2⟩:=md (Int.fdiv nn 64) 2 [b0,Box.lst (zb cs)] (by decide)
 obtain⟨j,hj,ej⟩:=md (Int.fdiv nn 8+(0+(i:Int)) * (1+(j2:Int))) (zb pcs).length [b0,Box.lst (zb cs)] (by rw[zp];exact h1)
 obtain⟨y,hy,ey⟩:=zcl (xs:=zb pcs) rfl hlp hj
 obtain⟨c,hc,rfl⟩:=List.mem_map.mp hy
 have ix:=zkr (k:=.int (j:Int)) (hp (Box.lst (zb cs)))
 rw[ey] at ix
 have ap:=app1 (b:=b0) (x:=caseD c) (xs:=zb cs) (by rw[zp];exact Nat.lt_of_le_of_lt le (Nat.lt_of_lt_of_le hi (by decide)))
 have apc:zb cs++[caseD c]=zb (cs++[c]):=uv
 rw[apc] at ap
 have e10:evS (PG (k+2) false) (.asg (.name 10) (.idx (.loc 6) (.bin .mod (.bin .add (.bin .fdiv (.loc 8) (.int 8)) (.bin .mul (.loc 7) (.bin .add (.int 1) (.bin .mod (.bin .fdiv (.loc 8) (.int 64)) (.int 2))))) (.prim .len (.cons (.loc 6) .nil))))) (L2 s n0 nn m w pv (some (.d (.int (0+(i:Int))))) b) [b0,Box.lst (zb cs)]=.ok .next (L2 s n0 nn m w pv (some (.d (.int (0+(i:Int))))) (some (.d (caseD c))),[b0,Box.lst (zb cs)]):=
  z5 (jj rfl (yb (yb (yb rfl rfl (dv (by decide))) (yb rfl (yb rfl (yb (yb rfl rfl (dv (by decide))) rfl e2) wt) (zkh (.inl (by omega)))) wt) (yc rfl rfl pl) ej) ix) rfl rfl
 have ht:evE (PG (k+2) false) (L2 s n0 nn m w pv (some (.d (.int (0+(i:Int))))) (some (.d (caseD c)))) (.cmp .notin (.loc 10) (.loc 9)) [b0,Box.lst (zb cs)]=.ok (.d (.bool !decide (c∈cs))) [b0,Box.lst (zb cs)]:=zq rfl rfl zp1
 refine⟨L2 s n0 nn m w pv (some (.d (.int (0+(i:Int))))) (some (.d (caseD c))),[b0,Box.lst (zb (if c∈cs then cs else cs++[c]))],?_,?_⟩
 ·show evSs (PG (k+2) false) jd (L2 s n0 nn m w pv (some (.d (.int (0+(i:Int))))) b) [b0,Box.lst (zb cs)]=_
  unfold jd
  refine (zc e10).trans ?_
  by_cases hcm:c∈cs
  ·rw[decide_eq_true hcm] at ht
   rw[if_pos hcm]
   exact (zc (zw ht)).trans rfl
  ·rw[decide_eq_false hcm] at ht
   rw[if_neg hcm]
   have happ:evS (PG (k+2) false) (.expr (.meth .append (.loc 9) (.cons (.loc 10) .nil))) (L2 s n0 nn m w pv (some (.d (.int (0+(i:Int))))) (some (.d (caseD c)))) [b0,Box.lst (zb cs)]=.ok .next (L2 s n0 nn m w pv (some (.d (.int (0+(i:Int))))) (some (.d (caseD c))),[b0,Box.lst (zb (cs++[c]))]):=x8 (w6 rfl rfl (zo rfl rfl) ap)
   rw[jh,w_if ht]
   show R.bind (evSs (PG (k+2) false) (.cons (.expr (.meth .append (.loc 9) (.cons (.loc 10) .nil))) .nil) _ _) _=_
   rw[zc happ]
   rfl
 ·by_cases hcm:c∈cs
  ·rw[if_pos hcm];exact .mk _ _ cs g nd (Nat.le_succ_of_le le) fun _=>List.length_pos_of_mem hcm
  ·rw[if_neg hcm]
   refine .mk _ _ (cs++[c]) (fun d hd=>(List.mem_append.mp hd).elim (g d) fun h=>List.mem_singleton.mp h ▸ hg c hc) (List.nodup_append.mpr ⟨nd,by simp,fun a ha b hb=>by rw[List.mem_singleton.mp hb];exact fun e=>hcm (e ▸ ha)⟩) ?_ fun _=>?_
   ·rw[List.length_append];exact Nat.succ_le_succ le
   ·rw[List.length_append];exact Nat.le_add_left _ _
theorem zp4{k:Nat}{s:List Int}{n0 nn:Int}{m w n:Nat}{pv:V}{b0:Box}{a:Option V}{pcs:List (List Int)}(hp:zc1 pv b0 pcs)(h1:1≤pcs.length)(h2:pcs.length≤100)(hg:∀ c∈pcs,good m c)(hn:1≤n∧n≤12) :
 ∃ ρ' O',zu (.plain (zj 0 n)) (ya (PG (k+2) false) (.name 7) jd) (zj 0 n) (L2 s n0 nn m w pv a none) [b0,Box.lst []]=.ok .next (ρ',O')∧AtP s n0 nn m w pv b0 n ρ' O':=by
 obtain⟨ρ',O',e,h⟩:=wy (ys:=zj 0 n) (turn:=ya (PG (k+2) false) (.name 7) jd) (AtP s n0 nn m w pv b0) (zj 0 n) 0 (L2 s n0 nn m w pv a none) [b0,Box.lst []]
  (fun j x hx ρ O h=>by
    have hj:j < n:=by have:=(List.getElem?_eq_some_iff.mp hx).1;rw[xp] at this;omega
    rw[gv hx]
    rw[Nat.zero_add] at h ⊢
    exact zpc hp h1 h2 hg (by omega) h) (.mk a none [] (fun _ h=>nomatch h) List.nodup_nil (Nat.le_refl _) fun h=>absurd h (Nat.lt_irrefl 0))
 refine⟨ρ',O',e,?_⟩
 rwa [xp,show (0:Nat)+((n:Int) - 0).toNat=n by omega] at h
noncomputable def zdj:CSs:=(.cons (.for_ (.name 7) (.range (.int 0) (.idx (.list (.cons (.bin .add (.int 1) (.bin .mod (.loc 8) (.loc 5))) (.cons (.loc 5) .nil))) (.prim .int (.cons (.and_ (.cmp .eq (.loc 5) (.int 12)) (.cmp .gt (.loc 4) (.int 3))) .nil)))) jd) (.cons (.ret (.tup (.cons (.loc 4) (.cons (.loc 9) .nil)))) .nil))
theorem zoj{k:Nat}{b:Bool}{O:za}:prim (PG k false) .int [.d (.bool b)] O=.ok (.d (.int (if b then 1 else 0))) O:=rfl
theorem zfc{P:Pg}{ρ:Loc}{O:za}{a b:CE}(h:∃ x,evE P ρ a O=.ok (.d (.bool x)) O)(h':∃ x,evE P ρ b O=.ok (.d (.bool x)) O):∃ x,evE P ρ (.and_ a b) O=.ok (.d (.bool x)) O:=by
 obtain⟨x,e⟩:=h
 cases x with
 | true=>exact let ⟨y,e'⟩:=h';⟨y,kx e e'⟩
 | false=>exact⟨false,zfd e⟩
theorem znk{k:Nat}{s:List Int}{n0 nn:Int}{m w:Nat}{pv:V}{b0:Box}{a:Option V}{pcs:List (List Int)}(hp:zc1 pv b0 pcs)(h1:1≤pcs.length)(h2:pcs.length≤100)(hg:∀ c∈pcs,good m c)(hw:1≤w∧w≤12) :
 ∃ ρ' cs,evSs (PG (k+2) false) zdj (L2 s n0 nn m w pv a none) [b0,Box.lst []]=.ok (.ret (.tm [.x (.int m),.b 1])) (ρ',[b0,Box.lst (zb cs)])∧Found m cs:=by
 obtain⟨j,hj,ej⟩:=md nn w [b0,Box.lst []] (by omega)
 obtain⟨bb,hb⟩:=zfc (P:=PG (k+2) false) (ρ:=L2 s n0 nn m w pv a none) (O:=[b0,Box.lst []]) (a:=.cmp .eq (.loc 5) (.int 12)) (b:=.cmp .gt (.loc 4) (.int 3)) ⟨_,zq rfl rfl eq_int⟩ ⟨_,zq rfl rfl v_gt⟩
 have hn:∃ n:Nat,(1≤n∧n≤12)∧evE (PG (k+2) false) (L2 s n0 nn m w pv a none) (.idx (.list (.cons (.bin .add (.int 1) (.bin .mod (.loc 8) (.loc 5))) (.cons (.loc 5) .nil))) (.prim .int (.cons (.and_ (.cmp .eq (.loc 5) (.int 12)) (.cmp .gt (.loc 4) (.int 3))) .nil))) [b0,Box.lst []]=.ok (.d (.int (n:Int))) [b0,Box.lst []]:=by
  have hl:evE (PG (k+2) false) (L2 s n0 nn m w pv a none) (.list (.cons (.bin .add (.int 1) (.bin .mod (.loc 8) (.loc 5))) (.cons (.loc 5) .nil))) [b0,Box.lst []]=.ok (.d (.list [.int ((1+j:Nat):Int),.int (w:Int)])) [b0,Box.lst []]:=by
   rw[gd,zo (yb rfl (yb rfl rfl ej) wt) rfl,show (1:Int)+(j:Int)=((1+j:Nat):Int) by omega];rfl
  cases bb with
  | true=>exact⟨w,hw,jj hl (yc rfl hb zoj) rfl⟩
  | false=>exact⟨1+j,by omega,jj hl (yc rfl hb zoj) rfl⟩
 obtain⟨n,hn,en⟩:=hn
 obtain⟨ρ',O',ef,hat⟩:=zp4 (k:=k) (s:=s) (n0:=n0) (nn:=nn) (m:=m) (w:=w) (n:=n) (a:=a) hp h1 h2 hg hn
 have hI:evI (PG (k+2) false) (L2 s n0 nn m w pv a none) (.range (.int 0) (.idx (.list (.cons (.bin .add (.int 1) (.bin .mod (.loc 8) (.loc 5))) (.cons (.loc 5) .nil))) (.prim .int (.cons (.and_ (.cmp .eq (.loc 5) (.int 12)) (.cmp .gt (.loc 4) (.int 3))) .nil)))) [b0,Box.lst []]=.ok (.plain (zj 0 n)) [b0,Box.lst []]:=by
  rw[wa,ji,zv,en,zv]
  exact jc (by omega)
 obtain⟨a',b',cs,g,nd,le,pos⟩:=hat
 refine⟨L2 s n0 nn m w pv a' b',cs,?_,g,nd,pos hn.1,Nat.le_trans le hn.2⟩
 generalize zj 0 (n:Int)=rs at ef hI
 unfold zdj
 refine (zc ?_).trans (zd (zz rfl))
 rw[kw,if_neg Bool.false_ne_true,hI]
 exact ef
noncomputable def zdk:CSs:=(.cons (.asg (.name 9) (.boxed (.list .nil))) (.cons (.asg (.name 8) (.bin .fdiv (.loc 3) (.int 36))) (.cons (.ife (.and_ (.cmp .gt (.loc 4) (.int 3)) (.and_ (.cmp .eq (.bin .mod (.bin .fdiv (.loc 8) (.int 256)) (.int 4)) (.int 1)) (.cmp .gt (.bin .mod (.bin .fdiv (.loc 3) (.int 6)) (.int 6)) (.int 0)))) (.cons (.asg (.name 5) (.int 12)) .nil) .nil) zdj)))
theorem zhi{k:Nat}{s:List Int}{n0:Int}{m w:Nat}{pv:V}{b0:Box}{a b:Option V}{pcs:List (List Int)}(hp:zc1 pv b0 pcs)(h1:1≤pcs.length)(h2:pcs.length≤100)(hg:∀ c∈pcs,good m c)(hw:1≤w∧w≤12) :
 ∃ ρ' cs,evSs (PG (k+2) false) zdk (L1 s n0 m w pv a b) [b0]=.ok (.ret (.tm [.x (.int m),.b 1])) (ρ',[b0,Box.lst (zb cs)])∧Found m cs:=by
 have st:=fun w hw=>znk (k:=k) (s:=s) (n0:=n0) (nn:=Int.fdiv n0 36) (w:=w) (a:=a) hp h1 h2 hg hw
 obtain⟨j4,_,e4⟩:=md (Int.fdiv (Int.fdiv n0 36) 256) 4 [b0,Box.lst []] (by decide)
 obtain⟨j6,_,e6⟩:=md (Int.fdiv n0 6) 6 [b0,Box.lst []] (by decide)
 have t2:∃ x,evE (PG (k+2) false) (L2 s n0 (Int.fdiv n0 36) m w pv a none) (.cmp .eq (.bin .mod (.bin .fdiv (.loc 8) (.int 256)) (.int 4)) (.int 1)) [b0,Box.lst []]=.ok (.d (.bool x)) [b0,Box.lst []]:=⟨_,zq (yb (yb rfl rfl (dv (by decide))) rfl e4) rfl eq_int⟩
 have t3:∃ x,evE (PG (k+2) false) (L2 s n0 (Int.fdiv n0 36) m w pv a none) (.cmp .gt (.bin .mod (.bin .fdiv (.loc 3) (.int 6)) (.int 6)) (.int 0)) [b0,Box.lst []]=.ok (.d (.bool x)) [b0,Box.lst []]:=⟨_,zq (yb (yb rfl rfl (dv (by decide))) rfl e6) rfl v_gt⟩
 obtain⟨bb,ht⟩:=zfc (a:=.cmp .gt (.loc 4) (.int 3)) ⟨_,zq rfl rfl v_gt⟩ (zfc t2 t3)
 have s12:evSs (PG (k+2) false) zdk (L1 s n0 m w pv a b) [b0]=(evS (PG (k+2) false) (.ife (.and_ (.cmp .gt (.loc 4) (.int 3)) (.and_ (.cmp .eq (.bin .mod (.bin .fdiv (.loc 8) (.int 256)) (.int 4)) (.int 1)) (.cmp .gt (.bin .mod (.bin .fdiv (.loc 3) (.int 6)) (.int 6)) (.int 0)))) (.cons (.asg (.name 5) (.int 12)) .nil) .nil) (L2 s n0 (Int.fdiv n0 36) m w pv a none) [b0,Box.lst []]).bind (seqK fun S=>evSs (PG (k+2) false) zdj S.1 S.2):=by
  unfold zdk
  exact (zc (z5 (v:=.box 1) (O':=[b0,Box.lst []]) rfl rfl rfl)).trans (zc (z5 (yb rfl rfl (dv (by decide))) rfl rfl))
 rw[s12]
 cases bb with
 | false=>rw[zw ht];exact st w hw
 | true=>
   have h12:evS (PG (k+2) false) (.asg (.name 5) (.int 12)) (L2 s n0 (Int.fdiv n0 36) m w pv a none) [b0,Box.lst []]=.ok .next (L2 s n0 (Int.fdiv n0 36) m 12 pv a none,[b0,Box.lst []]):=z5 rfl rfl rfl
   rw[w_if ht]
   show ∃ ρ' cs,R.bind (evSs (PG (k+2) false) (.cons (.asg (.name 5) (.int 12)) .nil) _ _) _=_∧_
   rw[zc h12]
   exact st 12 ⟨by decide,by decide⟩
theorem zqq{m:Nat}{cs:List (List Int)}{b0:Box}:fin 0 false (.tm [.x (.int m),.b 1]) [b0,Box.lst (zb cs)]=.ok (.d (.tuple [.int m,.list (zb cs)])) []:=rfl
noncomputable def zdl:CSs:=(.cons (.ife (.cmp .gt (.bin .mod (.bin .fdiv (.loc 3) (.int 6)) (.int 6)) (.int 0)) (.cons (.asg (.name 6) (.call 31 (.cons (.loc 4) (.cons (.bin .sub (.bin .mod (.bin .fdiv (.loc 3) (.int 6)) (.int 6)) (.int 1)) .nil)))) .nil) .nil) zdk)
theorem znl{k:Nat}{s:List Int}{n0:Int}{m w:Nat}{a b:Option V}{dcs:List (List Int)}(hm:m4 m)(hw:1≤w∧w≤12)(hdg:∀ c∈dcs,good m c)(hdl:dcs.length=12) :
 ∃ ρ' b0 cs,evSs (PG (k+2) false) zdl (L1 s n0 m w (.box 0) a b) [Box.lst (zb dcs)]=.ok (.ret (.tm [.x (.int m),.b 1])) (ρ',[b0,Box.lst (zb cs)])∧Found m cs:=by
 have d6:∀ O,binK .fdiv (.d (.int n0)) (.d (.int 6)) O=.ok (.d (.int (Int.fdiv n0 6))) O:=fun O=>zcj ⟨by decide,by decide⟩
 obtain⟨j6,hj6,_,ej⟩:=zfz (a:=Int.fdiv n0 6) (n:=6) (O:=[Box.lst (zb dcs)]) (by decide)
 have ej:binK .mod (.d (.int (Int.fdiv n0 6))) (.d (.int 6)) [Box.lst (zb dcs)]=.ok (.d (.int (j6:Int))) [Box.lst (zb dcs)]:=ej
 cases hq:decide ((j6:Int) > 0) with
 | false=>
   obtain⟨ρ',cs,e,f⟩:=zhi (k:=k) (s:=s) (n0:=n0) (m:=m) (w:=w) (pv:=.box 0) (b0:=Box.lst (zb dcs)) (a:=a) (b:=b) (pcs:=dcs) (fun _=>rfl) (by omega) (by omega) hdg hw
   unfold L1 at e
   exact⟨ρ',Box.lst (zb dcs),cs,by unfold zdl L1;simp only[ji,x6,gf,zc3,x_call,ku,x7,wc,zav,h9,jh,zv,ke,jy,zb6,zhe,zfq,v_gt,Option.join_some,List.getElem?_cons_zero,List.getElem?_cons_succ,Bool.not_true,Bool.and_false,Bool.false_eq_true,if_false,nm_1,d6,ej,hq,e],f⟩
 | true=>
   have hj1:1≤j6:=by have:=of_decide_eq_true hq;omega
   obtain⟨pg,pp,pl⟩:=zh4 (m:=m) (j:=j6 - 1) hm (by omega)
   have ep:=zqy (k:=k+1) (m:=m) (j:=j6 - 1) (xs:=zb dcs) hm (by omega)
   generalize wn m (j6 - 1)=pcs at pg pp pl ep
   have ejj:((j6:Int) - 1)=((j6 - 1:Nat):Int):=by omega
   obtain⟨ρ',cs,e,f⟩:=zhi (k:=k) (s:=s) (n0:=n0) (m:=m) (w:=w) (pv:=.d (.list (zb pcs))) (b0:=Box.lst (zb dcs)) (a:=a) (b:=b) (pcs:=pcs) (fun _=>rfl) pp (by omega) pg hw
   unfold L1 at e
   exact⟨ρ',Box.lst (zb dcs),cs,by unfold zdl L1;simp only[ji,x6,gf,zc3,x_call,ku,x7,wc,zav,h9,jh,zv,ke,jy,zb6,zk0,zfq,v_gt,vi,Option.join_some,List.getElem?_cons_zero,List.getElem?_cons_succ,Bool.not_true,Bool.and_false,Bool.false_eq_true,if_true,if_false,nm_1,asgR,zad,List.set_cons_zero,List.set_cons_succ,List.length_cons,List.length_nil,Nat.reduceAdd,Nat.reduceLT,Nat.zero_add,d6,ej,hq,ejj,ep,e],f⟩
theorem zir{k:Nat}{s:List Int}{n0:Int}{m w:Nat}(hs:s.length≤63)(hm:m4 m):∃ a b cs,evS (PG (k+2) false) (.for_ (.name 7) (.range (.int 0) (.int 12)) xx) (L1 s n0 m w (.box 0) none none) [Box.lst []]=.ok .next (L1 s n0 m w (.box 0) a b,[Box.lst (zb cs)])∧(∀ c∈cs,good m c)∧cs.length=12:=by
 obtain⟨a,b,cs,ed,hg,hl⟩:=zp6 (k:=k) (s:=s) (n0:=n0) (m:=m) (w:=w) hs hm
 refine⟨a,b,cs,?_,hg,hl⟩
 have hI:evI (PG (k+2) false) (L1 s n0 m w (.box 0) none none) (.range (.int 0) (.int 12)) [Box.lst []]=.ok (.plain (zj 0 12)) [Box.lst []]:=by
  simp only[wa,ji,zv]
  exact jc (by decide)
 generalize zj 0 12=rs at ed hI
 rw[kw,if_neg Bool.false_ne_true,hI]
 exact ed
theorem zrj:c32.body=(.cons (.asg (.name 3) (.call 27 (.cons (.loc 0) (.cons (.loc 1) .nil)))) (.cons (.asg (.name 4) (.min2 (.loc 2) (.idx (.list (.cons (.int 2) (.cons (.int 3) (.cons (.int 3) (.cons (.int 4) (.cons (.int 4) (.cons (.int 5) .nil))))))) (.bin .mod (.loc 3) (.int 6))))) (.cons (.asg (.name 5) (.idx (.list (.cons (.int 9) (.cons (.int 12) (.cons (.int 8) (.cons (.int 5) .nil))))) (.bin .sub (.loc 4) (.int 2)))) (.cons (.asg (.name 6) (.boxed (.list .nil))) (.cons (.for_ (.name 7) (.range (.int 0) (.int 12)) xx) zdl))))):=by
 unfold c32 zdl zdk zdj xx jd
 rfl
theorem tb1{k:Nat}{s:List Int}{n0:Int}(n1:zg P table (k+2) false 27 [.d (.list (s.map .int)),.d (.int 6)] []=.ok (.d (.int n0)) []):evS (PG (k+2) false) (.asg (.name 3) (.call 27 (.cons (.loc 0) (.cons (.loc 1) .nil)))) [some (.d (.list (s.map .int))),some (.d (.int 6)),some (.d (.int 4)),none,none,none,none,none,none,none,none,none] []=.ok .next ([some (.d (.list (s.map .int))),some (.d (.int 6)),some (.d (.int 4)),some (.d (.int n0)),none,none,none,none,none,none,none,none],[]):=by
 simp only[x6,x_call,ku,x7,wc,zv,ke,jy,Option.join_some,List.getElem?_cons_zero,List.getElem?_cons_succ,Bool.not_true,Bool.and_false,Bool.false_eq_true,if_true,if_false,nm_1,asgR,zad,List.set_cons_zero,List.set_cons_succ,List.length_cons,List.length_nil,Nat.reduceAdd,Nat.reduceLT,Nat.zero_add,n1]
theorem tb2{k:Nat}{s:List Int}{n0:Int}{m x i6:Nat}(hx:minV (.d (.int 4)) (.d (.int (x:Int))) []=.ok (.d (.int (m:Int))) [])(e6:binK .mod (.d (.int n0)) (.d (.int 6)) []=.ok (.d (.int (i6:Int))) [])(em:idxD (.list [.int 2,.int 3,.int 3,.int 4,.int 4,.int 5]) (.int (i6:Int))=some (.int (x:Int))):evS (PG (k+2) false) (.asg (.name 4) (.min2 (.loc 2) (.idx (.list (.cons (.int 2) (.cons (.int 3) (.cons (.int 3) (.cons (.int 4) (.cons (.int 4) (.cons (.int 5) .nil))))))) (.bin .mod (.loc 3) (.int 6))))) [some (.d (.list (s.map .int))),some (.d (.int 6)),some (.d (.int 4)),some (.d (.int n0)),none,none,none,none,none,none,none,none] []=.ok .next ([some (.d (.list (s.map .int))),some (.d (.int 6)),some (.d (.int 4)),some (.d (.int n0)),some (.d (.int m)),none,none,none,none,none,none,none],[]):=by
 simp only[ji,x6,gd,gf,zax,ku,x7,wc,zv,ke,jy,ve,zcz,zc0,Option.map_some,Option.join_some,List.getElem?_cons_zero,List.getElem?_cons_succ,Bool.not_true,Bool.and_false,Bool.false_eq_true,if_true,if_false,nm_1,asgR,zad,List.set_cons_zero,List.set_cons_succ,List.length_cons,List.length_nil,Nat.reduceAdd,Nat.reduceLT,Nat.zero_add,zoy,e6,em,hx]
theorem tb3{k:Nat}{s:List Int}{n0:Int}{m w:Nat}(ew:idxD (.list [.int 9,.int 12,.int 8,.int 5]) (.int ((m:Int) - 2))=some (.int (w:Int))):evS (PG (k+2) false) (.asg (.name 5) (.idx (.list (.cons (.int 9) (.cons (.int 12) (.cons (.int 8) (.cons (.int 5) .nil))))) (.bin .sub (.loc 4) (.int 2)))) [some (.d (.list (s.map .int))),some (.d (.int 6)),some (.d (.int 4)),some (.d (.int n0)),some (.d (.int m)),none,none,none,none,none,none,none] []=.ok .next ([some (.d (.list (s.map .int))),some (.d (.int 6)),some (.d (.int 4)),some (.d (.int n0)),some (.d (.int m)),some (.d (.int w)),none,none,none,none,none,none],[]):=by
 simp only[ji,x6,gd,gf,zax,ku,x7,wc,zv,ke,jy,ve,vi,zcz,zc0,Option.map_some,Option.join_some,List.getElem?_cons_zero,List.getElem?_cons_succ,Bool.not_true,Bool.and_false,Bool.false_eq_true,if_true,if_false,nm_1,asgR,zad,List.set_cons_zero,List.set_cons_succ,List.length_cons,List.length_nil,Nat.reduceAdd,Nat.reduceLT,Nat.zero_add,ew]
theorem tb4{k:Nat}{s:List Int}{n0:Int}{m w:Nat}:evS (PG (k+2) false) (.asg (.name 6) (.boxed (.list .nil))) [some (.d (.list (s.map .int))),some (.d (.int 6)),some (.d (.int 4)),some (.d (.int n0)),some (.d (.int m)),some (.d (.int w)),none,none,none,none,none,none] []=.ok .next (L1 s n0 m w (.box 0) none none,[Box.lst []]):=by
 have bl:boxK (.d (.list [])) []=.ok (.box 0) [Box.lst []]:=rfl
 unfold L1
 simp only[gd,zl9,ku,wc,zv,ke,jy,zcz,Option.map_some,Bool.not_true,Bool.and_false,Bool.false_eq_true,if_true,if_false,nm_1,asgR,zad,List.set_cons_zero,List.set_cons_succ,List.length_cons,List.length_nil,Nat.reduceAdd,Nat.reduceLT,Nat.zero_add,bl]
theorem zin{k:Nat}{s:List Int}{n0:Int}{m w x i6:Nat}(hs:s.length≤63)(n1:zg P table (k+2) false 27 [.d (.list (s.map .int)),.d (.int 6)] []=.ok (.d (.int n0)) [])(e6:binK .mod (.d (.int n0)) (.d (.int 6)) []=.ok (.d (.int (i6:Int))) [])(hm:m4 m)
 (em:idxD (.list [.int 2,.int 3,.int 3,.int 4,.int 4,.int 5]) (.int (i6:Int))=some (.int (x:Int))) (hx:minV (.d (.int 4)) (.d (.int (x:Int))) []=.ok (.d (.int (m:Int))) []) (hw:1≤w∧w≤12) (ew:idxD (.list [.int 9,.int 12,.int 8,.int 5]) (.int ((m:Int) - 2))=some (.int (w:Int))) :
 ∃ ρ' b0 cs,evSs (PG (k+2) false) c32.body [some (.d (.list (s.map .int))),some (.d (.int 6)),some (.d (.int 4)),none,none,none,none,none,none,none,none,none] []=.ok (.ret (.tm [.x (.int m),.b 1])) (ρ',[b0,Box.lst (zb cs)])∧Found m cs:=by
 obtain⟨a,b,dcs,ed,hdg,hdl⟩:=zir (k:=k) (s:=s) (n0:=n0) (m:=m) (w:=w) hs hm
 obtain⟨ρ',b0,cs,e,f⟩:=znl (k:=k) (s:=s) (n0:=n0) (m:=m) (w:=w) (a:=a) (b:=b) hm hw hdg hdl
 refine⟨ρ',b0,cs,?_,f⟩
 rw[zrj,zc (tb1 n1),zc (tb2 hx e6 em),zc (tb3 ew),zc tb4,zc ed]
 exact e
theorem zk5{k:Nat}{s:List Int}(hs:s.length≤63):∃ m cs,m4 m∧m≤4∧Found m cs∧zg P table (k+3) false 32 [.d (.list (s.map .int)),.d (.int 6),.d (.int 4)] []=.ok (.d (.tuple [.int m,.list (zb cs)])) []:=by
 have n1:zg P table (k+2) false 27 [.d (.list (s.map .int)),.d (.int 6)] []=.ok (.d (.int (mixI s 6))) []:=u8 (k:=k) (j:=6) (O:=[]) hs
 generalize mixI s 6=n0 at n1
 obtain⟨i6,h6,_,e6⟩:=zfz (a:=n0) (n:=6) (O:=[]) (by decide)
 have e6:binK .mod (.d (.int n0)) (.d (.int 6)) []=.ok (.d (.int (i6:Int))) []:=e6
 have hm:∃ m x:Nat,m4 m∧m≤4∧idxD (.list [.int 2,.int 3,.int 3,.int 4,.int 4,.int 5]) (.int (i6:Int))=some (.int (x:Int))∧minV (.d (.int 4)) (.d (.int (x:Int))) []=.ok (.d (.int (m:Int))) []:=by
  have:i6=0∨i6=1∨i6=2∨i6=3∨i6=4∨i6=5:=by omega
  rcases this with rfl | rfl | rfl | rfl | rfl | rfl
  ·exact⟨2,2,⟨by decide,by decide⟩,by decide,rfl,rfl⟩
  ·exact⟨3,3,⟨by decide,by decide⟩,by decide,rfl,rfl⟩
  ·exact⟨3,3,⟨by decide,by decide⟩,by decide,rfl,rfl⟩
  ·exact⟨4,4,⟨by decide,by decide⟩,by decide,rfl,rfl⟩
  ·exact⟨4,4,⟨by decide,by decide⟩,by decide,rfl,rfl⟩
  ·exact⟨4,5,⟨by decide,by decide⟩,by decide,rfl,rfl⟩
 obtain⟨m,x,hm,hm3,em,hx⟩:=hm
 have hw:∃ w:Nat,(1≤w∧w≤12)∧idxD (.list [.int 9,.int 12,.int 8,.int 5]) (.int ((m:Int) - 2))=some (.int (w:Int)):=by
  have:m=2∨m=3∨m=4∨m=5:=by have:=hm.1;have:=hm.2;omega
  rcases this with rfl | rfl | rfl | rfl
  ·exact⟨9,⟨by decide,by decide⟩,rfl⟩
  ·exact⟨12,⟨by decide,by decide⟩,rfl⟩
  ·exact⟨8,⟨by decide,by decide⟩,rfl⟩
  ·exact⟨5,⟨by decide,by decide⟩,rfl⟩
 obtain⟨w,hw,ew⟩:=hw
 obtain⟨ρ',b0,cs,e,f⟩:=zin hs n1 e6 hm em hx hw ew
 refine⟨m,cs,hm,hm3,f,?_⟩
 rw[kb (fn:=c32) rfl ⟨rfl,by decide⟩]
 unfold evFn
 show (match evSs (PG (k+2) false) c32.body [some (.d (.list (s.map .int))),some (.d (.int 6)),some (.d (.int 4)),none,none,none,none,none,none,none,none,none] [] with | .ok (.ret v) S=>fin 0 false v S.2 | .ok .next S=>.ok (.d .none) (S.2.take 0) | .stuck=>.stuck)=_
 rw[e]
 exact zqq
noncomputable def sgn(d:Int):Int:=if d > 0 then 1 else if d < 0 then -1 else 0
theorem zpk (d:Int) : -1≤sgn d∧sgn d≤1:=by unfold sgn;repeat' split
                                           all_goals omega
noncomputable def jl(cs is:List Int):Int:=(is.map fun i=>cs.getD i.toNat 0).sum
noncomputable def wOf(is js:List Int):PyData:=.tuple [.tuple (is.map .int),.tuple (js.map .int)]
structure InR(m:Nat)(is:List Int):Prop where
 len:is.length≤2
 at_:∀ i∈is,0≤i∧i < (m:Int)
theorem zhp{m:Nat}{cs is:List Int}{i:Int}(hm:m4 m)(hc:good m cs)(h:InR m is)(hi:i∈is):idxD (caseD cs) (.int i)=some (.int (cs.getD i.toNat 0)):=by
 have hb:=h.at_ i hi
 have hl:=hc.1
 have hj:i.toNat < cs.length:=by omega
 have h5:cs.length≤line:=by rw[hl];exact Nat.le_trans hm.2 (by decide)
 unfold caseD idxD items
 dsimp only
 rw[List.length_map,if_pos h5,if_pos hb.1,List.getElem?_map,List.getD_eq_getElem?_getD,List.getElem?_eq_getElem hj];rfl
theorem zoq{k:Nat}{m:Nat}{cs ls:List Int}{a b:Nat}{ρ:Loc}{O:za}(hm:m4 m)(hc:good m cs)(hr:InR m ls)(ha:Nat.blt a ρ.length=true)(ha1:a≠1)(h1:ρ[1]?=some (some (.d (caseD cs))))(hb:ρ[b]?=some (some (.d (.tuple (ls.map .int))))) :
 evE (PG k false) ρ (.prim .sum (.cons (.comp (.idx (.loc 1) (.loc a)) (.name a) (.e (.loc b)) .nil) .nil)) O=.ok (.d (.int (jl cs ls))) O:=by
 have ha:a < ρ.length:=Nat.le_of_ble_eq_true ha
 have hl:(ls.map PyData.int).length≤line:=by rw[List.length_map];exact Nat.le_trans hr.len (by decide)
 have hI:evI (PG k false) ρ (.e (.loc b)) O=.ok (.plain (ls.map .int)) O:=by rw[x_e,x6,hb];rfl
 refine yc rfl (zbz rfl hI rfl hl (fun x=>.int (cs.getD (toI x).toNat 0)) fun x hx=>⟨ρ.set a (some (.d x)),if_pos ha,?_⟩) ?_
 ·obtain⟨i,hi,rfl⟩:=List.mem_map.mp hx
  have e1:evE (PG k false) (ρ.set a (some (.d (.int i)))) (.loc 1) O=.ok (.d (caseD cs)) O:=by rw[x6,List.getElem?_set_ne ha1,h1];rfl
  have e2:evE (PG k false) (ρ.set a (some (.d (.int i)))) (.loc a) O=.ok (.d (.int i)) O:=by rw[x6,List.getElem?_set_self ha];rfl
  refine jj e1 e2 ?_
  rw[ve,zhp hm hc hr hi];rfl
 ·refine (zr8 (g:=fun x=>cs.getD (toI x).toNat 0)).trans ?_
  rw[show ((Src.plain (ls.map PyData.int)).xs.map fun x=>cs.getD (toI x).toNat 0).sum=jl cs ls by show ((ls.map PyData.int).map _).sum=_;rw[List.map_map];rfl]
theorem zi8{P:Pg}{ρ ρ':Loc}{O O':za}{e:CE}{t:CT}{v:V}(hd:P.hd=false)(h:evE P ρ e O=.ok v O')(hb:zt t v ρ=some ρ'):evS P (.asg t e) ρ O=.ok .next (ρ',O'):=by
 rw[wc,hd,Bool.false_and,if_neg Bool.false_ne_true,h]
 show asgR t v (ρ,O')=_
 unfold asgR
 rw[hb]
theorem zqv{k:Nat}{a b c e f g:Option V}{O:za}{d:Int}:evSs (PG k false) (.cons (.ife (.cmp .gt (.loc 4) (.int 0)) (.cons (.ret (.int 1)) .nil) .nil) (.cons (.ret (.ite (.cmp .lt (.loc 4) (.int 0)) (.neg (.int 1)) (.int 0))) .nil)) [a,b,c,e,some (.d (.int d)),f,g] O=.ok (.ret (.d (.int (sgn d)))) ([a,b,c,e,some (.d (.int d)),f,g],O):=by
 have h1:evE (PG k false) [a,b,c,e,some (.d (.int d)),f,g] (.cmp .gt (.loc 4) (.int 0)) O=.ok (.d (.bool (decide (d > 0)))) O:=rfl
 have h2:evE (PG k false) [a,b,c,e,some (.d (.int d)),f,g] (.cmp .lt (.loc 4) (.int 0)) O=.ok (.d (.bool (decide (d < 0)))) O:=rfl
 unfold sgn
 by_cases hg:d > 0
 ·rw[if_pos hg]
  rw[decide_eq_true hg] at h1
  exact zd ((w_if h1).trans rfl)
 ·rw[if_neg hg]
  rw[decide_eq_false hg] at h1
  refine (zc (zw h1)).trans (zd (zz ?_))
  rw[zi7,h2]
  by_cases hl:d < 0
  ·rw[if_pos hl,decide_eq_true hl];rfl
  ·rw[if_neg hl,decide_eq_false hl];rfl
theorem zld{k m:Nat}{cs is js:List Int}{O:za}(hm:m4 m)(hc:good m cs)(hi:InR m is)(hj:InR m js):zg P table (k+1) false 8 [.d (wOf is js),.d (caseD cs)] O=.ok (.d (.int (sgn (jl cs is - jl cs js)))) O:=by
 have k1:=zoq (k:=k) (a:=5) (b:=2) (O:=O) (ρ:=[some (.d (wOf is js)),some (.d (caseD cs)),some (.d (.tuple (is.map .int))),some (.d (.tuple (js.map .int))),none,none,none]) hm hc hi rfl (by decide) rfl rfl
 have k2:=zoq (k:=k) (a:=6) (b:=3) (O:=O) (ρ:=[some (.d (wOf is js)),some (.d (caseD cs)),some (.d (.tuple (is.map .int))),some (.d (.tuple (js.map .int))),none,none,none]) hm hc hj rfl (by decide) rfl rfl
 refine zh (fn:=c8) rfl ⟨rfl,by decide⟩ rfl ((zc (zi8 rfl rfl rfl)).trans ((zc (z5 (yb k1 k2 vi) rfl rfl)).trans zqv))
noncomputable def zjg(g:Int→Int→Int)(cs:List Int)(a:Int×Option V)(x:PyData):Int×Option V:=(g a.1 (cs.getD (toI x).toNat 0),some (V.d x))
theorem l_sum{k m:Nat}{op:Bop}{g:Int→Int→Int}{cs ls:List Int}{w:V}{i:CE}{O:za}{n:Int}{z:Option V}(hg:∀ a b,binK op (.d (.int a)) (.d (.int b)) O=.ok (.d (.int (g a b))) O)(hm:m4 m)(hc:good m cs)(hr:InR m ls)
 (hi:∀ n z,evE (PG k false) [some w,some (.d (caseD cs)),some (.d (.int n)),z] i O=.ok (.d (.tuple (ls.map .int))) O) :
 ∃ z',evS (PG k false) (.for_ (.name 3) (.e i) (.cons (.asg (.name 2) (.bin op (.loc 2) (.idx (.loc 1) (.loc 3)))) .nil)) [some w,some (.d (caseD cs)),some (.d (.int n)),z] O=.ok .next ([some w,some (.d (caseD cs)),some (.d (.int ((ls.map fun i=>cs.getD i.toNat 0).foldl g n))),z'],O):=by
 refine⟨((ls.map PyData.int).foldl (zjg g cs) (n,z)).2,?_⟩
 have e1:∀ (ls:List Int) (a:Int×Option V),((ls.map PyData.int).foldl (zjg g cs) a).1=(ls.map fun i=>cs.getD i.toNat 0).foldl g a.1:=fun ls=>by
  induction ls with
  | nil=>exact fun a=>rfl
  | cons x ls ih=>exact fun a=>ih _
 have:=dk (ys:=ls.map PyData.int) (turn:=ya (PG k false) (.name 3) (.cons (.asg (.name 2) (.bin op (.loc 2) (.idx (.loc 1) (.loc 3)))) .nil)) (fun a:Int×Option V=>([some w,some (.d (caseD cs)),some (.d (.int a.1)),a.2],O)) (zjg g cs) (ls.map PyData.int) (n,z) fun a x hx=>by
  obtain⟨i,hi,rfl⟩:=List.mem_map.mp hx
  refine (zc (z5 (ρ:=[some w,some (.d (caseD cs)),some (.d (.int a.1)),some (.d (.int i))]) (yb rfl (jj rfl rfl ?_) (hg _ _)) rfl rfl)).trans rfl
  rw[ve,zhp hm hc hr hi];rfl
 rw[e1] at this
 rw[kw,if_neg Bool.false_ne_true,x_e,hi]
 exact this
theorem znj{k:Nat}{a b c:Option V}{O:za}{d:Int}:evSs (PG k false) (.cons (.ret (.ite (.cmp .gt (.loc 2) (.int 0)) (.int 1) (.ite (.cmp .lt (.loc 2) (.int 0)) (.neg (.int 1)) (.int 0)))) .nil) [a,b,some (.d (.int d)),c] O=.ok (.ret (.d (.int (sgn d)))) ([a,b,some (.d (.int d)),c],O):=by
 have h1:evE (PG k false) [a,b,some (.d (.int d)),c] (.cmp .gt (.loc 2) (.int 0)) O=.ok (.d (.bool (decide (d > 0)))) O:=rfl
 have h2:evE (PG k false) [a,b,some (.d (.int d)),c] (.cmp .lt (.loc 2) (.int 0)) O=.ok (.d (.bool (decide (d < 0)))) O:=rfl
 refine zd (zz ?_)
 unfold sgn
 rw[zi7,h1]
 by_cases hg:d > 0
 ·rw[if_pos hg,decide_eq_true hg];rfl
 ·rw[if_neg hg,decide_eq_false hg]
  show evE (PG k false) [a,b,some (.d (.int d)),c] (.ite (.cmp .lt (.loc 2) (.int 0)) (.neg (.int 1)) (.int 0)) O=_
  rw[zi7,h2]
  by_cases hl:d < 0
  ·rw[if_pos hl,decide_eq_true hl];rfl
  ·rw[if_neg hl,decide_eq_false hl];rfl
theorem fold_add:∀ (l:List Int) (a:Int),l.foldl (· + ·) a=a+l.sum
 | [],a=>by simp
 | x::l,a=>by rw[List.foldl_cons,fold_add l,List.sum_cons];omega
theorem zd6:∀ (l:List Int) (a:Int),l.foldl (· - ·) a=a - l.sum
 | [],a=>by simp
 | x::l,a=>by rw[List.foldl_cons,zd6 l,List.sum_cons];omega
theorem zcs{k m:Nat}{cs is js:List Int}{O:za}(hm:m4 m)(hc:good m cs)(hi:InR m is)(hj:InR m js):zg P table (k+1) false 29 [.d (wOf is js),.d (caseD cs)] O=.ok (.d (.int (sgn (jl cs is - jl cs js)))) O:=by
 obtain⟨z1,e1⟩:=l_sum (k:=k) (op:=.add) (g:=(· + ·)) (w:=.d (wOf is js)) (i:=.idx (.loc 0) (.int 0)) (O:=O) (n:=0) (z:=none) (fun _ _=>wt) hm hc hi fun _ _=>rfl
 rw[fold_add,Int.zero_add] at e1
 obtain⟨z2,e2⟩:=l_sum (k:=k) (op:=.sub) (g:=(· - ·)) (w:=.d (wOf is js)) (i:=.idx (.loc 0) (.int 1)) (O:=O) (n:=(is.map fun i=>cs.getD i.toNat 0).sum) (z:=z1) (fun _ _=>vi) hm hc hj fun _ _=>rfl
 rw[zd6] at e2
 exact zh (fn:=c29) rfl ⟨rfl,by decide⟩ rfl ((zc (z5 rfl rfl rfl)).trans ((zc e1).trans ((zc e2).trans znj)))
noncomputable def dueI:Nat→List (List Int×List Int)
 | 2=>[([0],[1])]
 | 3=>[([0],[1]),([0],[2]),([1],[2])]
 | 4=>[([0],[1]),([0],[2]),([0],[3]),([0,1],[2,3]),([0,2],[1,3]),([0,3],[1,2]),([1],[2]),([1],[3]),([2],[3])]
 | 5=>[([0],[1]),([0],[2]),([0],[3]),([0],[4]),([0,1],[2,3]),([0,1],[2,4]),([0,1],[3,4]),([0,2],[1,3]),([0,2],[1,4]),([0,2],[3,4]),([0,3],[1,2]),([0,3],[1,4]),([0,3],[2,4]),([0,4],[1,2]),([0,4],[1,3]),([0,4],[2,3]),([1],[2]),([1],[3]),([1],[4]),([1,2],[3,4]),([1,3],[2,4]),([1,4],[2,3]),([2],[3]),([2],[4]),([3],[4])]
 | _=>[]
noncomputable def due(m:Nat):List PyData:=(dueI m).map fun p=>wOf p.1 p.2
noncomputable def wsI(m:Nat):List (List Int×List Int):=(dueI m).flatMap fun p=>[(p.1,p.2),(p.2,p.1)]
noncomputable def panB(m:Nat)(is:List Int):Bool:=decide (is.length≤2) && is.all fun i=>decide (0≤i) && decide (i < (m:Int))
theorem zg1{m:Nat}{is:List Int}(h:panB m is=true):InR m is:=by
 unfold panB at h
 rw[Bool.and_eq_true,decide_eq_true_eq] at h
 refine⟨h.1,fun i hi=>?_⟩
 have:=List.all_eq_true.mp h.2 i hi
 rwa [Bool.and_eq_true,decide_eq_true_eq,decide_eq_true_eq] at this
theorem zo4{m:Nat}(hm:m4 m):((wsI m).all fun p=>panB m p.1 && panB m p.2 && (wsI m).contains (p.2,p.1))=true:=by
 rcases qc hm with rfl | rfl | rfl | rfl <;> decide +kernel
noncomputable abbrev Dn:=List Int×List Int×Int
noncomputable def dnD(d:Dn):PyData:=.tuple [wOf d.1 d.2.1,.int d.2.2]
noncomputable def dnsD(ds:List Dn):List PyData:=ds.map dnD
structure OkD(m:Nat)(d:Dn):Prop where
 w:(d.1,d.2.1)∈wsI m
 o : -1≤d.2.2∧d.2.2≤1
structure OkW(m:Nat)(p:List Int×List Int):Prop where
 l:InR m p.1
 r:InR m p.2
 t:(p.2,p.1)∈wsI m
theorem ue{m:Nat}{p:List Int×List Int}(hm:m4 m)(h:p∈wsI m):OkW m p:=by
 have:=List.all_eq_true.mp (zo4 hm) p h
 rw[Bool.and_eq_true,Bool.and_eq_true] at this
 exact⟨zg1 this.1.1,zg1 this.1.2,List.contains_iff_mem.mp this.2⟩
noncomputable def zrq(d:Dn):Dn:=(d.2.1,d.1,0 - d.2.2)
theorem OkD.turn{m:Nat}{d:Dn}(hm:m4 m)(h:OkD m d):OkD m (zrq d):=⟨(ue hm h.w).t,by have:=h.o;show -1≤0 - d.2.2∧0 - d.2.2≤1;omega⟩
noncomputable def zlz(m:Nat):List Dn:=(wsI m).flatMap fun p=>[(p.1,p.2,-1),(p.1,p.2,0),(p.1,p.2,1)]
theorem OkD.mem{m:Nat}{d:Dn}(h:OkD m d):d∈zlz m:=by
 obtain⟨is,js,o⟩:=d
 refine List.mem_flatMap.mpr ⟨(is,js),h.w,?_⟩
 have ho:=h.o
 have:o = -1∨o=0∨o=1:=by show o = -1∨o=0∨o=1;have : -1≤o∧o≤1:=ho;omega
 rcases this with rfl | rfl | rfl <;> simp
noncomputable def tkA(n:Nat)(O:za):za:=(Tk n O).take O.length
noncomputable def tkW(n:Nat)(O:za):za:=(tkA n (tkA n O)).take O.length
noncomputable def tkD(n:Nat)(O:za):za:=((tkW n O).take (tkW n O).length).take O.length
theorem zpb(n:Nat)(O:za):tkD n O=O:=by
 have hA:∀ O,tkA n O=O:=fun O=>by unfold tkA;rw[zl0,List.take_length]
 have hW:tkW n O=O:=by unfold tkW;rw[hA,hA,List.take_length]
 unfold tkD;rw[hW,List.take_length,List.take_length]
noncomputable abbrev zek(m k:Nat)(O:za):Prop:=(zlz m).map (fun d=>zg P table (k+4) false 13 [.d (.int m),.d (dnD d)] O)=(zlz m).map fun d=>.ok (.d (.bool true)) (tkD d.1.length O)
theorem zs6{k:Nat}{O:za}:zek 2 k O:=by kernel_rfl
theorem zs5{k:Nat}{O:za}:zek 3 k O:=by kernel_rfl
theorem zs4{k:Nat}{O:za}:zek 4 k O:=by kernel_rfl
theorem zs3{k:Nat}{O:za}:zek 5 k O:=by kernel_rfl
theorem zlb{k m:Nat}{d:Dn}{O:za}(hm:m4 m)(h:OkD m d):zg P table (k+4) false 13 [.d (.int m),.d (dnD d)] O=.ok (.d (.bool true)) O:=by
 have hq:zek m k O:=by
  rcases qc hm with rfl | rfl | rfl | rfl
  ·exact zs6
  ·exact zs5
  ·exact zs4
  ·exact zs3
 refine (jx hq h.mem).trans ?_
 rw[zpb]
noncomputable def ux(d:Dn)(c:List Int):Int:=sgn (jl c d.1 - jl c d.2.1)
noncomputable def vg(ds:List Dn)(c:List Int):Bool:=ds.all fun d=>decide (ux d c=d.2.2)
noncomputable def yv(cs:List (List Int))(ds:List Dn):List (List Int):=cs.filter (vg ds)
noncomputable def unC:PyData→List Int
 | .tuple xs=>xs.map toI
 | _=>[]
theorem wf(l:List Int):(l.map PyData.int).map toI=l:=by
 rw[List.map_map]
 exact (List.map_congr_left fun _ _=>rfl).trans (List.map_id l)
theorem xw(c:List Int):unC (caseD c)=c:=wf c
noncomputable def unW:PyData→List Int×List Int
 | .tuple [l,r]=>(unC l,unC r)
 | _=>([],[])
noncomputable def unD:PyData→Dn
 | .tuple [w,o]=>((unW w).1,(unW w).2,toI o)
 | _=>([],[],0)
theorem zb1(d:Dn):unD (dnD d)=d:=by
 obtain⟨is,js,o⟩:=d
 show (((is.map PyData.int).map toI,(js.map PyData.int).map toI,o):Dn)=_
 rw[wf,wf]
noncomputable def qg(ds:List Dn)(x:PyData):Option PyData:=if vg ds (unC x) then some x else none
theorem jt(ds:List Dn):∀ cs:List (List Int),(zb cs).filterMap (qg ds)=zb (yv cs ds)
 | []=>rfl
 | c::cs=>by
   show (caseD c::zb cs).filterMap (qg ds)=_
   unfold yv
   cases h:vg ds c with
   | true=>rw[List.filterMap_cons_some (show qg ds (caseD c)=some (caseD c) by unfold qg;rw[xw,h];rfl),jt ds cs,List.filter_cons_of_pos h];rfl
   | false=>rw[List.filterMap_cons_none (show qg ds (caseD c)=none by unfold qg;rw[xw,h];rfl),jt ds cs,List.filter_cons_of_neg (by rw[h];decide)];rfl
structure Dns(m:Nat)(ds:List Dn):Prop where
 ok:∀ d∈ds,OkD m d
 le:ds.length≤20
theorem je{ds:List Dn}:(dnsD ds).length=ds.length:=List.length_map _
noncomputable abbrev R8(m:Nat)(v u:V)(a b c e:Option V):Loc:=[some (.d (.int m)),some v,some u,a,b,c,e]
theorem zgi{k m:Nat}{ds:List Dn}{c:List Int}{v u:V}{O:za}(hm:m4 m)(hc:good m c)(hd:Dns m ds)(hu:Seen O u (dnsD ds)) :
 evE (PG (k+4) false) (R8 m v u none (some (.d (caseD c))) none none) (.prim .all (.cons (.comp (.cmp .eq (.call 8 (.cons (.loc 5) (.cons (.loc 4) .nil))) (.loc 6)) (.two (.name 5) (.name 6)) (.e (.loc 2)) .nil) .nil)) O=.ok (.d (.bool (vg ds c))) O:=by
 obtain⟨src,s1,s2,s3⟩:=hu.src
 have hl:(dnsD ds).length≤line:=by rw[je];exact Nat.le_trans hd.le (by decide)
 have:=wb (P:=PG (k+4) false) (ρ:=R8 m v u none (some (.d (caseD c))) none none) (elt:=.cmp .eq (.call 8 (.cons (.loc 5) (.cons (.loc 4) .nil))) (.loc 6)) (tgt:=.two (.name 5) (.name 6)) (it:=.e (.loc 2)) (O:=O) (fun y=>decide (ux (unD y) c=(unD y).2.2)) rfl s1 s2 s3 hl fun x hx=>by
  obtain⟨d,hdm,rfl⟩:=List.mem_map.mp hx
  have w:=ue hm (hd.ok d hdm).w
  refine⟨R8 m v u none (some (.d (caseD c))) (some (.d (wOf d.1 d.2.1))) (some (.d (.int d.2.2))),rfl,?_⟩
  rw[zb1]
  exact zq (zi rfl (zld hm hc w.l w.r)) rfl eq_int
 rw[this]
 unfold vg dnsD
 rw[List.all_map]
 congr 4
 funext d
 show decide (ux (unD (dnD d)) c=(unD (dnD d)).2.2)=_
 rw[zb1]
theorem zio{k m:Nat}{cs:List (List Int)}{ds:List Dn}{v u:V}{O:za}(hm:m4 m)(f:Found m cs)(hd:Dns m ds)(hv:Seen O v (zb cs))(hu:Seen O u (dnsD ds)) :
 evE (PG (k+4) false) (R8 m v u none none none none) (.comp (.loc 4) (.name 4) (.e (.loc 1)) (.cons (.prim .all (.cons (.comp (.cmp .eq (.call 8 (.cons (.loc 5) (.cons (.loc 4) .nil))) (.loc 6)) (.two (.name 5) (.name 6)) (.e (.loc 2)) .nil) .nil)) .nil)) O=.ok (.d (.list (zb (yv cs ds)))) O:=by
 obtain⟨src,s1,s2,s3⟩:=hv.src
 have hl:(zb cs).length≤line:=by rw[zp];exact Nat.le_trans f.le (by decide)
 have:=qr (P:=PG (k+4) false) (ρ:=R8 m v u none none none none) (elt:=.loc 4) (tgt:=.name 4) (it:=.e (.loc 1)) (ifs:=.cons (.prim .all (.cons (.comp (.cmp .eq (.call 8 (.cons (.loc 5) (.cons (.loc 4) .nil))) (.loc 6)) (.two (.name 5) (.name 6)) (.e (.loc 2)) .nil) .nil)) .nil) (O:=O) rfl s1 s3 (by rw[s2];exact hl) (qg ds) fun x hx=>by
  rw[s2] at hx
  obtain⟨c,hc,rfl⟩:=List.mem_map.mp hx
  have ht:=zgi (k:=k) (v:=v) hm (f.good c hc) hd hu
  show R.bind (xo (PG (k+4) false) (R8 m v u none (some (.d (caseD c))) none none) _ O) _=_
  rw[zaw,ht]
  unfold qg
  rw[xw]
  cases vg ds c <;> rfl
 rw[this,s2,jt]
theorem zk7{k m:Nat}{cs:List (List Int)}{ds:List Dn}{v u:V}{O:za}(hm:m4 m)(f:Found m cs)(hd:Dns m ds)(hv:Seen O v (zb cs))(hu:Seen O u (dnsD ds)) :
 zg P table (k+5) false 14 [.d (.int m),v,u] O=.ok (.d (.list (zb (yv cs ds)))) O:=by
 obtain⟨src,s1,s2,s3⟩:=hu.src
 have hl:(dnsD ds).length≤line:=by rw[je];exact Nat.le_trans hd.le (by decide)
 have hle:=hd.le
 have t1:evE (PG (k+4) false) (R8 m v u none none none none) (.cmp .gt (.prim .len (.cons (.loc 2) .nil)) (.glob 5)) O=.ok (.d (.bool false)) O:=by
  refine zq (yc rfl rfl (zdv hu hl)) rfl ?_
  show R.ok (V.d (.bool (decide (((dnsD ds).length:Int) > 20)))) O=_
  rw[decide_eq_false (by rw[je];omega)]
 have t2:evE (PG (k+4) false) (R8 m v u none none none none) (.prim .all (.cons (.comp (.call 13 (.cons (.loc 0) (.cons (.loc 3) .nil))) (.name 3) (.e (.loc 2)) .nil) .nil)) O=.ok (.d (.bool true)) O:=by
  have:=wb (P:=PG (k+4) false) (ρ:=R8 m v u none none none none) (elt:=.call 13 (.cons (.loc 0) (.cons (.loc 3) .nil))) (tgt:=.name 3) (it:=.e (.loc 2)) (O:=O) (fun _=>true) rfl s1 s2 s3 hl fun x hx=>⟨R8 m v u (some (.d x)) none none none,rfl,by
   obtain⟨d,hdm,rfl⟩:=List.mem_map.mp hx
   exact zi rfl (zlb hm (hd.ok d hdm))⟩
  rw[this]
  congr 4
  exact List.all_eq_true.mpr fun _ _=>rfl
 refine zh (fn:=c14) (ρ':=R8 m v u none none none none) rfl ⟨rfl,by decide⟩ rfl ?_
 refine (zc (x8 (zi rfl (zgj (k:=k+1) hm f hv)))).trans ?_
 refine (zc (zw (xi (w_nt (yc rfl rfl (zdz hu))) (xi t1 (w_nt t2))))).trans ?_
 exact zd (zz (zio hm f hd hv hu))
theorem zr7{k:Nat}:zg P table (k+1) false 30 [.d (.int 2)] []=.ok (.d (.list (due 2))) []:=by kernel_rfl
theorem zr6{k:Nat}:zg P table (k+1) false 30 [.d (.int 3)] []=.ok (.d (.list (due 3))) []:=by kernel_rfl
theorem zr5{k:Nat}:zg P table (k+1) false 30 [.d (.int 4)] []=.ok (.d (.list (due 4))) []:=by kernel_rfl
theorem zr4{k:Nat}:zg P table (k+1) false 30 [.d (.int 5)] []=.ok (.d (.list (due 5))) []:=by kernel_rfl
theorem zk6{k m:Nat}(hm:m4 m):zg P table (k+1) false 30 [.d (.int m)] []=.ok (.d (.list (due m))) []:=by
 rcases qc hm with rfl | rfl | rfl | rfl
 ·exact zr7
 ·exact zr6
 ·exact zr5
 ·exact zr4
theorem zhk{m:Nat}(hm:m4 m):0 < (due m).length∧(due m).length≤line:=by rcases qc hm with rfl | rfl | rfl | rfl <;> decide +kernel
theorem znr{m:Nat}{x:PyData}(h:x∈due m):∃ p:List Int×List Int,x=wOf p.1 p.2∧(p.1,p.2)∈wsI m∧(p.2,p.1)∈wsI m:=by
 obtain⟨p,hp,rfl⟩:=List.mem_map.mp h
 exact⟨p,rfl,List.mem_flatMap.mpr ⟨p,hp,by simp⟩,List.mem_flatMap.mpr ⟨p,hp,by simp⟩⟩
noncomputable abbrev R18(s:List Int)(m:Nat)(cs:List (List Int))(n0:Int)(a b c d e f:Option V):Loc:=[some (.d (.list (s.map .int))),some (.d (.int 1)),some (.d (.int m)),some (.d (.list (zb cs))),some (.d (.int n0)),some (.d (.list (due m))),some (.box 0),a,b,c,d,e,f]
section
variable{k:Nat}{s:List Int}{m:Nat}{cs:List (List Int)}{n0 n:Int}{a b c d e f:Option V}{O:za}
theorem q1{i:Nat}(hs:s.length≤63):∃ n,evS (PG (k+2) false) (.asg (.name 8) (.call 27 (.cons (.loc 0) (.cons (.bin .add (.bin .add (.loc 1) (.int 1)) (.loc 7)) .nil)))) (R18 s m cs n0 (some (.d (.int (0+(i:Int))))) b c d e f) O=.ok .next (R18 s m cs n0 (some (.d (.int (0+(i:Int))))) (some (.d (.int n))) c d e f,O):=by
 refine⟨mixI s (2+i),z5 (zi rfl ?_) rfl rfl⟩
 show zg P table (k+2) false 27 [.d (.list (s.map .int)),.d (.int (1+1+(0+(i:Int))))] O=_
 rw[show ((1:Int)+1+(0+(i:Int)))=((2+i:Nat):Int) by omega]
 exact u8 hs
theorem q2(hm:m4 m):∃ is js,(is,js)∈wsI m∧(js,is)∈wsI m∧evS (PG k false) (.asg (.two (.name 9) (.name 10)) (.idx (.loc 5) (.bin .mod (.loc 8) (.prim .len (.cons (.loc 5) .nil))))) (R18 s m cs n0 a (some (.d (.int n))) c d e f) O=.ok .next (R18 s m cs n0 a (some (.d (.int n))) (some (.d (.tuple (is.map .int)))) (some (.d (.tuple (js.map .int)))) e f,O):=by
 obtain⟨h1,h2⟩:=zhk hm
 obtain⟨j,hj,ej⟩:=md n (due m).length O h1
 obtain⟨y,hy,ey⟩:=zcl (xs:=due m) rfl h2 hj
 obtain⟨p,rfl,w1,w2⟩:=znr hy
 exact⟨p.1,p.2,w1,w2,zi8 rfl (jj rfl (yb rfl (yc rfl rfl (zce h2)) ej) (by rw[ve,ey];rfl)) rfl⟩
theorem q3{is js:List Int}(w1:(is,js)∈wsI m)(w2:(js,is)∈wsI m):∃ p:List Int×List Int,p∈wsI m∧evS (PG k false) (.asg (.name 11) (.idx (.list (.cons (.tup (.cons (.loc 9) (.cons (.loc 10) .nil))) (.cons (.tup (.cons (.loc 10) (.cons (.loc 9) .nil))) .nil))) (.bin .mod (.bin .fdiv (.loc 8) (.int 32)) (.int 2)))) (R18 s m cs n0 a (some (.d (.int n))) (some (.d (.tuple (is.map .int)))) (some (.d (.tuple (js.map .int)))) e f) O=.ok .next (R18 s m cs n0 a (some (.d (.int n))) (some (.d (.tuple (is.map .int)))) (some (.d (.tuple (js.map .int)))) (some (.d (wOf p.1 p.2))) f,O):=by
 obtain⟨j,hj,ej⟩:=md (Int.fdiv n 32) 2 O (by decide)
 have:j=0∨j=1:=by omega
 rcases this with rfl | rfl
 ·exact⟨_,w1,z5 (jj rfl (yb (yb rfl rfl (dv (by decide))) rfl ej) rfl) rfl rfl⟩
 ·exact⟨_,w2,z5 (jj rfl (yb (yb rfl rfl (dv (by decide))) rfl ej) rfl) rfl rfl⟩
theorem q4{p:List Int×List Int}(hm:m4 m)(hf:Found m cs)(hp:p∈wsI m):∃ o:Int,(-1≤o∧o≤1)∧evS (PG (k+1) false) (.asg (.name 12) (.call 29 (.cons (.loc 11) (.cons (.idx (.loc 3) (.bin .mod (.bin .fdiv (.loc 4) (.int 5)) (.prim .len (.cons (.loc 3) .nil)))) .nil)))) (R18 s m cs n0 a (some (.d (.int n))) c d (some (.d (wOf p.1 p.2))) f) O=.ok .next (R18 s m cs n0 a (some (.d (.int n))) c d (some (.d (wOf p.1 p.2))) (some (.d (.int o))),O):=by
 have hl:(zb cs).length≤line:=by rw[zp];exact Nat.le_trans hf.le (by decide)
 obtain⟨j,hj,ej⟩:=md (Int.fdiv n0 5) (zb cs).length O (by rw[zp];exact hf.pos)
 obtain⟨y,hy,ey⟩:=zcl (xs:=zb cs) rfl hl hj
 obtain⟨cc,hc,rfl⟩:=List.mem_map.mp hy
 have w:=ue hm hp
 exact⟨_,zpk _,z5 (zi (zo rfl (zo (jj rfl (yb (yb rfl rfl (dv (by decide))) (yc rfl rfl (zce hl)) ej) (by rw[ve,ey];rfl)) rfl)) (zcs hm (hf.good cc hc) w.l w.r)) rfl rfl⟩
theorem q5{o:Int}(ho : -1≤o∧o≤1):∃ o':Int,(-1≤o'∧o'≤1)∧evS (PG k false) (.ife (.cmp .eq (.bin .mod (.bin .fdiv (.loc 8) (.int 64)) (.int 8)) (.int 1)) (.cons (.asg (.name 12) (.bin .sub (.bin .mod (.bin .fdiv (.loc 8) (.int 512)) (.int 3)) (.int 1))) .nil) .nil) (R18 s m cs n0 a (some (.d (.int n))) c d e (some (.d (.int o)))) O=.ok .next (R18 s m cs n0 a (some (.d (.int n))) c d e (some (.d (.int o'))),O):=by
 obtain⟨j,hj,ej⟩:=md (Int.fdiv n 64) 8 O (by decide)
 obtain⟨i,hi,ei⟩:=md (Int.fdiv n 512) 3 O (by decide)
 have ht:evE (PG k false) (R18 s m cs n0 a (some (.d (.int n))) c d e (some (.d (.int o)))) (.cmp .eq (.bin .mod (.bin .fdiv (.loc 8) (.int 64)) (.int 8)) (.int 1)) O=.ok (.d (.bool (decide ((j:Int)=1)))) O:=zq (yb (yb rfl rfl (dv (by decide))) rfl ej) rfl eq_int
 by_cases h:(j:Int)=1
 ·rw[decide_eq_true h] at ht
  refine⟨(i:Int) - 1,by omega,(w_if ht).trans ?_⟩
  exact (zc (z5 (yb (yb (yb rfl rfl (dv (by decide))) rfl ei) rfl vi) rfl rfl)).trans rfl
 ·rw[decide_eq_false h] at ht
  exact⟨o,ho,zw ht⟩
theorem zle{ds:List Dn}{x:Dn}:dnsD ds++[dnD x]=dnsD (ds++[x]):=by unfold dnsD;rw[List.map_append];rfl
theorem q6{p:List Int×List Int}{o:Int}{ds:List Dn}(hl:ds.length < 10):evS (PG k false) (.expr (.meth .append (.loc 6) (.cons (.tup (.cons (.loc 11) (.cons (.loc 12) .nil))) .nil))) (R18 s m cs n0 a b c d (some (.d (wOf p.1 p.2))) (some (.d (.int o)))) [Box.lst (dnsD ds)]=.ok .next (R18 s m cs n0 a b c d (some (.d (wOf p.1 p.2))) (some (.d (.int o))),[Box.lst (dnsD (ds++[(p.1,p.2,o)]))]):=by
 have ap:=app0 (xs:=dnsD ds) (x:=dnD (p.1,p.2,o)) (by rw[je];exact Nat.lt_of_lt_of_le hl (by decide))
 rw[zle] at ap
 exact x8 (v:=.d .none) ap
end
noncomputable def doneBody:CSs:=(.cons (.asg (.name 8) (.call 27 (.cons (.loc 0) (.cons (.bin .add (.bin .add (.loc 1) (.int 1)) (.loc 7)) .nil)))) (.cons (.asg (.two (.name 9) (.name 10)) (.idx (.loc 5) (.bin .mod (.loc 8) (.prim .len (.cons (.loc 5) .nil))))) (.cons (.asg (.name 11) (.idx (.list (.cons (.tup (.cons (.loc 9) (.cons (.loc 10) .nil))) (.cons (.tup (.cons (.loc 10) (.cons (.loc 9) .nil))) .nil))) (.bin .mod (.bin .fdiv (.loc 8) (.int 32)) (.int 2)))) (.cons (.asg (.name 12) (.call 29 (.cons (.loc 11) (.cons (.idx (.loc 3) (.bin .mod (.bin .fdiv (.loc 4) (.int 5)) (.prim .len (.cons (.loc 3) .nil)))) .nil)))) (.cons (.ife (.cmp .eq (.bin .mod (.bin .fdiv (.loc 8) (.int 64)) (.int 8)) (.int 1)) (.cons (.asg (.name 12) (.bin .sub (.bin .mod (.bin .fdiv (.loc 8) (.int 512)) (.int 3)) (.int 1))) .nil) .nil) (.cons (.expr (.meth .append (.loc 6) (.cons (.tup (.cons (.loc 11) (.cons (.loc 12) .nil))) .nil))) .nil))))))
inductive At18(s:List Int)(m:Nat)(cs:List (List Int))(n0:Int)(i:Nat):Loc→za→Prop
 | mk (a b c d e f:Option V) (ds:List Dn) (ok:∀ d∈ds,OkD m d) (len:ds.length=i):At18 s m cs n0 i (R18 s m cs n0 a b c d e f) [Box.lst (dnsD ds)]
theorem zph{k i:Nat}{s:List Int}{m:Nat}{cs:List (List Int)}{n0:Int}{ρ:Loc}{O:za}(hs:s.length≤63)(hm:m4 m)(hf:Found m cs)(hi:i < 10)(h:At18 s m cs n0 i ρ O):∃ ρ' O',ya (PG (k+2) false) (.name 7) doneBody (.int (0+(i:Int))) ρ O=.ok .next (ρ',O')∧At18 s m cs n0 (i+1) ρ' O':=by
 obtain⟨a,b,c,d,e,f,ds,ok,len⟩:=h
 obtain⟨n,e1⟩:=q1 (k:=k) (s:=s) (m:=m) (cs:=cs) (n0:=n0) (i:=i) (b:=b) (c:=c) (d:=d) (e:=e) (f:=f) (O:=[Box.lst (dnsD ds)]) hs
 obtain⟨is,js,w1,w2,e2⟩:=q2 (k:=k+2) (s:=s) (cs:=cs) (n0:=n0) (n:=n) (a:=some (.d (.int (0+(i:Int))))) (c:=c) (d:=d) (e:=e) (f:=f) (O:=[Box.lst (dnsD ds)]) hm
 obtain⟨p,hp,e3⟩:=q3 (k:=k+2) (s:=s) (cs:=cs) (n0:=n0) (n:=n) (a:=some (.d (.int (0+(i:Int))))) (e:=e) (f:=f) (O:=[Box.lst (dnsD ds)]) w1 w2
 obtain⟨o,ho,e4⟩:=q4 (k:=k+1) (s:=s) (n0:=n0) (n:=n) (a:=some (.d (.int (0+(i:Int))))) (c:=some (.d (.tuple (is.map .int)))) (d:=some (.d (.tuple (js.map .int)))) (f:=f) (O:=[Box.lst (dnsD ds)]) hm hf hp
 obtain⟨o',ho',e5⟩:=q5 (k:=k+2) (s:=s) (m:=m) (cs:=cs) (n0:=n0) (n:=n) (a:=some (.d (.int (0+(i:Int))))) (c:=some (.d (.tuple (is.map .int)))) (d:=some (.d (.tuple (js.map .int)))) (e:=some (.d (wOf p.1 p.2))) (O:=[Box.lst (dnsD ds)]) ho
 refine⟨_,_,?_,.mk (some (.d (.int (0+(i:Int))))) (some (.d (.int n))) (some (.d (.tuple (is.map .int)))) (some (.d (.tuple (js.map .int)))) (some (.d (wOf p.1 p.2))) (some (.d (.int o'))) (ds++[(p.1,p.2,o')]) (fun x hx=>?_) (by rw[List.length_append,len];rfl)⟩
 ·show evSs (PG (k+2) false) doneBody (R18 s m cs n0 (some (.d (.int (0+(i:Int))))) b c d e f) [Box.lst (dnsD ds)]=_
  unfold doneBody
  exact (zc e1).trans ((zc e2).trans ((zc e3).trans ((zc e4).trans ((zc e5).trans ((zc (q6 (by omega))).trans rfl)))))
 ·rcases List.mem_append.mp hx with hx | hx
  ·exact ok x hx
  ·rw[List.mem_singleton.mp hx];exact⟨hp,ho'⟩
theorem zp7{k n:Nat}{s:List Int}{m:Nat}{cs:List (List Int)}{n0:Int}(hs:s.length≤63)(hm:m4 m)(hf:Found m cs)(hn:n≤10):∃ ρ' O',zu (.plain (zj 0 n)) (ya (PG (k+2) false) (.name 7) doneBody) (zj 0 n) (R18 s m cs n0 none none none none none none) [Box.lst []]=.ok .next (ρ',O')∧At18 s m cs n0 n ρ' O':=by
 obtain⟨ρ',O',e,h⟩:=wy (ys:=zj 0 n) (turn:=ya (PG (k+2) false) (.name 7) doneBody) (fun i ρ O=>At18 s m cs n0 i ρ O) (zj 0 n) 0 (R18 s m cs n0 none none none none none none) [Box.lst []]
  (fun j x hx ρ O h=>by
    have hj:j < n:=by have:=(List.getElem?_eq_some_iff.mp hx).1;rw[xp] at this;omega
    rw[gv hx]
    rw[Nat.zero_add] at h ⊢
    exact zph hs hm hf (by omega) h) (.mk _ _ _ _ _ _ [] (fun _ h=>nomatch h) rfl)
 refine⟨ρ',O',e,?_⟩
 rw[xp] at h
 rwa [show (0:Nat)+((n:Int) - 0).toNat=n by omega] at h
theorem zq2{k:Nat}{s:List Int}{m:Nat}{cs:List (List Int)}(hs:s.length≤63)(hm:m4 m)(hf:Found m cs):∃ ds:List Dn,(∀ d∈ds,OkD m d)∧ds.length≤3∧zg P table (k+3) false 33 [.d (.list (s.map .int)),.d (.int 1),.d (.int m),.d (.list (zb cs))] []=.ok (.d (.list (dnsD ds))) []:=by
 have n1:zg P table (k+2) false 27 [.d (.list (s.map .int)),.d (.int 1)] []=.ok (.d (.int (mixI s 1))) []:=u8 (k:=k) (j:=1) (O:=[]) hs
 generalize mixI s 1=n0 at n1
 obtain⟨j,hj,ej⟩:=md n0 5 [Box.lst []] (by decide)
 have hn:∃ n:Nat,n≤3∧idxD (.list [.int 0,.int 0,.int 1,.int 2,.int 3]) (.int (j:Int))=some (.int (n:Int)):=by
  have:j=0∨j=1∨j=2∨j=3∨j=4:=by omega
  rcases this with rfl | rfl | rfl | rfl | rfl
  ·exact⟨0,by decide,rfl⟩
  ·exact⟨0,by decide,rfl⟩
  ·exact⟨1,by decide,rfl⟩
  ·exact⟨2,by decide,rfl⟩
  ·exact⟨3,by decide,rfl⟩
 obtain⟨n,hn,en⟩:=hn
 obtain⟨ρ',O',el,hat⟩:=zp7 (k:=k) (n:=n) (n0:=n0) hs hm hf (by omega)
 have hI:evI (PG (k+2) false) (R18 s m cs n0 none none none none none none) (.range (.int 0) (.idx (.list (.cons (.int 0) (.cons (.int 0) (.cons (.int 1) (.cons (.int 2) (.cons (.int 3) .nil)))))) (.bin .mod (.loc 4) (.int 5)))) [Box.lst []]=.ok (.plain (zj 0 n)) [Box.lst []]:=by
  have:evE (PG (k+2) false) (R18 s m cs n0 none none none none none none) (.idx (.list (.cons (.int 0) (.cons (.int 0) (.cons (.int 1) (.cons (.int 2) (.cons (.int 3) .nil)))))) (.bin .mod (.loc 4) (.int 5))) [Box.lst []]=.ok (.d (.int (n:Int))) [Box.lst []]:=jj rfl (yb rfl rfl ej) (by rw[ve,en];rfl)
  rw[wa,ji,zv,this,zv]
  exact jc (by omega)
 generalize zj 0 (n:Int)=rs at el hI
 obtain⟨a,b,c,d,e,f,ds,ok,len⟩:=hat
 refine⟨ds,ok,by omega,?_⟩
 have hfor:evS (PG (k+2) false) (.for_ (.name 7) (.range (.int 0) (.idx (.list (.cons (.int 0) (.cons (.int 0) (.cons (.int 1) (.cons (.int 2) (.cons (.int 3) .nil)))))) (.bin .mod (.loc 4) (.int 5)))) doneBody) (R18 s m cs n0 none none none none none none) [Box.lst []]=.ok .next (R18 s m cs n0 a b c d e f,[Box.lst (dnsD ds)]):=by
  rw[kw,if_neg Bool.false_ne_true,hI];exact el
 have hb:evSs (PG (k+2) false) c33.body [some (.d (.list (s.map .int))),some (.d (.int 1)),some (.d (.int m)),some (.d (.list (zb cs))),none,none,none,none,none,none,none,none,none] []=.ok (.ret (.box 0)) (R18 s m cs n0 a b c d e f,[Box.lst (dnsD ds)]):=
  (zc (z5 (zi rfl n1) rfl rfl)).trans ((zc (z5 (zi rfl (zk6 (k:=k+1) hm)) rfl rfl)).trans ((zc (z5 (v:=.box 0) (O':=[Box.lst []]) rfl rfl rfl)).trans ((zc hfor).trans (zd (zz rfl)))))
 rw[kb (fn:=c33) rfl ⟨rfl,by decide⟩]
 unfold evFn
 show (match evSs (PG (k+2) false) c33.body [some (.d (.list (s.map .int))),some (.d (.int 1)),some (.d (.int m)),some (.d (.list (zb cs))),none,none,none,none,none,none,none,none,none] [] with | .ok (.ret v) S=>fin 0 false v S.2 | .ok .next S=>.ok (.d .none) (S.2.take 0) | .stuck=>.stuck)=_
 rw[hb];rfl
structure Lay(n:Nat)(x:PyData):Prop where
 lay:x.canLay0=true
 depth:x.depth≤n
theorem lay_all{n:Nat}:∀ (xs:List PyData),(∀ x∈xs,Lay n x)→PyData.canLayAll0 xs=true∧PyData.depthAll xs≤n
 | [],_=>⟨rfl,Nat.zero_le _⟩
 | x::xs,h=>by
   obtain⟨h1,h2⟩:=lay_all xs fun y hy=>h y (List.mem_cons_of_mem _ hy)
   have hx:=h x List.mem_cons_self
   refine⟨?_,Nat.max_le.mpr ⟨hx.depth,h2⟩⟩
   show (x.canLay0 && PyData.canLayAll0 xs)=true
   rw[hx.lay,h1];rfl
theorem Lay.list{n:Nat}{xs:List PyData}(h:∀ x∈xs,Lay n x):Lay (n+1) (.list xs):=⟨(lay_all xs h).1,Nat.succ_le_succ (lay_all xs h).2⟩
theorem Lay.eq{n:Nat}{x:PyData}(h:Lay n x)(hn:n≤100):vj .eq x x=some true∧vj .ne x x=some false:=by
 have h3:eqOk x x=true:=by
  unfold eqOk
  rw[h.lay,decide_eq_true (by rw[Nat.min_self];exact Nat.le_trans h.depth hn)];rfl
 refine⟨?_,?_⟩
 ·show (if eqOk x x=true then some (PyData.eqv x x) else none)=_
  rw[if_pos h3,PySem.SeqAt.eqv_refl x h.lay]
 ·show (if eqOk x x=true then some (!PyData.eqv x x) else none)=_
  rw[if_pos h3,PySem.SeqAt.eqv_refl x h.lay];rfl
theorem kh(cs:List (List Int)):∀ x∈zb cs,Lay 10 x:=fun x hx=>by
 obtain⟨c,_,rfl⟩:=List.mem_map.mp hx
 exact⟨g9,Nat.le_trans (dw c) (by decide)⟩
theorem dq{f:PyData→Option PyData}:∀ xs:List PyData,(xs.filterMap f).isEmpty=xs.all fun x=>(f x).isNone
 | []=>rfl
 | x::xs=>by
   cases h:f x with
   | none=>rw[List.filterMap_cons_none h,dq xs,List.all_cons,h];rfl
   | some y=>rw[List.filterMap_cons_some h,List.all_cons,h];rfl
theorem p8{xs ys:List PyData}(h1:PyData.canLayAll0 xs=true)(h2:PyData.canLayAll0 ys=true)(h3:(PyData.list ys).depth≤100):eqOk (.list xs) (.list ys)=true:=by
 unfold eqOk
 rw[show (PyData.list xs).canLay0=true from h1,show (PyData.list ys).canLay0=true from h2,decide_eq_true (Nat.le_trans (Nat.min_le_right _ _) h3)];rfl
theorem u7{xs:List PyData}{O:za}(h:∀ x∈xs,Lay 10 x):cmpV .eq (.d (.list xs)) (.d (.list [])) O=.ok (.d (.bool xs.isEmpty)) O:=by
 rw[v_eq]
 show opt (Option.map _ (if eqOk (.list xs) (.list [])=true then some (PyData.eqv (.list xs) (.list [])) else none)) O=_
 rw[if_pos (p8 (Lay.list h).lay rfl (by decide))]
 cases xs <;> rfl
noncomputable def ut(c:List Int)(y:PyData):Option PyData:=if ux (unD y) c=(unD y).2.2 then none else some (.int 1)
theorem zjo{c:List Int}{ds:List Dn}:((dnsD ds).filterMap (ut c)).isEmpty=vg ds c:=by
 rw[dq]
 unfold vg dnsD
 rw[List.all_map]
 congr 1
 funext d
 show (ut c (dnD d)).isNone=_
 unfold ut
 rw[zb1]
 by_cases h:ux d c=d.2.2
 ·rw[if_pos h,decide_eq_true h];rfl
 ·rw[if_neg h,decide_eq_false h];rfl
theorem zjn{c:List Int}{ys:List PyData}:∀ x∈ys.filterMap (ut c),Lay 10 x:=fun x hx=>by
 obtain⟨y,_,e⟩:=List.mem_filterMap.mp hx
 unfold ut at e
 by_cases h:ux (unD y) c=(unD y).2.2
 ·rw[if_pos h] at e;cases e
 ·rw[if_neg h] at e;cases e;exact⟨rfl,Nat.zero_le _⟩
noncomputable abbrev R19(cs:List (List Int))(ds:List Dn)(a b c:Option V):Loc:=[some (.d (.list (zb cs))),some (.d (.list (dnsD ds))),a,b,c]
theorem zqw{k m:Nat}{cs:List (List Int)}{ds:List Dn}{c:List Int}{O:za}(hm:m4 m)(hc:good m c)(hd:Dns m ds) :
 evE (PG (k+1) false) (R19 cs ds (some (.d (caseD c))) none none) (.cmp .eq (.comp (.int 1) (.two (.name 3) (.name 4)) (.e (.loc 1)) (.cons (.cmp .ne (.call 29 (.cons (.loc 3) (.cons (.loc 2) .nil))) (.loc 4)) .nil)) (.list .nil)) O=.ok (.d (.bool (vg ds c))) O:=by
 have hl:(dnsD ds).length≤line:=by rw[je];exact Nat.le_trans hd.le (by decide)
 have:=qr (P:=PG (k+1) false) (ρ:=R19 cs ds (some (.d (caseD c))) none none) (elt:=.int 1) (tgt:=.two (.name 3) (.name 4)) (it:=.e (.loc 1)) (ifs:=.cons (.cmp .ne (.call 29 (.cons (.loc 3) (.cons (.loc 2) .nil))) (.loc 4)) .nil) (src:=.plain (dnsD ds)) (O:=O) rfl rfl rfl hl (ut c) fun x hx=>by
  obtain⟨d,hdm,rfl⟩:=List.mem_map.mp hx
  have w:=ue hm (hd.ok d hdm).w
  have ht:evE (PG (k+1) false) (R19 cs ds (some (.d (caseD c))) (some (.d (wOf d.1 d.2.1))) (some (.d (.int d.2.2)))) (.cmp .ne (.call 29 (.cons (.loc 3) (.cons (.loc 2) .nil))) (.loc 4)) O=.ok (.d (.bool (!decide (ux d c=d.2.2)))) O:=zq (zi rfl (zcs hm hc w.l w.r)) rfl ne_int
  show R.bind (xo (PG (k+1) false) (R19 cs ds (some (.d (caseD c))) (some (.d (wOf d.1 d.2.1))) (some (.d (.int d.2.2)))) _ O) _=_
  rw[zaw,ht]
  unfold ut
  rw[zb1]
  by_cases h:ux d c=d.2.2
  ·rw[if_pos h,decide_eq_true h];rfl
  ·rw[if_neg h,decide_eq_false h];rfl
 refine zq this rfl ?_
 refine (u7 zjn).trans ?_
 show R.ok (V.d (.bool ((dnsD ds).filterMap (ut c)).isEmpty)) O=_
 rw[zjo]
theorem znn{k m:Nat}{cs:List (List Int)}{ds:List Dn}{O:za}(hm:m4 m)(f:Found m cs)(hd:Dns m ds):zg P table (k+2) false 34 [.d (.list (zb cs)),.d (.list (dnsD ds))] O=.ok (.d (.list (zb (yv cs ds)))) O:=by
 have hl:(zb cs).length≤line:=by rw[zp];exact Nat.le_trans f.le (by decide)
 have:=qr (P:=PG (k+1) false) (ρ:=R19 cs ds none none none) (elt:=.loc 2) (tgt:=.name 2) (it:=.e (.loc 0)) (ifs:=.cons (.cmp .eq (.comp (.int 1) (.two (.name 3) (.name 4)) (.e (.loc 1)) (.cons (.cmp .ne (.call 29 (.cons (.loc 3) (.cons (.loc 2) .nil))) (.loc 4)) .nil)) (.list .nil)) .nil) (src:=.plain (zb cs)) (O:=O) rfl rfl rfl hl (qg ds) fun x hx=>by
  obtain⟨c,hc,rfl⟩:=List.mem_map.mp hx
  have ht:=zqw (k:=k) (cs:=cs) (O:=O) hm (f.good c hc) hd
  show R.bind (xo (PG (k+1) false) (R19 cs ds (some (.d (caseD c))) none none) _ O) _=_
  rw[zaw,ht]
  unfold qg
  rw[xw]
  cases vg ds c <;> rfl
 rw[show (Src.plain (zb cs)).xs.filterMap (qg ds)=zb (yv cs ds) from jt ds cs] at this
 exact zh (fn:=c34) rfl ⟨rfl,by decide⟩ rfl (zd (zz this))
theorem znh{k:Nat}{i:Int}{O:za}:zg P table (k+1) false 28 [.d (.int i)] O=.ok (.d (.bool true)) O:=zh (fn:=c28) (ρ':=[some (.d (.int i))]) rfl ⟨rfl,by decide⟩ rfl rfl
noncomputable abbrev Cs:=List (List Int)
noncomputable abbrev Wg:=List Int×List Int
noncomputable def yg(w:Wg)(c:List Int):Int:=sgn (jl c w.1 - jl c w.2)
noncomputable def ze(w:Wg)(o:Int)(cs:Cs):Cs:=cs.filter fun c=>decide (yg w c=o)
theorem za4(d:Int):sgn d = -1∨sgn d=0∨sgn d=1:=by
 unfold sgn
 by_cases h:d > 0
 ·rw[if_pos h];exact .inr (.inr rfl)
 ·rw[if_neg h]
  by_cases h:d < 0
  ·rw[if_pos h];exact .inl rfl
  ·rw[if_neg h];exact .inr (.inl rfl)
theorem zdo(w:Wg):∀ cs:Cs,(ze w (-1) cs).length+(ze w 0 cs).length+(ze w 1 cs).length=cs.length
 | []=>rfl
 | c::cs=>by
   have ih:=zdo w cs
   unfold ze at ih ⊢
   rw[List.filter_cons,List.filter_cons,List.filter_cons]
   rcases za4 (jl c w.1 - jl c w.2) with h | h | h
   ·have h:yg w c = -1:=h
    rw[h,if_pos (by decide),if_neg (by decide),if_neg (by decide)]
    simp only[List.length_cons];omega
   ·have h:yg w c=0:=h
    rw[h,if_neg (by decide),if_pos (by decide),if_neg (by decide)]
    simp only[List.length_cons];omega
   ·have h:yg w c=1:=h
    rw[h,if_neg (by decide),if_neg (by decide),if_pos (by decide)]
    simp only[List.length_cons];omega
noncomputable def outs:List Int:=[-1,0,1]
noncomputable def solv(ws:List Wg):Nat→Cs→Bool
 | 0,cs=>cs.length == 1
 | n+1,cs=>cs.length == 1 || (decide (cs.length≤3 ^ (n+1)) && ws.any fun w=>outs.all fun o=>(ze w o cs).isEmpty || solv ws n (ze w o cs))
variable{ws:List Wg}
theorem xk{n:Nat}{cs:Cs}(h:cs.length=1):solv ws n cs=true:=by
 cases n with
 | zero=>exact beq_iff_eq.mpr h
 | succ n=>unfold solv;rw[h];rfl
theorem solv_succ{n:Nat}{cs:Cs}:solv ws (n+1) cs=true↔cs.length=1∨cs.length≤3 ^ (n+1)∧∃ w∈ws,∀ o∈outs,ze w o cs=[]∨solv ws n (ze w o cs)=true:=by
 show (cs.length == 1 || (decide (cs.length≤3 ^ (n+1)) && ws.any fun w=>outs.all fun o=>(ze w o cs).isEmpty || solv ws n (ze w o cs)))=true↔_
 rw[Bool.or_eq_true,Bool.and_eq_true,beq_iff_eq,decide_eq_true_eq,List.any_eq_true]
 simp only[List.all_eq_true,Bool.or_eq_true,List.isEmpty_iff]
theorem wg{cs:Cs}:∀ {n:Nat},solv ws n cs=true→cs.length≤3 ^ n
 | 0,h=>Nat.le_of_eq (beq_iff_eq.mp h)
 | n+1,h=>by
   rcases solv_succ.mp h with h | h
   ·rw[h];exact Nat.one_le_pow _ _ (by decide)
   ·exact h.1
theorem w9:∀ {n:Nat} {cs:Cs},solv ws n cs=true→solv ws (n+1) cs=true
 | 0,cs,h=>xk (beq_iff_eq.mp h)
 | n+1,cs,h=>by
   rcases solv_succ.mp h with h | ⟨h1,w,hw,h⟩
   ·exact xk h
   ·refine solv_succ.mpr (.inr ⟨Nat.le_trans h1 (Nat.pow_le_pow_right (by decide) (Nat.le_succ _)),w,hw,fun o ho=>(h o ho).imp id w9⟩)
theorem zb7{n m:Nat}{cs:Cs}(h:solv ws n cs=true)(hm:n≤m):solv ws m cs=true:=by
 obtain⟨k,rfl⟩:=Nat.exists_eq_add_of_le hm
 induction k with
 | zero=>exact h
 | succ k ih=>exact w9 (ih (Nat.le_add_right _ _))
theorem zdd:∀ {n:Nat} {cs cs':Cs},solv ws n cs=true→cs'.Sublist cs→cs'≠[]→solv ws n cs'=true
 | 0,cs,cs',h,hs,hn=>by
   have h:cs.length=1:=beq_iff_eq.mp h
   have:=hs.length_le
   have:0 < cs'.length:=List.length_pos_iff.mpr hn
   exact beq_iff_eq.mpr (by omega)
 | n+1,cs,cs',h,hs,hn=>by
   have hp:0 < cs'.length:=List.length_pos_iff.mpr hn
   have hl:=hs.length_le
   rcases solv_succ.mp h with h | ⟨h1,w,hw,h⟩
   ·exact xk (by omega)
   ·refine solv_succ.mpr (.inr ⟨Nat.le_trans hl h1,w,hw,fun o ho=>?_⟩)
    by_cases he:ze w o cs'=[]
    ·exact .inl he
    ·rcases h o ho with h | h
     ·have:=(hs.filter fun c=>decide (yg w c=o))
      unfold ze at h he
      rw[h] at this
      exact absurd (List.sublist_nil.mp this) he
     ·exact .inr (zdd h (hs.filter _) he)
theorem k7{n:Nat}{w:Wg}{cs:Cs}(hw:w∈ws)(h:∀ o∈outs,ze w o cs=[]∨solv ws n (ze w o cs)=true):solv ws (n+1) cs=true:=by
 have le:∀ o∈outs,(ze w o cs).length≤3 ^ n:=fun o ho=>by
  rcases h o ho with h | h
  ·rw[h];exact Nat.zero_le _
  ·exact wg h
 have h1:=le (-1) (by decide)
 have h2:=le 0 (by decide)
 have h3:=le 1 (by decide)
 have:=zdo w cs
 exact solv_succ.mpr (.inr ⟨by rw[Nat.pow_succ];omega,w,hw,h⟩)
noncomputable def ye(ws:List Wg)(a b:List Int):Bool:=ws.all fun w=>decide (yg w a=yg w b)
noncomputable def Pw(ws:List Wg)(cs:Cs):Prop:=cs.Pairwise fun a b=>ye ws a b=false
theorem Pw.solv{cs:Cs}:∀ {vs:List Wg},(∀ v∈vs,v∈ws)→∀ {cs:Cs},Pw vs cs→cs≠[]→solv ws vs.length cs=true
 | [],_,cs,hp,hn=>by
   cases cs with
   | nil=>exact absurd rfl hn
   | cons a l=>cases l with
     | nil=>exact xk rfl
     | cons b l=>exact absurd ((List.pairwise_cons.mp hp).1 b (.head _)) (by intro h;cases h)
 | w::vs,hv,cs,hp,hn=>by
   refine k7 (hv w (.head _)) fun o _=>?_
   by_cases he:ze w o cs=[]
   ·exact .inl he
   ·refine .inr (Pw.solv (cs:=cs) (fun v h=>hv v (.tail _ h)) ?_ he)
    have h1:Pw (w::vs) (ze w o cs):=hp.sublist List.filter_sublist
    refine List.Pairwise.imp_of_mem (R:=fun a b=>ye (w::vs) a b=false) (fun {a b} ha hb h=>?_) h1
    have ha:yg w a=o:=of_decide_eq_true (List.mem_filter.mp ha).2
    have hb:yg w b=o:=of_decide_eq_true (List.mem_filter.mp hb).2
    unfold ye at h
    rw[List.all_cons,ha,hb,decide_eq_true rfl,Bool.true_and] at h
    exact h
structure Least(ws:List Wg)(n:Nat)(cs:Cs):Prop where
 yes:solv ws n cs=true
 no:∀ k,k < n→solv ws k cs=false
theorem Least.le{n k:Nat}{cs:Cs}(h:Least ws n cs)(hk:solv ws k cs=true):n≤k:=by
 rcases Nat.lt_or_ge k n with hl | hl
 ·rw[h.no k hl] at hk;cases hk
 ·exact hl
theorem Least.one{n:Nat}{cs:Cs}(h:Least ws n cs)(hl:cs.length=1):n=0:=Nat.le_zero.mp (h.le (xk hl))
theorem Least.part{n k:Nat}{w:Wg}{o:Int}{cs:Cs}(h:Least ws n cs)(hk:Least ws k (ze w o cs))(he:ze w o cs≠[]):k≤n:=hk.le (zdd h.yes List.filter_sublist he)
theorem Least.step{n:Nat}{cs:Cs}{M:Wg→Nat}(h:Least ws n cs)(hl:cs.length≠1)(hM:∀ w∈ws,(∀ o∈outs,ze w o cs=[]∨solv ws (M w) (ze w o cs)=true)∧∀ k,(∀ o∈outs,ze w o cs=[]∨solv ws k (ze w o cs)=true)→M w≤k) :
 ∃ w∈ws,n=M w+1∧∀ v∈ws,M w≤M v:=by
 cases n with
 | zero=>exact absurd (beq_iff_eq.mp h.yes) hl
 | succ n=>
   rcases solv_succ.mp h.yes with h' | ⟨_,w,hw,h'⟩
   ·exact absurd h' hl
   ·have low:∀ v∈ws,n≤M v:=fun v hv=>Nat.le_of_succ_le_succ (h.le (k7 hv (hM v hv).1))
    have e:n=M w:=Nat.le_antisymm (low w hw) ((hM w hw).2 n h')
    exact⟨w,hw,by rw[e],fun v hv=>e ▸ low v hv⟩
theorem zjv{ws:List Wg}:∀ (n:Nat) {cs:Cs},Pw ws cs→cs≠[]→cs.length≤n+1→solv ws n cs=true
 | n,cs,hp,hn,hl=>by
   cases cs with
   | nil=>exact absurd rfl hn
   | cons a l=>
     cases l with
     | nil=>exact xk rfl
     | cons b l=>
       cases n with
       | zero=>exact absurd hl (by simp)
       | succ n=>
         have hab:ye ws a b=false:=(List.pairwise_cons.mp hp).1 b (.head _)
         obtain ⟨w,hw,hd⟩:=List.all_eq_false.mp hab
         rw [decide_eq_true_eq] at hd
         refine k7 hw fun o _=>?_
         by_cases he:ze w o (a::b::l)=[]
         ·exact .inl he
         ·refine .inr (zjv n (hp.sublist List.filter_sublist) he ?_)
          have hs:(ze w o (a::b::l)).Sublist (a::b::l):=List.filter_sublist
          rcases Nat.lt_or_ge (ze w o (a::b::l)).length (a::b::l).length with h | h
          ·omega
          ·have e:=hs.eq_of_length (Nat.le_antisymm hs.length_le h)
           have ha:a∈ze w o (a::b::l):=by rw [e];exact List.mem_cons_self
           have hb:b∈ze w o (a::b::l):=by rw [e];exact List.mem_cons_of_mem _ List.mem_cons_self
           exact absurd ((of_decide_eq_true (List.mem_filter.mp ha).2).trans (of_decide_eq_true (List.mem_filter.mp hb).2).symm) hd
end Mine.L07
end
section
namespace Mine.L07
open PySem Mine
theorem mem_part{w:Wg}{o:Int}{cs:Cs}{c:List Int}:c∈ze w o cs↔c∈cs∧yg w c=o:=by unfold ze;rw[List.mem_filter,decide_eq_true_eq]
noncomputable abbrev wD(w:Wg):PyData:=wOf w.1 w.2
noncomputable def wz(w:Wg)(o:Int)(x:PyData):Option PyData:=if decide (yg w (unC x)=o) then some x else none
theorem qf(w:Wg)(o:Int):∀ cs:Cs,(zb cs).filterMap (wz w o)=zb (ze w o cs)
 | []=>rfl
 | c::cs=>by
   show (caseD c::zb cs).filterMap (wz w o)=_
   unfold ze
   cases h:decide (yg w c=o) with
   | true=>rw[List.filterMap_cons_some (show wz w o (caseD c)=some (caseD c) by unfold wz;rw[xw,h];rfl),qf w o cs,List.filter_cons_of_pos (p:=fun c=>decide (yg w c=o)) h];rfl
   | false=>rw[List.filterMap_cons_none (show wz w o (caseD c)=none by unfold wz;rw[xw,h];rfl),qf w o cs,List.filter_cons_of_neg (p:=fun c=>decide (yg w c=o)) (by rw[h];decide)];rfl
structure Ok12(m:Nat)(cs:Cs):Prop where
 good:∀ c∈cs,good m c
 le:cs.length≤12
theorem Ok12.part{m:Nat}{cs:Cs}(h:Ok12 m cs)(w:Wg)(o:Int):Ok12 m (ze w o cs):=⟨fun c hc=>h.good c (mem_part.mp hc).1,Nat.le_trans (List.length_filter_le _ _) h.le⟩
theorem Ok12.line{m:Nat}{cs:Cs}(h:Ok12 m cs):(zb cs).length≤line:=by rw[zp];exact Nat.le_trans h.le (by decide)
theorem zgh{k f m a b:Nat}{w:Wg}{o:Int}{cs:Cs}{wx ox:CE}{ρ:Loc}{O:za}(h:Ok12 m cs)(hf:∀ c,good m c→zg P table k false f [.d (wD w),.d (caseD c)] O=.ok (.d (.int (yg w c))) O)(ha:Nat.blt a ρ.length=true)
 (hb:ρ[b]?=some (some (.d (.list (zb cs))))) (hw:∀ x,evE (PG k false) (ρ.set a (some (.d x))) wx O=.ok (.d (wD w)) O) (ho:∀ x,evE (PG k false) (ρ.set a (some (.d x))) ox O=.ok (.d (.int o)) O) :
 evE (PG k false) ρ (.comp (.loc a) (.name a) (.e (.loc b)) (.cons (.cmp .eq (.call f (.cons wx (.cons (.loc a) .nil))) ox) .nil)) O=.ok (.d (.list (zb (ze w o cs)))) O:=by
 have ha:a < ρ.length:=Nat.le_of_ble_eq_true ha
 have hI:evI (PG k false) ρ (.e (.loc b)) O=.ok (.plain (zb cs)) O:=by rw[x_e,x6,hb];rfl
 have:=qr (P:=PG k false) (ρ:=ρ) (elt:=.loc a) (tgt:=.name a) (it:=.e (.loc b)) (ifs:=.cons (.cmp .eq (.call f (.cons wx (.cons (.loc a) .nil))) ox) .nil) (O:=O) rfl hI rfl h.line (wz w o) fun x hx=>by
  obtain⟨c,hc,rfl⟩:=List.mem_map.mp hx
  have ea:evE (PG k false) (ρ.set a (some (.d (caseD c)))) (.loc a) O=.ok (.d (caseD c)) O:=by rw[x6,List.getElem?_set_self ha];rfl
  have et:evE (PG k false) (ρ.set a (some (.d (caseD c)))) (.cmp .eq (.call f (.cons wx (.cons (.loc a) .nil))) ox) O=.ok (.d (.bool (decide (yg w c=o)))) O:=zq (zi (zo (hw _) (zo ea rfl)) (hf c (h.good c hc))) (ho _) eq_int
  unfold xn zt
  rw[if_pos ha]
  show R.bind (xo (PG k false) (ρ.set a (some (.d (caseD c)))) _ O) _=_
  rw[zaw,et]
  unfold wz
  rw[xw]
  cases decide (yg w c=o) with
  | true=>
    show R.bind (evE (PG k false) (ρ.set a (some (.d (caseD c)))) (.loc a) O) _=_
    rw[ea];rfl
  | false=>rfl
 rw[this]
 show R.ok (V.d (.list ((zb cs).filterMap (wz w o)))) O=_
 rw[qf]
theorem zco{k m:Nat}{w:Wg}{O:za}(hm:m4 m)(hw:w∈wsI m)(c:List Int)(hc:good m c):zg P table (k+1) false 8 [.d (wD w),.d (caseD c)] O=.ok (.d (.int (yg w c))) O:=zld hm hc (ue hm hw).l (ue hm hw).r
theorem zcn{k m:Nat}{w:Wg}{O:za}(hm:m4 m)(hw:w∈wsI m)(c:List Int)(hc:good m c):zg P table (k+1) false 29 [.d (wD w),.d (caseD c)] O=.ok (.d (.int (yg w c))) O:=zcs hm hc (ue hm hw).l (ue hm hw).r
theorem y7{ys:List PyData}{turn:PyData→Loc→za→R (Loc×za) Fl}{x:PyData}{xs:List PyData}{ρ ρ':Loc}{O O':za}(h:turn x ρ O=.ok .next (ρ',O')):zu (.plain ys) turn (x::xs) ρ O=zu (.plain ys) turn xs ρ' O':=by
 rw[zu,h];exact if_pos rfl
theorem zi0{k:Nat}{f:Nat}{fn:Fn}{args:List V}{O:za}{ρ ρ':Loc}{xs:List PyData}(h:table f=some fn)(hl:args.length=fn.arity∧fn.arity≤fn.slots)(hρ:args.map some++List.replicate (fn.slots - fn.arity) none=ρ)(hk:fn.keep=false)
 (hb:evSs (PG k false) fn.body ρ O=.ok (.ret (.box O.length)) (ρ',O++[.lst xs])):zg P table (k+1) false f args O=.ok (.d (.list xs)) O:=by
 rw[kb h hl,evFn,hρ,hb]
 show dn O.length fn.keep O.length (O++[.lst xs])=_
 unfold dn
 rw[if_neg (Nat.lt_irrefl _),hk,List.getElem?_append_right (Nat.le_refl _),Nat.sub_self]
 show R.ok (V.d (.list xs)) ((O++[Box.lst xs]).take O.length)=_
 rw[List.take_left']
 rfl
theorem zfn{O:za}{a b:Box}:(O++[a]).set O.length b=O++[b]:=by rw[List.set_append_right _ _ (Nat.le_refl _),Nat.sub_self];rfl
theorem appN{O:za}{xs:List PyData}{x:PyData}(h:xs.length < line):meth .append (.box O.length) [.d x] (O++[Box.lst xs])=.ok (.d .none) (O++[Box.lst (xs++[x])]):=by
 show (match (O++[Box.lst xs])[O.length]? with | some (.lst xs)=>_ | _=>_)=_
 rw[List.getElem?_append_right (Nat.le_refl _),Nat.sub_self]
 show (if xs.length < line then R.ok (V.d .none) ((O++[Box.lst xs]).set O.length (.lst (xs++[x]))) else _)=_
 rw[if_pos h,zfn]
theorem recN{O:za}{xs:List PyData}:recv .append (.box O.length) (O++[Box.lst xs])=true:=by
 show zd0 (O++[Box.lst xs]) O.length=true
 unfold zd0
 rw[List.getElem?_append_right (Nat.le_refl _),Nat.sub_self]
 rfl
noncomputable def zr3:CSs:=.cons (.expr (.meth .append (.loc 2) (.cons (.comp (.loc 4) (.name 4) (.e (.loc 1)) (.cons (.cmp .eq (.call 8 (.cons (.loc 0) (.cons (.loc 4) .nil))) (.loc 3)) .nil)) .nil))) .nil
theorem gh{k m:Nat}{w:Wg}{o:Int}{cs:Cs}{z:Option V}{xs:List PyData}{O:za}(hm:m4 m)(hw:w∈wsI m)(h:Ok12 m cs)(hx:xs.length < line) :
 ya (PG (k+1) false) (.name 3) zr3 (.int o) [some (.d (wD w)),some (.d (.list (zb cs))),some (.box O.length),z,none] (O++[Box.lst xs])=.ok .next ([some (.d (wD w)),some (.d (.list (zb cs))),some (.box O.length),some (.d (.int o)),none],O++[Box.lst (xs++[.list (zb (ze w o cs))])]):=by
 have ep:=zgh (k:=k+1) (a:=4) (b:=1) (w:=w) (o:=o) (wx:=.loc 0) (ox:=.loc 3) (ρ:=[some (.d (wD w)),some (.d (.list (zb cs))),some (.box O.length),some (.d (.int o)),none]) (O:=O++[Box.lst xs]) h (zco hm hw) rfl rfl (fun _=>rfl) fun _=>rfl
 exact (zc (ρ:=[some (.d (wD w)),some (.d (.list (zb cs))),some (.box O.length),some (.d (.int o)),none]) (x8 (w6 rfl recN (zo ep rfl) (appN hx)))).trans rfl
noncomputable def ph(w:Wg)(cs:Cs):List PyData:=[.list (zb (ze w (-1) cs)),.list (zb (ze w 0 cs)),.list (zb (ze w 1 cs))]
theorem zeg{k m:Nat}{w:Wg}{cs:Cs}{O:za}(hm:m4 m)(hw:w∈wsI m)(h:Ok12 m cs):zg P table (k+2) false 9 [.d (wD w),.d (.list (zb cs))] O=.ok (.d (.list (ph w cs))) O:=by
 refine zi0 (fn:=c9) rfl ⟨rfl,by decide⟩ rfl rfl ((zc (z5 (v:=.box O.length) (O':=O++[Box.lst []]) rfl rfl rfl)).trans ((zc (ρ':=[some (.d (wD w)),some (.d (.list (zb cs))),some (.box O.length),some (.d (.int 1)),none]) (O':=O++[Box.lst (ph w cs)]) ?_).trans (zd (zz rfl))))
 rw[kw,if_neg Bool.false_ne_true]
 exact (y7 (gh hm hw h (by show 0 < 1000000;decide))).trans ((y7 (gh hm hw h (by show 1 < 1000000;decide))).trans ((y7 (gh hm hw h (by show 2 < 1000000;decide))).trans rfl))
theorem zef{k n:Nat}{O:za}(hn:n≤3):zg P table (k+1) false 10 [.d (.int n)] O=.ok (.d (.int ((3 ^ n:Nat):Int))) O:=by
 have key:∀ n∈[0,1,2,3],zg P table (k+1) false 10 [.d (.int (n:Nat))] O=.ok (.d (.int ((3 ^ n:Nat):Int))) (O.take O.length):=by
  have:[0,1,2,3].map (fun n:Nat=>zg P table (k+1) false 10 [.d (.int n)] O)=[0,1,2,3].map fun n:Nat=>.ok (.d (.int ((3 ^ n:Nat):Int))) (O.take O.length):=by kernel_rfl
  exact fun n hn=>jx this hn
 have:=key n (by
  have:n=0∨n=1∨n=2∨n=3:=by omega
  rcases this with rfl | rfl | rfl | rfl <;> decide)
 rw[this,List.take_length]
theorem zsi{k:Nat}:zg P table (k+4) false 7 [.d (.int (2:Nat))] []=.ok (.d (.list (due 2))) []:=by kernel_rfl
theorem zsh{k:Nat}:zg P table (k+4) false 7 [.d (.int (3:Nat))] []=.ok (.d (.list (due 3))) []:=by kernel_rfl
theorem zsg{k:Nat}:zg P table (k+4) false 7 [.d (.int (4:Nat))] []=.ok (.d (.list (due 4))) []:=by kernel_rfl
theorem zgk{k m:Nat}(h2:2≤m)(h3:m≤4):zg P table (k+4) false 7 [.d (.int m)] []=.ok (.d (.list (due m))) []:=by
 have hm:m=2∨m=3∨m=4:=by omega
 rcases hm with rfl | rfl | rfl
 ·exact zsi
 ·exact zsh
 ·exact zsg
theorem zgv(w:Wg):unW (wD w)=w:=Prod.ext (wf w.1) (wf w.2)
theorem znp{k m:Nat}{a b:List Int}{O:za}(hm:m4 m)(ha:good m a)(hb:good m b):zg P table (k+2) false 15 [.d (.list (due m)),.d (caseD a),.d (caseD b)] O=.ok (.d (.bool (ye (dueI m) a b))) O:=by
 have hl:(due m).length≤line:=by rcases qc hm with rfl | rfl | rfl | rfl <;> decide
 have hc:=wb (P:=PG (k+1) false) (ρ:=[some (.d (.list (due m))),some (.d (caseD a)),some (.d (caseD b)),none]) (elt:=.cmp .eq (.call 8 (.cons (.loc 3) (.cons (.loc 1) .nil))) (.call 8 (.cons (.loc 3) (.cons (.loc 2) .nil)))) (tgt:=.name 3) (it:=.e (.loc 0)) (O:=O) (src:=.plain (due m)) (fun x=>decide (yg (unW x) a=yg (unW x) b)) rfl rfl rfl rfl hl fun x hx=>⟨[some (.d (.list (due m))),some (.d (caseD a)),some (.d (caseD b)),some (.d x)],rfl,by
  obtain⟨w,hw,rfl⟩:=List.mem_map.mp hx
  have hw':w∈wsI m:=List.mem_flatMap.mpr ⟨w,hw,.head _⟩
  rw[zgv]
  exact zq (zi rfl (zco hm hw' a ha)) (zi rfl (zco hm hw' b hb)) eq_int⟩
 refine zh (fn:=c15) rfl ⟨rfl,by decide⟩ rfl (zd (zz (hc.trans ?_)))
 congr 3
 show ((dueI m).map fun p=>wOf p.1 p.2).all _=_
 unfold ye
 rw[List.all_map]
 congr 1
 funext w
 show decide (yg (unW (wD w)) a=yg (unW (wD w)) b)=_
 rw[zgv]
inductive Pl where
 | no
 | told (c:List Int)
 | weigh (w:Wg) (a b c:Pl)
noncomputable abbrev sT:Str:=Str.ofString "told"
noncomputable abbrev sW:Str:=Str.ofString "weigh"
noncomputable def Pl.toD:Pl→PyData
 | .no=>.none
 | .told c=>.tuple [.str sT,caseD c]
 | .weigh w a b c=>.tuple [.str sW,wD w,.tuple [a.toD,b.toD,c.toD]]
noncomputable def Pl.fits(m:Nat):Pl→Cs→Prop
 | .no,cs=>cs=[]
 | .told c,cs=>cs=[c]
 | .weigh w a b c,cs=>w∈dueI m∧cs≠[]∧a.fits m (ze w (-1) cs)∧b.fits m (ze w 0 cs)∧c.fits m (ze w 1 cs)
noncomputable def Pl.hgt:Pl→Nat
 | .weigh _ a b c=>max a.hgt (max b.hgt c.hgt)+1
 | _=>0
inductive PlR(m n:Nat)(cs:Cs)(y:PyData):Prop
 | mk (p:Pl) (e:y=p.toD) (fit:p.fits m cs) (le:p.hgt≤n)
noncomputable def vo{α:Type}(Q:α→PyData→Prop):List α→List PyData→Prop
 | [],ys=>ys=[]
 | w::ws,ys=>∃ y zs,ys=y::zs∧Q w y∧vo Q ws zs
noncomputable abbrev kq:PyData:=.tuple [.str (Str.ofString "many")]
noncomputable abbrev ju(ys:List PyData):PyData:=.tuple [.str (Str.ofString "each"),.tuple ys]
noncomputable abbrev rowD(o:Int)(y:PyData):PyData:=.tuple [.int o,y]
noncomputable def Hd(m:Nat):Nat→Cs→PyData→Prop
 | 0,cs,y=>3 ^ 0 < cs.length∧y=kq
 | n+1,cs,y=>(3 ^ (n+1) < cs.length∧y=kq)∨∃ ys,y=ju ys∧vo (fun w y=>∃ o z,y=rowD o z∧o∈outs∧Hd m n (ze w o cs) z) (dueI m) ys
theorem Hd.many{m:Nat}{cs:Cs}:∀ {n:Nat},3 ^ n < cs.length→Hd m n cs kq
 | 0,h=>⟨h,rfl⟩
 | n+1,h=>.inl ⟨h,rfl⟩
noncomputable def Row(m n:Nat)(cs:Cs)(w:Wg)(y:PyData):Prop:=∃ o z,y=rowD o z∧o∈outs∧Hd m n (ze w o cs) z
theorem Hd.tup{m:Nat}{cs:Cs}{y:PyData}:∀ {n:Nat},Hd m n cs y→∃ xs,y=.tuple xs
 | 0,h=>⟨_,h.2⟩
 | n+1,h=>by
   rcases h with h | ⟨ys,h,_⟩
   ·exact⟨_,h.2⟩
   ·exact⟨_,h⟩
noncomputable def Rs(m n:Nat)(cs:Cs):Bool→PyData→Prop
 | true,y=>PlR m n cs y
 | false,y=>Hd m n cs y
theorem Rs.nl{m n:Nat}{cs:Cs}{b:Bool}{y:PyData}(h:Rs m n cs b y)(l:List PyData):y≠.list l:=by
 cases b with
 | true=>obtain⟨p,rfl,_,_⟩:=h;cases p <;> exact fun h=>nomatch h
 | false=>obtain⟨xs,rfl⟩:=Hd.tup h;exact fun h=>nomatch h
structure Mild(Bd:List PyData→Prop):Prop where
 one:∀ x,¬ Bd [x]
 nil:¬ Bd []
 more:∀ x y z l,¬ Bd (x::y::z::l)
 str:∀ s y,(∀ l,y≠.list l)→¬ Bd [.str s,y]
 int:∀ i j,¬ Bd [.int i,.int j]
 row:∀ i xs,¬ Bd [.int i,.tuple xs]
 key:∀ xs i,¬ Bd [.tuple xs,.int i]
 pans:∀ (a b:List Int),¬ Bd [.tuple (a.map .int),.tuple (b.map .int)]
 rows:∀ i xs j ys,¬ Bd [rowD i xs,rowD j ys]
set_option tactic.hygienic true in
theorem mildP:Mild badP:=by
 constructor <;> intros <;> rintro (h | ⟨_,_,h⟩) <;> cases h
 rename_i h;exact h _ rfl
theorem j8:Mild badF:=by
 constructor <;> intros <;> rintro (h | ⟨_,_,h⟩) <;> cases h
set_option tactic.hygienic true in
theorem ko:Mild badH:=by
 constructor <;> intros <;> rintro (h | ⟨_,_,_,_,h⟩) <;> try cases h
 injection h with h _;injection h with h;rename_i a b _ _ _ _ _
 cases a with
 | nil=>cases h
 | cons x a=>injection h with h _;cases h
section
variable{Bd:List PyData→Prop}
theorem jn{x y:PyData}(hx:Shy Bd x)(hy:Shy Bd y)(h:¬ Bd [x,y]):Shy Bd (.tuple [x,y]):=.tuple (fun z hz=>by
 rcases List.mem_cons.mp hz with rfl | hz
 ·exact hx
 ·rw[List.mem_singleton.mp hz];exact hy) h
variable(M:Mild Bd)
include M
theorem qu{x y z:PyData}(hx:Shy Bd x)(hy:Shy Bd y)(hz:Shy Bd z):Shy Bd (.tuple [x,y,z]):=.tuple (fun u hu=>by
 rcases List.mem_cons.mp hu with rfl | hu
 ·exact hx
 ·rcases List.mem_cons.mp hu with rfl | hu
  ·exact hy
  ·rw[List.mem_singleton.mp hu];exact hz) (M.more _ _ _ _)
theorem k8(l:List Int):Shy Bd (.tuple (l.map .int)):=by
 refine .tuple (fun x hx=>?_) ?_
 ·obtain⟨i,_,rfl⟩:=List.mem_map.mp hx;exact .int i
 ·match l with
  | []=>exact M.nil
  | [_]=>exact M.one _
  | [i,j]=>exact M.int i j
  | _::_::_::_=>exact M.more _ _ _ _
theorem yl(cs:Cs):Shy Bd (.list (zb cs)):=.list fun x hx=>by
 obtain⟨c,_,rfl⟩:=List.mem_map.mp hx;exact k8 M c
theorem zgy(w:Wg):Shy Bd (wD w):=jn (k8 M w.1) (k8 M w.2) (M.pans _ _)
theorem u0(m:Nat):Shy Bd (.list (due m)):=.list fun x hx=>by
 obtain⟨w,_,rfl⟩:=List.mem_map.mp hx;exact zgy M w
theorem y4:∀ p:Pl,Shy Bd p.toD
 | .no=>.none
 | .told c=>jn (.str _) (k8 M c) (M.str _ _ fun _ h=>nomatch h)
 | .weigh w a b c=>qu M (.str _) (zgy M w) (qu M (y4 a) (y4 b) (y4 c))
theorem gp{m n:Nat}{cs:Cs}(ih:∀ {cs:Cs} {y:PyData},Hd m n cs y→Shy Bd y):∀ {ws:List Wg} {ys:List PyData},vo (Row m n cs) ws ys→(∀ y∈ys,Shy Bd y)∧¬ Bd ys
 | [],ys,h=>by subst h;exact⟨fun _ h=>(nomatch h),M.nil⟩
 | w::ws,ys,h=>by
   obtain⟨y,zs,rfl,hr,h⟩:=h
   obtain⟨o,z,rfl,_,hz⟩:=hr
   obtain⟨xs,rfl⟩:=hz.tup
   refine⟨fun x hx=>?_,?_⟩
   ·rcases List.mem_cons.mp hx with rfl | hx
    ·exact jn (.int o) (ih hz) (M.row _ _)
    ·exact (gp ih h).1 x hx
   ·match ws,zs,h with
    | [],zs,h=>have h:zs=[]:=h;subst h;exact M.one _
    | _::_,zs,h=>
      obtain⟨_,zs',rfl,hr,_⟩:=h
      obtain⟨o',z',rfl,_,hz'⟩:=hr
      cases zs' with
      | nil=>exact M.rows _ _ _ _
      | cons _ _=>exact M.more _ _ _ _
theorem ja{m:Nat}:∀ {n:Nat} {cs:Cs} {y:PyData},Hd m n cs y→Shy Bd y
 | 0,cs,y,h=>by rw[h.2];exact .tuple (fun x hx=>by rw[List.mem_singleton.mp hx];exact .str _) (M.one _)
 | n+1,cs,y,h=>by
   rcases h with h | ⟨ys,rfl,h⟩
   ·rw[h.2];exact .tuple (fun x hx=>by rw[List.mem_singleton.mp hx];exact .str _) (M.one _)
   ·obtain⟨h1,h2⟩:=gp M (fun h=>ja h) h
    exact jn (.str _) (.tuple h1 h2) (M.str _ _ fun _ h=>nomatch h)
theorem Rs.shy{m n:Nat}{cs:Cs}{b:Bool}{y:PyData}(h:Rs m n cs b y):Shy Bd y:=by
 cases b with
 | true=>obtain⟨p,rfl,_,_⟩:=h;exact y4 M p
 | false=>exact ja M h
end
noncomputable def word(b:Bool):PyData:=.str (if b then Str.ofString "plan" else Str.ofString "hold")
noncomputable def resD(b:Bool)(y:PyData):PyData:=.tuple [word b,y]
theorem zju(b:Bool)(O:za):cmpV .eq (.d (word b)) (.d (.str (Str.ofString "hold"))) O=.ok (.d (.bool !b)) O:=by cases b <;> kernel_rfl
theorem zpv(b:Bool)(O:za):cmpV .eq (.d (word b)) (.d (.str (Str.ofString "plan"))) O=.ok (.d (.bool b)) O:=by cases b <;> kernel_rfl
theorem zdg(b:Bool):Shy badP (word b):=.str _
theorem zmk(q:MKey):Shy badP (p9 q):=jn (.tuple (fun x hx=>by
 obtain⟨c,_,rfl⟩:=List.mem_map.mp hx;exact k8 mildP c) fun h=>by
 rcases h with h | ⟨a,l,h⟩
 ·rcases q with ⟨q,_⟩
  cases q with
  | nil=>cases h
  | cons _ _=>injection h with h _;cases h
 ·rcases q with ⟨q,_⟩
  cases q with
  | nil=>cases h
  | cons _ q=>cases q with
    | nil=>injection h with _ h;cases h
    | cons _ _=>injection h with _ h;injection h with h _;cases h) (.int _) (mildP.key _ _)
noncomputable def allK:Cs→List MKey
 | []=>(List.range 12).map fun n:Nat=>([],(n:Int))
 | c::l=>allK l++(allK l).map fun q=>(c::q.1,q.2)
theorem ze5:∀ C:Cs,(allK C).length=12 * 2 ^ C.length
 | []=>rfl
 | c::l=>by
   show (allK l++(allK l).map _).length=_
   rw[List.length_append,List.length_map,ze5 l,List.length_cons,Nat.pow_succ];omega
theorem zly{s C:Cs}{n:Nat}(h:s.Sublist C)(hn:n≤11):(s,(n:Int))∈allK C:=by
 induction h with
 | slnil=>exact List.mem_map.mpr ⟨n,List.mem_range.mpr (Nat.lt_succ_of_le hn),rfl⟩
 | cons c _ ih=>exact List.mem_append_left _ ih
 | cons_cons c _ ih=>exact List.mem_append_right _ (List.mem_map.mpr ⟨_,ih,rfl⟩)
theorem nodup_le{α:Type}[DecidableEq α]:∀ {l L:List α},l.Nodup→(∀ a∈l,a∈L)→l.length≤L.length
 | [],L,_,_=>Nat.zero_le _
 | a::l,L,hn,hs=>by
   have ha:=hs a (.head _)
   have ih:=nodup_le (L:=L.erase a) (List.nodup_cons.mp hn).2 fun b hb=>(List.mem_erase_of_ne (fun e:b=a=>(List.nodup_cons.mp hn).1 (e ▸ hb))).mpr (hs b (.tail _ hb))
   rw[List.length_erase_of_mem ha] at ih
   have:=List.length_pos_of_mem ha
   rw[List.length_cons];omega
structure InC(m:Nat)(C cs:Cs):Prop extends Ok12 m cs where
 sub:cs.Sublist C
theorem InC.part{m:Nat}{C cs:Cs}(h:InC m C cs)(w:Wg)(o:Int):InC m C (ze w o cs):=⟨h.toOk12.part w o,List.filter_sublist.trans h.sub⟩
structure Mem(m:Nat)(C:Cs)(kvs:List (MKey×PyData)):Prop where
 ok:∀ kv∈kvs,∃ n:Nat,kv.1.2=n∧∃ y,kv.2=resD (solv (dueI m) n kv.1.1) y∧Rs m n kv.1.1 (solv (dueI m) n kv.1.1) y
 keys:∀ kv∈kvs,kv.1∈allK C
 nodup:(kvs.map (·.1)).Nodup
 small:C.length≤12
theorem Mem.len{m:Nat}{C:Cs}{kvs:List (MKey×PyData)}(h:Mem m C kvs):kvs.length≤line:=by
 have:=nodup_le h.nodup fun q hq=>by obtain⟨kv,hkv,rfl⟩:=List.mem_map.mp hq;exact h.keys kv hkv
 rw[List.length_map,ze5] at this
 have hp:2 ^ C.length≤2 ^ 12:=Nat.pow_le_pow_right (by decide) h.small
 exact Nat.le_trans this (Nat.le_trans (Nat.mul_le_mul_left 12 hp) (by decide))
theorem Mem.find{m n:Nat}{C cs:Cs}{kvs:List (MKey×PyData)}{x:PyData}(h:Mem m C kvs)(e:z0 kvs (cs,(n:Int))=some x):∃ y,x=resD (solv (dueI m) n cs) y∧Rs m n cs (solv (dueI m) n cs) y:=by
 obtain⟨kv,h1,rfl⟩:=Option.map_eq_some_iff.mp e
 have h2:kv.1=(cs,(n:Int)):=of_decide_eq_true (List.find?_some (p:=fun kv:MKey×PyData=>decide (kv.1=(cs,(n:Int)))) h1)
 obtain⟨n',e1,y,e2,hy⟩:=h.ok kv (List.mem_of_find?_eq_some h1)
 rw[h2] at e1 e2 hy
 have:n'=n:=(Int.ofNat.inj e1).symm
 subst this
 exact⟨y,e2,hy⟩
theorem Mem.add{m n:Nat}{C cs:Cs}{kvs:List (MKey×PyData)}{y:PyData}(h:Mem m C kvs)(hy:Rs m n cs (solv (dueI m) n cs) y)(hc:cs.Sublist C)(hn:n≤11)(hd:z0 kvs (cs,(n:Int))=none):Mem m C (kvs++[((cs,(n:Int)),resD (solv (dueI m) n cs) y)]):=⟨fun kv hkv=>by
 rcases List.mem_append.mp hkv with hkv | hkv
 ·exact h.ok kv hkv
 ·rw[List.mem_singleton.mp hkv];exact⟨n,rfl,y,rfl,hy⟩,fun kv hkv=>by
 rcases List.mem_append.mp hkv with hkv | hkv
 ·exact h.keys kv hkv
 ·rw[List.mem_singleton.mp hkv];exact zly hc hn,by
 rw[List.map_append]
 refine List.nodup_append.mpr ⟨h.nodup,List.pairwise_singleton _ _,fun a ha b hb e=>?_⟩
 obtain⟨kv,hkv,rfl⟩:=List.mem_map.mp ha
 rw[List.mem_singleton.mp hb] at e
 have:=List.find?_eq_none.mp (Option.map_eq_none_iff.mp hd) kv hkv
 exact this (decide_eq_true e),h.small⟩
theorem zis{kvs:List (MKey×PyData)}{q:MKey}{x:PyData}(h:z0 kvs q=none):z0 (kvs++[(q,x)]) q=some x:=by
 unfold z0 at h ⊢
 rw[Option.map_eq_none_iff] at h
 rw[List.find?_append,h,Option.none_or]
 rw[List.find?_cons,decide_eq_true rfl];rfl
theorem zem{kvs:List (MKey×PyData)}{q q':MKey}{x:PyData}(h:q≠q'):z0 (kvs++[(q,x)]) q'=z0 kvs q':=by
 unfold z0
 rw[List.find?_append]
 have:List.find? (fun kv:MKey×PyData=>decide (kv.1=q')) [(q,x)]=none:=by rw[List.find?_cons,decide_eq_false h];rfl
 rw[this,Option.or_none]
structure Ok(m:Nat)(C:Cs)(d:Nat)(O:za)(kvs:List (MKey×PyData)):Prop where
 at_:O[d]?=some (.dct kvs)
 mem:Mem m C kvs
 shy:∀ b∈O,ShyB badP b
theorem set_same{O:za}{d:Nat}{b:Box}(h:O[d]?=some b):O.set d b=O:=by
 obtain⟨hlt,e⟩:=List.getElem?_eq_some_iff.mp h
 rw[← e];exact List.set_getElem_self hlt
section
variable{m d n:Nat}{C:Cs}{O:za}{kvs kvs':List (MKey×PyData)}
theorem Ok.lt(h:Ok m C d O kvs):d < O.length:=(List.getElem?_eq_some_iff.mp h.at_).1
theorem Ok.push{b:Box}(h:Ok m C d O kvs)(hb:ShyB badP b):Ok m C d (O++[b]) kvs:=⟨by rw[List.getElem?_append_left h.lt];exact h.at_,h.mem,fun x hx=>by
 rcases List.mem_append.mp hx with hx | hx
 ·exact h.shy x hx
 ·rw[List.mem_singleton.mp hx];exact hb⟩
theorem Ok.set_push{b x:Box}(h:Ok m C d O kvs):(O++[b]).set d x=O.set d x++[b]:=List.set_append_left _ _ h.lt
theorem Mem.shy(h:Mem m C kvs):ShyB badP (.dct kvs):=fun kv hkv=>by
 obtain⟨_,_,y,e,hy⟩:=h.ok kv hkv
 rw[e];exact⟨zmk _,jn (zdg _) (hy.shy mildP) (mildP.str _ _ hy.nl)⟩
theorem Ok.set(h:Ok m C d O kvs)(hm:Mem m C kvs'):Ok m C d (O.set d (.dct kvs')) kvs':=⟨List.getElem?_set_self h.lt,hm,fun x hx=>by
 rcases List.mem_or_eq_of_mem_set hx with hx | rfl
 ·exact h.shy x hx
 ·exact hm.shy⟩
inductive Gives(m:Nat)(C:Cs)(n d:Nat)(O:za)(kvs:List (MKey×PyData))(b:Bool)(Q:PyData→Prop)(r:R za V):Prop
 | mk (y:PyData) (kvs':List (MKey×PyData)) (e:r=.ok (.d (resD b y)) (O.set d (.dct kvs'))) (ny:Q y) (mem:Mem m C kvs') (old:∀ q:MKey,(n:Int) < q.2→z0 kvs' q=z0 kvs q)
end
theorem qm{k:Nat}{f:Nat}{fn:Fn}{args:List V}{O O₁ O':za}{ρ ρ':Loc}{x:PyData}(h:table f=some fn)(hl:args.length=fn.arity∧fn.arity≤fn.slots)(hρ:args.map some++List.replicate (fn.slots - fn.arity) none=ρ)
 (hn:O₁.length=O.length) (hb:evSs (PG k false) fn.body ρ O=.ok (.ret (.d x)) (ρ',O₁++O')):zg P table (k+1) false f args O=.ok (.d x) O₁:=by
 rw[kb h hl,evFn,hρ,hb]
 show R.ok (V.d x) ((O₁++O').take O.length)=_
 rw[← hn,List.take_left']
 rfl
theorem gg{P:Pg}{ρ ρ':Loc}{O O':za}{e:CE}{t:CT}{v:V}(hd:P.hd=false)(h:evE P ρ e O=.ok v O')(hb:zt t v ρ=some ρ'):evS P (.asg t e) ρ O=.ok .next (ρ',O'):=by
 rw[wc,if_neg (by rw[hd,Bool.false_and];decide),h]
 show asgR t v (ρ,O')=_
 unfold asgR
 rw[show (ρ,O').1=ρ from rfl,hb]
noncomputable def LookS(m:Nat)(C:Cs)(n lev:Nat):Prop:=∀ (k:Nat) (cs:Cs) (O:za) (d:Nat) (kvs:List (MKey×PyData)),InC m C cs→cs≠[]→Ok m C d O kvs →
 Gives m C n d O kvs (solv (dueI m) n cs) (Rs m n cs (solv (dueI m) n cs)) (zg P table (k+lev) false 19 [.d (.list (due m)),.d (.list (zb cs)),.d (.int (n:Int)),.box d] O)
noncomputable def ShyO(a:Option V):Prop:=∀ v,a=some v→ShyV badP v
theorem qw:ShyO none:=fun _ h=>nomatch h
theorem pd{x:PyData}(h:Shy badP x):ShyO (some (.d x)):=fun v e=>by cases e;exact h
noncomputable abbrev RT(m n:Nat)(w:Wg)(cs:Cs)(d L:Nat)(a b c e:Option V):Loc:=[some (.d (.list (due m))),some (.d (wD w)),some (.d (.list (zb cs))),some (.d (.int ((n+1:Nat):Int))),some (.box d),some (.box L),a,b,c,e]
noncomputable def tryB:CSs:=(.cons (.ife (.cmp .eq (.loc 7) (.list .nil)) (.cons (.expr (.meth .append (.loc 5) (.cons .none .nil))) .nil) (.cons (.asg (.two (.name 8) (.name 9)) (.call 19 (.cons (.loc 0) (.cons (.loc 7) (.cons (.bin .sub (.loc 3) (.int 1)) (.cons (.loc 4) .nil)))))) (.cons (.ife (.cmp .eq (.loc 8) (.str (Str.ofString "hold"))) (.cons (.ret (.tup (.cons (.str (Str.ofString "hold")) (.cons (.tup (.cons (.loc 6) (.cons (.loc 9) .nil))) .nil)))) .nil) .nil) (.cons (.expr (.meth .append (.loc 5) (.cons (.loc 9) .nil))) .nil)))) .nil)
noncomputable def okP(m n:Nat)(w:Wg)(cs:Cs)(o:Int):Bool:=(ze w o cs).isEmpty || solv (dueI m) n (ze w o cs)
section
variable{m n lev k d:Nat}{w:Wg}{C cs:Cs}{O:za}{kvs:List (MKey×PyData)}
theorem k9{Bd:List PyData→Prop}(h:∀ b∈O,ShyB Bd b):ShyS Bd [] O:=⟨fun _ h=>(nomatch h),h⟩
theorem vw{Bd:List PyData→Prop}{ρ:Loc}{a:Option V}(h:∀ v,a=some v→ShyV Bd v)(hr:ShyS Bd ρ O):ShyS Bd (a::ρ) O:=⟨fun v hv=>(List.mem_cons.mp hv).elim (fun e=>h v e.symm) (hr.loc v),hr.box⟩
theorem yh{Bd:List PyData→Prop}{ρ:Loc}{x:PyData}(h:Shy Bd x)(hr:ShyS Bd ρ O):ShyS Bd (some (.d x)::ρ) O:=vw (fun v e=>by cases e;exact h) hr
theorem kc{Bd:List PyData→Prop}{ρ:Loc}(hr:ShyS Bd ρ O):ShyS Bd (none::ρ) O:=vw (fun v e=>nomatch e) hr
theorem zjm{Bd:List PyData→Prop}{ρ:Loc}{i:Nat}(hr:ShyS Bd ρ O):ShyS Bd (some (.box i)::ρ) O:=vw (fun v e=>by cases e;trivial) hr
theorem zrv{L:Nat}{a b c e:Option V}(ha:ShyO a)(hb:ShyO b)(hc:ShyO c)(he:ShyO e)(hO:∀ b∈O,ShyB badP b):ShyS badP (RT m n w cs d L a b c e) O:=
 yh (u0 mildP m) (yh (zgy mildP w) (yh (yl mildP cs) (yh (.int _) (zjm (zjm (vw ha (vw hb (vw hc (vw he (k9 hO))))))))))
inductive ztm(m:Nat)(C:Cs)(n:Nat)(w:Wg)(cs:Cs)(d:Nat)(O:za)(kvs:List (MKey×PyData))(xs:List PyData)(o:Int)(r:R (Loc×za) Fl):Prop
 | next (kvs':List (MKey×PyData)) (mem:Mem m C kvs') (old:∀ q:MKey,(n:Int) < q.2→z0 kvs' q=z0 kvs q) (hb:okP m n w cs o=true) (x:PyData) (hx:PlR m n (ze w o cs) x) (a b c e:Option V) (ha:ShyO a) (hbb:ShyO b) (hc:ShyO c) (he:ShyO e)
    (h:r=.ok .next (RT m n w cs d O.length a b c e,O.set d (.dct kvs')++[Box.lst (xs++[x])]))
 | ret (kvs':List (MKey×PyData)) (mem:Mem m C kvs') (old:∀ q:MKey,(n:Int) < q.2→z0 kvs' q=z0 kvs q) (hb:okP m n w cs o=false) (y:PyData) (hy:Row m n cs w y) (ρ':Loc)
    (h:r=.ok (.ret (.d (resD false y))) (ρ',O.set d (.dct kvs')++[Box.lst xs]))
theorem zrs(L1:LookS m C n lev){o:Int}{xs:List PyData}{a b c e:Option V}(ho:o∈outs)(h:InC m C cs)(ok:Ok m C d O kvs)(hxs:∀ x∈xs,Shy badP x)(hl:xs.length < line)(ha:ShyO a)(hb:ShyO b)(hc:ShyO c)(he:ShyO e) :
 ztm m C n w cs d O kvs xs o (y6 badP (.two (.name 6) (.name 7)) (fun ρ O=>evSs (PG (k+lev) false) tryB ρ O) (.tuple [.int o,.list (zb (ze w o cs))]) (RT m n w cs d O.length a b c e) (O++[Box.lst xs])):=by
 have ok1:Ok m C d (O++[Box.lst xs]) kvs:=ok.push hxs
 have hp:=h.part w o
 have e0:y6 badP (.two (.name 6) (.name 7)) (fun ρ O=>evSs (PG (k+lev) false) tryB ρ O) (.tuple [.int o,.list (zb (ze w o cs))]) (RT m n w cs d O.length a b c e) (O++[Box.lst xs])=evSs (PG (k+lev) false) tryB (RT m n w cs d O.length (some (.d (.int o))) (some (.d (.list (zb (ze w o cs))))) c e) (O++[Box.lst xs]):=by
  unfold y6
  rw[if_pos (zrv ha hb hc he ok1.shy)]
  rfl
 rw[e0]
 have et:evE (PG (k+lev) false) (RT m n w cs d O.length (some (.d (.int o))) (some (.d (.list (zb (ze w o cs))))) c e) (.cmp .eq (.loc 7) (.list .nil)) (O++[Box.lst xs])=.ok (.d (.bool (ze w o cs).isEmpty)) (O++[Box.lst xs]):=by
  refine zq rfl rfl ((u7 (kh _)).trans ?_)
  congr 3
  unfold zb;rw[List.isEmpty_map]
 cases hem:(ze w o cs).isEmpty with
 | true=>
   rw[hem] at et
   refine .next kvs ok.mem (fun _ _=>rfl) (by unfold okP;rw[hem];rfl) .none ⟨.no,rfl,List.isEmpty_iff.mp hem,Nat.zero_le _⟩ _ _ c e (pd (.int o)) (pd (yl mildP (ze w o cs))) hc he ?_
   rw[set_same ok.at_]
   exact (zc ((w_if et).trans ((if_pos rfl).trans ((zc (x8 (w6 rfl recN (zo rfl rfl) (appN hl)))).trans rfl)))).trans rfl
 | false=>
   rw[hem] at et
   have hne:ze w o cs≠[]:=fun e=>by rw[e] at hem;cases hem
   obtain⟨y,kvs',e1,ny,mem,old⟩:=L1 k (ze w o cs) _ d kvs hp hne ok1
   have hnum:((n+1:Nat):Int) - 1=(n:Int):=by omega
   have es:evS (PG (k+lev) false) (.asg (.two (.name 8) (.name 9)) (.call 19 (.cons (.loc 0) (.cons (.loc 7) (.cons (.bin .sub (.loc 3) (.int 1)) (.cons (.loc 4) .nil)))))) (RT m n w cs d O.length (some (.d (.int o))) (some (.d (.list (zb (ze w o cs))))) c e) (O++[Box.lst xs]) =
    .ok .next (RT m n w cs d O.length (some (.d (.int o))) (some (.d (.list (zb (ze w o cs))))) (some (.d (word (solv (dueI m) n (ze w o cs))))) (some (.d y)),O.set d (.dct kvs')++[Box.lst xs]):=by
    refine gg rfl (zi (zo rfl (zo rfl (zo (yb rfl rfl vi) (zo rfl rfl)))) ?_) (v:=.d (resD (solv (dueI m) n (ze w o cs)) y)) rfl
    rw[hnum,← ok.set_push]
    exact e1
   have eq:=zju (solv (dueI m) n (ze w o cs)) (O.set d (.dct kvs')++[Box.lst xs])
   have hlen:(O.set d (.dct kvs')).length=O.length:=List.length_set
   cases hb':solv (dueI m) n (ze w o cs) with
   | true=>
     rw[hb'] at eq es ny
     refine .next kvs' mem old (by unfold okP;rw[hb',Bool.or_true]) y ny _ _ _ _ (pd (.int o)) (pd (yl mildP (ze w o cs))) (pd (zdg true)) (pd (Rs.shy mildP ny)) ?_
     have er:recv .append (.box O.length) (O.set d (.dct kvs')++[Box.lst xs])=true:=by rw[← hlen];exact recN
     have ea:meth .append (.box O.length) [.d y] (O.set d (.dct kvs')++[Box.lst xs])=.ok (.d .none) (O.set d (.dct kvs')++[Box.lst (xs++[y])]):=by rw[← hlen];exact appN hl
     exact (zc ((w_if et).trans ((if_neg Bool.false_ne_true).trans ((zc es).trans ((zc (zw (zq rfl rfl eq))).trans ((zc (x8 (w6 rfl er (zo rfl rfl) ea))).trans rfl)))))).trans rfl
   | false=>
     rw[hb'] at eq es ny
     refine .ret kvs' mem old (by unfold okP;rw[hb',hem];rfl) (.tuple [.int o,y]) ⟨o,y,rfl,ho,ny⟩ (RT m n w cs d O.length (some (.d (.int o))) (some (.d (.list (zb (ze w o cs))))) (some (.d (word false))) (some (.d y))) ?_
     exact zd ((w_if et).trans ((if_neg Bool.false_ne_true).trans ((zc es).trans (zd ((w_if (zq rfl rfl eq)).trans ((if_pos rfl).trans (zd (zz rfl))))))))
inductive TryR(m:Nat)(C:Cs)(n:Nat)(w:Wg)(cs:Cs)(d:Nat)(O:za)(kvs:List (MKey×PyData))(xs:List PyData)(os:List Int)(r:R (Loc×za) Fl):Prop
 | next (kvs':List (MKey×PyData)) (mem:Mem m C kvs') (old:∀ q:MKey,(n:Int) < q.2→z0 kvs' q=z0 kvs q) (hb:os.all (okP m n w cs)=true) (ys:List PyData) (hy:vo (fun o=>PlR m n (ze w o cs)) os ys) (a b c e:Option V)
    (h:r=.ok .next (RT m n w cs d O.length a b c e,O.set d (.dct kvs')++[Box.lst (xs++ys)]))
 | ret (kvs':List (MKey×PyData)) (mem:Mem m C kvs') (old:∀ q:MKey,(n:Int) < q.2→z0 kvs' q=z0 kvs q) (hb:os.all (okP m n w cs)=false) (y:PyData) (hy:Row m n cs w y) (ρ':Loc) (xs':List PyData)
    (h:r=.ok (.ret (.d (resD false y))) (ρ',O.set d (.dct kvs')++[Box.lst xs']))
theorem jr{ys:List PyData}{turn:PyData→Loc→za→R (Loc×za) Fl}{x:PyData}{xs:List PyData}{ρ:Loc}{O:za}{v:V}{S:Loc×za}(h:turn x ρ O=.ok (.ret v) S):zu (.plain ys) turn (x::xs) ρ O=.ok (.ret v) S:=by
 rw[zu,h]
theorem zol(L1:LookS m C n lev)(h:InC m C cs){zs:List PyData}:∀ (os:List Int) (O:za) (kvs:List (MKey×PyData)) (xs:List PyData) (a b c e:Option V),(∀ o∈os,o∈outs)→Ok m C d O kvs→(∀ x∈xs,Shy badP x)→xs.length+os.length < line→ShyO a→ShyO b→ShyO c→ShyO e →
 TryR m C n w cs d O kvs xs os (zu (.plain zs) (y6 badP (.two (.name 6) (.name 7)) (fun ρ O=>evSs (PG (k+lev) false) tryB ρ O)) (os.map fun o=>.tuple [.int o,.list (zb (ze w o cs))]) (RT m n w cs d O.length a b c e) (O++[Box.lst xs]))
 | [],O,kvs,xs,a,b,c,e,_,ok,_,_,_,_,_,_=>.next kvs ok.mem (fun _ _=>rfl) rfl [] rfl a b c e (by rw[List.append_nil,set_same ok.at_];rfl)
 | o::os,O,kvs,xs,a,b,c,e,ho,ok,hxs,hl,ha,hb,hc,he=>by
   rw[List.length_cons] at hl
   rcases zrs (k:=k) (w:=w) (o:=o) L1 (ho o (.head _)) h ok hxs (by omega) ha hb hc he with ⟨kvs₁,mem₁,old₁,hb₁,x,hx,a',b',c',e',ha',hb',hc',he',h₁⟩ | ⟨kvs₁,mem₁,old₁,hb₁,y,hy,ρ',h₁⟩
   ·have ok₁:=ok.set mem₁
    have hlen:(O.set d (.dct kvs₁)).length=O.length:=List.length_set
    have ih:=zol (zs:=zs) L1 h os (O.set d (.dct kvs₁)) kvs₁ (xs++[x]) a' b' c' e' (fun z hz=>ho z (.tail _ hz)) ok₁ (fun z hz=>by
     rcases List.mem_append.mp hz with hz | hz
     ·exact hxs z hz
     ·rw[List.mem_singleton.mp hz];obtain⟨p,e,_,_⟩:=hx;rw[e];exact y4 mildP p) (by rw[List.length_append,List.length_singleton];omega) ha' hb' hc' he'
    rw[hlen] at ih
    rw[List.map_cons,y7 h₁]
    rcases ih with ⟨kvs',mem,old,hb₂,ys,hy,a₂,b₂,c₂,e₂,h₂⟩ | ⟨kvs',mem,old,hb₂,y,hy,ρ',xs',h₂⟩
    ·refine .next kvs' mem (fun q hq=>(old q hq).trans (old₁ q hq)) (by rw[List.all_cons,hb₁,hb₂];rfl) (x::ys) ⟨x,ys,rfl,hx,hy⟩ a₂ b₂ c₂ e₂ ?_
     rw[h₂,hlen,List.set_set,List.append_assoc];rfl
    ·refine .ret kvs' mem (fun q hq=>(old q hq).trans (old₁ q hq)) (by rw[List.all_cons,hb₁,hb₂];rfl) y hy ρ' xs' ?_
     rw[h₂,List.set_set]
   ·refine .ret kvs₁ mem₁ old₁ (by rw[List.all_cons,hb₁];rfl) y hy ρ' xs ?_
    rw[List.map_cons,jr h₁]
theorem zfa{Bd:List PyData→Prop}{q1 q2:SqK}{P:Pg}{ρ:Loc}{O O₁ O₂:za}{t:CT}{a b:CE}{c:CSs}{xs ys:List PyData}(hd:P.hd=false)(h1:evE P ρ a O=.ok (.d (q1.mk xs)) O₁)(h2:evE P ρ b O₁=.ok (.d (q2.mk ys)) O₂)(ok:ZOk Bd q1 q2 xs ys):evS P (.forG Bd q1 q2 t a b c) ρ O=zu (.plain (zipT xs ys)) (y6 Bd t fun ρ O=>evSs P c ρ O) (zipT xs ys) ρ O₂:=by
 show (if P.hd=true then .stuck else (((evE P ρ a O).bind fun v O=>(evE P ρ b O).bind fun u O=>.ok (v,u) O).lift ρ).bind (zhd Bd q1 q2 t fun ρ O=>evSs P c ρ O))=_
 rw[if_neg (by rw[hd];exact Bool.false_ne_true),h1,zv,h2]
 show zkw Bd q1 q2 t (fun ρ O=>evSs P c ρ O) (sqOf q1 (q1.mk xs)) (sqOf q2 (q2.mk ys)) (ρ,O₂)=_
 have e1:∀ {q:SqK} {xs:List PyData},sqOf q (q.mk xs)=some xs:=fun {q xs}=>by cases q <;> rfl
 rw[e1,e1]
 exact if_pos ok
theorem zcq{P:Pg}{ρ:Loc}{a b:CE}{x y:PyData}{O O' O'':za}(h1:evE P ρ a O=.ok (.d x) O')(h2:evE P ρ b O'=.ok (.d y) O''):evE P ρ (.tup (.cons a (.cons b .nil))) O=.ok (.d (.tuple [x,y])) O'':=by
 rw[zob,zo h1 (zo h2 rfl)];rfl
theorem zqt{P:Pg}{ρ:Loc}{a b c:CE}{x y z:PyData}{O O' O'' O₃:za}(h1:evE P ρ a O=.ok (.d x) O')(h2:evE P ρ b O'=.ok (.d y) O'')(h3:evE P ρ c O''=.ok (.d z) O₃):evE P ρ (.tup (.cons a (.cons b (.cons c .nil)))) O=.ok (.d (.tuple [x,y,z])) O₃:=by
 rw[zob,zo h1 (zo h2 (zo h3 rfl))];rfl
theorem zjd{k:Nat}{O:za}{xs:List PyData}(hl:xs.length≤line):prim (PG k false) .tuple [.box O.length] (O++[Box.lst xs])=.ok (.d (.tuple xs)) (O++[Box.lst xs]):=by
 refine kg (x:=.list xs) ?_ (if_pos hl)
 show kr (O++[Box.lst xs]) O.length=_
 unfold kr
 rw[List.getElem?_append_right (Nat.le_refl _),Nat.sub_self];rfl
theorem za9{Bd:List PyData→Prop}(M:Mild Bd){w:Wg}{cs:Cs}:Shy Bd (.list (ph w cs)):=.list fun x hx=>by
 rcases List.mem_cons.mp hx with rfl | hx
 ·exact yl M _
 rcases List.mem_cons.mp hx with rfl | hx
 ·exact yl M _
 ·rw[List.mem_singleton.mp hx];exact yl M _
theorem za8{w:Wg}{cs:Cs}{i:Nat}{x:PyData}(h:(ph w cs)[i]?=some x):∃ cs,x=.list (zb cs):=by
 have hx:=List.mem_of_getElem? h
 rcases List.mem_cons.mp hx with rfl | hx
 ·exact⟨_,rfl⟩
 rcases List.mem_cons.mp hx with rfl | hx
 ·exact⟨_,rfl⟩
 ·exact⟨_,List.mem_singleton.mp hx⟩
noncomputable def TQ(m n:Nat)(w:Wg)(cs:Cs):Bool→PyData→Prop
 | true,y=>PlR m (n+1) cs y
 | false,y=>Row m n cs w y
theorem zni(L1:LookS m C n lev)(hm:m4 m)(hw:w∈dueI m)(h:InC m C cs)(hne:cs≠[])(hlev:2≤lev)(ok:Ok m C d O kvs) :
 Gives m C n d O kvs (outs.all (okP m n w cs)) (TQ m n w cs (outs.all (okP m n w cs))) (zg P table (k+lev+1) false 17 [.d (.list (due m)),.d (wD w),.d (.list (zb cs)),.d (.int ((n+1:Nat):Int)),.box d] O):=by
 obtain⟨l',rfl⟩:=Nat.exists_eq_add_of_le' hlev
 have hw':w∈wsI m:=List.mem_flatMap.mpr ⟨w,hw,.head _⟩
 have hz:ZOk badP .tup .lst [.int (-1),.int 0,.int 1] (ph w cs):=⟨rfl,qu mildP (.int (-1)) (.int 0) (.int 1),za9 mildP,.inl rfl,fun i x y _ hy=>by
  obtain⟨c,rfl⟩:=za8 hy;exact .inr ⟨_,_,rfl⟩⟩
 have lp:=zol (k:=k) (d:=d) (w:=w) (zs:=outs.map fun o=>.tuple [.int o,.list (zb (ze w o cs))]) L1 h outs O kvs [] none none none none (fun _ h=>h) ok (fun _ h=>nomatch h) (by show 3 < 1000000;decide) qw qw qw qw
 have ef:evS (PG (k+(l' + 2)) false) (.forG badP .tup .lst (.two (.name 6) (.name 7)) (.glob 3) (.call 9 (.cons (.loc 1) (.cons (.loc 2) .nil))) tryB) (RT m n w cs d O.length none none none none) (O++[Box.lst []])=zu (.plain (outs.map fun o=>.tuple [.int o,.list (zb (ze w o cs))])) (y6 badP (.two (.name 6) (.name 7)) (fun ρ O=>evSs (PG (k+(l' + 2)) false) tryB ρ O)) (outs.map fun o=>.tuple [.int o,.list (zb (ze w o cs))]) (RT m n w cs d O.length none none none none) (O++[Box.lst []]):=
  zfa (q1:=.tup) (q2:=.lst) rfl rfl (zi rfl (zeg (k:=k+l') hm hw' h.toOk12)) hz
 have hlen:∀ kvs',(O.set d (.dct kvs')).length=O.length:=fun _=>List.length_set
 rcases lp with ⟨kvs',mem,old,hb,ys,hy,a,b,c,e,h₁⟩ | ⟨kvs',mem,old,hb,y,hy,ρ',xs',h₁⟩
 ·rw[hb]
  obtain⟨y1,ys,rfl,⟨p1,rfl,f1,l1⟩,hy⟩:=hy
  obtain⟨y2,ys,rfl,⟨p2,rfl,f2,l2⟩,hy⟩:=hy
  obtain⟨y3,ys,rfl,⟨p3,rfl,f3,l3⟩,hy⟩:=hy
  have hy:ys=[]:=hy
  subst hy
  refine⟨(Pl.weigh w p1 p2 p3).toD,kvs',?_,⟨.weigh w p1 p2 p3,rfl,⟨hw,hne,f1,f2,f3⟩,Nat.succ_le_succ (Nat.max_le.mpr ⟨l1,Nat.max_le.mpr ⟨l2,l3⟩⟩)⟩,mem,old⟩
  refine qm (fn:=c17) (O':=[Box.lst ([]++[p1.toD,p2.toD,p3.toD])]) rfl ⟨rfl,by decide⟩ rfl (hlen kvs') ((zc (z5 (v:=.box O.length) (O':=O++[Box.lst []]) rfl rfl rfl)).trans ((zc (ef.trans h₁)).trans (zd (zz ?_))))
  have et:evE (PG (k+(l' + 2)) false) (RT m n w cs d O.length a b c e) (.prim .tuple (.cons (.loc 5) .nil)) (O.set d (.dct kvs')++[Box.lst ([]++[p1.toD,p2.toD,p3.toD])])=.ok (.d (.tuple [p1.toD,p2.toD,p3.toD])) (O.set d (.dct kvs')++[Box.lst ([]++[p1.toD,p2.toD,p3.toD])]):=yc rfl rfl (by rw[← hlen kvs'];exact zjd (by show 3≤1000000;decide))
  exact zcq rfl (zqt rfl rfl et)
 ·rw[hb]
  exact⟨y,kvs',qm (fn:=c17) rfl ⟨rfl,by decide⟩ rfl (hlen kvs') ((zc (z5 (v:=.box O.length) (O':=O++[Box.lst []]) rfl rfl rfl)).trans (zd (ef.trans h₁))),hy,mem,old⟩
end
noncomputable abbrev RE(m n:Nat)(cs:Cs)(d L:Nat)(a b c:Option V):Loc:=[some (.d (.list (due m))),some (.d (.list (zb cs))),some (.d (.int ((n+1:Nat):Int))),some (.box d),some (.box L),a,b,c]
noncomputable def zhh:CSs:=(.cons (.asg (.two (.name 6) (.name 7)) (.call 17 (.cons (.loc 0) (.cons (.loc 5) (.cons (.loc 1) (.cons (.loc 2) (.cons (.loc 3) .nil))))))) (.cons (.ife (.cmp .eq (.loc 6) (.str (Str.ofString "plan"))) (.cons (.ret (.tup (.cons (.str (Str.ofString "plan")) (.cons (.loc 7) .nil)))) .nil) .nil) (.cons (.expr (.meth .append (.loc 4) (.cons (.loc 7) .nil))) .nil)))
noncomputable def trB(m n:Nat)(cs:Cs)(w:Wg):Bool:=outs.all (okP m n w cs)
section
variable{m n lev k d:Nat}{C cs:Cs}{O:za}{kvs:List (MKey×PyData)}
inductive ztp(m:Nat)(C:Cs)(n:Nat)(w:Wg)(cs:Cs)(d:Nat)(O:za)(kvs:List (MKey×PyData))(xs:List PyData)(r:R (Loc×za) Fl):Prop
 | next (kvs':List (MKey×PyData)) (mem:Mem m C kvs') (old:∀ q:MKey,(n:Int) < q.2→z0 kvs' q=z0 kvs q) (hb:trB m n cs w=false) (y:PyData) (hy:Row m n cs w y) (a b c:Option V)
    (h:r=.ok .next (RE m n cs d O.length a b c,O.set d (.dct kvs')++[Box.lst (xs++[y])]))
 | ret (kvs':List (MKey×PyData)) (mem:Mem m C kvs') (old:∀ q:MKey,(n:Int) < q.2→z0 kvs' q=z0 kvs q) (hb:trB m n cs w=true) (y:PyData) (hy:PlR m (n+1) cs y) (ρ':Loc)
    (h:r=.ok (.ret (.d (resD true y))) (ρ',O.set d (.dct kvs')++[Box.lst xs]))
theorem zpf(L1:LookS m C n lev)(hm:m4 m){w:Wg}(hw:w∈dueI m)(h:InC m C cs)(hne:cs≠[])(hlev:2≤lev){xs:List PyData}{a b c:Option V}(ok:Ok m C d O kvs)(hxs:∀ x∈xs,Shy badP x)(hl:xs.length < line) :
 ztp m C n w cs d O kvs xs (ya (PG (k+lev+1) false) (.name 5) zhh (wD w) (RE m n cs d O.length a b c) (O++[Box.lst xs])):=by
 have ok1:Ok m C d (O++[Box.lst xs]) kvs:=ok.push hxs
 obtain⟨y,kvs',e1,ny,mem,old⟩:=zni (k:=k) L1 hm hw h hne hlev ok1
 have es:evS (PG (k+lev+1) false) (.asg (.two (.name 6) (.name 7)) (.call 17 (.cons (.loc 0) (.cons (.loc 5) (.cons (.loc 1) (.cons (.loc 2) (.cons (.loc 3) .nil))))))) (RE m n cs d O.length (some (.d (wD w))) b c) (O++[Box.lst xs])=.ok .next (RE m n cs d O.length (some (.d (wD w))) (some (.d (word (trB m n cs w)))) (some (.d y)),O.set d (.dct kvs')++[Box.lst xs]):=by
  refine gg rfl (zi (zo rfl (zo rfl (zo rfl (zo rfl (zo rfl rfl))))) ?_) (v:=.d (resD (trB m n cs w) y)) rfl
  rw[← ok.set_push]
  exact e1
 have eq:=zpv (trB m n cs w) (O.set d (.dct kvs')++[Box.lst xs])
 have hlen:(O.set d (.dct kvs')).length=O.length:=List.length_set
 have ny:TQ m n w cs (trB m n cs w) y:=ny
 cases hb:trB m n cs w with
 | true=>
   rw[hb] at es eq ny
   refine .ret kvs' mem old hb y ny (RE m n cs d O.length (some (.d (wD w))) (some (.d (word true))) (some (.d y))) ?_
   exact (zc es).trans (zd ((w_if (zq rfl rfl eq)).trans ((if_pos rfl).trans (zd (zz rfl)))))
 | false=>
   rw[hb] at es eq ny
   have er:recv .append (.box O.length) (O.set d (.dct kvs')++[Box.lst xs])=true:=by rw[← hlen];exact recN
   have ea:meth .append (.box O.length) [.d y] (O.set d (.dct kvs')++[Box.lst xs])=.ok (.d .none) (O.set d (.dct kvs')++[Box.lst (xs++[y])]):=by rw[← hlen];exact appN hl
   refine .next kvs' mem old hb y ny (some (.d (wD w))) (some (.d (word false))) (some (.d y)) ?_
   exact (zc es).trans ((zc (zw (zq rfl rfl eq))).trans ((zc (x8 (w6 rfl er (zo rfl rfl) ea))).trans rfl))
inductive EachL(m:Nat)(C:Cs)(n:Nat)(cs:Cs)(d:Nat)(O:za)(kvs:List (MKey×PyData))(xs:List PyData)(ws:List Wg)(r:R (Loc×za) Fl):Prop
 | next (kvs':List (MKey×PyData)) (mem:Mem m C kvs') (old:∀ q:MKey,(n:Int) < q.2→z0 kvs' q=z0 kvs q) (hb:ws.any (trB m n cs)=false) (ys:List PyData) (hl:ys.length=ws.length) (hy:vo (Row m n cs) ws ys) (a b c:Option V)
    (h:r=.ok .next (RE m n cs d O.length a b c,O.set d (.dct kvs')++[Box.lst (xs++ys)]))
 | ret (kvs':List (MKey×PyData)) (mem:Mem m C kvs') (old:∀ q:MKey,(n:Int) < q.2→z0 kvs' q=z0 kvs q) (hb:ws.any (trB m n cs)=true) (y:PyData) (hy:PlR m (n+1) cs y) (ρ':Loc) (xs':List PyData)
    (h:r=.ok (.ret (.d (resD true y))) (ρ',O.set d (.dct kvs')++[Box.lst xs']))
theorem zkf(L1:LookS m C n lev)(hm:m4 m)(h:InC m C cs)(hne:cs≠[])(hlev:2≤lev){zs:List PyData}:∀ (ws:List Wg) (O:za) (kvs:List (MKey×PyData)) (xs:List PyData) (a b c:Option V),(∀ w∈ws,w∈dueI m)→Ok m C d O kvs→(∀ x∈xs,Shy badP x)→xs.length+ws.length < line →
 EachL m C n cs d O kvs xs ws (zu (.plain zs) (ya (PG (k+lev+1) false) (.name 5) zhh) (ws.map fun p=>wOf p.1 p.2) (RE m n cs d O.length a b c) (O++[Box.lst xs]))
 | [],O,kvs,xs,a,b,c,_,ok,_,_=>.next kvs ok.mem (fun _ _=>rfl) rfl [] rfl rfl a b c (by rw[List.append_nil,set_same ok.at_];rfl)
 | w::ws,O,kvs,xs,a,b,c,hw,ok,hxs,hl=>by
   rw[List.length_cons] at hl
   rcases zpf (k:=k) (a:=a) (b:=b) (c:=c) L1 hm (hw w (.head _)) h hne hlev ok hxs (by omega) with ⟨kvs₁,mem₁,old₁,hb₁,y,hy₁,a',b',c',h₁⟩ | ⟨kvs₁,mem₁,old₁,hb₁,y,hy,ρ',h₁⟩
   ·have ok₁:=ok.set mem₁
    have hlen:(O.set d (.dct kvs₁)).length=O.length:=List.length_set
    have ih:=zkf (zs:=zs) L1 hm h hne hlev ws (O.set d (.dct kvs₁)) kvs₁ (xs++[y]) a' b' c' (fun v hv=>hw v (.tail _ hv)) ok₁ (fun z hz=>by
     rcases List.mem_append.mp hz with hz | hz
     ·exact hxs z hz
     ·rw[List.mem_singleton.mp hz];obtain⟨o,z,e,_,hz⟩:=hy₁;obtain⟨xs,e2⟩:=hz.tup;rw[e];exact jn (.int o) (ja mildP hz) (by rw[e2];exact mildP.row _ _)) (by rw[List.length_append,List.length_singleton];omega)
    rw[hlen] at ih
    rw[List.map_cons,y7 h₁]
    rcases ih with ⟨kvs',mem,old,hb₂,ys,hl',hy,a₂,b₂,c₂,h₂⟩ | ⟨kvs',mem,old,hb₂,y',hy,ρ',xs',h₂⟩
    ·refine .next kvs' mem (fun q hq=>(old q hq).trans (old₁ q hq)) (by rw[List.any_cons,hb₁,hb₂];rfl) (y::ys) (by rw[List.length_cons,List.length_cons,hl']) ⟨y,ys,rfl,hy₁,hy⟩ a₂ b₂ c₂ ?_
     rw[h₂,hlen,List.set_set,List.append_assoc];rfl
    ·refine .ret kvs' mem (fun q hq=>(old q hq).trans (old₁ q hq)) (by rw[List.any_cons,hb₁,hb₂];rfl) y' hy ρ' xs' ?_
     rw[h₂,List.set_set]
   ·refine .ret kvs₁ mem₁ old₁ (by rw[List.any_cons,hb₁];rfl) y hy ρ' xs ?_
    rw[List.map_cons,jr h₁]
theorem zq1(L1:LookS m C n lev)(hm:m4 m)(hw3:(dueI m).length≤9)(h:InC m C cs)(hne:cs≠[])(hlev:2≤lev)(ok:Ok m C d O kvs) :
 Gives m C n d O kvs ((dueI m).any (trB m n cs)) (Rs m (n+1) cs ((dueI m).any (trB m n cs))) (zg P table (k+lev+2) false 18 [.d (.list (due m)),.d (.list (zb cs)),.d (.int ((n+1:Nat):Int)),.box d] O):=by
 have lp:=zkf (k:=k) (d:=d) (zs:=due m) L1 hm h hne hlev (dueI m) O kvs [] none none none (fun _ h=>h) ok (fun _ h=>nomatch h) (Nat.lt_of_le_of_lt (by rw[List.length_nil,Nat.zero_add];exact hw3) (by show 9 < 1000000;decide))
 have ef:evS (PG (k+lev+1) false) (.for_ (.name 5) (.e (.loc 0)) zhh) (RE m n cs d O.length none none none) (O++[Box.lst []])=zu (.plain (due m)) (ya (PG (k+lev+1) false) (.name 5) zhh) ((dueI m).map fun p=>wOf p.1 p.2) (RE m n cs d O.length none none none) (O++[Box.lst []]):=by
  rw[kw,if_neg Bool.false_ne_true]
  rfl
 have hlen:∀ kvs',(O.set d (.dct kvs')).length=O.length:=fun _=>List.length_set
 rcases lp with ⟨kvs',mem,old,hb,ys,hl,hy,a,b,c,h₁⟩ | ⟨kvs',mem,old,hb,y,hy,ρ',xs',h₁⟩
 ·rw[hb]
  refine ⟨.tuple [.str (Str.ofString "each"),.tuple ys],kvs',?_,.inr ⟨ys,rfl,hy⟩,mem,old⟩
  have et:evE (PG (k+lev+1) false) (RE m n cs d O.length a b c) (.prim .tuple (.cons (.loc 4) .nil)) (O.set d (.dct kvs')++[Box.lst ([]++ys)])=.ok (.d (.tuple ys)) (O.set d (.dct kvs')++[Box.lst ([]++ys)]):=yc rfl rfl (by rw[← hlen kvs'];exact zjd (by show ys.length≤_;rw[hl];exact Nat.le_trans hw3 (by decide)))
  exact qm (fn:=c18) (O':=[Box.lst ([]++ys)]) rfl ⟨rfl,by decide⟩ rfl (hlen kvs') ((zc (z5 (v:=.box O.length) (O':=O++[Box.lst []]) rfl rfl rfl)).trans ((zc (ef.trans h₁)).trans (zd (zz (zcq rfl (zcq rfl et))))))
 ·rw[hb]
  exact⟨y,kvs',qm (fn:=c18) rfl ⟨rfl,by decide⟩ rfl (hlen kvs') ((zc (z5 (v:=.box O.length) (O':=O++[Box.lst []]) rfl rfl rfl)).trans (zd (ef.trans h₁))),hy,mem,old⟩
end
noncomputable abbrev RL(m n:Nat)(cs:Cs)(d:Nat)(a:Option V):Loc:=[some (.d (.list (due m))),some (.d (.list (zb cs))),some (.d (.int (n:Int))),some (.box d),a]
noncomputable def keyD(n:Nat)(cs:Cs):PyData:=.tuple [.tuple (zb cs),.int (n:Int)]
section
variable{m n lev k d:Nat}{C cs:Cs}{O:za}{kvs:List (MKey×PyData)}
theorem u5(h:O[d]?=some (.dct kvs)):qb (.box d) (.d (keyD n cs)) O=some (d,kvs,(cs,(n:Int))):=by
 show (match O[d]? with
  | some (.dct kvs)=>(keyOf (keyD n cs)).map fun q=>(d,kvs,q)
  | _=>none)=_
 rw[h]
 show (keyOf (keyD n cs)).map (fun q=>(d,kvs,q))=_
 have:keyOf (keyD n cs)=some (cs,(n:Int)):=by
  show (x9 (zb cs)).map (fun kss=>(kss,(n:Int)))=_
  rw[vq];rfl
 rw[this];rfl
theorem zcr(h:InC m C cs){a:Option V}:evE (PG k false) (RL m n cs d a) (.cmp .eq (.prim .len (.cons (.loc 1) .nil)) (.int 1)) O=.ok (.d (.bool (decide ((cs.length:Int)=1)))) O:=by
 refine zq (yc rfl rfl (y9 rfl h.line)) rfl (eq_int.trans ?_)
 rw[zp]
theorem zk8(h:InC m C cs)(hn:n≤3){a:Option V}:evE (PG (k+1) false) (RL m n cs d a) (.cmp .gt (.prim .len (.cons (.loc 1) .nil)) (.call 10 (.cons (.loc 2) .nil))) O=.ok (.d (.bool (decide ((cs.length:Int) > ((3 ^ n:Nat):Int))))) O:=by
 refine zq (yc rfl rfl (y9 rfl h.line)) (zi rfl (zef hn)) (v_gt.trans ?_)
 rw[zp]
theorem zds(h:InC m C cs)(hl:cs.length=1)(ok:Ok m C d O kvs):Gives m C n d O kvs (solv (dueI m) n cs) (Rs m n cs (solv (dueI m) n cs)) (zg P table (k+1) false 19 [.d (.list (due m)),.d (.list (zb cs)),.d (.int (n:Int)),.box d] O):=by
 obtain⟨c,rfl⟩:=List.length_eq_one_iff.mp hl
 rw[xk rfl]
 refine ⟨.tuple [.str (Str.ofString "told"),caseD c],kvs,?_,⟨.told c,rfl,rfl,Nat.zero_le _⟩,ok.mem,fun _ _=>rfl⟩
 rw[set_same ok.at_]
 exact zh (fn:=c19) (ρ':=RL m n [c] d none) rfl ⟨rfl,by decide⟩ rfl (zd ((w_if (zcr h)).trans ((if_pos rfl).trans (zd (zz rfl)))))
theorem zbc(h:InC m C cs)(hn:n≤3)(hl:3 ^ n < cs.length)(ok:Ok m C d O kvs):Gives m C n d O kvs (solv (dueI m) n cs) (Rs m n cs (solv (dueI m) n cs)) (zg P table (k+2) false 19 [.d (.list (due m)),.d (.list (zb cs)),.d (.int (n:Int)),.box d] O):=by
 have h1:1 < cs.length:=Nat.lt_of_le_of_lt (Nat.one_le_pow _ _ (by decide)) hl
 have hs:solv (dueI m) n cs=false:=Bool.eq_false_iff.mpr fun e=>Nat.not_lt.mpr (wg e) hl
 rw[hs]
 refine ⟨.tuple [.str (Str.ofString "many")],kvs,?_,Hd.many hl,ok.mem,fun _ _=>rfl⟩
 rw[set_same ok.at_]
 have e1:=zcr (k:=k+1) (n:=n) (d:=d) (O:=O) h (a:=none)
 rw[decide_eq_false (by omega)] at e1
 have e2:=zk8 (k:=k) (d:=d) (O:=O) h hn (a:=none)
 rw[decide_eq_true (show (cs.length:Int) > ((3 ^ n:Nat):Int) from Int.ofNat_lt.mpr hl)] at e2
 exact zh (fn:=c19) (ρ':=RL m n cs d none) rfl ⟨rfl,by decide⟩ rfl ((zc (zw e1)).trans (zd ((w_if e2).trans ((if_pos rfl).trans (zd (zz rfl))))))
theorem zse:LookS m C 0 2:=fun k cs O d kvs h hne ok=>by
 by_cases hl:cs.length=1
 ·exact zds (k:=k+1) h hl ok
 ·exact zbc h (by decide) (by have:0 < cs.length:=List.length_pos_iff.mpr hne;show 1 < cs.length;omega) ok
theorem zsd(L1:LookS m C n lev)(hm:m4 m)(hw3:(dueI m).length≤9)(hlev:2≤lev)(hn:n+1≤3):LookS m C (n+1) (lev+3):=fun k cs O d kvs h hne ok=>by
 by_cases hl:cs.length=1
 ·exact zds (k:=k+lev+2) h hl ok
 by_cases h3:3 ^ (n+1) < cs.length
 ·exact zbc (k:=k+lev+1) h hn h3 ok
 have hs:solv (dueI m) (n+1) cs=(dueI m).any (trB m n cs):=by
  show (cs.length == 1 || (decide (cs.length≤3 ^ (n+1)) && (dueI m).any (trB m n cs)))=_
  rw[beq_false_of_ne hl,decide_eq_true (Nat.le_of_not_lt h3)];rfl
 have e1:=zcr (k:=k+lev+2) (n:=n+1) (d:=d) (O:=O) h (a:=none)
 rw[decide_eq_false (by omega)] at e1
 have e2:=zk8 (k:=k+lev+1) (d:=d) (O:=O) h hn (a:=none)
 rw[decide_eq_false (show ¬ (cs.length:Int) > ((3 ^ (n+1):Nat):Int) from fun q=>h3 (Int.ofNat_lt.mp q))] at e2
 have ek:evS (PG (k+lev+2) false) (.asg (.name 4) (.tup (.cons (.prim .tuple (.cons (.loc 1) .nil)) (.cons (.loc 2) .nil)))) (RL m (n+1) cs d none) O=.ok .next (RL m (n+1) cs d (some (.d (keyD (n+1) cs))),O):=
  z5 (zcq (yc rfl rfl (kg (x:=.list (zb cs)) rfl (if_pos h.line))) rfl) rfl rfl
 have en:evE (PG (k+lev+2) false) (RL m (n+1) cs d (some (.d (keyD (n+1) cs)))) (.notinM (.loc 4) (.loc 3)) O=.ok (.d (.bool !(z0 kvs (cs,((n+1:Nat):Int))).isSome)) O:=by
  show Mine.notinM (.d (keyD (n+1) cs)) (.box d) O=_
  unfold Mine.notinM
  rw[u5 ok.at_]
 have pre:∀ {r:R (Loc×za) Fl} {ss:CSs},evSs (PG (k+lev+2) false) ss (RL m (n+1) cs d (some (.d (keyD (n+1) cs)))) O=r→evSs (PG (k+lev+2) false) (.cons (.ife (.cmp .eq (.prim .len (.cons (.loc 1) .nil)) (.int 1)) (.cons (.ret (.tup (.cons (.str (Str.ofString "plan")) (.cons (.tup (.cons (.str (Str.ofString "told")) (.cons (.idx (.loc 1) (.int 0)) .nil))) .nil)))) .nil) .nil) (.cons (.ife (.cmp .gt (.prim .len (.cons (.loc 1) .nil)) (.call 10 (.cons (.loc 2) .nil))) (.cons (.ret (.tup (.cons (.str (Str.ofString "hold")) (.cons (.tup (.cons (.str (Str.ofString "many")) .nil)) .nil)))) .nil) .nil) (.cons (.asg (.name 4) (.tup (.cons (.prim .tuple (.cons (.loc 1) .nil)) (.cons (.loc 2) .nil)))) ss))) (RL m (n+1) cs d none) O=r:=
  fun h=>(zc (zw e1)).trans ((zc (zw e2)).trans ((zc ek).trans h))
 rw[hs]
 cases hd:z0 kvs (cs,((n+1:Nat):Int)) with
 | some x=>
   rw[hd] at en
   obtain⟨y,rfl,hy⟩:=ok.mem.find hd
   rw[hs] at hd hy
   refine⟨y,kvs,?_,hy,ok.mem,fun _ _=>rfl⟩
   rw[set_same ok.at_]
   refine zh (fn:=c19) (ρ':=RL m (n+1) cs d (some (.d (keyD (n+1) cs)))) rfl ⟨rfl,by decide⟩ rfl (pre ((zc (zw en)).trans (zd (zz ?_))))
   show Mine.getM (.box d) (.d (keyD (n+1) cs)) O=_
   unfold Mine.getM
   rw[u5 ok.at_]
   show opt ((z0 kvs (cs,((n+1:Nat):Int))).map V.d) O=_
   rw[hd];rfl
 | none=>
   rw[hd] at en
   obtain⟨y,kvs₁,ee,hy,mem₁,old₁⟩:=zq1 (k:=k) L1 hm hw3 h hne hlev ok
   have ok₁:=ok.set mem₁
   have hd₁:z0 kvs₁ (cs,((n+1:Nat):Int))=none:=(old₁ _ (by show (n:Int) < ((n+1:Nat):Int);omega)).trans hd
   have mem₂:Mem m C (kvs₁++[((cs,((n+1:Nat):Int)),resD (solv (dueI m) (n+1) cs) y)]):=mem₁.add (by rw[hs];exact hy) h.sub (by omega) hd₁
   rw[hs] at mem₂
   have eset:evS (PG (k+lev+2) false) (.setM (.loc 3) (.loc 4) (.call 18 (.cons (.loc 0) (.cons (.loc 1) (.cons (.loc 2) (.cons (.loc 3) .nil)))))) (RL m (n+1) cs d (some (.d (keyD (n+1) cs)))) O=.ok .next (RL m (n+1) cs d (some (.d (keyD (n+1) cs))),O.set d (.dct (kvs₁++[((cs,((n+1:Nat):Int)),resD ((dueI m).any (trB m n cs)) y)]))):=by
    have ec:evE (PG (k+lev+2) false) (RL m (n+1) cs d (some (.d (keyD (n+1) cs)))) (.call 18 (.cons (.loc 0) (.cons (.loc 1) (.cons (.loc 2) (.cons (.loc 3) .nil))))) O=.ok (.d (resD ((dueI m).any (trB m n cs)) y)) (O.set d (.dct kvs₁)):=zi rfl ee
    show R.bind (R.lift _ (R.bind (evE (PG (k+lev+2) false) (RL m (n+1) cs d (some (.d (keyD (n+1) cs)))) (.call 18 (.cons (.loc 0) (.cons (.loc 1) (.cons (.loc 2) (.cons (.loc 3) .nil))))) O) _)) _=_
    rw[ec]
    show R.bind (R.lift _ (Mine.setM (.box d) (.d (keyD (n+1) cs)) (.d (resD ((dueI m).any (trB m n cs)) y)) (O.set d (.dct kvs₁)))) _=_
    unfold Mine.setM
    rw[u5 ok₁.at_]
    show R.bind (R.lift _ (if z0 kvs₁ (cs,((n+1:Nat):Int))=none∧kvs₁.length≤line then _ else _)) _=_
    rw[if_pos ⟨hd₁,mem₁.len⟩]
    show R.ok _ (_,(O.set d (.dct kvs₁)).set d _)=_
    rw[List.set_set]
   have hlen:(O.set d (.dct (kvs₁++[((cs,((n+1:Nat):Int)),resD ((dueI m).any (trB m n cs)) y)]))).length=O.length:=List.length_set
   refine⟨y,_,?_,hy,mem₂,fun q hq=>?_⟩
   ·refine qm (fn:=c19) (O':=[]) (ρ':=RL m (n+1) cs d (some (.d (keyD (n+1) cs)))) rfl ⟨rfl,by decide⟩ rfl hlen (pre ((zc ((w_if en).trans ((if_pos rfl).trans ((zc eset).trans rfl)))).trans (zd (zz ?_))))
    show Mine.getM (.box d) (.d (keyD (n+1) cs)) (O.set d _)=_
    unfold Mine.getM
    rw[u5 (ok.set mem₂).at_,List.append_nil]
    show opt ((z0 _ (cs,((n+1:Nat):Int))).map V.d) _=_
    rw[zis hd₁];rfl
   ·rw[zem (fun e=>by rw[← e] at hq;exact absurd hq (Int.lt_irrefl _))]
    exact old₁ q (by have:((n+1:Nat):Int) < q.2:=hq;omega)
end
noncomputable abbrev R14(m:Nat)(cs:Cs)(a b c:Option V):Loc:=[some (.d (.list (due m))),some (.d (.list (zb cs))),a,b,c]
noncomputable def v8:CSs:=.cons (.ife (.call 15 (.cons (.loc 0) (.cons (.loc 3) (.cons (.loc 4) .nil)))) (.cons (.ret (.tup (.cons (.loc 3) (.cons (.loc 4) .nil)))) .nil) .nil) .nil
noncomputable def pi:CSs:=.cons (.for_ (.name 4) (.e (.slice (.loc 1) (.bin .add (.loc 2) (.int 1)) .none)) v8) .nil
section
variable{m k:Nat}{cs:Cs}{O:za}
theorem zg8(hm:m4 m){a:List Int}(ha:good m a){i:Option V}{zs:List PyData}:∀ (l:Cs),(∀ c∈l,good m c)→∀ e:Option V,
 (l.any (ye (dueI m) a)=false∧∃ e',zu (.plain zs) (ya (PG (k+2) false) (.name 4) v8) (zb l) (R14 m cs i (some (.d (caseD a))) e) O=.ok .next (R14 m cs i (some (.d (caseD a))) e',O)) ∨
 (l.any (ye (dueI m) a)=true∧∃ b ρ',zu (.plain zs) (ya (PG (k+2) false) (.name 4) v8) (zb l) (R14 m cs i (some (.d (caseD a))) e) O=.ok (.ret (.d (.tuple [caseD a,caseD b]))) (ρ',O))
 | [],_,e=>.inl ⟨rfl,e,rfl⟩
 | c::l,hl,e=>by
   have et:evE (PG (k+2) false) (R14 m cs i (some (.d (caseD a))) (some (.d (caseD c)))) (.call 15 (.cons (.loc 0) (.cons (.loc 3) (.cons (.loc 4) .nil)))) O=.ok (.d (.bool (ye (dueI m) a c))) O:=zi rfl (znp hm ha (hl c (.head _)))
   cases hb:ye (dueI m) a c with
   | true=>
     rw[hb] at et
     have h1:ya (PG (k+2) false) (.name 4) v8 (caseD c) (R14 m cs i (some (.d (caseD a))) e) O=.ok (.ret (.d (.tuple [caseD a,caseD c]))) (R14 m cs i (some (.d (caseD a))) (some (.d (caseD c))),O):=
      zd (P:=PG (k+2) false) (ρ:=R14 m cs i (some (.d (caseD a))) (some (.d (caseD c)))) ((w_if et).trans ((if_pos rfl).trans (zd (zz rfl))))
     exact .inr ⟨by rw[List.any_cons,hb];rfl,c,_,jr h1⟩
   | false=>
     rw[hb] at et
     have h1:ya (PG (k+2) false) (.name 4) v8 (caseD c) (R14 m cs i (some (.d (caseD a))) e) O=.ok .next (R14 m cs i (some (.d (caseD a))) (some (.d (caseD c))),O):=
      (zc (P:=PG (k+2) false) (ρ:=R14 m cs i (some (.d (caseD a))) (some (.d (caseD c)))) (zw et)).trans rfl
     have hany:(c::l).any (ye (dueI m) a)=l.any (ye (dueI m) a):=by rw[List.any_cons,hb];rfl
     rw[hany,show zb (c::l)=caseD c::zb l from rfl,y7 h1]
     exact zg8 hm ha l (fun c hc=>hl c (.tail _ hc)) _
theorem zqz(h:Ok12 m cs){i:Nat}(hi:i < cs.length){b c:Option V}:evE (PG k false) (R14 m cs (some (.d (.int (i:Int)))) b c) (.slice (.loc 1) (.bin .add (.loc 2) (.int 1)) .none) O=.ok (.d (.list (zb (cs.drop (i+1))))) O:=by
 have hc:clipAt (zb cs).length ((i:Int)+1)=i+1:=by
  have:=clipAt_cast (zb cs).length ((i:Int)+1)
  rw[if_neg (by omega),zp] at this
  rw[zp];omega
 have ea:evE (PG k false) (R14 m cs (some (.d (.int (i:Int)))) b c) (.bin .add (.loc 2) (.int 1)) O=.ok (.d (.int ((i:Int)+1))) O:=yb rfl rfl wt
 rw[zgr,show evE (PG k false) (R14 m cs (some (.d (.int (i:Int)))) b c) (.loc 1) O=.ok (.d (.list (zb cs))) O from rfl,zv,ea,zv]
 show opt ((jm (zb cs) (.int ((i:Int)+1)) .none).map V.d) O=_
 unfold jm
 rw[if_pos h.line]
 show R.ok (V.d (.list (vv (zb cs) (clipAt (zb cs).length ((i:Int)+1)) (zb cs).length))) O=_
 rw[hc]
 unfold vv
 rw[List.take_of_length_le (by rw[List.length_drop];exact Nat.le_refl _)]
 unfold zb
 rw[List.map_drop]
theorem any_alike{a:List Int}{l:Cs}:l.any (ye (dueI m) a)=false↔∀ b∈l,ye (dueI m) a b=false:=by
 rw[List.any_eq_false]
 exact⟨fun h b hb=>Bool.eq_false_iff.mpr (h b hb),fun h b hb=>Bool.eq_false_iff.mp (h b hb)⟩
theorem zg7(hm:m4 m)(h:Ok12 m cs){zs:List PyData}:∀ (l:Cs) (i:Nat) (a b e:Option V),cs.drop i=l →
 (Pw (dueI m) l∧∃ a' b' e',zu (.plain zs) (ya (PG (k+2) false) (.two (.name 2) (.name 3)) pi) ((l.zipIdx i).map fun p=>.tuple [.int (p.2:Int),caseD p.1]) (R14 m cs a b e) O=.ok .next (R14 m cs a' b' e',O)) ∨
 (¬ Pw (dueI m) l∧∃ x y ρ',zu (.plain zs) (ya (PG (k+2) false) (.two (.name 2) (.name 3)) pi) ((l.zipIdx i).map fun p=>.tuple [.int (p.2:Int),caseD p.1]) (R14 m cs a b e) O=.ok (.ret (.d (.tuple [x,y]))) (ρ',O))
 | [],i,a,b,e,_=>.inl ⟨List.Pairwise.nil,a,b,e,rfl⟩
 | c::l,i,a,b,e,hd=>by
   have hi:i < cs.length:=Nat.lt_of_not_le fun q=>by rw[List.drop_eq_nil_of_le q] at hd;cases hd
   have hd':cs.drop (i+1)=l:=by rw[← List.drop_drop,hd];rfl
   have hmem:∀ x∈c::l,x∈cs:=fun x hx=>List.mem_of_mem_drop (hd ▸ hx)
   have hg:∀ x∈l,good m x:=fun x hx=>h.good x (hmem x (.tail _ hx))
   have ef:evS (PG (k+2) false) (.for_ (.name 4) (.e (.slice (.loc 1) (.bin .add (.loc 2) (.int 1)) .none)) v8) (R14 m cs (some (.d (.int (i:Int)))) (some (.d (caseD c))) e) O=zu (.plain (zb l)) (ya (PG (k+2) false) (.name 4) v8) (zb l) (R14 m cs (some (.d (.int (i:Int)))) (some (.d (caseD c))) e) O:=by
    rw[kw,if_neg Bool.false_ne_true,x_e,zqz h hi,hd']
    rfl
   rw[List.zipIdx_cons,List.map_cons]
   rcases zg8 (k:=k) (cs:=cs) (O:=O) (i:=some (.d (.int (i:Int)))) (zs:=zb l) hm (h.good c (hmem c (.head _))) l hg e with ⟨hb,e',h1⟩ | ⟨hb,x,ρ',h1⟩
   ·have ht:ya (PG (k+2) false) (.two (.name 2) (.name 3)) pi (.tuple [.int (i:Int),caseD c]) (R14 m cs a b e) O=.ok .next (R14 m cs (some (.d (.int (i:Int)))) (some (.d (caseD c))) e',O):=
     (zc (P:=PG (k+2) false) (ρ:=R14 m cs (some (.d (.int (i:Int)))) (some (.d (caseD c))) e) (ef.trans h1)).trans rfl
    rw[y7 ht]
    have hp:Pw (dueI m) (c::l)↔Pw (dueI m) l:=by
     unfold Pw
     rw[List.pairwise_cons]
     exact⟨fun h=>h.2,fun h=>⟨any_alike.mp hb,h⟩⟩
    rw[hp]
    exact zg7 hm h l (i+1) _ _ _ hd'
   ·have ht:ya (PG (k+2) false) (.two (.name 2) (.name 3)) pi (.tuple [.int (i:Int),caseD c]) (R14 m cs a b e) O=.ok (.ret (.d (.tuple [caseD c,caseD x]))) (ρ',O):=
     zd (P:=PG (k+2) false) (ρ:=R14 m cs (some (.d (.int (i:Int)))) (some (.d (caseD c))) e) (ef.trans h1)
    refine .inr ⟨fun hp=>?_,_,_,_,jr ht⟩
    rw[any_alike.mpr (List.pairwise_cons.mp hp).1] at hb;cases hb
theorem zbo(hm:m4 m)(h:Ok12 m cs):(Pw (dueI m) cs∧zg P table (k+3) false 16 [.d (.list (due m)),.d (.list (zb cs))] O=.ok (.d .none) O)∨(¬ Pw (dueI m) cs∧∃ x y,zg P table (k+3) false 16 [.d (.list (due m)),.d (.list (zb cs))] O=.ok (.d (.tuple [x,y])) O):=by
 have ee:qi (zb cs)=(cs.zipIdx 0).map fun p=>.tuple [.int (p.2:Int),caseD p.1]:=by
  unfold qi zb
  rw[List.zipIdx_map,List.map_map]
  rfl
 have ef:evS (PG (k+2) false) (.for_ (.two (.name 2) (.name 3)) (.enum (.loc 1)) pi) (R14 m cs none none none) O=zu (.plain (qi (zb cs))) (ya (PG (k+2) false) (.two (.name 2) (.name 3)) pi) ((cs.zipIdx 0).map fun p=>.tuple [.int (p.2:Int),caseD p.1]) (R14 m cs none none none) O:=by
  rw[kw,if_neg Bool.false_ne_true,← ee]
  rfl
 rcases zg7 (k:=k) (O:=O) (zs:=qi (zb cs)) hm h cs 0 none none none rfl with ⟨hp,a',b',e',h1⟩ | ⟨hp,x,y,ρ',h1⟩
 ·exact .inl ⟨hp,zh (fn:=c16) rfl ⟨rfl,by decide⟩ rfl ((zc (ef.trans h1)).trans (zd (zz rfl)))⟩
 ·exact .inr ⟨hp,x,y,zh (fn:=c16) rfl ⟨rfl,by decide⟩ rfl (zd (ef.trans h1))⟩
end
section
variable{m n lev k d:Nat}{C cs:Cs}{O:za}{kvs:List (MKey×PyData)}
theorem LookS.more{lev':Nat}(h:LookS m C n lev)(hl:lev≤lev'):LookS m C n lev':=fun k cs O d kvs h1 h2 h3=>by
 obtain⟨j,rfl⟩:=Nat.exists_eq_add_of_le' hl
 obtain⟨y,kvs',e,ny,mem,old⟩:=h (k+j) cs O d kvs h1 h2 h3
 exact⟨y,kvs',by rw[← Nat.add_assoc];exact e,ny,mem,old⟩
theorem zj7(hm:m4 m)(hw3:(dueI m).length≤9):∀ n,n≤3→LookS m C n (3 * n+2)
 | 0,_=>zse
 | n+1,hn=>zsd (zj7 hm hw3 n (Nat.le_of_succ_le hn)) hm hw3 (by omega) hn
theorem zdt(hm:m4 m)(hw3:(dueI m).length≤9){n:Nat}(hn:n≤3):LookS m C n 11:=(zj7 hm hw3 n hn).more (by omega)
noncomputable def Held(m:Nat)(cs:Cs):Nat→PyData→Prop
 | 0,h=>h=.none
 | n+1,h=>Hd m n cs h
inductive WhR(m:Nat)(cs:Cs)(N:Nat)(O:za)(r:R (Loc×za) Fl):Prop
 | mk (kvs':List (MKey×PyData)) (h y:PyData) (hh:Held m cs N h) (hy:PlR m N cs y) (e:r=.ok .next ([some (.d (.list (due m))),some (.d (.list (zb cs))),some (.box O.length),some (.d h),some (.d (.int (N:Int))),some (.d (word true)),some (.d y)],O++[.dct kvs']))
noncomputable abbrev RF(m:Nat)(cs:Cs)(d:Nat)(h a b c:Option V):Loc:=[some (.d (.list (due m))),some (.d (.list (zb cs))),some (.box d),h,a,b,c]
noncomputable def zfb:CSs:=(.cons (.asg (.name 3) (.loc 6)) (.cons (.asg (.name 4) (.bin .add (.loc 4) (.int 1))) (.cons (.asg (.two (.name 5) (.name 6)) (.call 19 (.cons (.loc 0) (.cons (.loc 1) (.cons (.loc 4) (.cons (.loc 2) .nil)))))) .nil)))
noncomputable def whT(k:Nat)(ρ:Loc)(O:za):R (Loc×za) Bool:=((evE (PG k false) ρ (.cmp .eq (.loc 5) (.str (Str.ofString "hold"))) O).bind fun v O=>opt (truth v) O).lift ρ
theorem zgt{b:Bool}{h a c:Option V}:whT k (RF m cs d h a (some (.d (word b))) c) O=.ok (!b) (RF m cs d h a (some (.d (word b))) c,O):=by
 have e:evE (PG k false) (RF m cs d h a (some (.d (word b))) c) (.cmp .eq (.loc 5) (.str (Str.ofString "hold"))) O=.ok (.d (.bool !b)) O:=zq rfl rfl (zju b O)
 unfold whT
 rw[e];rfl
theorem zgu{turn:Loc→za→R (Loc×za) Fl}{test:Loc→za→R (Loc×za) Bool}{t:Nat}{ρ ρ':Loc}{O O':za}(h:turn ρ O=.ok .next (ρ',O')) :
 (match (R.ok (!false) (ρ,O):R (Loc×za) Bool) with
   | .ok false S=>R.ok Fl.next S
   | .ok true S=>(match turn S.1 S.2 with
      | .ok (.ret v) S=>R.ok (Fl.ret v) S
      | .ok .next S=>yx test turn t S.1 S.2
      | _=>.stuck)
   | _=>.stuck)=yx test turn t ρ' O':=by
 show (match turn ρ O with
        | .ok (.ret v) S=>R.ok (Fl.ret v) S
        | .ok .next S=>yx test turn t S.1 S.2
        | _=>.stuck)=_
 rw[h]
theorem zg6(LA:∀ n,n≤3→LookS m C n 11)(h:InC m C cs)(hne:cs≠[]){N:Nat}(hN:N≤3)(hL:Least (dueI m) N cs):∀ (r t j:Nat) (kvs:List (MKey×PyData)) (hh:PyData) (y:PyData),N=j+r→r < t→Ok m C O.length (O++[.dct kvs]) kvs→Held m cs j hh→Rs m j cs (solv (dueI m) j cs) y →
 WhR m cs N O (yx (whT (k+11)) (fun ρ O=>evSs (PG (k+11) false) zfb ρ O) t (RF m cs O.length (some (.d hh)) (some (.d (.int (j:Int)))) (some (.d (word (solv (dueI m) j cs)))) (some (.d y))) (O++[.dct kvs]))
 | 0,0,_,_,_,_,_,h,_,_,_=>absurd h (Nat.lt_irrefl _)
 | 0,t+1,j,kvs,hh,y,e,_,_,g1,g2=>by
   have e:N=j:=e
   subst e
   rw[hL.yes] at g2
   refine⟨kvs,hh,y,g1,g2,?_⟩
   rw[yx,zgt,hL.yes]
   rfl
 | r+1,0,_,_,_,_,_,h,_,_,_=>absurd h (Nat.not_lt_zero _)
 | r+1,t+1,j,kvs,hh,y,e,ht,ok,g1,g2=>by
   have hs:solv (dueI m) j cs=false:=hL.no j (by omega)
   obtain⟨y₁,kvs₁,e₁,ny,mem,old⟩:=LA (j+1) (by omega) k cs _ O.length kvs h hne ok
   have hset:(O++[Box.dct kvs]).set O.length (.dct kvs₁)=O++[.dct kvs₁]:=zfn
   rw[hset] at e₁
   have ok₁:Ok m C O.length (O++[.dct kvs₁]) kvs₁:=hset ▸ ok.set mem
   rw[hs] at g2
   obtain⟨kvs',h',y',q1,q2,ih⟩:=zg6 LA h hne hN hL r t (j+1) kvs₁ y y₁ (by omega) (by omega) ok₁ g2 ny
   refine⟨kvs',h',y',q1,q2,?_⟩
   have hb:evSs (PG (k+11) false) zfb (RF m cs O.length (some (.d hh)) (some (.d (.int (j:Int)))) (some (.d (word (solv (dueI m) j cs)))) (some (.d y))) (O++[.dct kvs])=.ok .next (RF m cs O.length (some (.d y)) (some (.d (.int ((j+1:Nat):Int)))) (some (.d (word (solv (dueI m) (j+1) cs)))) (some (.d y₁)),O++[.dct kvs₁]):=by
    refine (zc (z5 rfl rfl rfl)).trans ((zc (z5 (yb rfl rfl wt) rfl rfl)).trans ((zc (gg rfl (zi rfl e₁) (v:=.d (resD (solv (dueI m) (j+1) cs) y₁)) rfl)).trans rfl))
   rw[yx,zgt,hs]
   rw[hs] at hb
   exact (zgu hb).trans ih
theorem kj{ws:List Wg}{cs:Cs}:∀ N,solv ws N cs=true→∃ n,n≤N∧Least ws n cs
 | 0,h=>⟨0,Nat.le_refl _,h,fun k hk=>absurd hk (Nat.not_lt_zero _)⟩
 | N+1,h=>by
   cases hb:solv ws N cs with
   | true=>obtain⟨n,h1,h2⟩:=kj N hb;exact⟨n,Nat.le_succ_of_le h1,h2⟩
   | false=>exact⟨N+1,Nat.le_refl _,h,fun k hk=>Bool.eq_false_iff.mpr fun e=>by rw[zb7 e (Nat.le_of_lt_succ hk)] at hb;cases hb⟩
inductive zrn(m:Nat)(cs:Cs)(N:Nat)(O:za)(r:R za V):Prop
 | mk (y h:PyData) (hy:PlR m N cs y) (hh:Held m cs N h) (e:r=.ok (.d (.tuple [y,h,.int (N:Int)])) O)
theorem du(LA:∀ n,n≤3→LookS m C n 11)(h:InC m C cs)(hne:cs≠[]){N:Nat}(hN:N≤3)(hL:Least (dueI m) N cs)(hC:C.length≤12)(hO:∀ b∈O,ShyB badP b):zrn m cs N O (zg P table (k+12) false 20 [.d (.list (due m)),.d (.list (zb cs))] O):=by
 have ok0:Ok m C O.length (O++[.dct []]) []:=⟨by rw[List.getElem?_append_right (Nat.le_refl _),Nat.sub_self];rfl,⟨fun _ h=>(nomatch h),fun _ h=>(nomatch h),.nil,hC⟩,fun b hb=>by
  rcases List.mem_append.mp hb with hb | hb
  ·exact hO b hb
  ·rw[List.mem_singleton.mp hb];exact fun _ h=>nomatch h⟩
 obtain⟨y₁,kvs₁,e₁,ny,mem,old⟩:=LA 0 (by decide) k cs _ O.length [] h hne ok0
 have hset:(O++[Box.dct []]).set O.length (.dct kvs₁)=O++[.dct kvs₁]:=zfn
 rw[hset] at e₁
 have ok₁:Ok m C O.length (O++[.dct kvs₁]) kvs₁:=hset ▸ ok0.set mem
 obtain⟨kvs',h',y',q1,q2,hw⟩:=zg6 (k:=k) (O:=O) LA h hne hN hL N 200 0 kvs₁ .none y₁ (by omega) (by omega) ok₁ rfl ny
 refine⟨y',h',q2,q1,?_⟩
 refine zex (fn:=c20) (ρ':=RF m cs O.length (some (.d h')) (some (.d (.int (N:Int)))) (some (.d (word true))) (some (.d y'))) (O':=[.dct kvs']) rfl ⟨rfl,by decide⟩ rfl ?_
 refine (zc (z5 (v:=.box O.length) (O':=O++[.dct []]) rfl rfl rfl)).trans ((zc (z5 rfl rfl rfl)).trans ((zc (z5 rfl rfl rfl)).trans ?_))
 refine (zc (gg rfl (zi rfl e₁) (v:=.d (resD (solv (dueI m) 0 cs) y₁)) rfl)).trans ?_
 have hw:evS (PG (k+11) false) (.while_ (.cmp .eq (.loc 5) (.str (Str.ofString "hold"))) zfb) (RF m cs O.length (some (.d .none)) (some (.d (.int ((0:Nat):Int)))) (some (.d (word (solv (dueI m) 0 cs)))) (some (.d y₁))) (O++[.dct kvs₁])=_:=hw
 exact (zc hw).trans (zd (zz rfl))
inductive zl4(m:Nat)(so:Cs)(x:PyData):Prop
 | none (h:so=[]∨¬ Pw (dueI m) so) (e:x=.none)
 | some (n:Nat) (hne:so≠[]) (hp:Pw (dueI m) so) (hl:Least (dueI m) n so) (e:x=.int (n:Int))
inductive ztn(m:Nat)(so:Cs)(x:PyData):Prop
 | none (h:so=[]∨¬ Pw (dueI m) so) (e:x=.tuple [.str (Str.ofString "none")])
 | alike (h:so=[]∨¬ Pw (dueI m) so) (a b:PyData) (e:x=.tuple [.str (Str.ofString "alike"),a,b])
 | plan (n:Nat) (hne:so≠[]) (hN:n≤3) (hp:Pw (dueI m) so) (hl:Least (dueI m) n so) (y h:PyData) (hy:PlR m n so y) (hh:Held m so n h) (e:x=.tuple [.str (Str.ofString "plan"),y,h])
theorem due9{m:Nat}(h2:2≤m)(h4:m≤4):(dueI m).length≤9:=by
 have:m=2∨m=3∨m=4:=by omega
 rcases this with rfl | rfl | rfl <;> decide
noncomputable def Few(m:Nat)(so:Cs):Prop:=m≤3∨so.length≤4
theorem Few.solv{so:Cs}(h2:2≤m)(h:Few m so)(hp:Pw (dueI m) so)(hne:so≠[]):solv (dueI m) 3 so=true:=by
 rcases h with h | h
 ·have hl:(dueI m).length≤3:=by
   have:m=2∨m=3:=by omega
   rcases this with rfl | rfl <;> decide
  exact zb7 (Pw.solv (ws:=dueI m) (cs:=so) (fun _ h=>h) hp hne) hl
 ·exact zjv 3 hp hne h
theorem Ok12.open_{cs:Cs}{ds:List Dn}(f:Found m cs):Ok12 m (yv cs ds):=⟨fun c hc=>f.good c (List.mem_filter.mp hc).1,Nat.le_trans (List.length_filter_le _ _) f.le⟩
theorem zct{so:Cs}{P:Pg}{ρ:Loc}{a:CE}(h:evE P ρ a O=.ok (.d (.list (zb so))) O):evE P ρ (.cmp .eq a (.list .nil)) O=.ok (.d (.bool so.isEmpty)) O:=by
 refine zq h rfl ((u7 (kh _)).trans ?_)
 congr 3
 unfold zb;rw[List.isEmpty_map]
theorem znm(hm:m4 m)(h4:m≤4){cs:Cs}{ds:List Dn}(f:Found m cs)(hd:Dns m ds)(hf:Few m (yv cs ds)):∃ x,zg P table (k+13) false 22 [.d (.int m),.d (.list (zb cs)),.d (.list (dnsD ds))] []=.ok (.d x) []∧zl4 m (yv cs ds) x:=by
 have hso:Ok12 m (yv cs ds):=.open_ f
 have e1:=zk7 (k:=k+7) (O:=[]) hm f hd (.d _) (.d _)
 have e2:=zgk (k:=k+8) hm.1 h4
 have e3:evE (PG (k+12) false) [some (.d (.int m)),some (.d (.list (zb cs))),some (.d (.list (dnsD ds))),some (.d (.list (zb (yv cs ds)))),some (.d (.list (due m)))] (.cmp .eq (.loc 3) (.list .nil)) []=.ok (.d (.bool (yv cs ds).isEmpty)) []:=zct rfl
 have pre:∀ {r:R (Loc×za) Fl} {ss:CSs},evSs (PG (k+12) false) ss [some (.d (.int m)),some (.d (.list (zb cs))),some (.d (.list (dnsD ds))),some (.d (.list (zb (yv cs ds)))),some (.d (.list (due m)))] []=r→evSs (PG (k+12) false) (.cons (.asg (.name 3) (.call 14 (.cons (.loc 0) (.cons (.loc 1) (.cons (.loc 2) .nil))))) (.cons (.asg (.name 4) (.call 7 (.cons (.loc 0) .nil))) ss)) [some (.d (.int m)),some (.d (.list (zb cs))),some (.d (.list (dnsD ds))),none,none] []=r:=
  fun h=>(zc (z5 (zi rfl e1) rfl rfl)).trans ((zc (z5 (zi rfl e2) rfl rfl)).trans h)
 cases hem:(yv cs ds).isEmpty with
 | true=>
   rw[hem] at e3
   exact⟨.none,zh (fn:=c22) rfl ⟨rfl,by decide⟩ rfl (pre (zd ((w_if (zoc e3)).trans ((if_pos rfl).trans (zd (zz rfl)))))),.none (.inl (List.isEmpty_iff.mp hem)) rfl⟩
 | false=>
   rw[hem] at e3
   have hne:yv cs ds≠[]:=fun e=>by rw[e] at hem;cases hem
   rcases zbo (k:=k+9) (O:=[]) hm hso with ⟨hp,e4⟩ | ⟨hp,x,y,e4⟩
   ·obtain⟨N,hN,hL⟩:=kj _ (hf.solv hm.1 hp hne)
    obtain⟨y,h',_,_,e5⟩:=du (k:=k) (O:=[]) (fun n hn=>zdt hm (due9 hm.1 h4) hn) ⟨hso,List.Sublist.refl _⟩ hne hN hL hso.le (fun _ h=>nomatch h)
    refine⟨.int (N:Int),zh (fn:=c22) rfl ⟨rfl,by decide⟩ rfl (pre ((zc (zw (xi e3 (zq (zi rfl e4) rfl rfl)))).trans (zd (zz (jj (zi rfl e5) rfl rfl))))),.some N hne hp hL rfl⟩
   ·exact⟨.none,zh (fn:=c22) rfl ⟨rfl,by decide⟩ rfl (pre (zd ((w_if (xi e3 (zq (zi rfl e4) rfl rfl))).trans ((if_pos rfl).trans (zd (zz rfl)))))),.none (.inr hp) rfl⟩
theorem zi9{P:Pg}{ρ ρ':Loc}{O O':za}{e:CE}{i j k:Nat}{v:V}(hd:P.hd=false)(h:evE P ρ e O=.ok v O')(hb:zlx i j k v (ρ,O')=.ok .next (ρ',O')):evS P (.asg3 i j k e) ρ O=.ok .next (ρ',O'):=by
 show (if P.hd=true then .stuck else ((evE P ρ e O).lift ρ).bind (zlx i j k))=_
 rw[if_neg (by rw[hd];exact Bool.false_ne_true),h];exact hb
theorem zqu(hm:m4 m)(h4:m≤4){cs:Cs}{ds:List Dn}(f:Found m cs)(hd:Dns m ds)(hf:Few m (yv cs ds)):∃ x,zg P table (k+13) false 21 [.d (.int m),.d (.list (zb cs)),.d (.list (dnsD ds))] []=.ok (.d x) []∧ztn m (yv cs ds) x:=by
 have hso:Ok12 m (yv cs ds):=.open_ f
 have e1:=zk7 (k:=k+7) (O:=[]) hm f hd (.d _) (.d _)
 have e2:=zgk (k:=k+8) hm.1 h4
 have e3:evE (PG (k+12) false) [some (.d (.int m)),some (.d (.list (zb cs))),some (.d (.list (dnsD ds))),some (.d (.list (zb (yv cs ds)))),some (.d (.list (due m))),none,none,none,none] (.cmp .eq (.loc 3) (.list .nil)) []=.ok (.d (.bool (yv cs ds).isEmpty)) []:=zct rfl
 have pre:∀ {r:R (Loc×za) Fl} {ss:CSs},evSs (PG (k+12) false) ss [some (.d (.int m)),some (.d (.list (zb cs))),some (.d (.list (dnsD ds))),some (.d (.list (zb (yv cs ds)))),some (.d (.list (due m))),none,none,none,none] []=r→evSs (PG (k+12) false) (.cons (.asg (.name 3) (.call 14 (.cons (.loc 0) (.cons (.loc 1) (.cons (.loc 2) .nil))))) (.cons (.asg (.name 4) (.call 7 (.cons (.loc 0) .nil))) ss)) [some (.d (.int m)),some (.d (.list (zb cs))),some (.d (.list (dnsD ds))),none,none,none,none,none,none] []=r:=
  fun h=>(zc (z5 (zi rfl e1) rfl rfl)).trans ((zc (z5 (zi rfl e2) rfl rfl)).trans h)
 cases hem:(yv cs ds).isEmpty with
 | true=>
   rw[hem] at e3
   exact⟨_,zh (fn:=c21) rfl ⟨rfl,by decide⟩ rfl (pre (zd ((w_if e3).trans ((if_pos rfl).trans (zd (zz rfl)))))),.none (.inl (List.isEmpty_iff.mp hem)) rfl⟩
 | false=>
   rw[hem] at e3
   have hne:yv cs ds≠[]:=fun e=>by rw[e] at hem;cases hem
   rcases zbo (k:=k+9) (O:=[]) hm hso with ⟨hp,e4⟩ | ⟨hp,x,y,e4⟩
   ·obtain⟨N,hN,hL⟩:=kj _ (hf.solv hm.1 hp hne)
    obtain⟨y,h',q1,q2,e5⟩:=du (k:=k) (O:=[]) (fun n hn=>zdt hm (due9 hm.1 h4) hn) ⟨hso,List.Sublist.refl _⟩ hne hN hL hso.le (fun _ h=>nomatch h)
    refine⟨_,zh (fn:=c21) rfl ⟨rfl,by decide⟩ rfl (pre ((zc (zw e3)).trans ((zc (z5 (zi rfl e4) rfl rfl)).trans ((zc (zw (zq rfl rfl rfl))).trans ((zc (zi9 rfl (zi rfl e5) rfl)).trans (zd (zz rfl))))))),.plan N hne hN hp hL y h' q1 q2 rfl⟩
   ·exact⟨_,zh (fn:=c21) rfl ⟨rfl,by decide⟩ rfl (pre ((zc (zw e3)).trans ((zc (z5 (zi rfl e4) rfl rfl)).trans (zd ((w_if (zq rfl rfl rfl)).trans ((if_pos rfl).trans (zd (zz rfl)))))))),.alike (.inr hp) x y rfl⟩
end
theorem xl:∀ a b:Cs,PyData.eqvAll (zb a) (zb b)=decide (a=b)
 | [],[]=>rfl
 | [],_::_=>rfl
 | _::_,[]=>rfl
 | c::a,e::b=>by
   show (PyData.eqv (caseD c) (caseD e) && PyData.eqvAll (zb a) (zb b))=_
   rw[zec,xl a b,← Bool.decide_and]
   exact decide_eq_decide.mpr List.cons_eq_cons.symm
theorem zbr{a b:Cs}{O:za}:cmpV .eq (.d (.list (zb a))) (.d (.list (zb b))) O=.ok (.d (.bool (decide (a=b)))) O:=by
 rw[v_eq]
 show opt (Option.map _ (if eqOk (.list (zb a)) (.list (zb b))=true then some (PyData.eqvAll (zb a) (zb b)) else none)) O=_
 rw[if_pos (p8 (xq a) (xq b) (Nat.le_trans (Lay.list (kh b)).depth (by decide))),xl];rfl
theorem zmu{cs:Cs}{O:za}:cmpV .ne (.d (.list (zb cs))) (.d (.list [])) O=.ok (.d (.bool (!decide (cs=[])))) O:=by
 rw[v_ne]
 show opt (Option.map _ (if eqOk (.list (zb cs)) (.list [])=true then some (!PyData.eqvAll (zb cs) (zb [])) else none)) O=_
 rw[if_pos (p8 (xq cs) rfl (by decide)),xl];rfl
theorem q_TT{O:za}:cmpV .eq (.d (.str sT)) (.d (.str sT)) O=.ok (.d (.bool true)) O:=by kernel_rfl
theorem q_WT{O:za}:cmpV .eq (.d (.str sW)) (.d (.str sT)) O=.ok (.d (.bool false)) O:=by kernel_rfl
theorem n_WW{O:za}:cmpV .ne (.d (.str sW)) (.d (.str sW)) O=.ok (.d (.bool false)) O:=by kernel_rfl
noncomputable abbrev wQ(m k:Nat):Prop:=(dueI m).map (fun w=>zg P table (k+3) false 5 [.d (.int m),.d (wD w)] [])=(dueI m).map fun w=>.ok (.d (.bool true)) []
theorem wq2{k:Nat}:wQ 2 k:=by kernel_rfl
theorem wq3{k:Nat}:wQ 3 k:=by kernel_rfl
theorem wq4{k:Nat}:wQ 4 k:=by kernel_rfl
theorem zs2{k m:Nat}{w:Wg}(h2:2≤m)(h4:m≤4)(hw:w∈dueI m):zg P table (k+3) false 5 [.d (.int m),.d (wD w)] []=.ok (.d (.bool true)) []:=by
 have hm:m=2∨m=3∨m=4:=by omega
 rcases hm with rfl | rfl | rfl
 ·exact jx wq2 hw
 ·exact jx wq3 hw
 ·exact jx wq4 hw
noncomputable abbrev RP(m:Nat)(cs:Cs)(d:PyData)(a b:Option V):Loc:=[some (.d (.int m)),some (.d (.list (zb cs))),some (.d d),a,b]
noncomputable def forB:CSs:=(.cons (.ife (.and_ (.cmp .eq (.loc 3) (.list .nil)) (.cmp .isnot (.loc 4) .none)) (.cons (.ret (.bool false)) .nil) .nil) (.cons (.ife (.and_ (.cmp .ne (.loc 3) (.list .nil)) (.nt (.call 23 (.cons (.loc 0) (.cons (.loc 3) (.cons (.loc 4) .nil)))))) (.cons (.ret (.bool false)) .nil) .nil) .nil))
section
variable{m k:Nat}{cs ps:Cs}{p q:Pl}{a b:Option V}
theorem Pl.fits_nil(h:p.fits m []):p=.no:=by
 cases p with
 | no=>rfl
 | told c=>exact nomatch h
 | weigh w a b c=>exact absurd rfl h.2.1
theorem zb5(hs:ShyS badF (RP m cs q.toD a b) [])(hf:p.fits m ps)(hc:ps≠[]→zg P table k false 23 [.d (.int m),.d (.list (zb ps)),.d p.toD] []=.ok (.d (.bool true)) []) :
 y6 badF (.two (.name 3) (.name 4)) (fun ρ O=>evSs (PG k false) forB ρ O) (.tuple [.list (zb ps),p.toD]) (RP m cs q.toD a b) []=.ok .next (RP m cs q.toD (some (.d (.list (zb ps)))) (some (.d p.toD)),[]):=by
 unfold y6
 rw[if_pos hs]
 show evSs (PG k false) forB (RP m cs q.toD (some (.d (.list (zb ps)))) (some (.d p.toD))) []=_
 have e1:evE (PG k false) (RP m cs q.toD (some (.d (.list (zb ps)))) (some (.d p.toD))) (.cmp .eq (.loc 3) (.list .nil)) []=.ok (.d (.bool (decide (ps=[])))) []:=zq rfl rfl (zbr (b:=[]))
 have e2:evE (PG k false) (RP m cs q.toD (some (.d (.list (zb ps)))) (some (.d p.toD))) (.cmp .ne (.loc 3) (.list .nil)) []=.ok (.d (.bool (!decide (ps=[])))) []:=zq rfl rfl zmu
 by_cases he:ps=[]
 ·subst he
  rw[Pl.fits_nil hf]
  exact (zc (zw (kx rfl rfl))).trans ((zc (zw (zfd rfl))).trans rfl)
 ·rw[decide_eq_false he] at e1 e2
  exact (zc (zw (zfd e1))).trans ((zc (zw (kx e2 (w_nt (bb:=true) (zi rfl (hc he)))))).trans rfl)
theorem zog{x y:PyData}(hx:Shy badF x)(hy:Shy badF y):ShyS badF (RP m cs q.toD (some (.d x)) (some (.d y))) []:=yh (.int _) (yh (yl j8 cs) (yh (y4 j8 q) (yh hx (yh hy (k9 fun _ h=>(nomatch h))))))
theorem va(hm:m4 m)(h4:m≤4):∀ (p:Pl) (cs:Cs),p.fits m cs→Ok12 m cs→cs≠[]→∀ k,zg P table (k+p.hgt+4) false 23 [.d (.int m),.d (.list (zb cs)),.d p.toD] []=.ok (.d (.bool true)) []
 | .no,cs,h,_,hne,_=>absurd h hne
 | .told c,cs,h,hc,_,k=>by
   have h:cs=[c]:=h
   subst h
   have hg:good m c:=hc.good c (.head _)
   exact zh (fn:=c23) (ρ':=RP m [c] (Pl.told c).toD none none) rfl ⟨rfl,by decide⟩ rfl ((zc (zw rfl)).trans (zd ((w_if (bb:=true) (zq rfl rfl q_TT)).trans (zd (zz (kx rfl (kx (zi rfl (zei (k:=k+1) hm hg)) (zq rfl rfl ((zbr (a:=[c]) (b:=[c])).trans (by rw[decide_eq_true rfl]))))))))))
 | .weigh w a b c,cs,h,hc,hne,k=>by
   obtain⟨hw,_,ha,hb,hd⟩:=h
   have up:∀ {p:Pl} {o:Int},p.fits m (ze w o cs)→p.hgt≤max a.hgt (max b.hgt c.hgt)→(Ok12 m (ze w o cs)→ze w o cs≠[]→∀ k,zg P table (k+p.hgt+4) false 23 [.d (.int m),.d (.list (zb (ze w o cs))),.d p.toD] []=.ok (.d (.bool true)) [])→ze w o cs≠[]→zg P table (k+max a.hgt (max b.hgt c.hgt)+4) false 23 [.d (.int m),.d (.list (zb (ze w o cs))),.d p.toD] []=.ok (.d (.bool true)) []:=fun {p o} hp hle ih hn=>by
    have:=ih (hc.part w o) hn (k+(max a.hgt (max b.hgt c.hgt) - p.hgt))
    rwa [show k+(max a.hgt (max b.hgt c.hgt) - p.hgt)+p.hgt+4=k+max a.hgt (max b.hgt c.hgt)+4 by omega] at this
   have u1:=up ha (Nat.le_max_left _ _) (va hm h4 a _ ha)
   have u2:=up hb (Nat.le_trans (Nat.le_max_left _ _) (Nat.le_max_right _ _)) (va hm h4 b _ hb)
   have u3:=up hd (Nat.le_trans (Nat.le_max_right _ _) (Nat.le_max_right _ _)) (va hm h4 c _ hd)
   have hw':w∈wsI m:=List.mem_flatMap.mpr ⟨w,hw,.head _⟩
   have hz:ZOk badF .lst .tup (ph w cs) [a.toD,b.toD,c.toD]:=⟨rfl,za9 j8,qu j8 (y4 j8 a) (y4 j8 b) (y4 j8 c),.inl rfl,fun i x y hx _=>by
    obtain⟨c,rfl⟩:=za8 hx;exact .inr ⟨_,_,rfl⟩⟩
   have ef:evS (PG (k+max a.hgt (max b.hgt c.hgt)+4) false) (.forG badF .lst .tup (.two (.name 3) (.name 4)) (.call 9 (.cons (.idx (.loc 2) (.int 1)) (.cons (.loc 1) .nil))) (.idx (.loc 2) (.int 2)) forB) (RP m cs (Pl.weigh w a b c).toD none none) []=.ok .next (RP m cs (Pl.weigh w a b c).toD (some (.d (.list (zb (ze w 1 cs))))) (some (.d c.toD)),[]):=by
    rw[zfa (q1:=.lst) (q2:=.tup) rfl (zi rfl (zeg (k:=k+max a.hgt (max b.hgt c.hgt)+2) hm hw' hc)) rfl hz]
    exact (y7 (zb5 (yh (.int _) (yh (yl j8 cs) (yh (y4 j8 (.weigh w a b c)) (kc (kc (k9 fun _ h=>(nomatch h))))))) ha u1)).trans ((y7 (zb5 (zog (yl j8 _) (y4 j8 a)) hb u2)).trans ((y7 (zb5 (zog (yl j8 _) (y4 j8 b)) hd u3)).trans rfl))
   exact zh (fn:=c23) rfl ⟨rfl,by decide⟩ rfl ((zc (zw rfl)).trans ((zc (zw (zq rfl rfl q_WT))).trans ((zc (zw (xi (zq rfl rfl n_WW) (xi rfl (w_nt (bb:=true) (zi rfl (zs2 (k:=k+max a.hgt (max b.hgt c.hgt)+1) hm.1 h4 hw))))))).trans ((zc (zw rfl)).trans ((zc ef).trans (zd (zz rfl)))))))
noncomputable def Pl.isNo:Pl→Bool
 | .no=>true
 | _=>false
theorem Pl.fits_ne(h:p.fits m cs)(hc:cs≠[]):p.isNo=false:=by
 cases p with
 | no=>exact absurd h hc
 | told c=>rfl
 | weigh w a b c=>rfl
noncomputable def optI(p:Pl):List Int:=if p.isNo then [] else [(p.hgt:Int)]
theorem g0{i:Int}(h:i∈optI p):i=p.hgt:=by
 unfold optI at h
 cases hn:p.isNo with
 | true=>rw[hn] at h;cases h
 | false=>rw[hn] at h;exact List.mem_singleton.mp h
theorem zcf{M:Int}(h0:0≤M)(h:∀ i∈optI p,i≤M):(p.hgt:Int)≤M:=by
 cases p with
 | no=>exact h0
 | told c=>exact h0
 | weigh w a b c=>exact h _ (.head _)
theorem zh9:∀ {l:List Int},l≠[]→∃ M,maxI l=some M∧M∈l∧∀ a∈l,a≤M
 | [],h=>absurd rfl h
 | a::r,_=>by
   obtain⟨h1,h2,h3⟩:=zch r a
   refine⟨_,rfl,?_,fun b hb=>?_⟩
   ·rcases h1 with h1 | h1
    ·rw[h1];exact .head _
    ·exact .tail _ h1
   ·rcases List.mem_cons.mp hb with rfl | hb
    ·exact h2
    ·exact h3 b hb
theorem zmv{w:Wg}{a b c:Pl}(h:(Pl.weigh w a b c).fits m cs)(hne:cs≠[]):maxI (optI a++(optI b++optI c))=some ((max a.hgt (max b.hgt c.hgt):Nat):Int):=by
 obtain⟨hw,_,ha,hb,hd⟩:=h
 have hL:optI a++(optI b++optI c)≠[]:=fun e=>by
  obtain⟨k,hk⟩:=List.exists_mem_of_ne_nil _ hne
  obtain⟨e1,e2⟩:=List.append_eq_nil_iff.mp e
  obtain⟨e2,e3⟩:=List.append_eq_nil_iff.mp e2
  have no:∀ {p:Pl} {o:Int},p.fits m (ze w o cs)→optI p=[]→yg w k≠o:=fun {p o} hp hn ho=>by
   have:p.isNo=false:=Pl.fits_ne hp fun e=>by have:=mem_part.mpr ⟨hk,ho⟩;rw[e] at this;cases this
   unfold optI at hn
   rw[this] at hn;cases hn
  rcases za4 (jl k w.1 - jl k w.2) with h | h | h
  ·exact no ha e1 h
  ·exact no hb e2 h
  ·exact no hd e3 h
 obtain⟨M,hM,hin,hle⟩:=zh9 hL
 rw[hM]
 have hm:M=(a.hgt:Int)∨M=b.hgt∨M=c.hgt:=by
  rcases List.mem_append.mp hin with h | h
  ·exact .inl (g0 h)
  rcases List.mem_append.mp h with h | h
  ·exact .inr (.inl (g0 h))
  ·exact .inr (.inr (g0 h))
 have h0:0≤M:=by rcases hm with rfl | rfl | rfl <;> exact Int.natCast_nonneg _
 have l1:=zcf h0 fun i hi=>hle i (List.mem_append_left (bs:=optI b++optI c) (as:=optI a) hi)
 have l2:=zcf h0 fun i hi=>hle i (List.mem_append_right (optI a) (List.mem_append_left (optI c) hi))
 have l3:=zcf h0 fun i hi=>hle i (List.mem_append_right (optI a) (List.mem_append_right (optI b) hi))
 obtain⟨N,rfl⟩:=Int.eq_ofNat_of_zero_le h0
 refine congrArg (fun n:Nat=>some (n:Int)) (Nat.le_antisymm ?_ (Nat.max_le.mpr ⟨Int.ofNat_le.mp l1,Nat.max_le.mpr ⟨Int.ofNat_le.mp l2,Int.ofNat_le.mp l3⟩⟩))
 rcases hm with h | h | h
 ·exact Int.ofNat.inj h ▸ Nat.le_max_left _ _
 ·exact Int.ofNat.inj h ▸ Nat.le_trans (Nat.le_max_left _ _) (Nat.le_max_right _ _)
 ·exact Int.ofNat.inj h ▸ Nat.le_trans (Nat.le_max_right _ _) (Nat.le_max_right _ _)
noncomputable def optP(p:Pl):Option PyData:=if p.isNo then none else some (.int p.hgt)
theorem pj:(optP p).toList=(optI p).map .int:=by
 unfold optP optI
 cases p.isNo <;> rfl
theorem zjf(h:p.isNo=false→zg P table k false 25 [.d p.toD] []=.ok (.d (.int p.hgt)) []) :
 xn (.name 1) (fun ρ O=>xo (PG k false) ρ (.cons (.cmp .isnot (.loc 1) .none) .nil) O) (fun ρ O=>evE (PG k false) ρ (.call 25 (.cons (.loc 1) .nil)) O) [a,none] p.toD []=.ok (optP p) []:=by
 have hi:evE (PG k false) [a,some (.d p.toD)] (.cmp .isnot (.loc 1) .none) []=.ok (.d (.bool (!p.isNo))) []:=by
  cases p <;> rfl
 show R.bind (xo (PG k false) [a,some (.d p.toD)] (.cons (.cmp .isnot (.loc 1) .none) .nil) []) _=_
 rw[zaw,hi]
 unfold optP
 cases hn:p.isNo with
 | true=>rfl
 | false=>
   show R.bind (evE (PG k false) [a,some (.d p.toD)] (.call 25 (.cons (.loc 1) .nil)) []) _=_
   rw[zi rfl (h hn)];rfl
theorem zo0{P:Pg}{ρ:Loc}{O O':za}{a:CE}{is:List Int}{M:Int}(hd:P.hd=false)(h:evE P ρ a O=.ok (.d (.list (is.map .int))) O')(hM:maxI is=some M):evE P ρ (.maxL a) O=.ok (.d (.int M)) O':=by
 show (if P.hd=true then .stuck else _:R za V)=_
 rw[if_neg (by rw[hd];decide),h]
 show opt (((intsOf (is.map .int)).bind fun is=>(maxI is).map PyData.int).map V.d) O'=_
 rw[pq]
 show opt (((maxI is).map PyData.int).map V.d) O'=_
 rw[hM];rfl
theorem ztg{src:Src}{turn:PyData→za→R za (Option PyData)}{x1 x2 x3:PyData}{y1 y2 y3:Option PyData}{O:za}(hs:src.still O=true)(h1:turn x1 O=.ok y1 O)(h2:turn x2 O=.ok y2 O)(h3:turn x3 O=.ok y3 O) :
 yd src turn [x1,x2,x3] [] O=.ok (.d (.list (y1.toList++(y2.toList++y3.toList)))) O:=by
 have st:∀ {x:PyData} {y:Option PyData} {xs acc:List PyData},turn x O=.ok y O→yd src turn (x::xs) acc O=yd src turn xs (acc++y.toList) O:=fun h=>by rw[yd,h];exact if_pos hs
 rw[st h1,st h2,st h3,List.append_assoc,List.append_assoc,List.nil_append];rfl
theorem Pl.ne_of(h:p.fits m cs)(hn:p.isNo=false):cs≠[]:=fun e=>by
 subst e;rw[Pl.fits_nil h] at hn;cases hn
theorem zhj:∀ (p:Pl) (cs:Cs),p.fits m cs→cs≠[]→∀ k,zg P table (k+p.hgt+1) false 25 [.d p.toD] []=.ok (.d (.int p.hgt)) []
 | .no,cs,h,hne,_=>absurd h hne
 | .told c,cs,h,_,k=>zh (fn:=c25) rfl ⟨rfl,by decide⟩ rfl (zd ((w_if (bb:=true) (zq rfl rfl q_TT)).trans rfl))
 | .weigh w a b c,cs,h,hne,k=>by
   have hM:=zmv h hne
   obtain⟨hw,_,ha,hb,hd⟩:=h
   have up:∀ {p:Pl} {l:Cs},p.fits m l→p.hgt≤max a.hgt (max b.hgt c.hgt)→(l≠[]→∀ k,zg P table (k+p.hgt+1) false 25 [.d p.toD] []=.ok (.d (.int p.hgt)) [])→p.isNo=false→zg P table (k+max a.hgt (max b.hgt c.hgt)+1) false 25 [.d p.toD] []=.ok (.d (.int p.hgt)) []:=fun {p l} hp hle ih hn=>by
    have:=ih (Pl.ne_of hp hn) (k+(max a.hgt (max b.hgt c.hgt) - p.hgt))
    rwa [show k+(max a.hgt (max b.hgt c.hgt) - p.hgt)+p.hgt+1=k+max a.hgt (max b.hgt c.hgt)+1 by omega] at this
   have t1:=zjf (a:=some (.d (Pl.weigh w a b c).toD)) (up ha (Nat.le_max_left _ _) (zhj a _ ha))
   have t2:=zjf (a:=some (.d (Pl.weigh w a b c).toD)) (up hb (Nat.le_trans (Nat.le_max_left _ _) (Nat.le_max_right _ _)) (zhj b _ hb))
   have t3:=zjf (a:=some (.d (Pl.weigh w a b c).toD)) (up hd (Nat.le_trans (Nat.le_max_right _ _) (Nat.le_max_right _ _)) (zhj c _ hd))
   have hc:=ztg (src:=.plain [a.toD,b.toD,c.toD]) rfl t1 t2 t3
   rw[pj,pj,pj,← List.map_append,← List.map_append] at hc
   have hk:((Pl.weigh w a b c).hgt:Int)=1+((max a.hgt (max b.hgt c.hgt):Nat):Int):=by show ((_+1:Nat):Int)=_;omega
   rw[hk]
   refine zh (fn:=c25) rfl ⟨rfl,by decide⟩ rfl ((zc (zw (zq rfl rfl q_WT))).trans (zd (zz (yb rfl (zo0 rfl ?_ hM) wt))))
   exact hc
theorem Pl.solv:∀ (p:Pl) (cs:Cs),p.fits m cs→cs≠[]→solv (dueI m) p.hgt cs=true
 | .no,cs,h,hne=>absurd h hne
 | .told c,cs,h,_=>by have h:cs=[c]:=h;subst h;exact xk rfl
 | .weigh w a b c,cs,h,hne=>by
   obtain⟨hw,_,ha,hb,hd⟩:=h
   have up:∀ {p:Pl} {l:Cs},(l≠[]→Mine.L07.solv (dueI m) p.hgt l=true)→p.hgt≤max a.hgt (max b.hgt c.hgt)→l=[]∨Mine.L07.solv (dueI m) (max a.hgt (max b.hgt c.hgt)) l=true:=fun {p l} ih hle=>by
    by_cases hl:l=[]
    ·exact .inl hl
    ·exact .inr (zb7 (ih hl) hle)
   refine k7 hw fun o ho=>?_
   rcases List.mem_cons.mp ho with rfl | ho
   ·exact up (Pl.solv a _ ha) (Nat.le_max_left _ _)
   rcases List.mem_cons.mp ho with rfl | ho
   ·exact up (Pl.solv b _ hb) (Nat.le_trans (Nat.le_max_left _ _) (Nat.le_max_right _ _))
   ·rw[List.mem_singleton.mp ho]
    exact up (Pl.solv c _ hd) (Nat.le_trans (Nat.le_max_right _ _) (Nat.le_max_right _ _))
end
theorem zdw{m n:Nat}{cs:Cs}(ih:∀ {cs:Cs} {y:PyData},Hd m n cs y→y.canLay0=true):∀ {ws:List Wg} {ys:List PyData},vo (Row m n cs) ws ys→PyData.canLayAll0 ys=true
 | [],ys,h=>by subst h;rfl
 | w::ws,ys,h=>by
   obtain⟨y,zs,rfl,hr,h⟩:=h
   obtain⟨o,z,rfl,_,hz⟩:=hr
   show ((true && (z.canLay0 && true)) && PyData.canLayAll0 zs)=true
   rw[zdw ih h,ih hz];rfl
theorem zdx{m:Nat}:∀ {n:Nat} {cs:Cs} {y:PyData},Hd m n cs y→y.canLay0=true
 | 0,cs,y,h=>by rw[h.2];decide +kernel
 | n+1,cs,y,h=>by
   rcases h with h | ⟨ys,rfl,h⟩
   ·rw[h.2];decide +kernel
   ·show ((PyData.str (Str.ofString "each")).canLay0 && (PyData.canLayAll0 ys && true))=true
    rw[zdw (fun h=>zdx h) h];decide +kernel
theorem zdi{α:Type}{Q:α→PyData→Prop}:∀ {ws:List α} {ys:List PyData},vo Q ws ys→ys.length=ws.length
 | [],ys,h=>by have h:ys=[]:=h;rw[h];rfl
 | w::ws,ys,h=>by
   obtain⟨y,zs,rfl,_,h⟩:=h
   rw[List.length_cons,List.length_cons,zdi h]
theorem zdh{m n:Nat}{cs:Cs}:∀ {ws:List Wg} {ys:List PyData},vo (Row m n cs) ws ys→∀ y∈ys,∃ o z,y=rowD o z
 | [],ys,h,y,hy=>by have h:ys=[]:=h;rw[h] at hy;cases hy
 | w::ws,ys,h,y,hy=>by
   obtain⟨y',zs,rfl,hr,h⟩:=h
   rcases List.mem_cons.mp hy with rfl | hy
   ·obtain⟨o,z,e,_,_⟩:=hr;exact⟨o,z,e⟩
   ·exact zdh h y hy
theorem zn6{k:Nat}{o:Int}(ho:o∈outs):zg P table (k+1) false 0 [.d (.int o),.d (.int (-1)),.d (.int 1)] []=.ok (.d (.bool true)) []:=by
 have:outs.map (fun o=>zg P table (k+1) false 0 [.d (.int o),.d (.int (-1)),.d (.int 1)] [])=outs.map fun _=>.ok (.d (.bool true)) []:=by kernel_rfl
 exact jx this ho
theorem q_MM{O:za}:cmpV .eq (.d kq) (.d kq) O=.ok (.d (.bool true)) O:=by kernel_rfl
theorem n_EE{O:za}:cmpV .ne (.d (.str (Str.ofString "each"))) (.d (.str (Str.ofString "each"))) O=.ok (.d (.bool false)) O:=by kernel_rfl
theorem q_EM{ys:List PyData}{O:za}(h:(ju ys).canLay0=true):cmpV .eq (.d (ju ys)) (.d kq) O=.ok (.d (.bool false)) O:=by
 have hk:eqOk (ju ys) kq=true:=by
  unfold eqOk
  rw[h,decide_eq_true (Nat.le_trans (Nat.min_le_right _ _) (by decide))];decide +kernel
 have hv:PyData.eqv (ju ys) kq=false:=by kernel_rfl
 rw[v_eq]
 show opt (Option.map _ (if eqOk (ju ys) kq=true then some (PyData.eqv (ju ys) kq) else none)) O=_
 rw[if_pos hk,hv];rfl
inductive ze8(m n' n:Nat)(cs cs0:Cs)(r:R za V):Prop
 | mk (b:Bool) (e:r=.ok (.d (.bool b)) []) (no:b=true→1 < cs.length∧solv (dueI m) n' cs=false) (yes:n'=n→cs=cs0→b=true)
noncomputable abbrev RH(m n':Nat)(cs:Cs)(y:PyData)(r a b c:Option V):Loc:=[some (.d (.list (due m))),some (.d (.list (zb cs))),some (.d (.int (n':Int))),some (.d y),r,a,b,c,none]
noncomputable def zd4:CSs:=(.cons (.ife (.or_ (.nt (.prim (.isinst .tuple) (.cons (.loc 6) .nil))) (.or_ (.cmp .ne (.prim .len (.cons (.loc 6) .nil)) (.int 2)) (.nt (.call 0 (.cons (.idx (.loc 6) (.int 0)) (.cons (.neg (.int 1)) (.cons (.int 1) .nil))))))) (.cons (.ret (.bool false)) .nil) .nil) (.cons (.asg (.name 7) (.comp (.loc 8) (.name 8) (.e (.loc 1)) (.cons (.cmp .eq (.call 8 (.cons (.loc 5) (.cons (.loc 8) .nil))) (.idx (.loc 6) (.int 0))) .nil))) (.cons (.ife (.nt (.call 11 (.cons (.loc 0) (.cons (.loc 7) (.cons (.bin .sub (.loc 2) (.int 1)) (.cons (.idx (.loc 6) (.int 1)) .nil)))))) (.cons (.ret (.bool false)) .nil) .nil) .nil)))
section
variable{m k n n':Nat}{cs cs0:Cs}{y:PyData}
theorem zbk(h:Ok12 m cs)(hn:n'≤3)(hl:3 ^ n < cs0.length):ze8 m n' n cs cs0 (zg P table (k+2) false 11 [.d (.list (due m)),.d (.list (zb cs)),.d (.int (n':Int)),.d kq] []):=by
 have e:evE (PG (k+1) false) (RH m n' cs kq none none none none) (.cmp .gt (.prim .len (.cons (.loc 1) .nil)) (.call 10 (.cons (.loc 2) .nil))) []=.ok (.d (.bool (decide ((cs.length:Int) > ((3 ^ n':Nat):Int))))) []:=by
  refine zq (yc rfl rfl (y9 rfl h.line)) (zi rfl (zef hn)) (v_gt.trans ?_)
  rw[zp]
 refine⟨_,zh (fn:=c11) rfl ⟨rfl,by decide⟩ rfl (zd ((w_if (zq rfl rfl q_MM)).trans ((if_pos rfl).trans (zd (zz e))))),fun hb=>?_,fun h1 h2=>?_⟩
 ·have hb:3 ^ n' < cs.length:=Int.ofNat_lt.mp (of_decide_eq_true hb)
  exact⟨Nat.lt_of_le_of_lt (Nat.one_le_pow _ _ (by decide)) hb,Bool.eq_false_iff.mpr fun e=>Nat.not_lt.mpr (wg e) hb⟩
 ·subst h1;subst h2
  exact decide_eq_true (Int.ofNat_lt.mpr hl)
inductive zto(m n' n:Nat)(cs cs0:Cs)(w:Wg)(y:PyData)(rows:PyData)(r:R (Loc×za) Fl):Prop
 | next (o:Int) (ho:o∈outs) (z:PyData) (hz:Shy badH z) (hl:1 < (ze w o cs).length) (hs:solv (dueI m) n' (ze w o cs)=false) (e:r=.ok .next (RH m (n' + 1) cs y (some (.d rows)) (some (.d (wD w))) (some (.d (rowD o z))) (some (.d (.list (zb (ze w o cs))))),[]))
 | ret (h:n'=n→cs=cs0→False) (ρ':Loc) (e:r=.ok (.ret (.d (.bool false))) (ρ',[]))
theorem zpd(hm:m4 m)(h:Ok12 m cs){w:Wg}(hw:w∈dueI m){row rows:PyData}(hr:Row m n cs0 w row)(ih:∀ {cs cs0:Cs} {y:PyData},Hd m n cs0 y→Ok12 m cs→ze8 m n' n cs cs0 (zg P table (k+1) false 11 [.d (.list (due m)),.d (.list (zb cs)),.d (.int (n':Int)),.d y] [])){a b c:Option V}(hs:ShyS badH (RH m (n' + 1) cs y (some (.d rows)) a b c) []) :
 zto m n' n cs cs0 w y rows (y6 badH (.two (.name 5) (.name 6)) (fun ρ O=>evSs (PG (k+1) false) zd4 ρ O) (.tuple [wD w,row]) (RH m (n' + 1) cs y (some (.d rows)) a b c) []):=by
 obtain⟨o,z,rfl,ho,hz⟩:=hr
 have hw':w∈wsI m:=List.mem_flatMap.mpr ⟨w,hw,.head _⟩
 obtain⟨b',e,no,yes⟩:=ih hz (h.part w o)
 have hp:=zgh (k:=k+1) (a:=8) (b:=1) (w:=w) (o:=o) (wx:=.loc 5) (ox:=.idx (.loc 6) (.int 0)) (ρ:=RH m (n' + 1) cs y (some (.d rows)) (some (.d (wD w))) (some (.d (rowD o z))) c) (O:=[]) h (zco hm hw') rfl rfl (fun _=>rfl) fun _=>rfl
 have hnum:((n' + 1:Nat):Int) - 1=(n':Int):=by omega
 have et:evE (PG (k+1) false) (RH m (n' + 1) cs y (some (.d rows)) (some (.d (wD w))) (some (.d (rowD o z))) (some (.d (.list (zb (ze w o cs)))))) (.nt (.call 11 (.cons (.loc 0) (.cons (.loc 7) (.cons (.bin .sub (.loc 2) (.int 1)) (.cons (.idx (.loc 6) (.int 1)) .nil)))))) []=.ok (.d (.bool !b')) []:=by
  refine w_nt (zi (zo rfl (zo rfl (zo (yb rfl rfl vi) (zo rfl rfl)))) ?_)
  rw[hnum];exact e
 have e0:y6 badH (.two (.name 5) (.name 6)) (fun ρ O=>evSs (PG (k+1) false) zd4 ρ O) (.tuple [wD w,rowD o z]) (RH m (n' + 1) cs y (some (.d rows)) a b c) []=evSs (PG (k+1) false) (.cons (.ife (.nt (.call 11 (.cons (.loc 0) (.cons (.loc 7) (.cons (.bin .sub (.loc 2) (.int 1)) (.cons (.idx (.loc 6) (.int 1)) .nil)))))) (.cons (.ret (.bool false)) .nil) .nil) .nil) (RH m (n' + 1) cs y (some (.d rows)) (some (.d (wD w))) (some (.d (rowD o z))) (some (.d (.list (zb (ze w o cs)))))) []:=by
  unfold y6
  rw[if_pos hs]
  exact (zc (P:=PG (k+1) false) (ρ:=RH m (n' + 1) cs y (some (.d rows)) (some (.d (wD w))) (some (.d (rowD o z))) c) (zw (xi rfl (xi rfl (w_nt (bb:=true) (zi rfl (zn6 ho))))))).trans (zc (z5 hp rfl rfl))
 rw[e0]
 cases b' with
 | true=>exact .next o ho z (ja ko hz) (no rfl).1 (no rfl).2 ((zc (zw et)).trans rfl)
 | false=>exact .ret (fun h1 h2=>by subst h2;cases yes h1 rfl) _ (zd ((w_if et).trans ((if_pos rfl).trans (zd (zz rfl)))))
inductive zow(m n' n:Nat)(cs cs0:Cs)(ws:List Wg)(y rows:PyData)(r:R (Loc×za) Fl):Prop
 | next (h:∀ w∈ws,∃ o∈outs,1 < (ze w o cs).length∧solv (dueI m) n' (ze w o cs)=false) (a b c:Option V) (e:r=.ok .next (RH m (n' + 1) cs y (some (.d rows)) a b c,[]))
 | ret (h:n'=n→cs=cs0→False) (ρ':Loc) (e:r=.ok (.ret (.d (.bool false))) (ρ',[]))
theorem zkd(hm:m4 m)(h:Ok12 m cs){rows:PyData}(ih:∀ {cs cs0:Cs} {y:PyData},Hd m n cs0 y→Ok12 m cs→ze8 m n' n cs cs0 (zg P table (k+1) false 11 [.d (.list (due m)),.d (.list (zb cs)),.d (.int (n':Int)),.d y] [])){us:List PyData}(hy:Shy badH y)(hrs:Shy badH rows) :
 ∀ (ws:List Wg) (ys:List PyData) (a b c:Option V),(∀ w∈ws,w∈dueI m)→vo (Row m n cs0) ws ys→ShyS badH (RH m (n' + 1) cs y (some (.d rows)) a b c) []→zow m n' n cs cs0 ws y rows (zu (.plain us) (y6 badH (.two (.name 5) (.name 6)) (fun ρ O=>evSs (PG (k+1) false) zd4 ρ O)) (zipT (ws.map fun p=>wOf p.1 p.2) ys) (RH m (n' + 1) cs y (some (.d rows)) a b c) [])
 | [],ys,a,b,c,_,he,_=>.next (fun _ h=>nomatch h) a b c (by have he:ys=[]:=he;subst he;rfl)
 | w::ws,ys,a,b,c,hw,he,hs=>by
   obtain⟨row,zs,rfl,hr,he⟩:=he
   show zow m n' n cs cs0 (w::ws) y rows (zu _ _ (.tuple [wD w,row]::zipT (ws.map fun p=>wOf p.1 p.2) zs) _ _)
   rcases zpd (k:=k) (rows:=rows) (y:=y) hm h (hw w (.head _)) hr ih hs with ⟨o,ho,z,hz,hl,hsv,e⟩ | ⟨hn,ρ',e⟩
   ·rw[y7 e]
    have hs':ShyS badH (RH m (n' + 1) cs y (some (.d rows)) (some (.d (wD w))) (some (.d (rowD o z))) (some (.d (.list (zb (ze w o cs)))))) []:=
     yh (u0 ko m) (yh (yl ko cs) (yh (.int _) (yh hy (yh hrs (yh (zgy ko w) (yh (jn (.int o) hz (fun hb=>by
      rcases hb with hb | ⟨_,_,_,_,hb⟩ <;> cases hb)) (yh (yl ko _) (kc (k9 fun _ h=>(nomatch h))))))))))
    rcases zkd hm h ih (us:=us) hy hrs ws zs _ _ _ (fun v hv=>hw v (.tail _ hv)) he hs' with ⟨ha,a',b',c',e'⟩ | ⟨hn,ρ',e'⟩
    ·exact .next (fun v hv=>by
      rcases List.mem_cons.mp hv with rfl | hv
      ·exact⟨o,ho,hl,hsv⟩
      ·exact ha v hv) a' b' c' e'
    ·exact .ret hn ρ' e'
   ·exact .ret hn ρ' (jr e)
theorem znq(hm:m4 m):∃ w,w∈dueI m:=by
 rcases qc hm with rfl | rfl | rfl | rfl <;> exact⟨_,.head _⟩
theorem zn5(hm:m4 m)(h:∀ w∈dueI m,∃ o∈outs,1 < (ze w o cs).length∧solv (dueI m) n (ze w o cs)=false):1 < cs.length∧solv (dueI m) (n+1) cs=false:=by
 obtain⟨w,hw⟩:=znq hm
 obtain⟨o,_,hl,_⟩:=h w hw
 have hl:1 < cs.length:=Nat.lt_of_lt_of_le hl (List.length_filter_le _ _)
 refine⟨hl,Bool.eq_false_iff.mpr fun hs=>?_⟩
 rcases solv_succ.mp hs with h1 | ⟨_,w,hw,hs⟩
 ·omega
 ·obtain⟨o,ho,hl,hb⟩:=h w hw
  rcases hs o ho with hs | hs
  ·rw[hs] at hl;exact absurd hl (by decide)
  ·rw[hs] at hb;cases hb
theorem zej(hm:m4 m):∀ {n n':Nat} {cs cs0:Cs} {y:PyData},n'≤3→Hd m n cs0 y→Ok12 m cs→ze8 m n' n cs cs0 (zg P table (k+n+2) false 11 [.d (.list (due m)),.d (.list (zb cs)),.d (.int (n':Int)),.d y] [])
 | 0,n',cs,cs0,y,hn,hy,h=>by
   rw[hy.2];exact zbk h hn hy.1
 | n+1,n',cs,cs0,y,hn,hy,h=>by
   have hy':=hy
   rcases hy with hy | ⟨ys,rfl,hy⟩
   ·rw[hy.2];exact zbk (k:=k+(n+1)) h hn hy.1
   ·have hy:vo (Row m n cs0) (dueI m) ys:=hy
    have em:evE (PG (k+n+2) false) (RH m n' cs (ju ys) none none none none) (.cmp .eq (.loc 3) (.tup (.cons (.str (Str.ofString "many")) .nil))) []=.ok (.d (.bool false)) []:=zq rfl rfl (q_EM (zdx hy'))
    have e0:evE (PG (k+n+2) false) (RH m n' cs (ju ys) none none none none) (.or_ (.nt (.prim (.isinst .tuple) (.cons (.loc 3) .nil))) (.or_ (.cmp .ne (.prim .len (.cons (.loc 3) .nil)) (.int 2)) (.or_ (.cmp .ne (.idx (.loc 3) (.int 0)) (.str (Str.ofString "each"))) (.cmp .eq (.loc 2) (.int 0))))) []=.ok (.d (.bool (decide ((n':Int)=0)))) []:=xi rfl (xi rfl (xi (zq rfl rfl n_EE) (zq rfl rfl eq_int)))
    cases n' with
    | zero=>
      refine⟨false,zh (fn:=c11) rfl ⟨rfl,by decide⟩ rfl ((zc (zw em)).trans (zd ((w_if e0).trans ((if_pos rfl).trans (zd (zz rfl)))))),fun h=>(nomatch h),fun h=>(nomatch h)⟩
    | succ n'=>
      have hl:=zdi hy
      have h25:(dueI m).length≤25:=by rcases qc hm with rfl | rfl | rfl | rfl <;> decide
      have hl1:ys.length≤line:=by rw[hl];exact Nat.le_trans h25 (by decide)
      have hl2:(due m).length≤line:=by unfold due;rw[List.length_map];exact Nat.le_trans h25 (by decide)
      rw[decide_eq_false (show ¬ ((n' + 1:Nat):Int)=0 by omega)] at e0
      have e1:evE (PG (k+n+2) false) (RH m (n' + 1) cs (ju ys) (some (.d (.tuple ys))) none none none) (.or_ (.nt (.prim (.isinst .tuple) (.cons (.loc 4) .nil))) (.cmp .ne (.prim .len (.cons (.loc 4) .nil)) (.prim .len (.cons (.loc 0) .nil)))) []=.ok (.d (.bool false)) []:=by
       refine xi rfl (zq (yc rfl rfl (kg (x:=.tuple ys) (y:=.int ys.length) rfl (if_pos hl1))) (yc rfl rfl (y9 rfl hl2)) (ne_int.trans ?_))
       rw[hl,decide_eq_true (by unfold due;rw[List.length_map])];rfl
      obtain⟨s1,s2⟩:=gp ko (fun h=>ja ko h) hy
      have hrs:Shy badH (.tuple ys):=.tuple s1 s2
      have hz:ZOk badH .lst .tup (due m) ys:=⟨by rw[hl];exact List.length_map _,u0 ko m,hrs,.inl rfl,fun i x y hx hy'=>by
       obtain⟨w,_,rfl⟩:=List.mem_map.mp (List.mem_of_getElem? hx)
       obtain⟨o,z,rfl⟩:=zdh hy y (List.mem_of_getElem? hy')
       exact .inr ⟨_,_,_,_,rfl⟩⟩
      have ef:evS (PG (k+n+2) false) (.forG badH .lst .tup (.two (.name 5) (.name 6)) (.loc 0) (.loc 4) zd4) (RH m (n' + 1) cs (ju ys) (some (.d (.tuple ys))) none none none) []=zu (.plain (zipT (due m) ys)) (y6 badH (.two (.name 5) (.name 6)) (fun ρ O=>evSs (PG (k+n+2) false) zd4 ρ O)) (zipT (due m) ys) (RH m (n' + 1) cs (ju ys) (some (.d (.tuple ys))) none none none) []:=zfa (q1:=.lst) (q2:=.tup) rfl rfl rfl hz
      have pre:∀ {r:R (Loc×za) Fl} {ss:CSs},evSs (PG (k+n+2) false) ss (RH m (n' + 1) cs (ju ys) (some (.d (.tuple ys))) none none none) []=r→evSs (PG (k+n+2) false) (.cons (.ife (.cmp .eq (.loc 3) (.tup (.cons (.str (Str.ofString "many")) .nil))) (.cons (.ret (.cmp .gt (.prim .len (.cons (.loc 1) .nil)) (.call 10 (.cons (.loc 2) .nil)))) .nil) .nil) (.cons (.ife (.or_ (.nt (.prim (.isinst .tuple) (.cons (.loc 3) .nil))) (.or_ (.cmp .ne (.prim .len (.cons (.loc 3) .nil)) (.int 2)) (.or_ (.cmp .ne (.idx (.loc 3) (.int 0)) (.str (Str.ofString "each"))) (.cmp .eq (.loc 2) (.int 0))))) (.cons (.ret (.bool false)) .nil) .nil) (.cons (.asg (.name 4) (.idx (.loc 3) (.int 1))) (.cons (.ife (.or_ (.nt (.prim (.isinst .tuple) (.cons (.loc 4) .nil))) (.cmp .ne (.prim .len (.cons (.loc 4) .nil)) (.prim .len (.cons (.loc 0) .nil)))) (.cons (.ret (.bool false)) .nil) .nil) ss)))) (RH m (n' + 1) cs (ju ys) none none none none) []=r:=
       fun h=>(zc (zw em)).trans ((zc (zw e0)).trans ((zc (z5 rfl rfl rfl)).trans ((zc (zw e1)).trans h)))
      rcases zkd (k:=k+n+1) (n':=n') (us:=zipT (due m) ys) hm h (fun h1 h2=>zej hm (by omega) h1 h2) (ja ko hy') hrs (dueI m) ys none none none (fun _ h=>h) hy (yh (u0 ko m) (yh (yl ko cs) (yh (.int _) (yh (ja ko hy') (yh hrs (kc (kc (kc (kc (k9 fun _ h=>(nomatch h))))))))))) with ⟨ha,a,b,c,e⟩ | ⟨hno,ρ',e⟩
      ·exact⟨true,zh (fn:=c11) rfl ⟨rfl,by decide⟩ rfl (pre ((zc (ef.trans e)).trans (zd (zz rfl)))),fun _=>zn5 hm ha,fun _ _=>rfl⟩
      ·exact⟨false,zh (fn:=c11) rfl ⟨rfl,by decide⟩ rfl (pre (zd (ef.trans e))),fun h=>(nomatch h),fun h1 h2=>(hno (Nat.succ.inj h1) h2).elim⟩
theorem zeh(hm:m4 m)(h4:m≤4)(f:Found m cs)(hn:n≤3)(hn':n'≤3)(hy:Hd m n cs0 y):ze8 m n' n cs cs0 (zg P table (k+6) false 12 [.d (.int m),.d (.list (zb cs)),.d (.int (n':Int)),.d y] []):=by
 have hk:k+5=(k+3 - n)+n+2:=by omega
 obtain⟨b,e,no,yes⟩:=zej (k:=k+3 - n) hm hn' hy ⟨f.good,f.le⟩
 rw[← hk] at e
 have ea:[0,1,2,3].map (fun n:Nat=>zg P table (k+5) false 0 [.d (.int n),.d (.int 0),.d (.int 20)] [])=[0,1,2,3].map fun n:Nat=>.ok (.d (.bool true)) []:=by kernel_rfl
 have ea:=jx ea (x:=n') (by
  have:n'=0∨n'=1∨n'=2∨n'=3:=by omega
  rcases this with rfl | rfl | rfl | rfl <;> decide)
 exact⟨b,zh (fn:=c12) rfl ⟨rfl,by decide⟩ rfl ((zc (x8 (zi rfl (zgj (k:=k+2) hm f (.d _))))).trans ((zc (zw (w_nt (bb:=true) (zi rfl ea)))).trans (zd (zz (zi (zo (zi rfl (zgk (k:=k+1) hm.1 h4)) rfl) e))))),no,yes⟩
end
theorem zns{m:Nat}(hm:m4 m):∀ x∈due m,Lay 10 x:=by
 have h:((due m).all fun x=>x.canLay0 && decide (x.depth≤10))=true:=by rcases qc hm with rfl | rfl | rfl | rfl <;> decide +kernel
 intro x hx
 have:=List.all_eq_true.mp h x hx
 rw[Bool.and_eq_true,decide_eq_true_eq] at this
 exact⟨this.1,this.2⟩
noncomputable def dp(a b:List Int)(x:PyData):Option PyData:=if yg (unW x) a=yg (unW x) b then none else some x
section
variable{m k n:Nat}{cs:Cs}{a b:List Int}
theorem zlf:((due m).filterMap (dp a b)).isEmpty=ye (dueI m) a b:=by
 rw[dq]
 show ((dueI m).map fun p=>wOf p.1 p.2).all _=_
 unfold ye
 rw[List.all_map]
 congr 1
 funext w
 show (dp a b (wD w)).isNone=_
 unfold dp
 rw[zgv]
 by_cases h:yg w a=yg w b
 ·rw[if_pos h,decide_eq_true h];rfl
 ·rw[if_neg h,decide_eq_false h];rfl
theorem zk9(hm:m4 m)(ha:good m a)(hb:good m b):zg P table (k+2) false 35 [.d (.list (due m)),.d (caseD a),.d (caseD b)] []=.ok (.d (.bool (ye (dueI m) a b))) []:=by
 have hl:(due m).length≤line:=(zhk hm).2
 have hc:=qr (P:=PG (k+1) false) (ρ:=[some (.d (.list (due m))),some (.d (caseD a)),some (.d (caseD b)),none]) (elt:=.loc 3) (tgt:=.name 3) (it:=.e (.loc 0)) (ifs:=.cons (.cmp .ne (.call 29 (.cons (.loc 3) (.cons (.loc 1) .nil))) (.call 29 (.cons (.loc 3) (.cons (.loc 2) .nil)))) .nil) (O:=[]) (src:=.plain (due m)) rfl rfl rfl hl (dp a b) fun x hx=>by
  obtain⟨w,hw,rfl⟩:=List.mem_map.mp hx
  have hw':w∈wsI m:=List.mem_flatMap.mpr ⟨w,hw,.head _⟩
  have et:evE (PG (k+1) false) [some (.d (.list (due m))),some (.d (caseD a)),some (.d (caseD b)),some (.d (wD w))] (.cmp .ne (.call 29 (.cons (.loc 3) (.cons (.loc 1) .nil))) (.call 29 (.cons (.loc 3) (.cons (.loc 2) .nil)))) []=.ok (.d (.bool (!decide (yg w a=yg w b)))) []:=zq (zi rfl (zcn hm hw' a ha)) (zi rfl (zcn hm hw' b hb)) ne_int
  show R.bind (xo (PG (k+1) false) [some (.d (.list (due m))),some (.d (caseD a)),some (.d (caseD b)),some (.d (wD w))] _ []) _=_
  rw[zaw,et]
  unfold dp
  rw[zgv]
  by_cases h:yg w a=yg w b
  ·rw[if_pos h,decide_eq_true h];rfl
  ·rw[if_neg h,decide_eq_false h];rfl
 refine zh (fn:=c35) rfl ⟨rfl,by decide⟩ rfl (zd (zz (zq hc rfl ((u7 fun x hx=>?_).trans ?_))))
 ·obtain⟨z,hz,e⟩:=List.mem_filterMap.mp hx
  unfold dp at e
  by_cases h:yg (unW z) a=yg (unW z) b
  ·rw[if_pos h] at e;cases e
  ·rw[if_neg h] at e;cases e;exact zns hm _ hz
 ·show R.ok (V.d (.bool ((due m).filterMap (dp a b)).isEmpty)) []=_
  rw[zlf]
noncomputable abbrev R36(m:Nat)(cs:Cs)(a b:Option V):Loc:=[some (.d (.list (due m))),some (.d (.list (zb cs))),a,b]
noncomputable def inB:CSs:=.cons (.ife (.call 35 (.cons (.loc 0) (.cons (.idx (.loc 1) (.loc 2)) (.cons (.loc 3) .nil)))) (.cons (.ret (.bool true)) .nil) .nil) .nil
noncomputable def outB:CSs:=.cons (.for_ (.name 3) (.e (.slice (.loc 1) .none (.loc 2))) inB) .nil
theorem zqj{i:Nat}{c:List Int}(h:Ok12 m cs)(hi:cs[i]?=some c):idxV (.d (.list (zb cs))) (.d (.int (i:Int))) []=.ok (.d (caseD c)) []:=by
 have e:(zb cs)[i]?=some (caseD c):=by unfold zb;rw[List.getElem?_map,hi];rfl
 rw[ve]
 have e2:idxD (.list (zb cs)) (.int (i:Int))=some (caseD c):=by
  unfold idxD items
  dsimp only
  rw[if_pos h.line,if_pos (Int.natCast_nonneg i),Int.toNat_natCast]
  exact e
 rw[e2];rfl
theorem zde{P:Pg}{ρ:Loc}{O:za}{a b:CE}{i:Nat}(h:Ok12 m cs)(ha:evE P ρ a O=.ok (.d (.list (zb cs))) O)(hb:evE P ρ b O=.ok (.d (.int (i:Int))) O):evE P ρ (.slice a .none b) O=.ok (.d (.list (zb (cs.take i)))) O:=by
 have hc:clipAt (zb cs).length (i:Int)=min i cs.length:=by
  have:=clipAt_cast (zb cs).length (i:Int)
  rw[if_neg (by omega),zp] at this
  rw[zp];omega
 rw[zgr,ha,zv,show evE P ρ .none O=.ok (.d .none) O from rfl,zv,hb,zv]
 show opt ((jm (zb cs) .none (.int (i:Int))).map V.d) O=_
 unfold jm
 rw[if_pos h.line]
 show R.ok (V.d (.list (vv (zb cs) 0 (clipAt (zb cs).length (i:Int))))) O=_
 rw[hc]
 unfold vv zb
 rw[List.drop_zero,Nat.sub_zero,← List.map_take,List.take_eq_take_min (i:=i)]
theorem zae:ye (dueI m) a b=ye (dueI m) b a:=by
 unfold ye
 congr 1
 funext w
 exact decide_eq_decide.mpr eq_comm
theorem l_in(hm:m4 m)(h:Ok12 m cs){i:Nat}{c:List Int}(hi:cs[i]?=some c)(hc:good m c){zs:List PyData}:∀ (l:Cs),(∀ c∈l,good m c)→∀ e:Option V,
 (l.any (ye (dueI m) c)=false∧∃ e',zu (.plain zs) (ya (PG (k+2) false) (.name 3) inB) (zb l) (R36 m cs (some (.d (.int (i:Int)))) e) []=.ok .next (R36 m cs (some (.d (.int (i:Int)))) e',[])) ∨
 (l.any (ye (dueI m) c)=true∧∃ ρ',zu (.plain zs) (ya (PG (k+2) false) (.name 3) inB) (zb l) (R36 m cs (some (.d (.int (i:Int)))) e) []=.ok (.ret (.d (.bool true))) (ρ',[]))
 | [],_,e=>.inl ⟨rfl,e,rfl⟩
 | b::l,hl,e=>by
   have et:evE (PG (k+2) false) (R36 m cs (some (.d (.int (i:Int)))) (some (.d (caseD b)))) (.call 35 (.cons (.loc 0) (.cons (.idx (.loc 1) (.loc 2)) (.cons (.loc 3) .nil)))) []=.ok (.d (.bool (ye (dueI m) c b))) []:=zi (zo rfl (zo (jj rfl rfl (zqj h hi)) (zo rfl rfl))) (zk9 hm hc (hl b (.head _)))
   cases hb:ye (dueI m) c b with
   | true=>
     rw[hb] at et
     have h1:ya (PG (k+2) false) (.name 3) inB (caseD b) (R36 m cs (some (.d (.int (i:Int)))) e) []=.ok (.ret (.d (.bool true))) (R36 m cs (some (.d (.int (i:Int)))) (some (.d (caseD b))),[]):=
      zd (P:=PG (k+2) false) (ρ:=R36 m cs (some (.d (.int (i:Int)))) (some (.d (caseD b)))) ((w_if et).trans ((if_pos rfl).trans (zd (zz rfl))))
     exact .inr ⟨by rw[List.any_cons,hb];rfl,_,jr h1⟩
   | false=>
     rw[hb] at et
     have h1:ya (PG (k+2) false) (.name 3) inB (caseD b) (R36 m cs (some (.d (.int (i:Int)))) e) []=.ok .next (R36 m cs (some (.d (.int (i:Int)))) (some (.d (caseD b))),[]):=
      (zc (P:=PG (k+2) false) (ρ:=R36 m cs (some (.d (.int (i:Int)))) (some (.d (caseD b)))) (zw et)).trans rfl
     have hany:(b::l).any (ye (dueI m) c)=l.any (ye (dueI m) c):=by rw[List.any_cons,hb];rfl
     rw[hany,show zb (b::l)=caseD b::zb l from rfl,y7 h1]
     exact l_in hm h hi hc l (fun c hc=>hl c (.tail _ hc)) _
theorem zom(hm:m4 m)(h:Ok12 m cs){zs:List PyData}:∀ (l:Cs) (i:Nat) (a b:Option V),cs.drop i=l→Pw (dueI m) (cs.take i) →
 (Pw (dueI m) cs∧∃ a' b',zu (.plain zs) (ya (PG (k+2) false) (.name 2) outB) ((l.zipIdx i).map fun p=>.int (p.2:Int)) (R36 m cs a b) []=.ok .next (R36 m cs a' b',[])) ∨
 (¬ Pw (dueI m) cs∧∃ ρ',zu (.plain zs) (ya (PG (k+2) false) (.name 2) outB) ((l.zipIdx i).map fun p=>.int (p.2:Int)) (R36 m cs a b) []=.ok (.ret (.d (.bool true))) (ρ',[]))
 | [],i,a,b,hd,hp=>.inl ⟨by rwa [List.take_of_length_le (List.drop_eq_nil_iff.mp hd)] at hp,a,b,rfl⟩
 | c::l,i,a,b,hd,hp=>by
   have hi:cs[i]?=some c:=by
    have:(cs.drop i)[0]?=some c:=by rw[hd];rfl
    rwa [List.getElem?_drop,Nat.add_zero] at this
   have hd':cs.drop (i+1)=l:=by rw[← List.drop_drop,hd];rfl
   have ht:cs.take (i+1)=cs.take i++[c]:=by rw[List.take_succ,hi];rfl
   have hc:good m c:=h.good c (List.mem_of_getElem? hi)
   have ef:evS (PG (k+2) false) (.for_ (.name 3) (.e (.slice (.loc 1) .none (.loc 2))) inB) (R36 m cs (some (.d (.int (i:Int)))) b) []=zu (.plain (zb (cs.take i))) (ya (PG (k+2) false) (.name 3) inB) (zb (cs.take i)) (R36 m cs (some (.d (.int (i:Int)))) b) []:=by
    rw[kw,if_neg Bool.false_ne_true,x_e,zde h rfl rfl]
    rfl
   rw[List.zipIdx_cons,List.map_cons]
   rcases l_in (k:=k) (zs:=zb (cs.take i)) hm h hi hc (cs.take i) (fun x hx=>h.good x (List.mem_of_mem_take hx)) b with ⟨hb,e',h1⟩ | ⟨hb,ρ',h1⟩
   ·have ht1:ya (PG (k+2) false) (.name 2) outB (.int (i:Int)) (R36 m cs a b) []=.ok .next (R36 m cs (some (.d (.int (i:Int)))) e',[]):=
     (zc (P:=PG (k+2) false) (ρ:=R36 m cs (some (.d (.int (i:Int)))) b) (ef.trans h1)).trans rfl
    rw[y7 ht1]
    refine zom hm h l (i+1) _ _ hd' ?_
    rw[ht]
    refine List.pairwise_append.mpr ⟨hp,List.pairwise_singleton _ _,fun x hx y hy=>?_⟩
    rw[List.mem_singleton.mp hy,zae]
    exact any_alike.mp hb x hx
   ·have ht1:ya (PG (k+2) false) (.name 2) outB (.int (i:Int)) (R36 m cs a b) []=.ok (.ret (.d (.bool true))) (ρ',[]):=
     zd (P:=PG (k+2) false) (ρ:=R36 m cs (some (.d (.int (i:Int)))) b) (ef.trans h1)
    refine .inr ⟨fun hpw=>?_,ρ',jr ht1⟩
    have hpw:Pw (dueI m) (cs.take (i+1)):=hpw.sublist (List.take_sublist _ _)
    rw[ht] at hpw
    have:=(List.pairwise_append.mp hpw).2.2
    rw[any_alike.mpr fun x hx=>by rw[zae];exact this x hx c (.head _)] at hb
    cases hb
theorem zgl(hm:m4 m)(h:Ok12 m cs):(Pw (dueI m) cs∧zg P table (k+3) false 36 [.d (.list (due m)),.d (.list (zb cs))] []=.ok (.d (.bool false)) [])∨(¬ Pw (dueI m) cs∧zg P table (k+3) false 36 [.d (.list (due m)),.d (.list (zb cs))] []=.ok (.d (.bool true)) []):=by
 have er:zj 0 ((zb cs).length:Int)=(cs.zipIdx 0).map fun p=>.int (p.2:Int):=by
  rw[show (fun p:List Int×Nat=>PyData.int (p.2:Int))=(fun i:Nat=>PyData.int (i:Int))∘Prod.snd from rfl,← List.map_map,List.zipIdx_map_snd,← List.range_eq_range',zp]
  unfold zj
  rw[Int.sub_zero,Int.toNat_natCast]
  exact List.map_congr_left fun i _=>by rw[Int.zero_add]
 have hI:evI (PG (k+2) false) (R36 m cs none none) (.range (.int 0) (.prim .len (.cons (.loc 1) .nil))) []=.ok (.plain (zj 0 ((zb cs).length:Int))) []:=by
  have:evE (PG (k+2) false) (R36 m cs none none) (.prim .len (.cons (.loc 1) .nil)) []=.ok (.d (.int ((zb cs).length:Int))) []:=yc rfl rfl (y9 rfl h.line)
  rw[wa,ji,zv,this,zv]
  have:=h.le
  exact jc (by rw[zp];omega)
 have ef:evS (PG (k+2) false) (.for_ (.name 2) (.range (.int 0) (.prim .len (.cons (.loc 1) .nil))) outB) (R36 m cs none none) []=zu (.plain ((cs.zipIdx 0).map fun p=>.int (p.2:Int))) (ya (PG (k+2) false) (.name 2) outB) ((cs.zipIdx 0).map fun p=>.int (p.2:Int)) (R36 m cs none none) []:=by
  rw[kw,if_neg Bool.false_ne_true,hI,er]
  rfl
 rcases zom (k:=k) (zs:=(cs.zipIdx 0).map fun p=>.int (p.2:Int)) hm h cs 0 none none rfl List.Pairwise.nil with ⟨hp,a',b',h1⟩ | ⟨hp,ρ',h1⟩
 ·exact .inl ⟨hp,zh (fn:=c36) rfl ⟨rfl,by decide⟩ rfl ((zc (ef.trans h1)).trans (zd (zz rfl)))⟩
 ·exact .inr ⟨hp,zh (fn:=c36) rfl ⟨rfl,by decide⟩ rfl (zd (ef.trans h1))⟩
theorem ziq(hn:n≤3):zg P table (k+1) false 37 [.d (.int n)] []=.ok (.d (.int ((3 ^ n:Nat):Int))) []:=by
 have:[0,1,2,3].map (fun n:Nat=>zg P table (k+1) false 37 [.d (.int n)] [])=[0,1,2,3].map fun n:Nat=>.ok (.d (.int ((3 ^ n:Nat):Int))) []:=by kernel_rfl
 refine jx this ?_
 have:n=0∨n=1∨n=2∨n=3:=by omega
 rcases this with rfl | rfl | rfl | rfl <;> decide
theorem zjs{ws:List Wg}:∀ {n:Nat} {cs:Cs},solv ws n cs=true→2≤cs.length→∃ k,n=k+1∧∃ w∈ws,(∀ o∈outs,ze w o cs≠cs)∧∀ o∈outs,ze w o cs=[]∨solv ws k (ze w o cs)=true
 | 0,cs,h,hl=>by have:=beq_iff_eq.mp h;omega
 | n+1,cs,h,hl=>by
   rcases solv_succ.mp h with h | ⟨_,w,hw,h⟩
   ·omega
   by_cases hp:∃ o∈outs,ze w o cs=cs
   ·obtain⟨o,ho,e⟩:=hp
    rcases h o ho with h | h
    ·rw[e] at h;rw[h] at hl;exact absurd hl (by decide)
    ·rw[e] at h
     obtain⟨k,rfl,w',hw',h1,h2⟩:=zjs h hl
     exact⟨k+1,rfl,w',hw',h1,fun o ho=>(h2 o ho).imp id w9⟩
   ·exact⟨n,rfl,w,hw,fun o ho e=>hp ⟨o,ho,e⟩,h⟩
noncomputable def fitB(m n:Nat)(cs:Cs)(w:Wg):Bool:=(!decide (cs∈outs.map fun o=>ze w o cs)) && outs.all fun o=>(ze w o cs).isEmpty || solv (dueI m) n (ze w o cs)
theorem zne(h2:2≤cs.length):solv (dueI m) (n+1) cs=(dueI m).any (fitB m n cs):=by
 refine Bool.eq_iff_iff.mpr ⟨fun h=>?_,fun h=>?_⟩
 ·obtain⟨k,e,w,hw,h1,h3⟩:=zjs h h2
  cases e
  refine List.any_eq_true.mpr ⟨w,hw,?_⟩
  unfold fitB
  rw[Bool.and_eq_true,Bool.not_eq_true',decide_eq_false_iff_not,List.all_eq_true]
  refine⟨fun hm=>?_,fun o ho=>?_⟩
  ·obtain⟨o,ho,e⟩:=List.mem_map.mp hm
   exact h1 o ho e
  ·rw[Bool.or_eq_true,List.isEmpty_iff];exact h3 o ho
 ·obtain⟨w,hw,h⟩:=List.any_eq_true.mp h
  unfold fitB at h
  rw[Bool.and_eq_true,List.all_eq_true] at h
  refine k7 hw fun o ho=>?_
  have:=h.2 o ho
  rwa [Bool.or_eq_true,List.isEmpty_iff] at this
noncomputable abbrev RG(m n:Nat)(cs:Cs)(a b:Option V):Loc:=[some (.d (.list (due m))),some (.d (.list (zb cs))),some (.d (.int (n:Int))),a,b,none,none,none]
noncomputable def zd8:CSs:=(.cons (.asg (.name 4) (.comp (.comp (.loc 6) (.name 6) (.e (.loc 1)) (.cons (.cmp .eq (.call 29 (.cons (.loc 3) (.cons (.loc 6) .nil))) (.loc 5)) .nil)) (.name 5) (.e (.list (.cons (.neg (.int 1)) (.cons (.int 0) (.cons (.int 1) .nil))))) .nil)) (.cons (.ife (.and_ (.cmp .notin (.loc 1) (.loc 4)) (.prim .all (.cons (.comp (.call 38 (.cons (.loc 0) (.cons (.loc 7) (.cons (.bin .sub (.loc 2) (.int 1)) .nil)))) (.name 7) (.e (.loc 4)) .nil) .nil))) (.cons (.ret (.bool true)) .nil) .nil) .nil))
noncomputable def unL:PyData→Cs
 | .list xs=>xs.map unC
 | _=>[]
theorem zay(cs:Cs):unL (.list (zb cs))=cs:=by
 show (cs.map caseD).map unC=cs
 rw[List.map_map]
 exact (List.map_congr_left fun c _=>xw c).trans (List.map_id cs)
theorem zi5{l:List Cs}:((l.map fun c=>PyData.list (zb c)).any fun y=>PyData.eqv y (.list (zb cs)))=decide (cs∈l):=by
 rw[Bool.eq_iff_iff,List.any_map,List.any_eq_true,decide_eq_true_eq]
 constructor
 ·rintro⟨c,hc,h⟩
  have h:PyData.eqvAll (zb c) (zb cs)=true:=h
  rw[xl,decide_eq_true_eq] at h
  exact h ▸ hc
 ·intro h
  exact⟨cs,h,by show PyData.eqvAll (zb cs) (zb cs)=true;rw[xl,decide_eq_true rfl]⟩
theorem zbd:∀ l:List Cs,PyData.canLayAll0 (l.map fun c=>PyData.list (zb c))=true
 | []=>rfl
 | c::l=>by
   show (PyData.canLayAll0 (zb c) && PyData.canLayAll0 (l.map fun c=>PyData.list (zb c)))=true
   rw[xq,zbd l];rfl
theorem zdp{l:List Cs}{O:za}:cmpV .notin (.d (.list (zb cs))) (.d (.list (l.map fun c=>PyData.list (zb c)))) O=.ok (.d (.bool !decide (cs∈l))) O:=by
 have e:inD (.list (zb cs)) (l.map fun c=>PyData.list (zb c))=some (decide (cs∈l)):=by
  unfold inD
  rw[zi5,if_pos]
  rw[show (PyData.list (zb cs)).canLay0=true from xq cs,zbd,decide_eq_true (Nat.le_trans (Lay.list (kh cs)).depth (by decide))];rfl
 show opt (((inD (.list (zb cs)) (l.map fun c=>PyData.list (zb c))).map (!·)).map fun b=>V.d (.bool b)) _=_
 rw[e];rfl
theorem zpe(hm:m4 m)(h:Ok12 m cs){w:Wg}(hw:w∈dueI m)(ih:∀ {cs:Cs},Ok12 m cs→zg P table (k+1) false 38 [.d (.list (due m)),.d (.list (zb cs)),.d (.int (n:Int))] []=.ok (.d (.bool (cs.isEmpty || solv (dueI m) n cs))) []){a b:Option V} :
 ya (PG (k+1) false) (.name 3) zd8 (wD w) (RG m (n+1) cs a b) []=.ok (if fitB m n cs w then .ret (.d (.bool true)) else .next) (RG m (n+1) cs (some (.d (wD w))) (some (.d (.list ((outs.map fun o=>ze w o cs).map fun c=>.list (zb c))))),[]):=by
 have hw':w∈wsI m:=List.mem_flatMap.mpr ⟨w,hw,.head _⟩
 have e1:evE (PG (k+1) false) (RG m (n+1) cs (some (.d (wD w))) b) (.comp (.comp (.loc 6) (.name 6) (.e (.loc 1)) (.cons (.cmp .eq (.call 29 (.cons (.loc 3) (.cons (.loc 6) .nil))) (.loc 5)) .nil)) (.name 5) (.e (.list (.cons (.neg (.int 1)) (.cons (.int 0) (.cons (.int 1) .nil))))) .nil) []=.ok (.d (.list ((outs.map fun o=>ze w o cs).map fun c=>.list (zb c)))) []:=by
  refine (zbz (P:=PG (k+1) false) (src:=.plain [.int (-1),.int 0,.int 1]) (tgt:=.name 5) rfl rfl rfl (by decide) (fun x=>.list (zb (ze w (toI x) cs))) fun x hx=>?_).trans rfl
  refine⟨[some (.d (.list (due m))),some (.d (.list (zb cs))),some (.d (.int ((n+1:Nat):Int))),some (.d (wD w)),b,some (.d x),none,none],rfl,?_⟩
  obtain⟨o,rfl⟩ : ∃ o,x=.int o:=by
   rcases List.mem_cons.mp hx with rfl | hx
   ·exact⟨_,rfl⟩
   rcases List.mem_cons.mp hx with rfl | hx
   ·exact⟨_,rfl⟩
   ·exact⟨_,List.mem_singleton.mp hx⟩
  exact zgh (k:=k+1) (a:=6) (b:=1) (w:=w) (o:=o) (wx:=.loc 3) (ox:=.loc 5) (O:=[]) h (zcn hm hw') rfl rfl (fun _=>rfl) fun _=>rfl
 have hnum:((n+1:Nat):Int) - 1=(n:Int):=by omega
 have e2:evE (PG (k+1) false) (RG m (n+1) cs (some (.d (wD w))) (some (.d (.list ((outs.map fun o=>ze w o cs).map fun c=>.list (zb c)))))) (.prim .all (.cons (.comp (.call 38 (.cons (.loc 0) (.cons (.loc 7) (.cons (.bin .sub (.loc 2) (.int 1)) .nil)))) (.name 7) (.e (.loc 4)) .nil) .nil)) []=.ok (.d (.bool (outs.all fun o=>(ze w o cs).isEmpty || solv (dueI m) n (ze w o cs)))) []:=by
  refine (wb (P:=PG (k+1) false) (src:=.plain ((outs.map fun o=>ze w o cs).map fun c=>.list (zb c))) (tgt:=.name 7) (fun x=>(unL x).isEmpty || solv (dueI m) n (unL x)) rfl rfl rfl rfl (by show 3≤1000000;decide) fun x hx=>?_).trans ?_
  ·obtain⟨c,hc,rfl⟩:=List.mem_map.mp hx
   obtain⟨o,_,rfl⟩:=List.mem_map.mp hc
   refine⟨[some (.d (.list (due m))),some (.d (.list (zb cs))),some (.d (.int ((n+1:Nat):Int))),some (.d (wD w)),some (.d (.list ((outs.map fun o=>ze w o cs).map fun c=>.list (zb c)))),none,none,some (.d (.list (zb (ze w o cs))))],rfl,?_⟩
   rw[zay]
   refine zi (zo rfl (zo rfl (zo (yb rfl rfl vi) rfl))) ?_
   rw[hnum];exact ih (h.part w o)
  ·show R.ok (V.d (.bool (((outs.map fun o=>ze w o cs).map fun c=>PyData.list (zb c)).all fun x=>(unL x).isEmpty || solv (dueI m) n (unL x)))) []=_
   rw[List.all_map,List.all_map]
   congr 3
   congr 1
   funext o
   show ((unL (.list (zb (ze w o cs)))).isEmpty || solv (dueI m) n (unL (.list (zb (ze w o cs)))))=_
   rw[zay]
 have et:evE (PG (k+1) false) (RG m (n+1) cs (some (.d (wD w))) (some (.d (.list ((outs.map fun o=>ze w o cs).map fun c=>.list (zb c)))))) (.and_ (.cmp .notin (.loc 1) (.loc 4)) (.prim .all (.cons (.comp (.call 38 (.cons (.loc 0) (.cons (.loc 7) (.cons (.bin .sub (.loc 2) (.int 1)) .nil)))) (.name 7) (.e (.loc 4)) .nil) .nil))) []=.ok (.d (.bool (fitB m n cs w))) []:=by
  refine (w_and (zq rfl rfl zdp)).trans ?_
  unfold fitB
  cases (!decide (cs∈outs.map fun o=>ze w o cs)) with
  | true=>exact e2
  | false=>rfl
 show evSs (PG (k+1) false) zd8 (RG m (n+1) cs (some (.d (wD w))) b) []=_
 refine (zc (z5 e1 rfl rfl)).trans ?_
 cases hb:fitB m n cs w with
 | true=>rw[hb] at et;exact zd ((w_if et).trans ((if_pos rfl).trans (zd (zz rfl))))
 | false=>rw[hb] at et;exact (zc (zw et)).trans rfl
theorem zke(hm:m4 m)(h:Ok12 m cs)(ih:∀ {cs:Cs},Ok12 m cs→zg P table (k+1) false 38 [.d (.list (due m)),.d (.list (zb cs)),.d (.int (n:Int))] []=.ok (.d (.bool (cs.isEmpty || solv (dueI m) n cs))) []){zs:List PyData}:∀ (ws:List Wg) (a b:Option V),(∀ w∈ws,w∈dueI m) →
 ∃ ρ',zu (.plain zs) (ya (PG (k+1) false) (.name 3) zd8) (ws.map fun p=>wOf p.1 p.2) (RG m (n+1) cs a b) []=.ok (if ws.any (fitB m n cs) then .ret (.d (.bool true)) else .next) (ρ',[])
 | [],a,b,_=>⟨_,rfl⟩
 | w::ws,a,b,hw=>by
   have ht:=zpe (a:=a) (b:=b) hm h (hw w (.head _)) ih
   rw[List.any_cons]
   cases hb:fitB m n cs w with
   | true=>rw[hb] at ht;exact⟨_,jr ht⟩
   | false=>
     rw[hb] at ht
     obtain⟨ρ',e⟩:=zke hm h ih (zs:=zs) ws _ _ fun v hv=>hw v (.tail _ hv)
     exact⟨ρ',(y7 ht).trans e⟩
theorem zbm(hm:m4 m)(hn:n≤3)(h:Ok12 m cs)(ih:∀ n',n=n' + 1→∀ {cs:Cs},Ok12 m cs→zg P table (k+n' + 2) false 38 [.d (.list (due m)),.d (.list (zb cs)),.d (.int (n':Int))] []=.ok (.d (.bool (cs.isEmpty || solv (dueI m) n' cs))) []):zg P table (k+n+2) false 38 [.d (.list (due m)),.d (.list (zb cs)),.d (.int (n:Int))] []=.ok (.d (.bool (cs.isEmpty || solv (dueI m) n cs))) []:=by
 have e1:∀ {k:Nat},evE (PG k false) (RG m n cs none none) (.cmp .lt (.prim .len (.cons (.loc 1) .nil)) (.int 2)) []=.ok (.d (.bool (decide ((cs.length:Int) < 2)))) []:=by
  intro k
  refine zq (yc rfl rfl (y9 rfl h.line)) rfl (v_lt.trans ?_)
  rw[zp]
 by_cases h2:cs.length < 2
 ·rw[decide_eq_true (by omega)] at e1
  have hs:(cs.isEmpty || solv (dueI m) n cs)=true:=by
   cases cs with
   | nil=>rfl
   | cons c l=>rw[xk (by rw[List.length_cons] at h2 ⊢;omega)];rfl
  rw[hs]
  exact zh (fn:=c38) (ρ':=RG m n cs none none) rfl ⟨rfl,by decide⟩ rfl (zd ((w_if e1).trans ((if_pos rfl).trans (zd (zz rfl)))))
 rw[decide_eq_false (by omega)] at e1
 have hne:cs.isEmpty=false:=by cases cs with | nil=>exact absurd (by decide) h2 | cons _ _=>rfl
 rw[hne,Bool.false_or]
 have e3:∀ {k:Nat},evE (PG (k+1) false) (RG m n cs none none) (.cmp .gt (.prim .len (.cons (.loc 1) .nil)) (.call 37 (.cons (.loc 2) .nil))) []=.ok (.d (.bool (decide ((cs.length:Int) > ((3 ^ n:Nat):Int))))) []:=by
  intro k
  refine zq (yc rfl rfl (y9 rfl h.line)) (zi rfl (ziq hn)) (v_gt.trans ?_)
  rw[zp]
 by_cases h3:3 ^ n < cs.length
 ·rw[show solv (dueI m) n cs=false from Bool.eq_false_iff.mpr fun e=>Nat.not_lt.mpr (wg e) h3]
  rw[decide_eq_true (Int.ofNat_lt.mpr h3)] at e3
  have eo:evE (PG (k+n+1) false) (RG m n cs none none) (.or_ (.cmp .eq (.loc 2) (.int 0)) (.cmp .gt (.prim .len (.cons (.loc 1) .nil)) (.call 37 (.cons (.loc 2) .nil)))) []=.ok (.d (.bool true)) []:=by
   refine (w_or (zq rfl rfl eq_int)).trans ?_
   cases decide ((n:Int)=0) with
   | true=>rfl
   | false=>exact e3
  exact zh (fn:=c38) (ρ':=RG m n cs none none) rfl ⟨rfl,by decide⟩ rfl ((zc (zw e1)).trans (zd ((w_if eo).trans ((if_pos rfl).trans (zd (zz rfl))))))
 rw[decide_eq_false (fun q=>h3 (Int.ofNat_lt.mp q))] at e3
 cases n with
 | zero=>exact absurd (Nat.lt_of_not_le h2) (by rw[Nat.pow_zero] at h3;omega)
 | succ n=>
   have eo:evE (PG (k+n+2) false) (RG m (n+1) cs none none) (.or_ (.cmp .eq (.loc 2) (.int 0)) (.cmp .gt (.prim .len (.cons (.loc 1) .nil)) (.call 37 (.cons (.loc 2) .nil)))) []=.ok (.d (.bool false)) []:=xi ((zq rfl rfl eq_int).trans (by rw[decide_eq_false (by omega)])) e3
   have ef:evS (PG (k+n+2) false) (.for_ (.name 3) (.e (.loc 0)) zd8) (RG m (n+1) cs none none) []=zu (.plain (due m)) (ya (PG (k+n+2) false) (.name 3) zd8) ((dueI m).map fun p=>wOf p.1 p.2) (RG m (n+1) cs none none) []:=by
    rw[kw,if_neg Bool.false_ne_true]
    rfl
   obtain⟨ρ',e⟩:=zke (k:=k+n+1) (zs:=due m) hm h (ih n rfl) (dueI m) none none fun _ h=>h
   rw[zne (by omega)]
   cases hb:(dueI m).any (fitB m n cs) with
   | true=>rw[hb] at e;exact zh (fn:=c38) rfl ⟨rfl,by decide⟩ rfl ((zc (zw e1)).trans ((zc (zw eo)).trans (zd (ef.trans e))))
   | false=>rw[hb] at e;exact zh (fn:=c38) rfl ⟨rfl,by decide⟩ rfl ((zc (zw e1)).trans ((zc (zw eo)).trans ((zc (ef.trans e)).trans (zd (zz rfl)))))
theorem zlc(hm:m4 m):∀ {n:Nat} {cs:Cs},n≤3→Ok12 m cs→zg P table (k+n+2) false 38 [.d (.list (due m)),.d (.list (zb cs)),.d (.int (n:Int))] []=.ok (.d (.bool (cs.isEmpty || solv (dueI m) n cs))) []
 | 0,cs,hn,h=>zbm hm hn h fun _ e=>nomatch e
 | n+1,cs,hn,h=>zbm hm hn h fun n' e=>by cases e;exact fun h=>zlc hm (by omega) h
end
theorem Found.take{m:Nat}{cs:Cs}(f:Found m cs):Found m (cs.take 4):=⟨fun c hc=>f.good c (List.mem_of_mem_take hc),f.nodup.sublist (List.take_sublist _ _),by have:=f.pos;rw[List.length_take];omega,Nat.le_trans (List.length_take_le' _ _) f.le⟩
theorem Found.open_{m:Nat}{cs:Cs}{ds:List Dn}(f:Found m cs)(h:yv cs ds≠[]):Found m (yv cs ds):=⟨fun c hc=>f.good c (List.mem_filter.mp hc).1,f.nodup.sublist List.filter_sublist,List.length_pos_iff.mpr h,Nat.le_trans (List.length_filter_le _ _) f.le⟩
theorem v7{cs:Cs}{q:Nat}{ρ:Loc}{O:za}{a:CE}(h:cs.length≤12)(ha:evE (PG q false) ρ a O=.ok (.d (.list (zb cs))) O):evE (PG q false) ρ (.prim .list (.cons a .nil)) O=.ok (.d (.list (zb cs))) O:=
 yc rfl ha (kg (x:=.list (zb cs)) rfl (if_pos (by rw[zp];exact Nat.le_trans h (by decide))))
section
variable{m k n:Nat}{cs so:Cs}{ds:List Dn}{s:List Int}
noncomputable abbrev RK(s:List Int)(m:Nat)(cs:Cs)(ds:List Dn)(so:Cs)(x:PyData)(a b c d:Option V):Loc:=[some (.d (.list (s.map .int))),some (.d (.int m)),some (.d (.list (zb cs))),some (.d (.list (dnsD ds))),some (.d (.list (zb so))),some (.d (.list (due m))),some (.d x),a,b,c,d]
noncomputable def fitT(k:Nat)(ρ:Loc)(O:za):R (Loc×za) Bool:=((evE (PG k false) ρ (.nt (.call 38 (.cons (.loc 5) (.cons (.loc 4) (.cons (.loc 7) .nil))))) O).bind fun v O=>opt (truth v) O).lift ρ
theorem zd9{x:PyData}{b c d:Option V}{j:Nat}(hm:m4 m)(hj:j≤3)(h:Ok12 m so)(hne:so≠[]):fitT (k+13) (RK s m cs ds so x (some (.d (.int (j:Int)))) b c d) []=.ok (!solv (dueI m) j so) (RK s m cs ds so x (some (.d (.int (j:Int)))) b c d,[]):=by
 have e:=zlc (k:=k+11 - j) hm hj h
 rw[show k+11 - j+j+2=k+13 by omega,show so.isEmpty=false from Bool.eq_false_iff.mpr fun h=>hne (List.isEmpty_iff.mp h),Bool.false_or] at e
 have e:evE (PG (k+13) false) (RK s m cs ds so x (some (.d (.int (j:Int)))) b c d) (.nt (.call 38 (.cons (.loc 5) (.cons (.loc 4) (.cons (.loc 7) .nil))))) []=.ok (.d (.bool (!solv (dueI m) j so))) []:=w_nt (zi rfl e)
 unfold fitT
 rw[e];rfl
noncomputable def dueB:CSs:=(.cons (.asg (.name 7) (.bin .add (.loc 7) (.int 1))) .nil)
theorem zon{x:PyData}{b c d:Option V}(hm:m4 m)(h:Ok12 m so)(hne:so≠[]){N:Nat}(hN:N≤3)(hL:Least (dueI m) N so):∀ (r t j:Nat),N=j+r→r < t →
 yx (fitT (k+13)) (fun ρ O=>evSs (PG (k+13) false) dueB ρ O) t (RK s m cs ds so x (some (.d (.int (j:Int)))) b c d) []=.ok .next (RK s m cs ds so x (some (.d (.int (N:Int)))) b c d,[])
 | 0,0,_,_,h=>absurd h (Nat.lt_irrefl _)
 | 0,t+1,j,e,_=>by
   have e:N=j:=e
   subst e
   rw[yx,zd9 hm hN h hne,hL.yes]
   rfl
 | r+1,0,_,_,h=>absurd h (Nat.not_lt_zero _)
 | r+1,t+1,j,e,ht=>by
   have hb:evSs (PG (k+13) false) dueB (RK s m cs ds so x (some (.d (.int (j:Int)))) b c d) []=.ok .next (RK s m cs ds so x (some (.d (.int ((j+1:Nat):Int)))) b c d,[]):=(zc (z5 (yb rfl rfl wt) rfl rfl)).trans rfl
   rw[yx,zd9 hm (by omega) h hne,hL.no j (by omega)]
   exact (zgu hb).trans (zon hm h hne hN hL r t (j+1) (by omega) (by omega))
theorem zla{p:Pl}(hm:m4 m)(h4:m≤4)(f:Found m so)(hp:p.fits m so)(hh:p.hgt≤3):zg P table (k+13) false 24 [.d (.int m),.d (.list (zb so)),.d p.toD] []=.ok (.d (.bool true)) []:=by
 have e:=va hm h4 p so hp ⟨f.good,f.le⟩ (List.length_pos_iff.mp f.pos) (k+8 - p.hgt)
 rw[show k+8 - p.hgt+p.hgt+4=k+12 by omega] at e
 exact zh (fn:=c24) (ρ':=[some (.d (.int m)),some (.d (.list (zb so))),some (.d p.toD)]) rfl ⟨rfl,by decide⟩ rfl ((zc (x8 (zi rfl (zgj (k:=k+9) hm f (.d _))))).trans (zd (zz (zi rfl e))))
noncomputable def endP:CSs:=(.cons (.ife (.or_ (.cmp .ne (.loc 8) (.str (Str.ofString "plan"))) (.or_ (.cmp .ne (.call 25 (.cons (.loc 9) .nil)) (.loc 7)) (.cmp .isnot (.call 24 (.cons (.loc 1) (.cons (.prim .list (.cons (.loc 4) .nil)) (.cons (.loc 9) .nil)))) (.bool true)))) (.cons (.ret (.bool false)) .nil) .nil) (.cons (.ife (.cmp .eq (.loc 7) (.int 0)) (.cons (.ret (.cmp .is (.loc 10) .none)) .nil) .nil) (.cons (.ret (.and_ (.cmp .is (.call 12 (.cons (.loc 1) (.cons (.prim .list (.cons (.loc 4) .nil)) (.cons (.bin .sub (.loc 7) (.int 1)) (.cons (.loc 10) .nil))))) (.bool true)) (.cmp .is (.call 12 (.cons (.loc 1) (.cons (.prim .list (.cons (.loc 4) .nil)) (.cons (.loc 7) (.cons (.loc 10) .nil))))) (.bool false)))) .nil)))
noncomputable abbrev sP:Str:=Str.ofString "plan"
theorem n_PP{O:za}:cmpV .ne (.d (.str sP)) (.d (.str sP)) O=.ok (.d (.bool false)) O:=by kernel_rfl
theorem zq0{x h:PyData}{p:Pl}(hm:m4 m)(h4:m≤4)(f:Found m so)(hn:n≤3)(hL:Least (dueI m) n so)(hp:p.fits m so)(hh:p.hgt=n)(hd:Held m so n h) :
 evSs (PG (k+13) false) endP (RK s m cs ds so x (some (.d (.int (n:Int)))) (some (.d (.str sP))) (some (.d p.toD)) (some (.d h))) []=.ok (.ret (.d (.bool true))) (RK s m cs ds so x (some (.d (.int (n:Int)))) (some (.d (.str sP))) (some (.d p.toD)) (some (.d h)),[]):=by
 have hne:so≠[]:=List.length_pos_iff.mp f.pos
 have el:=zhj p so hp hne (k+12 - p.hgt)
 rw[show k+12 - p.hgt+p.hgt+1=k+13 by omega,hh] at el
 have ep:=zla (k:=k) hm h4 f hp (by omega)
 have ec:evE (PG (k+13) false) (RK s m cs ds so x (some (.d (.int (n:Int)))) (some (.d (.str sP))) (some (.d p.toD)) (some (.d h))) (.prim .list (.cons (.loc 4) .nil)) []=.ok (.d (.list (zb so))) []:=v7 f.le rfl
 have e1:evE (PG (k+13) false) (RK s m cs ds so x (some (.d (.int (n:Int)))) (some (.d (.str sP))) (some (.d p.toD)) (some (.d h))) (.cmp .ne (.call 25 (.cons (.loc 9) .nil)) (.loc 7)) []=.ok (.d (.bool false)) []:=(zq (zi rfl el) rfl ne_int).trans (by rw[decide_eq_true rfl];rfl)
 have e2:evE (PG (k+13) false) (RK s m cs ds so x (some (.d (.int (n:Int)))) (some (.d (.str sP))) (some (.d p.toD)) (some (.d h))) (.cmp .isnot (.call 24 (.cons (.loc 1) (.cons (.prim .list (.cons (.loc 4) .nil)) (.cons (.loc 9) .nil)))) (.bool true)) []=.ok (.d (.bool false)) []:=zq (zi (zo rfl (zo ec rfl)) ep) rfl rfl
 refine (zc (zw (xi (zq rfl rfl n_PP) (xi e1 e2)))).trans ?_
 cases n with
 | zero=>
   have hd:h=.none:=hd
   subst hd
   exact zd ((w_if (zq rfl rfl rfl)).trans ((if_pos rfl).trans (zd (zz (zq rfl rfl rfl)))))
 | succ n=>
   have hd:Hd m n so h:=hd
   have hnum:((n+1:Nat):Int) - 1=(n:Int):=by omega
   obtain⟨b1,q1,_,y1⟩:=zeh (k:=k+7) (n':=n) hm h4 f (by omega) (by omega) hd
   rw[y1 rfl rfl] at q1
   obtain⟨b2,q2,n2,_⟩:=zeh (k:=k+7) (n':=n+1) hm h4 f (by omega) (by omega) hd
   have hb2:b2=false:=Bool.eq_false_iff.mpr fun hb=>by have:=(n2 hb).2;rw[hL.yes] at this;cases this
   rw[hb2] at q2
   have c1:evE (PG (k+13) false) (RK s m cs ds so x (some (.d (.int ((n+1:Nat):Int)))) (some (.d (.str sP))) (some (.d p.toD)) (some (.d h))) (.call 12 (.cons (.loc 1) (.cons (.prim .list (.cons (.loc 4) .nil)) (.cons (.bin .sub (.loc 7) (.int 1)) (.cons (.loc 10) .nil))))) []=.ok (.d (.bool true)) []:=
    zi (zo rfl (zo ec (zo (yb rfl rfl vi) rfl))) (by rw[hnum];exact q1)
   have c2:evE (PG (k+13) false) (RK s m cs ds so x (some (.d (.int ((n+1:Nat):Int)))) (some (.d (.str sP))) (some (.d p.toD)) (some (.d h))) (.call 12 (.cons (.loc 1) (.cons (.prim .list (.cons (.loc 4) .nil)) (.cons (.loc 7) (.cons (.loc 10) .nil))))) []=.ok (.d (.bool false)) []:=
    zi (zo rfl (zo ec rfl)) q2
   have e0:evE (PG (k+13) false) (RK s m cs ds so x (some (.d (.int ((n+1:Nat):Int)))) (some (.d (.str sP))) (some (.d p.toD)) (some (.d h))) (.cmp .eq (.loc 7) (.int 0)) []=.ok (.d (.bool false)) []:=(zq rfl rfl eq_int).trans (by rw[decide_eq_false (by omega)])
   exact (zc (zw e0)).trans (zd (zz (kx (zq c1 rfl rfl) (zq c2 rfl rfl))))
noncomputable def zr0:CSs:=(.cons (.ife (.or_ (.cmp .eq (.loc 4) (.list .nil)) (.call 36 (.cons (.loc 5) (.cons (.loc 4) .nil)))) (.cons (.ret (.and_ (.cmp .is (.loc 6) .none) (.cmp .ne (.idx (.call 21 (.cons (.loc 1) (.cons (.prim .list (.cons (.loc 2) .nil)) (.cons (.prim .list (.cons (.loc 3) .nil)) .nil)))) (.int 0)) (.str (Str.ofString "plan"))))) .nil) .nil) (.cons (.asg (.name 7) (.int 0)) (.cons (.while_ (.nt (.call 38 (.cons (.loc 5) (.cons (.loc 4) (.cons (.loc 7) .nil))))) dueB) (.cons (.ife (.or_ (.nt (.call 28 (.cons (.loc 6) .nil))) (.cmp .ne (.loc 6) (.loc 7))) (.cons (.ret (.bool false)) .nil) .nil) (.cons (.asg3 8 9 10 (.call 21 (.cons (.loc 1) (.cons (.prim .list (.cons (.loc 2) .nil)) (.cons (.prim .list (.cons (.loc 3) .nil)) .nil))))) endP)))))
theorem Least.eq{ws:List Wg}{a b:Nat}(h1:Least ws a so)(h2:Least ws b so):a=b:=by
 rcases Nat.lt_trichotomy a b with h | h | h
 ·have:=h2.no a h;rw[h1.yes] at this;cases this
 ·exact h
 ·have:=h1.no b h;rw[h2.yes] at this;cases this
theorem zqx{x:PyData}(hm:m4 m)(h4:m≤4)(f:Found m cs)(hD:Dns m ds)(hf:Few m so)(hS:yv cs ds=so)(hx:zl4 m so x):∃ ρ',evSs (PG (k+13) false) zr0 (RK s m cs ds so x none none none none) []=.ok (.ret (.d (.bool true))) (ρ',[]):=by
 have hso:Ok12 m so:=hS ▸ Ok12.open_ f
 obtain⟨t,et,ht⟩:=zqu (k:=k) hm h4 f hD (by rw[hS];exact hf)
 rw[hS] at ht
 have eT:∀ {a b c d:Option V},evE (PG (k+13) false) (RK s m cs ds so x a b c d) (.call 21 (.cons (.loc 1) (.cons (.prim .list (.cons (.loc 2) .nil)) (.cons (.prim .list (.cons (.loc 3) .nil)) .nil)))) []=.ok (.d t) []:=fun {a b c d}=>
  zi (zo rfl (zo (v7 f.le rfl) (zo (yc rfl rfl (kg (x:=.list (dnsD ds)) rfl (if_pos (by rw[je];exact Nat.le_trans hD.le (by decide))))) rfl))) et
 have e0:evE (PG (k+13) false) (RK s m cs ds so x none none none none) (.cmp .eq (.loc 4) (.list .nil)) []=.ok (.d (.bool so.isEmpty)) []:=zct rfl
 have hor:(so≠[]∧Pw (dueI m) so∧evE (PG (k+13) false) (RK s m cs ds so x none none none none) (.or_ (.cmp .eq (.loc 4) (.list .nil)) (.call 36 (.cons (.loc 5) (.cons (.loc 4) .nil)))) []=.ok (.d (.bool false)) [])∨((so=[]∨¬ Pw (dueI m) so)∧evE (PG (k+13) false) (RK s m cs ds so x none none none none) (.or_ (.cmp .eq (.loc 4) (.list .nil)) (.call 36 (.cons (.loc 5) (.cons (.loc 4) .nil)))) []=.ok (.d (.bool true)) []):=by
  cases hem:so.isEmpty with
  | true=>rw[hem] at e0;exact .inr ⟨.inl (List.isEmpty_iff.mp hem),zoc e0⟩
  | false=>
    rw[hem] at e0
    have hne:so≠[]:=fun e=>by rw[e] at hem;cases hem
    rcases zgl (k:=k+10) hm hso with ⟨hp,e⟩ | ⟨hp,e⟩
    ·exact .inl ⟨hne,hp,xi e0 (zi rfl e)⟩
    ·exact .inr ⟨.inr hp,xi e0 (zi rfl e)⟩
 rcases hor with ⟨hne,hp,eo⟩ | ⟨hb,eo⟩
 ·have no:¬ (so=[]∨¬ Pw (dueI m) so):=fun h=>h.elim hne fun h=>h hp
  cases hx with
  | none h _=>exact (no h).elim
  | some n _ _ hl e=>
    subst e
    cases ht with
    | none h _=>exact (no h).elim
    | alike h _ _ _=>exact (no h).elim
    | plan n' _ hN _ hl' y h hy hh e=>
      obtain rfl:=hl.eq hl'
      subst e
      obtain⟨p,rfl,fit,le⟩:=hy
      have hpn:p.hgt=n:=Nat.le_antisymm le (Nat.le_of_not_lt fun hlt=>by have:=hl.no _ hlt;rw[Pl.solv p so fit hne] at this;cases this)
      have ew:evS (PG (k+13) false) (.while_ (.nt (.call 38 (.cons (.loc 5) (.cons (.loc 4) (.cons (.loc 7) .nil))))) dueB) (RK s m cs ds so (.int (n:Int)) (some (.d (.int ((0:Nat):Int)))) none none none) []=_:=zon (k:=k) hm hso hne hN hl n 200 0 (by omega) (by omega)
      have e5:evE (PG (k+13) false) (RK s m cs ds so (.int (n:Int)) (some (.d (.int (n:Int)))) none none none) (.cmp .ne (.loc 6) (.loc 7)) []=.ok (.d (.bool false)) []:=(zq rfl rfl ne_int).trans (by rw[decide_eq_true rfl];rfl)
      exact⟨_,(zc (zw eo)).trans ((zc (z5 rfl rfl rfl)).trans ((zc ew).trans ((zc (zw (xi (w_nt (bb:=true) (zi rfl (znh (k:=k+12)))) e5))).trans ((zc (zi9 rfl eT rfl)).trans (zq0 hm h4 (hS ▸ f.open_ (hS ▸ hne)) hN hl fit hpn hh)))))⟩
 ·cases hx with
  | some n hne hp _ _=>exact (hb.elim hne fun h=>h hp).elim
  | none _ e=>
    subst e
    cases ht with
    | plan n' hne _ hp _ _ _ _ _ _=>exact (hb.elim hne fun h=>h hp).elim
    | none _ e=>
      subst e
      exact⟨_,zd ((w_if eo).trans ((if_pos rfl).trans (zd (zz (kx (zq rfl rfl rfl) (zq (jj eT rfl rfl) rfl (by kernel_rfl)))))))⟩
    | alike _ a b e=>
      subst e
      exact⟨_,zd ((w_if eo).trans ((if_pos rfl).trans (zd (zz (kx (zq rfl rfl rfl) (zq (jj eT rfl rfl) rfl (by kernel_rfl)))))))⟩
theorem zs1{k:Nat}{s:List Int}(hs:s.length≤63):zg P table (k+14) false 39 [.d (.list (s.map .int))] []=.ok (.d (.bool true)) []:=by
 obtain⟨m,cs0,hm,h4,f0,e1⟩:=zk5 (k:=k+10) hs
 have hcs:∃ cs,Found m cs∧(m≤3∨cs.length≤4)∧evS (PG (k+13) false) (.ife (.cmp .eq (.loc 1) (.int 4)) (.cons (.asg (.name 2) (.slice (.loc 2) .none (.int 4))) .nil) .nil) [some (.d (.list (s.map .int))),some (.d (.int m)),some (.d (.list (zb cs0))),none,none,none,none,none,none,none,none] []=.ok .next ([some (.d (.list (s.map .int))),some (.d (.int m)),some (.d (.list (zb cs))),none,none,none,none,none,none,none,none],[]):=by
  have e:evE (PG (k+13) false) [some (.d (.list (s.map .int))),some (.d (.int m)),some (.d (.list (zb cs0))),none,none,none,none,none,none,none,none] (.cmp .eq (.loc 1) (.int 4)) []=.ok (.d (.bool (decide ((m:Int)=4)))) []:=zq rfl rfl eq_int
  by_cases h:m=4
  ·rw[decide_eq_true (by omega)] at e
   exact⟨cs0.take 4,f0.take,.inr (List.length_take_le _ _),(w_if e).trans ((if_pos rfl).trans ((zc (z5 (zde (i:=4) ⟨f0.good,f0.le⟩ rfl rfl) rfl rfl)).trans rfl))⟩
  ·rw[decide_eq_false (by omega)] at e
   exact⟨cs0,f0,.inl (by omega),zw e⟩
 obtain⟨cs,f,hf,e2⟩:=hcs
 obtain⟨ds,hd,hdl,e3⟩:=zq2 (k:=k+10) hs hm f
 have hD:Dns m ds:=⟨hd,Nat.le_trans hdl (by decide)⟩
 have e4:=znn (k:=k+11) (O:=[]) hm f hD
 have hfew:Few m (yv cs ds):=hf.imp id fun h=>Nat.le_trans (List.length_filter_le _ _) h
 obtain⟨x,e6,lr⟩:=znm (k:=k) hm h4 f hD hfew
 have ep:=zk6 (k:=k+12) hm
 have ed:∀ {ρ:Loc},evE (PG (k+13) false) ρ (.loc 3) []=.ok (.d (.list (dnsD ds))) []→evE (PG (k+13) false) ρ (.prim .list (.cons (.loc 3) .nil)) []=.ok (.d (.list (dnsD ds))) []:=fun h=>yc rfl h (kg (x:=.list (dnsD ds)) rfl (if_pos (by rw[je];exact Nat.le_trans hdl (by decide))))
 obtain⟨ρ',er⟩:=zqx (k:=k) (s:=s) hm h4 f hD hfew rfl lr
 refine zh (fn:=c39) rfl ⟨rfl,by decide⟩ rfl ((zc (gg rfl (zi rfl e1) rfl)).trans ((zc e2).trans ((zc (z5 (zi rfl e3) rfl rfl)).trans ((zc (z5 (zi rfl e4) rfl rfl)).trans ((zc (z5 (zi rfl ep) rfl rfl)).trans ((zc (z5 (zi (zo rfl (zo (v7 f.le rfl) (zo (ed rfl) rfl))) e6) rfl rfl)).trans er))))))
end
theorem holds:PySem.Challenge.rw_uf050003_07.Holds:=holds_of fun script h=>⟨_,zs1 (k:=47) h⟩
end Mine.L07
end
end
theorem PySem.Challenge.cw_uf050003_07_holds : PySem.Challenge.rw_uf050003_07.Holds :=
  Mine.L07.holds
