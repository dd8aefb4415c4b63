import PyProof.Rows.All
import PySem.SetOps
import PyProof.Raises
import PyProof.Calls
import PyProof.EvalArms
import PyProof.Rules2
import PyProof.Claim2
import PyProof.Lay0
import PyProof.Rows.Frame
import PyProof.FactsAll.tuple_2
import PyProof.FactsAll.subtypes_4
import PyProof.Rules3
import PyProof.ListIndex
import PyProof.CallStr
import PyProof.Cells
import PyProof.Claim2Refuses
import PyProof.ConsumeWalk
import PyProof.CompFree
import PyProof.PureInt
import PyProof.Conv_int_bool
import PyProof.DefCall
import PyProof.Dict
import PyProof.DictKind
import PyProof.DictKinds
import PyProof.DictStraight
import PyProof.TupleKey
import PyProof.DictRoadsH
import PyProof.EnumFor
import PyProof.EnumStmt
import PyProof.EnumMake
import PyProof.IsRules
import PyProof.P3Statements
import PyProof.EqLayable
import PyProof.ForAppend
import PyProof.WalksMore
import PyProof.RangeFor
import PyProof.IsiHeapPairs
import PyProof.IsiNone
import PyProof.IsiPairs
import PyProof.ListCopy
import PyProof.ListIndexNeg
import PyProof.ListRange
import PyProof.WalkInts
import PyProof.P3In
import PyProof.ReprRoads
import PyProof.Rows.Globals
import PyProof.Rows.News
import PyProof.Rows.Tup
import PyProof.Rows.TupIter
import PyProof.Rows.TupAssign
import PyProof.Rows.TupSub
import PyProof.Rows.SeqJoint
import PyProof.Rows.IntRules
import PyProof.Rows.ZipGen
import PyProof.WalksPairs
import PyProof.TupleCall
import PyProof.Rows.ListMade
import PyProof.Rows.Exc
import PyProof.Rows.RuleB_mul
import PyProof.Rows.RuleB_sub
import PyProof.Rows.RuleB_pow
import PyProof.Rows.RuleB_floordiv
import PyProof.Rows.RuleB_mod
import PyProof.StrBlock2
import PyProof.Rows.StrMul
import PyProof.Rows.StrTemp
import PyProof.Rows.RuleC_int
import PyProof.TupleOps
import PyProof.SeqI3
import PyProof.Rows.TupMore
import PyProof.SliceMore
import PyProof.Rows.StrRules
import PyProof.RulesDelMore
import PyProof.SumWalkG
import PyProof.Rows.TupAdd
import PyProof.TupleOfSeq
import PyProof.SetRoads
import PyProof.Rows.SetFrom
import PyProof.Rows.RotEnd
import KE.KUnpack
import KE.KMulAny
import KE.KRevSl
import KE.KSortTup
import Wide.FinOn
import OpenK.AllK
import Wide.All
import Lean
import PySem.Challenge.RW_uf050003_09
set_option Elab.async false
set_option genInjectivity false
set_option genSizeOf false
set_option linter.all false
set_option maxRecDepth 100000
set_option maxHeartbeats 8000000
namespace Mine
theorem ex1{A:Type _}{P:A→Prop}{X:Prop}(h:∃ x, P x)(k:∀ x, P x→X):X:=h.elim fun x h => k x h
theorem ex2{A B:Type _}{P:A→B→Prop}{X:Prop}(h:∃ x y, P x y)(k:∀ x y, P x y→X):X:=h.elim fun x h => ex1 h (k x)
theorem ex3{A B C:Type _}{P:A→B→C→Prop}{X:Prop}(h:∃ x y z, P x y z)(k:∀ x y z, P x y z→X):X:=h.elim fun x h => ex2 h (k x)
theorem ex4{A B C D:Type _}{P:A→B→C→D→Prop}{X:Prop}(h:∃ x y z u, P x y z u)(k:∀ x y z u, P x y z u→X):X:=h.elim fun x h => ex3 h (k x)
theorem el0_2{P0 P1:Prop}{X:Prop}(h:P0∧P1)(k:P0→P1→X):X:=k h.1 h.2
theorem el0_3{P0 P1 P2:Prop}{X:Prop}(h:P0∧P1∧P2)(k:P0→P1→P2→X):X:=k h.1 h.2.1 h.2.2
theorem el0_4{P0 P1 P2 P3:Prop}{X:Prop}(h:P0∧P1∧P2∧P3)(k:P0→P1→P2→P3→X):X:=k h.1 h.2.1 h.2.2.1 h.2.2.2
theorem el0_5{P0 P1 P2 P3 P4:Prop}{X:Prop}(h:P0∧P1∧P2∧P3∧P4)(k:P0→P1→P2→P3→P4→X):X:=k h.1 h.2.1 h.2.2.1 h.2.2.2.1 h.2.2.2.2
theorem el1_1{A:Type _}{P0:A→Prop}{X:Prop}(h:∃ x, P0 x)(k:∀ x, P0 x→X):X:=ex1 h k
theorem el1_2{A:Type _}{P0 P1:A→Prop}{X:Prop}(h:∃ x, P0 x∧P1 x)(k:∀ x, P0 x→P1 x→X):X:=ex1 h fun x h => el0_2 h (k x)
theorem el1_3{A:Type _}{P0 P1 P2:A→Prop}{X:Prop}(h:∃ x, P0 x∧P1 x∧P2 x)(k:∀ x, P0 x→P1 x→P2 x→X):X:=ex1 h fun x h => el0_3 h (k x)
theorem el2_1{A B:Type _}{P0:A→B→Prop}{X:Prop}(h:∃ x y, P0 x y)(k:∀ x y, P0 x y→X):X:=ex2 h k
theorem el2_2{A B:Type _}{P0 P1:A→B→Prop}{X:Prop}(h:∃ x y, P0 x y∧P1 x y)(k:∀ x y, P0 x y→P1 x y→X):X:=ex2 h fun x y h => el0_2 h (k x y)
theorem el2_3{A B:Type _}{P0 P1 P2:A→B→Prop}{X:Prop}(h:∃ x y, P0 x y∧P1 x y∧P2 x y)(k:∀ x y, P0 x y→P1 x y→P2 x y→X):X:=ex2 h fun x y h => el0_3 h (k x y)
theorem el2_4{A B:Type _}{P0 P1 P2 P3:A→B→Prop}{X:Prop}(h:∃ x y, P0 x y∧P1 x y∧P2 x y∧P3 x y)(k:∀ x y, P0 x y→P1 x y→P2 x y→P3 x y→X):X:=ex2 h fun x y h => el0_4 h (k x y)
theorem el2_5{A B:Type _}{P0 P1 P2 P3 P4:A→B→Prop}{X:Prop}(h:∃ x y, P0 x y∧P1 x y∧P2 x y∧P3 x y∧P4 x y)(k:∀ x y, P0 x y→P1 x y→P2 x y→P3 x y→P4 x y→X):X:=ex2 h fun x y h => el0_5 h (k x y)
theorem el3_2{A B C:Type _}{P0 P1:A→B→C→Prop}{X:Prop}(h:∃ x y z, P0 x y z∧P1 x y z)(k:∀ x y z, P0 x y z→P1 x y z→X):X:=ex3 h fun x y z h => el0_2 h (k x y z)
theorem el3_3{A B C:Type _}{P0 P1 P2:A→B→C→Prop}{X:Prop}(h:∃ x y z, P0 x y z∧P1 x y z∧P2 x y z)(k:∀ x y z, P0 x y z→P1 x y z→P2 x y z→X):X:=ex3 h fun x y z h => el0_3 h (k x y z)
theorem el3_4{A B C:Type _}{P0 P1 P2 P3:A→B→C→Prop}{X:Prop}(h:∃ x y z, P0 x y z∧P1 x y z∧P2 x y z∧P3 x y z)(k:∀ x y z, P0 x y z→P1 x y z→P2 x y z→P3 x y z→X):X:=ex3 h fun x y z h => el0_4 h (k x y z)
theorem el3_5{A B C:Type _}{P0 P1 P2 P3 P4:A→B→C→Prop}{X:Prop}(h:∃ x y z, P0 x y z∧P1 x y z∧P2 x y z∧P3 x y z∧P4 x y z)(k:∀ x y z, P0 x y z→P1 x y z→P2 x y z→P3 x y z→P4 x y z→X):X:=ex3 h fun x y z h => el0_5 h (k x y z)
theorem el4_2{A B C D:Type _}{P0 P1:A→B→C→D→Prop}{X:Prop}(h:∃ x y z u, P0 x y z u∧P1 x y z u)(k:∀ x y z u, P0 x y z u→P1 x y z u→X):X:=ex4 h fun x y z u h => el0_2 h (k x y z u)
theorem in1_1{A:Type _}{P0:A→Prop}(x:A)(h0:P0 x):∃ x, P0 x:=⟨x, h0⟩
theorem in1_2{A:Type _}{P0 P1:A→Prop}(x:A)(h0:P0 x)(h1:P1 x):∃ x, P0 x∧P1 x:=⟨x, h0, h1⟩
theorem in1_3{A:Type _}{P0 P1 P2:A→Prop}(x:A)(h0:P0 x)(h1:P1 x)(h2:P2 x):∃ x, P0 x∧P1 x∧P2 x:=⟨x, h0, h1, h2⟩
theorem in2_1{A B:Type _}{P0:A→B→Prop}(x:A)(y:B)(h0:P0 x y):∃ x y, P0 x y:=⟨x, y, h0⟩
theorem in2_2{A B:Type _}{P0 P1:A→B→Prop}(x:A)(y:B)(h0:P0 x y)(h1:P1 x y):∃ x y, P0 x y∧P1 x y:=⟨x, y, h0, h1⟩
theorem in2_3{A B:Type _}{P0 P1 P2:A→B→Prop}(x:A)(y:B)(h0:P0 x y)(h1:P1 x y)(h2:P2 x y):∃ x y, P0 x y∧P1 x y∧P2 x y:=⟨x, y, h0, h1, h2⟩
theorem in2_4{A B:Type _}{P0 P1 P2 P3:A→B→Prop}(x:A)(y:B)(h0:P0 x y)(h1:P1 x y)(h2:P2 x y)(h3:P3 x y):∃ x y, P0 x y∧P1 x y∧P2 x y∧P3 x y:=⟨x, y, h0, h1, h2, h3⟩
theorem in3_2{A B C:Type _}{P0 P1:A→B→C→Prop}(x:A)(y:B)(z:C)(h0:P0 x y z)(h1:P1 x y z):∃ x y z, P0 x y z∧P1 x y z:=⟨x, y, z, h0, h1⟩
theorem in3_3{A B C:Type _}{P0 P1 P2:A→B→C→Prop}(x:A)(y:B)(z:C)(h0:P0 x y z)(h1:P1 x y z)(h2:P2 x y z):∃ x y z, P0 x y z∧P1 x y z∧P2 x y z:=⟨x, y, z, h0, h1, h2⟩
theorem in3_4{A B C:Type _}{P0 P1 P2 P3:A→B→C→Prop}(x:A)(y:B)(z:C)(h0:P0 x y z)(h1:P1 x y z)(h2:P2 x y z)(h3:P3 x y z):∃ x y z, P0 x y z∧P1 x y z∧P2 x y z∧P3 x y z:=⟨x, y, z, h0, h1, h2, h3⟩
end Mine
local macro_rules
  | `(tactic| omega) => `(tactic| first | assumption | exact Nat.le_refl _ | exact Nat.zero_le _ | exact Nat.le_of_lt (by assumption) | exact Nat.lt_succ_self _ | exact Nat.le_succ _ | exact Nat.succ_pos _ | exact Nat.lt_of_lt_of_le (by assumption) (by assumption) | exact Nat.le_trans (by assumption) (by assumption) | exact Nat.lt_of_le_of_lt (by assumption) (by assumption) | exact Nat.lt_succ_of_le (by assumption) | exact Nat.le_of_lt_succ (by assumption) | exact Nat.lt_succ_of_lt (by assumption) | lia)
local macro_rules
  | `(tactic| cases $h:ident) => `(tactic| first | (exfalso; injection $h; done) | (injection $h with e1 e2; (first | subst e1 | cases e1); (first | subst e2 | cases e2)) | (injection $h with e1; (first | subst e1 | cases e1)) | cases ($h))
local macro_rules
  | `(tactic| obtain ⟨$ps,*⟩ := $t) => do
    let ps := ps.getElems
    let n := ps.size
    if n < 2 then Lean.Macro.throwUnsupported
    let mut k : Array (Lean.TSyntax `Lean.Parser.Tactic.tacticSeq) := #[]
    for j in [0:n-1] do
      let m := n - j
      if m == n || (2 < m && m < 9) then
        let mut xs : Array (Lean.TSyntax `term) := #[]
        let mut f : Array (Lean.TSyntax `tactic) := #[]
        for i in [0:m] do
          let y := Lean.mkIdent (Lean.Name.mkSimple s!"y_{i}")
          let p := ps[i]!
          if i == m - 1 && m < n then
            xs := xs.push y
            let r := ps.extract i n
            f := f.push (← `(tactic| obtain ⟨$r,*⟩ := $y:ident))
          else match p with
          | `(Lean.Parser.Tactic.rcasesPatLo| $x:ident) =>
            if x.getId == `rfl then
              xs := xs.push y
              f := f.push (← `(tactic| first | subst $y:ident | cases $y:ident))
            else xs := xs.push x
          | `(Lean.Parser.Tactic.rcasesPatLo| _) => xs := xs.push (← `(_))
          | `(Lean.Parser.Tactic.rcasesPatLo| ⟨$qs,*⟩) =>
            xs := xs.push y
            f := f.push (← `(tactic| obtain ⟨$qs,*⟩ := $y:ident))
          | _ =>
            xs := xs.push y
            f := f.push (← `(tactic| rcases $y:ident with $p))
        let mut g : Array (Lean.TSyntax `Lean.Parser.Tactic.tacticSeq) := #[]
        for a in [0:m] do
          let c := Lean.mkIdent (Lean.Name.mkSimple s!"el{a}_{m-a}")
          if t.raw.isIdent then g := g.push (← `(tacticSeq| refine $c $t ?_; clear $t)) else g := g.push (← `(tacticSeq| refine $c $t ?_))
        k := k.push (← `(tacticSeq| (first $[| $g]*); intro $xs*; $[$f]*))
    `(tactic| first $[| $k]* | rcases $t:term with ⟨$ps,*⟩)
local macro_rules
  | `(tactic| rcases $t:term with $a | $b) => do
    let g : Lean.TSyntax `tactic ← if t.raw.isIdent then `(tactic| (refine Or.elim $t ?_ ?_ <;> clear $t)) else `(tactic| refine Or.elim $t ?_ ?_)
    `(tactic| first | ($g; rotate_left; rintro ($b:rcasesPat); rotate_right; rintro ($a:rcasesPat)) | obtain $a | $b := $t)
local macro_rules
  | `(tactic| exact ⟨$ps,*⟩) => do
    let ps := ps.getElems
    let n := ps.size
    if n < 2 then Lean.Macro.throwUnsupported
    let mut g : Array (Lean.TSyntax `Lean.Parser.Tactic.tacticSeq) := #[]
    for a in [1:n] do
      g := g.push (← `(tacticSeq| exact $(Lean.mkIdent (Lean.Name.mkSimple s!"in{a}_{n-a}")) $ps*))
    `(tactic| first | (show Exists _; first $[| $g]*) | exact (⟨$ps,*⟩))
  | `(tactic| refine ⟨$ps,*⟩) => do
    let ps := ps.getElems
    let n := ps.size
    if n < 2 then Lean.Macro.throwUnsupported
    let mut g : Array (Lean.TSyntax `Lean.Parser.Tactic.tacticSeq) := #[]
    for a in [1:n] do
      g := g.push (← `(tacticSeq| refine $(Lean.mkIdent (Lean.Name.mkSimple s!"in{a}_{n-a}")) $ps*))
    `(tactic| first | (show Exists _; first $[| $g]*) | refine (⟨$ps,*⟩))
set_option bootstrap.genMatcherCode false
set_option tactic.hygienic false
section
section
namespace Mine.L09
open PySem PySem.W PySem.Calls PyProof.Rows
noncomputable def zr4:Params→Frag:=fun P=>[
 (3,PySem.Obj.mk (Value.type "dict") Option.none (PySem.Data.dict #[DictEntry.mk (PyData.keyHash P (Str.ofString "__name__")) (Value.str (Str.ofString "__name__") 165) (Value.str (Str.ofString "law_uf050003_09") 500),DictEntry.mk (PyData.keyHash P (Str.ofString "__doc__")) (Value.str (Str.ofString "__doc__") 166) Value.none,DictEntry.mk (PyData.keyHash P (Str.ofString "__package__")) (Value.str (Str.ofString "__package__") 167) Value.none,DictEntry.mk (PyData.keyHash P (Str.ofString "__loader__")) (Value.str (Str.ofString "__loader__") 168) (Value.builtin "__main__.__loader__#opaque"),DictEntry.mk (PyData.keyHash P (Str.ofString "__spec__")) (Value.str (Str.ofString "__spec__") 169) Value.none,DictEntry.mk (PyData.keyHash P (Str.ofString "__annotations__")) (Value.str (Str.ofString "__annotations__") 170) (Value.ref 6),DictEntry.mk (PyData.keyHash P (Str.ofString "__builtins__")) (Value.str (Str.ofString "__builtins__") 171) (Value.ref 4),DictEntry.mk (PyData.keyHash P (Str.ofString "__file__")) (Value.str (Str.ofString "__file__") 173) (Value.str (Str.ofString "/claim/cut.py") 172),DictEntry.mk (PyData.keyHash P (Str.ofString "__cached__")) (Value.str (Str.ofString "__cached__") 174) Value.none,DictEntry.mk (PyData.keyHash P (Str.ofString "PanError")) (Value.str (Str.ofString "PanError") 206) (Value.ref 24),DictEntry.mk (PyData.keyHash P (Str.ofString "BadCount")) (Value.str (Str.ofString "BadCount") 222) (Value.ref 37),DictEntry.mk (PyData.keyHash P (Str.ofString "BadCases")) (Value.str (Str.ofString "BadCases") 238) (Value.ref 49),DictEntry.mk (PyData.keyHash P (Str.ofString "BadDone")) (Value.str (Str.ofString "BadDone") 254) (Value.ref 61),DictEntry.mk (PyData.keyHash P (Str.ofString "LEAST_THINGS")) (Value.str (Str.ofString "LEAST_THINGS") 258) (Value.int 2 257),DictEntry.mk (PyData.keyHash P (Str.ofString "MOST_THINGS")) (Value.str (Str.ofString "MOST_THINGS") 260) (Value.int 5 259),DictEntry.mk (PyData.keyHash P (Str.ofString "MOST_CASES")) (Value.str (Str.ofString "MOST_CASES") 262) (Value.int 12 261),DictEntry.mk (PyData.keyHash P (Str.ofString "is_among")) (Value.str (Str.ofString "is_among") 271) (Value.ref 70),DictEntry.mk (PyData.keyHash P (Str.ofString "need_count")) (Value.str (Str.ofString "need_count") 278) (Value.ref 77),DictEntry.mk (PyData.keyHash P (Str.ofString "is_case")) (Value.str (Str.ofString "is_case") 284) (Value.ref 82),DictEntry.mk (PyData.keyHash P (Str.ofString "need_cases")) (Value.str (Str.ofString "need_cases") 290) (Value.ref 87),DictEntry.mk (PyData.keyHash P (Str.ofString "OUTCOMES")) (Value.str (Str.ofString "OUTCOMES") 297) (Value.ref 88),DictEntry.mk (PyData.keyHash P (Str.ofString "is_pan")) (Value.str (Str.ofString "is_pan") 303) (Value.ref 93),DictEntry.mk (PyData.keyHash P (Str.ofString "is_weighing")) (Value.str (Str.ofString "is_weighing") 309) (Value.ref 98),DictEntry.mk (PyData.keyHash P (Str.ofString "some_of")) (Value.str (Str.ofString "some_of") 315) (Value.ref 103),DictEntry.mk (PyData.keyHash P (Str.ofString "all_leading")) (Value.str (Str.ofString "all_leading") 326) (Value.ref 110),DictEntry.mk (PyData.keyHash P (Str.ofString "came")) (Value.str (Str.ofString "came") 332) (Value.ref 115),DictEntry.mk (PyData.keyHash P (Str.ofString "parted")) (Value.str (Str.ofString "parted") 338) (Value.ref 120),DictEntry.mk (PyData.keyHash P (Str.ofString "is_plan_for")) (Value.str (Str.ofString "is_plan_for") 351) (Value.ref 127),DictEntry.mk (PyData.keyHash P (Str.ofString "is_plan")) (Value.str (Str.ofString "is_plan") 360) (Value.ref 134),DictEntry.mk (PyData.keyHash P (Str.ofString "walked")) (Value.str (Str.ofString "walked") 371) (Value.ref 141),DictEntry.mk (PyData.keyHash P (Str.ofString "MOST_DONE")) (Value.str (Str.ofString "MOST_DONE") 375) (Value.int 20 374),DictEntry.mk (PyData.keyHash P (Str.ofString "is_done")) (Value.str (Str.ofString "is_done") 383) (Value.ref 148),DictEntry.mk (PyData.keyHash P (Str.ofString "still_open")) (Value.str (Str.ofString "still_open") 389) (Value.ref 153),DictEntry.mk (PyData.keyHash P (Str.ofString "threes")) (Value.str (Str.ofString "threes") 400) (Value.ref 160),DictEntry.mk (PyData.keyHash P (Str.ofString "are_alike")) (Value.str (Str.ofString "are_alike") 408) (Value.ref 165),DictEntry.mk (PyData.keyHash P (Str.ofString "alike_of")) (Value.str (Str.ofString "alike_of") 419) (Value.ref 172),DictEntry.mk (PyData.keyHash P (Str.ofString "tried")) (Value.str (Str.ofString "tried") 435) (Value.ref 179),DictEntry.mk (PyData.keyHash P (Str.ofString "by_each")) (Value.str (Str.ofString "by_each") 449) (Value.ref 186),DictEntry.mk (PyData.keyHash P (Str.ofString "looked")) (Value.str (Str.ofString "looked") 460) (Value.ref 193),DictEntry.mk (PyData.keyHash P (Str.ofString "found_for")) (Value.str (Str.ofString "found_for") 473) (Value.ref 200),DictEntry.mk (PyData.keyHash P (Str.ofString "told")) (Value.str (Str.ofString "told") 488) (Value.ref 207),DictEntry.mk (PyData.keyHash P (Str.ofString "least")) (Value.str (Str.ofString "least") 499) (Value.ref 214),DictEntry.mk (PyData.keyHash P (Str.ofString "_law_cell_at")) (Value.str (Str.ofString "_law_cell_at") 509) (Value.ref 221),DictEntry.mk (PyData.keyHash P (Str.ofString "_law_mixed")) (Value.str (Str.ofString "_law_mixed") 517) (Value.ref 228),DictEntry.mk (PyData.keyHash P (Str.ofString "_law_came")) (Value.str (Str.ofString "_law_came") 527) (Value.ref 235),DictEntry.mk (PyData.keyHash P (Str.ofString "_law_pans")) (Value.str (Str.ofString "_law_pans") 533) (Value.ref 240),DictEntry.mk (PyData.keyHash P (Str.ofString "_law_pool")) (Value.str (Str.ofString "_law_pool") 545) (Value.ref 247),DictEntry.mk (PyData.keyHash P (Str.ofString "_law_puzzle")) (Value.str (Str.ofString "_law_puzzle") 551) (Value.ref 252),DictEntry.mk (PyData.keyHash P (Str.ofString "_law_done")) (Value.str (Str.ofString "_law_done") 570) (Value.ref 259),DictEntry.mk (PyData.keyHash P (Str.ofString "_law_open")) (Value.str (Str.ofString "_law_open") 576) (Value.ref 264),DictEntry.mk (PyData.keyHash P (Str.ofString "_law_part_right")) (Value.str (Str.ofString "_law_part_right") 582) (Value.ref 269),DictEntry.mk (PyData.keyHash P (Str.ofString "law")) (Value.str (Str.ofString "law") 588) (Value.ref 274)] 52) #[]),
 (88,PySem.Obj.mk (Value.type "tuple") Option.none (PySem.Data.seq #[Value.int (-1) 294,Value.int 0 295,Value.int 1 296]) #[])]
noncomputable def zr5:List Addr:=[3,88]
noncomputable def zmg:Stmt→Bool
 | .Assign [.Name x _] _ _=>!(x == ("__name__" : Str))
 | _=>true
noncomputable def view:Program:={ PySem.Challenge.pw_uf050003_09 with main:={ PySem.Challenge.pw_uf050003_09.main with body:=PySem.Challenge.pw_uf050003_09.main.body.filter zmg } }
noncomputable abbrev hook:=kHook zr4 zr5 (fun _=>by kernel_rfl)
theorem ws:OpenLaw.wellSaid PySem.Challenge.rw_uf050003_09=true:=by kernel_rfl
theorem zml:LeftO (OpenLaw.row PySem.Challenge.rw_uf050003_09).prog view [] (fun s=>xlAt view [] s && recOk (RowW.records (OpenRow.toRowW (OpenLaw.row PySem.Challenge.rw_uf050003_09))) s) (Hook.obs hook) (Hook.val hook) 4200:=by
 intro w;kernel_rfl
end Mine.L09
end
section
namespace Mine
open PySem
inductive It where
 | b (n:Nat)
 | x (d:PyData)
inductive V where
 | d (x:PyData)
 | box (n:Nat)
 | tm (its:List It)
noncomputable abbrev MKey:=List (List Int)×Int
noncomputable def pe(k:MKey):PyData:=.tuple [.tuple (k.1.map fun c=>.tuple (c.map .int)),.int k.2]
noncomputable def zn4(k:MKey):Int:=reduceHash (Builtin.Tuple.tupleHashOf [reduceHash (Builtin.Tuple.tupleHashOf (k.1.map fun c=>reduceHash (Builtin.Tuple.tupleHashOf (c.map hashInt)))),hashInt k.2])
inductive Box where
 | lst (xs:List PyData)
 | dct (kvs:List (MKey×PyData))
noncomputable abbrev za:=List Box
noncomputable abbrev Loc:=List (Option V)
inductive R(σ α:Type) where
 | ok (a:α) (s:σ)
 | stuck
noncomputable def R.bind{σ α β:Type}:R σ α→(α→σ→R σ β)→R σ β
 | .ok a s,f=>f a s
 | .stuck,_=>.stuck
noncomputable def R.lift{α:Type}(ρ:Loc):R za α→R (Loc×za) α
 | .ok a O=>.ok a (ρ,O)
 | .stuck=>.stuck
theorem R.lift_bind{α β:Type}(ρ:Loc)(r:R za α)(g:α→za→R za β) :
 (r.bind g).lift ρ=(r.lift ρ).bind fun a S=>(g a S.2).lift ρ:=by cases r <;> rfl
inductive Fl where
 | next
 | ret (v:V)
structure Gl where
 prog:Program
 w:World
 h₀:Heap
 mg:Str→Option Value
 mb:Str→Option Value
 cls:Nat→Value
 sys:∃ m,h₀.Ns sysModules m
theorem Gl.notSys(G:Gl){d:Addr}(h:G.h₀.get? d=none):(d == sysModules)=false:=beq_eq_false_iff_ne.mpr fun e=>by
 obtain⟨m,o,es,ep,h1,_⟩:=G.sys
 rw[e,h1] at h;cases h
inductive ItsR(N β:List Addr)(h:Heap):List Value→List It→Prop
 | nil:ItsR N β h [] []
 | b {n:Nat} {a:Addr} {vs:List Value} {its:List It}:β[n]?=some a→ItsR N β h vs its→ItsR N β h (.ref a::vs) (.b n::its)
 | x {v:Value} {d:PyData} {as:List Addr} {vs:List Value} {its:List It}:Reads h v d as→(∀ a∈as,a∉β∧a∉N)→ItsR N β h vs its→ItsR N β h (v::vs) (.x d::its)
inductive VRd(N β:List Addr)(h:Heap)(v:Value)(x:PyData):Prop
 | mk (as:List Addr) (r:Reads h v x as) (q:∀ a∈as,a∉β∧a∉N)
inductive zs5(β:List Addr)(v:Value)(n:Nat):Prop
 | mk (a:Addr) (h1:β[n]?=some a) (h2:v=.ref a)
inductive VRtm(N β:List Addr)(h:Heap)(v:Value)(its:List It):Prop
 | mk (a:Addr) (o:Obj) (vs:Array Value) (k:Nat) (e:v=.ref a) (h1:h.get? a=some o) (h2:o.cls=.type "tuple") (h3:o.data=.seq vs k) (h4:ItsR N β h vs.toList its)
noncomputable def VR(G:Gl)(N β:List Addr)(h:Heap)(v:Value):V→Prop
 | .d x=>VRd N β h v x
 | .box n=>zs5 β v n
 | .tm its=>VRtm N β h v its
inductive ListAt(h:Heap)(N β:List Addr)(a:Addr)(xs:List PyData):Prop
 | mk (o:Obj) (vs:Array Value) (n:Nat) (h1:h.get? a=some o) (h2:o.cls=.type "list") (h3:o.data=.seq vs n) (as:List Addr) (h4:ReadsAll h vs.toList xs as) (h5:∀ b∈as,b∉β∧b∉N)
inductive zhi(h:Heap)(N β:List Addr)(e:DictEntry)(kv:MKey×PyData):Prop
 | mk (hq:e.hash=zn4 kv.1) (as bs:List Addr) (r1:Reads h e.key (pe kv.1) as) (r2:Reads h e.val kv.2 bs) (q:∀ b∈as++bs,b∉β∧b∉N)
inductive DictAt(h:Heap)(N β:List Addr)(a:Addr)(kvs:List (MKey×PyData)):Prop
 | mk (o:Obj) (es:Array DictEntry) (n:Nat) (h1:h.get? a=some o) (h2:o.cls=.type "dict") (h3:o.data=.dict es n) (h4:es.size=kvs.length∧(kvs.map (·.1)).Nodup)
    (h5:∀ (i:Nat) e kv,es[i]?=some e→kvs[i]?=some kv→zhi h N β e kv)
noncomputable def BoxAt(h:Heap)(N β:List Addr)(a:Addr):Box→Prop
 | .lst xs=>ListAt h N β a xs
 | .dct kvs=>DictAt h N β a kvs
noncomputable def Plain(h:Heap)(a:Addr):Prop:=∃ o,h.get? a=some o∧o.dict=none∧o.slots = #[]
theorem Plain.at{h h':Heap}{a:Addr}(x:Plain h a)(hk:∀ o,h.get? a=some o→h'.get? a=some o):Plain h' a:=let ⟨o,e,r⟩:=x;⟨o,hk o e,r⟩
structure BR(G:Gl)(N β:List Addr)(O:za)(h:Heap):Prop where
 keep:∀ b o,G.h₀.get? b=some o→h.get? b=some o
 len:β.length=O.length
 nodup:β.Nodup
 new:∀ a∈β,G.h₀.get? a=none
 at_:∀ (i:Nat) a bx,β[i]?=some a→O[i]?=some bx→BoxAt h N β a bx
 plain:∀ a∈β,Plain h a
noncomputable def Get(h:Heap)(env:Env)(x:Str)(v:Value):Prop:=
 (env.kindOf x=some .local∧∃ m,h.Ns env.locals m∧m x=some v) ∨
 (env.kindOf x=some .cell∧∃ c,env.cells.lookup x=some c∧h.IsCell c (some v))
structure Fm where
 env:Env
 names:List (Option Str)
 own:Str→Bool
 W:List Addr
 B:List Addr
 fr:List Addr
 pin:Option (Str→Option Value):=none
structure FmOk(G:Gl)(F:Fm)(β:List Addr)(h:Heap):Prop where
 kind:F.env.scope.kind=.function
 globals:F.env.globals=mainGlobals
 builtins:F.env.builtins=builtinsNs
 once:∀ (i j:Nat) x,F.names[i]?=some (some x)→F.names[j]?=some (some x)→i=j
 ns:∃ m,h.Ns F.env.locals m
 nsW:F.env.locals∈F.W
 cell:∀ x,F.env.kindOf x=some .cell→∃ c v,F.env.cells.lookup x=some c∧h.IsCell c v∧c∈F.B∧(F.own x=true→c∈F.W)
 apart:∀ x y c,F.env.cells.lookup x=some c→F.env.cells.lookup y=some c→x=y
 sub:∀ a∈F.W,a∈F.B
 new:(∀ a∈F.B,a≠sysModules→G.h₀.get? a=none)∧sysModules∈F.B∧sysModules∉F.W∧sysModules∉F.fr
 notBox:∀ a∈F.B,a∉β
 stor:∀ a∈F.B,∃ o,h.get? a=some o∧∀ vs n,o.data=.seq vs n→o.cls≠.type "tuple"
 frB:∀ a∈F.fr,a∈F.B
 frs:∀ a∈F.fr,∃ m,h.Ns a m
 pin:∀ m,F.pin=some m→h.Ns F.env.locals m∧∀ x,F.own x=false
theorem FmOk.newB{G:Gl}{F:Fm}{β:List Addr}{h:Heap}(f:FmOk G F β h){a:Addr}(ha:a∈F.B)(hs:a≠sysModules):G.h₀.get? a=none:=f.new.1 a ha hs
theorem FmOk.newW{G:Gl}{F:Fm}{β:List Addr}{h:Heap}(f:FmOk G F β h){a:Addr}(ha:a∈F.W):G.h₀.get? a=none:=f.new.1 a (f.sub a ha) fun e=>f.new.2.2.1 (e ▸ ha)
structure SR(G:Gl)(F:Fm)(β:List Addr)(ρ:Loc)(O:za)(h:Heap):Prop where
 br:BR G F.B β O h
 fm:FmOk G F β h
 get:∀ (i:Nat) x v,F.names[i]?=some (some x)→ρ[i]?=some (some v)→∃ val,Get h F.env x val∧VR G F.B β h val v
theorem BR.sysAlive{G:Gl}{N β:List Addr}{O:za}{h:Heap}(b:BR G N β O h):∃ o es n,h.get? sysModules=some o∧o.data=.dict es n:=by
 obtain⟨m,o,es,ep,h1,h2,_⟩:=G.sys
 exact⟨o,es,ep,b.keep _ _ h1,h2⟩
theorem BR.notSys{G:Gl}{N β:List Addr}{O:za}{h:Heap}(b:BR G N β O h){a:Addr}(ha:h.get? a=none):a≠sysModules:=fun e=>by
 obtain⟨o,es,n,h1,_⟩:=b.sysAlive
 rw[e,h1] at ha;cases ha
theorem BR.notSysD{G:Gl}{N β:List Addr}{O:za}{h:Heap}(b:BR G N β O h){a:Addr}{o:Obj}(ha:h.get? a=some o)(hd:∀ es n,o.data≠.dict es n):a≠sysModules:=fun e=>by
 obtain⟨o',es,n,h1,h2⟩:=b.sysAlive
 rw[e,h1] at ha;cases ha
 exact hd _ _ h2
theorem zdg{G:Gl}{F:Fm}{N β M fr:List Addr}{O:za}{h:Heap}(b:BR G N β O h)(hM:∀ a∈M,h.get? a=none)(f:(∀ a∈F.B,a≠sysModules→G.h₀.get? a=none)∧sysModules∈F.B) :
 (∀ a∈M++F.B,a≠sysModules→G.h₀.get? a=none)∧sysModules∈M++F.B∧sysModules∉M:=by
 refine⟨fun a ha hs=>?_,List.mem_append_right _ f.2,fun hm=>b.notSys (hM _ hm) rfl⟩
 rcases List.mem_append.mp ha with ha | ha
 ·cases e:G.h₀.get? a with
  | none=>rfl
  | some o=>have:=b.keep a o e;rw[hM a ha] at this;cases this
 ·exact f.1 a ha hs
noncomputable def Kin(o o':Obj):Prop:=∃ sl,o' = { o with slots:=sl }∧((∀ es n,o.data≠.dict es n)→sl=o.slots)
theorem Kin.refl(o:Obj):Kin o o:=⟨o.slots,rfl,fun _=>rfl⟩
theorem Kin.trans{o o' o'':Obj}(x:Kin o o')(y:Kin o' o''):Kin o o'':=by
 obtain⟨a,rfl,h1⟩:=x
 obtain⟨b,rfl,h2⟩:=y
 exact⟨b,rfl,fun h=>(h2 h).trans (h1 h)⟩
theorem Kin.cls{o o':Obj}(x:Kin o o'):o'.cls=o.cls:=by obtain⟨a,rfl,_⟩:=x;rfl
theorem Kin.data{o o':Obj}(x:Kin o o'):o'.data=o.data:=by obtain⟨a,rfl,_⟩:=x;rfl
theorem Kin.same{o o':Obj}(x:Kin o o')(h:∀ es n,o.data≠.dict es n):o'=o:=by obtain⟨a,rfl,h1⟩:=x;rw[h1 h]
theorem Kin.ns{h h':Heap}{a:Addr}{m:Str→Option Value}(x:h.Ns a m)(k:∀ o,h.get? a=some o→∃ o',h'.get? a=some o'∧Kin o o'):h'.Ns a m:=by
 obtain⟨o,es,ep,h1,h2,h3,h4⟩:=x
 obtain⟨o',e',kn⟩:=k o h1
 exact⟨o',es,ep,e',kn.data.trans h2,h3,h4⟩
theorem Kin.cell{h h':Heap}{a:Addr}{v:Option Value}(x:h.IsCell a v)(k:∀ o,h.get? a=some o→∃ o',h'.get? a=some o'∧Kin o o'):h'.IsCell a v:=by
 obtain⟨o,h1,h2⟩:=x
 obtain⟨o',e',kn⟩:=k o h1
 exact⟨o',e',kn.data.trans h2⟩
structure Step(W:List Addr)(β:List Addr)(s s':Shared)(β':List Addr):Prop where
 gens:s'.gens=s.gens
 os:s'.os=s.os
 pre:β <+: β'
 fresh:∀ a∈β',a∈β∨s.heap.get? a=none
 alive:∀ b o,s.heap.get? b=some o→∃ o',s'.heap.get? b=some o'
 kept:∀ b o,s.heap.get? b=some o→b∉β→b∉W→∃ o',s'.heap.get? b=some o'∧Kin o o'
theorem Step.refl(W β s):Step W β s s β:=⟨rfl,rfl,List.prefix_refl _,fun _ h=>.inl h,fun _ o h=>⟨o,h⟩,fun _ o h _ _=>⟨o,h,Kin.refl o⟩⟩
theorem Step.keptE{W β s s' β'}(x:Step W β s s' β'){b:Addr}{o:Obj}(e:s.heap.get? b=some o)(hb:b∉β)(hW:b∉W)(hd:∀ es n,o.data≠.dict es n):s'.heap.get? b=some o:=by
 obtain⟨o',e',k⟩:=x.kept b o e hb hW
 rw[e',k.same hd]
theorem Step.trans{W β β' β'' s s' s''}(x:Step W β s s' β')(y:Step W β' s' s'' β''):Step W β s s'' β'' where
 gens:=y.gens.trans x.gens
 os:=y.os.trans x.os
 pre:=x.pre.trans y.pre
 fresh:=fun a ha=>by
  rcases y.fresh a ha with h | h
  ·exact x.fresh a h
  ·right
   cases e:s.heap.get? a with
   | none=>rfl
   | some o=>obtain⟨o',e'⟩:=x.alive a o e;rw[e'] at h;cases h
 alive:=fun b o e=>let ⟨o',e'⟩:=x.alive b o e;y.alive b o' e'
 kept:=fun b o e hb hW=>by
  obtain⟨o',e',k⟩:=x.kept b o e hb hW
  obtain⟨o'',e'',k'⟩:=y.kept b o' e' (fun hb'=>by
   rcases x.fresh b hb' with h | h
   ·exact hb h
   ·rw[e] at h;cases h) hW
  exact⟨o'',e'',k.trans k'⟩
theorem x0{β β':List Addr}(h:β <+: β'){i:Nat}{a:Addr}(ha:β[i]?=some a):β'[i]?=some a:=by
 obtain⟨t,rfl⟩:=h
 have hi:i < β.length:=by
  rcases Nat.lt_or_ge i β.length with h | h
  ·exact h
  ·rw[List.getElem?_eq_none h] at ha;cases ha
 rw[List.getElem?_append_left hi];exact ha
theorem qn{h h':Heap}{P:Addr→Prop}(hk:∀ b o,h.get? b=some o→P b→∃ o',h'.get? b=some o'∧Kin o o')
 (hP:∀ b o vs n,h.get? b=some o→o.cls=.type "tuple"→o.data=.seq vs n→P b) {v:Value} {x:PyData} {as:List Addr} (r:Reads h v x as):(∀ a∈as,P a)→Reads h' v x as:=
 Reads.rec (motive_1:=fun v x as _=>(∀ a∈as,P a)→Reads h' v x as) (motive_2:=fun vs xs as _=>(∀ a∈as,P a)→ReadsAll h' vs xs as)
  (fun _=>.none) (fun b _=>.bool b) (fun i t _=>.int i t) (fun x t _=>.str x t)
  (fun h1 h2 h3 _ ih q=>let ⟨_,e,k⟩:=hk _ _ h1 (q _ (.head _));.list e (k.cls.trans h2) (k.data.trans h3) (ih fun a ha=>q a (.tail _ ha)))
  (fun h1 h2 h3 _ ih q=>let ⟨_,e,k⟩:=hk _ _ h1 (hP _ _ _ _ h1 h2 h3);.tuple e (k.cls.trans h2) (k.data.trans h3) (ih q))
  (fun h1 h2 h3 _ _ ih ih' q=>let ⟨_,e,k⟩:=hk _ _ h1 (q _ (.head _));.dict e (k.cls.trans h2) (k.data.trans h3) (ih fun a ha=>q a (List.mem_append_left _ (List.mem_cons_of_mem _ ha))) (ih' fun a ha=>q a (List.mem_append_right _ ha)))
  (fun _=>.nil) (fun _ _ i1 i2 q=>.cons (i1 fun a ha=>q a (List.mem_append_left _ ha)) (i2 fun a ha=>q a (List.mem_append_right _ ha))) r
theorem wd{h h':Heap}{P:Addr→Prop}(hk:∀ b o,h.get? b=some o→P b→∃ o',h'.get? b=some o'∧Kin o o')
 (hP:∀ b o vs n,h.get? b=some o→o.cls=.type "tuple"→o.data=.seq vs n→P b) {vs:List Value} {xs:List PyData} {as:List Addr} (r:ReadsAll h vs xs as):(∀ a∈as,P a)→ReadsAll h' vs xs as:=
 ReadsAll.rec (motive_1:=fun _ _ _ _=>True) (motive_2:=fun vs xs as _=>(∀ a∈as,P a)→ReadsAll h' vs xs as)
  trivial (fun _=>trivial) (fun _ _=>trivial) (fun _ _=>trivial) (fun _ _ _ _ _=>trivial) (fun _ _ _ _ _=>trivial) (fun _ _ _ _ _ _ _=>trivial)
  (fun _=>.nil) (fun r _ _ i2 q=>.cons (qn hk hP r fun a ha=>q a (List.mem_append_left _ ha)) (i2 fun a ha=>q a (List.mem_append_right _ ha))) r
theorem jb{h h':Heap}{P:Addr→Prop}(hk:∀ b o,h.get? b=some o→P b→h'.get? b=some o)
 (hP:∀ b o vs n,h.get? b=some o→o.cls=.type "tuple"→o.data=.seq vs n→P b) {v:Value} {x:PyData} {as:List Addr} (r:Reads h v x as) (q:∀ a∈as,P a):Reads h' v x as:=
 qn (fun b o e p=>⟨o,hk b o e p,Kin.refl o⟩) hP r q
theorem xn{h h':Heap}{P:Addr→Prop}(hk:∀ b o,h.get? b=some o→P b→h'.get? b=some o)
 (hP:∀ b o vs n,h.get? b=some o→o.cls=.type "tuple"→o.data=.seq vs n→P b) {vs:List Value} {xs:List PyData} {as:List Addr} (r:ReadsAll h vs xs as) (q:∀ a∈as,P a):ReadsAll h' vs xs as:=
 wd (fun b o e p=>⟨o,hk b o e p,Kin.refl o⟩) hP r q
theorem y6{h:Heap}{v:Value}{x:PyData}{as:List Addr}(r:Reads h v x as):∀ a∈as,∃ o,h.get? a=some o:=
 Reads.rec (motive_1:=fun _ _ as _=>∀ a∈as,∃ o,h.get? a=some o) (motive_2:=fun _ _ as _=>∀ a∈as,∃ o,h.get? a=some o)
  (fun _ h=>nomatch h) (fun _ _ h=>nomatch h) (fun _ _ _ h=>nomatch h) (fun _ _ _ h=>nomatch h)
  (fun h1 _ _ _ ih a ha=>(List.mem_cons.mp ha).elim (fun e=>⟨_,e ▸ h1⟩) (ih a))
  (fun _ _ _ _ ih=>ih)
  (fun h1 _ _ _ _ ih ih' a ha=>(List.mem_append.mp ha).elim (fun ha=>(List.mem_cons.mp ha).elim (fun e=>⟨_,e ▸ h1⟩) (ih a)) (ih' a))
  (fun _ h=>nomatch h) (fun _ _ i1 i2 a ha=>(List.mem_append.mp ha).elim (i1 a) (i2 a)) r
theorem kw{h:Heap}{vs:List Value}{xs:List PyData}{as:List Addr}(r:ReadsAll h vs xs as):∀ a∈as,∃ o,h.get? a=some o:=
 ReadsAll.rec (motive_1:=fun _ _ _ _=>True) (motive_2:=fun _ _ as _=>∀ a∈as,∃ o,h.get? a=some o)
  trivial (fun _=>trivial) (fun _ _=>trivial) (fun _ _=>trivial) (fun _ _ _ _ _=>trivial) (fun _ _ _ _ _=>trivial) (fun _ _ _ _ _ _ _=>trivial)
  (fun _ h=>nomatch h) (fun r _ _ i2 a ha=>(List.mem_append.mp ha).elim (y6 r a) (i2 a)) r
theorem BR.alive{G:Gl}{N β:List Addr}{O:za}{h:Heap}(b:BR G N β O h):∀ a∈β,∃ o,h.get? a=some o∧(o.cls=.type "list"∨o.cls=.type "dict"):=by
 intro a ha
 obtain⟨i,hi⟩:=List.getElem?_of_mem ha
 have hl:i < O.length:=by
  rw[← b.len]
  rcases Nat.lt_or_ge i β.length with h | h
  ·exact h
  ·rw[List.getElem?_eq_none h] at hi;cases hi
 have hx:=b.at_ i a _ hi (List.getElem?_eq_getElem hl)
 cases hb:O[i] with
 | lst xs=>rw[hb] at hx;obtain⟨o,_,_,h1,h2,_⟩:=hx;exact⟨o,h1,.inl h2⟩
 | dct kvs=>rw[hb] at hx;obtain⟨o,_,_,h1,h2,_⟩:=hx;exact⟨o,h1,.inr h2⟩
theorem kq{G:Gl}{F:Fm}{β:List Addr}{O:za}{h:Heap}(b:BR G F.B β O h)(f:FmOk G F β h){a:Addr}{o:Obj}{vs:Array Value}{n:Nat}(e:h.get? a=some o)(hc:o.cls=.type "tuple")(hd:o.data=.seq vs n) :
 a∉β∧a∉F.B:=by
 refine⟨fun hb=>?_,fun hB=>?_⟩
 ·obtain⟨o',e',h'⟩:=b.alive a hb
  rw[e] at e';cases e'
  rw[hc] at h'
  rcases h' with h' | h' <;> exact absurd h' (by decide)
 ·obtain⟨o',e',h'⟩:=f.stor a hB
  rw[e] at e';cases e'
  exact h' _ _ hd hc
theorem uj{W β β':List Addr}{s s':Shared}(st:Step W β s s' β'){as:List Addr}{N:List Addr}(al:∀ a∈as,∃ o,s.heap.get? a=some o)(q:∀ a∈as,a∉β∧a∉N):∀ a∈as,a∉β'∧a∉N:=
 fun a ha=>by
  refine⟨fun hb=>?_,(q a ha).2⟩
  rcases st.fresh a hb with h | h
  ·exact (q a ha).1 h
  ·obtain⟨o,e⟩:=al a ha
   rw[e] at h;cases h
section
variable{G:Gl}{F:Fm}{β β':List Addr}{O:za}{s s':Shared}(b:BR G F.B β O s.heap)(f:FmOk G F β s.heap)(st:Step F.W β s s' β')
include b f st
theorem z9{v:Value}{x:PyData}{as:List Addr}(r:Reads s.heap v x as)(q:∀ a∈as,a∉β∧a∉F.B):Reads s'.heap v x as∧∀ a∈as,a∉β'∧a∉F.B:=
 ⟨qn (P:=fun a=>a∉β∧a∉F.B) (fun a o e p=>st.kept a o e p.1 fun hw=>p.2 (f.sub a hw)) (fun _ _ _ _ e hc hd=>kq b f e hc hd) r q,uj st (y6 r) q⟩
theorem zu{vs:List Value}{xs:List PyData}{as:List Addr}(r:ReadsAll s.heap vs xs as)(q:∀ a∈as,a∉β∧a∉F.B):ReadsAll s'.heap vs xs as∧∀ a∈as,a∉β'∧a∉F.B:=
 ⟨wd (P:=fun a=>a∉β∧a∉F.B) (fun a o e p=>st.kept a o e p.1 fun hw=>p.2 (f.sub a hw)) (fun _ _ _ _ e hc hd=>kq b f e hc hd) r q,uj st (kw r) q⟩
theorem ItsR.step{vs:List Value}{its:List It}(r:ItsR F.B β s.heap vs its):ItsR F.B β' s'.heap vs its:=by
 induction r with
 | nil=>exact .nil
 | b h1 _ ih=>exact .b (x0 st.pre h1) ih
 | x h1 h2 _ ih=>obtain⟨r',q'⟩:=z9 b f st h1 h2;exact .x r' q' ih
theorem VR.step{v:Value}{x:V}(r:VR G F.B β s.heap v x):VR G F.B β' s'.heap v x:=by
 cases x with
 | d x=>obtain⟨as,r,q⟩:=r;obtain⟨r',q'⟩:=z9 b f st r q;exact⟨as,r',q'⟩
 | box n=>obtain⟨a,h1,h2⟩:=r;exact⟨a,x0 st.pre h1,h2⟩
 | tm its=>
   obtain⟨a,o,vs,k,rfl,h1,h2,h3,h4⟩:=r
   obtain⟨p1,p2⟩:=kq b f h1 h2 h3
   exact⟨a,o,vs,k,rfl,st.keptE h1 p1 (fun hw=>p2 (f.sub a hw)) (fun es n q=>by rw[h3] at q;cases q),h2,h3,ItsR.step b f st h4⟩
end
noncomputable abbrev WT(α:Type):=(α→Shared→Prop)→(Value→Shared→Prop)→Shared→Prop
noncomputable abbrev tr(G:Gl)(A:Around){α:Type}(t:Sem α):WT α:=fun Q E s=>wpAny (model G.prog G.w) A t Q E s
noncomputable def DoesW{α δ:Type}(G:Gl)(F:Fm)(s:Shared)(β:List Addr)(T:WT α)(r:R (Loc×za) δ)(Rel:List Addr→Heap→α→δ→Prop):Prop:=
 match r with
 | .ok d S=>∀ (Q:α→Shared→Prop) (E:Value→Shared→Prop),
    (∀ s' β' a,Step F.W β s s' β'→SR G F β' S.1 S.2 s'.heap→Rel β' s'.heap a d→Q a s')→T Q E s
 | .stuck=>True
noncomputable abbrev Does{α δ:Type}(G:Gl)(F:Fm)(A:Around)(s:Shared)(β:List Addr)(t:Sem α)(r:R (Loc×za) δ)(Rel:List Addr→Heap→α→δ→Prop):Prop:=
 DoesW G F s β (tr G A t) r Rel
theorem DoesW.seq{α γ δ ε:Type}{G:Gl}{F:Fm}{s:Shared}{β:List Addr}{T:WT γ}{T₁:WT α}{T₂:α→WT γ}{r:R (Loc×za) δ}{g:δ→Loc×za→R (Loc×za) ε}
 {Rel₁:List Addr→Heap→α→δ→Prop} {Rel:List Addr→Heap→γ→ε→Prop}
 (hw:∀ (Q:γ→Shared→Prop) (E:Value→Shared→Prop),T₁ (fun a s'=>T₂ a Q E s') E s→T Q E s)
 (h1:DoesW G F s β T₁ r Rel₁)
 (h2:∀ s' β' a d S,r=.ok d S→Step F.W β s s' β'→SR G F β' S.1 S.2 s'.heap→Rel₁ β' s'.heap a d→DoesW G F s' β' (T₂ a) (g d S) Rel) :
 DoesW G F s β T (r.bind g) Rel:=by
 cases r with
 | stuck=>trivial
 | ok d S=>
   show DoesW G F s β T (g d S) Rel
   cases hg:g d S with
   | stuck=>trivial
   | ok e S'=>
     intro Q E k
     refine hw Q E (h1 _ _ fun s' β' a st sr rel=>?_)
     have:=h2 s' β' a d S rfl st sr rel
     rw[hg] at this
     exact this Q E fun s'' β'' c st' sr' rel'=>k s'' β'' c (st.trans st') sr' rel'
theorem DoesW.seqE{α γ δ ε:Type}{G:Gl}{F:Fm}{s:Shared}{β:List Addr}{ρ:Loc}{T:WT γ}{T₁:WT α}{T₂:α→WT γ}{r:R za δ}{g:δ→za→R za ε}
 {Rel₁:List Addr→Heap→α→δ→Prop} {Rel:List Addr→Heap→γ→ε→Prop}
 (hw:∀ (Q:γ→Shared→Prop) (E:Value→Shared→Prop),T₁ (fun a s'=>T₂ a Q E s') E s→T Q E s)
 (h1:DoesW G F s β T₁ (r.lift ρ) Rel₁)
 (h2:∀ s' β' a d O,r=.ok d O→Step F.W β s s' β'→SR G F β' ρ O s'.heap→Rel₁ β' s'.heap a d→DoesW G F s' β' (T₂ a) ((g d O).lift ρ) Rel) :
 DoesW G F s β T ((r.bind g).lift ρ) Rel:=by
 rw[R.lift_bind]
 refine DoesW.seq hw h1 fun s' β' a d S e st sr rel=>?_
 cases r with
 | ok d' O=>cases (e);exact h2 s' β' a d O rfl st sr rel
 | stuck=>cases e
theorem DoesW.by{α γ δ ε:Type}{G:Gl}{F:Fm}{s:Shared}{β:List Addr}{T:WT γ}{T₁:WT α}{r:R (Loc×za) δ}{r':R (Loc×za) ε}
 {Rel₁:List Addr→Heap→α→δ→Prop} {Rel:List Addr→Heap→γ→ε→Prop} (f:α→γ) (q:δ→ε)
 (hw:∀ (Q:γ→Shared→Prop) (E:Value→Shared→Prop),T₁ (fun a s'=>Q (f a) s') E s→T Q E s)
 (h1:DoesW G F s β T₁ r Rel₁) (hr:∀ β h a d,Rel₁ β h a d→Rel β h (f a) (q d))
 (hq:r'=r.bind fun d S=>.ok (q d) S:=by rfl):DoesW G F s β T r' Rel:=by
 subst hq
 cases r with
 | stuck=>trivial
 | ok d S=>exact fun Q E k=>hw Q E (h1 _ _ fun s' β' a st sr rel=>k s' β' _ st sr (hr _ _ _ _ rel))
theorem DoesW.weaken{α δ:Type}{G:Gl}{F:Fm}{s:Shared}{β:List Addr}{T T₁:WT α}{r:R (Loc×za) δ}
 {Rel₁ Rel:List Addr→Heap→α→δ→Prop} (h1:DoesW G F s β T₁ r Rel₁) (hw:∀ (Q:α→Shared→Prop) (E:Value→Shared→Prop),T₁ Q E s→T Q E s)
 (hr:∀ β h a d,Rel₁ β h a d→Rel β h a d):DoesW G F s β T r Rel:=by
 cases r with
 | stuck=>trivial
 | ok d S=>exact fun Q E k=>hw Q E (h1 _ _ fun s' β' a st sr rel=>k s' β' _ st sr (hr _ _ _ _ rel))
inductive Ty where
 | int | bool | tuple | list | str
 deriving DecidableEq
inductive Bop where
 | add | sub | mul | fdiv | mod | pow
 deriving DecidableEq
inductive Cop where
 | eq | ne | lt | le | gt | ge | is | isnot | in_ | notin
 deriving DecidableEq
inductive Prim where
 | isinst (t:Ty) | isexc (c:Nat)
 | len | all | any | sum | sorted | list | tuple | min2 | min | max | int | str | lenset | sortedset
 deriving DecidableEq
inductive Meth where
 | append | pop | clear | index
 deriving DecidableEq
inductive CT where
 | name (i:Nat)
 | two (a b:CT)
structure Pg where
 call:Bool→Nat→List V→za→R za V
 hd:Bool
 gval:Nat→Option PyData
 turns:Nat
 sub:Nat→Nat→Option Bool
 srt:List PyData→Option (List PyData)
 sets:Bool
 txt:PyData→Option Str
noncomputable def kj(O:za)(n:Nat):Option PyData:=match O[n]? with
 | some (.lst xs)=>some (.list xs)
 | _=>none
noncomputable def look(O:za):V→Option PyData
 | .d x=>some x
 | .box n=>kj O n
 | _=>none
noncomputable def allD:List V→Option (List PyData)
 | []=>some []
 | .d x::r=>(allD r).map (x::·)
 | _::_=>none
noncomputable def allI:List V→Option (List It)
 | []=>some []
 | .d x::r=>(allI r).map (.x x::·)
 | .box n::r=>(allI r).map (.b n::·)
 | _::_=>none
noncomputable def tupV(vs:List V):Option V:=match allD vs with
 | some xs=>some (.d (.tuple xs))
 | none=>(allI vs).map .tm
noncomputable def repL{α:Type}(xs:List α)(n:Int):List α:=(List.replicate n.toNat xs).flatten
noncomputable def line:Nat:=1000000
noncomputable def addD:PyData→PyData→Option PyData
 | .int a,y=>(match y with
    | .int b=>some (.int (a+b))
    | _=>none)
 | .list a,y=>(match y with
    | .list b=>if a.length+b.length≤line then some (.list (a++b)) else none
    | _=>none)
 | .tuple a,y=>(match y with
    | .tuple b=>if a.length+b.length≤line then some (.tuple (a++b)) else none
    | _=>none)
 | .str a,y=>(match y with
    | .str b=>if a.length+b.length≤line then some (.str (a++b)) else none
    | _=>none)
 | _,_=>none
noncomputable def mulD:PyData→Int→Option PyData
 | .int a,b=>if a.natAbs < 2 ^ 64∨b.natAbs < 2 ^ 64 then some (.int (a * b)) else none
 | .list a,n=>if a.length * n.toNat≤256∧0≤n∧n≤256 then some (.list (repL a n)) else none
 | .tuple a,n=>if a≠[]∧a.length * n.toNat≤256∧2≤n∧n≤256 then some (.tuple (repL a n)) else none
 | .str a,n=>if a.length≤256∧0≤n∧n≤256 then some (.str (Txt.mul a n)) else none
 | _,_=>none
noncomputable def arith(op:Bop)(a b:Int):Option PyData:=match op with
 | .sub=>some (.int (a - b))
 | .fdiv=>if b≠0∧b.natAbs < 1073741824 then some (.int (Int.fdiv a b)) else none
 | .mod=>if b=0 then none else some (.int (Int.fmod a b))
 | .pow=>if a=10∧b=20 then some (.int 100000000000000000000) else none
 | _=>none
noncomputable def intD(f:Int→Option PyData):PyData→Option PyData
 | .int i=>f i
 | _=>none
noncomputable def zbm(op:Bop)(x y:PyData):Option PyData:=match op with
 | .add=>addD x y
 | .mul=>intD (mulD x) y
 | op=>intD (fun a=>intD (arith op a) y) x
noncomputable def eqOk(a b:PyData):Bool:=a.canLay0 && b.canLay0 && decide (min a.depth b.depth≤100)
noncomputable def inD(a:PyData)(xs:List PyData):Option Bool:=if a.canLay0 && PyData.canLayAll0 xs && decide (a.depth≤100) then some (xs.any fun y=>PyData.eqv y a) else none
noncomputable def seqD:PyData→Option (List PyData)
 | .list xs=>some xs
 | .tuple xs=>some xs
 | _=>none
noncomputable def ordD(f:Int→Int→Bool):PyData→PyData→Option Bool
 | .int a,y=>(match y with
    | .int b=>some (f a b)
    | _=>none)
 | _,_=>none
noncomputable def vc(op:Cop)(a b:PyData):Option Bool:=match op with
 | .eq=>if eqOk a b then some (PyData.eqv a b) else none
 | .ne=>if eqOk a b then some (!PyData.eqv a b) else none
 | .lt=>ordD (fun a b=>decide (a < b)) a b
 | .le=>ordD (fun a b=>decide (a≤b)) a b
 | .gt=>ordD (fun a b=>decide (a > b)) a b
 | .ge=>ordD (fun a b=>decide (a ≥ b)) a b
 | .in_=>(seqD b).bind (inD a)
 | .notin=>((seqD b).bind (inD a)).map (!·)
 | _=>none
noncomputable def isNone:PyData→Bool
 | .none=>true
 | _=>false
noncomputable def isBool(b:Bool):PyData→Bool
 | .bool a=>a == b
 | _=>false
noncomputable def isop(x:PyData):PyData→Option Bool
 | .none=>some (isNone x)
 | .bool b=>some (isBool b x)
 | _=>none
noncomputable def truth:V→Option Bool
 | .d (.bool b)=>some b
 | _=>none
noncomputable def items:PyData→Option (List PyData)
 | .list xs=>some xs
 | .tuple xs=>some xs
 | _=>none
noncomputable def idxD(x:PyData)(i:PyData):Option PyData:=match items x,i with
 | some xs,.int k=>if xs.length≤line then (if 0≤k then xs[k.toNat]? else if 0≤k+xs.length then xs[(k+xs.length).toNat]? else none) else none
 | _,_=>none
noncomputable def clip(n:Nat)(dflt:Nat):PyData→Option Nat
 | .none=>some dflt
 | .int k=>some (clipAt n k)
 | _=>none
noncomputable def vi{α:Type}(xs:List α)(lo hi:Nat):List α:=(xs.drop lo).take (hi - lo)
noncomputable def jj(xs:List PyData)(lo hi:PyData):Option PyData:=if xs.length≤line then (clip xs.length 0 lo).bind fun l=>(clip xs.length xs.length hi).map fun h=>.list (vi xs l h) else none
noncomputable def ofList(f:List PyData→Option PyData):PyData→Option PyData
 | .list xs=>f xs
 | _=>none
noncomputable def ze4(x lo hi:PyData):Option PyData:=ofList (fun xs=>jj xs lo hi) x
noncomputable def isTy:Ty→PyData→Bool
 | .int,.int _=>true
 | .int,.bool _=>true
 | .bool,.bool _=>true
 | .tuple,.tuple _=>true
 | .list,.list _=>true
 | .str,.str _=>true
 | _,_=>false
noncomputable def intsOf:List PyData→Option (List Int)
 | []=>some []
 | .int i::r=>(intsOf r).map (i::·)
 | _::_=>none
noncomputable def ve:List PyData→Option (List Bool)
 | []=>some []
 | .bool i::r=>(ve r).map (i::·)
 | _::_=>none
noncomputable def isInt:PyData→Bool
 | .int _=>true
 | _=>false
noncomputable def addI(a:Int):List Int→List Int
 | []=>[a]
 | b::r=>if a < b then a::b::r else if a=b then b::r else b::addI a r
noncomputable def wq(is:List Int):List Int:=is.foldl (fun acc i=>addI i acc) []
noncomputable def small(is:List Int):Bool:=decide (is.length≤4) && is.all fun i=>decide (0≤i) && decide (i < 5)
noncomputable def maxI:List Int→Option Int
 | []=>none
 | a::r=>some (r.foldl max a)
noncomputable def tupI:PyData→Option (List Int)
 | .tuple xs=>intsOf xs
 | _=>none
noncomputable def ja:List PyData→Option (List (List Int))
 | []=>some []
 | x::r=>(tupI x).bind fun a=>(ja r).map (a::·)
noncomputable def Prim.calm:Prim→Bool
 | .isinst _ | .isexc _ | .len | .int=>true
 | _=>false
noncomputable def lenD:PyData→Option PyData
 | .list xs=>if xs.length≤line then some (.int xs.length) else none
 | .tuple xs=>if xs.length≤line then some (.int xs.length) else none
 | _=>none
noncomputable def zdk(f:List PyData→Option PyData):PyData→Option PyData
 | .list xs=>f xs
 | _=>none
noncomputable def zlw:PyData→Option PyData
 | .list xs=>if xs.length≤line then some (.list xs) else none
 | .tuple xs=>if xs.length≤line then some (.list xs) else none
 | _=>none
noncomputable def zop:PyData→Option PyData
 | .list xs=>if xs.length≤line then some (.tuple xs) else none
 | .tuple xs=>some (.tuple xs)
 | _=>none
noncomputable def zoq:PyData→Option PyData
 | .bool b=>some (.int (if b then 1 else 0))
 | _=>none
noncomputable def setT(f:List Int→PyData)(xs:List PyData):Option PyData:=(intsOf xs).bind fun is=>if small is then some (f is) else none
noncomputable def zmk:PyData→Option PyData
 | .tuple xs=>setT (fun is=>.int (wq is).length) xs
 | _=>none
noncomputable def ze1:PyData→Option PyData
 | .tuple xs=>setT (fun is=>.list ((wq is).map .int)) xs
 | _=>none
noncomputable def za0(P:Pg):Prim→PyData→Option PyData
 | .isinst t,x=>some (.bool (isTy t x))
 | .isexc _,_=>none
 | .len,x=>lenD x
 | .all,x=>zdk (fun xs=>(ve xs).map fun bs=>.bool (bs.all id)) x
 | .any,x=>zdk (fun xs=>(ve xs).map fun bs=>.bool (bs.any id)) x
 | .sum,x=>zdk (fun xs=>(intsOf xs).map fun is=>.int is.sum) x
 | .sorted,x=>zdk (fun xs=>if xs.length < 64 then (P.srt xs).map .list else none) x
 | .list,x=>zlw x
 | .tuple,x=>zop x
 | .min2,_=>none
 | .min,_=>none
 | .max,_=>none
 | .int,x=>zoq x
 | .str,_=>none
 | .lenset,x=>(match P.sets with
    | true=>zmk x
    | false=>none)
 | .sortedset,x=>(match P.sets with
    | true=>ze1 x
    | false=>none)
noncomputable def zru:PyData→PyData→Option PyData
 | .int a,.int b=>some (.int (min a b))
 | _,_=>none
noncomputable def p9(P:Pg)(p:Prim)(xs:List PyData):Option PyData:=match xs with
 | [x]=>za0 P p x
 | [x,y]=>(match p with
     | .min2=>zru x y
     | _=>none)
 | _=>none
noncomputable def opt{α:Type}(o:Option α)(O:za):R za α:=match o with
 | some a=>.ok a O
 | none=>.stuck
noncomputable def prim(P:Pg)(p:Prim)(vs:List V)(O:za):R za V:=
 match (vs.mapM (look O)).bind (p9 P p) with
 | some y=>.ok (.d y) O
 | none=>.stuck
noncomputable def zx(kvs:List (MKey×PyData))(k:MKey):Option PyData:=(kvs.find? fun kv=>decide (kv.1=k)).map (·.2)
noncomputable def keyOf:PyData→Option MKey
 | .tuple [.tuple xs,.int n]=>(ja xs).map fun kss=>(kss,n)
 | _=>none
noncomputable def boxL(o:V)(O:za)(f:Nat→List PyData→R za V):R za V:=match o with
 | .box n=>(match O[n]? with
    | some (.lst xs)=>f n xs
    | _=>.stuck)
 | _=>.stuck
noncomputable def oneD(f:PyData→R za V)(vs:List V):R za V:=match vs with
 | [.d x]=>f x
 | _=>.stuck
noncomputable def meth(m:Meth)(o:V)(vs:List V)(O:za):R za V:=match m with
 | .append=>boxL o O fun n xs=>oneD (fun x=>if xs.length < line then .ok (.d .none) (O.set n (.lst (xs++[x]))) else .stuck) vs
 | _=>.stuck
noncomputable def zdo(O:za)(n:Nat):Bool:=match O[n]? with
 | some (.lst _)=>true
 | _=>false
noncomputable def recv(m:Meth)(v:V)(O:za):Bool:=match m,v with
 | .append,.box n=>zdo O n
 | _,_=>false
inductive Src where
 | plain (xs:List PyData)
 | box (n:Nat) (xs:List PyData)
noncomputable def Src.xs:Src→List PyData
 | .plain xs=>xs
 | .box _ xs=>xs
noncomputable def Src.still(s:Src)(O:za):Bool:=match s with
 | .plain _=>true
 | .box n xs=>@decide (O[n]?=some (.lst xs)) (Classical.propDecidable _)
noncomputable def It.v:It→V
 | .b n=>.box n
 | .x d=>.d d
noncomputable def zp:CT→V→Loc→Option Loc
 | .name i,v,ρ=>if i < ρ.length then some (ρ.set i (some v)) else none
 | .two a b,.d x,ρ=>(match items x with
    | some [y,z]=>(zp a (.d y) ρ).bind (zp b (.d z))
    | _=>none)
 | _,_,_=>none
noncomputable def zj(a b:Int):List PyData:=(List.range (b - a).toNat).map fun (i:Nat)=>.int (a+i)
noncomputable def yh(src:Src)(turn:PyData→za→R za (Option PyData)):List PyData→List PyData→za→R za V
 | [],acc,O=>.ok (.d (.list acc)) O
 | x::xs,acc,O=>(match turn x O with
    | .ok y O'=>if src.still O' then yh src turn xs (acc++y.toList) O' else .stuck
    | _=>.stuck)
noncomputable def isV(f:Bool→Bool)(x y:V)(O:za):R za V:=match x with
 | .d a=>(match y with
    | .d b=>opt ((isop a b).map fun c=>.d (.bool (f c))) O
    | _=>.stuck)
 | _=>.stuck
noncomputable def cmpG(op:Cop)(x y:V)(O:za):R za V:=opt (((look O x).bind fun x=>(look O y).bind fun y=>vc op x y).map fun b=>.d (.bool b)) O
noncomputable def cmpV(op:Cop)(x y:V)(O:za):R za V:=match op with
 | .is=>isV id x y O
 | .isnot=>isV not x y O
 | op=>cmpG op x y O
noncomputable def idxV(v u:V)(O:za):R za V:=match u with
 | .d k=>opt (((look O v).bind fun x=>idxD x k).map .d) O
 | _=>.stuck
noncomputable def CE:Type:=Pg→Loc→za→R za V
noncomputable def evE(P:Pg)(ρ:Loc)(c:CE)(O:za):R za V:=c P ρ O
noncomputable def CI:Type:=Pg→Loc→za→R za Src
noncomputable def evI(P:Pg)(ρ:Loc)(c:CI)(O:za):R za Src:=c P ρ O
inductive CEs where
 | nil
 | cons (e:CE) (es:CEs)
noncomputable def evEs(P:Pg)(ρ:Loc):CEs→za→R za (List V)
 | .nil,O=>.ok [] O
 | .cons e es,O=>(evE P ρ e O).bind fun v O=>(evEs P ρ es O).bind fun vs O=>.ok (v::vs) O
noncomputable def xy(P:Pg)(ρ:Loc):CEs→za→R za Bool
 | .nil,O=>.ok true O
 | .cons e es,O=>(evE P ρ e O).bind fun v O=>(opt (truth v) O).bind fun t O=>(match t with
    | true=>xy P ρ es O
    | false=>.ok false O)
noncomputable def boxK(v:V)(O:za):R za V:=match v with
 | .d (.list xs)=>.ok (.box O.length) (O++[.lst xs])
 | _=>.stuck
noncomputable def xq(tgt:CT)(evT:Loc→za→R za Bool)(evX:Loc→za→R za V)(ρ:Loc)(x:PyData)(O:za):R za (Option PyData):=match zp tgt (.d x) ρ with
 | none=>.stuck
 | some ρ'=>(evT ρ' O).bind fun t O=>(match t with
    | false=>.ok none O
    | true=>(evX ρ' O).bind fun v O=>(match v with
       | .d y=>.ok (some y) O
       | _=>.stuck))
noncomputable def negV(v:V)(O:za):R za V:=match v with
 | .d (.int i)=>.ok (.d (.int (-i))) O
 | _=>.stuck
noncomputable def CE.none:CE:=fun _ _ O=>.ok (.d .none) O
noncomputable def CE.bool(b:Bool):CE:=fun _ _ O=>.ok (.d (.bool b)) O
noncomputable def CE.int(i:Int):CE:=fun _ _ O=>.ok (.d (.int i)) O
noncomputable def CE.str(x:Str):CE:=fun _ _ O=>.ok (.d (.str x)) O
noncomputable def CE.loc(i:Nat):CE:=fun _ ρ O=>opt (ρ[i]?.join) O
noncomputable def CE.glob(k:Nat):CE:=fun P _ O=>opt ((P.gval k).map .d) O
noncomputable def CE.tup(es:CEs):CE:=fun P ρ O=>(evEs P ρ es O).bind fun vs O=>opt (tupV vs) O
noncomputable def CE.list(es:CEs):CE:=fun P ρ O=>(evEs P ρ es O).bind fun vs O=>opt ((allD vs).map fun xs=>.d (.list xs)) O
noncomputable def CE.dict:CE:=fun _ _ O=>.ok (.d (.dict [])) O
noncomputable def CE.boxed(e:CE):CE:=fun P ρ O=>(evE P ρ e O).bind boxK
noncomputable def CE.neg(e:CE):CE:=fun P ρ O=>(evE P ρ e O).bind negV
noncomputable def CE.nt(e:CE):CE:=fun P ρ O=>(evE P ρ e O).bind fun v O=>opt ((truth v).map fun b=>.d (.bool !b)) O
noncomputable def andK(r:za→R za V):Bool→za→R za V
 | true,O=>r O
 | false,O=>.ok (.d (.bool false)) O
noncomputable def orK(r:za→R za V):Bool→za→R za V
 | true,O=>.ok (.d (.bool true)) O
 | false,O=>r O
noncomputable def iteK(r q:za→R za V):Bool→za→R za V
 | true,O=>r O
 | false,O=>q O
noncomputable def binK(op:Bop)(v u:V)(O:za):R za V:=opt (((look O v).bind fun x=>(look O u).bind fun y=>zbm op x y).map V.d) O
noncomputable def CE.and_(a b:CE):CE:=fun P ρ O=>(evE P ρ a O).bind fun v O=>(opt (truth v) O).bind (andK fun O=>evE P ρ b O)
noncomputable def CE.or_(a b:CE):CE:=fun P ρ O=>(evE P ρ a O).bind fun v O=>(opt (truth v) O).bind (orK fun O=>evE P ρ b O)
noncomputable def CE.bin(op:Bop)(a b:CE):CE:=fun P ρ O=>(evE P ρ a O).bind fun v O=>(evE P ρ b O).bind fun u O=>binK op v u O
noncomputable def CE.cmp(op:Cop)(a b:CE):CE:=fun P ρ O=>(evE P ρ a O).bind fun v O=>(evE P ρ b O).bind fun u O=>cmpV op v u O
noncomputable def CE.chain(p q:Cop)(a b c:CE):CE:=fun P ρ O=>(evE P ρ a O).bind fun v O=>(evE P ρ b O).bind fun u O=>(cmpV p v u O).bind fun t O=>(opt (truth t) O).bind (andK fun O=>(evE P ρ c O).bind fun y O=>cmpV q u y O)
noncomputable def CE.ite(t a b:CE):CE:=fun P ρ O=>(evE P ρ t O).bind fun v O=>(opt (truth v) O).bind (iteK (fun O=>evE P ρ a O) fun O=>evE P ρ b O)
noncomputable def CE.idx(a i:CE):CE:=fun P ρ O=>(evE P ρ a O).bind fun v O=>(evE P ρ i O).bind fun u O=>idxV v u O
noncomputable def ze3(v l h:V)(O:za):R za V:=match l with
 | .d l=>(match h with
    | .d h=>opt (((look O v).bind fun x=>ze4 x l h).map .d) O
    | _=>.stuck)
 | _=>.stuck
noncomputable def CE.slice(a lo hi:CE):CE:=fun P ρ O=>(evE P ρ a O).bind fun v O=>(evE P ρ lo O).bind fun l O=>(evE P ρ hi O).bind fun h O=>ze3 v l h O
noncomputable def CE.comp(elt:CE)(tgt:CT)(it:CI)(ifs:CEs):CE:=fun P ρ O=>if P.hd=true then .stuck else (evI P ρ it O).bind fun src O=>if src.xs.length≤line then yh src (xq tgt (fun ρ O=>xy P ρ ifs O) (fun ρ O=>evE P ρ elt O) ρ) src.xs [] O else .stuck
noncomputable def CE.listI(it:CI):CE:=fun P ρ O=>if P.hd=true then .stuck else (evI P ρ it O).bind fun src O=>if src.xs.length≤line then .ok (.d (.list src.xs)) O else .stuck
noncomputable def CE.call(f:Nat)(args:CEs):CE:=fun P ρ O=>(evEs P ρ args O).bind fun vs O=>P.call P.hd f vs O
noncomputable def CE.prim(p:Prim)(args:CEs):CE:=fun P ρ O=>if (P.hd && !p.calm)=true then .stuck else (evEs P ρ args O).bind fun vs O=>Mine.prim P p vs O
noncomputable def CE.meth(m:Meth)(o:CE)(args:CEs):CE:=fun P ρ O=>(evE P ρ o O).bind fun v O=>if recv m v O then (evEs P ρ args O).bind fun vs O=>Mine.meth m v vs O else .stuck
noncomputable def srcV(v:V)(O:za):R za Src:=match v with
 | .d x=>opt ((items x).map .plain) O
 | .box n=>(match O[n]? with
    | some (.lst xs)=>.ok (.box n xs) O
    | _=>.stuck)
 | _=>.stuck
noncomputable def zse:PyData→Option Int
 | .int i=>some i
 | _=>none
noncomputable def intV:V→Option Int
 | .d x=>zse x
 | _=>none
noncomputable def xa(v u:V)(O:za):R za (Int×Int):=match intV v with
 | some i=>(match intV u with
    | some j=>if -(10 ^ 9)≤i∧i≤10 ^ 9∧-(10 ^ 9)≤j∧j≤10 ^ 9 then .ok (i,j) O else .stuck
    | none=>.stuck)
 | none=>.stuck
noncomputable def rng(a b:CE)(P:Pg)(ρ:Loc)(O:za):R za (Int×Int):=(evE P ρ a O).bind fun v O=>(evE P ρ b O).bind fun u O=>xa v u O
noncomputable def CI.e(a:CE):CI:=fun P ρ O=>(evE P ρ a O).bind srcV
noncomputable def CI.range(a b:CE):CI:=fun P ρ O=>(rng a b P ρ O).bind fun p O=>.ok (.plain (zj p.1 p.2)) O
noncomputable def z6(src:Src)(turn:PyData→Loc→za→R (Loc×za) Fl):List PyData→Loc→za→R (Loc×za) Fl
 | [],ρ,O=>.ok .next (ρ,O)
 | x::xs,ρ,O=>(match turn x ρ O with
    | .ok (.ret v) S=>.ok (.ret v) S
    | .ok .next S=>if src.still S.2 then z6 src turn xs S.1 S.2 else .stuck
    | _=>.stuck)
noncomputable def yx(test:Loc→za→R (Loc×za) Bool)(turn:Loc→za→R (Loc×za) Fl):Nat→Loc→za→R (Loc×za) Fl
 | 0,_,_=>.stuck
 | n+1,ρ,O=>(match test ρ O with
    | .ok false S=>.ok .next S
    | .ok true S=>(match turn S.1 S.2 with
       | .ok (.ret v) S=>.ok (.ret v) S
       | .ok .next S=>yx test turn n S.1 S.2
       | _=>.stuck)
    | _=>.stuck)
noncomputable def CT.isName:CT→Bool
 | .name _=>true
 | _=>false
noncomputable def CS:Type:=Pg→Loc→za→R (Loc×za) Fl
noncomputable def CSs:Type:=Pg→Loc→za→R (Loc×za) Fl
noncomputable def evS(P:Pg)(c:CS)(ρ:Loc)(O:za):R (Loc×za) Fl:=c P ρ O
noncomputable def evSs(P:Pg)(c:CSs)(ρ:Loc)(O:za):R (Loc×za) Fl:=c P ρ O
structure Fn where
 arity:Nat
 slots:Nat
 keep:Bool
 body:CSs
noncomputable def asgR(t:CT)(v:V)(S:Loc×za):R (Loc×za) Fl:=match zp t v S.1 with
 | some ρ'=>.ok .next (ρ',S.2)
 | none=>.stuck
noncomputable def jv(t:CT)(evb:Loc→za→R (Loc×za) Fl)(x:PyData)(ρ:Loc)(O:za):R (Loc×za) Fl:=match zp t (.d x) ρ with
 | none=>.stuck
 | some ρ'=>evb ρ' O
noncomputable def seqK(p:Loc×za→R (Loc×za) Fl):Fl→Loc×za→R (Loc×za) Fl
 | .ret v,S=>.ok (.ret v) S
 | .next,S=>p S
noncomputable def ifeK(p q:Loc×za→R (Loc×za) Fl):Bool→Loc×za→R (Loc×za) Fl
 | true,S=>p S
 | false,S=>q S
noncomputable def CS.ret(e:CE):CS:=fun P ρ O=>((evE P ρ e O).lift ρ).bind fun v S=>.ok (.ret v) S
noncomputable def CS.asg(t:CT)(e:CE):CS:=fun P ρ O=>if (P.hd && !t.isName)=true then .stuck else ((evE P ρ e O).lift ρ).bind (asgR t)
noncomputable def CS.ife(t:CE)(a b:CSs):CS:=fun P ρ O=>(((evE P ρ t O).bind fun v O=>opt (truth v) O).lift ρ).bind (ifeK (fun S=>evSs P a S.1 S.2) fun S=>evSs P b S.1 S.2)
noncomputable def CS.for_(t:CT)(it:CI)(body:CSs):CS:=fun P ρ O=>if P.hd=true then .stuck else ((evI P ρ it O).lift ρ).bind fun src S=>z6 src (jv t fun ρ O=>evSs P body ρ O) src.xs S.1 S.2
noncomputable def CS.while_(t:CE)(body:CSs):CS:=fun P ρ O=>yx (fun ρ O=>((evE P ρ t O).bind fun v O=>opt (truth v) O).lift ρ) (fun ρ O=>evSs P body ρ O) P.turns ρ O
noncomputable def CS.expr(e:CE):CS:=fun P ρ O=>((evE P ρ e O).lift ρ).bind fun _ S=>.ok .next S
noncomputable def CSs.nil:CSs:=fun _ ρ O=>.ok .next (ρ,O)
noncomputable def CSs.cons(s:CS)(ss:CSs):CSs:=fun P ρ O=>(evS P s ρ O).bind (seqK fun S=>evSs P ss S.1 S.2)
noncomputable def de(base:Nat)(keep:Bool)(n:Nat)(O:za):R za V:=if n < base then .ok (.box n) (O.take base) else (match O[n]? with
 | some (.lst xs)=>(match keep with
    | true=>.ok (.box base) (O.take base++[.lst xs])
    | false=>.ok (.d (.list xs)) (O.take base))
 | _=>.stuck)
noncomputable def frz(O:za)(base:Nat):List It→Option (List PyData)
 | []=>some []
 | .x d::r=>(frz O base r).map (d::·)
 | .b n::r=>if base≤n then (kj O n).bind fun x=>(frz O base r).map (x::·) else none
noncomputable def fin(base:Nat)(keep:Bool)(v:V)(O:za):R za V:=match v with
 | .d x=>.ok (.d x) (O.take base)
 | .box n=>de base keep n O
 | .tm its=>(match frz O base its with
    | some ds=>.ok (.d (.tuple ds)) (O.take base)
    | none=>.stuck)
noncomputable def evFn(P:Pg)(fn:Fn)(args:List V)(O:za):R za V:=
 match evSs P fn.body (args.map some++List.replicate (fn.slots - fn.arity) none) O with
 | .ok (.ret v) S=>fin O.length fn.keep v S.2
 | .ok .next S=>.ok (.d .none) (S.2.take O.length)
 | .stuck=>.stuck
noncomputable def zg(P:Pg)(T:Nat→Option Fn):Nat→Bool→Nat→List V→za→R za V
 | 0,_,_,_,_=>.stuck
 | k+1,hd,f,args,O=>match T f with
   | some fn=>if args.length=fn.arity∧fn.arity≤fn.slots then evFn { P with call:=zg P T k,hd:=hd } fn args O else .stuck
   | none=>.stuck
structure KeepsAll(s s':Shared):Prop where
 gens:s'.gens=s.gens
 os:s'.os=s.os
 kept:∀ b o,s.heap.get? b=some o→s'.heap.get? b=some o
theorem KeepsAll.refl(s:Shared):KeepsAll s s:=⟨rfl,rfl,fun _ _ h=>h⟩
theorem KeepsAll.toks(s:Shared)(n:Nat):KeepsAll s { s with toks:=n }:=⟨rfl,rfl,fun _ _ h=>h⟩
theorem KeepsAll.trans{s s' s'':Shared}(x:KeepsAll s s')(y:KeepsAll s' s''):KeepsAll s s'':=⟨y.gens.trans x.gens,y.os.trans x.os,fun b o e=>y.kept b o (x.kept b o e)⟩
theorem KeepsAll.push(s:Shared)(o:Obj)(n:Nat):KeepsAll s { s with heap:=s.heap.push o,toks:=n }:=⟨rfl,rfl,fun _ _ e=>Heap.get?_push_of_some o e⟩
theorem KeepsAll.step{s s':Shared}(x:KeepsAll s s')(W β:List Addr):Step W β s s' β:=
 ⟨x.gens,x.os,List.prefix_refl _,fun _ h=>.inl h,fun b o e=>⟨o,x.kept b o e⟩,fun b o e _ _=>⟨o,x.kept b o e,Kin.refl o⟩⟩
section
variable{G:Gl}{F:Fm}{N β:List Addr}{ρ:Loc}{O:za}{h h':Heap}
theorem z5(hk:∀ b o,h.get? b=some o→h'.get? b=some o){v:Value}{x:PyData}{as:List Addr}(r:Reads h v x as):Reads h' v x as:=
 jb (P:=fun _=>True) (fun b o e _=>hk b o e) (fun _ _ _ _ _ _ _=>trivial) r fun _ _=>trivial
theorem zw(hk:∀ b o,h.get? b=some o→h'.get? b=some o){v:List Value}{x:List PyData}{as:List Addr}(r:ReadsAll h v x as):ReadsAll h' v x as:=
 xn (P:=fun _=>True) (fun b o e _=>hk b o e) (fun _ _ _ _ _ _ _=>trivial) r fun _ _=>trivial
theorem wk(hk:∀ b o,h.get? b=some o→h'.get? b=some o){vs:List Value}{its:List It}(r:ItsR N β h vs its):ItsR N β h' vs its:=by
 induction r with
 | nil=>exact .nil
 | b h1 _ ih=>exact .b h1 ih
 | x h1 h2 _ ih=>exact .x (z5 hk h1) h2 ih
theorem VR.keepAll(hk:∀ b o,h.get? b=some o→h'.get? b=some o){v:Value}{x:V}(r:VR G N β h v x):VR G N β h' v x:=by
 cases x with
 | d x=>obtain⟨as,r,q⟩:=r;exact⟨as,z5 hk r,q⟩
 | box n=>exact r
 | tm its=>obtain⟨a,o,vs,k,e,h1,h2,h3,h4⟩:=r;exact⟨a,o,vs,k,e,hk _ _ h1,h2,h3,wk hk h4⟩
theorem BoxAt.keepAll(hk:∀ b o,h.get? b=some o→h'.get? b=some o){a:Addr}{bx:Box}(r:BoxAt h N β a bx):BoxAt h' N β a bx:=by
 cases bx with
 | lst xs=>obtain⟨o,vs,n,h1,h2,h3,as,h4,h5⟩:=r;exact⟨o,vs,n,hk _ _ h1,h2,h3,as,zw hk h4,h5⟩
 | dct kvs=>
   obtain⟨o,es,n,h1,h2,h3,h4,h5⟩:=r
   refine⟨o,es,n,hk _ _ h1,h2,h3,h4,fun i e kv he hkv=>?_⟩
   obtain⟨hq,as,bs,r1,r2,q⟩:=h5 i e kv he hkv
   exact⟨hq,as,bs,z5 hk r1,z5 hk r2,q⟩
theorem BR.keepAll(hk:∀ b o,h.get? b=some o→h'.get? b=some o)(b:BR G N β O h):BR G N β O h':=
 ⟨fun c o e=>hk _ _ (b.keep c o e),b.len,b.nodup,b.new,fun i a bx h1 h2=>(b.at_ i a bx h1 h2).keepAll hk,fun a ha=>(b.plain a ha).at fun o e=>hk a o e⟩
theorem Get.keepAll(hk:∀ b o,h.get? b=some o→h'.get? b=some o){env:Env}{x:Str}{v:Value}(g:Get h env x v):Get h' env x v:=by
 rcases g with ⟨h1,m,h2,h3⟩ | ⟨h1,c,h2,h3⟩
 ·exact .inl ⟨h1,m,h2.keeps hk,h3⟩
 ·exact .inr ⟨h1,c,h2,h3.keeps hk⟩
theorem FmOk.keepAll(hk:∀ b o,h.get? b=some o→h'.get? b=some o)(f:FmOk G F β h):FmOk G F β h' where
 kind:=f.kind
 globals:=f.globals
 builtins:=f.builtins
 once:=f.once
 ns:=let ⟨m,e⟩:=f.ns;⟨m,e.keeps hk⟩
 nsW:=f.nsW
 cell:=fun x h1=>let ⟨c,v,h3,h4,h5⟩:=f.cell x h1;⟨c,v,h3,h4.keeps hk,h5⟩
 apart:=f.apart
 sub:=f.sub
 new:=f.new
 notBox:=f.notBox
 stor:=fun a ha=>let ⟨o,h1,h2⟩:=f.stor a ha;⟨o,hk _ _ h1,h2⟩
 frB:=f.frB
 frs:=fun a ha=>let ⟨m,e⟩:=f.frs a ha;⟨m,e.keeps hk⟩
 pin:=fun m e=>⟨(f.pin m e).1.keeps hk,(f.pin m e).2⟩
theorem SR.keepAll(hk:∀ b o,h.get? b=some o→h'.get? b=some o)(r:SR G F β ρ O h):SR G F β ρ O h':=
 ⟨r.br.keepAll hk,r.fm.keepAll hk,fun i x v h1 h2=>let ⟨val,h3,h4⟩:=r.get i x v h1 h2;⟨val,h3.keepAll hk,h4.keepAll hk⟩⟩
end
section
variable{G:Gl}{F:Fm}{s:Shared}{β:List Addr}{ρ:Loc}{O:za}
theorem Does.leaf{α δ:Type}{T:WT α}{d:δ}{Rel:List Addr→Heap→α→δ→Prop}(sr:SR G F β ρ O s.heap)
 (hw:∀ (Q:α→Shared→Prop) (E:Value→Shared→Prop),(∀ v s',KeepsAll s s'→Rel β s'.heap v d→Q v s')→T Q E s) :
 DoesW G F s β T (.ok d (ρ,O)) Rel:=
 fun Q E k=>hw Q E fun v s' ka r=>k s' β v (ka.step _ _) (sr.keepAll ka.kept) r
theorem VR.none{N:List Addr}{h:Heap}:VR G N β h .none (.d .none):=⟨[],.none,fun _ h=>nomatch h⟩
theorem VR.bool{N:List Addr}{h:Heap}{b:Bool}:VR G N β h (.bool b) (.d (.bool b)):=⟨[],.bool b,fun _ h=>nomatch h⟩
theorem VR.int{N:List Addr}{h:Heap}{i:Int}{t:Tok}:VR G N β h (.int i t) (.d (.int i)):=⟨[],.int i t,fun _ h=>nomatch h⟩
theorem VR.str{N:List Addr}{h:Heap}{x:Str}{t:Tok}:VR G N β h (.str x t) (.d (.str x)):=⟨[],.str x t,fun _ h=>nomatch h⟩
end
structure Cx where
 names:List (Option Str)
 sc:Scope
 fname:Nat→Option Str
 gname:Nat→Option Str
 cname:Nat→Option Str
noncomputable def Cx.kind(cx:Cx)(x:Str):Option NameKind:=cx.sc.names.lookup x
noncomputable def wi(x:Str):Bool:=!(x == ("__debug__" : Str))
noncomputable def Cx.isLoc(cx:Cx)(i:Nat)(x:Str):Bool:=(cx.names[i]? == some (some x)) && (cx.kind x == some .local || cx.kind x == some .cell) && wi x
noncomputable def Cx.isGlob(cx:Cx)(x:Str):Bool:=cx.kind x == some .globalImplicit && wi x
noncomputable def zei:Bop→Operator→Bool
 | .add,.Add=>true
 | .sub,.Sub=>true
 | .mul,.Mult=>true
 | .fdiv,.FloorDiv=>true
 | .mod,.Mod=>true
 | .pow,.Pow=>true
 | _,_=>false
noncomputable def xz:Cop→CmpOp→Bool
 | .eq,.Eq=>true
 | .ne,.NotEq=>true
 | .lt,.Lt=>true
 | .le,.LtE=>true
 | .gt,.Gt=>true
 | .ge,.GtE=>true
 | .is,.Is=>true
 | .isnot,.IsNot=>true
 | .in_,.In=>true
 | .notin,.NotIn=>true
 | _,_=>false
noncomputable def vf:Ty→Str
 | .int=>"int"
 | .bool=>"bool"
 | .tuple=>"tuple"
 | .list=>"list"
 | .str=>"str"
noncomputable def wf:Prim→Str
 | .isinst _=>"isinstance"
 | .isexc _=>"isinstance"
 | .len=>"len"
 | .all=>"all"
 | .any=>"any"
 | .sum=>"sum"
 | .sorted=>"sorted"
 | .list=>"list"
 | .tuple=>"tuple"
 | .min2=>"min"
 | .min=>"min"
 | .max=>"max"
 | .int=>"int"
 | .str=>"str"
 | .lenset=>"len"
 | .sortedset=>"sorted"
noncomputable def Prim.plain:Prim→Bool
 | .len | .all | .any | .sum | .sorted | .list | .tuple | .min | .max | .int | .str=>true
 | _=>false
noncomputable def addT:CT→Expr→List (Option Str)→List (Option Str)
 | .name i,.Name x _,l=>if l[i]? == some none then l.set i (some x) else l
 | .two a b,.Tuple [x,y] _ _,l=>addT b y (addT a x l)
 | _,_,l=>l
noncomputable def xf(l:List (Option Str)):Bool:=decide (l.filterMap id).Nodup
noncomputable def chkT(cx:Cx)(own:Str→Bool):CT→Expr→Bool
 | .name i,.Name x _=>cx.isLoc i x && own x
 | .two a b,.Tuple [x,y] _ _=>chkT cx own a x && chkT cx own b y
 | _,_=>false
noncomputable def ownOf(sc:Scope)(x:Str):Bool:=sc.names.lookup x == some .local || sc.names.lookup x == some .cell
noncomputable def zaz(scope sc:Scope):Scope:=
 { scope with names:=scope.names.map fun (n,k)=>if (k == .free && sc.kind == .function && sc.names.lookup n == some .cell) then (n,.cell) else (n,k) }
noncomputable def y9(scope sc:Scope):Bool:=
 scope.kind == .function && decide ((scope.names.map (·.1)).Nodup) && scope.names.all fun (n,k)=>k == .local || k == .cell || k == .globalImplicit || (k == .free && sc.names.lookup n == some .cell)
noncomputable def Cx.inner(cx:Cx)(tgt:CT)(t:Expr)(scope:Scope):Cx:=
 { cx with names:=addT tgt t (cx.names.map fun o=>o.filter fun x=>scope.names.lookup x == some .free),sc:=zaz scope cx.sc }
noncomputable def zb6(x:Expr)(ap q:Pos):Bool:=(ap.endLine == q.line) && (match x with
 | .Name _ _=>true
 | .Subscript _ _ _=>true
 | _=>false)
noncomputable def yr(fn:Fn)(names:List Str):List (Option Str):=names.map some++List.replicate (fn.slots - names.length) none
noncomputable def ua(a:Arguments)(names:List Str)(ar:Nat):Bool:=
 a.posonlyargs.isEmpty && a.vararg.isNone && a.kwonlyargs.isEmpty && a.kw_defaults.isEmpty && a.kwarg.isNone && a.defaults.isEmpty && (a.args.map (·.arg) == names.take ar) && a.args.length == ar
noncomputable def zbc(sc:Scope):Bool:=sc.kind == .function && !sc.isGenerator && !sc.isCoroutine && decide ((sc.names.map (·.1)).Nodup) && sc.names.all fun (_,k)=>k == .local || k == .cell || k == .globalImplicit
noncomputable def zhc(fn:Fn)(names:List Str)(a:Arguments)(sc:Scope):Bool:=
 ua a names fn.arity && zbc sc && decide (names.Nodup) && decide (names.length≤fn.slots) && decide (fn.arity≤names.length) && names.all (ownOf sc)
end Mine
end
section
namespace Mine
open PySem PyProof.Rows
structure Room(A:Around)(k:Nat):Prop where
 depth:A.depth+k < 690
 units:A.units+8 * k < 7000
 guards:A.guards=some []
theorem Room.deeper{A:Around}{k:Nat}(r:Room A (k+1))(env:Env):Room (A.deeper env) k:=
 ⟨by have:=r.depth;show A.depth+1+k < 690;omega,by have:=r.units;show A.units+3+8 * k < 7000;omega,r.guards⟩
theorem Room.room{A:Around}{k:Nat}(r:Room A k):A.depth < recursionLimit:=by have:=r.depth;show A.depth < 1000;omega
theorem Room.c{A:Around}{k n:Nat}(r:Room A k)(hn:n≤2000:=by decide):A.units+n < cLine:=by have:=r.units;show A.units+n < 9900;omega
structure Fits(F:Fm)(cx:Cx):Prop where
 names:F.names=cx.names
 kind:∀ x,F.env.kindOf x=cx.kind x
 sck:cx.sc.kind=.function
noncomputable def bis:List (Str×Value):=[("isinstance",.builtin "isinstance"),("len",.builtin "len"),("all",.builtin "all"),("any",.builtin "any"),("sum",.builtin "sum"),("sorted",.builtin "sorted"),("min",.builtin "min"),("max",.builtin "max"),
 ("list",.type "list"),("tuple",.type "tuple"),("int",.type "int"),("str",.type "str"),("set",.type "set"),("bool",.type "bool"),("range",.type "range"),("zip",.type "zip"),("enumerate",.type "enumerate"),("reversed",.type "reversed")]
structure GOk(G:Gl)(gval:Nat→Option PyData)(gname:Nat→Option Str):Prop where
 nolimit:G.h₀.NoLimit
 g:G.h₀.Ns mainGlobals G.mg
 b:G.h₀.Ns builtinsNs G.mb
 gl:∀ k d x,gval k=some d→gname k=some x→∃ v,G.mg x=some v∧Reads G.h₀ v d []
 clsRef:∀ c,∃ C,G.cls c=.ref C
 bi:∀ p∈bis,G.mg p.1=none∧G.mb p.1=some p.2
 digits:∃ mc,G.h₀.Ns cStatics mc∧mc "sys.int_max_str_digits" = none
section
variable{G:Gl}{F:Fm}{A:Around}{s:Shared}{β:List Addr}{ρ:Loc}{O:za}{cx:Cx}{gval:Nat→Option PyData}{gname:Nat→Option Str}
noncomputable abbrev VRel(G:Gl)(F:Fm):List Addr→Heap→Value→V→Prop:=fun β h v d=>VR G F.B β h v d
theorem ug{i:Nat}{x:Str}(h:cx.isLoc i x=true):cx.names[i]?=some (some x)∧(cx.kind x=some .local∨cx.kind x=some .cell)∧(x == ("__debug__" : Str))=false:=by
 simp only[Cx.isLoc,wi,Bool.and_eq_true,Bool.or_eq_true,beq_iff_eq,Bool.not_eq_true'] at h
 exact⟨h.1.1,h.1.2,h.2⟩
theorem wl{x:Str}(h:cx.isGlob x=true):cx.kind x=some .globalImplicit∧(x == ("__debug__" : Str))=false:=by
 simp only[Cx.isGlob,wi,Bool.and_eq_true,beq_iff_eq,Bool.not_eq_true'] at h
 exact h
theorem zsw{i:Nat}{x:Str}{p:Pos}(sr:SR G F β ρ O s.heap)(fit:Fits F cx)(h:cx.isLoc i x=true) :
 Does G F A s β (eval (.Name x p) F.env) ((opt (ρ[i]?.join) O).lift ρ) (VRel G F):=by
 obtain⟨h1,h2,h3⟩:=ug h
 cases hv:ρ[i]?.join with
 | none=>trivial
 | some v=>
   have hv':ρ[i]?=some (some v):=by
    cases e:ρ[i]? with
    | none=>rw[e] at hv;cases hv
    | some o=>rw[e] at hv;cases o with
      | none=>cases hv
      | some u=>cases hv;rfl
   obtain⟨val,g,r⟩:=sr.get i x v (by rw[fit.names];exact h1) hv'
   refine Does.leaf sr fun Q E k=>?_
   have hq:Q val s:=k val s (KeepsAll.refl s) r
   rcases g with ⟨gk,m,gm,gx⟩ | ⟨gk,c,gc,gx⟩
   ·exact wpAny_Name (wpAny_loadName_local sr.fm.kind gk gm gx hq) h3
   ·exact wpAny_Name (wpAny_loadName_cell sr.fm.kind gk gc gx hq) h3
theorem zbd{x:Str}{p:Pos}{v:Value}{Q:Value→Shared→Prop}{E:Value→Shared→Prop}(g:GOk G gval gname)(sr:SR G F β ρ O s.heap)(fit:Fits F cx)(h:cx.isGlob x=true)(hv:G.mg x=some v)(q:Q v s) :
 wpAny (model G.prog G.w) A (eval (.Name x p) F.env) Q E s:=by
 obtain⟨h1,h2⟩:=wl h
 exact Calls.Name_function_global sr.fm.kind ((fit.kind x).trans h1) (Calls.loadGlobal_global (mg:=G.mg) (by rw[sr.fm.globals];exact g.g.keeps sr.br.keep) hv q) h2
theorem ym{x:Str}{p:Pos}{v:Value}{Q:Value→Shared→Prop}{E:Value→Shared→Prop}(g:GOk G gval gname)(sr:SR G F β ρ O s.heap)(fit:Fits F cx)(h:cx.isGlob x=true)(hm:G.mg x=none)(hv:G.mb x=some v)(q:Q v s) :
 wpAny (model G.prog G.w) A (eval (.Name x p) F.env) Q E s:=by
 obtain⟨h1,h2⟩:=wl h
 exact Calls.Name_function_global sr.fm.kind ((fit.kind x).trans h1) (Calls.loadGlobal_builtin (mg:=G.mg) (mb:=G.mb) (by rw[sr.fm.globals];exact g.g.keeps sr.br.keep) hm (by rw[sr.fm.builtins];exact g.b.keeps sr.br.keep) hv q) h2
theorem zqr{k:Nat}{x:Str}{p:Pos}(g:GOk G gval gname)(sr:SR G F β ρ O s.heap)(fit:Fits F cx)(hk:gname k=some x)(h:cx.isGlob x=true) :
 Does G F A s β (eval (.Name x p) F.env) ((opt ((gval k).map V.d) O).lift ρ) (VRel G F):=by
 cases hd:gval k with
 | none=>trivial
 | some d=>
   obtain⟨v,hv,r⟩:=g.gl k d x hd hk
   refine Does.leaf sr fun Q E q=>zbd g sr fit h hv (q v s (KeepsAll.refl s) ⟨[],z5 sr.br.keep r,fun _ h=>nomatch h⟩)
end
end Mine
end
section
namespace Mine
open PySem
theorem and2{a b:Bool}(h:(a && b)=true):a=true∧b=true:=Bool.and_eq_true_iff.mp h
theorem and3{a b c:Bool}(h:(a && b && c)=true):a=true∧b=true∧c=true:=by
 obtain⟨h1,h2⟩:=and2 h;obtain⟨h3,h4⟩:=and2 h1;exact⟨h3,h4,h2⟩
end Mine
end
section
namespace Mine
open PySem PyProof.Rows
section
variable{G:Gl}{N β:List Addr}{h:Heap}{v:Value}
theorem VR.none_inv(r:VR G N β h v (.d .none)):v=.none:=by obtain⟨_,r,_⟩:=r;cases r;rfl
theorem VR.bool_inv{b:Bool}(r:VR G N β h v (.d (.bool b))):v=.bool b:=by obtain⟨_,r,_⟩:=r;cases r;rfl
theorem VR.int_inv{i:Int}(r:VR G N β h v (.d (.int i))):∃ t,v=.int i t:=by obtain⟨_,r,_⟩:=r;cases r;exact⟨_,rfl⟩
theorem VR.str_inv{x:Str}(r:VR G N β h v (.d (.str x))):∃ t,v=.str x t:=by obtain⟨_,r,_⟩:=r;cases r;exact⟨_,rfl⟩
inductive TupV(h:Heap)(N β:List Addr)(v:Value)(xs:List PyData):Prop
 | mk (a:Addr) (o:Obj) (vs:Array Value) (n:Nat) (hv:v=.ref a) (h1:h.get? a=some o) (h2:o.cls=.type "tuple") (h3:o.data=.seq vs n) (as:List Addr) (h4:ReadsAll h vs.toList xs as) (h5:∀ a∈as,a∉β∧a∉N)
theorem VR.tuple_inv{xs:List PyData}(r:VR G N β h v (.d (.tuple xs))):TupV h N β v xs:=by
 obtain⟨_,r,q⟩:=r
 cases r with
 | tuple h1 h2 h3 h4=>exact⟨_,_,_,_,rfl,h1,h2,h3,_,h4,q⟩
theorem VR.list_inv{xs:List PyData}(r:VR G N β h v (.d (.list xs))):∃ a,v=.ref a∧ListAt h N β a xs∧a∉β∧a∉N:=by
 obtain⟨_,r,q⟩:=r
 cases r with
 | list h1 h2 h3 h4=>exact⟨_,rfl,⟨_,_,_,h1,h2,h3,_,h4,fun a ha=>q a (.tail _ ha)⟩,q _ (.head _)⟩
end
inductive VRs(G:Gl)(N β:List Addr)(h:Heap):List Value→List V→Prop
 | nil:VRs G N β h [] []
 | cons {v:Value} {d:V} {vs:List Value} {ds:List V}:VR G N β h v d→VRs G N β h vs ds→VRs G N β h (v::vs) (d::ds)
section
variable{G:Gl}{N β:List Addr}{h:Heap}
theorem VRs.length{vs:List Value}{ds:List V}(r:VRs G N β h vs ds):vs.length=ds.length:=by
 induction r with
 | nil=>rfl
 | cons _ _ ih=>simp[ih]
set_option tactic.hygienic true in
theorem VRs.data{vs:List Value}{ds:List V}(r:VRs G N β h vs ds):∀ {xs:List PyData},allD ds=some xs→∃ as,ReadsAll h vs xs as∧∀ a∈as,a∉β∧a∉N:=by
 induction r with
 | nil=>intro xs e;cases e;exact⟨[],.nil,fun _ h=>nomatch h⟩
 | cons r _ ih=>
   rename_i v d vs ds _
   intro xs e
   cases d with
   | d x=>
     simp only[allD,Option.map_eq_some_iff] at e
     obtain⟨ys,e1,rfl⟩:=e
     obtain⟨as,r1,q1⟩:=r
     obtain⟨bs,r2,q2⟩:=ih e1
     exact⟨as++bs,.cons r1 r2,fun a ha=>(List.mem_append.mp ha).elim (q1 a) (q2 a)⟩
   | box n=>cases e
   | tm n=>cases e
set_option tactic.hygienic true in
theorem VRs.its{vs:List Value}{ds:List V}(r:VRs G N β h vs ds):∀ {is:List It},allI ds=some is→ItsR N β h vs is:=by
 induction r with
 | nil=>intro xs e;cases e;exact .nil
 | cons r _ ih=>
   rename_i v d vs ds _
   intro xs e
   cases d with
   | d x=>
     simp only[allI,Option.map_eq_some_iff] at e
     obtain⟨ys,e1,rfl⟩:=e
     obtain⟨as,r1,q1⟩:=r
     exact .x r1 q1 (ih e1)
   | box n=>
     simp only[allI,Option.map_eq_some_iff] at e
     obtain⟨ys,e1,rfl⟩:=e
     obtain⟨a,h1,rfl⟩:=r
     exact .b h1 (ih e1)
   | tm n=>cases e
end
section
variable{G:Gl}{F:Fm}{β β':List Addr}{O:za}{s s':Shared}
theorem VRs.step(b:BR G F.B β O s.heap)(f:FmOk G F β s.heap)(st:Step F.W β s s' β'){vs:List Value}{ds:List V}(r:VRs G F.B β s.heap vs ds):VRs G F.B β' s'.heap vs ds:=by
 induction r with
 | nil=>exact .nil
 | cons r _ ih=>exact .cons (r.step b f st) ih
end
theorem xj{e:Expr}(h:∀ l k p,e≠.Set l k p)(op:CmpOp):behindInMarks op e=false:=by
 cases e <;> first | rfl | exact absurd rfl (h _ _ _)
theorem k7{e:Expr}(h:∀ l k p,e≠.Set l k p)(env:Env)(x:Value):foldedSetIterable e env x=pure x:=by
 cases e <;> first | rfl | exact absurd rfl (h _ _ _)
section
variable{G:Gl}{F:Fm}{A:Around}{s:Shared}{β:List Addr}{ρ:Loc}{O:za}
noncomputable abbrev VRsl(G:Gl)(F:Fm):List Addr→Heap→List Value→List V→Prop:=fun β h v d=>VRs G F.B β h v d
theorem xg{pos:Pos}(sr:SR G F β ρ O s.heap):Does G F A s β (spliced (backTo pos (starEach [] F.env))) ((R.ok ([]:List V) O).lift ρ) (VRsl G F):=
 Does.leaf sr fun Q E k=>wpAny_items_nil (k _ _ (KeepsAll.refl s) .nil)
theorem yn{pos:Pos}{e:Expr}{rest:List Expr}{r:R za V}{g:za→R za (List V)}
 (he:starEach (e::rest) F.env=(false,eval e F.env)::starEach rest F.env)
 (h1:Does G F A s β (eval e F.env) (r.lift ρ) (VRel G F))
 (h2:∀ s' β' O',SR G F β' ρ O' s'.heap→Does G F A s' β' (spliced (backTo pos (starEach rest F.env))) ((g O').lift ρ) (VRsl G F)) :
 Does G F A s β (spliced (backTo pos (starEach (e::rest) F.env))) ((r.bind fun v O=>(g O).bind fun vs O=>.ok (v::vs) O).lift ρ) (VRsl G F):=by
 refine DoesW.seqE (T₂:=fun v Q E s'=>wpAny (model G.prog G.w) A (spliced (backTo pos (starEach rest F.env))) (fun vs s₂=>Q (v::vs) s₂) E s') (fun Q E h=>wpAny_items_cons h he) h1 fun s' β' v d O' _ st sr' rv=>?_
 refine DoesW.seqE (T₁:=tr G A (spliced (backTo pos (starEach rest F.env)))) (T₂:=fun vs Q E s'=>Q (v::vs) s') (fun Q E h=>h) (h2 s' β' O' sr') fun s₂ β₂ vs ds O₂ _ st₂ sr₂ rvs=>?_
 exact Does.leaf sr₂ fun Q E k=>k _ _ (KeepsAll.refl s₂) (.cons (rv.step sr'.br sr'.fm st₂) rvs)
theorem SR.push{h:Heap}(sr:SR G F β ρ O h)(o:Obj):SR G F β ρ O (h.push o):=sr.keepAll fun _ _ e=>Heap.get?_push_of_some o e
theorem wh{h:Heap}{l:List Addr}(al:∀ a∈l,∃ o,h.get? a=some o):h.objs.size∉l:=fun hm=>by
 obtain⟨o,e⟩:=al _ hm
 exact Nat.lt_irrefl _ (Heap.lt_size e)
theorem SR.size_new{h:Heap}(sr:SR G F β ρ O h):h.objs.size∉β∧h.objs.size∉F.B:=
 ⟨wh fun a ha=>let ⟨o,e,_⟩:=sr.br.alive a ha;⟨o,e⟩,wh fun a ha=>let ⟨o,e,_⟩:=sr.fm.stor a ha;⟨o,e⟩⟩
theorem zbq{vs:List Value}{ds:List V}{d:V}(r:VRs G F.B β s.heap vs ds)(e:tupV ds=some d) :
 VR G F.B β (s.heap.push { cls:=.type "tuple",data:=.seq vs.toArray }) (.ref s.heap.objs.size) d:=by
 have hk:∀ b o,s.heap.get? b=some o→(s.heap.push { cls:=.type "tuple",data:=.seq vs.toArray }).get? b=some o:=fun _ _ e=>Heap.get?_push_of_some _ e
 unfold tupV at e
 cases hd:allD ds with
 | some xs=>
   rw[hd] at e;cases e
   obtain⟨as,r1,q⟩:=r.data hd
   exact⟨as,.tuple (Heap.get?_push_size _ rfl) rfl rfl (zw hk r1),q⟩
 | none=>
   rw[hd] at e
   simp only[Option.map_eq_some_iff] at e
   obtain⟨is,e1,rfl⟩:=e
   exact⟨_,_,_,_,rfl,Heap.get?_push_size _ rfl,rfl,rfl,wk hk (r.its e1)⟩
theorem zcu{vs:List Value}{ds:List V}{xs:List PyData}{ρ:Loc}{O:za}(sr:SR G F β ρ O s.heap)(r:VRs G F.B β s.heap vs ds)(e:allD ds=some xs) :
 VR G F.B β (s.heap.push { cls:=.type "list",data:=.seq vs.toArray }) (.ref s.heap.objs.size) (.d (.list xs)):=by
 obtain⟨as,r1,q⟩:=r.data e
 refine⟨_::as,.list (Heap.get?_push_size _ rfl) rfl rfl (zw (fun _ _ e=>Heap.get?_push_of_some _ e) r1),fun a ha=>?_⟩
 rcases List.mem_cons.mp ha with rfl | ha
 ·exact sr.size_new
 ·exact q a ha
theorem zss{elts:List Expr}{k:Nat}{pos:Pos}{r:R za (List V)}(hl:∀ vs O,r=.ok vs O→vs.length≤line)
 (h1:Does G F A s β (spliced (backTo pos (starEach elts F.env))) (r.lift ρ) (VRsl G F)) :
 Does G F A s β (eval (.Tuple elts k pos) F.env) ((r.bind fun vs O=>opt (tupV vs) O).lift ρ) (VRel G F):=by
 refine DoesW.seqE (T₂:=fun vs Q E s₁=>vs.length≤sizeLine∧Q (.ref s₁.heap.objs.size) { s₁ with heap:=s₁.heap.push { cls:=.type "tuple",data:=.seq vs.toArray } }) (fun Q E h=>wpAny_Tuple h) h1 fun s' β' vs ds O' e st sr rv=>?_
 cases hd:tupV ds with
 | none=>trivial
 | some d=>
   have hz:vs.length≤sizeLine:=by rw[rv.length];exact Nat.le_trans (hl _ _ e) (by decide)
   exact Does.leaf sr fun Q E q=>⟨hz,q _ _ (KeepsAll.push s' _ _) (zbq rv hd)⟩
end
section
variable{G:Gl}{F:Fm}{A:Around}{s:Shared}{β:List Addr}{ρ:Loc}{O:za}
theorem ud{N:List Addr}{h:Heap}(b:BR G N β O h){n:Nat}{a:Addr}{x:PyData}(ha:β[n]?=some a)(e:kj O n=some x):∃ xs,x=.list xs∧ListAt h N β a xs:=by
 unfold kj at e
 cases ho:O[n]? with
 | none=>rw[ho] at e;cases e
 | some bx=>
   rw[ho] at e
   cases bx with
   | lst xs=>cases e;exact⟨xs,rfl,b.at_ n a _ ha ho⟩
   | dct kvs=>cases e
theorem ListAt.reads{N:List Addr}{h:Heap}{a:Addr}{xs:List PyData}(l:ListAt h N β a xs):∃ as,Reads h (.ref a) (.list xs) (a::as)∧∀ b∈as,b∉β∧b∉N:=by
 obtain⟨o,vs,n,h1,h2,h3,as,h4,h5⟩:=l
 exact⟨as,.list h1 h2 h3 h4,h5⟩
theorem vv(sr:SR G F β ρ O s.heap){v:Value}{d:V}(r:VR G F.B β s.heap v d){x:PyData}(e:look O d=some x):∃ as,Reads s.heap v x as:=by
 cases d with
 | d y=>cases e;obtain⟨as,r,_⟩:=r;exact⟨as,r⟩
 | box n=>
   obtain⟨a,ha,rfl⟩:=r
   obtain⟨xs,rfl,l⟩:=ud sr.br ha e
   obtain⟨as,r,_⟩:=l.reads
   exact⟨_,r⟩
 | tm n=>cases e
theorem yb(sr:SR G F β ρ O s.heap){v:Value}{d:V}(r:VR G F.B β s.heap v d){xs:List PyData}(e:look O d=some (.list xs)):∃ a,v=.ref a∧ListAt s.heap F.B β a xs:=by
 cases d with
 | d y=>cases e;obtain⟨a,h1,h2,_⟩:=r.list_inv;exact⟨a,h1,h2⟩
 | box n=>
   obtain⟨a,ha,rfl⟩:=r
   obtain⟨ys,e',l⟩:=ud sr.br ha e
   cases e'
   exact⟨a,rfl,l⟩
 | tm n=>cases e
theorem yi{d:V}{x:PyData}(e:look O d=some x)(hx:∀ xs,x≠.list xs):d=.d x:=by
 cases d with
 | d y=>cases e;rfl
 | box n=>
   exfalso
   simp only[look,kj] at e
   cases ho:O[n]? with
   | none=>rw[ho] at e;cases e
   | some bx=>
     rw[ho] at e
     cases bx with
     | lst xs=>cases e;exact hx _ rfl
     | dct kvs=>cases e
 | tm n=>cases e
set_option tactic.hygienic true in
theorem zh7{v:Value}{x:PyData}{b:Bool}{as:List Addr}(r:Reads s.heap v x as):isSame v (.bool b)=pure (isBool b x):=by
 cases r <;> first | rfl | (rename_i c;cases b <;> cases c <;> rfl)
theorem zfv{v:Value}{x:PyData}{as:List Addr}(r:Reads s.heap v x as):isSame v .none=pure (isNone x):=by cases r <;> rfl
theorem zms(sr:SR G F β ρ O s.heap){v u:Value}{x y:PyData}{b:Bool}(rv:VR G F.B β s.heap v (.d x))(ru:VR G F.B β s.heap u (.d y))(e:isop x y=some b):isSame v u=pure b:=by
 obtain⟨as,r,_⟩:=rv
 cases y <;> first | (cases e;done) | skip
 ·have:=ru.none_inv;subst this
  rw[← Option.some.inj e];exact zfv r
 ·have:=ru.bool_inv;subst this
  rw[← Option.some.inj e];exact zh7 r
theorem zme{f:Int→Int→Bool}{x y:PyData}{b:Bool}(e:ordD f x y=some b):∃ i j,x=.int i∧y=.int j∧f i j=b:=by
 cases x <;> first | (cases e;done) | skip
 cases y <;> first | (cases e;done) | skip
 exact⟨_,_,rfl,rfl,Option.some.inj e⟩
theorem zkp{x y:PyData}{c b:Bool}(e:(if eqOk x y then some c else none)=some b):(x.canLay0=true∧y.canLay0=true)∧min x.depth y.depth≤100∧c=b:=by
 by_cases h:eqOk x y=true
 ·rw[if_pos h] at e
  have h':=h
  simp only[eqOk,Bool.and_eq_true,decide_eq_true_eq] at h'
  exact⟨h'.1,h'.2,Option.some.inj e⟩
 ·rw[if_neg h] at e;cases e
theorem zmt{x:PyData}{xs:List PyData}{b:Bool}(e:inD x xs=some b):(x.canLay0=true∧PyData.canLayAll0 xs=true)∧x.depth≤100∧(xs.any fun y=>PyData.eqv y x)=b:=by
 unfold inD at e
 by_cases h:(x.canLay0 && PyData.canLayAll0 xs && decide (x.depth≤100))=true
 ·rw[if_pos h] at e
  have h':=h
  simp only[Bool.and_eq_true,decide_eq_true_eq] at h'
  exact⟨h'.1,h'.2,Option.some.inj e⟩
 ·rw[if_neg h] at e;cases e
theorem zjb{y:PyData}{xs:List PyData}(e:seqD y=some xs):y=.list xs∨y=.tuple xs:=by
 cases y <;> first | (cases e;done) | skip
 ·cases e;exact .inl rfl
 ·cases e;exact .inr rfl
theorem zj9{x y:PyData}{b:Bool}(e:(seqD y).bind (inD x)=some b):∃ xs,(y=.list xs∨y=.tuple xs)∧(x.canLay0=true∧PyData.canLayAll0 xs=true)∧x.depth≤100∧(xs.any fun y=>PyData.eqv y x)=b:=by
 cases h:seqD y with
 | none=>rw[h] at e;cases e
 | some xs=>rw[h] at e;exact⟨xs,zjb h,zmt e⟩
noncomputable def Cop.op:Cop→CmpOp
 | .eq=>.Eq
 | .ne=>.NotEq
 | .lt=>.Lt
 | .le=>.LtE
 | .gt=>.Gt
 | .ge=>.GtE
 | .is=>.Is
 | .isnot=>.IsNot
 | .in_=>.In
 | .notin=>.NotIn
theorem zqz{op:Cop}{o:CmpOp}(h:xz op o=true):o=op.op:=by cases op <;> cases o <;> first | rfl | exact (Bool.false_ne_true h).elim
theorem qo{f:Int→Int→Bool}{v u:Value}{x y:PyData}{as bs:List Addr}{b:Bool}(rv:Reads s.heap v x as)(ru:Reads s.heap u y bs)(e:ordD f x y=some b):∃ i j t t',v=.int i t∧u=.int j t'∧f i j=b:=by
 obtain⟨i,j,rfl,rfl,rfl⟩:=zme e
 cases rv;cases ru
 exact⟨_,_,_,_,rfl,rfl,rfl⟩
theorem zk9{op:Cop}{o:CmpOp}{v u:Value}{x y:PyData}{as bs:List Addr}{b:Bool}{Q:Value→Shared→Prop}{E:Value→Shared→Prop}{k:Nat}(ro:Room A k)(ho:xz op o=true)
 (rv:Reads s.heap v x as) (ru:Reads s.heap u y bs) (e:vc op x y=some b) (q:Q (.bool b) s):wpAny (model G.prog G.w) A (compareOp o v u) Q E s:=by
 have hu:=ro.c (n:=200)
 rw[zqz ho]
 clear ho ro
 have hle:∀ {a:Nat},a≤100→A.units+a < cLine:=fun h=>Nat.lt_of_le_of_lt (Nat.add_le_add_left (Nat.le_trans h (by decide)) _) hu
 cases op with
 | eq=>
   obtain⟨⟨h1,h2⟩,h3,rfl⟩:=zkp e
   exact SeqAt.compareEq_reads rv ru h1 h2 (hle h3) q
 | ne=>
   obtain⟨⟨h1,h2⟩,h3,rfl⟩:=zkp e
   exact SeqAt.compareNe_reads rv ru h1 h2 (hle h3) q
 | lt=>
   obtain⟨i,j,t,t',rfl,rfl,rfl⟩:=qo rv ru e
   exact wpAny_lt_int q
 | le=>
   obtain⟨i,j,t,t',rfl,rfl,rfl⟩:=qo rv ru e
   exact le_int q
 | gt=>
   obtain⟨i,j,t,t',rfl,rfl,rfl⟩:=qo rv ru e
   exact PySem.P.gt_int q
 | ge=>
   obtain⟨i,j,t,t',rfl,rfl,rfl⟩:=qo rv ru e
   exact PySem.P.ge_int q
 | is=>cases e
 | isnot=>cases e
 | in_=>
   obtain⟨xs,hy,⟨h1,h2⟩,h3,rfl⟩:=zj9 e
   rcases hy with rfl | rfl
   ·exact SeqAt.in_list_reads ru rv h2 h1 (by omega) q
   ·exact SeqAt.in_tuple_reads ru rv h2 h1 (by omega) q
 | notin=>
   obtain⟨c,e1,rfl⟩:=Option.map_eq_some_iff.mp e
   obtain⟨xs,hy,⟨h1,h2⟩,h3,rfl⟩:=zj9 e1
   rcases hy with rfl | rfl
   ·exact SeqAt.notIn_list_reads ru rv h2 h1 (by omega) q
   ·exact SeqAt.notIn_tuple_reads ru rv h2 h1 (by omega) q
end
structure KeepsL(L:Addr)(s s':Shared):Prop where
 gens:s'.gens=s.gens
 os:s'.os=s.os
 kept:∀ b o,b≠L→s.heap.get? b=some o→s'.heap.get? b=some o
 ns:∀ m,s.heap.Ns L m→s'.heap.Ns L m
section
variable{G:Gl}{F:Fm}{β:List Addr}{ρ:Loc}{O:za}{s s':Shared}
theorem KeepsL.step(x:KeepsL F.env.locals s s')(f:FmOk G F β s.heap):Step F.W β s s' β where
 gens:=x.gens
 os:=x.os
 pre:=List.prefix_refl _
 fresh:=fun _ h=>.inl h
 alive:=fun b o e=>by
  by_cases hb:b=F.env.locals
  ·subst hb
   obtain⟨m,hm⟩:=f.ns
   obtain⟨o',_,_,h,_⟩:=x.ns m hm
   exact⟨o',h⟩
  ·exact⟨o,x.kept b o hb e⟩
 kept:=fun b o e _ hW=>⟨o,x.kept b o (fun h=>hW (h ▸ f.nsW)) e,Kin.refl o⟩
theorem SR.keepL(x:KeepsL F.env.locals s s')(r:SR G F β ρ O s.heap):SR G F β ρ O s'.heap:=by
 have st:=x.step r.fm
 have nL:F.env.locals∈F.B:=r.fm.sub _ r.fm.nsW
 have ne:∀ {a:Addr},a∈β→a≠F.env.locals:=fun ha e=>r.fm.notBox _ nL (e ▸ ha)
 refine⟨⟨fun c o e=>x.kept c o (fun h=>?_) (r.br.keep c o e),r.br.len,r.br.nodup,r.br.new,fun i a bx h1 h2=>?_,fun a ha=>(r.br.plain a ha).at fun o e=>x.kept a o (ne ha) e⟩,⟨r.fm.kind,r.fm.globals,r.fm.builtins,r.fm.once,?_,r.fm.nsW,?_,r.fm.apart,r.fm.sub,r.fm.new,r.fm.notBox,?_,r.fm.frB,fun a ha=>?_,fun m e=>⟨x.ns m (r.fm.pin m e).1,(r.fm.pin m e).2⟩⟩,fun i y v h1 h2=>?_⟩
 ·have:=r.fm.newW r.fm.nsW
  rw[← h,e] at this;cases this
 ·have hb:=r.br.at_ i a bx h1 h2
  have hne:=ne (List.mem_of_getElem? h1)
  cases bx with
  | lst xs=>
    obtain⟨o,vs,n,e1,e2,e3,as,e4,e5⟩:=hb
    exact⟨o,vs,n,x.kept _ _ hne e1,e2,e3,as,(zu r.br r.fm st e4 e5).1,e5⟩
  | dct kvs=>
    obtain⟨o,es,n,e1,e2,e3,e4,e5⟩:=hb
    refine⟨o,es,n,x.kept _ _ hne e1,e2,e3,e4,fun i e kv he hkv=>?_⟩
    obtain⟨hq,as,bs,r1,r2,q⟩:=e5 i e kv he hkv
    exact⟨hq,as,bs,(z9 r.br r.fm st r1 fun a ha=>q a (List.mem_append_left _ ha)).1,(z9 r.br r.fm st r2 fun a ha=>q a (List.mem_append_right _ ha)).1,q⟩
 ·obtain⟨m,hm⟩:=r.fm.ns;exact⟨m,x.ns m hm⟩
 ·intro y h1
  obtain⟨c,v,h3,⟨o,h4,h4'⟩,h5⟩:=r.fm.cell y h1
  refine⟨c,v,h3,⟨o,x.kept _ _ (fun h=>?_) h4,h4'⟩,h5⟩
  obtain⟨m,o',es,ep,q1,q2,_⟩:=r.fm.ns
  rw[h] at h4;rw[h4] at q1;cases q1;rw[h4'] at q2;cases q2
 ·intro a ha
  obtain⟨o,h1,h2⟩:=r.fm.stor a ha
  by_cases hb:a=F.env.locals
  ·subst hb
   obtain⟨m,hm⟩:=r.fm.ns
   obtain⟨o',es,ep,h,hd,_⟩:=x.ns m hm
   exact⟨o',h,fun vs n hv=>by rw[hd] at hv;cases hv⟩
  ·exact⟨o,x.kept _ _ hb h1,h2⟩
 ·obtain⟨m,hm⟩:=r.fm.frs a ha
  by_cases hb:a=F.env.locals
  ·subst hb;exact⟨m,x.ns m hm⟩
  ·obtain⟨o,es,ep,h1,h2⟩:=hm
   exact⟨m,o,es,ep,x.kept _ _ hb h1,h2⟩
 ·obtain⟨val,g,rv⟩:=r.get i y v h1 h2
  refine⟨val,?_,rv.step r.br r.fm st⟩
  rcases g with ⟨g1,m,g2,g3⟩ | ⟨g1,c,g2,o,g3,g4⟩
  ·exact .inl ⟨g1,m,x.ns m g2,g3⟩
  ·refine .inr ⟨g1,c,g2,o,x.kept _ _ (fun h=>?_) g3,g4⟩
   obtain⟨m,o',es,ep,q1,q2,_⟩:=r.fm.ns
   rw[h] at g3;rw[g3] at q1;cases q1;rw[g4] at q2;cases q2
theorem Does.leafL{α δ:Type}{T:WT α}{d:δ}{Rel:List Addr→Heap→α→δ→Prop}(sr:SR G F β ρ O s.heap)
 (hw:∀ (Q:α→Shared→Prop) (E:Value→Shared→Prop),(∀ v s',KeepsL F.env.locals s s'→Rel β s'.heap v d→Q v s')→T Q E s) :
 DoesW G F s β T (.ok d (ρ,O)) Rel:=
 fun Q E k=>hw Q E fun v s' ka r=>k s' β v (ka.step sr.fm) (sr.keepL ka) r
end
noncomputable def q0(h:Heap)(L:Addr):Heap:={ objs:=h.objs.extract 0 L,life:=h.life }
theorem uy{h:Heap}{L a:Addr}:(q0 h L).get? a=if a < L then h.get? a else none:=by
 have e:(h.objs.extract 0 L)[a]?=if a < L then h.objs[a]? else none:=by
  rw[Array.getElem?_extract]
  generalize h.objs=x
  have key:∀ (n L a:Nat),(a < min L n - 0)↔(a < L∧a < n):=fun n L a=>by rw[Nat.sub_zero];exact Nat.lt_min
  by_cases h1:a < L
  ·by_cases h2:a < x.size
   ·rw[if_pos ((key _ _ _).mpr ⟨h1,h2⟩),if_pos h1,Nat.zero_add]
   ·rw[if_neg (fun q=>h2 ((key _ _ _).mp q).2),if_pos h1,Array.getElem?_eq_none (Nat.not_lt.mp h2)]
  ·rw[if_neg (fun q=>h1 ((key _ _ _).mp q).1),if_neg h1]
 unfold Heap.get? q0
 dsimp only
 rw[e]
 by_cases h1:a < L
 ·rw[if_pos h1,if_pos h1]
 ·rw[if_neg h1,if_neg h1]
noncomputable def newsOf(h:Heap)(L:Addr):List (Addr×Obj):=(List.range h.objs.size).filterMap fun a=>if L < a then (h.get? a).map fun o=>(a,o) else none
set_option tactic.hygienic true in
theorem mem_newsOf{h:Heap}{L:Addr}{p:Addr×Obj}:p∈newsOf h L↔L < p.1∧h.get? p.1=some p.2:=by
 unfold newsOf
 rw[List.mem_filterMap]
 constructor
 ·rintro⟨a,_,e⟩
  split at e
  ·rename_i hl
   rw[Option.map_eq_some_iff] at e
   obtain⟨o,e1,rfl⟩:=e
   exact⟨hl,e1⟩
  ·cases e
 ·rintro⟨h1,h2⟩
  exact⟨p.1,List.mem_range.mpr (Heap.lt_size h2),by rw[if_pos h1,h2];rfl⟩
theorem zf6{h:Heap}{L:Addr}{m:Str→Option Value}(hn:h.Ns L m):Fr (q0 h L) L h m∧News (q0 h L) L h (newsOf h L):=by
 refine⟨⟨hn,fun b o e=>?_,?_⟩,fun p hp=>?_⟩
 ·rw[uy] at e;split at e
  ·exact e
  ·cases e
 ·show (h.objs.extract 0 L).size≤L
  rw[Array.size_extract];omega
 ·obtain⟨h1,h2⟩:=mem_newsOf.mp hp
  exact⟨h2,Nat.ne_of_gt h1,by rw[uy,if_neg (Nat.not_lt.mpr (Nat.le_of_lt h1))]⟩
theorem za1{h:Heap}{L:Addr}{m m':Str→Option Value}(x:h.Ns L m)(y:h.Ns L m'):m=m':=by
 obtain⟨o,es,ep,h1,h2,_,h3⟩:=x
 obtain⟨o',es',ep',h1',h2',_,h3'⟩:=y
 rw[h1] at h1';cases h1'
 rw[h2] at h2';cases h2'
 funext z
 rw[← h3,← h3']
theorem qg{s:Shared}{L:Addr}{m:Str→Option Value}{h':Heap}{news':List (Addr×Obj)}{tk:Nat}{dr:Drawn}(hn:s.heap.Ns L m)(f:Fr (q0 s.heap L) L h' m)(n:News (q0 s.heap L) L h' news')(hs:∀ p∈newsOf s.heap L,p∈news') :
 KeepsL L s { s with heap:=h',toks:=tk,drawn:=dr } where
 gens:=rfl
 os:=rfl
 kept:=fun b o hb e=>by
  rcases Nat.lt_or_ge b L with h | h
  ·exact f.keep b o (by rw[uy,if_pos h];exact e)
  ·exact (n (b,o) (hs _ (mem_newsOf.mpr ⟨Nat.lt_of_le_of_ne h (Ne.symm hb),e⟩))).1
 ns:=fun m' hm=>by rw[za1 hm hn];exact f.ns
theorem gg(items:Array Value)(k:Nat):(List.replicate k items).foldl (fun x1 x2=>x1++x2) #[]=(List.replicate k items.toList).flatten.toArray:=by
 have:∀ (acc:Array Value),(List.replicate k items).foldl (fun x1 x2=>x1++x2) acc=(acc.toList++(List.replicate k items.toList).flatten).toArray:=by
  induction k with
  | zero=>intro acc;simp
  | succ k ih=>intro acc;rw[List.replicate_succ,List.foldl_cons,ih];simp[List.replicate_succ]
 rw[this];simp
theorem uo(l:Addr)(items:Array Value)(n:Nat)(d:Option Addr)(sl:Array (Option Value))(x:Int)(u:Tok)(h0:items.isEmpty=false)(h2:2≤x)(hx:x≤256)(hz:items.size * x.toNat≤256) :
 Meets (Builtin.«tuple.__mul__» ⟨[.ref l,.int x u],[]⟩) (fun _ R s=>s.heap.get? l=some { cls:=.type "tuple",dict:=d,data:=.seq items n,slots:=sl }∧R (.ok (.ret (Value.ref s.heap.objs.size))) { s with heap:=s.heap.push { cls:=Value.type "tuple",data:=Data.seq (List.foldl (fun x1 x2=>x1++x2) #[] (List.replicate x.toNat items)) },toks:=s.toks }):=
 .of_wp fun prog w A R s h=>by
  obtain⟨hp,g,d,tk,os⟩:=s;obtain⟨hl,h⟩:=h
  have c1:¬ (decide (x < -(2 ^ 63)) || decide (x ≥ 2 ^ 63))=true:=by simp;omega
  have c2:¬ (items.isEmpty || x == 1)=true:=by simp[h0];omega
  have c3:¬ (decide (x≤0) || items.isEmpty)=true:=by simp[h0];omega
  have hz':(items.size:Int) * x≤256:=by
   have:(items.size:Int) * x=((items.size * x.toNat:Nat):Int):=by rw[Int.natCast_mul];congr 1;omega
   rw[this];omega
  generalize hy:(items.size:Int) * x=y at hz'
  have c4:¬ (y > (2 ^ 63 - 1) / 8):=by omega
  have c5:¬ Builtin.Tuple.tupleTooMany y=true:=by
   simp only[Builtin.Tuple.tupleTooMany,decide_eq_true_eq]
   show ¬ y > ((2 ^ 24:Nat):Int)
   omega
  subst hy
  have c6:¬ ((List.replicate x.toNat items).foldl (fun x1 x2=>x1++x2) #[]).size > sizeLine:=by
   rw[gg];simp[sizeLine];rw[Nat.mul_comm];omega
  wp_walk
  rw[if_neg c1]
  wp_walk
  rw[if_neg c2]
  wp_walk
  rw[if_neg c3]
  wp_walk
  rw[if_neg c4]
  wp_walk
  exact⟨_,rfl,h⟩
theorem w7:fillsNumberSlot (.type "tuple") "mul" = pure false:=
 PySem.fillsNumberSlot_seq (id:="tuple.__mul__") (r:=some (.builtin "tuple.__rmul__")) F.slot_tuple_mul.lookup (by decide +kernel) F.slot_tuple_rmul.lookup (by decide +kernel)
theorem zby:seqRepeat? (.type "tuple")=pure (some (.builtin "tuple.__mul__")):=by
 unfold seqRepeat?
 rw [PySem.seqSlot_of (T:="tuple") (name:="__mul__") (id:="tuple.__mul__") F.slot_tuple_mul.lookup (by decide +kernel),PySem.seqSlot_of (T:="tuple") (name:="__rmul__") (id:="tuple.__rmul__") F.slot_tuple_rmul.lookup (by decide +kernel)]
 rfl
theorem w4(a:Int)(t:Tok)(l:Addr)(items:Array Value)(n:Nat)(d:Option Addr)(sl:Array (Option Value)) :
 Meets (Builtin.«int.__rmul__» ⟨[.int a t,.ref l],[]⟩) (fun _ R s=>s.heap.get? l=some { cls:=.type "tuple",dict:=d,data:=.seq items n,slots:=sl }∧R (.ok (.ret Value.notImplemented)) s):=
 .of_wp fun prog w A R s h=>by obtain⟨hp,g,d,tk,os⟩:=s;obtain⟨hl,h⟩:=h;wp_walk;exact⟨_,rfl,h⟩
theorem zhw{prog:Program}{w:World}{A:Around}{E:Value→Shared→Prop}{s:Shared}{l:Addr}{o:Obj}{items:Array Value}{k:Nat}{x:Int}{u:Tok}{Q:Value→Shared→Prop}(ho:s.heap.get? l=some o)(hc:o.cls=.type "tuple")(hd:o.data=.seq items k)
 (h0:items.isEmpty=false) (h2:2≤x) (hx:x≤256) (hz:items.size * x.toNat≤256)
 (h:Q (.ref s.heap.objs.size) { s with heap:=s.heap.push { cls:=Value.type "tuple",data:=Data.seq (List.replicate x.toNat items.toList).flatten.toArray } }):wpAny (model prog w) A (binaryOp .Mult (.ref l) (.int x u)) Q E s:=by
 obtain⟨cls,d,data,sl⟩:=o
 simp only at hc hd
 subst hc hd
 refine wpAny_binaryOp_repeat_ref (T:="tuple") (U:="int") (by decide) ⟨_,ho,rfl⟩ (fun s'=>typeIs_int s' x u) w7 F.fills_int_mul F.slot_int_rmul zby F.slot_int_index.lookup
  (call_meets F.slot_int_rmul (typeIs_int s x u) F.entry_int_rmul (F.args_int_rmul_2 _ _) (w4 x u l items k d sl)
    ⟨ho,rfl,⟨_,ho,rfl⟩,call_meets F.slot_tuple_mul ⟨_,ho,rfl⟩ F.entry_tuple_mul (F.args_tuple_mul_2 _ _) (uo l items k d sl x u h0 h2 hx hz) ⟨ho,?_⟩⟩)
 rw[gg];exact h
theorem ya{h:Heap}{motive:List Value→List PyData→List Addr→Prop}(nil:motive [] [] [])(cons:∀ {v:Value} {d:PyData} {as:List Addr} {vs:List Value} {ds:List PyData} {bs:List Addr},Reads h v d as→ReadsAll h vs ds bs→motive vs ds bs→motive (v::vs) (d::ds) (as++bs))
 {vs:List Value} {xs:List PyData} {as:List Addr} (r:ReadsAll h vs xs as):motive vs xs as:=
 ReadsAll.rec (motive_1:=fun _ _ _ _=>True) (motive_2:=fun vs xs as _=>motive vs xs as)
  trivial (fun _=>trivial) (fun _ _=>trivial) (fun _ _=>trivial) (fun _ _ _ _ _=>trivial) (fun _ _ _ _ _=>trivial) (fun _ _ _ _ _ _ _=>trivial) nil (fun r rs _ ih=>cons r rs ih) r
theorem y5{h:Heap}{vs ws:List Value}{xs ys:List PyData}{as bs:List Addr}(r:ReadsAll h vs xs as)(r':ReadsAll h ws ys bs):ReadsAll h (vs++ws) (xs++ys) (as++bs):=
 ya (motive:=fun vs xs as=>ReadsAll h (vs++ws) (xs++ys) (as++bs)) r' (fun r _ ih=>by rw[List.append_assoc];exact .cons r ih) r
theorem wc{h:Heap}{vs:List Value}{xs:List PyData}{as:List Addr}{P:Addr→Prop}(r:ReadsAll h vs xs as)(q:∀ a∈as,P a)(k:Nat):∃ bs,ReadsAll h (List.replicate k vs).flatten (List.replicate k xs).flatten bs∧∀ a∈bs,P a:=by
 induction k with
 | zero=>exact⟨[],.nil,fun _ h=>nomatch h⟩
 | succ k ih=>
   obtain⟨bs,r',q'⟩:=ih
   refine⟨as++bs,?_,fun a ha=>(List.mem_append.mp ha).elim (q a) (q' a)⟩
   simpa [List.replicate_succ] using y5 r r'
theorem zd{h:Heap}{vs:List Value}{xs:List PyData}{as:List Addr}(r:ReadsAll h vs xs as):vs.length=xs.length:=
 ya (motive:=fun vs xs _=>vs.length=xs.length) rfl (fun _ _ ih=>congrArg (· + 1) ih) r
section
variable{G:Gl}{F:Fm}{A:Around}{s:Shared}{β:List Addr}{ρ:Loc}{O:za}
theorem KeepsAll.toL{L:Addr}{s s':Shared}(x:KeepsAll s s'):KeepsL L s s':=⟨x.gens,x.os,fun b o _ e=>x.kept b o e,fun m h=>h.keeps x.kept⟩
theorem xd{h:Heap}{N:List Addr}{D:Addr}{o:Obj}{vs:Array Value}{n:Nat}{xs:List PyData}{as:List Addr}(e1:h.get? D=some o)(e2:o.cls=.type "list")(e3:o.data=.seq vs n)(r:ReadsAll h vs.toList xs as)(q:∀ a∈as,a∉β∧a∉N)(hD:D∉β∧D∉N):VR G N β h (.ref D) (.d (.list xs)):=
 ⟨D::as,.list e1 e2 e3 r,fun a ha=>(List.mem_cons.mp ha).elim (fun e=>e ▸ hD) (q a)⟩
theorem ko{h:Heap}{N:List Addr}{D:Addr}{o:Obj}{vs:Array Value}{n:Nat}{xs:List PyData}{as:List Addr}(e1:h.get? D=some o)(e2:o.cls=.type "tuple")(e3:o.data=.seq vs n)(r:ReadsAll h vs.toList xs as)(q:∀ a∈as,a∉β∧a∉N):VR G N β h (.ref D) (.d (.tuple xs)):=
 ⟨as,.tuple e1 e2 e3 r,q⟩
noncomputable def NewL(s:Shared)(h:Heap)(v:Value):Prop:=∃ a,v=.ref a∧s.heap.get? a=none∧Plain h a
noncomputable abbrev FRel(G:Gl)(F:Fm)(s:Shared):List Addr→Heap→Value→V→Prop:=fun β h v d=>VR G F.B β h v d∧(∀ xs,d=.d (.list xs)→NewL s h v)
noncomputable def LeafD{α δ:Type}(G:Gl)(F:Fm)(s:Shared)(β:List Addr)(T:WT α)(d:δ)(Rel:List Addr→Heap→α→δ→Prop):Prop:=
 ∀ (Q:α→Shared→Prop) (E:Value→Shared→Prop),(∀ v s',KeepsL F.env.locals s s'→Rel β s'.heap v d→Q v s')→T Q E s
theorem LeafD.leaf{α δ:Type}{T:WT α}{d:δ}{Rel:List Addr→Heap→α→δ→Prop}(sr:SR G F β ρ O s.heap)
 (hw:∀ (Q:α→Shared→Prop) (E:Value→Shared→Prop),(∀ v s',KeepsAll s s'→Rel β s'.heap v d→Q v s')→T Q E s):LeafD G F s β T d Rel:=fun Q E k=>hw Q E fun v s' ka r=>k v s' ka.toL r
theorem LeafD.leafL{α δ:Type}{T:WT α}{d:δ}{Rel:List Addr→Heap→α→δ→Prop}(sr:SR G F β ρ O s.heap)
 (hw:∀ (Q:α→Shared→Prop) (E:Value→Shared→Prop),(∀ v s',KeepsL F.env.locals s s'→Rel β s'.heap v d→Q v s')→T Q E s):LeafD G F s β T d Rel:=hw
theorem LeafD.does{α δ:Type}{T:WT α}{d:δ}{Rel:List Addr→Heap→α→δ→Prop}(sr:SR G F β ρ O s.heap)(h:LeafD G F s β T d Rel):DoesW G F s β T (.ok d (ρ,O)) Rel:=Does.leafL sr h
theorem gr{a b:Int}(h:a.natAbs < 2 ^ 64∨b.natAbs < 2 ^ 64):IntMulOk a b:=by
 rcases h with h | h
 ·exact IntMulOk.of_left (intBits_le_64 (by omega) (by omega))
 ·exact IntMulOk.of_right (intBits_le_64 (by omega) (by omega))
theorem g0{f:Int→Option PyData}{y c:PyData}(h:intD f y=some c):∃ n,y=.int n∧f n=some c:=by
 cases y <;> first | (cases h;done) | skip
 exact⟨_,rfl,h⟩
theorem yz{p:Prop}[Decidable p]{a c:PyData}(h:(if p then some a else none)=some c):p∧a=c:=by
 by_cases hp:p
 ·rw[if_pos hp] at h;exact⟨hp,Option.some.inj h⟩
 ·rw[if_neg hp] at h;cases h
theorem znp{x y c:PyData}(h:addD x y=some c):(∃ a b,x=.int a∧y=.int b∧c=.int (a+b))∨(∃ a b,x=.list a∧y=.list b∧a.length+b.length≤line∧c=.list (a++b)) ∨
 (∃ a b,x=.tuple a∧y=.tuple b∧a.length+b.length≤line∧c=.tuple (a++b))∨(∃ a b,x=.str a∧y=.str b∧a.length+b.length≤line∧c=.str (a++b)):=by
 cases x with
 | int a=>cases y <;> first | (cases h;done) | skip
          cases h;exact .inl ⟨_,_,rfl,rfl,rfl⟩
 | list a=>cases y <;> first | (cases h;done) | skip
           obtain⟨h1,rfl⟩:=yz h;exact .inr (.inl ⟨_,_,rfl,rfl,h1,rfl⟩)
 | tuple a=>cases y <;> first | (cases h;done) | skip
            obtain⟨h1,rfl⟩:=yz h;exact .inr (.inr (.inl ⟨_,_,rfl,rfl,h1,rfl⟩))
 | str a=>cases y <;> first | (cases h;done) | skip
          obtain⟨h1,rfl⟩:=yz h;exact .inr (.inr (.inr ⟨_,_,rfl,rfl,h1,rfl⟩))
 | _=>cases h
theorem VR.ints{v:Value}{x:V}{i:Int}(rv:VR G F.B β s.heap v x)(h:look O x=some (.int i)):∃ t,v=.int i t:=by
 have:=yi h (fun _ h=>by cases h);subst this
 exact rv.int_inv
theorem za4{T:WT Value}{i:Int}(sr:SR G F β ρ O s.heap)(h:∀ (Q:Value→Shared→Prop) (E:Value→Shared→Prop),(∀ t,Q (.int i t) { s with toks:=s.toks+1 })→T Q E s):LeafD G F s β T (V.d (.int i)) (FRel G F s):=
 LeafD.leaf sr fun Q E q=>h Q E fun t=>q _ _ (KeepsAll.toks _ _) ⟨VR.int,fun _ h=>by cases h⟩
theorem zh5{v u:Value}{x y:V}{a b:Str}(sr:SR G F β ρ O s.heap)(rv:VR G F.B β s.heap v x)(ru:VR G F.B β s.heap u y)(h1:look O x=some (.str a))(h2:look O y=some (.str b))(hz:a.length+b.length≤line) :
 LeafD G F s β (tr G A (binaryOp .Add v u)) (V.d (.str (a++b))) (FRel G F s):=by
 have:=yi h1 (fun _ h=>by cases h);subst this
 have:=yi h2 (fun _ h=>by cases h);subst this
 obtain⟨t,rfl⟩:=rv.str_inv;obtain⟨t',rfl⟩:=ru.str_inv
 exact LeafD.leaf sr fun Q E q=>add_str (fun t' tk=>q _ _ (KeepsAll.toks _ _) ⟨VR.str,fun _ h=>by cases h⟩) (Nat.le_trans hz (by decide))
theorem zfr{v u:Value}{x y:V}{a b:List PyData}(sr:SR G F β ρ O s.heap)(rv:VR G F.B β s.heap v x)(ru:VR G F.B β s.heap u y)(h1:look O x=some (.list a))(h2:look O y=some (.list b))(hz:a.length+b.length≤line) :
 LeafD G F s β (tr G A (binaryOp .Add v u)) (V.d (.list (a++b))) (FRel G F s):=by
 have new:s.heap.get? s.heap.objs.size=none:=Heap.get?_none_of_le (Nat.le_refl _)
 obtain⟨D1,rfl,o1,vs1,n1,e1,e2,e3,as1,r1,q1⟩:=yb sr rv h1
 obtain⟨D2,rfl,o2,vs2,n2,f1,f2,f3,as2,r2,q2⟩:=yb sr ru h2
 obtain⟨m,hm⟩:=sr.fm.ns
 obtain⟨fr,nw⟩:=zf6 hm
 refine LeafD.leafL sr fun Q E q=>?_
 refine add_arrays fr nw ⟨o1,e1,e2,n1,e3⟩ ⟨o2,f1,f2,n2,f3⟩ (fun h' fr' nw'=>?_) (by have:=zd r1;have:=zd r2;simp at *;exact Nat.le_trans (by omega) (Nat.le_trans hz (by decide)))
 have kp:KeepsL F.env.locals s { s with heap:=h' }:=qg (tk:=s.toks) (dr:=s.drawn) hm fr' nw' fun p hp=>List.mem_cons_of_mem _ hp
 have st:=kp.step sr.fm
 obtain⟨r1',q1'⟩:=zu sr.br sr.fm st r1 q1
 obtain⟨r2',q2'⟩:=zu sr.br sr.fm st r2 q2
 refine q _ _ kp ⟨xd (nw' _ (.head _)).1 rfl rfl (by simpa using y5 r1' r2') (fun a ha=>(List.mem_append.mp ha).elim (q1 a) (q2 a)) sr.size_new,fun _ _=>⟨_,rfl,new,_,(nw' _ (.head _)).1,rfl,rfl⟩⟩
theorem zh4{v u:Value}{x y:V}{a b:List PyData}(sr:SR G F β ρ O s.heap)(rv:VR G F.B β s.heap v x)(ru:VR G F.B β s.heap u y)(h1:look O x=some (.tuple a))(h2:look O y=some (.tuple b))(hz:a.length+b.length≤line) :
 LeafD G F s β (tr G A (binaryOp .Add v u)) (V.d (.tuple (a++b))) (FRel G F s):=by
 have:=yi h1 (fun _ h=>by cases h);subst this
 have:=yi h2 (fun _ h=>by cases h);subst this
 obtain⟨D1,o1,vs1,n1,rfl,e1,e2,e3,as1,r1,q1⟩:=rv.tuple_inv
 obtain⟨D2,o2,vs2,n2,rfl,f1,f2,f3,as2,r2,q2⟩:=ru.tuple_inv
 obtain⟨m,hm⟩:=sr.fm.ns
 obtain⟨fr,nw⟩:=zf6 hm
 refine LeafD.leafL sr fun Q E q=>?_
 refine add_tuples (vs:=vs1.toList) (ws:=vs2.toList) fr nw ⟨o1,e1,e2,n1,by simpa using e3⟩ ⟨o2,f1,f2,n2,by simpa using f3⟩ (fun hv=>?_) (fun _ hv=>?_) (fun _ _ h' fr' nw'=>?_) (by have:=zd r1;have:=zd r2;simp at *;exact Nat.le_trans (by omega) (Nat.le_trans hz (by decide)))
 ·have hv':vs1.toList=[]:=hv
  rw[hv'] at r1;cases r1
  exact q _ _ (KeepsAll.refl s).toL ⟨ru,fun _ h=>by cases h⟩
 ·have hv':vs2.toList=[]:=hv
  rw[hv'] at r2;cases r2
  rw[List.append_nil] at q
  exact q _ _ (KeepsAll.refl s).toL ⟨rv,fun _ h=>by cases h⟩
 ·have kp:KeepsL F.env.locals s { s with heap:=h' }:=qg (tk:=s.toks) (dr:=s.drawn) hm fr' nw' fun p hp=>List.mem_cons_of_mem _ hp
  have st:=kp.step sr.fm
  obtain⟨r1',q1'⟩:=zu sr.br sr.fm st r1 q1
  obtain⟨r2',q2'⟩:=zu sr.br sr.fm st r2 q2
  exact q _ _ kp ⟨ko (nw' _ (.head _)).1 rfl rfl (by simpa using y5 r1' r2') (fun a ha=>(List.mem_append.mp ha).elim (q1 a) (q2 a)),fun _ h=>by cases h⟩
theorem zh3{v:Value}{x:V}{a:Str}{n:Int}{t':Tok}(sr:SR G F β ρ O s.heap)(rv:VR G F.B β s.heap v x)(h1:look O x=some (.str a))(hz:a.length≤256∧0≤n∧n≤256) :
 LeafD G F s β (tr G A (binaryOp .Mult v (.int n t'))) (V.d (.str (Txt.mul a n))) (FRel G F s):=by
 have:=yi h1 (fun _ h=>by cases h);subst this
 obtain⟨t,rfl⟩:=rv.str_inv
 exact LeafD.leaf sr fun Q E q=>SB.mul (mulOk_of 256 256 hz.1 (by omega) (by omega) (by decide) (by decide)) (fun t' k=>q _ _ (KeepsAll.toks _ _) ⟨VR.str,fun _ h=>by cases h⟩)
theorem zfo{v:Value}{x:V}{a:List PyData}{n:Int}{t':Tok}(sr:SR G F β ρ O s.heap)(rv:VR G F.B β s.heap v x)(h1:look O x=some (.list a))(hz:a.length * n.toNat≤256∧0≤n∧n≤256) :
 LeafD G F s β (tr G A (binaryOp .Mult v (.int n t'))) (V.d (.list (repL a n))) (FRel G F s):=by
 obtain⟨D1,rfl,o1,vs1,n1,e1,e2,e3,as1,r1,q1⟩:=yb sr rv h1
 obtain⟨m,hm⟩:=sr.fm.ns
 obtain⟨fr,nw⟩:=zf6 hm
 refine LeafD.leafL sr fun Q E q=>?_
 have hl:=zd r1
 refine PySem.W.KMa.mul (vs:=vs1.toList) fr nw ⟨o1,e1,e2,n1,by simpa using e3⟩ (by omega) (by omega) (by rw[hl];exact hz.1) rfl fun D h' fr' nw' hlt=>?_
 have kp:KeepsL F.env.locals s { s with heap:=h' }:=qg (tk:=s.toks) (dr:=s.drawn) hm fr' nw' fun p hp=>List.mem_cons_of_mem _ hp
 have st:=kp.step sr.fm
 obtain⟨r1',q1'⟩:=zu sr.br sr.fm st r1 q1
 obtain⟨bs,r2,q2⟩:=wc r1' q1' n.toNat
 have hD:=nw' _ (.head _)
 have nD:s.heap.get? D=none:=by
  cases e:s.heap.get? D with
  | none=>rfl
  | some o=>
    exfalso
    rcases Nat.lt_or_ge F.env.locals D with h | h
    ·exact Nat.lt_irrefl _ (hlt (D,o) (mem_newsOf.mpr ⟨h,e⟩))
    ·have h':D < F.env.locals:=Nat.lt_of_le_of_ne h hD.2.1
     have:=hD.2.2
     rw[uy,if_pos h'] at this
     rw[e] at this;cases this
 refine q _ _ kp ⟨xd hD.1 rfl rfl (by simpa [repL] using r2) q2 ⟨fun hb=>?_,fun hb=>?_⟩,fun _ _=>⟨D,rfl,nD,_,hD.1,rfl,rfl⟩⟩
 ·obtain⟨o,e,_⟩:=sr.br.alive D hb;rw[e] at nD;cases nD
 ·obtain⟨o,e,_⟩:=sr.fm.stor D hb;rw[e] at nD;cases nD
theorem zh2{v:Value}{x:V}{a:List PyData}{n:Int}{t':Tok}(sr:SR G F β ρ O s.heap)(rv:VR G F.B β s.heap v x)(h1:look O x=some (.tuple a))(hz:a≠[]∧a.length * n.toNat≤256∧2≤n∧n≤256) :
 LeafD G F s β (tr G A (binaryOp .Mult v (.int n t'))) (V.d (.tuple (repL a n))) (FRel G F s):=by
 have:=yi h1 (fun _ h=>by cases h);subst this
 obtain⟨D1,o1,vs1,n1,rfl,e1,e2,e3,as1,r1,q1⟩:=rv.tuple_inv
 have hl:=zd r1
 refine LeafD.leaf sr fun Q E q=>?_
 refine zhw e1 e2 e3 (by cases hv:vs1.isEmpty with
  | false=>rfl
  | true=>rw[Array.isEmpty_iff] at hv;subst hv;simp at hl;exact absurd (List.eq_nil_of_length_eq_zero hl.symm) hz.1) hz.2.2.1 hz.2.2.2 (by rw[← Array.length_toList,hl];exact hz.2.1) ?_
 have kp:=KeepsAll.push s { cls:=Value.type "tuple",data:=Data.seq (List.replicate n.toNat vs1.toList).flatten.toArray } s.toks
 obtain⟨bs,r2,q2⟩:=wc (zw kp.kept r1) q1 n.toNat
 exact q _ _ kp ⟨ko (Heap.get?_push_size _ rfl) rfl rfl (by simpa [repL] using r2) q2,fun _ h=>by cases h⟩
theorem zmo{op:Bop}{o:Operator}{i j:Int}{t t':Tok}{c:PyData}(ho:zei op o=true)(sr:SR G F β ρ O s.heap)(h:arith op i j=some c) :
 LeafD G F s β (tr G A (binaryOp o (.int i t) (.int j t'))) (V.d c) (FRel G F s):=by
 cases op with
 | sub=>
   cases o <;> first | exact (Bool.false_ne_true ho).elim | skip
   cases h
   exact za4 sr fun Q E q=>sub_int (q _)
 | fdiv=>
   cases o <;> first | exact (Bool.false_ne_true ho).elim | skip
   obtain⟨hz,rfl⟩:=yz h
   exact za4 sr fun Q E q=>floordiv_int hz.1 (q _) (.inl (PyProof.noPylong_small hz.2))
 | mod=>
   cases o <;> first | exact (Bool.false_ne_true ho).elim | skip
   by_cases hz:j=0
   ·unfold arith at h;dsimp only at h;rw[if_pos hz] at h;cases h
   ·unfold arith at h;dsimp only at h;rw[if_neg hz] at h;cases h
    exact za4 sr fun Q E q=>mod_int' hz (q _)
 | pow=>
   cases o <;> first | exact (Bool.false_ne_true ho).elim | skip
   obtain⟨⟨rfl,rfl⟩,rfl⟩:=yz h
   refine za4 sr fun Q E q=>pow_int (by decide) (by decide +kernel) ?_
   have e:(10:Int) ^ (20:Int).toNat=100000000000000000000:=by decide
   rw[e]
   exact q _
 | _=>cases h
theorem zmn{op:Bop}{o:Operator}{v u:Value}{x y:V}{c:PyData}(ho:zei op o=true)(sr:SR G F β ρ O s.heap)(rv:VR G F.B β s.heap v x)(ru:VR G F.B β s.heap u y)
 (hc:((look O x).bind fun x=>(look O y).bind fun y=>zbm op x y)=some c):LeafD G F s β (tr G A (binaryOp o v u)) (V.d c) (FRel G F s):=by
 obtain⟨a,h1,hc⟩:=Option.bind_eq_some_iff.mp hc
 obtain⟨b,h2,h3⟩:=Option.bind_eq_some_iff.mp hc
 have rest:∀ op,zbm op a b=intD (fun i=>intD (arith op i) b) a→zei op o=true→zbm op a b=some c→LeafD G F s β (tr G A (binaryOp o v u)) (V.d c) (FRel G F s):=fun op e ho h3=>by
  rw[e] at h3
  obtain⟨i,rfl,h3⟩:=g0 h3
  have h3:intD (arith op i) b=some c:=h3
  obtain⟨j,rfl,h3⟩:=g0 h3
  obtain⟨t,rfl⟩:=rv.ints h1
  obtain⟨t',rfl⟩:=ru.ints h2
  exact zmo ho sr h3
 cases op with
 | add=>
   cases o <;> first | exact (Bool.false_ne_true ho).elim | skip
   rcases znp h3 with ⟨i,j,rfl,rfl,rfl⟩ | ⟨i,j,rfl,rfl,hz,rfl⟩ | ⟨i,j,rfl,rfl,hz,rfl⟩ | ⟨i,j,rfl,rfl,hz,rfl⟩
   ·obtain⟨t,rfl⟩:=rv.ints h1
    obtain⟨t',rfl⟩:=ru.ints h2
    exact za4 sr fun Q E q=>wpAny_add_int (q _)
   ·exact zfr sr rv ru h1 h2 hz
   ·exact zh4 sr rv ru h1 h2 hz
   ·exact zh5 sr rv ru h1 h2 hz
 | mul=>
   cases o <;> first | exact (Bool.false_ne_true ho).elim | skip
   obtain⟨n,rfl,h3⟩:=g0 h3
   obtain⟨t',rfl⟩:=ru.ints h2
   cases a with
   | int i=>
     obtain⟨hz,rfl⟩:=yz h3
     obtain⟨t,rfl⟩:=rv.ints h1
     exact za4 sr fun Q E q=>mul_int (q _) (gr hz)
   | str a=>obtain⟨hz,rfl⟩:=yz h3;exact zh3 sr rv h1 hz
   | list a=>obtain⟨hz,rfl⟩:=yz h3;exact zfo sr rv h1 hz
   | tuple a=>obtain⟨hz,rfl⟩:=yz h3;exact zh2 sr rv h1 hz
   | _=>cases h3
 | sub=>exact rest .sub rfl ho h3
 | fdiv=>exact rest .fdiv rfl ho h3
 | mod=>exact rest .mod rfl ho h3
 | pow=>exact rest .pow rfl ho h3
end
section
variable{G:Gl}{F:Fm}{A:Around}{s:Shared}{β:List Addr}{ρ:Loc}{O:za}
theorem zqw{op:Cop}{o:CmpOp}{v u:Value}{x y:V}{k:Nat}(ro:Room A k)(ho:xz op o=true)(sr:SR G F β ρ O s.heap)(rv:VR G F.B β s.heap v x)(ru:VR G F.B β s.heap u y) :
 Does G F A s β (compareOp o v u) ((cmpG op x y O).lift ρ) (VRel G F):=by
 unfold cmpG
 cases h1:look O x with
 | none=>trivial
 | some a=>
   cases h2:look O y with
   | none=>trivial
   | some b=>
     show DoesW G F s β _ ((opt ((vc op a b).map fun b=>V.d (.bool b)) O).lift ρ) _
     cases h3:vc op a b with
     | none=>trivial
     | some c=>
       obtain⟨as,r1⟩:=vv sr rv h1
       obtain⟨bs,r2⟩:=vv sr ru h2
       exact Does.leaf sr fun Q E q=>zk9 ro ho r1 r2 h3 (q _ _ (KeepsAll.refl s) VR.bool)
set_option tactic.hygienic true in
theorem zn7{o:CmpOp}{v u:Value}{x y:V}{f:Bool→Bool}(ho:compareOp o v u=(do return Value.bool (f (← isSame v u))))(sr:SR G F β ρ O s.heap)(rv:VR G F.B β s.heap v x)(ru:VR G F.B β s.heap u y) :
 Does G F A s β (compareOp o v u) ((isV f x y O).lift ρ) (VRel G F):=by
 cases x <;> first | trivial | skip
 cases y <;> first | trivial | skip
 rename_i a b
 show DoesW G F s β _ ((opt ((isop a b).map fun c=>V.d (.bool (f c))) O).lift ρ) _
 cases h:isop a b with
 | none=>trivial
 | some c=>
   refine Does.leaf sr fun Q E q=>?_
   rw[ho,zms sr rv ru h]
   exact wpAny_bind (wpAny_pure (wpAny_pure (q _ _ (KeepsAll.refl s) VR.bool)))
theorem pf{op:Cop}{o:CmpOp}{v u:Value}{x y:V}{k:Nat}(ro:Room A k)(ho:xz op o=true)(sr:SR G F β ρ O s.heap)(rv:VR G F.B β s.heap v x)(ru:VR G F.B β s.heap u y) :
 Does G F A s β (compareOp o v u) ((cmpV op x y O).lift ρ) (VRel G F):=by
 have dflt:=zqw ro ho sr rv ru
 cases op with
 | is=>cases o <;> first | exact (Bool.false_ne_true ho).elim | exact zn7 rfl sr rv ru
 | isnot=>cases o <;> first | exact (Bool.false_ne_true ho).elim | exact zn7 rfl sr rv ru
 | _=>exact dflt
theorem v7{v:Value}{d:V}{b:Bool}(r:VR G F.B β s.heap v d)(e:truth d=some b):v=.bool b:=by
 cases d with
 | d x=>cases x with
   | bool c=>cases e;exact r.bool_inv
   | _=>cases e
 | _=>cases e
noncomputable abbrev BRel:List Addr→Heap→Bool→Bool→Prop:=fun _ _ a b=>a=b
theorem jf{v:Value}{d:V}(sr:SR G F β ρ O s.heap)(r:VR G F.B β s.heap v d):Does G F A s β (truthy v) ((opt (truth d) O).lift ρ) BRel:=by
 cases h:truth d with
 | none=>trivial
 | some b=>
   have:=v7 r h;subst this
   exact Does.leaf sr fun Q E q=>wpAny_truthy_bool (q _ _ (KeepsAll.refl s) rfl)
theorem d_ok{T:WT Value}{v:Value}{d:V}(sr:SR G F β ρ O s.heap)(r:VR G F.B β s.heap v d)(h:∀ Q E,Q v s→T Q E s):DoesW G F s β T ((R.ok d O).lift ρ) (VRel G F):=
 Does.leaf sr fun Q E q=>h Q E (q _ _ (KeepsAll.refl s) r)
theorem zsu{x:Expr}{p:Pos}{r:R za V}(h1:Does G F A s β (eval x F.env) (r.lift ρ) (VRel G F)) :
 Does G F A s β (eval (.UnaryOp .USub x p) F.env) ((r.bind fun v O=>(match v with
  | .d (.int i)=>R.ok (V.d (.int (-i))) O
  | _=>.stuck)).lift ρ) (VRel G F):=by
 refine DoesW.seqE (T₂:=fun v=>tr G A (unaryOp .USub v)) (fun Q E h=>wpAny_UnaryOp h) h1 fun s' β' v d O' e st sr rv=>?_
 cases d with
 | d x=>cases x with
   | int i=>obtain⟨t,rfl⟩:=rv.int_inv;exact Does.leaf sr fun Q E q=>PySem.P.neg_int (q _ _ (KeepsAll.toks _ _) VR.int)
   | _=>trivial
 | _=>trivial
theorem d_nt{x:Expr}{p:Pos}{r:R za V}(h1:Does G F A s β (eval x F.env) (r.lift ρ) (VRel G F)) :
 Does G F A s β (eval (.UnaryOp .Not x p) F.env) ((r.bind fun v O=>opt ((truth v).map fun b=>V.d (.bool !b)) O).lift ρ) (VRel G F):=by
 refine DoesW.seqE (T₂:=fun v=>tr G A (unaryOp .Not v)) (fun Q E h=>wpAny_UnaryOp h) h1 fun s' β' v d O' e st sr rv=>?_
 cases h:truth d with
 | none=>trivial
 | some b=>
   have:=v7 rv h;subst this
   exact Does.leaf sr fun Q E q=>not_value (wpAny_truthy_bool (q _ _ (KeepsAll.refl _) VR.bool))
end
theorem zo{h:Heap}{P:Addr→Prop}{vs:List Value}{xs:List PyData}{as:List Addr}(r:ReadsAll h vs xs as):(∀ a∈as,P a)→∀ {i:Nat} {x:PyData},xs[i]?=some x→∃ v bs,vs[i]?=some v∧Reads h v x bs∧∀ a∈bs,P a:=by
 refine ya (motive:=fun vs xs as=>(∀ a∈as,P a)→∀ {i:Nat} {x:PyData},xs[i]?=some x→∃ v bs,vs[i]?=some v∧Reads h v x bs∧∀ a∈bs,P a) ?_ ?_ r
 ·intro _ i x e;rw[List.getElem?_nil] at e;cases e
 ·intro v d as vs ds bs r _ ih q i x e
  cases i with
  | zero=>have e:some d=some x:=e
          cases e;exact⟨v,as,rfl,r,fun a ha=>q a (List.mem_append_left _ ha)⟩
  | succ i=>exact ih (fun a ha=>q a (List.mem_append_right _ ha)) (i:=i) e
theorem zaf{h:Heap}{P:Addr→Prop}{vs:List Value}{xs:List PyData}{as:List Addr}(r:ReadsAll h vs xs as):(∀ a∈as,P a)→∀ (k:Nat),∃ bs,ReadsAll h (vs.drop k) (xs.drop k) bs∧∀ a∈bs,P a:=by
 refine ya (motive:=fun vs xs as=>(∀ a∈as,P a)→∀ (k:Nat),∃ bs,ReadsAll h (vs.drop k) (xs.drop k) bs∧∀ a∈bs,P a) ?_ ?_ r
 ·intro _ k;exact⟨[],by rw[List.drop_nil,List.drop_nil];exact .nil,fun _ h=>nomatch h⟩
 ·intro v d as vs ds bs r rs ih q k
  cases k with
  | zero=>exact⟨_,.cons r rs,q⟩
  | succ k=>exact ih (fun a ha=>q a (List.mem_append_right _ ha)) k
theorem zae{h:Heap}{P:Addr→Prop}{vs:List Value}{xs:List PyData}{as:List Addr}(r:ReadsAll h vs xs as):(∀ a∈as,P a)→∀ (k:Nat),∃ bs,ReadsAll h (vs.take k) (xs.take k) bs∧∀ a∈bs,P a:=by
 refine ya (motive:=fun vs xs as=>(∀ a∈as,P a)→∀ (k:Nat),∃ bs,ReadsAll h (vs.take k) (xs.take k) bs∧∀ a∈bs,P a) ?_ ?_ r
 ·intro _ k;exact⟨[],by rw[List.take_nil,List.take_nil];exact .nil,fun _ h=>nomatch h⟩
 ·intro v d as vs ds bs r rs ih q k
  cases k with
  | zero=>exact⟨[],.nil,fun _ h=>nomatch h⟩
  | succ k=>
    obtain⟨b,r',q'⟩:=ih (fun a ha=>q a (List.mem_append_right _ ha)) k
    exact⟨as++b,.cons r r',fun a ha=>(List.mem_append.mp ha).elim (fun h=>q a (List.mem_append_left _ h)) (q' a)⟩
section
variable{G:Gl}{F:Fm}{A:Around}{s:Shared}{β:List Addr}{ρ:Loc}{O:za}
set_option tactic.hygienic true in
theorem zgz{xs:List PyData}{k:Int}{z:PyData}{x:PyData}(hx:items x=some xs)(e:idxD x (.int k)=some z):xs.length≤line∧((0≤k∧xs[k.toNat]?=some z)∨(k < 0∧0≤k+xs.length∧xs[(k+xs.length).toNat]?=some z)):=by
 unfold idxD at e
 rw[hx] at e
 dsimp only at e
 split at e
 ·rename_i h1
  refine⟨h1,?_⟩
  split at e
  ·rename_i h2;exact .inl ⟨h2,e⟩
  ·rename_i h2
   split at e
   ·rename_i h3;exact .inr ⟨by omega,h3,e⟩
   ·cases e
 ·cases e
theorem qr{α:Type}{xs:List α}{i:Nat}{z:α}(e:xs[i]?=some z):i < xs.length:=by
 rcases Nat.lt_or_ge i xs.length with h | h
 ·exact h
 ·rw[List.getElem?_eq_none h] at e;cases e
theorem zh1{value slice:Expr}{a:Addr}{xs:List PyData}{k:Int}{t:Tok}{z:PyData}{Q:Value→Shared→Prop}{E:Value→Shared→Prop}(l:ListAt s.heap F.B β a xs)(e:idxD (.list xs) (.int k)=some z)
 (hs:subscripted slice false (.ref a) (.int k t)=operate [.ref a,.int k t] (getItem (.ref a) (.int k t)))
 (q:∀ v,VR G F.B β s.heap v (.d z)→Q v s):wpAny (model G.prog G.w) A (subscriptTail value slice (.ref a) (.int k t)) Q E s:=by
 obtain⟨o,vs,n,e1,e2,e3,as,r,q1⟩:=l
 have hl:=zd r
 have hsz:vs.size=xs.length:=by rw[← hl,Array.length_toList]
 obtain⟨h0,h | h⟩:=zgz (xs:=xs) rfl e
 ·obtain⟨v,bs,g1,g2,g3⟩:=zo r q1 h.2
  have:=qr h.2
  refine tail_any (T:="list") ⟨o,e1,e2⟩ slot_list_getitem.lookup (wpAny_getItem_list ⟨o,e1,e2,n,e3⟩ h.1 (by simp only [line] at h0;omega) (by simpa using g1) (q v ⟨bs,g2,g3⟩)) hs
 ·obtain⟨v,bs,g1,g2,g3⟩:=zo r q1 h.2.2
  refine tail_any (T:="list") ⟨o,e1,e2⟩ slot_list_getitem.lookup (wpAny_getItem_list_neg ⟨o,e1,e2,n,e3⟩ h.1 (by rw [hsz];omega) (by simp only [line] at h0;omega) (by rw [hsz];simpa using g1) (q v ⟨bs,g2,g3⟩)) hs
theorem zew{value slice:Expr}{v:Value}{xs:List PyData}{k:Int}{t:Tok}{z:PyData}{Q:Value→Shared→Prop}{E:Value→Shared→Prop}(rv:VR G F.B β s.heap v (.d (.tuple xs)))(e:idxD (.tuple xs) (.int k)=some z)
 (hs:subscripted slice false v (.int k t)=operate [v,.int k t] (getItem v (.int k t)))
 (q:∀ v,VR G F.B β s.heap v (.d z)→Q v s):wpAny (model G.prog G.w) A (subscriptTail value slice v (.int k t)) Q E s:=by
 obtain⟨a,o,vs,n,rfl,e1,e2,e3,as,r,q1⟩:=rv.tuple_inv
 have hl:=zd r
 have hsz:vs.size=xs.length:=by rw[← hl,Array.length_toList]
 have ht:IsTup s.heap a vs:=⟨o,e1,e2,n,e3⟩
 obtain⟨h0,h | h⟩:=zgz (xs:=xs) rfl e
 ·obtain⟨v,bs,g1,g2,g3⟩:=zo r q1 h.2
  have:=qr h.2
  exact tail_any (T:="tuple") ht.typeIs slot_tuple_getitem.lookup (getItem_tuple ht (by omega) (by simp only [line] at h0;omega) (j:=k.toNat) (by unfold seqIndex?;rw [hsz];simp;omega) (by simpa using g1) (q v ⟨bs,g2,g3⟩)) hs
 ·obtain⟨v,bs,g1,g2,g3⟩:=zo r q1 h.2.2
  have:=qr h.2.2
  exact tail_any (T:="tuple") ht.typeIs slot_tuple_getitem.lookup (getItem_tuple ht (by simp only [line] at h0;omega) (by omega) (j:=(k+xs.length).toNat) (by unfold seqIndex?;rw [hsz];simp;omega) (by simpa using g1) (q v ⟨bs,g2,g3⟩)) hs
end
section
variable{prog:Program}{w:World}{A:Around}{E:Value→Shared→Prop}{s:Shared}
theorem jy{α β:Type}{f g:α→Option β}:∀ {l:List α},(∀ x∈l,f x=g x)→l.filterMap f=l.filterMap g
 | [],_=>rfl
 | x::r,h=>by
   rw[List.filterMap_cons,List.filterMap_cons,h x (.head _),jy fun y hy=>h y (.tail _ hy)]
end
theorem xi{e:Expr}(h:∀ l u t p,e≠.Slice l u t p)(o i:Value):subscripted e false o i=operate [o,i] (getItem o i):=by
 cases e <;> first | rfl | exact absurd rfl (h _ _ _ _)
section
variable{G:Gl}{F:Fm}{A:Around}{s:Shared}{β:List Addr}{ρ:Loc}{O:za}
theorem zmv{a k z:PyData}(h:idxD a k=some z):(∃ i,k=.int i)∧((∃ xs,a=.list xs)∨∃ xs,a=.tuple xs):=by
 cases a <;> first | (cases h;done) | skip
 ·cases k <;> first | (cases h;done) | exact⟨⟨_,rfl⟩,.inl ⟨_,rfl⟩⟩
 ·cases k <;> first | (cases h;done) | exact⟨⟨_,rfl⟩,.inr ⟨_,rfl⟩⟩
set_option tactic.hygienic true in
theorem zqq{value slice:Expr}{v u:Value}{x y:V}{k:Nat}(ro:Room A k)(hs:∀ l u t p,slice≠.Slice l u t p)(sr:SR G F β ρ O s.heap)(rv:VR G F.B β s.heap v x)(ru:VR G F.B β s.heap u y) :
 Does G F A s β (subscriptTail value slice v u) ((idxV x y O).lift ρ) (VRel G F):=by
 cases y <;> first | trivial | skip
 rename_i k'
 unfold idxV
 cases h1:look O x with
 | none=>trivial
 | some a=>
   show DoesW G F s β _ ((opt ((idxD a k').map V.d) O).lift ρ) _
   cases h3:idxD a k' with
   | none=>trivial
   | some z=>
     obtain⟨⟨i,rfl⟩,hx⟩:=zmv h3
     obtain⟨t,rfl⟩:=ru.int_inv
     rcases hx with ⟨xs,rfl⟩ | ⟨xs,rfl⟩
     ·obtain⟨b,rfl,l⟩:=yb sr rv h1
      exact Does.leaf sr fun Q E q=>zh1 l h3 (xi hs _ _) fun v rv=>q _ _ (KeepsAll.refl s) rv
     ·rw[yi h1 fun _ e=>nomatch e] at rv
      exact Does.leaf sr fun Q E q=>zew rv h3 (xi hs _ _) fun v rv=>q _ _ (KeepsAll.refl s) rv
theorem zsz{x y:Expr}{p:Pos}{ra:R za V}{rb:za→R za V}{k:Nat}(ro:Room A k)(hs:∀ l u t p,y≠.Slice l u t p)
 (h1:Does G F A s β (eval x F.env) (ra.lift ρ) (VRel G F)) (h2:∀ s' β' O',SR G F β' ρ O' s'.heap→Does G F A s' β' (eval y F.env) ((rb O').lift ρ) (VRel G F)) :
 Does G F A s β (eval (.Subscript x y p) F.env) ((ra.bind fun v O=>(rb O).bind fun u O=>idxV v u O).lift ρ) (VRel G F):=by
 refine DoesW.seqE (T₂:=fun a Q E s₁=>wpAny (model G.prog G.w) A (eval y F.env) (fun b s₂=>wpAny (model G.prog G.w) A (subscriptTail x y a b) Q E s₂) E s₁) (fun Q E h=>Subscript_ h) h1 fun s' β' v d O' e st sr rv=>?_
 refine DoesW.seqE (T₁:=tr G A (eval y F.env)) (T₂:=fun b=>tr G A (subscriptTail x y v b)) (fun Q E h=>h) (h2 s' β' O' sr) fun s₂ β₂ u d₂ O₂ e₂ st₂ sr₂ ru=>?_
 exact zqq ro hs sr₂ (rv.step sr.br sr.fm st₂) ru
theorem part_of{N:List Addr}{h:Heap}{v:Value}{l:PyData}{n dflt c:Nat}(r:VR G N β h v (.d l))(e:clip n dflt l=some c):∃ k,IsPart v k∧c=k.elim dflt (clipAt n):=by
 cases l with
 | none=>have:=r.none_inv;subst this;cases e;exact⟨none,.none,rfl⟩
 | int i=>obtain⟨t,rfl⟩:=r.int_inv;cases e;exact⟨some i,.int i t,rfl⟩
 | _=>cases e
theorem zhn{value:Expr}{lo hi st:Option Expr}{ps:Pos}{vl vu vk:Value}{D:Addr}{o:Obj}{vs:Array Value}{n:Nat}{klo khi kst:Option Int}{ys:List PyData}{bs:List Addr}{ops:List Value}(sr:SR G F β ρ O s.heap)
 (e1:s.heap.get? D=some o) (e2:o.cls=.type "list") (e3:o.data=.seq vs n) (hops:subscripted (.Slice lo hi st ps) false (.ref D) (.ref s.heap.objs.size)=operate ops (getItem (.ref D) (.ref s.heap.objs.size)))
 (hl:vs.size≤sizeLine) (pl:IsPart vl klo) (pu:IsPart vu khi) (pk:IsPart vk kst) (h0:kst≠some 0) (r2:ReadsAll s.heap (slicePick vs klo khi kst).toList ys bs) (q2:∀ a∈bs,a∉β∧a∉F.B) :
 DoesW G F s β (fun Q E s=>wpAny (model G.prog G.w) A (subscriptTail value (.Slice lo hi st ps) (.ref D) (.ref s.heap.objs.size)) Q E { s with heap:=s.heap.push { cls:=.type "slice",data:=.fields #[vl,vu,vk] } }) (.ok (V.d (.list ys)) (ρ,O)) (VRel G F):=by
 refine Does.leaf sr fun Q E q=>?_
 refine tail_any (T:="list") ⟨o,Heap.get?_push_of_some _ e1,e2⟩ slot_list_getitem.lookup ?_ hops
 refine wpAny_getItem_list_slice (lo:=klo) (hi:=khi) (st:=kst) ⟨o,Heap.get?_push_of_some _ e1,e2,n,e3⟩ (Heap.IsSliceOf.new ..) pl pu pk h0 ?_ hl
 generalize ho1:({ cls:=.type "slice",data:=.fields #[vl,vu,vk] }:Obj)=o1
 have kp2:KeepsAll s { s with heap:=(s.heap.push o1).push { cls:=.type "list",data:=.seq (slicePick vs klo khi kst) } }:=⟨rfl,rfl,fun b o e=>Heap.get?_push_of_some _ (Heap.get?_push_of_some _ e)⟩
 have nD:s.heap.get? (s.heap.push o1).objs.size=none:=by
  cases e:s.heap.get? (s.heap.push o1).objs.size with
  | none=>rfl
  | some o=>exact absurd (Heap.lt_size e) (by rw[Heap.size_push];exact Nat.not_lt.mpr (Nat.le_succ _))
 refine q _ _ kp2 (xd (Heap.get?_push_size _ rfl) rfl rfl (zw kp2.kept r2) q2 ⟨fun hb=>?_,fun hb=>?_⟩)
 ·obtain⟨o,e,_⟩:=sr.br.alive _ hb;rw[e] at nD;cases nD
 ·obtain⟨o,e,_⟩:=sr.fm.stor _ hb;rw[e] at nD;cases nD
theorem vp{f:List PyData→Option PyData}{x y:PyData}(h:ofList f x=some y):∃ xs,x=.list xs∧f xs=some y:=by
 cases x <;> first | (cases h;done) | exact⟨_,rfl,h⟩
inductive znq(xs:List PyData)(l h y:PyData):Prop
 | mk (a b:Nat) (hl:xs.length≤line) (h1:clip xs.length 0 l=some a) (h2:clip xs.length xs.length h=some b) (e:y=.list (vi xs a b))
theorem zc5{xs:List PyData}{l h y:PyData}(e:jj xs l h=some y):znq xs l h y:=by
 unfold jj at e
 by_cases hl:xs.length≤line
 ·rw[if_pos hl] at e
  obtain⟨a,h1,e⟩:=Option.bind_eq_some_iff.mp e
  obtain⟨b,h2,e⟩:=Option.map_eq_some_iff.mp e
  exact⟨a,b,hl,h1,h2,e.symm⟩
 ·rw[if_neg hl] at e;cases e
theorem zk1{value:Expr}{lo hi:Option Expr}{ps:Pos}{v vl vu:Value}{x:V}{l h:PyData}(sr:SR G F β ρ O s.heap)(rv:VR G F.B β s.heap v x)(rl:VR G F.B β s.heap vl (.d l))(rh:VR G F.B β s.heap vu (.d h)) :
 DoesW G F s β (fun Q E s=>wpAny (model G.prog G.w) A (subscriptTail value (.Slice lo hi none ps) v (.ref s.heap.objs.size)) Q E { s with heap:=s.heap.push { cls:=.type "slice",data:=.fields #[vl,vu,.none] } })
  ((opt (((look O x).bind fun x=>ze4 x l h).map V.d) O).lift ρ) (VRel G F):=by
 cases h3:(look O x).bind fun x=>ze4 x l h with
 | none=>trivial
 | some c=>
   obtain⟨a,h1,h3⟩:=Option.bind_eq_some_iff.mp h3
   obtain⟨xs,rfl,h4⟩:=vp (f:=fun xs=>jj xs l h) h3
   obtain⟨a,b,hl,hc1,hc2,rfl⟩:=zc5 h4
   obtain⟨D,rfl,o,vs,n,e1,e2,e3,as,r1,q1⟩:=yb sr rv h1
   have hsz:vs.size=xs.length:=by rw[← zd r1,Array.length_toList]
   obtain⟨klo,pl,rfl⟩:=part_of rl hc1
   obtain⟨khi,pu,rfl⟩:=part_of rh hc2
   obtain⟨b1,s1,t1⟩:=zaf r1 q1 (klo.elim 0 (clipAt xs.length))
   obtain⟨b2,s2,t2⟩:=zae s1 t1 (khi.elim xs.length (clipAt xs.length) - klo.elim 0 (clipAt xs.length))
   exact zhn sr e1 e2 e3 rfl (by rw[hsz];exact Nat.le_trans hl (by decide)) pl pu .none (by decide) (by rw[slicePick_plain,hsz];exact s2) t2
end
theorem zfl{names:List Str}:∀ {vals:List Value},vals.length=names.length→∀ n∈names,((names.zip vals).lookup n).isSome=true:=by
 induction names with
 | nil=>intro _ _ n hn;cases hn
 | cons x names ih=>
   intro vals hl n hn
   cases vals with
   | nil=>simp at hl
   | cons v vals=>
     rw[List.zip_cons_cons,List.lookup_cons]
     cases h:n == x with
     | true=>rfl
     | false=>
       rcases List.mem_cons.mp hn with rfl | hn
       ·rw[beq_self_eq_true] at h;cases h
       ·exact ih (by simpa using hl) n hn
theorem zai{names:List Str}:∀ {vals:List Value},vals.length=names.length→names.Nodup→names.filterMap (fun n=>((names.zip vals).lookup n).map fun v=>(n,v))=names.zip vals:=by
 induction names with
 | nil=>intro _ _ _;rfl
 | cons x names ih=>
   intro vals hl hn
   cases vals with
   | nil=>simp at hl
   | cons v vals=>
     obtain⟨h1,h2⟩:=List.nodup_cons.mp hn
     rw[List.zip_cons_cons,List.filterMap_cons]
     have e:((x,v)::names.zip vals).lookup x=some v:=by rw[List.lookup_cons,beq_self_eq_true]
     have tl:names.filterMap (fun n=>(((x,v)::names.zip vals).lookup n).map fun v=>(n,v))=names.zip vals:=by
      have e':=ih (vals:=vals) (by simpa using hl) h2
      refine Eq.trans (jy fun n hn'=>?_) e'
      have:(n == x)=false:=by rw[beq_eq_false_iff_ne];rintro rfl;exact h1 hn'
      rw[List.lookup_cons,this]
     rw[e,tl];rfl
theorem zlc{fd:FuncData}{as:List Arg}{kd:List (Option Expr)}{ds:List Expr}{vals:List Value}(hp:fd.params=⟨[],as,none,[],kd,none,ds⟩)(hd:fd.defaults=.none) :
 ∃ (T1 T2:Sem (List (Str×Value))) (f:Str×Value→List (Str×Value)→Sem (ForInStep (List (Str×Value)))) (K:List (Str×Value)→Sem (List (Str×Value))),
  bindArgs fd ⟨vals,[]⟩=(if (decide (vals.length > (as.map Arg.arg).length) && true)=true then T1 else
   if (!(((as.map Arg.arg).take ((as.map Arg.arg).length - (([]:List Value).drop (0 - (as.map Arg.arg).length)).length)).filter fun n=>(((as.map Arg.arg).zip vals).lookup n).isNone).isEmpty)=true then T2 else
    (forIn (((as.map Arg.arg).drop ((as.map Arg.arg).length - (([]:List Value).drop (0 - (as.map Arg.arg).length)).length)).zip (([]:List Value).drop (0 - (as.map Arg.arg).length))) ((as.map Arg.arg).zip vals) f >>= K)) ∧
  K ((as.map Arg.arg).zip vals)=pure (((as.map Arg.arg)++[]).filterMap fun n=>(((as.map Arg.arg).zip vals).lookup n).map fun v=>(n,v)):=by
 unfold bindArgs
 rw[hp,hd]
 exact⟨_,_,_,_,rfl,rfl⟩
theorem qi{fd:FuncData}{names:List Str}{vals:List Value}(h1:fd.params.posonlyargs=[])(h2:fd.params.vararg=none)(h3:fd.params.kwonlyargs=[])(h4:fd.params.kwarg=none)
 (ha:fd.params.args.map (·.arg)=names) (hl:vals.length=names.length) (hn:names.Nodup) (hd:fd.defaults=.none):bindArgs fd ⟨vals,[]⟩=pure (names.zip vals):=by
 have hm:∀ k,((names.take k).filter fun n=>((names.zip vals).lookup n).isNone)=[]:=fun k=>by
  rw[List.filter_eq_nil_iff]
  intro n hn h
  rw[Option.isNone_iff_eq_none] at h
  have:=zfl hl n (List.mem_of_mem_take hn)
  rw[h] at this;cases this
 cases hp:fd.params with
 | mk p1 p2 p3 p4 p5 p6 p7=>
   rw[hp] at h1 h2 h3 h4 ha
   subst h1;subst h2;subst h3;subst h4;subst ha
   obtain⟨T1,T2,f,K,e,k⟩:=zlc (vals:=vals) hp hd
   rw[e,if_neg (by rw[hl];simp),hm,if_neg (by decide),List.drop_nil,List.zip_nil_right,List.forIn_nil,pure_bind,k,List.append_nil,zai hl hn]
section
variable{G:Gl}{F:Fm}{A:Around}{s:Shared}{β:List Addr}{ρ:Loc}{O:za}{cx:Cx}{gval:Nat→Option PyData}{gname:Nat→Option Str}
theorem zd9(sr:SR G F β ρ O s.heap):Does G F A s β (evalPart none F.env) ((R.ok (V.d .none) O).lift ρ) (VRel G F):=
 Does.leaf sr fun Q E q=>wpAny_pure (q _ _ (KeepsAll.refl s) VR.none)
theorem znf{x:Expr}{lo hi:Option Expr}{ps p:Pos}{ra:R za V}{rl rh:za→R za V}
 (h1:Does G F A s β (eval x F.env) (ra.lift ρ) (VRel G F)) (h2:∀ s' β' O',SR G F β' ρ O' s'.heap→Does G F A s' β' (evalPart lo F.env) ((rl O').lift ρ) (VRel G F))
 (h3:∀ s' β' O',SR G F β' ρ O' s'.heap→Does G F A s' β' (evalPart hi F.env) ((rh O').lift ρ) (VRel G F)) :
 Does G F A s β (eval (.Subscript x (.Slice lo hi none ps) p) F.env) ((ra.bind fun v O=>(rl O).bind fun l O=>(rh O).bind fun h O=>ze3 v l h O).lift ρ) (VRel G F):=by
 refine DoesW.seqE (T₂:=fun a Q E s₁=>wpAny (model G.prog G.w) A (evalPart lo F.env) (fun l s₂=>wpAny (model G.prog G.w) A (evalPart hi F.env) (fun u s₃=>
  wpAny (model G.prog G.w) A (subscriptTail x (.Slice lo hi none ps) a (.ref s₃.heap.objs.size)) Q E { s₃ with heap:=s₃.heap.push { cls:=.type "slice",data:=.fields #[l,u,.none] } }) E s₂) E s₁)
  (fun Q E h=>Subscript_ (wpAny_mono h (fun a s₁ h=>wpAny_Slice (wpAny_mono h (fun l s₂ h=>wpAny_mono h (fun u s₃ h=>wpAny_pure h) fun _ _ x=>x) fun _ _ x=>x)) fun _ _ x=>x)) h1 fun s' β' v d O' e st' sr rv=>?_
 refine DoesW.seqE (T₁:=tr G A (evalPart lo F.env)) (T₂:=fun l Q E s₂=>wpAny (model G.prog G.w) A (evalPart hi F.env) (fun u s₃=>
  wpAny (model G.prog G.w) A (subscriptTail x (.Slice lo hi none ps) v (.ref s₃.heap.objs.size)) Q E { s₃ with heap:=s₃.heap.push { cls:=.type "slice",data:=.fields #[l,u,.none] } }) E s₂) (fun Q E h=>h) (h2 s' β' O' sr) fun s₂ β₂ vl dl O₂ e₂ st₂ sr₂ rvl=>?_
 refine DoesW.seqE (T₁:=tr G A (evalPart hi F.env)) (T₂:=fun u Q E s₃=>
  wpAny (model G.prog G.w) A (subscriptTail x (.Slice lo hi none ps) v (.ref s₃.heap.objs.size)) Q E { s₃ with heap:=s₃.heap.push { cls:=.type "slice",data:=.fields #[vl,u,.none] } }) (fun Q E h=>h) (h3 s₂ β₂ O₂ sr₂) fun s₃ β₃ vh dh O₃ e₃ st₃ sr₃ rvh=>?_
 cases dl <;> first | trivial | skip
 cases dh <;> first | trivial | skip
 exact zk1 sr₃ (rv.step sr.br sr.fm (st₂.trans st₃)) (rvl.step sr₂.br sr₂.fm st₃) rvh
structure FnAt(G:Gl)(x:Str)(a:Addr)(o:Obj)(fd:FuncData):Prop where
 name:G.mg x=some (.ref a)
 get:G.h₀.get? a=some o
 data:o.data=.func fd
noncomputable def FrA(A:Around)(F:Fm):Prop:=∃ l,A.frames=some l∧∀ env∈l,env.scope.kind≠.module∧∃ L,env.frame=some L∧L∈F.fr
noncomputable def pj(G:Gl)(A:Around)(fname:Nat→Option Str)(call:Nat→List V→za→R za V):Prop:=
 ∀ (F:Fm) (s:Shared) (β:List Addr) (ρ:Loc) (O:za) (f:Nat) (x:Str) (vals:List Value) (vs:List V),SR G F β ρ O s.heap→FrA A F→fname f=some x→VRs G F.B β s.heap vals vs →
  ∃ a o fd,FnAt G x a o fd∧Does G F A s β (PySem.call (.ref a) vals) ((call f vs O).lift ρ) (VRel G F)
theorem zqx{f:Nat}{x:Str}{e:Expr}{rest:List Expr}{p q:Pos}{r:R za (List V)}{call:Nat→List V→za→R za V}{fname:Nat→Option Str}(g:GOk G gval gname)(ck:pj G A fname call)(fr:FrA A F)(sr:SR G F β ρ O s.heap)(fit:Fits F cx)
 (hf:fname f=some x) (hx:cx.isGlob x=true) (he:starEach (e::rest) F.env=(false,eval e F.env)::starEach rest F.env)
 (h1:Does G F A s β (spliced (backTo q (starEach (e::rest) F.env))) (r.lift ρ) (VRsl G F)) :
 Does G F A s β (eval (.Call (.Name x p) (e::rest) [] q) F.env) ((r.bind fun vs O=>call f vs O).lift ρ) (VRel G F):=by
 obtain⟨a,o,fd,fa,_⟩:=ck F s β ρ O f x [] [] sr fr hf .nil
 refine DoesW.seqE (T₂:=fun vs Q E s₁=>s₁.heap.get? a=some o∧wpAny (model G.prog G.w) A (PySem.call (.ref a) vs) Q E s₁) (fun Q E h=>Call_Name rfl (zbd g sr fit hx fa.name (callWith_def fa.data h he))) h1 fun s' β' vals vs O' _ st sr' rvs=>?_
 obtain⟨a',o',fd',fa',dd⟩:=ck F s' β' ρ O' f x vals vs sr' fr hf rvs
 have:a'=a:=by have h1:=fa.name;have h2:=fa'.name;rw[h1] at h2;cases h2;rfl
 subst this
 exact dd.weaken (fun Q E h=>⟨sr'.br.keep _ _ fa.get,h⟩) fun _ _ _ _ h=>h
end
section
variable{G:Gl}{F:Fm}{A:Around}{s:Shared}{β:List Addr}{ρ:Loc}{O:za}
theorem h9{a:Addr}{s':Shared}{o':Obj}(sr:SR G F β ρ O s.heap)(ha:a∈F.W)(hg:s'.gens=s.gens)(ho:s'.os=s.os)(hs:Heap.SameBut a s.heap s'.heap)(hn:s'.heap.get? a=some o'):Step F.W β s s' β where
 gens:=hg
 os:=ho
 pre:=List.prefix_refl _
 fresh:=fun _ h=>.inl h
 alive:=fun b o e=>by
  by_cases hb:b=a
  ·subst hb;exact⟨o',hn⟩
  ·exact⟨o,(hs.2 b hb).trans e⟩
 kept:=fun b o e _ hW=>⟨o,(hs.2 b (fun h=>hW (h ▸ ha))).trans e,Kin.refl o⟩
theorem BR.write{a:Addr}{s':Shared}(sr:SR G F β ρ O s.heap)(ha:a∈F.W)(hs:Heap.SameBut a s.heap s'.heap)(st:Step F.W β s s' β):BR G F.B β O s'.heap:=by
 have aB:a∈F.B:=sr.fm.sub _ ha
 refine⟨fun c o e=>?_,sr.br.len,sr.br.nodup,sr.br.new,fun i b bx h1 h2=>?_,fun b hb=>(sr.br.plain b hb).at fun o e=>(hs.2 b fun h=>sr.fm.notBox _ aB (h ▸ hb)).trans e⟩
 ·refine (hs.2 c fun h=>?_).trans (sr.br.keep c o e)
  have:=sr.fm.newW ha;rw[← h,e] at this;cases this
 ·have hb:=sr.br.at_ i b bx h1 h2
  have hne:b≠a:=fun h=>sr.fm.notBox _ aB (h ▸ List.mem_of_getElem? h1)
  cases bx with
  | lst xs=>
    obtain⟨o,vs,n,e1,e2,e3,as,e4,e5⟩:=hb
    exact⟨o,vs,n,(hs.2 b hne).trans e1,e2,e3,as,(zu sr.br sr.fm st e4 e5).1,e5⟩
  | dct kvs=>
    obtain⟨o,es,n,e1,e2,e3,e4,e5⟩:=hb
    refine⟨o,es,n,(hs.2 b hne).trans e1,e2,e3,e4,fun i e kv he hkv=>?_⟩
    obtain⟨hq,as,bs,r1,r2,q⟩:=e5 i e kv he hkv
    exact⟨hq,as,bs,(z9 sr.br sr.fm st r1 fun a ha=>q a (List.mem_append_left _ ha)).1,(z9 sr.br sr.fm st r2 fun a ha=>q a (List.mem_append_right _ ha)).1,q⟩
theorem zgk{ρ:Loc}{i j:Nat}{d u:V}(h:(ρ.set i (some d))[j]?=some (some u)):(j=i∧u=d)∨(j≠i∧ρ[j]?=some (some u)):=by
 rw[List.getElem?_set] at h
 by_cases hij:i=j
 ·subst hij
  rw[if_pos rfl] at h
  split at h
  ·cases h;exact .inl ⟨rfl,rfl⟩
  ·cases h
 ·rw[if_neg hij] at h;exact .inr ⟨fun e=>hij e.symm,h⟩
theorem zhb{i:Nat}{x:Str}{v:Value}{d:V}(sr:SR G F β ρ O s.heap)(hx:F.names[i]?=some (some x))(hk:F.env.kindOf x=some .local∨F.env.kindOf x=some .cell)(own:F.own x=true)(rv:VR G F.B β s.heap v d) :
 Does G F A s β (storeName F.env x v) (.ok () (ρ.set i (some d),O)) (fun _ _ _ _=>True):=by
 intro Q E k
 obtain⟨m,hm⟩:=sr.fm.ns
 rcases hk with hk | hk
 ·refine wpAny_storeName_local hk hm (fun h' hn hs=>?_) (by show (F.env.scope.kind == .class || _)=false;rw[sr.fm.kind];rfl)
  obtain⟨o',es',ep',ho',hd',_⟩:=id hn
  have st:Step F.W β s { s with heap:=h',toks:=s.toks+1 } β:=h9 sr sr.fm.nsW rfl rfl hs ho'
  refine k _ β () st ⟨BR.write (s':={ s with heap:=h',toks:=s.toks+1 }) sr sr.fm.nsW hs st,⟨sr.fm.kind,sr.fm.globals,sr.fm.builtins,sr.fm.once,⟨_,hn⟩,sr.fm.nsW,fun y h1=>?_,sr.fm.apart,sr.fm.sub,sr.fm.new,sr.fm.notBox,fun a ha=>?_,sr.fm.frB,fun a ha=>?_,fun m e=>absurd own (by rw[(sr.fm.pin m e).2 x];exact Bool.false_ne_true)⟩,fun j y u h1 h2=>?_⟩ trivial
  ·obtain⟨c,w,h3,⟨o,h4,h4'⟩,h5⟩:=sr.fm.cell y h1
   refine⟨c,w,h3,⟨o,(hs.2 c fun h=>?_).trans h4,h4'⟩,h5⟩
   obtain⟨o2,es,ep,q1,q2,_⟩:=hm
   rw[h] at h4;rw[h4] at q1;cases q1;rw[h4'] at q2;cases q2
  ·obtain⟨o,h1,h2⟩:=sr.fm.stor a ha
   by_cases hb:a=F.env.locals
   ·subst hb;exact⟨o',ho',fun vs n hv=>by rw[hd'] at hv;cases hv⟩
   ·exact⟨o,(hs.2 a hb).trans h1,h2⟩
  ·obtain⟨m',hm'⟩:=sr.fm.frs a ha
   by_cases hb:a=F.env.locals
   ·subst hb;exact⟨_,hn⟩
   ·exact⟨m',hm'.sameBut hs hb⟩
  ·rcases zgk h2 with ⟨rfl,rfl⟩ | ⟨hj,h2⟩
   ·rw[hx] at h1;cases h1
    exact⟨v,.inl ⟨hk,_,hn,by simp⟩,rv.step sr.br sr.fm st⟩
   ·obtain⟨val,g,r⟩:=sr.get j y u h1 h2
    have hyx:y≠x:=fun e=>hj (sr.fm.once j i x (e ▸ h1) hx)
    refine⟨val,?_,r.step sr.br sr.fm st⟩
    rcases g with ⟨g1,m',g2,g3⟩ | ⟨g1,c,g2,o,g3,g4⟩
    ·rw[za1 g2 hm] at g3
     exact .inl ⟨g1,_,hn,by simp[hyx,g3]⟩
    ·refine .inr ⟨g1,c,g2,o,(hs.2 c fun h=>?_).trans g3,g4⟩
     obtain⟨o2,es,ep,q1,q2,_⟩:=hm
     rw[h] at g3;rw[g3] at q1;cases q1;rw[g4] at q2;cases q2
 ·obtain⟨c,w,hc,hcell,hcB,hcW⟩:=sr.fm.cell x hk
  have hcW:=hcW own
  refine wpAny_storeName_cell sr.fm.kind hk hc hcell fun h' hcell' hs=>?_
  obtain⟨o',ho',hd'⟩:=id hcell'
  have st:Step F.W β s { s with heap:=h' } β:=h9 sr hcW rfl rfl hs ho'
  have hcL:F.env.locals≠c:=fun h=>by
   obtain⟨o2,es,ep,q1,q2,_⟩:=hm
   obtain⟨o3,q3,q4⟩:=hcell
   rw[← h,q1] at q3;cases q3;rw[q2] at q4;cases q4
  have hn':h'.Ns F.env.locals m:=hm.sameBut hs hcL
  refine k _ β () st ⟨BR.write (s':={ s with heap:=h' }) sr hcW hs st,⟨sr.fm.kind,sr.fm.globals,sr.fm.builtins,sr.fm.once,⟨m,hn'⟩,sr.fm.nsW,fun y h1=>?_,sr.fm.apart,sr.fm.sub,sr.fm.new,sr.fm.notBox,fun a ha=>?_,sr.fm.frB,fun a ha=>?_,fun m e=>absurd own (by rw[(sr.fm.pin m e).2 x];exact Bool.false_ne_true)⟩,fun j y u h1 h2=>?_⟩ trivial
  ·obtain⟨c',w',h3,h4,h5⟩:=sr.fm.cell y h1
   by_cases hcc:c'=c
   ·subst hcc;exact⟨c',_,h3,hcell',h5⟩
   ·exact⟨c',w',h3,h4.sameBut hs hcc,h5⟩
  ·obtain⟨o,h1,h2⟩:=sr.fm.stor a ha
   by_cases hb:a=c
   ·subst hb;exact⟨o',ho',fun vs n hv=>by rw[hd'] at hv;cases hv⟩
   ·exact⟨o,(hs.2 a hb).trans h1,h2⟩
  ·obtain⟨m',hm'⟩:=sr.fm.frs a ha
   refine⟨m',hm'.sameBut hs fun h=>?_⟩
   subst h
   obtain⟨o2,es,ep,q1,q2,_⟩:=hm'
   obtain⟨o3,q3,q4⟩:=hcell
   rw[q1] at q3;cases q3;rw[q2] at q4;cases q4
  ·rcases zgk h2 with ⟨rfl,rfl⟩ | ⟨hj,h2⟩
   ·rw[hx] at h1;cases h1
    exact⟨v,.inr ⟨hk,c,hc,hcell'⟩,rv.step sr.br sr.fm st⟩
   ·obtain⟨val,g,r⟩:=sr.get j y u h1 h2
    have hyx:y≠x:=fun e=>hj (sr.fm.once j i x (e ▸ h1) hx)
    refine⟨val,?_,r.step sr.br sr.fm st⟩
    rcases g with ⟨g1,m',g2,g3⟩ | ⟨g1,c',g2,g3⟩
    ·exact .inl ⟨g1,m',g2.sameBut hs hcL,g3⟩
    ·refine .inr ⟨g1,c',g2,g3.sameBut hs fun h=>?_⟩
     subst h
     exact hyx (sr.fm.apart _ _ _ g2 hc)
end
theorem za5{s:Shared}{h':Heap}(he:Heap.ExtBut s.heap.objs.size s.heap h'):KeepsAll s { s with heap:=h' }:=
 ⟨rfl,rfl,fun b o e=>he b o (Nat.ne_of_lt (Heap.lt_size e)) e⟩
noncomputable def bindR(c:CT)(d:V)(S:Loc×za):R (Loc×za) Unit:=match zp c d S.1 with
 | some ρ'=>.ok () (ρ',S.2)
 | none=>.stuck
section
variable{G:Gl}{F:Fm}{A:Around}{cx:Cx}{own:Str→Bool}
theorem ue(fit:Fits F cx){i:Nat}{x:Str}(h:cx.isLoc i x=true):F.names[i]?=some (some x)∧(F.env.kindOf x=some .local∨F.env.kindOf x=some .cell):=by
 obtain⟨h1,h2,_⟩:=ug h
 exact⟨by rw[fit.names];exact h1,by rw[fit.kind];exact h2⟩
theorem ph{i:Nat}{e:Expr}(h:chkT cx own (.name i) e=true):∃ x p,e=.Name x p∧cx.isLoc i x=true∧own x=true:=by
 cases e with
 | Name x p=>obtain⟨h1,h2⟩:=and2 h;exact⟨x,p,rfl,h1,h2⟩
 | _=>exact (Bool.false_ne_true h).elim
theorem zef{a b:CT}{e:Expr}(h:chkT cx own (.two a b) e=true):∃ x y k p,e=.Tuple [x,y] k p∧chkT cx own a x=true∧chkT cx own b y=true:=by
 cases e with
 | Tuple l k p=>
   match l,h with
   | [x,y],h=>obtain⟨h1,h2⟩:=and2 h;exact⟨x,y,k,p,rfl,h1,h2⟩
   | [],h=>exact (Bool.false_ne_true h).elim
   | [_],h=>exact (Bool.false_ne_true h).elim
   | _::_::_::_,h=>exact (Bool.false_ne_true h).elim
 | _=>exact (Bool.false_ne_true h).elim
theorem x6{c:CT}{e:Expr}(h:chkT cx own c e=true)(env:Env)(rest:List Expr):assignEach (e::rest) env=(false,assign e env)::assignEach rest env:=by
 cases c with
 | name i=>obtain⟨_,_,rfl,_⟩:=ph h;rfl
 | two a b=>obtain⟨_,_,_,_,rfl,_⟩:=zef h;rfl
theorem zfm{x:PyData}{xs:List PyData}{N β:List Addr}{h:Heap}{v:Value}(r:VR G N β h v (.d x))(e:items x=some xs) :
 ∃ a o vs n,v=.ref a∧h.get? a=some o∧(o.cls=.type "tuple"∨o.cls=.type "list")∧o.data=.seq vs n∧∃ as,ReadsAll h vs.toList xs as∧∀ a∈as,a∉β∧a∉N:=by
 cases x with
 | list ys=>cases e;obtain⟨a,rfl,⟨o,vs,n,h1,h2,h3,as,h4,h5⟩,_⟩:=r.list_inv;exact⟨a,o,vs,n,rfl,h1,.inr h2,h3,as,h4,h5⟩
 | tuple ys=>cases e;obtain⟨a,o,vs,n,rfl,h1,h2,h3,as,h4,h5⟩:=r.tuple_inv;exact⟨a,o,vs,n,rfl,h1,.inl h2,h3,as,h4,h5⟩
 | _=>cases e
theorem v4{M:Model}{prog:Program}{w:World}{E:Value→Shared→Prop}{s:Shared}{env:Env}{elts:List Expr}{k:Nat}{pos:Pos}{a:Addr}{o:Obj}{vs:Array Value}{n:Nat}{Q:Unit→Shared→Prop}(hh:A.handled=none)
 (h1:s.heap.get? a=some o) (h2:o.cls=.type "tuple"∨o.cls=.type "list") (h3:o.data=.seq vs n) (hn:(assignEach elts env).length=vs.size) (hstar:(assignEach elts env).findIdx? (·.1)=none)
 (h:∀ s',KeepsAll s s'→wpAny (model prog w) A (assignInOrder ((assignEach elts env).map (·.2)) vs.toList) Q E s'):wpAny (model prog w) A (assign (.Tuple elts k pos) env (.ref a)) Q E s:=by
 rw[assign_Tuple]
 refine wpAny_bind (wpAny_standAt ?_)
 unfold unpack
 rw[hn,hstar]
 rcases h2 with h2 | h2
 ·exact wpAny_bind (wpAny_holding (unpackItems_tuple hh ⟨o,h1,h2,n,h3⟩ fun h' he=>h _ (za5 he)))
 ·exact wpAny_bind (wpAny_holding (PySem.W.kun_itemsOf hh ⟨o,h1,h2,n,h3⟩ fun h' he=>h _ (za5 he)))
theorem wb{h:Heap}{P:Addr→Prop}{vs:List Value}{y z:PyData}{as:List Addr}(r:ReadsAll h vs [y,z] as)(q:∀ a∈as,P a):∃ v u bs cs,vs=[v,u]∧Reads h v y bs∧(∀ a∈bs,P a)∧Reads h u z cs∧∀ a∈cs,P a:=by
 obtain⟨v1,b1,e1,r1,q1⟩:=zo r q (i:=0) rfl
 obtain⟨v2,b2,e2,r2,q2⟩:=zo r q (i:=1) rfl
 refine⟨v1,v2,b1,b2,?_,r1,q1,r2,q2⟩
 have hl:vs.length=2:=zd r
 clear r r1 r2
 cases vs with
 | nil=>cases e1
 | cons x l=>
   cases l with
   | nil=>cases e2
   | cons y l=>rw[List.eq_nil_of_length_eq_zero (Nat.succ.inj (Nat.succ.inj hl)),Option.some.inj e1,Option.some.inj e2]
noncomputable abbrev URel:List Addr→Heap→Unit→Unit→Prop:=fun _ _ _ _=>True
set_option tactic.hygienic true in
theorem xu(hh:A.handled=none)(fit:Fits F cx)(hown:∀ x,own x=true→F.own x=true):∀ (c:CT) {e:Expr} {s:Shared} {β:List Addr} {ρ:Loc} {O:za} {v:Value} {d:V},chkT cx own c e=true→SR G F β ρ O s.heap→VR G F.B β s.heap v d →
 Does G F A s β (assign e F.env v) (bindR c d (ρ,O)) URel:=by
 intro c
 induction c with
 | name i=>
   intro e s β ρ O v d h sr rv
   obtain⟨x,p,rfl,h1,h2⟩:=ph h
   obtain⟨g1,g2⟩:=ue fit h1
   unfold bindR zp
   dsimp only
   split
   ·rename_i ρ' heq
    split at heq
    ·cases heq
     exact (zhb sr g1 g2 (hown x h2) rv).weaken (fun Q E h=>wpAny_assign_Name h) fun _ _ _ _ h=>h
    ·cases heq
   ·trivial
 | two a b iha ihb=>
   intro e s β ρ O v d h sr rv
   obtain⟨x,y,k,p,rfl,h1,h2⟩:=zef h
   have hn:∀ (vs:Array Value),vs.size=2→(assignEach [x,y] F.env).length=vs.size:=fun vs hv=>by rw[x6 h1,x6 h2,hv];rfl
   have hstar:(assignEach [x,y] F.env).findIdx? (·.1)=none:=by rw[x6 h1,x6 h2];rfl
   have hmap:(assignEach [x,y] F.env).map (·.2)=[assign x F.env,assign y F.env]:=by rw[x6 h1,x6 h2];rfl
   have both:∀ (s:Shared) (v1 v2:Value) (d1 d2:V),SR G F β ρ O s.heap→VR G F.B β s.heap v1 d1→VR G F.B β s.heap v2 d2 →
    DoesW G F s β (tr G A (assignInOrder [assign x F.env,assign y F.env] [v1,v2])) (match (zp a d1 ρ).bind (zp b d2) with | some ρ'=>.ok () (ρ',O) | none=>.stuck) URel:=by
    intro s v1 v2 d1 d2 sr r1 r2
    have da:=iha h1 sr r1
    have e1:(match (zp a d1 ρ).bind (zp b d2) with | some ρ'=>R.ok () (ρ',O) | none=>.stuck)=(bindR a d1 (ρ,O)).bind fun _ S=>bindR b d2 S:=by
     unfold bindR
     cases zp a d1 ρ <;> rfl
    rw[e1]
    refine DoesW.seq (T₂:=fun _ Q E s=>wpAny (model G.prog G.w) A (assign y F.env v2) (fun _ s=>Q () s) E s) (fun Q E h=>assignInOrder_cons (wpAny_mono h (fun _ s₁ h=>assignInOrder_cons (wpAny_mono h (fun _ s₂ h=>assignInOrder_nil h) fun _ _ x=>x)) fun _ _ x=>x)) da fun s' β' _ _ S e st sr' _=>?_
    exact ihb h2 sr' (r2.step sr.br sr.fm st)
   cases d with
   | d z=>
     show DoesW G F s β _ (match (match items z with | some [y',z']=>(zp a (.d y') ρ).bind (zp b (.d z')) | _=>none) with | some ρ'=>R.ok () (ρ',O) | none=>.stuck) _
     cases hi:items z with
     | none=>trivial
     | some l=>
       match l,hi with
       | [y',z'],hi=>
         obtain ⟨ad,o,vs,n,rfl,g1,g2,g3,as,r,q⟩:=zfm rv hi
         obtain ⟨v1,v2,bs,cs,hvs,r1,q1,r2,q2⟩:=wb r q
         have hsz:vs.size=2:=by rw [← Array.length_toList,hvs];rfl
         have kall:∀ s',KeepsAll s s'→DoesW G F s' β (tr G A (assignInOrder [assign x F.env,assign y F.env] [v1,v2])) (match (zp a (.d y') ρ).bind (zp b (.d z')) with | some ρ'=>.ok () (ρ',O) | none=>.stuck) URel:=fun s' ka=>
          both s' v1 v2 (.d y') (.d z') (sr.keepAll ka.kept) ⟨bs,z5 ka.kept r1,q1⟩ ⟨cs,z5 ka.kept r2,q2⟩
         dsimp only
         cases hb:(zp a (.d y') ρ).bind (zp b (.d z')) with
         | none=>trivial
         | some ρ'=>
           intro Q E kk
           refine v4 (M:=model G.prog G.w) hh g1 g2 g3 (hn vs hsz) hstar fun s' ka=>?_
           rw [hmap,hvs]
           have dd:=kall s' ka
           rw [hb] at dd
           exact dd Q E fun s'' β' u st sr'' r=>kk s'' β' u ((ka.step _ _).trans st) sr'' r
       | [],_=>trivial
       | [_],_=>trivial
       | _::_::_::_,_=>trivial
   | tm its=>trivial
   | box n=>trivial
end
noncomputable def Itr(h:Heap)(z:Addr):Prop:=∃ o T fs,h.get? z=some o∧o.cls=.type T∧o.data=.fields fs
structure KeepsZ(Z:List Addr)(s s':Shared):Prop where
 gens:s'.gens=s.gens
 os:s'.os=s.os
 kept:∀ b o,b∉Z→s.heap.get? b=some o→s'.heap.get? b=some o
theorem KeepsZ.refl(Z:List Addr)(s:Shared):KeepsZ Z s s:=⟨rfl,rfl,fun _ _ _ e=>e⟩
theorem KeepsZ.trans{Z:List Addr}{s s' s'':Shared}(x:KeepsZ Z s s')(y:KeepsZ Z s' s''):KeepsZ Z s s'':=⟨y.gens.trans x.gens,y.os.trans x.os,fun b o hb e=>y.kept b o hb (x.kept b o hb e)⟩
theorem KeepsAll.z{s s':Shared}(x:KeepsAll s s')(Z:List Addr):KeepsZ Z s s':=⟨x.gens,x.os,fun b o _ e=>x.kept b o e⟩
theorem Step.thenZ{W β₀ β Z:List Addr}{s₀ s s':Shared}(st:Step W β₀ s₀ s β)(k:KeepsZ Z s s')(hz:∀ z∈Z,s₀.heap.get? z=none):Step W β₀ s₀ s' β where
 gens:=k.gens.trans st.gens
 os:=k.os.trans st.os
 pre:=st.pre
 fresh:=st.fresh
 alive:=fun b o e=>by
  obtain⟨o',e'⟩:=st.alive b o e
  exact⟨o',k.kept b o' (fun h=>by rw[hz b h] at e;cases e) e'⟩
 kept:=fun b o e hb hW=>let ⟨o',e',kn⟩:=st.kept b o e hb hW;⟨o',k.kept b o' (fun h=>by rw[hz b h] at e;cases e) e',kn⟩
inductive zeq(h:Heap)(a:Addr):Prop
 | mk (o:Obj) (e:h.get? a=some o) (hd:∀ fs,o.data≠.fields fs)
theorem zo0{d:Data}{vs:Array Value}{n:Nat}(h:d=.seq vs n):∀ fs,d≠.fields fs:=fun fs e=>by rw[h] at e;cases e
theorem znc{d:Data}{vs:Array DictEntry}{n:Nat}(h:d=.dict vs n):∀ fs,d≠.fields fs:=fun fs e=>by rw[h] at e;cases e
theorem w5{h:Heap}{v:Value}{x:PyData}{as:List Addr}(r:Reads h v x as):∀ a∈as,zeq h a:=
 Reads.rec (motive_1:=fun _ _ as _=>∀ a∈as,zeq h a) (motive_2:=fun _ _ as _=>∀ a∈as,zeq h a)
  (fun _ h=>nomatch h) (fun _ _ h=>nomatch h) (fun _ _ _ h=>nomatch h) (fun _ _ _ h=>nomatch h)
  (fun h1 _ h3 _ ih a ha=>(List.mem_cons.mp ha).elim (fun e=>e ▸ ⟨_,h1,zo0 h3⟩) (ih a))
  (fun _ _ _ _ ih=>ih)
  (fun h1 _ h3 _ _ ih ih' a ha=>(List.mem_append.mp ha).elim (fun ha=>(List.mem_cons.mp ha).elim (fun e=>e ▸ ⟨_,h1,znc h3⟩) (ih a)) (ih' a))
  (fun _ h=>nomatch h) (fun _ _ i1 i2 a ha=>(List.mem_append.mp ha).elim (i1 a) (i2 a)) r
theorem zb1{h:Heap}{vs:List Value}{xs:List PyData}{as:List Addr}(r:ReadsAll h vs xs as):∀ a∈as,zeq h a:=
 ReadsAll.rec (motive_1:=fun _ _ _ _=>True) (motive_2:=fun _ _ as _=>∀ a∈as,zeq h a)
  trivial (fun _=>trivial) (fun _ _=>trivial) (fun _ _=>trivial) (fun _ _ _ _ _=>trivial) (fun _ _ _ _ _=>trivial) (fun _ _ _ _ _ _ _=>trivial)
  (fun _ h=>nomatch h) (fun r _ _ i2 a ha=>(List.mem_append.mp ha).elim (w5 r a) (i2 a)) r
section
variable{G:Gl}{F:Fm}{N β Z:List Addr}{ρ:Loc}{O:za}{h h':Heap}
theorem notZ(hz:∀ z∈Z,Itr h z){b:Addr}{o:Obj}(e:h.get? b=some o)(hd:∀ fs,o.data≠.fields fs):b∉Z:=fun hb=>by
 obtain⟨o',T,fs,e',_,hf⟩:=hz b hb
 rw[e] at e';cases e';exact hd fs hf
section
variable(hz:∀ z∈Z,Itr h z)(hk:∀ b o,b∉Z→h.get? b=some o→h'.get? b=some o)
include hz hk
theorem getZ{b:Addr}{o:Obj}(e:h.get? b=some o)(hd:∀ fs,o.data≠.fields fs):h'.get? b=some o:=hk b o (notZ hz e hd) e
theorem jl{v:Value}{x:PyData}{as:List Addr}(r:Reads h v x as):Reads h' v x as:=
 jb (P:=fun b=>b∉Z) (fun b o e hb=>hk b o hb e) (fun b o vs n e _ hd=>notZ hz e fun fs q=>by rw[hd] at q;cases q) r fun a ha=>let ⟨o,e,hd⟩:=w5 r a ha;notZ hz e hd
theorem gi{vs:List Value}{xs:List PyData}{as:List Addr}(r:ReadsAll h vs xs as):ReadsAll h' vs xs as:=
 xn (P:=fun b=>b∉Z) (fun b o e hb=>hk b o hb e) (fun b o vs n e _ hd=>notZ hz e fun fs q=>by rw[hd] at q;cases q) r fun a ha=>let ⟨o,e,hd⟩:=zb1 r a ha;notZ hz e hd
theorem zfu{vs:List Value}{its:List It}(r:ItsR N β h vs its):ItsR N β h' vs its:=by
 induction r with
 | nil=>exact .nil
 | b h1 _ ih=>exact .b h1 ih
 | x h1 h2 _ ih=>exact .x (jl hz hk h1) h2 ih
theorem VR.keepZ(hc:∀ c,∃ C,G.cls c=.ref C){v:Value}{x:V}(r:VR G N β h v x):VR G N β h' v x:=by
 cases x with
 | d x=>obtain⟨as,r,q⟩:=r;exact⟨as,jl hz hk r,q⟩
 | box n=>exact r
 | tm its=>obtain⟨a,o,vs,k,e,h1,h2,h3,h4⟩:=r;exact⟨a,o,vs,k,e,getZ hz hk h1 (fun fs q=>by rw[h3] at q;cases q),h2,h3,zfu hz hk h4⟩
theorem BoxAt.keepZ{a:Addr}{bx:Box}(r:BoxAt h N β a bx):BoxAt h' N β a bx:=by
 cases bx with
 | lst xs=>obtain⟨o,vs,n,h1,h2,h3,as,h4,h5⟩:=r;exact⟨o,vs,n,getZ hz hk h1 (fun fs q=>by rw[h3] at q;cases q),h2,h3,as,gi hz hk h4,h5⟩
 | dct kvs=>
   obtain⟨o,es,n,h1,h2,h3,h4,h5⟩:=r
   refine⟨o,es,n,getZ hz hk h1 (fun fs q=>by rw[h3] at q;cases q),h2,h3,h4,fun i e kv he hkv=>?_⟩
   obtain⟨hq,as,bs,r1,r2,q⟩:=h5 i e kv he hkv
   exact⟨hq,as,bs,jl hz hk r1,jl hz hk r2,q⟩
theorem BR.notItr{O:za}(b:BR G N β O h){a:Addr}(ha:a∈β):a∉Z:=by
 obtain⟨i,hi⟩:=List.getElem?_of_mem ha
 have hl:i < O.length:=by rw[← b.len];exact (List.getElem?_eq_some_iff.mp hi).1
 have hx:=b.at_ i a _ hi (List.getElem?_eq_getElem hl)
 cases hb:O[i] with
 | lst xs=>rw[hb] at hx;obtain⟨o',vs,n,h1,h2,h3,_⟩:=hx;exact notZ hz h1 fun fs q=>by rw[h3] at q;cases q
 | dct kvs=>rw[hb] at hx;obtain⟨o',vs,n,h1,h2,h3,_⟩:=hx;exact notZ hz h1 fun fs q=>by rw[h3] at q;cases q
theorem BR.keepZ(hz0:∀ z∈Z,G.h₀.get? z=none)(b:BR G N β O h):BR G N β O h':=
 ⟨fun c o e=>hk _ _ (fun hb=>by rw[hz0 c hb] at e;cases e) (b.keep c o e),b.len,b.nodup,b.new,fun i a bx h1 h2=>(b.at_ i a bx h1 h2).keepZ hz hk,fun a ha=>(b.plain a ha).at fun o e=>hk a o (BR.notItr hz hk b ha) e⟩
theorem nsZ{L:Addr}{m:Str→Option Value}(x:h.Ns L m):h'.Ns L m:=by
 obtain⟨o,es,ep,h1,h2,r⟩:=x
 exact⟨o,es,ep,getZ hz hk h1 (fun fs q=>by rw[h2] at q;cases q),h2,r⟩
theorem zoa{c:Addr}{v:Option Value}(x:h.IsCell c v):h'.IsCell c v:=by
 obtain⟨o,h1,h2⟩:=x
 exact⟨o,getZ hz hk h1 (fun fs q=>by rw[h2] at q;cases q),h2⟩
theorem Get.keepZ{env:Env}{x:Str}{v:Value}(g:Get h env x v):Get h' env x v:=by
 rcases g with ⟨h1,m,h2,h3⟩ | ⟨h1,c,h2,h3⟩
 ·exact .inl ⟨h1,m,nsZ hz hk h2,h3⟩
 ·exact .inr ⟨h1,c,h2,zoa hz hk h3⟩
theorem FmOk.keepZ(hzB:∀ z∈Z,z∉F.B)(f:FmOk G F β h):FmOk G F β h' where
 kind:=f.kind
 globals:=f.globals
 builtins:=f.builtins
 once:=f.once
 ns:=let ⟨m,e⟩:=f.ns;⟨m,nsZ hz hk e⟩
 nsW:=f.nsW
 cell:=fun x h1=>let ⟨c,v,h3,h4,h5⟩:=f.cell x h1;⟨c,v,h3,zoa hz hk h4,h5⟩
 apart:=f.apart
 sub:=f.sub
 new:=f.new
 notBox:=f.notBox
 stor:=fun a ha=>let ⟨o,h1,h2⟩:=f.stor a ha;⟨o,hk _ _ (fun hb=>hzB a hb ha) h1,h2⟩
 frB:=f.frB
 frs:=fun a ha=>let ⟨m,e⟩:=f.frs a ha;⟨m,nsZ hz hk e⟩
 pin:=fun m e=>⟨nsZ hz hk (f.pin m e).1,(f.pin m e).2⟩
theorem SR.keepZ(hc:∀ c,∃ C,G.cls c=.ref C)(hz0:∀ z∈Z,G.h₀.get? z=none)(hzB:∀ z∈Z,z∉F.B)(r:SR G F β ρ O h):SR G F β ρ O h':=
 ⟨r.br.keepZ hz hk hz0,r.fm.keepZ hz hk hzB,fun i x v h1 h2=>let ⟨val,h3,h4⟩:=r.get i x v h1 h2;⟨val,h3.keepZ hz hk,h4.keepZ hz hk hc⟩⟩
end
end
noncomputable def Src.Has(s:Src)(O:za):Prop:=match s with
 | .plain _=>True
 | .box n xs=>O[n]?=some (.lst xs)
theorem Src.has_of{s:Src}{O:za}(h:s.still O=true):s.Has O:=by
 cases s with
 | plain xs=>trivial
 | box n xs=>exact @of_decide_eq_true _ (Classical.propDecidable _) h
structure Turns(G:Gl)(A:Around)(target:Expr)(I:Addr)(Z:List Addr)(src:Src)(St:Nat→List Addr→List Addr→Heap→Prop):Prop where
 itr:∀ i N β h,St i N β h→∀ z∈Z,Itr h z
 keep:∀ i N N' β β' h h',St i N β h→(∀ z∈Z,∀ o,h.get? z=some o→h'.get? z=some o)→(∀ v x,VR G N β h v (.d x)→VR G N' β' h' v (.d x))→β <+: β'→St i N' β' h'
 item:∀ i N β O s x (Q:Option Value→Shared→Prop) (E:Value→Shared→Prop),src.xs[i]?=some x→BR G N β O s.heap→src.Has O→St i N β s.heap →
  (∀ v s',(∀ (Q':Unit→Shared→Prop) (E':Value→Shared→Prop),(∀ s'',KeepsZ Z s s''→VR G N β s''.heap v (.d x)→St (i+1) N β s''.heap→Q' () s'')→wpAny (model G.prog G.w) A (letOwnedTupleGo target (.ref I) v) Q' E' s')→Q (some v) s') →
  wpAny (model G.prog G.w) A (pyNext (.ref I)) Q E s
 done:∀ i N β O s (Q:Option Value→Shared→Prop) (E:Value→Shared→Prop),src.xs.length=i→BR G N β O s.heap→src.Has O→St i N β s.heap →
  (∀ s',KeepsZ Z s s'→Q none s')→wpAny (model G.prog G.w) A (pyNext (.ref I)) Q E s
 self:∀ i N β s (Q:Value→Shared→Prop) (E:Value→Shared→Prop),St i N β s.heap→Q (.ref I) s→wpAny (model G.prog G.w) A (pyIter (.ref I)) Q E s
set_option tactic.hygienic true in
theorem wm{prog:Program}{w:World}{A:Around}{E:Value→Shared→Prop}{s:Shared}{target:Expr}{I:Addr}{v:Value}{o:Obj}{T:String}{Q:Unit→Shared→Prop}(ho:s.heap.get? I=some o)(hc:o.cls=.type T)
 (hT:["enumerate","zip","dict_itemiterator","dict_reverseitemiterator","odict_iterator","itertools.zip_longest","itertools.pairwise"].contains T=false) (hQ:Q () s) :
 wpAny (model prog w) A (letOwnedTupleGo target (.ref I) v) Q E s:=by
 have main:∀ a:Addr,wpAny (model prog w) A (do
  let o ← load I
  match o.cls,o.data with
  | .type n,.fields vs=>
    if ["enumerate","zip","dict_itemiterator","dict_reverseitemiterator","odict_iterator","itertools.zip_longest","itertools.pairwise"].contains n && vs[0]? == some (rawInt a) then
     rule "for.unpacks-the-owned-tuple"
     updateField I 0 .none
  | _,_=>pure ():Sem Unit) Q E s:=by
  intro a
  refine wpAny_bind (wpAny_load ho ?_)
  rw[hc]
  cases o.data <;> first | exact wpAny_pure hQ | skip
  rename_i vs
  dsimp only
  rw[if_neg (by rw[hT,Bool.false_and];exact Bool.false_ne_true)]
  exact wpAny_pure hQ
 unfold letOwnedTupleGo
 cases target <;> first | exact wpAny_pure hQ | skip
 all_goals
  cases v <;> first | exact wpAny_pure hQ | exact main _
theorem jn{s:Shared}{I:Addr}{h':Heap}{tk:Nat}(hs:Heap.SameBut I s.heap h'):KeepsZ [I] s { s with heap:=h',toks:=tk }:=
 ⟨rfl,rfl,fun b o hb e=>(hs.2 b fun h=>hb (by simp[h])).trans e⟩
theorem ke{s:Shared}{I:Addr}{h':Heap}(hs:Heap.ExtBut I s.heap h'):KeepsZ [I] s { s with heap:=h' }:=
 ⟨rfl,rfl,fun b o hb e=>hs b o (fun h=>hb (by simp[h])) e⟩
section
variable{G:Gl}{A:Around}{target:Expr}(hc:∀ c,∃ C,G.cls c=.ref C)
theorem k6{h:Heap}{I l:Addr}{i:Nat}(x:h.IsListIter I l i):∀ z∈[I],Itr h z:=fun z hz=>by
 obtain⟨o,h1,h2,h3⟩:=x
 rw[List.mem_singleton.mp hz];exact⟨o,_,_,h1,h2,h3⟩
theorem qu{h:Heap}{N β:List Addr}{a:Addr}{xs:List PyData}(r:VR G N β h (.ref a) (.d (.list xs))):ListAt h N β a xs∧a∉β∧a∉N:=by
 obtain⟨a',e,h1,h2⟩:=r.list_inv
 cases e;exact⟨h1,h2⟩
include hc in
theorem Turns.list(hh:A.handled=none)(I ax:Addr)(xs:List PyData):Turns G A target I [I] (.plain xs) (fun i N β h=>h.IsListIter I ax i∧VR G N β h (.ref ax) (.d (.list xs))) where
 itr:=fun i N β h st=>k6 st.1
 keep:=fun i N N' β β' h h' st k1 k2 _=>⟨st.1.at fun o e=>k1 I (by simp) o e,k2 _ _ st.2⟩
 item:=fun i N β O s x Q E hx br has st k=>by
  obtain⟨⟨o,vs,n,h1,h2,h3,as,h4,h5⟩,_⟩:=qu st.2
  obtain⟨v,cs,e1,e2,e3⟩:=zo h4 h5 (i:=i) hx
  refine wpAny_pyNext_list_item st.1 ⟨o,h1,h2,n,h3⟩ (x:=v) (by rw[← Array.getElem?_toList];exact e1) fun h' hit' hs'=>?_
  obtain⟨o',q1,q2,q3⟩:=id hit'
  have kz:KeepsZ [I] s { s with heap:=h' }:=jn hs'
  have rv:VR G N β h' v (.d x):=VR.keepZ (k6 st.1) kz.kept hc ⟨cs,e2,e3⟩
  exact k v _ fun Q' E' k'=>wm q1 q2 (by decide) (k' _ kz rv ⟨hit',VR.keepZ (k6 st.1) kz.kept hc st.2⟩)
 done:=fun i N β O s Q E hx br has st k=>by
  obtain⟨⟨o,vs,n,h1,h2,h3,as,h4,h5⟩,_⟩:=qu st.2
  refine wpAny_pyNext_list_end hh st.1 ⟨o,h1,h2,n,h3⟩ ?_ fun h' he=>k _ (ke he)
  rw[Array.getElem?_eq_none]
  rw[← Array.length_toList,zd h4];exact Nat.le_of_eq hx
 self:=fun i N β s Q E st q=>wpAny_pyIter_listiter st.1 q
include hc in
theorem Turns.box(hh:A.handled=none)(I ax:Addr)(n:Nat)(xs:List PyData):Turns G A target I [I] (.box n xs) (fun i N β h=>h.IsListIter I ax i∧β[n]?=some ax) where
 itr:=fun i N β h st=>k6 st.1
 keep:=fun i N N' β β' h h' st k1 k2 p=>⟨st.1.at fun o e=>k1 I (by simp) o e,x0 p st.2⟩
 item:=fun i N β O s x Q E hx br has st k=>by
  obtain⟨o,vs,n,h1,h2,h3,as,h4,h5⟩:=br.at_ n ax (.lst xs) st.2 has
  obtain⟨v,cs,e1,e2,e3⟩:=zo h4 h5 (i:=i) hx
  refine wpAny_pyNext_list_item st.1 ⟨o,h1,h2,n,h3⟩ (x:=v) (by rw[← Array.getElem?_toList];exact e1) fun h' hit' hs'=>?_
  obtain⟨o',q1,q2,q3⟩:=id hit'
  have kz:KeepsZ [I] s { s with heap:=h' }:=jn hs'
  have rv:VR G N β h' v (.d x):=VR.keepZ (k6 st.1) kz.kept hc ⟨cs,e2,e3⟩
  exact k v _ fun Q' E' k'=>wm q1 q2 (by decide) (k' _ kz rv ⟨hit',st.2⟩)
 done:=fun i N β O s Q E hx br has st k=>by
  obtain⟨o,vs,n,h1,h2,h3,as,h4,h5⟩:=br.at_ n ax (.lst xs) st.2 has
  refine wpAny_pyNext_list_end hh st.1 ⟨o,h1,h2,n,h3⟩ ?_ fun h' he=>k _ (ke he)
  rw[Array.getElem?_eq_none]
  rw[← Array.length_toList,zd h4];exact Nat.le_of_eq hx
 self:=fun i N β s Q E st q=>wpAny_pyIter_listiter st.1 q
theorem zca{h:Heap}{I l:Addr}{i:Nat}(x:IsTupIter h I l i):∀ z∈[I],Itr h z:=fun z hz=>by
 obtain⟨o,h1,h2,h3⟩:=x
 rw[List.mem_singleton.mp hz];exact⟨o,_,_,h1,h2,h3⟩
include hc in
theorem Turns.tuple(hh:A.handled=none)(I ax:Addr)(xs:List PyData):Turns G A target I [I] (.plain xs) (fun i N β h=>IsTupIter h I ax i∧VR G N β h (.ref ax) (.d (.tuple xs))) where
 itr:=fun i N β h st=>zca st.1
 keep:=fun i N N' β β' h h' st k1 k2 _=>⟨by obtain⟨o,e,r⟩:=st.1;exact⟨o,k1 I (by simp) o e,r⟩,k2 _ _ st.2⟩
 item:=fun i N β O s x Q E hx br has st k=>by
  obtain⟨a',o,vs,n,e,h1,h2,h3,as,h4,h5⟩:=st.2.tuple_inv
  cases e
  obtain⟨v,cs,e1,e2,e3⟩:=zo h4 h5 (i:=i) hx
  refine next_tuple_item st.1 ⟨o,h1,h2,n,h3⟩ (x:=v) (by rw[← Array.getElem?_toList];exact e1) fun h' hit' hs'=>?_
  obtain⟨o',q1,q2,q3⟩:=id hit'
  have kz:KeepsZ [I] s { s with heap:=h' }:=jn hs'
  have rv:VR G N β h' v (.d x):=VR.keepZ (zca st.1) kz.kept hc ⟨cs,e2,e3⟩
  exact k v _ fun Q' E' k'=>wm q1 q2 (by decide) (k' _ kz rv ⟨hit',VR.keepZ (zca st.1) kz.kept hc st.2⟩)
 done:=fun i N β O s Q E hx br has st k=>by
  obtain⟨a',o,vs,n,e,h1,h2,h3,as,h4,h5⟩:=st.2.tuple_inv
  cases e
  refine next_tuple_end hh st.1 ⟨o,h1,h2,n,h3⟩ ?_ fun h' he=>k _ (ke he)
  rw[Array.getElem?_eq_none]
  rw[← Array.length_toList,zd h4];exact Nat.le_of_eq hx
 self:=fun i N β s Q E st q=>wpAny_pyIter_tupleiter st.1 q
theorem zfd{a b:Int}{i:Nat}{x:PyData}(h:(zj a b)[i]?=some x):x=.int (a+i)∧i < (b - a).toNat:=by
 unfold zj at h
 rw[List.getElem?_map] at h
 cases e:(List.range (b - a).toNat)[i]? with
 | none=>rw[e] at h;cases h
 | some j=>
   rw[e] at h
   have hi:i < (List.range (b - a).toNat).length:=by
    rcases Nat.lt_or_ge i (List.range (b - a).toNat).length with h | h
    ·exact h
    ·rw[List.getElem?_eq_none h] at e;cases e
   rw[List.getElem?_eq_getElem hi,List.getElem_range] at e
   cases e;cases h
   exact⟨rfl,by simpa using hi⟩
theorem zag{a b:Int}:(zj a b).length=(b - a).toNat:=by simp[zj]
theorem zh6{h:Heap}{I:Addr}{x l st:Int}(q:IsRangeIter h I x l st):∀ z∈[I],Itr h z:=fun z hz=>by
 rw[List.mem_singleton.mp hz];exact⟨_,_,_,q,rfl,rfl⟩
include hc in
theorem Turns.range(hh:A.handled=none)(I:Addr)(a b:Int):Turns G A target I [I] (.plain (zj a b)) (fun i N β h=>IsRangeIter h I (a+(i:Nat)) (((b - a).toNat:Int) - (i:Nat)) 1) where
 itr:=fun i N β h st=>zh6 st
 keep:=fun i N N' β β' h h' st k1 k2 _=>k1 I (by simp) _ st
 item:=fun i N β O s x Q E hx br has st k=>by
  obtain⟨rfl,hi⟩:=zfd hx
  refine wpAny_pyNext_range_item st (by omega) fun h' hit' hs'=>?_
  have kz:KeepsZ [I] s { s with heap:=h',toks:=s.toks+1 }:=jn hs'
  refine k _ _ fun Q' E' k'=>wm hit' rfl (by decide) (k' _ kz VR.int ?_)
  have e1:a+((i+1:Nat):Int)=a+(i:Int)+1:=by push_cast;omega
  have e2:((b - a).toNat:Int) - ((i+1:Nat):Int)=((b - a).toNat:Int) - (i:Int) - 1:=by push_cast;omega
  rw[e1,e2];exact hit'
 done:=fun i N β O s Q E hx br has st k=>wpAny_pyNext_range_end hh st (by have:(zj a b).length=i:=hx;rw[zag] at this;omega) fun h' he=>k _ (ke he)
 self:=fun i N β s Q E st q=>wpAny_pyIter_rangeiter st q
end
section
variable{G:Gl}{F:Fm}{A:Around}{s:Shared}{β:List Addr}{ρ:Loc}{O:za}{cx:Cx}{gval:Nat→Option PyData}{gname:Nat→Option Str}
theorem wt{α:Type}{x:Str}{fv:Value}{e:Expr}{rest:List Expr}{p q:Pos}{r:R za (List V)}{k:List V→za→R za α}{Rel:List Addr→Heap→Value→α→Prop}(g:GOk G gval gname)(sr:SR G F β ρ O s.heap)(fit:Fits F cx)
 (hx:cx.isGlob x=true) (hb:(x,fv)∈bis) (hfv:(∃ id,fv=.builtin id)∨∃ T,fv=.type T)
 (he:starEach (e::rest) F.env=(false,eval e F.env)::starEach rest F.env) (hplain:(backTo q (starEach rest F.env)).any (·.1)=false)
 (h1:Does G F A s β (spliced (backTo q (starEach (e::rest) F.env))) (r.lift ρ) (VRsl G F))
 (h2:∀ s' β' vals vs O',r=.ok vs O'→Step F.W β s s' β'→SR G F β' ρ O' s'.heap→VRs G F.B β' s'.heap vals vs→Does G F A s' β' (call fv vals) ((k vs O').lift ρ) Rel) :
 Does G F A s β (eval (.Call (.Name x p) (e::rest) [] q) F.env) ((r.bind k).lift ρ) Rel:=by
 obtain⟨b1,b2⟩:=g.bi _ hb
 refine DoesW.seqE (T₂:=fun vs=>tr G A (call fv vs)) (fun Q E h=>Call_Name rfl (ym g sr fit hx b1 b2 ?_)) h1 fun s' β' vals vs O' e' st sr' rvs=>h2 s' β' vals vs O' e' st sr' rvs
 rcases hfv with ⟨id,rfl⟩ | ⟨T,rfl⟩
 ·exact callWith_builtin1 h he hplain
 ·exact callWith_type1 h he hplain
noncomputable def IRel(G:Gl)(F:Fm)(A:Around)(target:Expr)(s:Shared):List Addr→Heap→Value→Src→Prop:=fun β h v src=>
 ∃ I Z St,v=.ref I∧Turns G A target I Z src St∧St 0 F.B β h∧∀ z∈Z,s.heap.get? z=none
theorem IRel.back{target:Expr}{s':Shared}{β':List Addr}{h:Heap}{v:Value}{src:Src}{β₁:List Addr}{W:List Addr}(st:Step W β s s' β')(r:IRel G F A target s' β₁ h v src):IRel G F A target s β₁ h v src:=by
 obtain⟨I,Z,St,e,t,h0,hz⟩:=r
 refine⟨I,Z,St,e,t,h0,fun z hz'=>?_⟩
 cases e:s.heap.get? z with
 | none=>rfl
 | some o=>obtain⟨o',e'⟩:=st.alive z o e;rw[hz z hz'] at e';cases e'
noncomputable abbrev za6(G:Gl)(A:Around)(x:Expr)(env:Env):WT Value:=fun Q E s=>wpAny (model G.prog G.w) A (eval x env) (fun xv s₁=>wpAny (model G.prog G.w) A (pyIter xv) Q E s₁) E s
theorem z7(s:Shared):s.heap.get? s.heap.objs.size=none:=Heap.get?_none_of_le (Nat.le_refl _)
theorem zk4{target:Expr}{v:Value}{d:V}(g:GOk G gval gname)(hh:A.handled=none)(sr:SR G F β ρ O s.heap)(rv:VR G F.B β s.heap v d) :
 Does G F A s β (pyIter v) ((match d with
  | .d x=>opt ((items x).map Src.plain) O
  | .box n=>(match O[n]? with
     | some (.lst xs)=>R.ok (Src.box n xs) O
     | _=>.stuck)
  | _=>.stuck).lift ρ) (IRel G F A target s):=by
 cases d with
 | d x=>
   cases x with
   | list xs=>
     obtain⟨a,rfl,⟨o,vs,n,h1,h2,h3,as,h4,h5⟩,h6⟩:=rv.list_inv
     refine Does.leaf sr fun Q E k=>wpAny_pyIter_list ⟨o,h1,h2,n,h3⟩ (k _ _ (KeepsAll.push s _ _) ?_)
     exact⟨_,_,_,rfl,Turns.list g.clsRef hh _ a xs,⟨⟨_,Heap.get?_push_size _ rfl,rfl,rfl⟩,rv.keepAll (fun _ _ e=>Heap.get?_push_of_some _ e)⟩,fun z hz=>by rw[List.mem_singleton.mp hz];exact z7 s⟩
   | tuple xs=>
     obtain⟨a,o,vs,n,rfl,h1,h2,h3,as,h4,h5⟩:=rv.tuple_inv
     refine Does.leaf sr fun Q E k=>iter_tuple ⟨o,h1,h2,n,h3⟩ (k _ _ (KeepsAll.push s _ _) ?_)
     exact⟨_,_,_,rfl,Turns.tuple g.clsRef hh _ a xs,⟨⟨_,Heap.get?_push_size _ rfl,rfl,rfl⟩,rv.keepAll (fun _ _ e=>Heap.get?_push_of_some _ e)⟩,fun z hz=>by rw[List.mem_singleton.mp hz];exact z7 s⟩
   | _=>trivial
 | box n=>
   obtain⟨a,ha,rfl⟩:=rv
   dsimp only
   cases hO:O[n]? with
   | none=>trivial
   | some bx=>cases bx with
     | dct kvs=>trivial
     | lst xs=>
       obtain⟨o,vs,k',h1,h2,h3,as,h4,h5⟩:=sr.br.at_ n a (.lst xs) ha hO
       refine Does.leaf sr fun Q E k=>wpAny_pyIter_list ⟨o,h1,h2,k',h3⟩ (k _ _ (KeepsAll.push s _ _) ?_)
       exact⟨_,_,_,rfl,Turns.box g.clsRef hh _ a n xs,⟨⟨_,Heap.get?_push_size _ rfl,rfl,rfl⟩,ha⟩,fun z hz=>by rw[List.mem_singleton.mp hz];exact z7 s⟩
 | _=>trivial
theorem zk6{target x:Expr}{ra:R za V}(g:GOk G gval gname)(hh:A.handled=none)(h1:Does G F A s β (eval x F.env) (ra.lift ρ) (VRel G F)) :
 DoesW G F s β (za6 G A x F.env) ((ra.bind fun v O=>(match v with
  | .d x=>opt ((items x).map Src.plain) O
  | .box n=>(match O[n]? with
     | some (.lst xs)=>R.ok (Src.box n xs) O
     | _=>.stuck)
  | _=>.stuck)).lift ρ) (IRel G F A target s):=by
 refine DoesW.seqE (T₂:=fun v=>tr G A (pyIter v)) (fun Q E h=>h) h1 fun s' β' v d O' e st sr rv=>?_
 exact (zk4 (target:=target) g hh sr rv).weaken (fun Q E h=>h) fun _ _ _ _ r=>r.back st
theorem we{a b:Int}:Builtin.Range.rangeSize a b 1=((b - a).toNat:Int):=by rw[rangeSize_one];split <;> omega
noncomputable def RRel(s:Shared):List Addr→Heap→Value→Int×Int→Prop:=fun β h v d=>∃ r t u w,v=.ref r∧IsRange h r d.1 d.2 1 t u w
noncomputable def zbp(p:Int×Int):Prop:=-(10 ^ 9)≤p.1∧p.1≤10 ^ 9∧-(10 ^ 9)≤p.2∧p.2≤10 ^ 9
inductive znr(v u:V)(O:za)(p:Int×Int)(O':za):Prop
 | mk (i j:Int) (h1:intV v=some i) (h2:intV u=some j) (hs:zbp (i,j)) (e:p=(i,j)) (e':O'=O)
theorem gp{v u:V}{O O':za}{p:Int×Int}(h:xa v u O=.ok p O'):znr v u O p O':=by
 unfold xa at h
 cases h1:intV v with
 | none=>rw[h1] at h;cases h
 | some i=>
   cases h2:intV u with
   | none=>rw[h1,h2] at h;cases h
   | some j=>
     rw[h1,h2] at h
     dsimp only at h
     by_cases hs : -(10 ^ 9)≤i∧i≤10 ^ 9∧-(10 ^ 9)≤j∧j≤10 ^ 9
     ·rw[if_pos hs] at h;cases h;exact⟨i,j,h1,h2,hs,rfl,rfl⟩
     ·rw[if_neg hs] at h;cases h
theorem zb2{v u:V}{O O':za}{p:Int×Int}(h:xa v u O=.ok p O'):zbp p∧O'=O:=by
 obtain⟨i,j,_,_,hs,rfl,rfl⟩:=gp h
 exact⟨hs,rfl⟩
set_option tactic.hygienic true in
theorem VR.intV{N:List Addr}{h:Heap}{v:Value}{d:V}{i:Int}(r:VR G N β h v d)(e:intV d=some i):∃ t,v=.int i t:=by
 cases d <;> first | (cases e;done) | skip
 rename_i x
 cases x <;> first | (cases e;done) | skip
 cases e
 exact r.int_inv
theorem VRs.one{N:List Addr}{h:Heap}{vals:List Value}{d:V}(r:VRs G N β h vals [d]):∃ v,vals=[v]∧VR G N β h v d:=by
 cases r with
 | cons r rs=>cases rs;exact⟨_,rfl,r⟩
theorem VRs.two{N:List Addr}{h:Heap}{vals:List Value}{d e:V}(r:VRs G N β h vals [d,e]):∃ v u,vals=[v,u]∧VR G N β h v d∧VR G N β h u e:=by
 cases r with
 | cons r rs=>obtain⟨u,rfl,q⟩:=rs.one;exact⟨_,u,rfl,r,q⟩
theorem zd8{T:WT Value}{v u:V}(h:∀ i j,intV v=some i→intV u=some j→DoesW G F s β T (.ok (i,j) (ρ,O)) (RRel s)):DoesW G F s β T ((xa v u O).lift ρ) (RRel s):=by
 cases e:xa v u O with
 | stuck=>trivial
 | ok p O'=>
   obtain⟨i,j,h1,h2,hs,rfl,rfl⟩:=gp e
   exact h i j h1 h2
theorem dk{target:Expr}{v:Value}{p:Int×Int}(g:GOk G gval gname)(hh:A.handled=none)(sr:SR G F β ρ O s.heap)(rv:RRel s β s.heap v p)(hp:zbp p) :
 Does G F A s β (pyIter v) ((R.ok (Src.plain (zj p.1 p.2)) O).lift ρ) (IRel G F A target s):=by
 obtain⟨r,t,u,w,rfl,hr⟩:=rv
 obtain⟨p1,p2,p3,p4⟩:=hp
 refine Does.leaf sr fun Q E k=>wpAny_pyIter_range hr (small_one (by omega) (by omega) (by omega) (by omega)) (k _ _ (KeepsAll.push s _ _) ?_)
 refine⟨_,_,_,rfl,Turns.range g.clsRef hh _ p.1 p.2,?_,fun z hz=>by rw[List.mem_singleton.mp hz];exact z7 s⟩
 rw[we]
 simpa using Heap.get?_push_size _ rfl
theorem zk3{y:Expr}{p q:Pos}{x:Str}{rb:R za V}(g:GOk G gval gname)(sr:SR G F β ρ O s.heap)(fit:Fits F cx)(hx:cx.isGlob x=true)(hb:x = "range")(he:starEach [y] F.env=(false,eval y F.env)::starEach [] F.env)
 (h1:Does G F A s β (eval y F.env) (rb.lift ρ) (VRel G F)) :
 Does G F A s β (eval (.Call (.Name x p) [y] [] q) F.env) ((rb.bind fun u O=>xa (.d (.int 0)) u O).lift ρ) (RRel s):=by
 subst hb
 have d1:Does G F A s β (spliced (backTo q (starEach [y] F.env))) ((rb.bind fun v O=>(R.ok ([]:List V) O).bind fun vs O=>.ok (v::vs) O).lift ρ) (VRsl G F):=
  yn he h1 fun s' β' O' sr'=>xg sr'
 have e1:(rb.bind fun u O=>xa (.d (.int 0)) u O)=(rb.bind fun v O=>(R.ok ([]:List V) O).bind fun vs O=>R.ok (v::vs) O).bind fun vs O=>(match vs with | [u]=>xa (.d (.int 0)) u O | _=>.stuck):=by cases rb <;> rfl
 rw[e1]
 refine wt g sr fit hx (fv:=.type "range") (by decide) (.inr ⟨_,rfl⟩) he rfl d1 fun s' β' vals vs O' e' st sr' rvs=>?_
 cases vs with
 | nil=>trivial
 | cons u vs=>
   cases vs with
   | cons _ _=>trivial
   | nil=>
     obtain⟨v,rfl,ru⟩:=rvs.one
     refine zd8 fun i j h1 h2=>?_
     cases h1
     obtain⟨t,rfl⟩:=ru.intV h2
     exact Does.leaf sr' fun Q E k=>call_range_1 (k _ _ (KeepsAll.push s' _ _) ⟨_,_,_,_,rfl,IsRange.new _ _ _ _ _ _ _⟩)
theorem zk2{y z:Expr}{p q:Pos}{x:Str}{ra:R za V}{rb:za→R za V}(g:GOk G gval gname)(sr:SR G F β ρ O s.heap)(fit:Fits F cx)(hx:cx.isGlob x=true)(hb:x = "range")
 (he:starEach [y,z] F.env=(false,eval y F.env)::starEach [z] F.env) (he':starEach [z] F.env=(false,eval z F.env)::starEach [] F.env)
 (h1:Does G F A s β (eval y F.env) (ra.lift ρ) (VRel G F)) (h2:∀ s' β' O',SR G F β' ρ O' s'.heap→Does G F A s' β' (eval z F.env) ((rb O').lift ρ) (VRel G F)) :
 Does G F A s β (eval (.Call (.Name x p) [y,z] [] q) F.env) ((ra.bind fun v O=>(rb O).bind fun u O=>xa v u O).lift ρ) (RRel s):=by
 subst hb
 have d1:Does G F A s β (spliced (backTo q (starEach [y,z] F.env))) ((ra.bind fun v O=>((rb O).bind fun v O=>(R.ok ([]:List V) O).bind fun vs O=>.ok (v::vs) O).bind fun vs O=>.ok (v::vs) O).lift ρ) (VRsl G F):=
  yn he h1 fun s' β' O' sr'=>yn he' (h2 s' β' O' sr') fun s' β' O' sr'=>xg sr'
 have e1:(ra.bind fun v O=>(rb O).bind fun u O=>xa v u O)=(ra.bind fun v O=>((rb O).bind fun v O=>(R.ok ([]:List V) O).bind fun vs O=>.ok (v::vs) O).bind fun vs O=>.ok (v::vs) O).bind fun vs O=>(match vs with | [v,u]=>xa v u O | _=>.stuck):=by
  cases ra with
  | ok v O=>
    show (rb O).bind (fun u O=>xa v u O)=(((rb O).bind fun v O=>(R.ok ([]:List V) O).bind fun vs O=>R.ok (v::vs) O).bind fun vs O=>R.ok (v::vs) O).bind _
    cases rb O <;> rfl
  | stuck=>rfl
 rw[e1]
 refine wt g sr fit hx (fv:=.type "range") (by decide) (.inr ⟨_,rfl⟩) he (by rw [he'];rfl) d1 fun s' β' vals vs O' e' st sr' rvs=>?_
 cases vs with
 | nil=>trivial
 | cons u vs=>
   cases vs with
   | nil=>trivial
   | cons w vs=>
     cases vs with
     | cons _ _=>trivial
     | nil=>
       obtain⟨v,v',rfl,rv,ru⟩:=rvs.two
       refine zd8 fun i j h1 h2=>?_
       obtain⟨t,rfl⟩:=rv.intV h1
       obtain⟨t',rfl⟩:=ru.intV h2
       exact Does.leaf sr' fun Q E k=>call_range_2 (k _ _ (KeepsAll.push s' _ _) ⟨_,_,_,_,rfl,IsRange.new _ _ _ _ _ _ _⟩)
theorem zck{target x:Expr}{r:R za (Int×Int)}(g:GOk G gval gname)(hh:A.handled=none)(hs:∀ p O',r=.ok p O'→zbp p)(h1:Does G F A s β (eval x F.env) (r.lift ρ) (RRel s)) :
 DoesW G F s β (za6 G A x F.env) ((r.bind fun p O=>R.ok (Src.plain (zj p.1 p.2)) O).lift ρ) (IRel G F A target s):=by
 refine DoesW.seqE (T₂:=fun v=>tr G A (pyIter v)) (fun Q E h=>h) h1 fun s' β' v d O' e st sr rv=>?_
 exact (dk (target:=target) g hh sr rv (hs _ _ e)).weaken (fun Q E h=>h) fun _ _ _ _ r=>r.back st
end
noncomputable def yv(G:Gl)(F:Fm):List Addr→Heap→Flow→Fl→Prop:=fun β h f d=>match d with
 | .next=>f=.next
 | .ret v=>∃ val,f=.ret val∧VR G F.B β h val v
section
variable{G:Gl}{F:Fm}{A:Around}{cx:Cx}{gval:Nat→Option PyData}{gname:Nat→Option Str}
theorem uz{N β Z:List Addr}{O:za}{h:Heap}(br:BR G N β O h)(hz:∀ z∈Z,Itr h z):∀ z∈Z,z∉β:=fun z hz' hb=>by
 obtain⟨i,hi⟩:=List.getElem?_of_mem hb
 have hl:i < O.length:=by
  rw[← br.len]
  rcases Nat.lt_or_ge i β.length with h | h
  ·exact h
  ·rw[List.getElem?_eq_none h] at hi;cases hi
 have hx:=br.at_ i z _ hi (List.getElem?_eq_getElem hl)
 obtain⟨o,T,fs,e,_,hf⟩:=hz z hz'
 cases hb:O[i] with
 | lst xs=>rw[hb] at hx;obtain⟨o',vs,n,h1,h2,h3,_⟩:=hx;rw[e] at h1;cases h1;rw[hf] at h3;cases h3
 | dct kvs=>rw[hb] at hx;obtain⟨o',vs,n,h1,h2,h3,_⟩:=hx;rw[e] at h1;cases h1;rw[hf] at h3;cases h3
theorem Turns.over{target:Expr}{I:Addr}{Z:List Addr}{src:Src}{St:Nat→List Addr→List Addr→Heap→Prop}(W:Turns G A target I Z src St){i:Nat}{β β':List Addr}{ρ:Loc}{O:za}{s s':Shared}
 (sr:SR G F β ρ O s.heap) (hzB:∀ z∈Z,z∉F.B) (st:St i F.B β s.heap) (step:Step F.W β s s' β'):St i F.B β' s'.heap:=
 W.keep i F.B F.B β β' s.heap s'.heap st (fun z hz o e=>step.keptE e (uz sr.br (W.itr _ _ _ _ st) z hz) (fun hw=>hzB z hz (sr.fm.sub z hw)) fun es n q=>by
  obtain⟨o',_,_,e',_,hf⟩:=W.itr _ _ _ _ st z hz
  rw[e] at e';cases e';rw[hf] at q;cases q) (fun v x r=>r.step sr.br sr.fm step) step.pre
inductive FInv(G:Gl)(F:Fm)(src:Src)(β₀:List Addr)(s₀:Shared)(St:Nat→List Addr→List Addr→Heap→Prop)(go:List PyData→Loc→za→Prop)(k:Nat)(s:Shared):Prop
 | mk (i:Nat) (β:List Addr) (ρ:Loc) (O:za) (hk:k=src.xs.length+1 - i) (hi:i≤src.xs.length) (step:Step F.W β₀ s₀ s β) (sr:SR G F β ρ O s.heap) (has:src.Has O) (st:St i F.B β s.heap) (hgo:go (src.xs.drop i) ρ O)
inductive zcq(src:Src)(go:Loc→za→R (Loc×za) Fl)(fl:Fl)(S:Loc×za):Fl→Loc×za→Prop
 | ret (v:V) (h:fl=.ret v):zcq src go fl S (.ret v) S
 | next (S':Loc×za) (hs:src.still S'.2=true) (hg:go S'.1 S'.2=.ok fl S):zcq src go fl S .next S'
inductive zlp(src:Src)(c:CT)(evb:Loc→za→R (Loc×za) Fl)(x:PyData)(go:Loc→za→R (Loc×za) Fl)(ρ:Loc)(O:za)(fl:Fl)(S:Loc×za):Prop
 | mk (ρ':Loc) (f:Fl) (S':Loc×za) (hb:zp c (.d x) ρ=some ρ') (he:evb ρ' O=.ok f S') (hr:zcq src go fl S f S')
theorem zds{src:Src}{c:CT}{evb:Loc→za→R (Loc×za) Fl}{x:PyData}{go:Loc→za→R (Loc×za) Fl}{ρ:Loc}{O:za}{fl:Fl}{S:Loc×za} (h:(match jv c evb x ρ O with
 | .ok (.ret v) S=>.ok (.ret v) S
 | .ok .next S=>if src.still S.2 then go S.1 S.2 else .stuck
 | _=>.stuck)=R.ok fl S):zlp src c evb x go ρ O fl S:=by
 unfold jv at h
 cases hb:zp c (.d x) ρ with
 | none=>rw[hb] at h;cases h
 | some ρ'=>
   rw[hb] at h
   dsimp only at h
   cases he:evb ρ' O with
   | ok f S'=>
     rw[he] at h
     cases f with
     | ret v=>cases h;exact⟨ρ',_,_,hb,he,.ret v rfl⟩
     | next=>
       dsimp only at h
       by_cases hs:src.still S'.2=true
       ·rw[if_pos hs] at h;exact⟨ρ',_,_,hb,he,.next S' hs h⟩
       ·rw[if_neg hs] at h;cases h
   | _=>rw[he] at h;cases h
theorem zmz{src:Src}{c:CT}{evb:Loc→za→R (Loc×za) Fl}{x:PyData}{xs:List PyData}{ρ:Loc}{O:za}{fl:Fl}{S:Loc×za}(h:z6 src (jv c evb) (x::xs) ρ O=.ok fl S):zlp src c evb x (z6 src (jv c evb) xs) ρ O fl S:=zds h
theorem zig{target:Expr}{c:CT}{own:Str→Bool}{body:List Stmt}{src:Src}{I:Addr}{Z:List Addr}{St:Nat→List Addr→List Addr→Heap→Prop}{evb:Loc→za→R (Loc×za) Fl}
 (g:GOk G gval gname) (hh:A.handled=none) (fit:Fits F cx) (hown:∀ x,own x=true→F.own x=true) (hc:chkT cx own c target=true)
 (hb:∀ s β ρ O,SR G F β ρ O s.heap→Does G F A s β (execs body F.env) (evb ρ O) (yv G F))
 (W:Turns G A target I Z src St) {s₀ s:Shared} {β₀ β:List Addr} {ρ₀ ρ:Loc} {O₀ O:za} (sr₀:SR G F β₀ ρ₀ O₀ s₀.heap) (hz:∀ z∈Z,s₀.heap.get? z=none)
 (step:Step F.W β₀ s₀ s β) (sr:SR G F β ρ O s.heap) (has:src.Has O) (st:St 0 F.B β s.heap) {fl:Fl} {S:Loc×za}
 (hgo:z6 src (jv c evb) src.xs ρ O=.ok fl S) {R:Result→Shared→Prop}
 (hR:∀ s' β' f,Step F.W β₀ s₀ s' β'→SR G F β' S.1 S.2 s'.heap→yv G F β' s'.heap f fl→R (.ok f) s') :
 codeAny (model G.prog G.w) A (.forLoop target (.ref I) body [] F.env) R s:=by
 have hz0:∀ z∈Z,G.h₀.get? z=none:=fun z hz'=>by
  cases e:G.h₀.get? z with
  | none=>rfl
  | some o=>have:=sr₀.br.keep z o e;rw[hz z hz'] at this;cases this
 have hzB:∀ z∈Z,z∉F.B:=fun z hz' hB=>by
  obtain⟨o,e,_⟩:=sr₀.fm.stor z hB
  rw[hz z hz'] at e;cases e
 refine codeAny_forLoop_any (FInv G F src β₀ s₀ St fun xs ρ O=>z6 src (jv c evb) xs ρ O=.ok fl S) ?_ (src.xs.length+1) ⟨0,β,ρ,O,rfl,Nat.zero_le _,step,sr,has,st,hgo⟩
 clear hgo st has sr step
 intro k s hI
 obtain⟨i,β,ρ,O,rfl,hi,step,sr,has,st,hgo⟩:=hI
 have hitr:=W.itr _ _ _ _ st
 by_cases hlt:i < src.xs.length
 ·rw[List.drop_eq_getElem_cons hlt] at hgo
  have hx:src.xs[i]?=some src.xs[i]:=List.getElem?_eq_getElem hlt
  generalize src.xs[i]=x at hgo hx
  obtain⟨ρ',f,S',hbt,he,hrest⟩:=zmz hgo
  refine W.item i F.B β O s x _ _ hx sr.br has st fun v s₁ kk=>?_
  refine kk _ _ fun s' kz rv st'=>?_
  have sr':=sr.keepZ hitr kz.kept g.clsRef hz0 hzB
  have step':=step.thenZ kz hz
  have da:=xu (A:=A) hh fit hown c hc sr' rv
  unfold bindR at da
  dsimp only at da
  rw[hbt] at da
  dsimp only at da
  refine da _ _ fun s₂ β₂ _ st₂ sr₂ _=>?_
  have db:=hb s₂ β₂ ρ' O sr₂
  have stZ:=W.over sr' hzB st' st₂
  rw[he] at db
  refine db _ _ fun s₃ β₃ f' st₃ sr₃ rf=>?_
  have step₃:=step'.trans (st₂.trans st₃)
  cases hrest with
  | ret u e=>
    subst e
    obtain⟨val,rfl,rv'⟩:=rf
    exact hR s₃ β₃ (.ret val) step₃ sr₃ ⟨val,rfl,rv'⟩
  | next _ hst hgo=>
    have rf:f'=.next:=rf
    subst rf
    exact⟨src.xs.length+1 - (i+1),by omega,i+1,β₃,S'.1,S'.2,rfl,hlt,step₃,sr₃,Src.has_of hst,W.over sr₂ hzB stZ st₃,hgo⟩
 ·have hie:i=src.xs.length:=by omega
  rw[hie,List.drop_length] at hgo
  have hgo:Mine.R.ok Fl.next (ρ,O)=Mine.R.ok fl S:=hgo
  cases hgo
  refine W.done i F.B β O s _ _ hie.symm sr.br has st fun s' kz=>?_
  refine wpAny_execs_nil (hR s' β .next (step.thenZ kz hz) (sr.keepZ hitr kz.kept g.clsRef hz0 hzB) rfl)
theorem zn8{target x:Expr}{c:CT}{own:Str→Bool}{body:List Stmt}{pos:Pos}{r:R za Src}{evb:Loc→za→R (Loc×za) Fl}{s:Shared}{β:List Addr}{ρ:Loc}{O:za}
 (g:GOk G gval gname) (hh:A.handled=none) (fit:Fits F cx) (hown:∀ x,own x=true→F.own x=true) (hc:chkT cx own c target=true) (hset:∀ l k p,x≠.Set l k p)
 (hb:∀ s β ρ O,SR G F β ρ O s.heap→Does G F A s β (execs body F.env) (evb ρ O) (yv G F))
 (sr:SR G F β ρ O s.heap) (hI:DoesW G F s β (za6 G A x F.env) (r.lift ρ) (IRel G F A target s)) (has:∀ src O',r=.ok src O'→src.Has O') :
 Does G F A s β (exec (.For target x body [] pos) F.env) ((r.lift ρ).bind fun src S=>z6 src (jv c evb) src.xs S.1 S.2) (yv G F):=by
 cases r with
 | stuck=>trivial
 | ok src O'=>
   show DoesW G F s β _ (z6 src (jv c evb) src.xs ρ O') _
   cases hgo:z6 src (jv c evb) src.xs ρ O' with
   | stuck=>trivial
   | ok fl S=>
     intro Q E k
     refine wpAny_For (hI _ _ fun s' β' it st sr' ⟨I,Z,St,e,W,h0,hz⟩=>?_) fun v=>k7 hset _ _
     subst e
     exact zig g hh fit hown hc hb W sr hz st sr' (has _ _ rfl) h0 hgo fun s' β' f st' sr'' rf=>k s' β' f st' sr'' rf
end
theorem dkv1:∀ l:List (PyData×PyData),PyData.depthAll (l.map (·.1))≤PyData.depthKv l
 | []=>Nat.le_refl _
 | (_,_)::r=>Nat.max_le.mpr ⟨Nat.le_trans (Nat.le_max_left _ _) (Nat.le_max_left _ _),Nat.le_trans (dkv1 r) (Nat.le_max_right _ _)⟩
theorem dkv2:∀ l:List (PyData×PyData),PyData.depthAll (l.map (·.2))≤PyData.depthKv l
 | []=>Nat.le_refl _
 | (_,_)::r=>Nat.max_le.mpr ⟨Nat.le_trans (Nat.le_max_right _ _) (Nat.le_max_left _ _),Nat.le_trans (dkv2 r) (Nat.le_max_right _ _)⟩
inductive Sub(h:Heap)(b:Addr)(n:Nat):Prop
 | mk (x:PyData) (as:List Addr) (r:Reads h (.ref b) x as) (hs:x.depth≤n)
theorem Sub.le{h:Heap}{b:Addr}{n m:Nat}(s:Sub h b n)(hm:n≤m):Sub h b m:=let ⟨x,as,r,hs⟩:=s;⟨x,as,r,Nat.le_trans hs hm⟩
theorem zht{h:Heap}{v:Value}{x:PyData}{as:List Addr}(r:Reads h v x as):∀ b∈as,Sub h b x.depth:=
 Reads.rec (motive_1:=fun _ x as _=>∀ b∈as,Sub h b x.depth) (motive_2:=fun _ xs as _=>∀ b∈as,Sub h b (PyData.depthAll xs))
  (fun _ h=>nomatch h) (fun _ _ h=>nomatch h) (fun _ _ _ h=>nomatch h) (fun _ _ _ h=>nomatch h)
  (fun h1 h2 h3 r ih b hb=>(List.mem_cons.mp hb).elim (fun e=>e ▸ ⟨_,_,.list h1 h2 h3 r,Nat.le_refl _⟩) fun hb=>(ih b hb).le (Nat.le_succ _))
  (fun _ _ _ _ ih b hb=>(ih b hb).le (Nat.le_succ _))
  (fun h1 h2 h3 r1 r2 i1 i2 b hb=>(List.mem_append.mp hb).elim (fun hb=>(List.mem_cons.mp hb).elim (fun e=>e ▸ ⟨_,_,.dict h1 h2 h3 r1 r2,Nat.le_refl _⟩) fun hb=>(i1 b hb).le (Nat.le_succ_of_le (dkv1 _))) fun hb=>(i2 b hb).le (Nat.le_succ_of_le (dkv2 _)))
  (fun _ h=>nomatch h) (fun _ _ i1 i2 b hb=>(List.mem_append.mp hb).elim (fun hb=>(i1 b hb).le (Nat.le_max_left _ _)) fun hb=>(i2 b hb).le (Nat.le_max_right _ _)) r
theorem zbz{h:Heap}{vs:List Value}{xs:List PyData}{as:List Addr}(r:ReadsAll h vs xs as):∀ b∈as,Sub h b (PyData.depthAll xs):=
 ReadsAll.rec (motive_1:=fun _ _ _ _=>True) (motive_2:=fun _ xs as _=>∀ b∈as,Sub h b (PyData.depthAll xs))
  trivial (fun _=>trivial) (fun _ _=>trivial) (fun _ _=>trivial) (fun _ _ _ _ _=>trivial) (fun _ _ _ _ _=>trivial) (fun _ _ _ _ _ _ _=>trivial)
  (fun _ h=>nomatch h) (fun r _ _ i2 b hb=>(List.mem_append.mp hb).elim (fun hb=>(zht r b hb).le (Nat.le_max_left _ _)) fun hb=>(i2 b hb).le (Nat.le_max_right _ _)) r
theorem zfc{h:Heap}{a:Addr}{o:Obj}{vs:Array Value}{n:Nat}{xs:List PyData}{as:List Addr}(h1:h.get? a=some o)(h2:o.cls=.type "list")(h3:o.data=.seq vs n)(r:ReadsAll h vs.toList xs as):a∉as:=fun ha=>by
 obtain⟨x',as',r',hs⟩:=zbz r a ha
 have:=(Reads.unique (Reads.list h1 h2 h3 r) _ _ r').1
 subst this
 exact Nat.not_succ_le_self _ hs
section
variable{G:Gl}{F:Fm}{A:Around}{β β':List Addr}{ρ:Loc}{O O':za}{s s':Shared}
theorem SR.outer(sr:SR G F β ρ O s.heap)(st:Step [] β s s' β')(br:BR G F.B β' O' s'.heap)(nb:∀ a∈F.B,a∉β'):SR G F β' ρ O' s'.heap:=by
 have st':Step F.W β s s' β':=⟨st.gens,st.os,st.pre,st.fresh,st.alive,fun b o e hb _=>st.kept b o e hb (by simp)⟩
 have hB:∀ a∈F.B,∀ o,s.heap.get? a=some o→∃ o',s'.heap.get? a=some o'∧Kin o o':=fun a ha o e=>st.kept a o e (sr.fm.notBox a ha) (by simp)
 have hL:F.env.locals∈F.B:=sr.fm.sub _ sr.fm.nsW
 have hns:∀ m,s.heap.Ns F.env.locals m→s'.heap.Ns F.env.locals m:=fun m hm=>Kin.ns hm (hB _ hL)
 refine⟨br,⟨sr.fm.kind,sr.fm.globals,sr.fm.builtins,sr.fm.once,?_,sr.fm.nsW,?_,sr.fm.apart,sr.fm.sub,sr.fm.new,nb,?_,sr.fm.frB,fun a ha=>let ⟨m,hm⟩:=sr.fm.frs a ha;⟨m,Kin.ns hm (hB a (sr.fm.frB a ha))⟩,fun m e=>⟨hns m (sr.fm.pin m e).1,(sr.fm.pin m e).2⟩⟩,fun i x v h1 h2=>?_⟩
 ·obtain⟨m,hm⟩:=sr.fm.ns;exact⟨m,hns m hm⟩
 ·intro x hx
  obtain⟨c,v,h3,h4,h6,h7⟩:=sr.fm.cell x hx
  exact⟨c,v,h3,Kin.cell h4 (hB c h6),h6,h7⟩
 ·intro a ha
  obtain⟨o,h1,h2⟩:=sr.fm.stor a ha
  obtain⟨o',e',kn⟩:=hB a ha o h1
  exact⟨o',e',fun vs n hv=>by rw[kn.cls];exact h2 vs n (kn.data.symm.trans hv)⟩
 ·obtain⟨val,g,r⟩:=sr.get i x v h1 h2
  refine⟨val,?_,r.step sr.br sr.fm st'⟩
  rcases g with ⟨g1,m,g2,g3⟩ | ⟨g1,c,g2,g3⟩
  ·exact .inl ⟨g1,m,hns m g2,g3⟩
  ·obtain⟨c',v',h3,h4,h6,h7⟩:=sr.fm.cell x g1
   rw[g2] at h3;cases h3
   exact .inr ⟨g1,c,g2,Kin.cell g3 (hB c h6)⟩
theorem SR.keepNB{a:Addr}{bx₀:Box}(x:KeepsL F.env.locals s s')(r:SR G F β ρ O s.heap)(hn:s.heap.get? a=none)(hl:BoxAt s'.heap F.B (β++[a]) a bx₀)(hpl:Plain s'.heap a):Step F.W β s s' (β++[a])∧SR G F (β++[a]) ρ (O++[bx₀]) s'.heap:=by
 have sr':=r.keepL x
 have st0:=x.step r.fm
 have st:Step F.W β s s' (β++[a]):=⟨st0.gens,st0.os,List.prefix_append _ _,fun b hb=>by
  rcases List.mem_append.mp hb with h | h
  ·exact .inl h
  ·rw[List.mem_singleton.mp h];exact .inr hn,st0.alive,st0.kept⟩
 have aB:a∉F.B:=fun h=>by obtain⟨o,e,_⟩:=r.fm.stor a h;rw[hn] at e;cases e
 have aβ:a∉β:=fun h=>by obtain⟨o,e,_⟩:=r.br.alive a h;rw[hn] at e;cases e
 have nL:F.env.locals∈F.B:=r.fm.sub _ r.fm.nsW
 have ne:∀ {b:Addr},b∈β→b≠F.env.locals:=fun hb e=>r.fm.notBox _ nL (e ▸ hb)
 refine⟨st,⟨⟨sr'.br.keep,by simp[r.br.len],?_,fun b hb=>?_,fun i b bx h1 h2=>?_,fun b hb=>(List.mem_append.mp hb).elim (sr'.br.plain b) fun h=>by rw[List.mem_singleton.mp h];exact hpl⟩,⟨sr'.fm.kind,sr'.fm.globals,sr'.fm.builtins,sr'.fm.once,sr'.fm.ns,sr'.fm.nsW,sr'.fm.cell,sr'.fm.apart,sr'.fm.sub,sr'.fm.new,fun b hb h=>?_,sr'.fm.stor,sr'.fm.frB,sr'.fm.frs,sr'.fm.pin⟩,fun i y v h1 h2=>?_⟩⟩
 ·rw[List.nodup_append]
  exact⟨r.br.nodup,by simp,fun b hb c hc=>by rw[List.mem_singleton.mp hc];exact fun e=>aβ (e ▸ hb)⟩
 ·rcases List.mem_append.mp hb with h | h
  ·exact r.br.new b h
  ·rw[List.mem_singleton.mp h]
   cases e:G.h₀.get? a with
   | none=>rfl
   | some o=>have:=r.br.keep a o e;rw[hn] at this;cases this
 ·rcases Nat.lt_or_ge i β.length with hi | hi
  ·rw[List.getElem?_append_left hi] at h1
   rw[List.getElem?_append_left (by rw[← r.br.len];exact hi)] at h2
   have hb:=r.br.at_ i b bx h1 h2
   have hne:=ne (List.mem_of_getElem? h1)
   cases bx with
   | lst ys=>
     obtain⟨o,vs,n,e1,e2,e3,as,e4,e5⟩:=hb
     obtain⟨q1,q2⟩:=zu r.br r.fm st e4 e5
     exact⟨o,vs,n,x.kept _ _ hne e1,e2,e3,as,q1,q2⟩
   | dct kvs=>
     obtain⟨o,es,n,e1,e2,e3,e4,e5⟩:=hb
     refine⟨o,es,n,x.kept _ _ hne e1,e2,e3,e4,fun i e kv he hkv=>?_⟩
     obtain⟨hq,as,bs,r1,r2,q⟩:=e5 i e kv he hkv
     obtain⟨p1,p2⟩:=z9 r.br r.fm st r1 fun a ha=>q a (List.mem_append_left _ ha)
     obtain⟨p3,p4⟩:=z9 r.br r.fm st r2 fun a ha=>q a (List.mem_append_right _ ha)
     exact⟨hq,as,bs,p1,p3,fun b hb=>(List.mem_append.mp hb).elim (p2 b) (p4 b)⟩
  ·rw[List.getElem?_append_right hi] at h1
   rw[List.getElem?_append_right (by rw[← r.br.len];exact hi)] at h2
   have hi0:i - β.length=0:=by
    rcases Nat.eq_zero_or_pos (i - β.length) with h | h
    ·exact h
    ·rw[List.getElem?_eq_none (show [a].length≤i - β.length from h)] at h1;cases h1
   rw[hi0] at h1
   rw[← r.br.len,hi0] at h2
   cases h1;cases h2
   exact hl
 ·rcases List.mem_append.mp h with h | h
  ·exact r.fm.notBox b hb h
  ·rw[List.mem_singleton.mp h] at hb;exact aB hb
 ·obtain⟨val,g,rv⟩:=r.get i y v h1 h2
  refine⟨val,?_,rv.step r.br r.fm st⟩
  rcases g with ⟨g1,m,g2,g3⟩ | ⟨g1,c,g2,o,g3,g4⟩
  ·exact .inl ⟨g1,m,x.ns m g2,g3⟩
  ·refine .inr ⟨g1,c,g2,o,x.kept _ _ (fun h=>?_) g3,g4⟩
   obtain⟨m,o',es,ep,q1,q2,_⟩:=r.fm.ns
   rw[h] at g3;rw[g3] at q1;cases q1;rw[g4] at q2;cases q2
theorem SR.keepLB{a:Addr}{xs:List PyData}(x:KeepsL F.env.locals s s')(r:SR G F β ρ O s.heap)(hn:s.heap.get? a=none)(hl:ListAt s'.heap F.B β a xs)(hpl:Plain s'.heap a):Step F.W β s s' (β++[a])∧SR G F (β++[a]) ρ (O++[.lst xs]) s'.heap:=by
 obtain⟨o,vs,n,e1,e2,e3,as,e4,e5⟩:=hl
 have hac:=zfc e1 e2 e3 e4
 refine SR.keepNB x r hn (bx₀:=.lst xs) ⟨o,vs,n,e1,e2,e3,as,e4,fun b hb=>⟨fun h=>?_,(e5 b hb).2⟩⟩ hpl
 rcases List.mem_append.mp h with h | h
 ·exact (e5 b hb).1 h
 ·rw[List.mem_singleton.mp h] at hb;exact hac hb
theorem R.bind_assoc{σ α β γ:Type}(r:R σ α)(f:α→σ→R σ β)(g:β→σ→R σ γ):(r.bind f).bind g=r.bind fun a s=>(f a s).bind g:=by cases r <;> rfl
theorem LeafD.box{T:WT Value}{c:PyData}(sr:SR G F β ρ O s.heap)(h:LeafD G F s β T (V.d c) (FRel G F s)):DoesW G F s β T ((boxK (.d c) O).lift ρ) (VRel G F):=by
 cases c with
 | list xs=>
   intro Q E k
   refine h Q E fun v s' ka r=>?_
   obtain⟨a,rfl,hl,_⟩:=r.1.list_inv
   obtain⟨a',e,hn,hpl⟩:=r.2 xs rfl
   cases e
   obtain⟨st,sr'⟩:=SR.keepLB ka sr hn hl hpl
   exact k s' _ _ st sr' ⟨a,by rw[← sr.br.len];simp,rfl⟩
 | _=>trivial
end
noncomputable def jg(env:Env):List (Str×NameKind)→List (Str×Addr)→List (Str×Addr)
 | [],cs=>cs
 | (n,k)::r,cs=>if k == .free then jg env r ((n,(env.cells.lookup n).getD 0)::cs) else jg env r cs
theorem kh(env:Env)(f:Str×NameKind→List (Str×Addr)→Sem (ForInStep (List (Str×Addr))))
 (hf:∀ name kind cs,f (name,kind) cs=if kind == .free then (do let a ← cellOf env name;pure (.yield ((name,a)::cs))) else pure (.yield cs)) :
 ∀ (names:List (Str×NameKind)) (acc:List (Str×Addr)),(∀ p∈names,p.2=.free→(env.cells.lookup p.1).isSome=true)→forIn names acc f=pure (jg env names acc)
 | [],acc,_=>by rw[List.forIn_nil];rfl
 | (n,k)::r,acc,h=>by
   rw[List.forIn_cons,hf]
   have hr:∀ p∈r,p.2=.free→(env.cells.lookup p.1).isSome=true:=fun p hp=>h p (List.mem_cons_of_mem _ hp)
   unfold jg
   cases hk:k == NameKind.free with
   | true=>
     have hk':k=.free:=by cases k <;> first | rfl | (exact absurd hk (by decide))
     obtain⟨c,hc⟩:=Option.isSome_iff_exists.mp (h (n,k) List.mem_cons_self hk')
     have e:cellOf env n=pure c:=by unfold cellOf;rw[hc]
     simp only[if_true,e,pure_bind]
     rw[kh env f hf r _ hr,hc]
     rfl
   | false=>
     simp only[Bool.false_eq_true,if_false,pure_bind]
     exact kh env f hf r _ hr
theorem vd{scope:Scope}{env:Env}(h:∀ p∈scope.names,p.2=.free→(env.cells.lookup p.1).isSome=true):closureFor scope env=pure (jg env scope.names []):=by
 unfold closureFor
 dsimp only
 rw[kh env _ (fun name kind cs=>rfl) scope.names [] h]
 rfl
theorem jt{env:Env}{x:Str}:∀ (names:List (Str×NameKind)) (acc:List (Str×Addr)),(jg env names acc).lookup x=if (x,NameKind.free)∈names then some ((env.cells.lookup x).getD 0) else acc.lookup x
 | [],acc=>by simp[jg]
 | (n,k)::r,acc=>by
   unfold jg
   cases hk:k == NameKind.free with
   | true=>
     have hk':k=.free:=by cases k <;> first | rfl | (exact absurd hk (by decide))
     subst hk'
     rw[if_pos rfl,jt r]
     by_cases h:(x,NameKind.free)∈r
     ·rw[if_pos h,if_pos (List.mem_cons_of_mem _ h)]
     ·rw[if_neg h,List.lookup_cons]
      cases hx:x == n with
      | true=>
        have:x=n:=beq_iff_eq.mp hx
        subst this
        rw[if_pos List.mem_cons_self]
      | false=>
        rw[if_neg]
        intro hm
        rcases List.mem_cons.mp hm with e | hm
        ·cases e;rw[beq_self_eq_true] at hx;cases hx
        ·exact h hm
   | false=>
     rw[if_neg (by decide),jt r]
     by_cases h:(x,NameKind.free)∈r
     ·rw[if_pos h,if_pos (List.mem_cons_of_mem _ h)]
     ·rw[if_neg h,if_neg]
      intro hm
      rcases List.mem_cons.mp hm with e | hm
      ·cases e;exact absurd hk (by decide)
      ·exact h hm
theorem xp:∀ (names:List (Str×NameKind)) (n:Nat) (acc:List (Str×Addr)),cellsFrom n names acc=cellsFrom n names []++acc
 | [],n,acc=>rfl
 | (x,k)::r,n,acc=>by
   unfold cellsFrom
   split
   ·rw[xp r (n+1) ((x,n)::acc),xp r (n+1) [(x,n)]];simp
   ·exact xp r n acc
set_option tactic.hygienic true in
theorem xo:∀ (names:List (Str×NameKind)) (n:Nat) (acc:List (Str×Addr)) {x:Str} {c:Addr},(x,c)∈cellsFrom n names acc→(x,NameKind.cell)∈names∨(x,c)∈acc
 | [],n,acc,x,c,h=>.inr h
 | (y,k)::r,n,acc,x,c,h=>by
   unfold cellsFrom at h
   split at h
   ·rename_i hk
    have hk':k=.cell:=by cases k <;> first | rfl | (exact absurd hk (by decide))
    subst hk'
    rcases xo r _ _ h with h | h
    ·exact .inl (List.mem_cons_of_mem _ h)
    ·rcases List.mem_cons.mp h with e | h
     ·cases e;exact .inl List.mem_cons_self
     ·exact .inr h
   ·rcases xo r _ _ h with h | h
    ·exact .inl (List.mem_cons_of_mem _ h)
    ·exact .inr h
set_option tactic.hygienic true in
theorem yf:∀ (names:List (Str×NameKind)) (n:Nat) (acc:List (Str×Addr)) {x:Str},((x,NameKind.cell)∈names∨(acc.lookup x).isSome=true)→((cellsFrom n names acc).lookup x).isSome=true
 | [],n,acc,x,h=>by
   rcases h with h | h
   ·cases h
   ·exact h
 | (y,k)::r,n,acc,x,h=>by
   unfold cellsFrom
   split
   ·rename_i hk
    refine yf r _ _ ?_
    rcases h with h | h
    ·rcases List.mem_cons.mp h with e | h
     ·cases e;right;rw[List.lookup_cons,beq_self_eq_true];rfl
     ·exact .inl h
    ·right
     rw[List.lookup_cons]
     cases x == y with
     | true=>rfl
     | false=>exact h
   ·rename_i hk
    refine yf r _ _ ?_
    rcases h with h | h
    ·rcases List.mem_cons.mp h with e | h
     ·cases e;exact absurd rfl hk
     ·exact .inl h
    ·exact .inr h
theorem lookup_mem{α:Type}:∀ {l:List (Str×α)} {x:Str} {k:α},(l.map (·.1)).Nodup→((x,k)∈l↔l.lookup x=some k)
 | [],x,k,_=>by simp
 | (y,j)::r,x,k,h=>by
   obtain⟨h1,h2⟩:=List.nodup_cons.mp h
   rw[List.lookup_cons]
   cases hx:x == y with
   | true=>
     have:x=y:=beq_iff_eq.mp hx
     subst this
     constructor
     ·intro hm
      rcases List.mem_cons.mp hm with e | hm
      ·cases e;rfl
      ·exact absurd (List.mem_map.mpr ⟨(x,k),hm,rfl⟩) h1
     ·intro e;cases e;exact List.mem_cons_self
   | false=>
     rw[← lookup_mem (l:=r) h2]
     constructor
     ·intro hm
      rcases List.mem_cons.mp hm with e | hm
      ·cases e;rw[beq_self_eq_true] at hx;cases hx
      ·exact hm
     ·exact List.mem_cons_of_mem _
noncomputable def zee(scope:Scope)(env:Env)(C:Addr)(cl:List (Str×Addr)):Env:=
 { scope:=scope,locals:=C,globals:=env.globals,cells:=cellsFrom (C+1) scope.names cl,qual:=env.qual,func:=none,code:=env.code,frame:=env.frame,builtins:=env.builtins }
theorem zed{M:Model}{A:Around}{E:Value→Shared→Prop}{s:Shared}{scope:Scope}{env:Env}{cl:List (Str×Addr)}{Q:Env→Shared→Prop}
 (h:∀ s',KeepsAll s s'→s'.heap.Ns s.heap.objs.size (fun _=>none)→CellsOk s'.heap (s.heap.objs.size+1) (cellsFrom (s.heap.objs.size+1) scope.names [])→Q (zee scope env s.heap.objs.size cl) s') :
 wpAny M A (newFunctionEnv scope env.globals cl [] env.qual none .none (some env)) Q E s:=by
 simp only[newFunctionEnv,Option.isSome_some,if_true]
 refine wpAny_bind (wpAny_alloc ?_)
 refine wpAny_bind (wpAny_layCells _ (fun name kind cells=>by cases hkc:kind == NameKind.cell <;> simp[hkc]) _ _ _ _ ?_)
 have ok:=cellsFrom_ok scope.names (s.heap.push { cls:=.type "dict",data:=.dict #[] }) (s.heap.objs.size+1) [] ⟨fun _ _ hm=>(nomatch hm),List.Pairwise.nil⟩ (by rw [Heap.size_push];exact Nat.le_refl _)
 rw[Heap.size_push] at ok
 rw [show ({ s with heap:=s.heap.push { cls:=.type "dict",data:=.dict #[] } }:Shared).heap.objs.size=s.heap.objs.size+1 from Heap.size_push ..]
 simp only[List.forIn_nil]
 refine wpAny_bind (wpAny_pure (wpAny_pure (h _ ⟨rfl,rfl,fun b o e=>pushCells_keeps _ _ b o (Heap.get?_push_of_some _ e)⟩ ?_ ok)))
 exact (Heap.Ns.new s.heap (.type "dict")).keeps (pushCells_keeps _ _)
noncomputable def ye:CT→List Nat
 | .name i=>[i]
 | .two a b=>ye a++ye b
noncomputable def clr:List Nat→Loc→Loc
 | [],ρ=>ρ
 | i::S,ρ=>(clr S ρ).set i none
theorem du:∀ (S:List Nat) (ρ:Loc),(clr S ρ).length=ρ.length
 | [],_=>rfl
 | i::S,ρ=>by unfold clr;rw[List.length_set,du S ρ]
theorem q7:∀ (S:List Nat) (ρ:Loc) (i:Nat),i∉S→(clr S ρ)[i]?=ρ[i]?
 | [],_,_,_=>rfl
 | j::S,ρ,i,h=>by
   unfold clr
   rw[List.getElem?_set_ne (fun e=>h (by simp[e]))]
   exact q7 S ρ i fun hm=>h (List.mem_cons_of_mem _ hm)
theorem dq:∀ (S:List Nat) (ρ:Loc) (i:Nat) (v:V),i∈S→(clr S ρ)[i]?≠some (some v)
 | j::S,ρ,i,v,h,e=>by
   unfold clr at e
   rw[List.getElem?_set] at e
   by_cases hj:j=i
   ·rw[if_pos hj] at e
    split at e <;> cases e
   ·rw[if_neg hj] at e
    rcases List.mem_cons.mp h with rfl | h
    ·exact hj rfl
    ·exact dq S ρ i v h e
noncomputable def Agree(S:List Nat)(ρ ρ':Loc):Prop:=ρ.length=ρ'.length∧∀ i,i∉S→ρ[i]?=ρ'[i]?
theorem Agree.nil{ρ ρ':Loc}(h:Agree [] ρ ρ'):ρ=ρ':=List.ext_getElem? fun i=>h.2 i (by simp)
theorem zil(S:List Nat)(ρ:Loc):Agree S (clr S ρ) ρ:=⟨du S ρ,fun i hi=>q7 S ρ i hi⟩
theorem zhq{S:List Nat}{ρ ρ':Loc}{i:Nat}{v:Option V}(h:Agree S ρ ρ'):Agree (S.filter fun j=>j != i) (ρ.set i v) (ρ'.set i v):=by
 refine⟨by rw[List.length_set,List.length_set];exact h.1,fun j hj=>?_⟩
 rw[List.getElem?_set,List.getElem?_set]
 by_cases e:i=j
 ·rw[if_pos e,if_pos e,h.1]
 ·rw[if_neg e,if_neg e]
  refine h.2 j fun hm=>hj (List.mem_filter.mpr ⟨hm,?_⟩)
  simpa using fun e'=>e e'.symm
noncomputable def Both(S:List Nat):Option Loc→Option Loc→Prop
 | some r,some r'=>Agree S r r'
 | none,none=>True
 | _,_=>False
noncomputable def subL(S T:List Nat):List Nat:=S.filter fun j=>!T.contains j
theorem Agree.mono{S T:List Nat}{ρ ρ':Loc}(h:Agree S ρ ρ')(hs:∀ i∈S,i∈T):Agree T ρ ρ':=⟨h.1,fun i hi=>h.2 i fun hm=>hi (hs i hm)⟩
theorem zin{S T U:List Nat}{f g:Loc→Option Loc}{a b:Option Loc}(h:Both S a b)(hf:∀ r r',Agree S r r'→Both T (f r) (g r')):Both T (a.bind f) (b.bind g):=by
 cases a <;> cases b <;> first | exact h | exact hf _ _ h | exact (show False from h).elim
theorem zel:∀ (c:CT) (d:V) (S:List Nat) (ρ ρ':Loc),Agree S ρ ρ'→Both (subL S (ye c)) (zp c d ρ) (zp c d ρ'):=by
 intro c
 induction c with
 | name i=>
   intro d S ρ ρ' h
   unfold zp
   rw[h.1]
   by_cases hi:i < ρ'.length
   ·rw[if_pos hi,if_pos hi]
    refine (zhq h).mono fun j hj=>?_
    obtain⟨h1,h2⟩:=List.mem_filter.mp hj
    refine List.mem_filter.mpr ⟨h1,?_⟩
    simp only[ye,List.contains_cons,List.contains_nil,Bool.or_false] at h2 ⊢
    simpa using h2
   ·rw[if_neg hi,if_neg hi];trivial
 | two a b iha ihb=>
   intro d S ρ ρ' h
   have key:∀ (d1 d2:V),Both (subL S (ye (.two a b))) ((zp a d1 ρ).bind (zp b d2)) ((zp a d1 ρ').bind (zp b d2)):=fun d1 d2=>by
    refine zin (U:=[]) (iha d1 S ρ ρ' h) fun r r' h'=>?_
    have:=ihb d2 _ r r' h'
    revert this
    cases zp b d2 r <;> cases zp b d2 r' <;> intro this <;> first | exact this | skip
    refine Agree.mono this fun i hi=>?_
    simp only[subL,List.mem_filter,ye,List.contains_eq_mem,List.mem_append,Bool.not_eq_true',decide_eq_false_iff_not] at hi ⊢
    exact⟨hi.1.1,fun hm=>hm.elim hi.1.2 hi.2⟩
   cases d with
   | d x=>
     unfold zp
     cases items x with
     | none=>trivial
     | some l=>
       match l with
       | [y,z]=>exact key _ _
       | []=>trivial
       | [_]=>trivial
       | _::_::_::_=>trivial
   | _=>trivial
theorem zio(c:CT)(d:V)(ρ:Loc):zp c d (clr (ye c) ρ)=zp c d ρ:=by
 have:=zel c d _ _ _ (zil (ye c) ρ)
 have e:subL (ye c) (ye c)=[]:=by
  unfold subL
  rw[List.filter_eq_nil_iff]
  intro a ha
  simpa using ha
 rw[e] at this
 revert this
 cases zp c d (clr (ye c) ρ) <;> cases zp c d ρ <;> intro this <;> first | rfl | exact this.elim | exact congrArg some this.nil
theorem zek:∀ (c:CT) (d:V) (ρ ρ':Loc),zp c d ρ=some ρ'→∀ i,i∉ye c→ρ'[i]?=ρ[i]?:=by
 intro c
 induction c with
 | name j=>
   intro d ρ ρ' h i hi
   unfold zp at h
   split at h
   ·cases h;exact List.getElem?_set_ne fun e=>hi (by simp[ye,e])
   ·cases h
 | two a b iha ihb=>
   intro d ρ ρ' h i hi
   simp only[ye,List.mem_append,not_or] at hi
   have key:∀ (d1 d2:V),(zp a d1 ρ).bind (zp b d2)=some ρ'→ρ'[i]?=ρ[i]?:=fun d1 d2 h=>by
    cases h1:zp a d1 ρ with
    | none=>rw[h1] at h;cases h
    | some r=>rw[h1] at h;exact (ihb d2 r ρ' h i hi.2).trans (iha d1 ρ r h1 i hi.1)
   cases d with
   | d x=>
     unfold zp at h
     cases hx:items x with
     | none=>rw[hx] at h;cases h
     | some l=>
       rw[hx] at h
       match l,h with
       | [y,z],h=>exact key _ _ h
       | [],h=>cases h
       | [_],h=>cases h
       | _::_::_::_,h=>cases h
   | _=>cases h
theorem zf9:∀ (c:CT) (e:Expr) (l:List (Option Str)) (i:Nat) (x:Str),(addT c e l)[i]?=some (some x)→l[i]?=some (some x)∨i∈ye c:=by
 intro c
 induction c with
 | name j=>
   intro e l i x h
   cases e with
   | Name y p=>
     change (if l[j]? == some none then l.set j (some y) else l)[i]?=_ at h
     split at h
     ·by_cases hj:j=i
      ·exact .inr (by simp[ye,hj])
      ·rw[List.getElem?_set_ne hj] at h;exact .inl h
     ·exact .inl h
   | _=>exact .inl h
 | two a b iha ihb=>
   intro e l i x h
   cases e with
   | Tuple es k p=>
     match es,h with
     | [y,z],h=>
       rcases ihb _ _ _ _ h with h | h
       ·rcases iha _ _ _ _ h with h | h
        ·exact .inl h
        ·exact .inr (List.mem_append_left _ h)
       ·exact .inr (List.mem_append_right _ h)
     | [],h=>exact .inl h
     | [_],h=>exact .inl h
     | _::_::_::_,h=>exact .inl h
   | _=>exact .inl h
theorem zmf{l:List (Option Str)}(h:xf l=true):∀ (i j:Nat) x,l[i]?=some (some x)→l[j]?=some (some x)→i=j:=by
 have h:(l.filterMap id).Nodup:=of_decide_eq_true h
 induction l with
 | nil=>intro i j x h1;simp at h1
 | cons o l ih=>
   have hl:(l.filterMap id).Nodup:=by
    cases o with
    | none=>simpa using h
    | some y=>simp at h;exact h.2
   intro i j x h1 h2
   have nin:∀ k,l[k]?=some (some x)→o≠some x:=fun k hk e=>by
    subst e
    simp at h
    have:some x∈l:=List.mem_of_getElem? hk
    exact h.1 this
   match i,j,h1,h2 with
   | 0,0,_,_=>rfl
   | 0,j+1,h1,h2=>simp at h1 h2;exact absurd h1 (nin j h2)
   | i+1,0,h1,h2=>simp at h1 h2;exact absurd h2 (nin i h1)
   | i+1,j+1,h1,h2=>simp at h1 h2;exact congrArg (· + 1) (ih (decide_eq_true hl) hl i j x h1 h2)
section
variable{G:Gl}{N M β:List Addr}{O:za}{h:Heap}
theorem uw{as:List Addr}(al:∀ a∈as,∃ o,h.get? a=some o)(hM:∀ a∈M,h.get? a=none)(q:∀ a∈as,a∉β∧a∉N):∀ a∈as,a∉β∧a∉M++N:=fun a ha=>by
 refine⟨(q a ha).1,fun hm=>?_⟩
 rcases List.mem_append.mp hm with hm | hm
 ·obtain⟨o,e⟩:=al a ha
  rw[hM a hm] at e;cases e
 ·exact (q a ha).2 hm
theorem ItsR.grow(hM:∀ a∈M,h.get? a=none){vs:List Value}{its:List It}(r:ItsR N β h vs its):ItsR (M++N) β h vs its:=by
 induction r with
 | nil=>exact .nil
 | b h1 _ ih=>exact .b h1 ih
 | x h1 h2 _ ih=>exact .x h1 (uw (y6 h1) hM h2) ih
theorem VR.grow(hM:∀ a∈M,h.get? a=Option.none){v:Value}{x:V}(r:VR G N β h v x):VR G (M++N) β h v x:=by
 cases x with
 | d x=>obtain⟨as,r,q⟩:=r;exact⟨as,r,uw (y6 r) hM q⟩
 | box n=>exact r
 | tm its=>obtain⟨a,o,vs,k,e,h1,h2,h3,h4⟩:=r;exact⟨a,o,vs,k,e,h1,h2,h3,h4.grow hM⟩
theorem BoxAt.grow(hM:∀ a∈M,h.get? a=none){a:Addr}{bx:Box}(r:BoxAt h N β a bx):BoxAt h (M++N) β a bx:=by
 cases bx with
 | lst xs=>obtain⟨o,vs,n,h1,h2,h3,as,h4,h5⟩:=r;exact⟨o,vs,n,h1,h2,h3,as,h4,uw (kw h4) hM h5⟩
 | dct kvs=>
   obtain⟨o,es,n,h1,h2,h3,h4,h5⟩:=r
   refine⟨o,es,n,h1,h2,h3,h4,fun i e kv he hkv=>?_⟩
   obtain⟨hq,as,bs,r1,r2,q⟩:=h5 i e kv he hkv
   exact⟨hq,as,bs,r1,r2,uw (fun a ha=>(List.mem_append.mp ha).elim (y6 r1 a) (y6 r2 a)) hM q⟩
theorem BR.grow(hM:∀ a∈M,h.get? a=none)(b:BR G N β O h):BR G (M++N) β O h:=
 ⟨b.keep,b.len,b.nodup,b.new,fun i a bx h1 h2=>(b.at_ i a bx h1 h2).grow hM,b.plain⟩
theorem BoxAt.less{N':List Addr}(hs:∀ a∈N,a∈N'){a:Addr}{bx:Box}(r:BoxAt h N' β a bx):BoxAt h N β a bx:=by
 cases bx with
 | lst xs=>obtain⟨o,vs,n,h1,h2,h3,as,h4,h5⟩:=r;exact⟨o,vs,n,h1,h2,h3,as,h4,fun b hb=>⟨(h5 b hb).1,fun hn=>(h5 b hb).2 (hs b hn)⟩⟩
 | dct kvs=>
   obtain⟨o,es,n,h1,h2,h3,h4,h5⟩:=r
   refine⟨o,es,n,h1,h2,h3,h4,fun i e kv he hkv=>?_⟩
   obtain⟨hq,as,bs,r1,r2,q⟩:=h5 i e kv he hkv
   exact⟨hq,as,bs,r1,r2,fun b hb=>⟨(q b hb).1,fun hn=>(q b hb).2 (hs b hn)⟩⟩
theorem BR.less{N':List Addr}(hs:∀ a∈N,a∈N')(b:BR G N' β O h):BR G N β O h:=
 ⟨b.keep,b.len,b.nodup,b.new,fun i a bx h1 h2=>(b.at_ i a bx h1 h2).less hs,b.plain⟩
theorem BR.but{D:Addr}{h':Heap}(hs:∀ b o,b≠D→h.get? b=some o→h'.get? b=some o)(hN:D∈N)(hb:D∉β)(h0:G.h₀.get? D=none)(ht:∀ o vs n,h.get? D=some o→o.data=.seq vs n→o.cls≠.type "tuple")(b:BR G N β O h):BR G N β O h':=by
 have rd:∀ {v:Value} {x:PyData} {as:List Addr},Reads h v x as→(∀ a∈as,a∉β∧a∉N)→Reads h' v x as:=fun r q=>
  jb (P:=fun a=>a≠D) (fun a o e p=>hs a o p e) (fun a o vs n e hc hd=>fun e'=>by subst e';exact ht o vs n e hd hc) r fun a ha e'=>(q a ha).2 (e' ▸ hN)
 have rda:∀ {v:List Value} {x:List PyData} {as:List Addr},ReadsAll h v x as→(∀ a∈as,a∉β∧a∉N)→ReadsAll h' v x as:=fun r q=>
  xn (P:=fun a=>a≠D) (fun a o e p=>hs a o p e) (fun a o vs n e hc hd=>fun e'=>by subst e';exact ht o vs n e hd hc) r fun a ha e'=>(q a ha).2 (e' ▸ hN)
 refine⟨fun c o e=>hs c o (fun e'=>by rw[e',h0] at e;cases e) (b.keep c o e),b.len,b.nodup,b.new,fun i a bx h1 h2=>?_,fun a ha=>(b.plain a ha).at fun o e=>hs a o (fun e'=>hb (e' ▸ ha)) e⟩
 have hx:=b.at_ i a bx h1 h2
 have hne:a≠D:=fun e=>hb (e ▸ List.mem_of_getElem? h1)
 cases bx with
 | lst xs=>obtain⟨o,vs,n,e1,e2,e3,as,e4,e5⟩:=hx;exact⟨o,vs,n,hs _ _ hne e1,e2,e3,as,rda e4 e5,e5⟩
 | dct kvs=>
   obtain⟨o,es,n,e1,e2,e3,e4,e5⟩:=hx
   refine⟨o,es,n,hs _ _ hne e1,e2,e3,e4,fun i e kv he hkv=>?_⟩
   obtain⟨hq,as,bs,r1,r2,q⟩:=e5 i e kv he hkv
   exact⟨hq,as,bs,rd r1 fun a ha=>q a (List.mem_append_left _ ha),rd r2 fun a ha=>q a (List.mem_append_right _ ha),q⟩
theorem ItsR.but{D:Addr}{h':Heap}(hs:∀ b o,b≠D→h.get? b=some o→h'.get? b=some o)(hN:D∈N)(ht:∀ o vs n,h.get? D=some o→o.data=.seq vs n→o.cls≠.type "tuple"){vs:List Value}{its:List It}(r:ItsR N β h vs its):ItsR N β h' vs its:=by
 induction r with
 | nil=>exact .nil
 | b h1 _ ih=>exact .b h1 ih
 | x h1 h2 _ ih=>
   refine .x (jb (P:=fun a=>a≠D) (fun a o e p=>hs a o p e) (fun a o vs n e hc hd=>fun e'=>?_) h1 fun a ha e'=>(h2 a ha).2 (e' ▸ hN)) h2 ih
   subst e';exact ht o vs n e hd hc
theorem VR.but{D:Addr}{h':Heap}(hs:∀ b o,b≠D→h.get? b=some o→h'.get? b=some o)(hN:D∈N)(ht:∀ o vs n,h.get? D=some o→o.data=.seq vs n→o.cls≠.type "tuple"){v:Value}{x:V}(r:VR G N β h v x):VR G N β h' v x:=by
 cases x with
 | d x=>
   obtain⟨as,r,q⟩:=r
   refine⟨as,jb (P:=fun a=>a≠D) (fun a o e p=>hs a o p e) (fun a o vs n e hc hd=>fun e'=>?_) r fun a ha e'=>(q a ha).2 (e' ▸ hN),q⟩
   subst e';exact ht o vs n e hd hc
 | box n=>exact r
 | tm its=>obtain⟨a,o,vs,k,e,h1,h2,h3,h4⟩:=r;exact⟨a,o,vs,k,e,hs _ _ (fun e'=>by subst e';exact ht o vs k h1 h3 h2) h1,h2,h3,h4.but hs hN ht⟩
end
theorem SR.but{G:Gl}{F:Fm}{β:List Addr}{ρ:Loc}{O:za}{h h':Heap}{D:Addr}{vs vs':Array Value}{n n':Nat}{o o':Obj}(hs:∀ b o,b≠D→h.get? b=some o→h'.get? b=some o)(hD:D∈F.B)(e:h.get? D=some o)(hc:o.cls=.type "list")(hd:o.data=.seq vs n)
 (e':h'.get? D=some o') (hc':o'.cls=.type "list") (sr:SR G F β ρ O h):SR G F β ρ O h':=by
 have ht:∀ o vs n,h.get? D=some o→o.data=.seq vs n→o.cls≠.type "tuple":=fun o₂ vs₂ n₂ e₂ _=>by rw [e] at e₂;cases e₂;rw [hc];decide
 have notD:∀ {b:Addr} {o₂:Obj},h.get? b=some o₂→(∀ vs n,o₂.data≠.seq vs n)→b≠D:=fun e₂ hn e₃=>by subst e₃;rw[e] at e₂;cases e₂;exact hn _ _ hd
 have hns:∀ {L m},h.Ns L m→h'.Ns L m:=fun ⟨o,es,ep,h1,h2,r⟩=>⟨o,es,ep,hs _ _ (notD h1 fun vs n q=>by rw[h2] at q;cases q) h1,h2,r⟩
 have hcell:∀ {c v},h.IsCell c v→h'.IsCell c v:=fun ⟨o,h1,h2⟩=>⟨o,hs _ _ (notD h1 fun vs n q=>by rw[h2] at q;cases q) h1,h2⟩
 refine⟨sr.br.but hs hD (sr.fm.notBox D hD) (sr.fm.newB hD (sr.br.notSysD e fun es n q=>by rw[hd] at q;cases q)) ht,⟨sr.fm.kind,sr.fm.globals,sr.fm.builtins,sr.fm.once,let ⟨m,hm⟩:=sr.fm.ns;⟨m,hns hm⟩,sr.fm.nsW,fun x hx=>?_,sr.fm.apart,sr.fm.sub,sr.fm.new,sr.fm.notBox,fun a ha=>?_,sr.fm.frB,fun a ha=>let ⟨m,hm⟩:=sr.fm.frs a ha;⟨m,hns hm⟩,fun m e=>⟨hns (sr.fm.pin m e).1,(sr.fm.pin m e).2⟩⟩,fun i x v h1 h2=>?_⟩
 ·obtain⟨c,v,h3,h4,h5⟩:=sr.fm.cell x hx
  exact⟨c,v,h3,hcell h4,h5⟩
 ·by_cases ha':a=D
  ·subst ha';exact⟨o',e',fun _ _ _=>by rw[hc'];decide⟩
  ·obtain⟨o₂,h1,h2⟩:=sr.fm.stor a ha
   exact⟨o₂,hs _ _ ha' h1,h2⟩
 ·obtain⟨val,g,r⟩:=sr.get i x v h1 h2
  refine⟨val,?_,r.but hs hD ht⟩
  rcases g with ⟨g1,m,g2,g3⟩ | ⟨g1,c,g2,g3⟩
  ·exact .inl ⟨g1,m,hns g2,g3⟩
  ·exact .inr ⟨g1,c,g2,hcell g3⟩
theorem SR.fewer{G:Gl}{F:Fm}{β:List Addr}{ρ ρ':Loc}{O:za}{h:Heap}(sr:SR G F β ρ O h)(hs:∀ (i:Nat) v,ρ'[i]?=some (some v)→ρ[i]?=some (some v)):SR G F β ρ' O h:=
 ⟨sr.br,sr.fm,fun i x v h1 h2=>sr.get i x v h1 (hs i v h2)⟩
theorem Step.thenW{W₀ W β₀ β β':List Addr}{s₀ s s':Shared}(st:Step W₀ β₀ s₀ s β)(st':Step W β s s' β')(hW:∀ a∈W,s₀.heap.get? a=none):Step W₀ β₀ s₀ s' β' where
 gens:=st'.gens.trans st.gens
 os:=st'.os.trans st.os
 pre:=st.pre.trans st'.pre
 fresh:=fun a ha=>by
  rcases st'.fresh a ha with h | h
  ·exact st.fresh a h
  ·right
   cases e:s₀.heap.get? a with
   | none=>rfl
   | some o=>obtain⟨o',e'⟩:=st.alive a o e;rw[e'] at h;cases h
 alive:=fun b o e=>let ⟨o',e'⟩:=st.alive b o e;st'.alive b o' e'
 kept:=fun b o e hb hW'=>by
  obtain⟨o',e',kn⟩:=st.kept b o e hb hW'
  obtain⟨o'',e'',kn'⟩:=st'.kept b o' e' (fun hb'=>by
   rcases st.fresh b hb' with h | h
   ·exact hb h
   ·rw[e] at h;cases h) fun hw=>by rw[hW b hw] at e;cases e
  exact⟨o'',e'',kn.trans kn'⟩
noncomputable def zh(cx:Cx)(F:Fm)(tgt:CT)(t:Expr)(scope:Scope)(C D:Addr):Fm:=
 { env:={ zee scope F.env C (jg F.env scope.names []) with scope:=relabel scope F.env }
   names:=(cx.inner tgt t scope).names
   own:=ownOf scope
   W:=C::(cellsFrom (C+1) scope.names []).map (·.2)
   B:=(D::C::(cellsFrom (C+1) scope.names []).map (·.2))++F.B
   fr:=F.fr }
theorem yq{scope sc:Scope}(h:y9 scope sc=true):scope.kind=.function∧(scope.names.map (·.1)).Nodup∧∀ x k,(x,k)∈scope.names→k=.local∨k=.cell∨k=.globalImplicit∨(k=.free∧sc.names.lookup x=some .cell):=by
 obtain⟨h1,h2,h3⟩:=and3 h
 refine⟨beq_iff_eq.mp h1,of_decide_eq_true h2,fun x k hm=>?_⟩
 have:=List.all_eq_true.mp h3 (x,k) hm
 simpa [Bool.or_eq_true,Bool.and_eq_true,beq_iff_eq,or_assoc] using this
theorem wa(f:Str→NameKind→NameKind):∀ (l:List (Str×NameKind)) (x:Str),(l.map fun (n,k)=>(n,f n k)).lookup x=(l.lookup x).map (f x)
 | [],x=>rfl
 | (n,k)::r,x=>by
   rw[List.map_cons,List.lookup_cons,List.lookup_cons]
   cases hx:x == n with
   | true=>rw[beq_iff_eq.mp hx];rfl
   | false=>exact wa f r x
section
variable{G:Gl}{F:Fm}{A:Around}{cx:Cx}{tgt:CT}{t:Expr}{scope:Scope}
theorem zfb(fit:Fits F cx)(hk:F.env.scope.kind=.function):relabel scope F.env=zaz scope cx.sc:=by
 unfold relabel zaz
 congr 1
 refine List.map_congr_left fun p _=>?_
 obtain⟨n,k⟩:=p
 have h1:F.env.kindOf n=cx.sc.names.lookup n:=fit.kind n
 dsimp only
 rw[h1,hk,fit.sck]
theorem g6(fit:Fits F cx)(hk:F.env.scope.kind=.function)(C D:Addr)(x:Str):(zh cx F tgt t scope C D).env.kindOf x=(cx.inner tgt t scope).kind x:=by
 show (relabel scope F.env).names.lookup x=(zaz scope cx.sc).names.lookup x
 rw[zfb fit hk]
theorem zdq(hsc:y9 scope cx.sc=true)(fit:Fits F cx)(x:Str):(cx.inner tgt t scope).kind x=(match scope.names.lookup x with | some .free=>some .cell | o=>o):=by
 obtain⟨h1,h2,h3⟩:=yq hsc
 show (zaz scope cx.sc).names.lookup x=_
 unfold zaz
 have e:(scope.names.map fun (n,k)=>if (k == NameKind.free && cx.sc.kind == ScopeKind.function && cx.sc.names.lookup n == some NameKind.cell) then (n,NameKind.cell) else (n,k)) =
  scope.names.map fun (n,k)=>(n,if (k == NameKind.free && cx.sc.kind == ScopeKind.function && cx.sc.names.lookup n == some NameKind.cell) then NameKind.cell else k):=by
  refine List.map_congr_left fun p _=>?_
  obtain⟨n,k⟩:=p
  dsimp only
  split <;> rfl
 dsimp only
 rw[e,wa (fun n k=>if (k == NameKind.free && cx.sc.kind == ScopeKind.function && cx.sc.names.lookup n == some NameKind.cell) then NameKind.cell else k)]
 cases hl:scope.names.lookup x with
 | none=>rfl
 | some k=>
   have hm:=(lookup_mem h2).mpr hl
   dsimp only[Option.map]
   rcases h3 x k hm with rfl | rfl | rfl | ⟨rfl,hc⟩
   ·rfl
   ·rfl
   ·rfl
   ·rw[hc,fit.sck];rfl
theorem g7(fit:Fits F cx)(hk:F.env.scope.kind=.function)(hsc:y9 scope cx.sc=true)(C D:Addr):Fits (zh cx F tgt t scope C D) (cx.inner tgt t scope) where
 names:=rfl
 kind:=g6 fit hk C D
 sck:=(yq hsc).1
end
section
variable{prog:Program}{w:World}{A:Around}{R:Result→Shared→Prop}{s:Shared}
noncomputable def y8(ifs:List Expr)(env:Env):Sem Bool:=forIn ifs true fun c r=>if r=true then do let ok ← isTrue c env (eval c env);pure (ForInStep.yield ok) else pure (ForInStep.yield r)
theorem qd{elt target iter:Expr}{ifs:List Expr}{scope:Scope}{pos:Pos}{it acc:Value}{env:Env}(I:Nat→Shared→Prop)
 (turn:∀ n s,I n s→wpAny (model prog w) A (pyNext it) (fun r s₁=>match r with
   | none=>R (.ok .next) s₁
   | some v=>wpAny (model prog w) A (letOwnedTupleGo target it v) (fun _ s₁'=>wpAny (model prog w) A (assign target env v) (fun _ s₂=>
      wpAny (model prog w) A (y8 ifs env) (fun ok s₃=>
       if ok=true then wpAny (model prog w) A (eval elt env) (fun x s₄=>
        wpAny (model prog w) A (call (.builtin "list.append") [acc,x]) (fun _ s₅=>∃ m,m < n∧I m s₅) (notedBy (model prog w) A env fun e s'=>R (.error e) s') s₄) (notedBy (model prog w) A env fun e s'=>R (.error e) s') s₃
       else ∃ m,m < n∧I m s₃) (notedBy (model prog w) A env fun e s'=>R (.error e) s') s₂) (notedBy (model prog w) A env fun e s'=>R (.error e) s') s₁') (notedBy (model prog w) A env fun e s'=>R (.error e) s') s₁)
   (notedBy (model prog w) A env fun e s'=>R (.error e) s') s)
 (n:Nat) (h:I n s):codeAny (model prog w) A (.compLoop (.ListComp elt [⟨target,iter,ifs,0⟩] scope pos) 0 it acc env) R s:=by
 refine codeAny_loop rfl I (fun n s hI=>?_) n h
 show wpAny _ A ((compTurn (.ListComp elt [⟨target,iter,ifs,0⟩] scope pos) 0 it acc env).onRaise (fun x=>do noteFrame x env;theTreesLotGoes x)) _ _ s
 refine wpAny_noted ?_
 rw[compTurn_list]
 refine wpAny_bind (wpAny_standAt (wpAny_bind (wpAny_mono (turn n s hI) (fun r s₁ h₁=>?_) fun _ _ h'=>h')))
 cases r with
 | none=>exact wpAny_pure h₁
 | some v=>
   refine wpAny_bind (wpAny_mono h₁ (fun _ s₁' h₁'=>?_) fun _ _ h'=>h')
   refine wpAny_bind (wpAny_mono h₁' (fun _ s₂ h₂=>wpAny_bind (wpAny_mono h₂ (fun ok s₃ h₃=>?_) fun _ _ h'=>h')) fun _ _ h'=>h')
   cases ok with
   | false=>exact wpAny_pure ⟨rfl,h₃⟩
   | true=>
     exact wpAny_bind (wpAny_bind (wpAny_mono h₃ (fun x s₄ h₄=>wpAny_bind (wpAny_mono h₄ (fun _ s₅ h₅=>wpAny_pure (wpAny_pure ⟨rfl,h₅⟩)) fun _ _ h'=>h')) fun _ _ h'=>h'))
end
section
variable{G:Gl}{F:Fm}{A:Around}{cx:Cx}{tgt:CT}{t:Expr}{scope:Scope}{gval:Nat→Option PyData}{gname:Nat→Option Str}
set_option tactic.hygienic true in
theorem zi5{β:List Addr}{ρ:Loc}{O:za}{s s':Shared}{C D:Addr}{m:Str→Option Value}{oD:Obj}(fit:Fits F cx)(sr:SR G F β ρ O s.heap)(hsc:y9 scope cx.sc=true)(honce:xf (cx.inner tgt t scope).names=true)
 (kept:∀ b o,s.heap.get? b=some o→s'.heap.get? b=some o) (hns:s'.heap.Ns C m) (ok:CellsOk s'.heap (C+1) (cellsFrom (C+1) scope.names [])) (hlo:∀ a,C≤a→s.heap.get? a=none)
 (hDn:s.heap.get? D=none) (hD:s'.heap.get? D=some oD) (hDc:oD.cls=.type "list"):SR G (zh cx F tgt t scope C D) β (clr (ye tgt) ρ) O s'.heap:=by
 obtain⟨k1,k2,k3⟩:=yq hsc
 have hkind:=g6 (tgt:=tgt) (t:=t) (scope:=scope) fit sr.fm.kind C D
 have hkind':=zdq (tgt:=tgt) (t:=t) hsc fit
 have hCn:s.heap.get? C=none:=hlo C (Nat.le_refl _)
 have hcn:∀ x c,(x,c)∈cellsFrom (C+1) scope.names []→s.heap.get? c=none:=fun x c hm=>hlo c (Nat.le_of_succ_le (ok.empty x c hm).2)
 have hM:∀ a∈D::C::(cellsFrom (C+1) scope.names []).map (·.2),s.heap.get? a=none:=fun a ha=>by
  rcases List.mem_cons.mp ha with rfl | ha
  ·exact hDn
  ·rcases List.mem_cons.mp ha with rfl | ha
   ·exact hCn
   ·obtain⟨p,hp,rfl⟩:=List.mem_map.mp ha
    exact hcn p.1 p.2 hp
 have h0:∀ a,s.heap.get? a=none→G.h₀.get? a=none:=fun a ha=>by
  cases e:G.h₀.get? a with
  | none=>rfl
  | some o=>have:=sr.br.keep a o e;rw[ha] at this;cases this
 have lkup:∀ x,(zh cx F tgt t scope C D).env.cells.lookup x=((cellsFrom (C+1) scope.names []).lookup x).or (if (x,NameKind.free)∈scope.names then some ((F.env.cells.lookup x).getD 0) else none):=fun x=>by
  show (cellsFrom (C+1) scope.names (jg F.env scope.names [])).lookup x=_
  rw[xp,List.lookup_append,jt]
  rfl
 have newNone:∀ x,(x,NameKind.free)∈scope.names→(cellsFrom (C+1) scope.names []).lookup x=none:=fun x hx=>by
  cases e:(cellsFrom (C+1) scope.names []).lookup x with
  | none=>rfl
  | some c=>
    rcases xo _ _ _ (mem_of_lookup e) with h | h
    ·have e1:=(lookup_mem k2).mp hx
     have e2:=(lookup_mem k2).mp h
     rw[e1] at e2;cases e2
    ·cases h
 have outer:∀ x,(x,NameKind.free)∈scope.names→∃ c v,F.env.cells.lookup x=some c∧s.heap.IsCell c v∧c∈F.B∧(zh cx F tgt t scope C D).env.cells.lookup x=some c:=fun x hx=>by
  have hc:cx.sc.names.lookup x=some .cell:=by
   rcases k3 x _ hx with h | h | h | ⟨_,h⟩
   ·cases h
   ·cases h
   ·cases h
   ·exact h
  obtain⟨c,v,h1,h2,h3,_⟩:=sr.fm.cell x ((fit.kind x).trans hc)
  refine⟨c,v,h1,h2,h3,?_⟩
  rw[lkup,newNone x hx,if_pos hx,h1];rfl
 refine⟨(sr.br.grow hM).keepAll kept,⟨k1,sr.fm.globals,sr.fm.builtins,zmf honce,⟨m,hns⟩,List.mem_cons_self,fun x hx=>?_,fun x y c hx hy=>?_,fun a ha=>List.mem_append_left _ (List.mem_cons_of_mem _ ha),?_,fun a ha hb=>?_,fun a ha=>?_,fun a ha=>List.mem_append_right _ (sr.fm.frB a ha),fun a ha=>let ⟨m,hm⟩:=sr.fm.frs a ha;⟨m,hm.keeps kept⟩,fun m e=>nomatch e⟩,fun i x v h1 h2=>?_⟩
 ·rw[hkind,hkind'] at hx
  cases hl:scope.names.lookup x with
  | none=>rw[hl] at hx;cases hx
  | some k=>
    have hm:=(lookup_mem k2).mpr hl
    rw[hl] at hx
    cases k with
    | cell=>
      obtain⟨c,hc⟩:=Option.isSome_iff_exists.mp (yf scope.names (C+1) [] (.inl hm))
      have hmem:=mem_of_lookup hc
      have hW:c∈C::(cellsFrom (C+1) scope.names []).map (·.2):=List.mem_cons_of_mem _ (List.mem_map.mpr ⟨(x,c),hmem,rfl⟩)
      exact⟨c,none,by rw[lkup,hc];rfl,(ok.empty x c hmem).1,List.mem_append_left _ (List.mem_cons_of_mem _ hW),fun _=>hW⟩
    | free=>
      obtain⟨c,v,h1,h2,h3,h4⟩:=outer x hm
      refine⟨c,v,h4,h2.keeps kept,List.mem_append_right _ h3,fun ho=>?_⟩
      have ho:ownOf scope x=true:=ho
      unfold ownOf at ho
      rw[hl] at ho
      exact absurd ho (by decide)
    | _=>cases hx
 ·rw[lkup] at hx hy
  cases e1:(cellsFrom (C+1) scope.names []).lookup x with
  | some c1=>
    rw[e1] at hx
    have:c1=c:=Option.some.inj hx
    subst this
    cases e2:(cellsFrom (C+1) scope.names []).lookup y with
    | some c2=>
      rw[e2] at hy
      have:c2=c1:=Option.some.inj hy
      subst this
      exact name_of_addr ok.apart (mem_of_lookup e1) (mem_of_lookup e2)
    | none=>
      rw[e2] at hy
      by_cases hf:(y,NameKind.free)∈scope.names
      ·obtain⟨c',v,q1,⟨o,q2,_⟩,_,_⟩:=outer y hf
       rw[if_pos hf,q1] at hy
       have:c'=c1:=Option.some.inj hy
       subst this
       have:=hcn x c' (mem_of_lookup e1)
       rw[q2] at this;cases this
      ·rw[if_neg hf] at hy;cases hy
  | none=>
    rw[e1] at hx
    by_cases hf:(x,NameKind.free)∈scope.names
    ·obtain⟨c',v,q1,⟨o,q2,_⟩,_,_⟩:=outer x hf
     rw[if_pos hf,q1] at hx
     have:c'=c:=Option.some.inj hx
     subst this
     cases e2:(cellsFrom (C+1) scope.names []).lookup y with
     | some c2=>
       rw[e2] at hy
       have:c2=c':=Option.some.inj hy
       subst this
       have:=hcn y c2 (mem_of_lookup e2)
       rw[q2] at this;cases this
     | none=>
       rw[e2] at hy
       by_cases hf':(y,NameKind.free)∈scope.names
       ·obtain⟨c'',v',q1',_⟩:=outer y hf'
        rw[if_pos hf',q1'] at hy
        have:c''=c':=Option.some.inj hy
        subst this
        exact sr.fm.apart x y c'' q1 q1'
       ·rw[if_neg hf'] at hy;cases hy
    ·rw[if_neg hf] at hx;cases hx
 ·have:=zdg (F:=F) (fr:=[]) sr.br hM ⟨sr.fm.new.1,sr.fm.new.2.1⟩
  exact⟨this.1,this.2.1,fun hm=>this.2.2 (List.mem_cons_of_mem _ hm),sr.fm.new.2.2.2⟩
 ·rcases List.mem_append.mp ha with ha | ha
  ·obtain⟨o,e,_⟩:=sr.br.alive a hb
   rw[hM a ha] at e;cases e
  ·exact sr.fm.notBox a ha hb
 ·rcases List.mem_append.mp ha with ha | ha
  ·rcases List.mem_cons.mp ha with rfl | ha
   ·exact⟨oD,hD,fun _ _ _=>by rw[hDc];decide⟩
   ·rcases List.mem_cons.mp ha with rfl | ha
    ·obtain⟨o,es,ep,q1,q2,_⟩:=hns
     exact⟨o,q1,fun vs n q=>by rw[q2] at q;cases q⟩
    ·obtain⟨p,hp,rfl⟩:=List.mem_map.mp ha
     obtain⟨o,q1,q2⟩:=(ok.empty p.1 p.2 hp).1
     exact⟨o,q1,fun vs n q=>by rw[q2] at q;cases q⟩
  ·obtain⟨o,q1,q2⟩:=sr.fm.stor a ha
   exact⟨o,kept _ _ q1,q2⟩
 ·have hi:i∉ye tgt:=fun hm=>dq _ _ _ _ hm h2
  rw[q7 _ _ _ hi] at h2
  rcases zf9 tgt t _ i x h1 with h1 | h1
  ·rw[List.getElem?_map] at h1
   cases hn:cx.names[i]? with
   | none=>rw[hn] at h1;cases h1
   | some o=>
     rw[hn] at h1
     cases o with
     | none=>cases h1
     | some y=>
       simp only[Option.map_some,Option.filter,Option.some.injEq] at h1
       split at h1
       ·rename_i hfree
        cases (h1)
        have hfree:scope.names.lookup x=some .free:=beq_iff_eq.mp hfree
        have hm:=(lookup_mem k2).mpr hfree
        obtain⟨val,g,r⟩:=sr.get i x v (by rw[fit.names];exact hn) h2
        obtain⟨c,v',q1,q2,q3,q4⟩:=outer x hm
        refine⟨val,?_,(r.grow hM).keepAll kept⟩
        have hcl:F.env.kindOf x=some .cell:=by
         rcases k3 x _ hm with h | h | h | ⟨_,h⟩
         ·cases h
         ·cases h
         ·cases h
         ·exact (fit.kind x).trans h
        rcases g with ⟨g1,_⟩ | ⟨g1,c',g2,g3⟩
        ·rw[hcl] at g1;cases g1
        ·rw [q1] at g2;cases g2
         refine .inr ⟨?_,c,q4,g3.keeps kept⟩
         rw[hkind,hkind',hfree]
       ·cases h1
  ·exact absurd h1 hi
structure StepZ(Z β:List Addr)(s s':Shared)(β':List Addr):Prop where
 gens:s'.gens=s.gens
 os:s'.os=s.os
 pre:β <+: β'
 fresh:∀ a∈β',a∈β∨s.heap.get? a=none
 alive:∀ b o,b∉Z→s.heap.get? b=some o→∃ o',s'.heap.get? b=some o'
 kept:∀ b o,b∉Z→s.heap.get? b=some o→b∉β→∃ o',s'.heap.get? b=some o'∧Kin o o'
theorem StepZ.keptE{Z β:List Addr}{s s':Shared}{β':List Addr}(x:StepZ Z β s s' β'){b:Addr}{o:Obj}(hz:b∉Z)(e:s.heap.get? b=some o)(hb:b∉β)(hd:∀ es n,o.data≠.dict es n):s'.heap.get? b=some o:=by
 obtain⟨o',e',k⟩:=x.kept b o hz e hb
 rw[e',k.same hd]
theorem Step.z{Z β β':List Addr}{s s' s'':Shared}(st:Step Z β s s' β')(kz:KeepsZ Z s' s''):StepZ Z β s s'' β':=
 ⟨kz.gens.trans st.gens,kz.os.trans st.os,st.pre,st.fresh,fun b o hz e=>let ⟨o',e'⟩:=st.alive b o e;⟨o',kz.kept b o' hz e'⟩,fun b o hz e hb=>let ⟨o',e',kn⟩:=st.kept b o e hb hz;⟨o',kz.kept b o' hz e',kn⟩⟩
theorem Step.thenStepZ{W Z β₀ β β':List Addr}{s₀ s s':Shared}(st:Step W β₀ s₀ s β)(sz:StepZ Z β s s' β')(hz:∀ z∈Z,s₀.heap.get? z=none):Step W β₀ s₀ s' β' where
 gens:=sz.gens.trans st.gens
 os:=sz.os.trans st.os
 pre:=st.pre.trans sz.pre
 fresh:=fun a ha=>by
  rcases sz.fresh a ha with h | h
  ·exact st.fresh a h
  ·right
   cases e:s₀.heap.get? a with
   | none=>rfl
   | some o=>obtain⟨o',e'⟩:=st.alive a o e;rw[e'] at h;cases h
 alive:=fun b o e=>by
  obtain⟨o',e'⟩:=st.alive b o e
  exact sz.alive b o' (fun h=>by rw[hz b h] at e;cases e) e'
 kept:=fun b o e hb hW=>by
  obtain⟨o',e',kn⟩:=st.kept b o e hb hW
  obtain⟨o'',e'',kn'⟩:=sz.kept b o' (fun h=>by rw[hz b h] at e;cases e) e' fun hb'=>by
   rcases st.fresh b hb' with h | h
   ·exact hb h
   ·rw[e] at h;cases h
  exact⟨o'',e'',kn.trans kn'⟩
structure CompEnd(G:Gl)(F:Fm)(scope:Scope)(Z β₁:List Addr)(s₁:Shared)(C D:Addr)(acc:List PyData)(O':za)(s':Shared)(β':List Addr):Prop where
 step:StepZ Z β₁ s₁ s' β'
 br:BR G (D::(C::(cellsFrom (C+1) scope.names []).map (·.2))++F.B) β' O' s'.heap
 list:ListAt s'.heap (D::(C::(cellsFrom (C+1) scope.names []).map (·.2))++F.B) β' D acc
 ns:∃ m,s'.heap.Ns C m
 stor:∀ a∈C::(cellsFrom (C+1) scope.names []).map (·.2),∃ o,s'.heap.get? a=some o∧∀ vs n,o.data=.seq vs n→o.cls≠.type "tuple"
 notBox:∀ a∈D::(C::(cellsFrom (C+1) scope.names []).map (·.2))++F.B,a∉β'
 new:∀ a∈D::C::(cellsFrom (C+1) scope.names []).map (·.2),s₁.heap.get? a=none
 notCell:D∉(cellsFrom (C+1) scope.names []).map (·.2)
 plain:Plain s'.heap D
inductive CInv(G:Gl)(F':Fm)(src:Src)(Z β₁:List Addr)(s₁:Shared)(D:Addr)(ρc:Loc)(St:Nat→List Addr→List Addr→Heap→Prop)(go:List PyData→List PyData→za→Prop)(k:Nat)(s:Shared):Prop
 | mk (i:Nat) (β:List Addr) (O:za) (acc:List PyData) (hk:k=src.xs.length+1 - i) (hi:i≤src.xs.length) (step:Step Z β₁ s₁ s β) (sr:SR G F' β ρc O s.heap) (has:src.Has O) (st:St i F'.B β s.heap)
   (hl:ListAt s.heap F'.B β D acc) (hpl:Plain s.heap D) (hal:acc.length≤i) (hgo:go (src.xs.drop i) acc O)
inductive zlm(evX:za→R za V)(O₂:za):Bool→Option PyData→za→Prop
 | skip:zlm evX O₂ false none O₂
 | put (d:PyData) (O':za) (h:evX O₂=.ok (.d d) O'):zlm evX O₂ true (some d) O'
inductive TurnOk(tgt:CT)(evT:Loc→za→R za Bool)(evX:Loc→za→R za V)(ρ:Loc)(x:PyData)(O:za)(y:Option PyData)(O':za):Prop
 | mk (ρ':Loc) (b:Bool) (O₂:za) (hb:zp tgt (.d x) ρ=some ρ') (ht:evT ρ' O=.ok b O₂) (hp:zlm (evX ρ') O₂ b y O')
theorem zl9{r:R za V}{y:Option PyData}{O':za}(h:(r.bind fun v O=>(match v with | .d y=>R.ok (some y) O | _=>.stuck))=.ok y O'):∃ d,r=.ok (.d d) O'∧y=some d:=by
 cases r with
 | ok v O=>cases v <;> first | (cases h;done) | skip
           exact⟨_,by cases h;rfl,by cases h;rfl⟩
 | _=>cases h
theorem ziy{tgt:CT}{evT:Loc→za→R za Bool}{evX:Loc→za→R za V}{ρ:Loc}{x:PyData}{O:za}{y:Option PyData}{O':za}(h:xq tgt evT evX ρ x O=.ok y O'):TurnOk tgt evT evX ρ x O y O':=by
 unfold xq at h
 cases hb:zp tgt (.d x) ρ with
 | none=>rw[hb] at h;cases h
 | some ρ'=>
   rw[hb] at h
   dsimp only at h
   cases ht:evT ρ' O with
   | ok b O₂=>
     rw[ht] at h
     cases b with
     | false=>cases h;exact⟨ρ',false,_,hb,ht,.skip⟩
     | true=>obtain⟨d,e,rfl⟩:=zl9 h;exact⟨ρ',true,O₂,hb,ht,.put d O' e⟩
   | _=>rw[ht] at h;cases h
inductive GoOk(src:Src)(turn:PyData→za→R za (Option PyData))(x:PyData)(xs acc:List PyData)(O:za)(v:V)(O':za):Prop
 | mk (y:Option PyData) (O₂:za) (ht:turn x O=.ok y O₂) (hs:src.still O₂=true) (hg:yh src turn xs (acc++y.toList) O₂=.ok v O')
theorem zp3{src:Src}{turn:PyData→za→R za (Option PyData)}{x:PyData}{xs acc:List PyData}{O:za}{v:V}{O':za}(h:yh src turn (x::xs) acc O=.ok v O'):GoOk src turn x xs acc O v O':=by
 have h:(match turn x O with
  | .ok y O'=>if src.still O' then yh src turn xs (acc++y.toList) O' else .stuck
  | _=>.stuck)=R.ok v O':=h
 cases ht:turn x O with
 | ok y O₂=>
   rw[ht] at h
   dsimp only at h
   by_cases hs:src.still O₂=true
   ·rw[if_pos hs] at h;exact⟨y,O₂,ht,hs,h⟩
   ·rw[if_neg hs] at h;cases h
 | _=>rw[ht] at h;cases h
theorem w8{F':Fm}{D:Addr}{acc:List PyData}{s s':Shared}{β β':List Addr}{ρ:Loc}{O:za}(hDB:D∈F'.B)(hDW:D∉F'.W)(sr:SR G F' β ρ O s.heap)(st:Step F'.W β s s' β')(h:ListAt s.heap F'.B β D acc):ListAt s'.heap F'.B β' D acc:=by
 obtain⟨o,vs,n,e1,e2,e3,as,e4,e5⟩:=h
 obtain⟨q1,q2⟩:=zu sr.br sr.fm st e4 e5
 exact⟨o,vs,n,st.keptE e1 (sr.fm.notBox D hDB) hDW (fun es n q=>by rw[e3] at q;cases q),e2,e3,as,q1,q2⟩
theorem vm{F':Fm}{D:Addr}{acc:List PyData}{s s':Shared}{β β':List Addr}{ρ:Loc}{O:za}(hDB:D∈F'.B)(hDW:D∉F'.W)(sr:SR G F' β ρ O s.heap)(st:Step F'.W β s s' β')(p:Plain s.heap D)(h:ListAt s.heap F'.B β D acc):Plain s'.heap D:=by
 obtain⟨o,vs,n,e1,e2,e3,as,e4,e5⟩:=h
 exact p.at fun o e=>st.keptE e (sr.fm.notBox D hDB) hDW (fun es n q=>by rw[e1] at e;cases e;rw[e3] at q;cases q)
theorem zii{F':Fm}{D:Addr}{acc:List PyData}{s:Shared}{β:List Addr}{ρ:Loc}{O:za}{v:Value}{y:PyData}{Q:Value→Shared→Prop}{E:Value→Shared→Prop}(hDB:D∈F'.B)(sr:SR G F' β ρ O s.heap)(rv:VR G F'.B β s.heap v (.d y))(hl:ListAt s.heap F'.B β D acc)(hpl:Plain s.heap D)(hn:acc.length≤line)
 (k:∀ h',(∀ b o,b≠D→s.heap.get? b=some o→h'.get? b=some o)→(∃ o,h'.get? D=some o)→SR G F' β ρ O h'→(∀ v x,VR G F'.B β s.heap v (.d x)→VR G F'.B β h' v (.d x))→ListAt h' F'.B β D (acc++[y])→Plain h' D→Q .none { s with heap:=h' }) :
 wpAny (model G.prog G.w) A (call (.builtin "list.append") [.ref D,v]) Q E s:=by
 obtain⟨o,vs,n,e1,e2,e3,as,e4,e5⟩:=hl
 have hvl:=zd e4
 have hvs:vs.size≤sizeLine:=by
  rw[← Array.length_toList,hvl]
  exact Nat.le_trans hn (by decide)
 have hPL:s.heap.PlainList D vs:=by
  obtain⟨o₉,g1,g2,g3⟩:=hpl
  rw[e1] at g1;cases g1
  obtain⟨cl,di,da,sl⟩:=o
  simp only at e2 e3 g2 g3
  subst e2 e3 g2 g3
  exact⟨n,e1⟩
 refine wpAny_list_append_plain hPL (fun h' hl₆ hs₆=>?_) hvs
 obtain⟨n',f1⟩:=hl₆
 have hs':∀ b o,b≠D→s.heap.get? b=some o→h'.get? b=some o:=fun b o hb e=>(hs₆.2 b hb).trans e
 have tup:∀ o₂ vs₂ n₂,s.heap.get? D=some o₂→o₂.data=.seq vs₂ n₂→o₂.cls≠.type "tuple":=fun o₂ vs₂ n₂ e₂ _=>by rw [e1] at e₂;cases e₂;rw [e2];decide
 have vr:∀ v x,VR G F'.B β s.heap v (.d x)→VR G F'.B β h' v (.d x):=fun v x r=>r.but hs' hDB tup
 obtain⟨bs,r5,q5⟩:=vr _ _ rv
 have r4:ReadsAll h' vs.toList acc as:=xn (P:=fun a=>a≠D) (fun a o e p=>hs' a o p e) (fun a o vs n e hc hd=>fun e'=>by subst e';exact tup o vs n e hd hc) e4 fun a ha e'=>(e5 a ha).2 (e' ▸ hDB)
 refine k h' hs' ⟨_,f1⟩ (sr.but (n':=n') (vs':=vs) hs' hDB e1 e2 e3 f1 rfl) vr ⟨_,_,n',f1,rfl,rfl,as++(bs++[]),?_,fun a ha=>?_⟩ ⟨_,f1,rfl,rfl⟩
 ·rw[Array.toList_push]
  exact y5 r4 (.cons r5 .nil)
 ·rw[List.append_nil] at ha
  exact (List.mem_append.mp ha).elim (e5 a) (q5 a)
theorem zij{elt iter:Expr}{ifs:List Expr}{pos:Pos}{src:Src}{I D:Addr}{Z:List Addr}{St:Nat→List Addr→List Addr→Heap→Prop}{evT:Loc→za→R za Bool}{evX:Loc→za→R za V}{F':Fm}{cx':Cx}{own:Str→Bool}
 (g:GOk G gval gname) (hh:A.handled=none) (fit':Fits F' cx') (hown:∀ x,own x=true→F'.own x=true) (hc:chkT cx' own tgt t=true)
 (ht:∀ s β ρ O,SR G F' β ρ O s.heap→Does G F' A s β (y8 ifs F'.env) ((evT ρ O).lift ρ) BRel)
 (he:∀ s β ρ O,SR G F' β ρ O s.heap→Does G F' A s β (eval elt F'.env) ((evX ρ O).lift ρ) (VRel G F'))
 (W:Turns G A t I Z src St) {s₁ s:Shared} {β₁:List Addr} {ρ:Loc} {O₁:za} (hz0:∀ z∈Z,G.h₀.get? z=none) (hzF:∀ z∈Z,z∉F'.B) (hDn:s₁.heap.get? D=none) (hWn:∀ a∈F'.W,s₁.heap.get? a=none) (hDW:D∉F'.W) (hDB:D∈F'.B)
 (hlen:src.xs.length≤line) (step:Step Z β₁ s₁ s β₁) (sr:SR G F' β₁ (clr (ye tgt) ρ) O₁ s.heap) (has:src.Has O₁) (st:St 0 F'.B β₁ s.heap) (hlist:s.heap.PlainList D #[])
 {v:V} {O':za} (hgo:yh src (xq tgt evT evX ρ) src.xs [] O₁=.ok v O') {R:Result→Shared→Prop}
 (hR:∀ s' β' res,v=.d (.list res)→StepZ Z β₁ s₁ s' β'→SR G F' β' (clr (ye tgt) ρ) O' s'.heap→ListAt s'.heap F'.B β' D res→Plain s'.heap D→R (.ok .next) s') :
 codeAny (model G.prog G.w) A (.compLoop (.ListComp elt [⟨t,iter,ifs,0⟩] scope pos) 0 (.ref I) (.ref D) F'.env) R s:=by
 obtain⟨n,e1⟩:=hlist
 refine qd (CInv G F' src Z β₁ s₁ D (clr (ye tgt) ρ) St fun xs acc O=>yh src (xq tgt evT evX ρ) xs acc O=.ok v O') ?_ (src.xs.length+1) ⟨0,β₁,O₁,[],rfl,Nat.zero_le _,step,sr,has,st,⟨_,_,n,e1,rfl,rfl,[],.nil,fun _ h=>nomatch h⟩,⟨_,e1,rfl,rfl⟩,Nat.le_refl _,hgo⟩
 clear hgo st has sr step e1
 intro k s hI
 obtain⟨i,β,O,acc,rfl,hi,step,sr,has,st,hl,hpl,hal,hgo⟩:=hI
 have hitr:=W.itr _ _ _ _ st
 by_cases hlt:i < src.xs.length
 ·rw[List.drop_eq_getElem_cons hlt] at hgo
  have hx:src.xs[i]?=some src.xs[i]:=List.getElem?_eq_getElem hlt
  generalize src.xs[i]=x at hgo hx
  obtain⟨y,O₃,ht',hst,hgo⟩:=zp3 hgo
  obtain⟨ρ',b,O₂,hbt,het,hput⟩:=ziy ht'
  refine W.item i _ β O s x _ _ hx sr.br has st fun v s₂ kk=>?_
  refine kk _ _ fun s' kz rv st'=>?_
  have sr':=sr.keepZ hitr kz.kept g.clsRef hz0 hzF
  have step':Step Z β₁ s₁ s' β:=⟨kz.gens.trans step.gens,kz.os.trans step.os,step.pre,step.fresh,fun b o e=>by
   by_cases hb:b∈Z
   ·obtain⟨o',_,_,e',_⟩:=W.itr _ _ _ _ st' b hb;exact⟨o',e'⟩
   ·obtain⟨o',e'⟩:=step.alive b o e;exact⟨o',kz.kept b o' hb e'⟩,fun b o e hb hz=>let ⟨o',e',kn⟩:=step.kept b o e hb hz;⟨o',kz.kept b o' hz e',kn⟩⟩
  have hl':ListAt s'.heap F'.B β D acc:=BoxAt.keepZ (bx:=.lst acc) hitr kz.kept hl
  have hpl':Plain s'.heap D:=hpl.at fun o e=>kz.kept D o (fun h=>hzF D h hDB) e
  have da:=xu (A:=A) hh fit' hown tgt hc sr' rv
  unfold bindR at da
  dsimp only at da
  rw[zio,hbt] at da
  dsimp only at da
  refine da _ _ fun s₃ β₃ _ st₃ sr₃ _=>?_
  have step₃:=step'.thenW st₃ hWn
  have stZ₃:=W.over sr' hzF st' st₃
  have hl₃:=w8 hDB hDW sr' st₃ hl'
  have hpl₃:=vm hDB hDW sr' st₃ hpl' hl'
  have clear':∀ {s β O},SR G F' β ρ' O s→SR G F' β (clr (ye tgt) ρ) O s:=fun sr=>sr.fewer fun j v hv=>by
   have hj:j∉ye tgt:=fun hm=>dq _ _ _ _ hm hv
   rw[q7 _ _ _ hj] at hv
   rw[zek tgt _ ρ ρ' hbt j hj];exact hv
  have dt:=ht s₃ β₃ ρ' O sr₃
  rw[het] at dt
  refine dt _ _ fun s₄ β₄ b' st₄ sr₄ hb=>?_
  have hb:b'=b:=hb
  subst hb
  have step₄:=step₃.thenW st₄ hWn
  have stZ₄:=W.over sr₃ hzF stZ₃ st₄
  have hl₄:=w8 hDB hDW sr₃ st₄ hl₃
  have hpl₄:=vm hDB hDW sr₃ st₄ hpl₃ hl₃
  have hk:src.xs.length+1 - (i+1) < src.xs.length+1 - i:=by omega
  cases hput with
  | skip=>
    rw[if_neg (by decide)]
    rw[Option.toList_none,List.append_nil] at hgo
    exact⟨_,hk,i+1,β₄,_,acc,rfl,hlt,step₄,clear' sr₄,Src.has_of hst,stZ₄,hl₄,hpl₄,Nat.le_succ_of_le hal,hgo⟩
  | put y _ hex=>
    rw[if_pos rfl]
    have dx:=he s₄ β₄ ρ' O₂ sr₄
    rw[hex] at dx
    refine dx _ _ fun s₅ β₅ v₅ st₅ sr₅ rv₅=>?_
    have step₅:=step₄.thenW st₅ hWn
    have stZ₅:=W.over sr₄ hzF stZ₄ st₅
    refine zii hDB sr₅ rv₅ (w8 hDB hDW sr₄ st₅ hl₄) (vm hDB hDW sr₄ st₅ hpl₄ hl₄) (Nat.le_trans hal (Nat.le_trans (Nat.le_of_lt hlt) hlen)) fun h' hs' hD sr₆ vr₆ hl₆ hpl₆=>?_
    refine⟨_,hk,i+1,β₅,O₃,acc++[y],rfl,hlt,?_,clear' sr₆,Src.has_of hst,W.keep _ _ _ _ _ _ _ stZ₅ (fun z hz o e=>hs' z o (fun e'=>hzF z hz (e' ▸ hDB)) e) vr₆ (List.prefix_refl _),hl₆,hpl₆,by rw[List.length_append];exact Nat.succ_le_succ hal,hgo⟩
    exact⟨step₅.gens,step₅.os,step₅.pre,step₅.fresh,fun b o e=>by
     by_cases hb:b=D
     ·subst hb;exact hD
     ·obtain⟨o₂,e₂⟩:=step₅.alive b o e;exact⟨o₂,hs' b o₂ hb e₂⟩,fun b o e hb hz=>let ⟨o',e',kn⟩:=step₅.kept b o e hb hz;⟨o',hs' b o' (fun e₂=>by subst e₂;rw[hDn] at e;cases e) e',kn⟩⟩
 ·have hie:i=src.xs.length:=by omega
  rw[hie,List.drop_length] at hgo
  have hgo:Mine.R.ok (V.d (.list acc)) O=Mine.R.ok v O':=hgo
  cases hgo
  refine W.done i _ β _ s _ _ hie.symm sr.br has st fun s' kz=>?_
  exact hR s' β acc rfl (step.z kz) (sr.keepZ hitr kz.kept g.clsRef hz0 hzF) (BoxAt.keepZ (bx:=.lst _) hitr kz.kept hl) (hpl.at fun o e=>kz.kept D o (fun h=>hzF D h hDB) e)
theorem zf5{elt iter:Expr}{ifs:List Expr}{pos:Pos}{src:Src}{I C D:Addr}{Z:List Addr}{St:Nat→List Addr→List Addr→Heap→Prop}{evT:Loc→za→R za Bool}{evX:Loc→za→R za V}
 (g:GOk G gval gname) (hh:A.handled=none) (fit':Fits (zh cx F tgt t scope C D) (cx.inner tgt t scope)) (hc:chkT (cx.inner tgt t scope) (ownOf scope) tgt t=true)
 (ht:∀ s β ρ O,SR G (zh cx F tgt t scope C D) β ρ O s.heap→Does G (zh cx F tgt t scope C D) A s β (y8 ifs (zh cx F tgt t scope C D).env) ((evT ρ O).lift ρ) BRel)
 (he:∀ s β ρ O,SR G (zh cx F tgt t scope C D) β ρ O s.heap→Does G (zh cx F tgt t scope C D) A s β (eval elt (zh cx F tgt t scope C D).env) ((evX ρ O).lift ρ) (VRel G (zh cx F tgt t scope C D)))
 (W:Turns G A t I Z src St) {s₁ s:Shared} {β₁:List Addr} {ρ:Loc} {O₁:za} (hz1:∀ z∈Z,Itr s₁.heap z) (hz0:∀ z∈Z,G.h₀.get? z=none) (hzB:∀ z∈Z,z∉F.B)
 (hM:∀ a∈D::C::(cellsFrom (C+1) scope.names []).map (·.2),s₁.heap.get? a=none) (hDC:D≠C) (hDcell:∀ x,(x,D)∉cellsFrom (C+1) scope.names [])
 (hlen:src.xs.length≤line)
 (step:Step Z β₁ s₁ s β₁) (sr:SR G (zh cx F tgt t scope C D) β₁ (clr (ye tgt) ρ) O₁ s.heap) (has:src.Has O₁) (st:St 0 (zh cx F tgt t scope C D).B β₁ s.heap) (hlist:s.heap.PlainList D #[])
 {res:List PyData} {O':za}
 (hgo:yh src (xq tgt evT evX ρ) src.xs [] O₁=.ok (.d (.list res)) O') {R:Result→Shared→Prop}
 (hR:∀ s' β',CompEnd G F scope Z β₁ s₁ C D res O' s' β'→R (.ok .next) s') :
 codeAny (model G.prog G.w) A (.compLoop (.ListComp elt [⟨t,iter,ifs,0⟩] scope pos) 0 (.ref I) (.ref D) (zh cx F tgt t scope C D).env) R s:=by
 have hzF:∀ z∈Z,z∉(zh cx F tgt t scope C D).B:=fun z hz hm=>by
  rcases List.mem_append.mp hm with hm | hm
  ·obtain⟨o,_,_,e,_⟩:=hz1 z hz
   rw[hM z hm] at e;cases e
  ·exact hzB z hz hm
 have hDW:D∉(zh cx F tgt t scope C D).W:=fun hm=>by
  rcases List.mem_cons.mp hm with e | hm
  ·exact hDC e
  ·obtain⟨p,hp,e⟩:=List.mem_map.mp hm
   exact hDcell p.1 (by rw[← e];exact hp)
 refine zij g hh fit' (fun x h=>h) hc ht he W hz0 hzF (hM D List.mem_cons_self) (fun a ha=>hM a (List.mem_cons_of_mem _ ha)) hDW List.mem_cons_self hlen step sr has st hlist hgo fun s' β res' e sz sr' hl hpl=>?_
 cases e
 exact hR s' β ⟨sz,sr'.br,hl,sr'.fm.ns,fun a ha=>sr'.fm.stor a (List.mem_append_left _ (List.mem_cons_of_mem _ ha)),sr'.fm.notBox,hM,fun hm=>hDW (List.mem_cons_of_mem _ hm),hpl⟩
end
noncomputable def Fm.plus(F:Fm)(M:List Addr):Fm:={ F with B:=M++F.B }
section
variable{G:Gl}{F:Fm}{A:Around}{Z β β' N M:List Addr}{O O':za}{ρ:Loc}{s s':Shared}(hz:∀ z∈Z,Itr s.heap z)(hc:∀ c,∃ C,G.cls c=.ref C)(sz:StepZ Z β s s' β')
include hz sz
theorem zcc{as:List Addr}(al:∀ a∈as,∃ o,s.heap.get? a=some o)(q:∀ a∈as,a∉β∧a∉N):∀ a∈as,a∉β'∧a∉N:=fun a ha=>by
 refine⟨fun hb=>?_,(q a ha).2⟩
 rcases sz.fresh a hb with h | h
 ·exact (q a ha).1 h
 ·obtain⟨o,e⟩:=al a ha;rw[e] at h;cases h
theorem p8(br:BR G N β O s.heap){v:Value}{x:PyData}{as:List Addr}(r:Reads s.heap v x as)(q:∀ a∈as,a∉β∧a∉N):Reads s'.heap v x as∧∀ a∈as,a∉β'∧a∉N:=by
 refine⟨qn (P:=fun a=>a∉β∧a∉Z) (fun a o e p=>sz.kept a o p.2 e p.1) (fun a o vs n e hcl hd=>⟨fun hb=>?_,notZ hz e fun fs h=>by rw[hd] at h;cases h⟩) r fun a ha=>⟨(q a ha).1,let ⟨o,e,hd⟩:=w5 r a ha;notZ hz e hd⟩,zcc hz sz (y6 r) q⟩
 obtain⟨o',e',h'⟩:=br.alive a hb
 rw[e] at e';cases e'
 rw[hcl] at h'
 rcases h' with h' | h' <;> exact absurd h' (by decide)
theorem ItsR.stepZ(br:BR G N β O s.heap){vs:List Value}{its:List It}(r:ItsR N β s.heap vs its):ItsR N β' s'.heap vs its:=by
 induction r with
 | nil=>exact .nil
 | b h1 _ ih=>exact .b (x0 sz.pre h1) ih
 | x h1 h2 _ ih=>obtain⟨r',q'⟩:=p8 hz sz br h1 h2;exact .x r' q' ih
include hc in
theorem VR.stepZ(br:BR G N β O s.heap){v:Value}{x:V}(r:VR G N β s.heap v x):VR G N β' s'.heap v x:=by
 have nb:∀ {a:Addr} {o:Obj},s.heap.get? a=some o→a∉β→a∉β':=fun e h hb=>by
  rcases sz.fresh _ hb with h' | h'
  ·exact h h'
  ·rw[e] at h';cases h'
 cases x with
 | d x=>obtain⟨as,r,q⟩:=r;obtain⟨r',q'⟩:=p8 hz sz br r q;exact⟨as,r',q'⟩
 | box n=>obtain⟨a,h1,h2⟩:=r;exact⟨a,x0 sz.pre h1,h2⟩
 | tm its=>
   obtain⟨a,o,vs,k,rfl,h1,h2,h3,h4⟩:=r
   refine⟨a,o,vs,k,rfl,sz.keptE (notZ hz h1 fun fs h=>by rw[h3] at h;cases h) h1 (fun hb=>?_) (fun es n q=>by rw[h3] at q;cases q),h2,h3,ItsR.stepZ hz sz br h4⟩
   obtain⟨o',e',h'⟩:=br.alive a hb
   rw[h1] at e';cases e'
   rw[h2] at h'
   rcases h' with h' | h' <;> exact absurd h' (by decide)
include hc in
theorem SR.outerZ(sr:SR G F β ρ O s.heap)(hzB:∀ z∈Z,z∉F.B)(hM:∀ a∈M,s.heap.get? a=none)(br:BR G (M++F.B) β' O' s'.heap)(nb:∀ a∈M++F.B,a∉β')
 (hst:∀ a∈M,∃ o,s'.heap.get? a=some o∧∀ vs n,o.data=.seq vs n→o.cls≠.type "tuple"):SR G (F.plus M) β' ρ O' s'.heap:=by
 have hB:∀ a∈F.B,∀ o,s.heap.get? a=some o→∃ o',s'.heap.get? a=some o'∧Kin o o':=fun a ha o e=>sz.kept a o (fun h=>hzB a h ha) e (sr.fm.notBox a ha)
 have hL:F.env.locals∈F.B:=sr.fm.sub _ sr.fm.nsW
 have hns:∀ m,s.heap.Ns F.env.locals m→s'.heap.Ns F.env.locals m:=fun m hm=>Kin.ns hm (hB _ hL)
 refine⟨br,⟨sr.fm.kind,sr.fm.globals,sr.fm.builtins,sr.fm.once,?_,sr.fm.nsW,?_,sr.fm.apart,fun a ha=>List.mem_append_right _ (sr.fm.sub a ha),?_,nb,fun a ha=>?_,fun a ha=>List.mem_append_right _ (sr.fm.frB a ha),fun a ha=>let ⟨m,hm⟩:=sr.fm.frs a ha;⟨m,Kin.ns hm (hB a (sr.fm.frB a ha))⟩,fun m e=>⟨hns m (sr.fm.pin m e).1,(sr.fm.pin m e).2⟩⟩,fun i x v h1 h2=>?_⟩
 ·obtain⟨m,hm⟩:=sr.fm.ns;exact⟨m,hns m hm⟩
 ·intro x hx
  obtain⟨c,v,h3,h4,h6,h7⟩:=sr.fm.cell x hx
  exact⟨c,v,h3,Kin.cell h4 (hB c h6),List.mem_append_right _ h6,h7⟩
 ·have:=zdg (F:=F) (fr:=[]) sr.br hM ⟨sr.fm.new.1,sr.fm.new.2.1⟩
  exact⟨this.1,this.2.1,sr.fm.new.2.2⟩
 ·rcases List.mem_append.mp ha with ha | ha
  ·exact hst a ha
  ·obtain⟨o,h1,h2⟩:=sr.fm.stor a ha
   obtain⟨o',e',kn⟩:=hB a ha o h1
   exact⟨o',e',fun vs n hv=>by rw[kn.cls];exact h2 vs n (kn.data.symm.trans hv)⟩
 ·obtain⟨val,g,r⟩:=sr.get i x v h1 h2
  refine⟨val,?_,(r.grow hM).stepZ hz hc sz (sr.br.grow hM)⟩
  rcases g with ⟨g1,m,g2,g3⟩ | ⟨g1,c,g2,g3⟩
  ·exact .inl ⟨g1,m,hns m g2,g3⟩
  ·obtain⟨c',v',h3,h4,h6,h7⟩:=sr.fm.cell x g1
   rw[g2] at h3;cases h3
   exact .inr ⟨g1,c,g2,Kin.cell g3 (hB c h6)⟩
end
section
variable{G:Gl}{F:Fm}{A:Around}{β β₁ N M:List Addr}{O:za}{ρ:Loc}{h h' h₁:Heap}
theorem ItsR.less{N':List Addr}(hs:∀ a∈N,a∈N'){vs:List Value}{its:List It}(r:ItsR N' β h vs its):ItsR N β h vs its:=by
 induction r with
 | nil=>exact .nil
 | b h1 _ ih=>exact .b h1 ih
 | x h1 h2 _ ih=>exact .x h1 (fun a ha=>⟨(h2 a ha).1,fun hn=>(h2 a ha).2 (hs a hn)⟩) ih
theorem VR.less{N':List Addr}(hs:∀ a∈N,a∈N'){v:Value}{x:V}(r:VR G N' β h v x):VR G N β h v x:=by
 cases x with
 | d x=>obtain⟨as,r,q⟩:=r;exact⟨as,r,fun a ha=>⟨(q a ha).1,fun hn=>(q a ha).2 (hs a hn)⟩⟩
 | box n=>exact r
 | tm its=>obtain⟨a,o,vs,k,e,h1,h2,h3,h4⟩:=r;exact⟨a,o,vs,k,e,h1,h2,h3,h4.less hs⟩
theorem SR.drop{C:Addr}(fm:FmOk G F β₁ h₁)(sr:SR G (F.plus M) β ρ O h)(hC:C∈M)(hCB:C∉F.B)(hs:∀ b o,b≠C→h.get? b=some o→h'.get? b=some o):SR G F β ρ O h':=by
 have hCM:C∈(F.plus M).B:=List.mem_append_left _ hC
 have ht:∀ o vs n,h.get? C=some o→o.data=.seq vs n→o.cls≠.type "tuple":=fun o vs n e hd=>by
  obtain⟨o',e',q⟩:=sr.fm.stor C hCM
  rw[e] at e';cases e'
  exact q vs n hd
 have sub:∀ a∈F.B,a∈(F.plus M).B:=fun a ha=>List.mem_append_right _ ha
 have hL:F.env.locals∈F.B:=fm.sub _ fm.nsW
 have hB:∀ a∈F.B,∀ o,h.get? a=some o→h'.get? a=some o:=fun a ha o e=>hs a o (fun e'=>hCB (e' ▸ ha)) e
 have hns:∀ m,h.Ns F.env.locals m→h'.Ns F.env.locals m:=fun m ⟨o,es,ep,h1,r⟩=>⟨o,es,ep,hB _ hL o h1,r⟩
 refine⟨(sr.br.but hs hCM (sr.fm.notBox C hCM) (sr.fm.newB hCM fun e=>hCB (e ▸ fm.new.2.1)) ht).less sub,⟨sr.fm.kind,sr.fm.globals,sr.fm.builtins,sr.fm.once,?_,sr.fm.nsW,?_,sr.fm.apart,fm.sub,fm.new,fun a ha=>sr.fm.notBox a (sub a ha),fun a ha=>?_,fm.frB,fun a ha=>?_,fun m e=>⟨hns m (sr.fm.pin m e).1,(sr.fm.pin m e).2⟩⟩,fun i x v h1 h2=>?_⟩
 ·obtain⟨m,hm⟩:=sr.fm.ns;exact⟨m,hns m hm⟩
 ·intro x hx
  obtain⟨c,v,h3,⟨o,h4,h5⟩,_,h7⟩:=sr.fm.cell x hx
  obtain⟨c',_,q1,_,q2,q3⟩:=fm.cell x hx
  have:F.env.cells.lookup x=some c:=h3
  rw[this] at q1;cases q1
  exact⟨c,v,h3,⟨o,hB c q2 o h4,h5⟩,q2,q3⟩
 ·obtain⟨o,h1,h2⟩:=sr.fm.stor a (sub a ha)
  exact⟨o,hB a ha o h1,h2⟩
 ·obtain⟨m,o,es,ep,h1,h2⟩:=sr.fm.frs a ha
  exact⟨m,o,es,ep,hB a (fm.frB a ha) o h1,h2⟩
 ·obtain⟨val,g,r⟩:=sr.get i x v h1 h2
  refine⟨val,?_,(r.but hs hCM ht).less sub⟩
  rcases g with ⟨g1,m,g2,g3⟩ | ⟨g1,c,g2,o,g3,g4⟩
  ·exact .inl ⟨g1,m,hns m g2,g3⟩
  ·obtain⟨c',_,q1,_,q2,q3⟩:=fm.cell x g1
   have g2':F.env.cells.lookup x=some c:=g2
   rw[g2'] at q1;cases q1
   exact .inr ⟨g1,c,g2,o,hB c q2 o g3,g4⟩
end
section
variable{G:Gl}{F:Fm}{A:Around}{cx:Cx}{tgt:CT}{t:Expr}{scope:Scope}{gval:Nat→Option PyData}{gname:Nat→Option Str}
theorem zbf{elt iter:Expr}{ifs:List Expr}{pos:Pos}{src:Src}{I:Addr}{Z:List Addr}{St:Nat→List Addr→List Addr→Heap→Prop}{evT:Loc→za→R za Bool}{evX:Loc→za→R za V}{E:Value→Shared→Prop}
 (g:GOk G gval gname) (hh:A.handled=none) (fit:Fits F cx) (hsc:y9 scope cx.sc=true) (honce:xf (cx.inner tgt t scope).names=true) (hc:chkT (cx.inner tgt t scope) (ownOf scope) tgt t=true)
 (ht:∀ C D s β ρ O,SR G (zh cx F tgt t scope C D) β ρ O s.heap→Does G (zh cx F tgt t scope C D) A s β (y8 ifs (zh cx F tgt t scope C D).env) ((evT ρ O).lift ρ) BRel)
 (he:∀ C D s β ρ O,SR G (zh cx F tgt t scope C D) β ρ O s.heap→Does G (zh cx F tgt t scope C D) A s β (eval elt (zh cx F tgt t scope C D).env) ((evX ρ O).lift ρ) (VRel G (zh cx F tgt t scope C D)))
 (W:Turns G A t I Z src St) {s₁:Shared} {β₁:List Addr} {ρ:Loc} {O₁:za} (sr₁:SR G F β₁ ρ O₁ s₁.heap) (hz0:∀ z∈Z,G.h₀.get? z=none) (hzB:∀ z∈Z,z∉F.B)
 (hlen:src.xs.length≤line) (has:src.Has O₁) (st:St 0 F.B β₁ s₁.heap) {res:List PyData} {O':za} (hgo:yh src (xq tgt evT evX ρ) src.xs [] O₁=.ok (.d (.list res)) O') {RR:Value→Addr→Result→Shared→Prop}
 (hR:∀ C D s' β',CompEnd G F scope Z β₁ s₁ C D res O' s' β'→RR (.ref D) C (.ok .next) s') :
 wpAny (model G.prog G.w) A (newList []) (fun acc s₃=>wpAny (model G.prog G.w) A (newFunctionEnv scope F.env.globals (jg F.env scope.names []) [] F.env.qual none .none (some F.env)) (fun cenv s₄=>
  codeAny (model G.prog G.w) A (.compStart (.ListComp elt [⟨t,iter,ifs,0⟩] scope pos) 0 (.ref I) acc { cenv with scope:=relabel scope F.env }) (RR acc cenv.locals) s₄) E s₃) E s₁:=by
 refine wpAny_newObj_type ?_
 refine zed fun s₄ ka hns ok=>?_
 have kp:=KeepsAll.push s₁ { cls:=.type "list",data:=.seq ([]:List Value).toArray } s₁.toks
 have ka1:KeepsAll s₁ s₄:=kp.trans ka
 generalize hD:s₁.heap.objs.size=D at *
 have hCe:(s₁.heap.push { cls:=.type "list",data:=.seq ([]:List Value).toArray }).objs.size=D+1:=by rw [Heap.size_push,hD]
 dsimp only at hns ok ⊢
 rw[hCe] at hns ok ⊢
 have hlo:∀ a,D≤a→s₁.heap.get? a=none:=fun a ha=>Heap.get?_none_of_le (by rw[hD];exact ha)
 have hDo:s₄.heap.get? D=some { cls:=.type "list",data:=.seq ([]:List Value).toArray }:=ka.kept _ _ (by rw [← hD];exact Heap.get?_push_size _ rfl)
 have hM:∀ a∈D::(D+1)::(cellsFrom (D+1+1) scope.names []).map (·.2),s₁.heap.get? a=none:=fun a ha=>by
  rcases List.mem_cons.mp ha with rfl | ha
  ·exact hlo _ (Nat.le_refl _)
  ·rcases List.mem_cons.mp ha with rfl | ha
   ·exact hlo _ (Nat.le_succ _)
   ·obtain⟨p,hp,rfl⟩:=List.mem_map.mp ha
    exact hlo _ (by have:=(ok.empty p.1 p.2 hp).2;omega)
 have sr₄:=zi5 (C:=D+1) (D:=D) (tgt:=tgt) (t:=t) fit sr₁ hsc honce ka1.kept hns ok (fun a ha=>hlo a (Nat.le_of_succ_le ha)) (hlo _ (Nat.le_refl _)) hDo rfl
 have fit':=g7 (tgt:=tgt) (t:=t) (scope:=scope) fit sr₁.fm.kind hsc (D+1) D
 have hz1:=W.itr _ _ _ _ st
 have st₄:St 0 (zh cx F tgt t scope (D+1) D).B β₁ s₄.heap:=W.keep 0 F.B _ β₁ β₁ s₁.heap s₄.heap st (fun z hz o e=>ka1.kept z o e) (fun v x r=>(r.grow hM).keepAll ka1.kept) (List.prefix_refl _)
 have loop:codeAny (model G.prog G.w) A (.compLoop (.ListComp elt [⟨t,iter,ifs,0⟩] scope pos) 0 (.ref I) (.ref D) (zh cx F tgt t scope (D+1) D).env) (RR (.ref D) (D+1)) s₄:=
  zf5 g hh fit' hc (ht _ _) (he _ _) W hz1 hz0 hzB hM (Nat.ne_of_lt (Nat.lt_succ_self D)) (fun x hm=>by have:=(ok.empty x D hm).2;omega) hlen (ka1.step _ _) sr₄ has st₄ ⟨_,hDo⟩ hgo (hR _ _)
 exact codeAny_compStart_list loop (W.self 0 _ _ _ _ _ st₄ loop)
end
theorem BR.addBox{G:Gl}{N β:List Addr}{O:za}{h:Heap}{D:Addr}{xs:List PyData}(b:BR G (D::N) β O h)(l:ListAt h (D::N) β D xs)(hb:D∉β)(h0:G.h₀.get? D=none)(hpl:Plain h D):BR G N (β++[D]) (O++[.lst xs]) h:=by
 have ap:∀ {as:List Addr},(∀ a∈as,a∉β∧a∉D::N)→∀ a∈as,a∉β++[D]∧a∉N:=fun q a ha=>by
  obtain⟨q1,q2⟩:=q a ha
  refine⟨fun hm=>?_,fun hm=>q2 (List.mem_cons_of_mem _ hm)⟩
  rcases List.mem_append.mp hm with hm | hm
  ·exact q1 hm
  ·rw[List.mem_singleton.mp hm] at q2;exact q2 List.mem_cons_self
 refine⟨b.keep,by simp[b.len],?_,fun a ha=>?_,fun i a bx h1 h2=>?_,fun a ha=>(List.mem_append.mp ha).elim (b.plain a) fun h=>by rw[List.mem_singleton.mp h];exact hpl⟩
 ·rw[List.nodup_append]
  exact⟨b.nodup,by simp,fun a ha c hc=>by rw[List.mem_singleton.mp hc];exact fun e=>hb (e ▸ ha)⟩
 ·rcases List.mem_append.mp ha with h | h
  ·exact b.new a h
  ·rw[List.mem_singleton.mp h];exact h0
 ·rcases Nat.lt_or_ge i β.length with hi | hi
  ·rw[List.getElem?_append_left hi] at h1
   rw[List.getElem?_append_left (by rw[← b.len];exact hi)] at h2
   have hx:=b.at_ i a bx h1 h2
   cases bx with
   | lst ys=>obtain⟨o,vs,n,e1,e2,e3,as,e4,e5⟩:=hx;exact⟨o,vs,n,e1,e2,e3,as,e4,ap e5⟩
   | dct kvs=>
     obtain⟨o,es,n,e1,e2,e3,e4,e5⟩:=hx
     refine⟨o,es,n,e1,e2,e3,e4,fun i e kv he hkv=>?_⟩
     obtain⟨hq,as,bs,r1,r2,q⟩:=e5 i e kv he hkv
     exact⟨hq,as,bs,r1,r2,ap q⟩
  ·rw[List.getElem?_append_right hi] at h1
   rw[List.getElem?_append_right (by rw[← b.len];exact hi)] at h2
   have hi0:i - β.length=0:=by
    rcases Nat.eq_zero_or_pos (i - β.length) with h | h
    ·exact h
    ·rw[List.getElem?_eq_none (show [D].length≤i - β.length from h)] at h1;cases h1
   rw[hi0] at h1
   rw[← b.len,hi0] at h2
   cases h1;cases h2
   obtain⟨o,vs,n,e1,e2,e3,as,e4,e5⟩:=l
   exact⟨o,vs,n,e1,e2,e3,as,e4,ap e5⟩
section
variable{G:Gl}{F:Fm}{A:Around}{cx:Cx}{tgt:CT}{t:Expr}{scope:Scope}{gval:Nat→Option PyData}{gname:Nat→Option Str}
variable{Z β₁ β':List Addr}{s₁ s':Shared}{C D:Addr}{res:List PyData}{O₁ O':za}{ρ:Loc}
noncomputable abbrev y0(scope:Scope)(C:Addr):List Addr:=C::(cellsFrom (C+1) scope.names []).map (·.2)
theorem CompEnd.sr(e:CompEnd G F scope Z β₁ s₁ C D res O' s' β')(sr₁:SR G F β₁ ρ O₁ s₁.heap)(hz:∀ z∈Z,Itr s₁.heap z)(hzB:∀ z∈Z,z∉F.B)(hc:∀ c,∃ C,G.cls c=.ref C)(hDM:D∉y0 scope C) :
 SR G (F.plus (y0 scope C)) β' ρ O' s'.heap∧VR G (F.plus (y0 scope C)).B β' s'.heap (.ref D) (.d (.list res)):=by
 refine⟨SR.outerZ hz hc e.step sr₁ hzB (fun a ha=>e.new a (List.mem_cons_of_mem _ ha)) (e.br.less fun a ha=>List.mem_cons_of_mem _ ha) (fun a ha=>e.notBox a (List.mem_cons_of_mem _ ha)) e.stor,?_⟩
 obtain⟨o,vs,n,e1,e2,e3,as,e4,e5⟩:=e.list
 refine xd e1 e2 e3 e4 (fun a ha=>⟨(e5 a ha).1,fun hm=>(e5 a ha).2 (List.mem_cons_of_mem _ hm)⟩) ⟨e.notBox D List.mem_cons_self,fun hm=>?_⟩
 rcases List.mem_append.mp hm with hm | hm
 ·exact hDM hm
 ·obtain⟨o',q,_⟩:=sr₁.fm.stor D hm
  rw[e.new D List.mem_cons_self] at q;cases q
theorem CompEnd.srB(e:CompEnd G F scope Z β₁ s₁ C D res O' s' β')(sr₁:SR G F β₁ ρ O₁ s₁.heap)(hz:∀ z∈Z,Itr s₁.heap z)(hzB:∀ z∈Z,z∉F.B)(hc:∀ c,∃ C,G.cls c=.ref C)(hDM:D∉y0 scope C) :
 StepZ Z β₁ s₁ s' (β'++[D])∧SR G (F.plus (y0 scope C)) (β'++[D]) ρ (O'++[.lst res]) s'.heap∧VR G (F.plus (y0 scope C)).B (β'++[D]) s'.heap (.ref D) (.box O'.length):=by
 have hDn:=e.new D List.mem_cons_self
 have hDb:=e.notBox D List.mem_cons_self
 have sz:StepZ Z β₁ s₁ s' (β'++[D]):=⟨e.step.gens,e.step.os,e.step.pre.trans (List.prefix_append _ _),fun a ha=>by
  rcases List.mem_append.mp ha with h | h
  ·exact e.step.fresh a h
  ·rw[List.mem_singleton.mp h];exact .inr hDn,e.step.alive,e.step.kept⟩
 have h0:G.h₀.get? D=none:=by
  cases q:G.h₀.get? D with
  | none=>rfl
  | some o=>have:=sr₁.br.keep D o q;rw[hDn] at this;cases this
 have br:=e.br.addBox (N:=y0 scope C++F.B) e.list hDb h0 e.plain
 refine⟨sz,SR.outerZ hz hc sz sr₁ hzB (fun a ha=>e.new a (List.mem_cons_of_mem _ ha)) br (fun a ha hm=>?_) e.stor,⟨D,by rw[← e.br.len];simp,rfl⟩⟩
 rcases List.mem_append.mp hm with hm | hm
 ·exact e.notBox a (List.mem_cons_of_mem _ ha) hm
 ·rw[List.mem_singleton.mp hm] at ha
  rcases List.mem_append.mp ha with ha | ha
  ·exact hDM ha
  ·obtain⟨o',q,_⟩:=sr₁.fm.stor D ha
   rw[hDn] at q;cases q
theorem ub{sc:Scope}(hsc:y9 scope sc=true):∀ x∈scope.names,x.2=.local→scope.names.lookup x.1=some .local:=fun x hx h=>by
 obtain⟨_,k2,_⟩:=yq hsc
 obtain⟨n,k⟩:=x
 cases h
 exact (lookup_mem k2).mp hx
theorem zbi{β:List Addr}{h:Heap}{sc:Scope}(fit:Fits F cx)(fm:FmOk G F β h)(hsc:y9 scope cx.sc=true):∀ p∈scope.names,p.2=.free→(F.env.cells.lookup p.1).isSome=true:=fun p hp hf=>by
 obtain⟨n,k⟩:=p
 obtain⟨_,_,k3⟩:=yq hsc
 cases hf
 rcases k3 n _ hp with h | h | h | ⟨_,h⟩
 ·cases h
 ·cases h
 ·cases h
 ·obtain⟨c,v,q,_⟩:=fm.cell n ((fit.kind n).trans h)
  rw[q];rfl
inductive Fin2:(V→za→R za V)→Prop
 | plain:Fin2 fun v O=>.ok v O
 | box:Fin2 boxK
theorem kg{src:Src}{turn:PyData→za→R za (Option PyData)}:∀ (xs acc:List PyData) (O:za),(∃ ys O',yh src turn xs acc O=.ok (.d (.list ys)) O')∨yh src turn xs acc O=.stuck
 | [],acc,O=>.inl ⟨acc,O,rfl⟩
 | x::xs,acc,O=>by
   unfold yh
   split
   ·split
    ·exact kg xs _ _
    ·exact .inr rfl
   ·exact .inr rfl
set_option tactic.hygienic true in
theorem zqv{elt iter:Expr}{ifs:List Expr}{pos:Pos}{r:R za Src}{evT:Loc→za→R za Bool}{evX:Loc→za→R za V}{K:V→za→R za V}{s:Shared}{β:List Addr}{O:za}
 (g:GOk G gval gname) (hh:A.handled=none) (fit:Fits F cx) (hsc:y9 scope cx.sc=true) (honce:xf (cx.inner tgt t scope).names=true) (hc:chkT (cx.inner tgt t scope) (ownOf scope) tgt t=true) (hset:∀ l k p,iter≠.Set l k p)
 (ht:∀ C D s β ρ O,SR G (zh cx F tgt t scope C D) β ρ O s.heap→Does G (zh cx F tgt t scope C D) A s β (y8 ifs (zh cx F tgt t scope C D).env) ((evT ρ O).lift ρ) BRel)
 (he:∀ C D s β ρ O,SR G (zh cx F tgt t scope C D) β ρ O s.heap→Does G (zh cx F tgt t scope C D) A s β (eval elt (zh cx F tgt t scope C D).env) ((evX ρ O).lift ρ) (VRel G (zh cx F tgt t scope C D)))
 (sr:SR G F β ρ O s.heap) (hI:DoesW G F s β (za6 G A iter F.env) (r.lift ρ) (IRel G F A t s)) (has:∀ src O',r=.ok src O'→src.Has O') (hK:Fin2 K) :
 Does G F A s β (eval (.ListComp elt [⟨t,iter,ifs,0⟩] scope pos) F.env) (((r.bind fun src O=>if src.xs.length≤line then yh src (xq tgt evT evX ρ) src.xs [] O else .stuck).bind K).lift ρ) (VRel G F):=by
 obtain⟨k1,k2,k3⟩:=yq hsc
 have hclos:=vd (zbi (sc:=cx.sc) fit sr.fm hsc)
 have hfold:∀ x,foldedSetIterable iter F.env x=pure x:=fun x=>k7 hset _ _
 cases r with
 | stuck=>trivial
 | ok src O₁=>
   show DoesW G F s β _ (R.lift ρ (R.bind (if src.xs.length≤line then yh src (xq tgt evT evX ρ) src.xs [] O₁ else .stuck) K)) _
   split
   ·rename_i hlen
    rcases kg (src:=src) (turn:=xq tgt evT evX ρ) src.xs [] O₁ with ⟨res,O',hgo⟩ | hgo
    ·rw[hgo]
     show DoesW G F s β _ (R.lift ρ (K (.d (.list res)) O')) _
     have run:∀ (Q:Value→Shared→Prop) (E:Value→Shared→Prop),(∀ s₁ β₁ Z C D s' β' h',Step F.W β s s₁ β₁→SR G F β₁ ρ O₁ s₁.heap→(∀ z∈Z,Itr s₁.heap z)→(∀ z∈Z,z∉F.B)→(∀ z∈Z,s.heap.get? z=none) →
      CompEnd G F scope Z β₁ s₁ C D res O' s' β'→D∉y0 scope C→Heap.SameBut C s'.heap h'→Q (.ref D) { s' with heap:=h' })→wpAny (model G.prog G.w) A (eval (.ListComp elt [⟨t,iter,ifs,0⟩] scope pos) F.env) Q E s:=by
      intro Q E k
      rw[eval_ListComp]
      refine wpAny_comprehension_free (use:=none) rfl hfold hclos k1 (ub hsc) (hI _ _ fun s₁ β₁ it st sr₁ ⟨I,Z,St,e,W,h0,hz⟩=>?_)
      subst e
      have hz0:∀ z∈Z,G.h₀.get? z=none:=fun z hz'=>by
       cases e:G.h₀.get? z with
       | none=>rfl
       | some o=>have:=sr.br.keep z o e;rw[hz z hz'] at this;cases this
      have hzB:∀ z∈Z,z∉F.B:=fun z hz' hB=>by
       obtain⟨o,e,_⟩:=sr.fm.stor z hB
       rw[hz z hz'] at e;cases e
      refine zbf (RR:=fun acc C=>compPost (model G.prog G.w) A E none Q acc C) g hh fit hsc honce hc ht he W sr₁ hz0 hzB hlen (has _ _ rfl) h0 hgo fun C D s' β' ce=>?_
      obtain⟨m,hm⟩:=ce.ns
      have hDM:D∉y0 scope C:=fun hm'=>by
       obtain⟨o,vs,n,q1,q2,q3,_⟩:=ce.list
       rcases List.mem_cons.mp hm' with e | hm'
       ·subst e
        obtain⟨o',es,ep,p1,p2,_⟩:=hm
        rw[q1] at p1;cases p1;rw[q3] at p2;cases p2
       ·exact ce.notCell hm'
      exact⟨m,hm,fun h' hs=>k s₁ β₁ Z C D s' β' h' st sr₁ (W.itr _ _ _ _ h0) hzB hz ce hDM hs⟩
     cases hK with
     | plain=>
       intro Q E k
       refine run Q E fun s₁ β₁ Z C D s' β' h' st sr₁ hz1 hzB hz ce hDM hs=>?_
       obtain⟨srp,vr⟩:=ce.sr sr₁ hz1 hzB g.clsRef hDM
       have hCM:C∈y0 scope C:=List.mem_cons_self
       have hCB:C∉F.B:=fun hB=>by
        obtain⟨o,e,_⟩:=sr₁.fm.stor C hB
        rw[ce.new C (List.mem_cons_of_mem _ List.mem_cons_self)] at e;cases e
       have hs':∀ b o,b≠C→s'.heap.get? b=some o→h'.get? b=some o:=fun b o hb e=>(hs.2 b hb).trans e
       have srF:=SR.drop sr₁.fm srp hCM hCB hs'
       have stF:Step F.W β s { s' with heap:=h' } β':=by
        have s1:=st.thenStepZ ce.step hz
        exact s1.thenZ (Z:=[C]) ⟨rfl,rfl,fun b o hb e=>hs' b o (fun e'=>hb (by simp [e'])) e⟩ fun z hz'=>by
         rw [List.mem_singleton.mp hz']
         cases e:s.heap.get? C with
         | none=>rfl
         | some o=>obtain⟨o',e'⟩:=st.alive _ _ e;rw[ce.new C (List.mem_cons_of_mem _ List.mem_cons_self)] at e';cases e'
       refine k _ β' _ stF srF ?_
       have hCMp:C∈(F.plus (y0 scope C)).B:=List.mem_append_left _ hCM
       exact (vr.but hs' hCMp (fun o vs n e hd=>by
        obtain⟨o',e',q⟩:=srp.fm.stor C hCMp
        rw[e] at e';cases e';exact q vs n hd)).less fun a ha=>List.mem_append_right _ ha
     | box=>
       intro Q E k
       refine run Q E fun s₁ β₁ Z C D s' β' h' st sr₁ hz1 hzB hz ce hDM hs=>?_
       obtain⟨sz,srp,vr⟩:=ce.srB sr₁ hz1 hzB g.clsRef hDM
       have hCM:C∈y0 scope C:=List.mem_cons_self
       have hCB:C∉F.B:=fun hB=>by
        obtain⟨o,e,_⟩:=sr₁.fm.stor C hB
        rw[ce.new C (List.mem_cons_of_mem _ List.mem_cons_self)] at e;cases e
       have hs':∀ b o,b≠C→s'.heap.get? b=some o→h'.get? b=some o:=fun b o hb e=>(hs.2 b hb).trans e
       have srF:=SR.drop sr₁.fm srp hCM hCB hs'
       have stF:Step F.W β s { s' with heap:=h' } (β'++[D]):=by
        have s1:=st.thenStepZ sz hz
        exact s1.thenZ (Z:=[C]) ⟨rfl,rfl,fun b o hb e=>hs' b o (fun e'=>hb (by simp [e'])) e⟩ fun z hz'=>by
         rw [List.mem_singleton.mp hz']
         cases e:s.heap.get? C with
         | none=>rfl
         | some o=>obtain⟨o',e'⟩:=st.alive _ _ e;rw[ce.new C (List.mem_cons_of_mem _ List.mem_cons_self)] at e';cases e'
       exact k _ _ _ stF srF vr
    ·rw[hgo];trivial
   ·trivial
end
theorem zej{M:Model}{A:Around}{E:Value→Shared→Prop}{s:Shared}{op:BoolOp}{x y:Expr}{r:List Expr}{pos:Pos}{env:Env}{Q:Value→Shared→Prop}
 (h:wpAny M A (eval x env) (fun v s₁=>wpAny M A (truthy v) (fun t s₂=>if t=(op == .Or) then Q v s₂ else wpAny M A (boolOp pos op (evalEach (y::r) env)) Q E s₂) E s₁) E s) :
 wpAny M A (eval (.BoolOp op (x::y::r) pos) env) Q E s:=by
 show wpAny M A (do
  let v ← eval x env
  standAt pos
  let t ← holding [v] (truthy v)
  match op,t with
  | .And,false | .Or,true=>pure v
  | _,_=>boolOp pos op (evalEach (y::r) env)) Q E s
 refine wpAny_bind (wpAny_mono h (fun v s₁ h₁=>wpAny_bind (wpAny_standAt (wpAny_bind (wpAny_holding (wpAny_mono h₁ (fun t s₂ h₂=>?_) fun _ _ x=>x))))) fun _ _ x=>x)
 cases op <;> cases t
 ·rw[if_pos (by decide)] at h₂;exact wpAny_pure h₂
 ·rw[if_neg (by decide)] at h₂;exact h₂
 ·rw[if_neg (by decide)] at h₂;exact h₂
 ·rw[if_pos (by decide)] at h₂;exact wpAny_pure h₂
section
variable{G:Gl}{F:Fm}{A:Around}{s:Shared}{β:List Addr}{ρ:Loc}{O:za}
theorem zn9{x y:Expr}{r:List Expr}{p:Pos}{ra:R za V}{rb:za→R za V}(h1:Does G F A s β (eval x F.env) (ra.lift ρ) (VRel G F))
 (h2:∀ s' β' O',SR G F β' ρ O' s'.heap→Does G F A s' β' (boolOp p .And (evalEach (y::r) F.env)) ((rb O').lift ρ) (VRel G F)) :
 Does G F A s β (eval (.BoolOp .And (x::y::r) p) F.env) ((ra.bind fun v O=>(opt (truth v) O).bind (andK rb)).lift ρ) (VRel G F):=by
 refine DoesW.seqE (T₂:=fun v Q E s'=>wpAny (model G.prog G.w) A (truthy v) (fun t s₂=>if t=(BoolOp.And == .Or) then Q v s₂ else wpAny (model G.prog G.w) A (boolOp p .And (evalEach (y::r) F.env)) Q E s₂) E s') (fun Q E h=>zej h) h1 fun s' β' v d O' e st sr rv=>?_
 refine DoesW.seqE (T₂:=fun t Q E s₂=>if t=(BoolOp.And == .Or) then Q v s₂ else wpAny (model G.prog G.w) A (boolOp p .And (evalEach (y::r) F.env)) Q E s₂) (fun Q E h=>h) (jf sr rv) fun s₂ β₂ b b' O₂ e₂ st₂ sr₂ hb=>?_
 have hb:b=b':=hb
 subst hb
 have hd:truth d=some b:=by cases h:truth d with
  | none=>rw[h] at e₂;cases e₂
  | some c=>rw[h] at e₂;cases e₂;rfl
 have:=v7 rv hd
 subst this
 cases b with
 | true=>exact (h2 s₂ β₂ O₂ sr₂).weaken (fun Q E h=>by show if _ then _ else _;rw[if_neg (by decide)];exact h) fun _ _ _ _ h=>h
 | false=>exact d_ok sr₂ VR.bool fun Q E h=>by show if _ then _ else _;rw[if_pos (by decide)];exact h
theorem zs0{op:Cop}{o:CmpOp}{x y:Expr}{p:Pos}{ra:R za V}{rb:za→R za V}{k:Nat}(ro:Room A k)(ho:xz op o=true)(hs:∀ l k p,y≠.Set l k p)
 (h1:Does G F A s β (eval x F.env) (ra.lift ρ) (VRel G F)) (h2:∀ s' β' O',SR G F β' ρ O' s'.heap→Does G F A s' β' (eval y F.env) ((rb O').lift ρ) (VRel G F)) :
 Does G F A s β (eval (.Compare x [o] [y] p) F.env) ((ra.bind fun v O=>(rb O).bind fun u O=>cmpV op v u O).lift ρ) (VRel G F):=by
 refine DoesW.seqE (T₂:=fun a Q E s₁=>wpAny (model G.prog G.w) A (eval y F.env) (fun b s₂=>wpAny (model G.prog G.w) A (compareOp o a b) Q E s₂) E s₁) (fun Q E h=>wpAny_Compare1 h (xj hs o)) h1 fun s' β' v d O' e st sr rv=>?_
 refine DoesW.seqE (T₁:=tr G A (eval y F.env)) (T₂:=fun b=>tr G A (compareOp o v b)) (fun Q E h=>h) (h2 s' β' O' sr) fun s₂ β₂ u d₂ O₂ e₂ st₂ sr₂ ru=>?_
 exact pf ro ho sr₂ (rv.step sr.br sr.fm st₂) ru
theorem q8{M:Model}{E:Value→Shared→Prop}{x y z:Expr}{o1 o2:CmpOp}{pos:Pos}{env:Env}{Q:Value→Shared→Prop}
 (h:wpAny M A (eval x env) (fun a s₁=>wpAny M A (eval y env) (fun b s₂=>wpAny M A (compareOp o1 a b) (fun c s₃=>wpAny M A (truthy c) (fun t s₄=>if t=true then wpAny M A (eval z env) (fun d s₅=>wpAny M A (compareOp o2 b d) Q E s₅) E s₄ else Q c s₄) E s₃) E s₂) E s₁) E s)
 (hy:∀ l k p,y≠.Set l k p) (hz:∀ l k p,z≠.Set l k p):wpAny M A (eval (.Compare x [o1,o2] [y,z] pos) env) Q E s:=by
 show wpAny M A (do compareChain pos (← eval x env) [o1,o2] (markedEach [o1,o2] [y,z] (evalEach [y,z] env))) Q E s
 have hm:markedEach [o1,o2] [y,z] (evalEach [y,z] env)=[eval y env,eval z env]:=by
  show [eval y env,markedBehindIn o2 z (eval z env)]=_
  rw[markedBehindIn_of_false (xj hz o2)]
 rw[hm]
 refine wpAny_bind (wpAny_mono h (fun a s₁ h₁=>?_) fun _ _ x=>x)
 show wpAny M A (do
  let rv ← holding [a] (eval y env)
  standAt pos
  let c ← holding [a,rv] (compareOp o1 a rv)
  release [a,rv] [c]
  if ← holding [c,rv] (truthy c) then compareChain pos rv [o2] [eval z env] else pure c) Q E s₁
 refine wpAny_bind (wpAny_holding (wpAny_mono h₁ (fun b s₂ h₂=>wpAny_bind (wpAny_standAt (wpAny_bind (wpAny_holding (wpAny_mono h₂ (fun c s₃ h₃=>?_) fun _ _ x=>x))))) fun _ _ x=>x))
 refine wpAny_bind (wpAny_release (wpAny_bind (wpAny_holding (wpAny_mono h₃ (fun t s₄ h₄=>?_) fun _ _ x=>x))))
 cases t with
 | false=>rw[if_neg (by decide)] at h₄;exact wpAny_pure h₄
 | true=>
   rw[if_pos rfl] at h₄
   show wpAny M A (do
    let rv ← holding [b] (eval z env)
    standAt pos
    operate [b,rv] (compareOp o2 b rv)) Q E s₄
   exact wpAny_bind (wpAny_holding (wpAny_mono h₄ (fun d s₅ h₅=>wpAny_bind (wpAny_standAt (wpAny_operating h₅))) fun _ _ x=>x))
end
noncomputable def tv(r:R za V):R za Bool:=r.bind fun v O=>opt (truth v) O
section
variable{G:Gl}{F:Fm}{A:Around}{s:Shared}{β:List Addr}{ρ:Loc}{O:za}
theorem znk{p q:Cop}{o1 o2:CmpOp}{x y z:Expr}{ps:Pos}{ra:R za V}{rb rc:za→R za V}{k:Nat}(ro:Room A k)(h1o:xz p o1=true)(h2o:xz q o2=true)
 (hy:∀ l k p,y≠.Set l k p) (hz:∀ l k p,z≠.Set l k p)
 (h1:Does G F A s β (eval x F.env) (ra.lift ρ) (VRel G F)) (h2:∀ s' β' O',SR G F β' ρ O' s'.heap→Does G F A s' β' (eval y F.env) ((rb O').lift ρ) (VRel G F))
 (h3:∀ s' β' O',SR G F β' ρ O' s'.heap→Does G F A s' β' (eval z F.env) ((rc O').lift ρ) (VRel G F)) :
 Does G F A s β (eval (.Compare x [o1,o2] [y,z] ps) F.env) ((ra.bind fun v O=>(rb O).bind fun u O=>(cmpV p v u O).bind fun t O=>(opt (truth t) O).bind (andK fun O=>(rc O).bind fun y O=>cmpV q u y O)).lift ρ) (VRel G F):=by
 refine DoesW.seqE (T₂:=fun a Q E s₁=>wpAny (model G.prog G.w) A (eval y F.env) (fun b s₂=>wpAny (model G.prog G.w) A (compareOp o1 a b) (fun c s₃=>wpAny (model G.prog G.w) A (truthy c) (fun t s₄=>if t=true then wpAny (model G.prog G.w) A (eval z F.env) (fun d s₅=>wpAny (model G.prog G.w) A (compareOp o2 b d) Q E s₅) E s₄ else Q c s₄) E s₃) E s₂) E s₁)
  (fun Q E h=>q8 h hy hz) h1 fun s' β' v d O' e st sr rv=>?_
 refine DoesW.seqE (T₁:=tr G A (eval y F.env)) (T₂:=fun b Q E s₂=>wpAny (model G.prog G.w) A (compareOp o1 v b) (fun c s₃=>wpAny (model G.prog G.w) A (truthy c) (fun t s₄=>if t=true then wpAny (model G.prog G.w) A (eval z F.env) (fun d s₅=>wpAny (model G.prog G.w) A (compareOp o2 b d) Q E s₅) E s₄ else Q c s₄) E s₃) E s₂) (fun Q E h=>h) (h2 s' β' O' sr) fun s₂ β₂ u d₂ O₂ e₂ st₂ sr₂ ru=>?_
 refine DoesW.seqE (T₁:=tr G A (compareOp o1 v u)) (T₂:=fun c Q E s₃=>wpAny (model G.prog G.w) A (truthy c) (fun t s₄=>if t=true then wpAny (model G.prog G.w) A (eval z F.env) (fun d s₅=>wpAny (model G.prog G.w) A (compareOp o2 u d) Q E s₅) E s₄ else Q c s₄) E s₃) (fun Q E h=>h) (pf ro h1o sr₂ (rv.step sr.br sr.fm st₂) ru) fun s₃ β₃ c d₃ O₃ e₃ st₃ sr₃ rc'=>?_
 refine DoesW.seqE (T₁:=tr G A (truthy c)) (T₂:=fun t Q E s₄=>if t=true then wpAny (model G.prog G.w) A (eval z F.env) (fun d s₅=>wpAny (model G.prog G.w) A (compareOp o2 u d) Q E s₅) E s₄ else Q c s₄) (fun Q E h=>h) (jf sr₃ rc') fun s₄ β₄ b b' O₄ e₄ st₄ sr₄ hb=>?_
 have hb:b=b':=hb
 subst hb
 have hd:truth d₃=some b:=by cases h:truth d₃ with
  | none=>rw[h] at e₄;cases e₄
  | some c=>rw[h] at e₄;cases e₄;rfl
 have:=v7 rc' hd
 subst this
 have ru':=(ru.step sr₂.br sr₂.fm (st₃.trans st₄))
 cases b with
 | false=>exact d_ok sr₄ VR.bool fun Q E h=>by show if _ then _ else _;rw[if_neg (by decide)];exact h
 | true=>
   refine DoesW.seqE (T₁:=tr G A (eval z F.env)) (T₂:=fun d=>tr G A (compareOp o2 u d)) (fun Q E h=>by show if _ then _ else _;rw[if_pos rfl];exact h) (h3 s₄ β₄ O₄ sr₄) fun s₅ β₅ w d₅ O₅ e₅ st₅ sr₅ rw'=>?_
   exact pf ro h2o sr₅ (ru'.step sr₄.br sr₄.fm st₅) rw'
theorem zsx{x y z:Expr}{p:Pos}{rt:R za V}{ra rb:za→R za V}(h1:Does G F A s β (isTrue x F.env (eval x F.env)) ((tv rt).lift ρ) BRel)
 (h2:∀ s' β' O',SR G F β' ρ O' s'.heap→Does G F A s' β' (eval y F.env) ((ra O').lift ρ) (VRel G F))
 (h3:∀ s' β' O',SR G F β' ρ O' s'.heap→Does G F A s' β' (eval z F.env) ((rb O').lift ρ) (VRel G F)) :
 Does G F A s β (eval (.IfExp x y z p) F.env) ((rt.bind fun v O=>(opt (truth v) O).bind (iteK ra rb)).lift ρ) (VRel G F):=by
 have e:(rt.bind fun v O=>(opt (truth v) O).bind (iteK ra rb))=(tv rt).bind (iteK ra rb):=by cases rt <;> rfl
 rw[e]
 refine DoesW.seqE (T₂:=fun b Q E s₁=>if b=true then wpAny (model G.prog G.w) A (eval y F.env) Q E s₁ else wpAny (model G.prog G.w) A (eval z F.env) Q E s₁) (fun Q E h=>?_) h1 fun s' β' b b' O' e st sr rb'=>?_
 ·show wpAny (model G.prog G.w) A (do if ← isTrue x F.env (eval x F.env) then eval y F.env else eval z F.env) Q E s
  refine wpAny_bind (wpAny_mono h (fun b s₁ h₁=>?_) fun _ _ x=>x)
  cases b with
  | true=>rw[if_pos rfl] at h₁;exact h₁
  | false=>rw[if_neg (by decide)] at h₁;exact h₁
 have hb:b=b':=rb'
 subst hb
 cases b with
 | true=>exact (h2 s' β' O' sr).weaken (fun Q E h=>by show if _ then _ else _;rw[if_pos rfl];exact h) fun _ _ _ _ h=>h
 | false=>exact (h3 s' β' O' sr).weaken (fun Q E h=>by show if _ then _ else _;rw[if_neg (by decide)];exact h) fun _ _ _ _ h=>h
theorem zly{e:Expr}{r:R za V}(he:isTrue e F.env (eval e F.env)=(do let v ← eval e F.env;standAt e.pos;holding [v] (truthy v)))
 (h1:Does G F A s β (eval e F.env) (r.lift ρ) (VRel G F)):Does G F A s β (isTrue e F.env (eval e F.env)) ((tv r).lift ρ) BRel:=
 DoesW.seqE (T₂:=fun v=>tr G A (truthy v)) (fun Q E h=>wpAny_isTrue_value h he) h1 fun s' β' v d O' e st sr rv=>jf sr rv
theorem zrc{x:Expr}{p:Pos}{r:R za V}(h1:Does G F A s β (isTrue x F.env (eval x F.env)) ((tv r).lift ρ) BRel) :
 Does G F A s β (isTrue (.UnaryOp .Not x p) F.env (eval (.UnaryOp .Not x p) F.env)) ((tv (r.bind fun v O=>opt ((truth v).map fun b=>V.d (.bool !b)) O)).lift ρ) BRel:=by
 have e:tv (r.bind fun v O=>opt ((truth v).map fun b=>V.d (.bool !b)) O)=(tv r).bind fun b O=>.ok (!b) O:=by
  cases r with
  | ok v O=>show R.bind (opt ((truth v).map fun b=>V.d (.bool !b)) O) _=R.bind (opt (truth v) O) _;cases truth v <;> rfl
  | stuck=>rfl
 rw[e]
 refine DoesW.seqE (T₂:=fun b Q E s₁=>Q (!b) s₁) (fun Q E h=>wpAny_isTrue_Not h) h1 fun s' β' b b' O' e st sr hb=>?_
 have hb:b=b':=hb
 subst hb
 exact Does.leaf sr fun Q E q=>q _ _ (KeepsAll.refl s') rfl
theorem zas{op:BoolOp}(sr:SR G F β ρ O s.heap):Does G F A s β (allTrue op [] F.env) ((R.ok (op == .And) O).lift ρ) BRel:=
 Does.leaf sr fun Q E q=>wpAny_pure (q _ _ (KeepsAll.refl s) rfl)
theorem wz{x:Expr}{rest:List Expr}{ra:R za V}{rb:za→R za Bool}(h1:Does G F A s β (isTrue x F.env (eval x F.env)) ((tv ra).lift ρ) BRel)
 (h2:∀ s' β' O',SR G F β' ρ O' s'.heap→Does G F A s' β' (allTrue .And rest F.env) ((rb O').lift ρ) BRel) :
 Does G F A s β (allTrue .And (x::rest) F.env) (((tv ra).bind fun t O=>(match t with | true=>rb O | false=>.ok false O)).lift ρ) BRel:=by
 refine DoesW.seqE (T₂:=fun t Q E s₁=>if t=true then wpAny (model G.prog G.w) A (allTrue .And rest F.env) Q E s₁ else Q false s₁) (fun Q E h=>?_) h1 fun s' β' b b' O' e st sr hb=>?_
 ·show wpAny (model G.prog G.w) A (do
   match BoolOp.And,← isTrue x F.env (eval x F.env) with
   | .And,false=>pure false
   | .Or,true=>pure true
   | _,_=>allTrue .And rest F.env) Q E s
  refine wpAny_bind (wpAny_mono h (fun t s₁ h₁=>?_) fun _ _ x=>x)
  cases t with
  | true=>rw[if_pos rfl] at h₁;exact h₁
  | false=>rw[if_neg (by decide)] at h₁;exact wpAny_pure h₁
 have hb:b=b':=hb
 subst hb
 cases b with
 | true=>exact (h2 s' β' O' sr).weaken (fun Q E h=>by show if _ then _ else _;rw[if_pos rfl];exact h) fun _ _ _ _ h=>h
 | false=>exact Does.leaf sr fun Q E q=>by show if _ then _ else _;rw[if_neg (by decide)];exact q _ _ (KeepsAll.refl s') rfl
theorem h8{x:Expr}{rest:List Expr}{ra:R za V}{rb:za→R za Bool}(h1:Does G F A s β (isTrue x F.env (eval x F.env)) ((tv ra).lift ρ) BRel)
 (h2:∀ s' β' O',SR G F β' ρ O' s'.heap→Does G F A s' β' (allTrue .Or rest F.env) ((rb O').lift ρ) BRel) :
 Does G F A s β (allTrue .Or (x::rest) F.env) (((tv ra).bind fun t O=>(match t with | true=>.ok true O | false=>rb O)).lift ρ) BRel:=by
 refine DoesW.seqE (T₂:=fun t Q E s₁=>if t=true then Q true s₁ else wpAny (model G.prog G.w) A (allTrue .Or rest F.env) Q E s₁) (fun Q E h=>?_) h1 fun s' β' b b' O' e st sr hb=>?_
 ·show wpAny (model G.prog G.w) A (do
   match BoolOp.Or,← isTrue x F.env (eval x F.env) with
   | .And,false=>pure false
   | .Or,true=>pure true
   | _,_=>allTrue .Or rest F.env) Q E s
  refine wpAny_bind (wpAny_mono h (fun t s₁ h₁=>?_) fun _ _ x=>x)
  cases t with
  | true=>rw[if_pos rfl] at h₁;exact wpAny_pure h₁
  | false=>rw[if_neg (by decide)] at h₁;exact h₁
 have hb:b=b':=hb
 subst hb
 cases b with
 | false=>exact (h2 s' β' O' sr).weaken (fun Q E h=>by show if _ then _ else _;rw[if_neg (by decide)];exact h) fun _ _ _ _ h=>h
 | true=>exact Does.leaf sr fun Q E q=>by show if _ then _ else _;rw[if_pos rfl];exact q _ _ (KeepsAll.refl s') rfl
theorem zre{op:Cop}{o:CmpOp}{x y:Expr}{p:Pos}{ra:R za V}{rb:za→R za V}{k:Nat}(ro:Room A k)(ho:xz op o=true)(hs:∀ l k p,y≠.Set l k p)
 (h1:Does G F A s β (eval x F.env) (ra.lift ρ) (VRel G F)) (h2:∀ s' β' O',SR G F β' ρ O' s'.heap→Does G F A s' β' (eval y F.env) ((rb O').lift ρ) (VRel G F)) :
 Does G F A s β (isTrue (.Compare x [o] [y] p) F.env (eval (.Compare x [o] [y] p) F.env)) ((tv (ra.bind fun v O=>(rb O).bind fun u O=>cmpV op v u O)).lift ρ) BRel:=by
 have e:tv (ra.bind fun v O=>(rb O).bind fun u O=>cmpV op v u O)=ra.bind fun v O=>(rb O).bind fun u O=>(cmpV op v u O).bind fun c O=>opt (truth c) O:=by
  cases ra with
  | ok v O=>show R.bind (R.bind (rb O) _) _=R.bind (rb O) _;cases rb O <;> rfl
  | stuck=>rfl
 rw[e]
 refine DoesW.seqE (T₂:=fun a Q E s₁=>wpAny (model G.prog G.w) A (eval y F.env) (fun b s₂=>wpAny (model G.prog G.w) A (compareOp o a b) (fun c s₃=>wpAny (model G.prog G.w) A (truthy c) Q E s₃) E s₂) E s₁) (fun Q E h=>wpAny_isTrue_Compare1 h (xj hs o)) h1 fun s' β' v d O' e st sr rv=>?_
 refine DoesW.seqE (T₁:=tr G A (eval y F.env)) (T₂:=fun b Q E s₂=>wpAny (model G.prog G.w) A (compareOp o v b) (fun c s₃=>wpAny (model G.prog G.w) A (truthy c) Q E s₃) E s₂) (fun Q E h=>h) (h2 s' β' O' sr) fun s₂ β₂ u d₂ O₂ e₂ st₂ sr₂ ru=>?_
 refine DoesW.seqE (T₁:=tr G A (compareOp o v u)) (T₂:=fun c=>tr G A (truthy c)) (fun Q E h=>h) (pf ro ho sr₂ (rv.step sr.br sr.fm st₂) ru) fun s₃ β₃ c d₃ O₃ e₃ st₃ sr₃ rc=>?_
 exact jf sr₃ rc
end
section
variable{G:Gl}{F:Fm}{A:Around}{s:Shared}{β:List Addr}{ρ:Loc}{O:za}
theorem ww{M:Model}{E:Value→Shared→Prop}{x y z:Expr}{o1 o2:CmpOp}{pos:Pos}{env:Env}{whole:Sem Value}{Q:Bool→Shared→Prop}
 (h:wpAny M A (eval x env) (fun a s₁=>wpAny M A (eval y env) (fun b s₂=>wpAny M A (compareOp o1 a b) (fun c s₃=>wpAny M A (truthy c) (fun t s₄=>if t=true then wpAny M A (eval z env) (fun d s₅=>wpAny M A (compareOp o2 b d) (fun e s₆=>wpAny M A (truthy e) Q E s₆) E s₅) E s₄ else Q false s₄) E s₃) E s₂) E s₁) E s)
 (hy:∀ l k p,y≠.Set l k p) (hz:∀ l k p,z≠.Set l k p):wpAny M A (isTrue (.Compare x [o1,o2] [y,z] pos) env whole) Q E s:=by
 show wpAny M A (do testChain pos (← eval x env) [o1,o2] (markedEach [o1,o2] [y,z] (evalEach [y,z] env))) Q E s
 have hm:markedEach [o1,o2] [y,z] (evalEach [y,z] env)=[eval y env,eval z env]:=by
  show [eval y env,markedBehindIn o2 z (eval z env)]=_
  rw[markedBehindIn_of_false (xj hz o2)]
 rw[hm]
 refine wpAny_bind (wpAny_mono h (fun a s₁ h₁=>?_) fun _ _ x=>x)
 show wpAny M A (do
  let rv ← holding [a] (eval y env)
  standAt pos
  let c ← holding [a,rv] (compareOp o1 a rv)
  release [a,rv] [c]
  if ← holding [c,rv] (truthy c) then testChain pos rv [o2] [eval z env] else pure false) Q E s₁
 refine wpAny_bind (wpAny_holding (wpAny_mono h₁ (fun b s₂ h₂=>wpAny_bind (wpAny_standAt (wpAny_bind (wpAny_holding (wpAny_mono h₂ (fun c s₃ h₃=>?_) fun _ _ x=>x))))) fun _ _ x=>x))
 refine wpAny_bind (wpAny_release (wpAny_bind (wpAny_holding (wpAny_mono h₃ (fun t s₄ h₄=>?_) fun _ _ x=>x))))
 cases t with
 | false=>rw[if_neg (by decide)] at h₄;exact wpAny_pure h₄
 | true=>
   rw[if_pos rfl] at h₄
   show wpAny M A (do
    let rv ← holding [b] (eval z env)
    standAt pos
    let c ← operate [b,rv] (compareOp o2 b rv)
    holding [c] (truthy c)) Q E s₄
   exact wpAny_bind (wpAny_holding (wpAny_mono h₄ (fun d s₅ h₅=>wpAny_bind (wpAny_standAt (wpAny_bind (wpAny_operating (wpAny_mono h₅ (fun e s₆ h₆=>wpAny_holding h₆) fun _ _ x=>x))))) fun _ _ x=>x))
theorem zl1{p q:Cop}{o1 o2:CmpOp}{x y z:Expr}{ps:Pos}{ra:R za V}{rb rc:za→R za V}{k:Nat}(ro:Room A k)(h1o:xz p o1=true)(h2o:xz q o2=true)
 (hy:∀ l k p,y≠.Set l k p) (hz:∀ l k p,z≠.Set l k p)
 (h1:Does G F A s β (eval x F.env) (ra.lift ρ) (VRel G F)) (h2:∀ s' β' O',SR G F β' ρ O' s'.heap→Does G F A s' β' (eval y F.env) ((rb O').lift ρ) (VRel G F))
 (h3:∀ s' β' O',SR G F β' ρ O' s'.heap→Does G F A s' β' (eval z F.env) ((rc O').lift ρ) (VRel G F)) :
 Does G F A s β (isTrue (.Compare x [o1,o2] [y,z] ps) F.env (eval (.Compare x [o1,o2] [y,z] ps) F.env)) ((tv (ra.bind fun v O=>(rb O).bind fun u O=>(cmpV p v u O).bind fun t O=>(opt (truth t) O).bind (andK fun O=>(rc O).bind fun y O=>cmpV q u y O))).lift ρ) BRel:=by
 have e:tv (ra.bind fun v O=>(rb O).bind fun u O=>(cmpV p v u O).bind fun t O=>(opt (truth t) O).bind (andK fun O=>(rc O).bind fun y O=>cmpV q u y O))=ra.bind fun v O=>(rb O).bind fun u O=>(cmpV p v u O).bind fun t O=>(opt (truth t) O).bind fun z O=>(match z with
  | false=>R.ok false O
  | true=>(rc O).bind fun y O=>(cmpV q u y O).bind fun c O=>opt (truth c) O):=by
  cases ra with
  | ok v O=>
    show R.bind (R.bind (rb O) _) _=R.bind (rb O) _
    cases rb O with
    | ok u O=>
      show R.bind (R.bind (cmpV p v u O) _) _=R.bind (cmpV p v u O) _
      cases cmpV p v u O with
      | ok t O=>
        show R.bind (R.bind (opt (truth t) O) _) _=R.bind (opt (truth t) O) _
        cases truth t with
        | none=>rfl
        | some b=>cases b with
          | false=>rfl
          | true=>show R.bind (R.bind (rc O) _) _=R.bind (rc O) _;cases rc O <;> rfl
      | stuck=>rfl
    | stuck=>rfl
  | stuck=>rfl
 rw[e]
 refine DoesW.seqE (T₂:=fun a Q E s₁=>wpAny (model G.prog G.w) A (eval y F.env) (fun b s₂=>wpAny (model G.prog G.w) A (compareOp o1 a b) (fun c s₃=>wpAny (model G.prog G.w) A (truthy c) (fun t s₄=>if t=true then wpAny (model G.prog G.w) A (eval z F.env) (fun d s₅=>wpAny (model G.prog G.w) A (compareOp o2 b d) (fun e s₆=>wpAny (model G.prog G.w) A (truthy e) Q E s₆) E s₅) E s₄ else Q false s₄) E s₃) E s₂) E s₁)
  (fun Q E h=>ww h hy hz) h1 fun s' β' v d O' e st sr rv=>?_
 refine DoesW.seqE (T₁:=tr G A (eval y F.env)) (T₂:=fun b Q E s₂=>wpAny (model G.prog G.w) A (compareOp o1 v b) (fun c s₃=>wpAny (model G.prog G.w) A (truthy c) (fun t s₄=>if t=true then wpAny (model G.prog G.w) A (eval z F.env) (fun d s₅=>wpAny (model G.prog G.w) A (compareOp o2 b d) (fun e s₆=>wpAny (model G.prog G.w) A (truthy e) Q E s₆) E s₅) E s₄ else Q false s₄) E s₃) E s₂) (fun Q E h=>h) (h2 s' β' O' sr) fun s₂ β₂ u d₂ O₂ e₂ st₂ sr₂ ru=>?_
 refine DoesW.seqE (T₁:=tr G A (compareOp o1 v u)) (T₂:=fun c Q E s₃=>wpAny (model G.prog G.w) A (truthy c) (fun t s₄=>if t=true then wpAny (model G.prog G.w) A (eval z F.env) (fun d s₅=>wpAny (model G.prog G.w) A (compareOp o2 u d) (fun e s₆=>wpAny (model G.prog G.w) A (truthy e) Q E s₆) E s₅) E s₄ else Q false s₄) E s₃) (fun Q E h=>h) (pf ro h1o sr₂ (rv.step sr.br sr.fm st₂) ru) fun s₃ β₃ c d₃ O₃ e₃ st₃ sr₃ rc'=>?_
 refine DoesW.seqE (T₁:=tr G A (truthy c)) (T₂:=fun t Q E s₄=>if t=true then wpAny (model G.prog G.w) A (eval z F.env) (fun d s₅=>wpAny (model G.prog G.w) A (compareOp o2 u d) (fun e s₆=>wpAny (model G.prog G.w) A (truthy e) Q E s₆) E s₅) E s₄ else Q false s₄) (fun Q E h=>h) (jf sr₃ rc') fun s₄ β₄ b b' O₄ e₄ st₄ sr₄ hb=>?_
 have hb:b=b':=hb
 subst hb
 have ru':=(ru.step sr₂.br sr₂.fm (st₃.trans st₄))
 cases b with
 | false=>exact Does.leaf sr₄ fun Q E q=>by show if _ then _ else _;rw[if_neg (by decide)];exact q _ _ (KeepsAll.refl _) rfl
 | true=>
   refine DoesW.seqE (T₁:=tr G A (eval z F.env)) (T₂:=fun d Q E s₅=>wpAny (model G.prog G.w) A (compareOp o2 u d) (fun e s₆=>wpAny (model G.prog G.w) A (truthy e) Q E s₆) E s₅) (fun Q E h=>by show if _ then _ else _;rw[if_pos rfl];exact h) (h3 s₄ β₄ O₄ sr₄) fun s₅ β₅ w d₅ O₅ e₅ st₅ sr₅ rw'=>?_
   refine DoesW.seqE (T₁:=tr G A (compareOp o2 u w)) (T₂:=fun e=>tr G A (truthy e)) (fun Q E h=>h) (pf ro h2o sr₅ (ru'.step sr₄.br sr₄.fm st₅) rw') fun s₆ β₆ c' d₆ O₆ e₆ st₆ sr₆ rc''=>?_
   exact jf sr₆ rc''
end
section
variable{G:Gl}{F:Fm}{A:Around}{cx:Cx}{tgt:CT}{t:Expr}{scope:Scope}{gval:Nat→Option PyData}{gname:Nat→Option Str}{s:Shared}{β:List Addr}{ρ:Loc}{O:za}
theorem pw(env:Env):∀ (ifs:List Expr),(forIn ifs false fun c r=>if r=true then do let ok ← isTrue c env (eval c env);pure (ForInStep.yield ok) else pure (ForInStep.yield r):Sem Bool)=pure false
 | []=>by rw[List.forIn_nil]
 | c::rest=>by
   rw[List.forIn_cons]
   simp only[Bool.false_eq_true,if_false,pure_bind]
   exact pw env rest
theorem zd7(sr:SR G F β ρ O s.heap):Does G F A s β (y8 [] F.env) ((R.ok true O).lift ρ) BRel:=
 Does.leaf sr fun Q E q=>wpAny_pure (q _ _ (KeepsAll.refl s) rfl)
theorem zcj{x:Expr}{rest:List Expr}{ra:R za V}{rb:za→R za Bool}(h1:Does G F A s β (isTrue x F.env (eval x F.env)) ((tv ra).lift ρ) BRel)
 (h2:∀ s' β' O',SR G F β' ρ O' s'.heap→Does G F A s' β' (y8 rest F.env) ((rb O').lift ρ) BRel) :
 Does G F A s β (y8 (x::rest) F.env) (((tv ra).bind fun t O=>(match t with | true=>rb O | false=>.ok false O)).lift ρ) BRel:=by
 refine DoesW.seqE (T₂:=fun t Q E s₁=>if t=true then wpAny (model G.prog G.w) A (y8 rest F.env) Q E s₁ else Q false s₁) (fun Q E h=>?_) h1 fun s' β' b b' O' e st sr hb=>?_
 ·show wpAny (model G.prog G.w) A (y8 (x::rest) F.env) Q E s
  unfold y8
  rw[List.forIn_cons]
  simp only[if_true]
  refine wpAny_bind (wpAny_bind (wpAny_mono h (fun t s₁ h₁=>?_) fun _ _ x=>x))
  cases t with
  | true=>rw[if_pos rfl] at h₁;exact wpAny_pure h₁
  | false=>
    rw[if_neg (by decide)] at h₁
    refine wpAny_pure ?_
    show wpAny _ _ (forIn rest false _) Q E s₁
    rw[pw];exact wpAny_pure h₁
 have hb:b=b':=hb
 subst hb
 cases b with
 | true=>exact (h2 s' β' O' sr).weaken (fun Q E h=>by show if _ then _ else _;rw[if_pos rfl];exact h) fun _ _ _ _ h=>h
 | false=>exact Does.leaf sr fun Q E q=>by show if _ then _ else _;rw[if_neg (by decide)];exact q _ _ (KeepsAll.refl s') rfl
theorem Fits.plus(fit:Fits F cx)(M:List Addr):Fits (F.plus M) cx:=⟨fit.names,fit.kind,fit.sck⟩
set_option tactic.hygienic true in
theorem zih{elt iter:Expr}{ifs:List Expr}{pos spos px:Pos}{x:Str}{i:Nat}{own:Str→Bool}{r:R za Src}{evT:Loc→za→R za Bool}{evX:Loc→za→R za V}{K:V→za→R za V}
 (g:GOk G gval gname) (hh:A.handled=none) (fit:Fits F cx) (hown:∀ x,own x=true→F.own x=true) (hx:chkT cx own (.name i) (.Name x px)=true) (hsc:y9 scope cx.sc=true) (honce:xf (cx.inner tgt t scope).names=true) (hc:chkT (cx.inner tgt t scope) (ownOf scope) tgt t=true) (hset:∀ l k p,iter≠.Set l k p)
 (ht:∀ C D s β ρ O,SR G (zh cx F tgt t scope C D) β ρ O s.heap→Does G (zh cx F tgt t scope C D) A s β (y8 ifs (zh cx F tgt t scope C D).env) ((evT ρ O).lift ρ) BRel)
 (he:∀ C D s β ρ O,SR G (zh cx F tgt t scope C D) β ρ O s.heap→Does G (zh cx F tgt t scope C D) A s β (eval elt (zh cx F tgt t scope C D).env) ((evX ρ O).lift ρ) (VRel G (zh cx F tgt t scope C D)))
 (sr:SR G F β ρ O s.heap) (hI:DoesW G F s β (za6 G A iter F.env) (r.lift ρ) (IRel G F A t s)) (has:∀ src O',r=.ok src O'→src.Has O') (hK:Fin2 K)
 (hsw:swapsWith (.ListComp elt [⟨t,iter,ifs,0⟩] scope pos) (some (.Name x px)) spos.line F.env=pure true) :
 Does G F A s β (exec (.Assign [.Name x px] (.ListComp elt [⟨t,iter,ifs,0⟩] scope pos) spos) F.env) ((((r.bind fun src O=>if src.xs.length≤line then yh src (xq tgt evT evX ρ) src.xs [] O else .stuck).bind K).lift ρ).bind (asgR (.name i))) (yv G F):=by
 obtain⟨k1,k2,k3⟩:=yq hsc
 have hclos:=vd (zbi (sc:=cx.sc) fit sr.fm hsc)
 have hfold:∀ x,foldedSetIterable iter F.env x=pure x:=fun x=>k7 hset _ _
 have open_:∀ (Q:Flow→Shared→Prop) (E:Value→Shared→Prop),
  wpAny (model G.prog G.w) A (comprehension (.ListComp elt [⟨t,iter,ifs,0⟩] scope pos) scope F.env iter.pos (newList []) false (eval iter F.env) (some (assign (.Name x px) F.env))) (fun _ s'=>Q .next s') E s →
  wpAny (model G.prog G.w) A (exec (.Assign [.Name x px] (.ListComp elt [⟨t,iter,ifs,0⟩] scope pos) spos) F.env) Q E s:=fun Q E h=>by
  rw[exec_Assign_Name_used _ _ _ _ hsw]
  refine wpAny_bind (wpAny_standAt (wpAny_bind ?_))
  show wpAny _ A (do let _ ← comprehension (.ListComp elt [⟨t,iter,ifs,0⟩] scope pos) scope F.env _ (newList []) false (eval iter F.env) (some (assign (.Name x px) F.env))) _ _ s
  exact wpAny_bind (wpAny_mono h (fun _ s' hq=>wpAny_pure (wpAny_pure hq)) fun _ _ e=>e)
 cases r with
 | stuck=>trivial
 | ok src O₁=>
   show DoesW G F s β _ ((R.lift ρ (R.bind (if src.xs.length≤line then yh src (xq tgt evT evX ρ) src.xs [] O₁ else .stuck) K)).bind (asgR (.name i))) _
   split
   ·rename_i hlen
    rcases kg (src:=src) (turn:=xq tgt evT evX ρ) src.xs [] O₁ with ⟨res,O',hgo⟩ | hgo
    ·rw[hgo]
     show DoesW G F s β _ ((R.lift ρ (K (.d (.list res)) O')).bind (asgR (.name i))) _
     have run:∀ (Q:Flow→Shared→Prop) (E:Value→Shared→Prop),(∀ s₁ β₁ Z C D s' β',Step F.W β s s₁ β₁→SR G F β₁ ρ O₁ s₁.heap→(∀ z∈Z,Itr s₁.heap z)→(∀ z∈Z,z∉F.B)→(∀ z∈Z,s.heap.get? z=none) →
      CompEnd G F scope Z β₁ s₁ C D res O' s' β'→D∉y0 scope C→wpAny (model G.prog G.w) A (assign (.Name x px) F.env (.ref D)) (fun _ s''=>∃ m,s''.heap.Ns C m∧∀ h',Heap.SameBut C s''.heap h'→Q .next { s'' with heap:=h' }) E s') →
      wpAny (model G.prog G.w) A (exec (.Assign [.Name x px] (.ListComp elt [⟨t,iter,ifs,0⟩] scope pos) spos) F.env) Q E s:=by
      intro Q E k
      refine open_ Q E ?_
      refine wpAny_comprehension_free (use:=some _) rfl hfold hclos k1 (ub hsc) (hI _ _ fun s₁ β₁ it st sr₁ ⟨I,Z,St,e,W,h0,hz⟩=>?_)
      subst e
      have hz0:∀ z∈Z,G.h₀.get? z=none:=fun z hz'=>by
       cases e:G.h₀.get? z with
       | none=>rfl
       | some o=>have:=sr.br.keep z o e;rw[hz z hz'] at this;cases this
      have hzB:∀ z∈Z,z∉F.B:=fun z hz' hB=>by
       obtain⟨o,e,_⟩:=sr.fm.stor z hB
       rw[hz z hz'] at e;cases e
      refine zbf (RR:=fun acc C=>compPost (model G.prog G.w) A E (some (assign (.Name x px) F.env)) (fun _ s'=>Q .next s') acc C) g hh fit hsc honce hc ht he W sr₁ hz0 hzB hlen (has _ _ rfl) h0 hgo fun C D s' β' ce=>?_
      obtain⟨m,hm⟩:=ce.ns
      have hDM:D∉y0 scope C:=fun hm'=>by
       obtain⟨o,vs,n,q1,q2,q3,_⟩:=ce.list
       rcases List.mem_cons.mp hm' with e | hm'
       ·subst e
        obtain⟨o',es,ep,p1,p2,_⟩:=hm
        rw[q1] at p1;cases p1;rw[q3] at p2;cases p2
       ·exact ce.notCell hm'
      exact k s₁ β₁ Z C D s' β' st sr₁ (W.itr _ _ _ _ h0) hzB hz ce hDM
     have fin:∀ (Q:Flow→Shared→Prop) (E:Value→Shared→Prop) (s₁:Shared) (β₁ Z:List Addr) (C D:Addr) (s':Shared) (β' β₂:List Addr) (v:V) (O₂:za) (S:Loc×za),Step F.W β s s₁ β₁→SR G F β₁ ρ O₁ s₁.heap→(∀ z∈Z,s.heap.get? z=none) →
      CompEnd G F scope Z β₁ s₁ C D res O' s' β'→StepZ Z β₁ s₁ s' β₂→SR G (F.plus (y0 scope C)) β₂ ρ O₂ s'.heap→VR G (F.plus (y0 scope C)).B β₂ s'.heap (.ref D) v→asgR (.name i) v (ρ,O₂)=.ok .next S →
      (∀ s' β' a,Step F.W β s s' β'→SR G F β' S.1 S.2 s'.heap→yv G F β' s'.heap a .next→Q a s') →
      wpAny (model G.prog G.w) A (assign (.Name x px) F.env (.ref D)) (fun _ s''=>∃ m,s''.heap.Ns C m∧∀ h',Heap.SameBut C s''.heap h'→Q .next { s'' with heap:=h' }) E s':=by
      intro Q E s₁ β₁ Z C D s' β' β₂ v O₂ S st sr₁ hz ce sz srp vr hasg k
      have hCM:C∈y0 scope C:=List.mem_cons_self
      have hCn:=ce.new C (List.mem_cons_of_mem _ List.mem_cons_self)
      have hCB:C∉F.B:=fun hB=>by
       obtain⟨o,e,_⟩:=sr₁.fm.stor C hB
       rw[hCn] at e;cases e
      have hCMp:C∈(F.plus (y0 scope C)).B:=List.mem_append_left _ hCM
      have da:=xu (A:=A) hh (fit.plus (y0 scope C)) hown (.name i) hx srp vr
      unfold asgR at hasg
      unfold bindR at da
      dsimp only at hasg da
      cases hbt:zp (.name i) v ρ with
      | none=>rw[hbt] at hasg;cases hasg
      | some ρ'=>
        rw[hbt] at hasg da
        cases hasg
        refine da _ _ fun s₃ β₃ _ st₃ sr₃ _=>?_
        obtain⟨m,hm⟩:=ce.ns
        refine⟨m,Kin.ns hm fun o p1=>st₃.kept C o p1 (srp.fm.notBox C hCMp) fun hw=>hCB (sr₁.fm.sub C hw),fun h' hs=>?_⟩
        have hs':∀ b o,b≠C→s₃.heap.get? b=some o→h'.get? b=some o:=fun b o hb e=>(hs.2 b hb).trans e
        have srF:=SR.drop sr₁.fm sr₃ hCM hCB hs'
        refine k _ β₃ _ ?_ srF rfl
        have s1:Step F.W β s s₃ β₃:=(st.thenStepZ sz hz).trans st₃
        exact s1.thenZ (Z:=[C]) ⟨rfl,rfl,fun b o hb e=>hs' b o (fun e'=>hb (by simp [e'])) e⟩ fun z hz'=>by
         rw [List.mem_singleton.mp hz']
         cases e:s.heap.get? C with
         | none=>rfl
         | some o=>obtain⟨o',e'⟩:=st.alive _ _ e;rw[hCn] at e';cases e'
     cases hK with
     | plain=>
       show DoesW G F s β _ (asgR (.name i) (.d (.list res)) (ρ,O')) _
       cases hasg:asgR (.name i) (.d (.list res)) (ρ,O') with
       | stuck=>trivial
       | ok fl S=>
         have hfl:fl=.next:=by unfold asgR at hasg;split at hasg <;> cases hasg;rfl
         subst hfl
         intro Q E k
         refine run Q E fun s₁ β₁ Z C D s' β' st sr₁ hz1 hzB hz ce hDM=>?_
         obtain ⟨srp,vr⟩:=ce.sr sr₁ hz1 hzB g.clsRef hDM
         exact fin Q E s₁ β₁ Z C D s' β' β' _ O' S st sr₁ hz ce ce.step srp vr hasg k
     | box=>
       show DoesW G F s β _ (asgR (.name i) (.box O'.length) (ρ,O'++[.lst res])) _
       cases hasg:asgR (.name i) (.box O'.length) (ρ,O'++[.lst res]) with
       | stuck=>trivial
       | ok fl S=>
         have hfl:fl=.next:=by unfold asgR at hasg;split at hasg <;> cases hasg;rfl
         subst hfl
         intro Q E k
         refine run Q E fun s₁ β₁ Z C D s' β' st sr₁ hz1 hzB hz ce hDM=>?_
         obtain ⟨sz,srp,vr⟩:=ce.srB sr₁ hz1 hzB g.clsRef hDM
         exact fin Q E s₁ β₁ Z C D s' β' _ _ _ S st sr₁ hz ce sz srp vr hasg k
    ·rw[hgo];trivial
   ·trivial
end
section
variable{G:Gl}{F:Fm}{A:Around}{s:Shared}{β:List Addr}{ρ:Loc}{O:za}
theorem xe{s:Shared}{h':Heap}{tk:Nat}(hk:∀ b o,s.heap.get? b=some o→h'.get? b=some o):KeepsAll s { s with heap:=h',toks:=tk }:=⟨rfl,rfl,hk⟩
noncomputable def znu:Ty→String
 | .int=>"int"
 | .bool=>"bool"
 | .tuple=>"tuple"
 | .list=>"list"
 | .str=>"str"
theorem zol(t:Ty):(vf t,Value.type (znu t))∈bis:=by cases t <;> decide
theorem zjz{t:Ty}{v:Value}{d:V}{x:PyData}(sr:SR G F β ρ O s.heap)(rv:VR G F.B β s.heap v d)(hx:look O d=some x) :
 LeafD G F s β (tr G A (call (.builtin "isinstance") [v,.type (znu t)])) (V.d (.bool (isTy t x))) (FRel G F s):=by
 obtain⟨as,r⟩:=vv sr rv hx
 have kT:∀ (Q:Value→Shared→Prop) b,(∀ v' s',KeepsAll s s'→FRel G F s β s'.heap v' (V.d (.bool b))→Q v' s')→Q (.bool b) s∧Q (.bool b) { s with toks:=s.toks+1 }:=fun Q b k=>
  ⟨k _ _ (KeepsAll.refl s) ⟨VR.bool,fun _ h=>by cases h⟩,k _ _ (KeepsAll.toks s _) ⟨VR.bool,fun _ h=>by cases h⟩⟩
 refine LeafD.leaf sr fun Q E k=>?_
 obtain⟨k1,k2⟩:=kT Q _ k
 cases r with
 | none=>cases t <;> first | exact IsiPair.NoneType_int k2 | exact IsiPair.NoneType_bool k2 | exact IsiPair.NoneType_tuple k2 | exact IsiPair.NoneType_list k2 | exact IsiPair.NoneType_str k2
 | bool b=>cases t <;> first | exact IsiPair.bool_int k1 | exact IsiPair.bool_bool k1 | exact IsiPair.bool_tuple k2 | exact IsiPair.bool_list k2 | exact IsiPair.bool_str k2
 | int i u=>cases t <;> first | exact IsiPair.int_int k1 | exact IsiPair.int_bool k2 | exact IsiPair.int_tuple k2 | exact IsiPair.int_list k2 | exact IsiPair.int_str k2
 | str x u=>cases t <;> first | exact IsiPair.str_int k2 | exact IsiPair.str_bool k2 | exact IsiPair.str_tuple k2 | exact IsiPair.str_list k2 | exact IsiPair.str_str k1
 | list h1 h2 h3 h4=>cases t <;> first | exact IsiPair.list_int h1 h2 k2 | exact IsiPair.list_bool h1 h2 k2 | exact IsiPair.list_tuple h1 h2 k2 | exact IsiPair.list_list h1 h2 k1 | exact IsiPair.list_str h1 h2 k2
 | tuple h1 h2 h3 h4=>cases t <;> first | exact IsiPair.tuple_int h1 h2 k2 | exact IsiPair.tuple_bool h1 h2 k2 | exact IsiPair.tuple_tuple h1 h2 k1 | exact IsiPair.tuple_list h1 h2 k2 | exact IsiPair.tuple_str h1 h2 k2
 | dict h1 h2 h3 h4 h5=>cases t <;> first | exact IsiPair.dict_int h1 h2 k2 | exact IsiPair.dict_bool h1 h2 k2 | exact IsiPair.dict_tuple h1 h2 k2 | exact IsiPair.dict_list h1 h2 k2 | exact IsiPair.dict_str h1 h2 k2
theorem zfp{v:Value}{d:V}{xs:List PyData}(sr:SR G F β ρ O s.heap)(rv:VR G F.B β s.heap v d)(hx:look O d=some (.list xs))(hl:xs.length≤line) :
 LeafD G F s β (tr G A (call (.builtin "len") [v])) (V.d (.int xs.length)) (FRel G F s):=by
 obtain⟨a,rfl,o,vs,n,h1,h2,h3,as,h4,h5⟩:=yb sr rv hx
 have hsz:vs.size=xs.length:=by rw[← Array.length_toList,zd h4]
 refine LeafD.leaf sr fun Q E k=>Calls.call_len_list ⟨o,h1,h2,n,h3⟩ (by rw[hsz];have:line=1000000:=rfl;omega) ?_
 rw[hsz]
 exact k _ _ (KeepsAll.toks s _) ⟨VR.int,fun _ h=>by cases h⟩
theorem zdm{v:Value}{xs:List PyData}(sr:SR G F β ρ O s.heap)(rv:VR G F.B β s.heap v (.d (.tuple xs)))(hl:xs.length≤line) :
 LeafD G F s β (tr G A (call (.builtin "len") [v])) (V.d (.int xs.length)) (FRel G F s):=by
 obtain⟨a,o,vs,n,rfl,h1,h2,h3,as,h4,h5⟩:=rv.tuple_inv
 have hsz:vs.size=xs.length:=by rw[← Array.length_toList,zd h4]
 refine LeafD.leaf sr fun Q E k=>PyProof.Rows.len_tuple ⟨o,h1,h2,n,h3⟩ (by rw[hsz];have:line=1000000:=rfl;omega) ?_
 rw[hsz]
 exact k _ _ (KeepsAll.toks s _) ⟨VR.int,fun _ h=>by cases h⟩
theorem zbl{h:Heap}{vs:List Value}{xs:List PyData}{as:List Addr}(r:ReadsAll h vs xs as):∀ {bs:List Bool},ve xs=some bs→vs=bs.map Value.bool:=by
 refine ya (motive:=fun vs xs _=>∀ {bs:List Bool},ve xs=some bs→vs=bs.map Value.bool) (fun e=>by cases e;rfl) ?_ r
 intro v d as vs ds bs r _ ih is e
 cases d with
 | bool i=>
   obtain⟨bs,e1,rfl⟩:=Option.map_eq_some_iff.mp e
   cases r
   rw[ih e1];rfl
 | _=>cases e
theorem ints_get{h:Heap}{vs:List Value}{xs:List PyData}{as:List Addr}(r:ReadsAll h vs xs as):∀ {is:List Int},Mine.intsOf xs=some is→IntsAre vs is:=by
 refine ya (motive:=fun vs xs _=>∀ {is:List Int},Mine.intsOf xs=some is→IntsAre vs is) (fun e=>by cases e;exact .nil) ?_ r
 intro v d as vs ds bs r _ ih is e
 cases d with
 | int i=>
   obtain⟨bs,e1,rfl⟩:=Option.map_eq_some_iff.mp e
   cases r
   exact .cons _ _ (ih e1)
 | _=>cases e
theorem ints_length:∀ {xs:List PyData} {is:List Int},Mine.intsOf xs=some is→xs=is.map PyData.int
 | [],_,e=>by cases e;rfl
 | x::xs,is,e=>by
   cases x with
   | int i=>
     obtain⟨bs,e1,rfl⟩:=Option.map_eq_some_iff.mp e
     rw[ints_length e1];rfl
   | _=>cases e
theorem range_all(bs:List Bool):(List.range bs.length).all (fun i=>bs[i]?.getD false)=bs.all id:=by
 rw[Bool.eq_iff_iff,List.all_eq_true,List.all_eq_true]
 constructor
 ·intro h b hb
  obtain⟨i,hi,rfl⟩:=List.getElem_of_mem hb
  have:=h i (List.mem_range.mpr hi)
  rwa [List.getElem?_eq_getElem hi] at this
 ·intro h i hi
  have hi:=List.mem_range.mp hi
  rw[List.getElem?_eq_getElem hi]
  exact h _ (List.getElem_mem hi)
theorem range_any(bs:List Bool):(List.range bs.length).any (fun i=>bs[i]?.getD false)=bs.any id:=by
 rw[Bool.eq_iff_iff,List.any_eq_true,List.any_eq_true]
 constructor
 ·rintro⟨i,hi,h⟩
  have hi:=List.mem_range.mp hi
  rw[List.getElem?_eq_getElem hi] at h
  exact⟨_,List.getElem_mem hi,h⟩
 ·rintro⟨b,hb,h⟩
  obtain⟨i,hi,rfl⟩:=List.getElem_of_mem hb
  exact⟨i,List.mem_range.mpr hi,by rw[List.getElem?_eq_getElem hi];exact h⟩
theorem zft{s:Shared}{h':Heap}{tk:Nat}{o:Obj}(hk:∀ b o',b∉[s.heap.objs.size]→(s.heap.push o).get? b=some o'→h'.get? b=some o'):KeepsAll s { ({ s with heap:=s.heap.push o }:Shared) with heap:=h',toks:=tk }:=
 ⟨rfl,rfl,fun b o' e=>hk b o' (fun hm=>by rw[List.mem_singleton.mp hm,Heap.get?_none_of_le (Nat.le_refl _)] at e;cases e) (Heap.get?_push_of_some _ e)⟩
theorem zr3{v:Value}{d:V}{xs:List PyData}{bs:List Bool}(hh:A.handled=none)(sr:SR G F β ρ O s.heap)(rv:VR G F.B β s.heap v d)(hx:look O d=some (.list xs))(hb:ve xs=some bs) :
 LeafD G F s β (tr G A (call (.builtin "all") [v])) (V.d (.bool (bs.all id))) (FRel G F s):=by
 obtain⟨a,rfl,o,vs,n,h1,h2,h3,as,h4,h5⟩:=yb sr rv hx
 have hvs:=zbl h4 hb
 have hsz:vs.size=bs.length:=by rw[← Array.length_toList,hvs];simp
 refine LeafD.leaf sr fun Q E k=>call_all_walk (wpAny_pyIter_list ⟨o,h1,h2,n,h3⟩ ?_)
 refine⟨_,_,_,_,_,_,fun i=>bs[i]?.getD false,rfl,Walks.list (A:=A.in1) hh s.heap.objs.size a (Nat.ne_of_lt (Heap.lt_size h1)) vs,⟨⟨_,Heap.get?_push_size _ rfl,rfl,rfl⟩,⟨o,Heap.get?_push_of_some _ h1,h2,n,h3⟩⟩,?_,fun h' tk hk=>?_⟩
 ·intro i v s' Q E hv q
  rw[← Array.getElem?_toList,hvs,List.getElem?_map] at hv
  cases hi:bs[i]? with
  | none=>rw[hi] at hv;cases hv
  | some b=>rw[hi] at hv;cases hv;dsimp only at q;rw[hi] at q;exact wpAny_truthy_bool q
 ·rw[hsz,range_all]
  exact k _ _ (zft hk) ⟨VR.bool,fun _ h=>by cases h⟩
theorem zr2{v:Value}{d:V}{xs:List PyData}{bs:List Bool}(hh:A.handled=none)(sr:SR G F β ρ O s.heap)(rv:VR G F.B β s.heap v d)(hx:look O d=some (.list xs))(hb:ve xs=some bs) :
 LeafD G F s β (tr G A (call (.builtin "any") [v])) (V.d (.bool (bs.any id))) (FRel G F s):=by
 obtain⟨a,rfl,o,vs,n,h1,h2,h3,as,h4,h5⟩:=yb sr rv hx
 have hvs:=zbl h4 hb
 have hsz:vs.size=bs.length:=by rw[← Array.length_toList,hvs];simp
 refine LeafD.leaf sr fun Q E k=>call_any_walk (wpAny_pyIter_list ⟨o,h1,h2,n,h3⟩ ?_)
 refine⟨_,_,_,_,_,_,fun i=>bs[i]?.getD false,rfl,Walks.list (A:=A.in1) hh s.heap.objs.size a (Nat.ne_of_lt (Heap.lt_size h1)) vs,⟨⟨_,Heap.get?_push_size _ rfl,rfl,rfl⟩,⟨o,Heap.get?_push_of_some _ h1,h2,n,h3⟩⟩,?_,fun h' tk hk=>?_⟩
 ·intro i v s' Q E hv q
  rw[← Array.getElem?_toList,hvs,List.getElem?_map] at hv
  cases hi:bs[i]? with
  | none=>rw[hi] at hv;cases hv
  | some b=>rw[hi] at hv;cases hv;dsimp only at q;rw[hi] at q;exact wpAny_truthy_bool q
 ·rw[hsz,range_any]
  exact k _ _ (zft hk) ⟨VR.bool,fun _ h=>by cases h⟩
theorem ui:∀ {vs:List Value} {is:List Int},IntsAre vs is→∀ (i:Nat) v,vs[i]?=some v→∃ n t,is[i]?=some n∧v=.int n t
 | _,_,.nil,i,v,e=>by simp at e
 | _,_,.cons n t r,0,v,e=>by simp at e;exact⟨n,t,by simp,e.symm⟩
 | _,_,.cons _ _ r,i+1,v,e=>by simp at e;simpa using ui r i v e
theorem preSum_eq(is:List Int):preSum (fun i=>is[i]?.getD 0) is.length=is.sum:=by
 have:∀ k,k≤is.length→preSum (fun i=>is[i]?.getD 0) k=(is.take k).sum:=by
  intro k
  induction k with
  | zero=>intro _;simp[preSum]
  | succ k ih=>
    intro hk
    have hk':k < is.length:=hk
    show preSum _ k+_=_
    rw[ih (Nat.le_of_lt hk'),List.take_add_one,List.sum_append,List.getElem?_eq_getElem hk']
    simp[List.getElem?_eq_getElem hk']
 rw[this _ (Nat.le_refl _),List.take_length]
theorem uh:∀ {vs:List Value} {is:List Int},IntsAre vs is→vs.length=is.length
 | _,_,.nil=>rfl
 | _,_,.cons _ _ r=>by simp[uh r]
theorem l_sum{v:Value}{d:V}{xs:List PyData}{is:List Int}(hh:A.handled=none)(sr:SR G F β ρ O s.heap)(rv:VR G F.B β s.heap v d)(hx:look O d=some (.list xs))(hb:Mine.intsOf xs=some is) :
 LeafD G F s β (tr G A (call (.builtin "sum") [v])) (V.d (.int is.sum)) (FRel G F s):=by
 obtain⟨a,rfl,o,vs,n,h1,h2,h3,as,h4,h5⟩:=yb sr rv hx
 have hvs:=ints_get h4 hb
 have hsz:vs.size=is.length:=by rw[← Array.length_toList,uh hvs]
 refine LeafD.leaf sr fun Q E k=>call_sum_walkG (wpAny_pyIter_list ⟨o,h1,h2,n,h3⟩ ?_)
 refine⟨_,_,_,_,_,_,fun i=>is[i]?.getD 0,rfl,Walks.list (A:=A.in1) hh s.heap.objs.size a (Nat.ne_of_lt (Heap.lt_size h1)) vs,⟨⟨_,Heap.get?_push_size _ rfl,rfl,rfl⟩,⟨o,Heap.get?_push_of_some _ h1,h2,n,h3⟩⟩,fun b hb=>?_,fun i v hv=>?_,fun h' tk t' hk=>?_⟩
 ·show b < (s.heap.push _).objs.size
  rw[Heap.size_push]
  rcases List.mem_cons.mp hb with rfl | hb
  ·exact Nat.lt_succ_self _
  ·rw[List.mem_singleton.mp hb];exact Nat.lt_succ_of_lt (Heap.lt_size h1)
 ·rw[← Array.getElem?_toList] at hv
  obtain⟨n,t,e1,e2⟩:=ui hvs i v hv
  exact⟨t,by dsimp only;rw[e1];exact e2⟩
 ·rw[hsz,preSum_eq]
  exact k _ _ (zft hk) ⟨VR.int,fun _ h=>by cases h⟩
theorem zjy{v:Value}{d:V}{x:PyData}{xs:List PyData}(sr:SR G F β ρ O s.heap)(rv:VR G F.B β s.heap v d)(hx:look O d=some x)(hi:items x=some xs)(hl:xs.length≤line) :
 LeafD G F s β (tr G A (call (.type "list") [v])) (V.d (.list xs)) (FRel G F s):=by
 have key:∀ (a:Addr) (o:Obj) (vs:Array Value) (n:Nat) (T:String) (as:List Addr),T = "list"∨T = "tuple"→s.heap.get? a=some o→o.cls=.type T→o.data=.seq vs n→ReadsAll s.heap vs.toList xs as→(∀ b∈as,b∉β∧b∉F.B) →
  LeafD G F s β (tr G A (call (.type "list") [.ref a])) (V.d (.list xs)) (FRel G F s):=by
  intro a o vs n T as hT h1 h2 h3 h4 h5
  have hsz:vs.size≤sizeLine:=by rw[← Array.length_toList,zd h4];exact Nat.le_trans hl (by decide)
  refine LeafD.leaf sr fun Q E k=>call_list_seq (hsz:=hsz) a hT h1 h2 h3 fun h' c' hk hS=>?_
  exact k _ _ (xe (tk:=s.toks) hk) ⟨xd hS rfl rfl (zw hk h4) h5 sr.size_new,fun _ _=>⟨_,rfl,Heap.get?_none_of_le (Nat.le_refl _),_,hS,rfl,rfl⟩⟩
 cases x with
 | list ys=>
   cases hi
   obtain⟨a,rfl,o,vs,n,h1,h2,h3,as,h4,h5⟩:=yb sr rv hx
   exact key a o vs n _ as (.inl rfl) h1 h2 h3 h4 h5
 | tuple ys=>
   cases hi
   have:=yi hx (fun _ h=>by cases h);subst this
   obtain⟨a,o,vs,n,rfl,h1,h2,h3,as,h4,h5⟩:=rv.tuple_inv
   exact key a o vs n _ as (.inr rfl) h1 h2 h3 h4 h5
 | _=>cases hi
theorem zb8{v:Value}{d:V}{xs:List PyData}(sr:SR G F β ρ O s.heap)(rv:VR G F.B β s.heap v d)(hx:look O d=some (.list xs))(hl:xs.length≤line) :
 LeafD G F s β (tr G A (call (.type "tuple") [v])) (V.d (.tuple xs)) (FRel G F s):=by
 obtain⟨a,rfl,o,vs,n,h1,h2,h3,as,h4,h5⟩:=yb sr rv hx
 have hsz:vs.size≤sizeLine:=by rw[← Array.length_toList,zd h4];exact Nat.le_trans hl (by decide)
 refine LeafD.leaf sr fun Q E k=>call_tuple_list (hsz:=hsz) ⟨o,h1,h2,n,h3⟩ fun h' hk=>?_
 have hk':∀ b o,s.heap.get? b=some o→(h'.push { cls:=.type "tuple",data:=.seq vs }).get? b=some o:=fun b o e=>Heap.get?_push_of_some _ (hk b o e)
 exact k _ _ (xe (tk:=s.toks) hk') ⟨ko (Heap.get?_push_size _ rfl) rfl rfl (zw hk' h4) h5,fun _ h=>by cases h⟩
theorem zah{v:Value}{xs:List PyData}(sr:SR G F β ρ O s.heap)(rv:VR G F.B β s.heap v (.d (.tuple xs))) :
 LeafD G F s β (tr G A (call (.type "tuple") [v])) (V.d (.tuple xs)) (FRel G F s):=by
 obtain⟨a,o,vs,n,rfl,h1,h2,h3,as,h4,h5⟩:=id rv.tuple_inv
 refine LeafD.leaf sr fun Q E k=>call_tuple_tup ⟨o,h1,h2,n,h3⟩ (k _ _ (KeepsAll.refl s) ⟨rv,fun _ h=>by cases h⟩)
end
section
variable{G:Gl}{F:Fm}{A:Around}{cx:Cx}{s:Shared}{β:List Addr}{ρ:Loc}{O:za}{gval:Nat→Option PyData}{gname:Nat→Option Str}
theorem zeb(sr:SR G F β ρ O s.heap):Does G F A s β (execs [] F.env) (.ok .next (ρ,O)) (yv G F):=
 Does.leaf sr fun Q E q=>wpAny_execs_nil (q _ _ (KeepsAll.refl s) rfl)
theorem zcl{x:Stmt}{xs:List Stmt}{r:R (Loc×za) Fl}{g:Loc→za→R (Loc×za) Fl}(h1:Does G F A s β (exec x F.env) r (yv G F))
 (h2:∀ s' β' ρ' O',SR G F β' ρ' O' s'.heap→Does G F A s' β' (execs xs F.env) (g ρ' O') (yv G F)) :
 Does G F A s β (execs (x::xs) F.env) (r.bind (seqK fun S=>g S.1 S.2)) (yv G F):=by
 refine DoesW.seq (T₂:=fun f Q E s'=>match f with | .next=>wpAny (model G.prog G.w) A (execs xs F.env) Q E s' | f=>Q f s') (fun Q E h=>wpAny_execs_cons h) h1 fun s' β' f d S e st sr rf=>?_
 cases d with
 | next=>
   have:f=.next:=rf
   subst this
   exact h2 s' β' S.1 S.2 sr
 | ret v=>
   obtain⟨val,rfl,rv⟩:=rf
   exact Does.leaf sr fun Q E q=>q _ _ (KeepsAll.refl s') ⟨val,rfl,rv⟩
theorem zst{e:Expr}{p:Pos}{r:R za V}(h1:Does G F A s β (eval e F.env) (r.lift ρ) (VRel G F)) :
 Does G F A s β (exec (.Return (some e) p) F.env) ((r.lift ρ).bind fun v S=>.ok (.ret v) S) (yv G F):=
 DoesW.by (f:=Flow.ret) (q:=Fl.ret) (fun Q E h=>wpAny_Return_some h) h1 fun β h a d rv=>⟨a,rfl,rv⟩
theorem zsy{t:Expr}{a b:List Stmt}{p:Pos}{r:R za V}{ga gb:Loc→za→R (Loc×za) Fl}(h1:Does G F A s β (isTrue t F.env (eval t F.env)) ((tv r).lift ρ) BRel)
 (h2:∀ s' β' ρ' O',SR G F β' ρ' O' s'.heap→Does G F A s' β' (execs a F.env) (ga ρ' O') (yv G F)) (h3:∀ s' β' ρ' O',SR G F β' ρ' O' s'.heap→Does G F A s' β' (execs b F.env) (gb ρ' O') (yv G F)) :
 Does G F A s β (exec (.If t a b p) F.env) (((tv r).lift ρ).bind (ifeK (fun S=>ga S.1 S.2) fun S=>gb S.1 S.2)) (yv G F):=by
 refine DoesW.seq (T₂:=fun z Q E s₂=>if z then wpAny (model G.prog G.w) A (execs a F.env) Q E s₂ else wpAny (model G.prog G.w) A (execs b F.env) Q E s₂) (fun Q E h=>wpAny_If h) h1 fun s' β' z d S e st sr hz=>?_
 have hz:z=d:=hz
 subst hz
 cases z with
 | true=>exact (h2 s' β' S.1 S.2 sr).weaken (fun Q E h=>by show if _ then _ else _;rw[if_pos rfl];exact h) fun _ _ _ _ h=>h
 | false=>exact (h3 s' β' S.1 S.2 sr).weaken (fun Q E h=>by show if _ then _ else _;rw[if_neg (by decide)];exact h) fun _ _ _ _ h=>h
theorem zcx{e:Expr}(h:∀ a b c d,e≠.ListComp a b c d)(h2:∀ a b c d,e≠.SetComp a b c d)(h3:∀ a b c d f,e≠.DictComp a b c d f)(t:Option Expr)(n:Nat)(env:Env):swapsWith e t n env=pure false:=by
 cases e <;> first | rfl | exact absurd rfl (h _ _ _ _) | exact absurd rfl (h2 _ _ _ _) | exact absurd rfl (h3 _ _ _ _ _)
theorem zqu{e:Expr}{p:Pos}{r:R za V}(hk:F.env.scope.kind=.function)(hi:interactive F.env=false)(hs:swapsWith e none p.line F.env=pure false)(h1:Does G F A s β (eval e F.env) (r.lift ρ) (VRel G F)) :
 Does G F A s β (exec (.Expr e p) F.env) ((r.lift ρ).bind fun _ S=>.ok .next S) (yv G F):=by
 refine DoesW.seq (T₂:=fun _ Q E s'=>Q .next s') (fun Q E h=>wpAny_Expr_any h hi hs) h1 fun s' β' v d S e st sr rv=>?_
 exact Does.leaf sr fun Q E q=>q _ _ (KeepsAll.refl s') rfl
set_option tactic.hygienic true in
theorem dm{x:Str}{px spos:Pos}{i:Nat}{own:Str→Bool}{value:Expr}{r:R za V}(fit:Fits F cx)(hown:∀ x,own x=true→F.own x=true)(hx:chkT cx own (.name i) (.Name x px)=true)
 (hs:swapsWith value (some (.Name x px)) spos.line F.env=pure false) (h1:Does G F A s β (eval value F.env) (r.lift ρ) (VRel G F)) :
 Does G F A s β (exec (.Assign [.Name x px] value spos) F.env) ((r.lift ρ).bind (asgR (.name i))) (yv G F):=by
 obtain⟨y,p,e,h2,h3⟩:=ph hx
 cases e
 obtain⟨g1,g2⟩:=ue fit h2
 refine DoesW.seq (T₂:=fun v Q E s'=>wpAny (model G.prog G.w) A (storeName F.env x v) (fun _=>Q .next) E s') (fun Q E h=>wpAny_Assign_Name h hs) h1 fun s' β' v d S e st sr rv=>?_
 have ds:=zhb (A:=A) sr g1 g2 (hown x h3) rv
 unfold asgR zp
 split
 ·rename_i ρ' heq
  split at heq
  ·cases heq
   intro Q E k
   exact ds _ _ fun s'' β'' _ st' sr' _=>k s'' β'' .next st' sr' rfl
  ·cases heq
 ·trivial
theorem zec{elts:List Expr}{k:Nat}{tpos spos:Pos}{c:CT}{own:Str→Bool}{value:Expr}{r:R za V}(hh:A.handled=none)(fit:Fits F cx)(hown:∀ x,own x=true→F.own x=true)(hx:chkT cx own c (.Tuple elts k tpos)=true)
 (hs:swapsWithSole [.Tuple elts k tpos] value spos.line F.env=pure false) (hw:swappedStores [.Tuple elts k tpos] value F.env=pure none) (h1:Does G F A s β (eval value F.env) (r.lift ρ) (VRel G F)) :
 Does G F A s β (exec (.Assign [.Tuple elts k tpos] value spos) F.env) ((r.lift ρ).bind (asgR c)) (yv G F):=by
 refine DoesW.seq (T₂:=fun v Q E s'=>wpAny (model G.prog G.w) A (assign (.Tuple elts k tpos) F.env v) (fun _=>Q .next) E s') (fun Q E h=>Assign_Tuple h hs hw) h1 fun s' β' v d S e st sr rv=>?_
 have da:=xu (A:=A) hh fit hown c hx sr rv
 unfold bindR at da
 unfold asgR
 cases hb:zp c d S.1 with
 | none=>trivial
 | some ρ'=>
   rw[hb] at da
   intro Q E k
   exact da _ _ fun s'' β'' _ st' sr' _=>k s'' β'' .next st' sr' rfl
theorem zne{t:Expr}{body:List Stmt}{p:Pos}{ev:Loc→za→R za V}{evb:Loc→za→R (Loc×za) Fl}{N:Nat}
 (ht:∀ s β ρ O,SR G F β ρ O s.heap→Does G F A s β (isTrue t F.env (eval t F.env)) ((tv (ev ρ O)).lift ρ) BRel)
 (hb:∀ s β ρ O,SR G F β ρ O s.heap→Does G F A s β (execs body F.env) (evb ρ O) (yv G F)) (sr:SR G F β ρ O s.heap) :
 Does G F A s β (exec (.While t body [] p) F.env) (yx (fun ρ O=>(tv (ev ρ O)).lift ρ) evb N ρ O) (yv G F):=by
 cases hgo:yx (fun ρ O=>(tv (ev ρ O)).lift ρ) evb N ρ O with
 | stuck=>trivial
 | ok fl S=>
   intro Q E k
   refine wpAny_While (codeAny_whileLoop (fun n s'=>∃ β' ρ' O',Step F.W β s s' β'∧SR G F β' ρ' O' s'.heap∧yx (fun ρ O=>(tv (ev ρ O)).lift ρ) evb n ρ' O'=.ok fl S) ?_ N ⟨β,ρ,O,Step.refl _ _ _,sr,hgo⟩)
   rintro n s' ⟨β',ρ',O',st,sr',hgo'⟩
   cases n with
   | zero=>cases hgo'
   | succ n=>
     unfold yx at hgo'
     have dt:=ht s' β' ρ' O' sr'
     cases he:(tv (ev ρ' O')).lift ρ' with
     | stuck=>rw[he] at hgo';cases hgo'
     | ok b S'=>
       rw[he] at hgo' dt
       refine dt _ _ fun s₂ β₂ b' st₂ sr₂ hb'=>?_
       have hb':b'=b:=hb'
       subst hb'
       cases b' with
       | false=>
         cases hgo'
         rw [if_neg (by decide)]
         exact wpAny_execs_nil (k s₂ β₂ .next (st.trans st₂) sr₂ rfl)
       | true=>
         rw [if_pos rfl]
         dsimp only at hgo'
         have db:=hb s₂ β₂ S'.1 S'.2 sr₂
         cases he2:evb S'.1 S'.2 with
         | stuck=>rw [he2] at hgo';cases hgo'
         | ok f S''=>
           rw [he2] at hgo' db
           refine db _ _ fun s₃ β₃ f' st₃ sr₃ rf=>?_
           cases f with
           | ret u=>
             cases hgo'
             obtain ⟨val,rfl,rv⟩:=rf
             exact k s₃ β₃ (.ret val) (st.trans (st₂.trans st₃)) sr₃ ⟨val,rfl,rv⟩
           | next=>
             have rf:f'=.next:=rf
             subst rf
             exact⟨n,Nat.lt_succ_self n,β₃,S''.1,S''.2,st.trans (st₂.trans st₃),sr₃,hgo'⟩
end
theorem zbn{kindOf:Str→Option NameKind}:∀ {binds:List (Str×Value)} {m:Str→Option Value} {x:Str} {v:Value},(binds.map (·.1)).Nodup→(x,v)∈binds→kindOf x=some .local→bindL kindOf binds m x=some v
 | (n,u)::r,m,x,v,hn,hm,hk=>by
   obtain⟨h1,h2⟩:=List.nodup_cons.mp hn
   unfold bindL
   rcases List.mem_cons.mp hm with e | hm
   ·have hx:x=n:=(Prod.mk.inj e).1
    have hv:v=u:=(Prod.mk.inj e).2
    subst hx;subst hv
    rw[if_pos hk]
    have:∀ (r:List (Str×Value)) (m:Str→Option Value),x∉r.map (·.1)→bindL kindOf r m x=m x:=by
     intro r
     induction r with
     | nil=>intro m _;rfl
     | cons p r ih=>
       intro m hx
       obtain⟨n',u'⟩:=p
       have hx':x≠n'∧x∉r.map (·.1):=by simpa using hx
       unfold bindL
       rw[ih _ hx'.2]
       split
       ·exact if_neg hx'.1
       ·rfl
    rw[this r _ h1];simp
   ·exact zbn h2 hm hk
theorem zir{kindOf:Str→Option NameKind}{x:Str}(r:List (Str×Value)):∀ (m:Str→Option Value),x∉r.map (·.1)→bindC kindOf r m x=m x:=by
 induction r with
 | nil=>exact fun m _=>rfl
 | cons p r ih=>
   intro m hx
   obtain⟨n',u'⟩:=p
   have hx':x≠n'∧x∉r.map (·.1):=by simpa using hx
   unfold bindC
   rw[ih _ hx'.2]
   split
   ·rfl
   ·exact if_neg hx'.1
theorem ziq{kindOf:Str→Option NameKind}{binds:List (Str×Value)}{x:Str}{v:Value}(hk:kindOf x=some .cell):∀ {m:Str→Option Value},(binds.map (·.1)).Nodup→(x,v)∈binds→bindC kindOf binds m x=some v:=by
 induction binds with
 | nil=>exact fun _ hm=>absurd hm List.not_mem_nil
 | cons p r ih=>
   intro m hn hm
   obtain⟨n,u⟩:=p
   obtain⟨h1,h2⟩:=List.nodup_cons.mp hn
   unfold bindC
   rcases List.mem_cons.mp hm with e | hm
   ·obtain⟨hx,hv⟩:=Prod.mk.inj e
    subst hx;subst hv
    rw[if_neg (by rw[hk];decide),zir r _ h1]
    exact if_pos rfl
   ·exact ih h2 hm
theorem VRs.get{G:Gl}{N β:List Addr}{h:Heap}{vs:List Value}{ds:List V}(r:VRs G N β h vs ds):∀ (i:Nat) (h1:i < vs.length) (h2:i < ds.length),VR G N β h vs[i] ds[i]:=by
 induction r with
 | nil=>intro i h1;simp at h1
 | cons r rs ih=>
   intro i h1 h2
   cases i with
   | zero=>exact r
   | succ i=>exact ih i (by simpa using h1) (by simpa using h2)
theorem BoxAt.less2{N N' β β':List Addr}{h:Heap}(hs:∀ a∈N,a∈N')(hb:∀ a∈β,a∈β'){a:Addr}{bx:Box}(r:BoxAt h N' β' a bx):BoxAt h N β a bx:=by
 cases bx with
 | lst xs=>obtain⟨o,vs,n,h1,h2,h3,as,h4,h5⟩:=r;exact⟨o,vs,n,h1,h2,h3,as,h4,fun b hb'=>⟨fun hm=>(h5 b hb').1 (hb b hm),fun hn=>(h5 b hb').2 (hs b hn)⟩⟩
 | dct kvs=>
   obtain⟨o,es,n,h1,h2,h3,h4,h5⟩:=r
   refine⟨o,es,n,h1,h2,h3,h4,fun i e kv he hkv=>?_⟩
   obtain⟨hq,as,bs,r1,r2,q⟩:=h5 i e kv he hkv
   exact⟨hq,as,bs,r1,r2,fun b hb'=>⟨fun hm=>(q b hb').1 (hb b hm),fun hn=>(q b hb').2 (hs b hn)⟩⟩
noncomputable def xb(fd:FuncData)(L a:Addr)(names:List (Option Str))(B fr:List Addr):Fm:=
 { env:=callEnvC fd L a,names:=names,own:=ownOf fd.scope,W:=L::(cellsFrom (L+1) fd.scope.names []).map (·.2),B:=(L::(cellsFrom (L+1) fd.scope.names []).map (·.2))++B,fr:=L::fr }
structure FnOk(G:Gl)(J:Cx→List Stmt→CSs→Prop)(fname gname cname:Nat→Option Str)(x:Str)(fn:Fn)(a:Addr)(o:Obj)(fd:FuncData)(body:List Stmt)(names:List Str):Prop where
 at_:FnAt G x a o fd
 code:G.h₀.CodeRec fd.code fd.qualname
 body_:fd.body=.stmts body
 clos:fd.closure=[]
 globals:fd.globals=mainGlobals
 builtins:fd.builtins=builtinsNs
 defaults:fd.defaults=.none
 chk:zhc fn names fd.params fd.scope=true
 js:J { names:=yr fn names,sc:=fd.scope,fname,gname,cname } body fn.body
noncomputable def zhh(G:Gl)(J:Cx→List Stmt→CSs→Prop)(fname gname cname:Nat→Option Str)(T:Nat→Option Fn):Prop:=
 ∀ f x,fname f=some x→(∃ a o fd,FnAt G x a o fd)∧∀ fn,T f=some fn→∃ a o fd body names,FnOk G J fname gname cname x fn a o fd body names
structure HdOk(fn:Fn)(names:List Str)(a:Arguments)(sc:Scope):Prop where
 p1:a.posonlyargs=[]
 p2:a.vararg=none
 p3:a.kwonlyargs=[]
 p4:a.kwarg=none
 p5:a.args.map (·.arg)=names.take fn.arity
 k1:sc.kind=.function
 k2:sc.isGenerator=false
 k3:sc.isCoroutine=false
 k4:(sc.names.map (·.1)).Nodup
 k5:∀ x k,(x,k)∈sc.names→k=.local∨k=.cell∨k=.globalImplicit
 n1:names.Nodup
 n2:names.length≤fn.slots
 n3:fn.arity≤names.length
 n4:∀ x∈names,ownOf sc x=true
theorem qe{fn:Fn}{names:List Str}{a:Arguments}{sc:Scope}(h:zhc fn names a sc=true):HdOk fn names a sc:=by
 unfold zhc at h
 simp only[Bool.and_eq_true,decide_eq_true_eq] at h
 obtain⟨⟨⟨⟨⟨h1,h2⟩,h3⟩,h4⟩,h5⟩,h6⟩:=h
 unfold ua at h1
 simp only[Bool.and_eq_true,List.isEmpty_iff,Option.isNone_iff_eq_none,beq_iff_eq] at h1
 unfold zbc at h2
 simp only[Bool.and_eq_true,Bool.not_eq_true',decide_eq_true_eq,beq_iff_eq] at h2
 refine⟨h1.1.1.1.1.1.1.1,h1.1.1.1.1.1.1.2,h1.1.1.1.1.1.2,h1.1.1.1.2,h1.1.2,h2.1.1.1.1,h2.1.1.1.2,h2.1.1.2,h2.1.2,fun x k hm=>?_,h3,h4,h5,List.all_eq_true.mp h6⟩
 have:=List.all_eq_true.mp h2.2 (x,k) hm
 simpa [Bool.or_eq_true,beq_iff_eq,or_assoc] using this
section
variable{G:Gl}{J:Cx→List Stmt→CSs→Prop}{F:Fm}{A:Around}{gval:Nat→Option PyData}{fname gname cname:Nat→Option Str}{T:Nat→Option Fn}{P:Pg}
structure Out(G:Gl)(B fr β:List Addr)(h:Heap):Prop where
 new:(∀ a∈B,a≠sysModules→G.h₀.get? a=none)∧sysModules∈B∧sysModules∉fr
 notBox:∀ a∈B,a∉β
 stor:∀ a∈B,∃ o,h.get? a=some o∧∀ vs n,o.data=.seq vs n→o.cls≠.type "tuple"
 frB:∀ a∈fr,a∈B
 frs:∀ a∈fr,∃ m,h.Ns a m
theorem FmOk.out{β:List Addr}{h:Heap}(fm:FmOk G F β h):Out G F.B F.fr β h:=⟨⟨fm.new.1,fm.new.2.1,fm.new.2.2.2⟩,fm.notBox,fm.stor,fm.frB,fm.frs⟩
theorem zat{fn:Fn}{x:Str}{a:Addr}{o:Obj}{fd:FuncData}{body:List Stmt}{names:List Str}(fo:FnOk G J fname gname cname x fn a o fd body names){s s₁:Shared}{β B fr:List Addr}{O:za}{vals:List Value}{vs:List V}(br:BR G B β O s.heap)(fm:Out G B fr β s.heap)
 (rvs:VRs G B β s.heap vals vs) (hlen:vs.length=fn.arity)
 (ic:InCallC s (callEnvC fd s.heap.objs.size a).locals (bindL (callEnvC fd s.heap.objs.size a).kindOf ((names.take fn.arity).zip vals) fun _=>none) (callEnvC fd s.heap.objs.size a).cells
   (bindC (callEnvC fd s.heap.objs.size a).kindOf ((names.take fn.arity).zip vals) fun _=>none) s₁) :
 SR G (xb fd s.heap.objs.size a (yr fn names) B fr) β (vs.map some++List.replicate (fn.slots - fn.arity) none) O s₁.heap∧KeepsAll s s₁:=by
 obtain⟨_,_,_,_,_,k1,k2,k3,k4,k5,n1,n2,n3,n4⟩:=qe fo.chk
 have kept:∀ b o,s.heap.get? b=some o→s₁.heap.get? b=some o:=ic.toInCall.keep
 obtain⟨h₁,tk,e₁⟩:=ic.toInCall.same
 have ka:KeepsAll s s₁:=⟨by rw[e₁],by rw[e₁],kept⟩
 refine⟨?_,ka⟩
 have hns:=ic.toInCall.ns
 have hLn:s.heap.get? s.heap.objs.size=none:=z7 s
 have hcn:∀ y c,(y,c)∈cellsFrom (s.heap.objs.size+1) fd.scope.names []→s.heap.get? c=none:=fun y c hm=>Heap.get?_none_of_le (Nat.le_of_lt (ic.above y c hm))
 have hM:∀ b∈s.heap.objs.size::(cellsFrom (s.heap.objs.size+1) fd.scope.names []).map (·.2),s.heap.get? b=none:=fun b hb=>by
  rcases List.mem_cons.mp hb with rfl | hb
  ·exact hLn
  ·obtain⟨p,hp,rfl⟩:=List.mem_map.mp hb
   exact hcn p.1 p.2 hp
 have h0:∀ b,s.heap.get? b=none→G.h₀.get? b=none:=fun b hb=>by
  cases e:G.h₀.get? b with
  | none=>rfl
  | some o=>have:=br.keep b o e;rw[hb] at this;cases this
 have hnames:(yr fn names)=names.map some++List.replicate (fn.slots - names.length) none:=rfl
 have nget:∀ (i:Nat) y,(yr fn names)[i]?=some (some y)→names[i]?=some y:=fun i y h=>by
  rw[hnames] at h
  rcases Nat.lt_or_ge i names.length with hi | hi
  ·rw[List.getElem?_append_left (by simpa using hi),List.getElem?_map] at h
   cases hn:names[i]? with
   | none=>rw[hn] at h;cases h
   | some z=>rw[hn] at h;cases h;rfl
  ·rw[List.getElem?_append_right (by simpa using hi),List.getElem?_replicate] at h
   split at h <;> cases h
 have cellok:∀ y c,(y,c)∈cellsFrom (s.heap.objs.size+1) fd.scope.names []→(cellsFrom (s.heap.objs.size+1) fd.scope.names []).lookup y=some c→∃ v,s₁.heap.IsCell c v:=fun y c _ hl=>⟨_,ic.cell y c hl⟩
 refine⟨(br.grow hM).keepAll kept,⟨k1,fo.globals,fo.builtins,fun i j y h1 h2=>?_,⟨_,hns⟩,List.mem_cons_self,fun y hy=>?_,fun y z c hy hz=>?_,fun b hb=>List.mem_append_left _ hb,?_,fun b hb hb'=>?_,fun b hb=>?_,fun b hb=>?_,fun b hb=>?_,fun m e=>nomatch e⟩,fun i y v h1 h2=>?_⟩
 ·have e1:=nget i y h1
  have e2:=nget j y h2
  have hi:i < names.length:=(List.getElem?_eq_some_iff.mp e1).1
  have hj:j < names.length:=(List.getElem?_eq_some_iff.mp e2).1
  rw[List.getElem?_eq_getElem hi] at e1
  rw[List.getElem?_eq_getElem hj] at e2
  exact (List.getElem_inj (h₀:=hi) (h₁:=hj) n1).mp ((Option.some.inj e1).trans (Option.some.inj e2).symm)
 ·have hy':fd.scope.names.lookup y=some .cell:=hy
  obtain⟨c,hc⟩:=Option.isSome_iff_exists.mp (yf fd.scope.names (s.heap.objs.size+1) [] (.inl ((lookup_mem k4).mpr hy')))
  have hW:c∈s.heap.objs.size::(cellsFrom (s.heap.objs.size+1) fd.scope.names []).map (·.2):=List.mem_cons_of_mem _ (List.mem_map.mpr ⟨(y,c),mem_of_lookup hc,rfl⟩)
  exact⟨c,_,hc,ic.cell y c hc,List.mem_append_left _ hW,fun _=>hW⟩
 ·exact name_of_addr ic.apart (mem_of_lookup hy) (mem_of_lookup hz)
 ·refine⟨fun b hb hs=>?_,List.mem_append_right _ fm.new.2.1,fun hm=>br.notSys (hM _ hm) rfl,fun hm=>?_⟩
  ·rcases List.mem_append.mp hb with hb | hb
   ·exact h0 b (hM b hb)
   ·exact fm.new.1 b hb hs
  ·rcases List.mem_cons.mp hm with q | hm
   ·exact br.notSys hLn q.symm
   ·exact fm.new.2.2 hm
 ·rcases List.mem_append.mp hb with hb | hb
  ·obtain⟨o,e,_⟩:=br.alive b hb'
   rw[hM b hb] at e;cases e
  ·exact fm.notBox b hb hb'
 ·rcases List.mem_append.mp hb with hb | hb
  ·rcases List.mem_cons.mp hb with rfl | hb
   ·obtain⟨o,es,ep,q1,q2,_⟩:=hns
    exact⟨o,q1,fun vs n q=>by rw[q2] at q;cases q⟩
   ·obtain⟨p,hp,rfl⟩:=List.mem_map.mp hb
    obtain⟨c,hc⟩:=Option.isSome_iff_exists.mp (yf fd.scope.names (s.heap.objs.size+1) [] (x:=p.1) (by
     rcases xo _ _ _ (show (p.1,p.2)∈_ from hp) with h | h
     ·exact .inl h
     ·cases h))
    have hpc:c=p.2:=by
     have hkeys:∀ (names:List (Str×NameKind)) (n:Nat) (acc:List (Str×Addr)),(names.map (·.1)).Nodup→(∀ q∈acc,q.1∉names.map (·.1))→(acc.map (·.1)).Nodup→((cellsFrom n names acc).map (·.1)).Nodup:=by
      intro names
      induction names with
      | nil=>intro n acc _ _ h;exact h
      | cons z r ih=>
        intro n acc hn ha hacc
        obtain⟨zn,zk⟩:=z
        obtain⟨hz1,hz2⟩:=List.nodup_cons.mp hn
        unfold cellsFrom
        split
        ·refine ih _ _ hz2 (fun q hq=>?_) ?_
         ·rcases List.mem_cons.mp hq with rfl | hq
          ·exact hz1
          ·exact fun hm=>ha q hq (List.mem_cons_of_mem _ hm)
         ·rw [List.map_cons,List.nodup_cons]
          exact⟨fun hm=>by obtain⟨q,hq,e⟩:=List.mem_map.mp hm;exact ha q hq (by rw[e];exact List.mem_cons_self),hacc⟩
        ·exact ih _ _ hz2 (fun q hq hm=>ha q hq (List.mem_cons_of_mem _ hm)) hacc
     have hk:=hkeys fd.scope.names (s.heap.objs.size+1) [] k4 (fun _ h=>nomatch h) (by simp)
     have e1:=(lookup_mem hk (x:=p.1) (k:=p.2)).mp hp
     rw[hc] at e1;cases e1;rfl
    subst hpc
    obtain⟨o,q1,q2⟩:=ic.cell p.1 p.2 hc
    exact⟨o,q1,fun vs n q=>by rw[q2] at q;cases q⟩
  ·obtain⟨o,q1,q2⟩:=fm.stor b hb
   exact⟨o,kept _ _ q1,q2⟩
 ·rcases List.mem_cons.mp hb with rfl | hb
  ·exact List.mem_append_left _ List.mem_cons_self
  ·exact List.mem_append_right _ (fm.frB b hb)
 ·rcases List.mem_cons.mp hb with rfl | hb
  ·exact⟨_,hns⟩
  ·obtain⟨m,hm⟩:=fm.frs b hb
   exact⟨m,hm.keeps kept⟩
 ·have hvl:vals.length=vs.length:=rvs.length
  have hi:i < vs.length:=by
   rcases Nat.lt_or_ge i vs.length with h | h
   ·exact h
   ·rw[List.getElem?_append_right (by simpa using h),List.getElem?_replicate] at h2
    split at h2 <;> cases h2
  rw[List.getElem?_append_left (by simpa using hi),List.getElem?_map,List.getElem?_eq_getElem hi] at h2
  cases h2
  have hiv:i < vals.length:=by rw[hvl];exact hi
  have hy:=nget i y h1
  have hz:(y,vals[i])∈(names.take fn.arity).zip vals:=by
   have:((names.take fn.arity).zip vals)[i]?=some (y,vals[i]):=by
    rw[List.getElem?_zip_eq_some]
    refine⟨?_,List.getElem?_eq_getElem hiv⟩
    rw[List.getElem?_take_of_lt (by rw[← hlen];exact hi)];exact hy
   exact List.mem_of_getElem? this
  have hnd:(((names.take fn.arity).zip vals).map (·.1)).Nodup:=by
   have:((names.take fn.arity).zip vals).map (·.1)=names.take fn.arity:=by
    rw[List.map_fst_zip]
    rw[List.length_take,hvl,hlen];exact Nat.min_le_left _ _
   rw[this];exact n1.sublist (List.take_sublist _ _)
  refine⟨vals[i],?_,((rvs.get i hiv hi).grow hM).keepAll kept⟩
  have how:=n4 y (List.mem_of_getElem? hy)
  unfold ownOf at how
  simp only[Bool.or_eq_true,beq_iff_eq] at how
  rcases how with how | how
  ·exact .inl ⟨how,_,hns,zbn hnd hz how⟩
  ·obtain⟨c,hc⟩:=Option.isSome_iff_exists.mp (yf fd.scope.names (s.heap.objs.size+1) [] (.inl ((lookup_mem k4).mpr how)))
   refine .inr ⟨how,c,hc,?_⟩
   have:=ic.cell y c hc
   rwa [ziq how hnd hz] at this
end
section
variable{G:Gl}{N N' β β':List Addr}{O':za}{h:Heap}{base:Nat}
theorem pre_take{β β':List Addr}(hp:β <+: β'):β=β'.take β.length:=by obtain⟨t,rfl⟩:=hp;simp
theorem BR.short(br:BR G N' β' O' h)(hN:∀ a∈N,a∈N')(hp:β <+: β')(hl:β.length=base):BR G N β (O'.take base) h:=by
 have hle:β.length≤β'.length:=hp.length_le
 have hget:∀ {i:Nat} {a:Addr},β[i]?=some a→β'[i]?=some a:=fun e=>x0 hp e
 refine⟨br.keep,by rw[List.length_take,← br.len,hl];omega,br.nodup.sublist hp.sublist,fun a ha=>br.new a (hp.subset ha),fun i a bx h1 h2=>?_,fun a ha=>br.plain a (hp.subset ha)⟩
 have h2':O'[i]?=some bx:=by
  rw[List.getElem?_take] at h2
  split at h2
  ·exact h2
  ·cases h2
 exact (br.at_ i a bx (hget h1) h2').less2 hN fun a ha=>hp.subset ha
theorem zem{n:Nat}{b:Addr}(br:BR G N' β' O' h)(hp:β <+: β')(hn:β.length≤n)(hb:β'[n]?=some b):b∉β:=fun hm=>by
 obtain⟨i,hi⟩:=List.getElem?_of_mem hm
 have hi':=x0 hp hi
 have hil:i < β.length:=(List.getElem?_eq_some_iff.mp hi).1
 have h1:i < β'.length:=(List.getElem?_eq_some_iff.mp hi').1
 have h2:n < β'.length:=(List.getElem?_eq_some_iff.mp hb).1
 rw[List.getElem?_eq_getElem h1] at hi'
 rw[List.getElem?_eq_getElem h2] at hb
 have:=(List.getElem_inj (h₀:=h1) (h₁:=h2) br.nodup).mp ((Option.some.inj hi').trans (Option.some.inj hb).symm)
 omega
theorem BR.shortB{n:Nat}{b:Addr}{xs:List PyData}(br:BR G N' β' O' h)(hN:∀ a∈N,a∈N')(hp:β <+: β')(hl:β.length=base)(hn:base≤n)(hb:β'[n]?=some b)(hx:O'[n]?=some (.lst xs)) :
 BR G N (β++[b]) (O'.take base++[.lst xs]) h∧(∀ a∈β++[b],a∈β'):=by
 have s:=br.short (base:=base) hN hp hl
 have hbm:b∈β':=List.mem_of_getElem? hb
 have sub:∀ a∈β++[b],a∈β':=fun a ha=>(List.mem_append.mp ha).elim (fun h=>hp.subset h) fun h=>by rw[List.mem_singleton.mp h];exact hbm
 have hbβ:b∉β:=zem br hp (by rw[hl];exact hn) hb
 refine⟨⟨br.keep,by simp[s.len],?_,fun a ha=>br.new a (sub a ha),fun i a bx h1 h2=>?_,fun a ha=>br.plain a (sub a ha)⟩,sub⟩
 ·rw[List.nodup_append]
  exact⟨s.nodup,by simp,fun a ha c hc=>by rw[List.mem_singleton.mp hc];exact fun e=>hbβ (e ▸ ha)⟩
 ·rcases Nat.lt_or_ge i β.length with hi | hi
  ·rw[List.getElem?_append_left hi] at h1
   rw[List.getElem?_append_left (by rw[← s.len];exact hi),List.getElem?_take] at h2
   split at h2
   ·exact (br.at_ i a bx (x0 hp h1) h2).less2 hN sub
   ·cases h2
  ·rw[List.getElem?_append_right hi] at h1
   rw[List.getElem?_append_right (by rw[← s.len];exact hi)] at h2
   have hi0:i - β.length=0:=by
    rcases Nat.eq_zero_or_pos (i - β.length) with h | h
    ·exact h
    ·rw[List.getElem?_eq_none (show [b].length≤i - β.length from h)] at h1;cases h1
   rw[hi0] at h1
   rw[← s.len,hi0] at h2
   cases h1;cases h2
   exact (br.at_ n b (.lst xs) hb hx).less2 hN sub
theorem d0{n:Nat}{b:Addr}{xs:List PyData}(br:BR G N' β' O' h)(hN:∀ a∈N,a∈N')(nb:∀ a∈N',a∉β')(hp:β <+: β')(hn:β.length≤n)(hb:β'[n]?=some b)(hx:O'[n]?=some (.lst xs)):VR G N β h (.ref b) (.d (.list xs)):=by
 obtain⟨o,vs,k,e1,e2,e3,as,e4,e5⟩:=br.at_ n b (.lst xs) hb hx
 exact⟨b::as,.list e1 e2 e3 e4,fun a ha=>(List.mem_cons.mp ha).elim (fun e=>e ▸ ⟨zem br hp hn hb,fun hm=>nb b (hN b hm) (List.mem_of_getElem? hb)⟩) fun ha=>⟨fun hm=>(e5 a ha).1 (hp.subset hm),fun hm=>(e5 a ha).2 (hN a hm)⟩⟩
theorem zh0{O:za}{n:Nat}{x:PyData}(e:kj O n=some x):∃ xs,x=.list xs∧O[n]?=some (.lst xs):=by
 unfold kj at e
 cases ho:O[n]? with
 | none=>rw[ho] at e;cases e
 | some bx=>
   rw[ho] at e
   cases bx with
   | lst xs=>cases e;exact⟨xs,rfl,rfl⟩
   | dct kvs=>cases e
set_option tactic.hygienic true in
theorem zp5(br:BR G N' β' O' h)(hN:∀ a∈N,a∈N')(nb:∀ a∈N',a∉β')(hp:β <+: β')(hl:β.length=base){vs:List Value}{its:List It}(r:ItsR N' β' h vs its):∀ {ds:List PyData},frz O' base its=some ds→∃ as,ReadsAll h vs ds as∧∀ a∈as,a∉β∧a∉N:=by
 induction r with
 | nil=>intro ds e;cases e;exact⟨[],.nil,fun _ h=>nomatch h⟩
 | b hb _ ih=>
   rename_i n a vs its _
   intro ds e
   have e:(if base≤n then (kj O' n).bind fun x=>(frz O' base its).map (x::·) else none)=some ds:=e
   by_cases hn:base≤n
   ·rw[if_pos hn] at e
    obtain⟨x,h1,e⟩:=Option.bind_eq_some_iff.mp e
    obtain⟨ds',h2,rfl⟩:=Option.map_eq_some_iff.mp e
    obtain⟨xs,rfl,hx⟩:=zh0 h1
    obtain⟨as,r,q⟩:=d0 br hN nb hp (by rw[hl];exact hn) hb hx
    obtain⟨bs,rs,qs⟩:=ih h2
    exact⟨as++bs,.cons r rs,fun a ha=>(List.mem_append.mp ha).elim (q a) (qs a)⟩
   ·rw[if_neg hn] at e;cases e
 | x r q _ ih=>
   intro ds e
   obtain⟨ds',h2,rfl⟩:=Option.map_eq_some_iff.mp e
   obtain⟨bs,rs,qs⟩:=ih h2
   exact⟨_++bs,.cons r rs,fun a ha=>(List.mem_append.mp ha).elim (fun ha=>⟨fun hm=>(q a ha).1 (hp.subset hm),fun hm=>(q a ha).2 (hN a hm)⟩) (qs a)⟩
inductive zod(G:Gl)(N β β':List Addr)(O'':za)(h:Heap)(val:Value)(v':V):Prop
 | mk (β'':List Addr) (q1:β <+: β'') (q2:∀ a∈β'',a∈β') (q3:BR G N β'' O'' h) (q4:VR G N β'' h val v')
theorem zia{keep:Bool}{n:Nat}{b:Addr}{v':V}{O'':za}(br:BR G N' β' O' h)(hN:∀ a∈N,a∈N')(nb:∀ a∈N',a∉β')(hp:β <+: β')(hl:β.length=base)(hb:β'[n]?=some b)(hf:de base keep n O'=.ok v' O''):zod G N β β' O'' h (.ref b) v':=by
 unfold de at hf
 by_cases hn:n < base
 ·rw[if_pos hn] at hf
  cases hf
  refine⟨β,List.prefix_refl _,fun a ha=>hp.subset ha,br.short hN hp hl,b,?_,rfl⟩
  rw[pre_take hp,List.getElem?_take,if_pos (by rw[hl];exact hn)];exact hb
 ·rw[if_neg hn] at hf
  cases hx:O'[n]? with
  | none=>rw[hx] at hf;cases hf
  | some bx=>
    rw[hx] at hf
    cases bx with
    | dct kvs=>cases hf
    | lst xs=>
      cases keep with
      | true=>
        cases hf
        obtain⟨b1,b2⟩:=br.shortB hN hp hl (Nat.not_lt.mp hn) hb hx
        exact⟨β++[b],List.prefix_append _ _,b2,b1,b,by rw[← hl,List.getElem?_append_right (Nat.le_refl _),Nat.sub_self];rfl,rfl⟩
      | false=>
        cases hf
        exact⟨β,List.prefix_refl _,fun a ha=>hp.subset ha,br.short hN hp hl,d0 br hN nb hp (by rw[hl];exact Nat.not_lt.mp hn) hb hx⟩
theorem zki{keep:Bool}{val:Value}{v v':V}{O'':za}(br:BR G N' β' O' h)(hN:∀ a∈N,a∈N')(nb:∀ a∈N',a∉β')(hp:β <+: β')(hl:β.length=base)(rv:VR G N' β' h val v)(hf:fin base keep v O'=.ok v' O'') :
 zod G N β β' O'' h val v':=by
 cases v with
 | d x=>
   cases hf
   obtain⟨as,r,q⟩:=rv
   exact⟨β,List.prefix_refl _,fun a ha=>hp.subset ha,br.short hN hp hl,as,r,fun a ha=>⟨fun hm=>(q a ha).1 (hp.subset hm),fun hm=>(q a ha).2 (hN a hm)⟩⟩
 | box n=>
   obtain⟨b,hb,rfl⟩:=rv
   exact zia br hN nb hp hl hb hf
 | tm its=>
   obtain⟨a,o,vs,k,rfl,e1,e2,e3,e4⟩:=rv
   have hf:(match frz O' base its with
    | some ds=>.ok (.d (.tuple ds)) (O'.take base)
    | none=>.stuck)=R.ok v' O'':=hf
   cases hz:frz O' base its with
   | none=>rw[hz] at hf;cases hf
   | some ds=>
     rw[hz] at hf
     cases hf
     obtain⟨as,r,q⟩:=zp5 br hN nb hp hl e4 hz
     exact⟨β,List.prefix_refl _,fun a ha=>hp.subset ha,br.short hN hp hl,as,.tuple e1 e2 e3 r,q⟩
end
section
variable{G:Gl}{J:Cx→List Stmt→CSs→Prop}{gval:Nat→Option PyData}{fname gname cname:Nat→Option Str}{T:Nat→Option Fn}{P:Pg}
theorem FrA.deeper{A:Around}{F:Fm}{fd:FuncData}{L a:Addr}{names:List (Option Str)}(fr:FrA A F)(k1:fd.scope.kind=.function):FrA (A.deeper (callEnvC fd L a)) (xb fd L a names F.B F.fr):=by
 obtain⟨l,h1,h2⟩:=fr
 refine⟨_,Around.frames_deeper h1,fun env he=>?_⟩
 rcases List.mem_cons.mp he with rfl | he
 ·exact⟨by show fd.scope.kind≠.module;rw[k1];decide,L,rfl,List.mem_cons_self⟩
 ·obtain⟨h3,L',h4,h5⟩:=h2 env he
  exact⟨h3,L',h4,List.mem_cons_of_mem _ h5⟩
noncomputable def TopA(A:Around)(F:Fm):Prop:=(∃ outer,A.frames=some (F.env::outer))∧∃ L,F.env.frame=some L
noncomputable def BodyOk(G:Gl)(J:Cx→List Stmt→CSs→Prop)(A:Around)(fname gname cname:Nat→Option Str)(P:Pg):Prop:=
 ∀ (F:Fm) (cx:Cx) (c:CSs) (body:List Stmt) (s:Shared) (β:List Addr) (ρ:Loc) (O:za),cx.fname=fname→cx.gname=gname→cx.cname=cname→Fits F cx→FrA A F→TopA A F→(∀ x,ownOf cx.sc x=true→F.own x=true)→J cx body c→SR G F β ρ O s.heap →
  Does G F A s β (execs body F.env) (evSs P c ρ O) (yv G F)
theorem zkj{base:Nat}{keep:Bool}{O:za}:fin base keep (.d .none) O=.ok (.d .none) (O.take base):=rfl
theorem zcv{A:Around}{F:Fm}{fd:FuncData}{L a:Addr}{names:List (Option Str)}{B fr:List Addr}(frA:FrA A F):TopA (A.deeper (callEnvC fd L a)) (xb fd L a names B fr):=by
 obtain⟨l,h1,_⟩:=frA
 exact⟨⟨l,Around.frames_deeper h1⟩,L,rfl⟩
theorem zdv{Fc F:Fm}{β β':List Addr}{ρ:Loc}{O O'':za}{S:Loc×za}{s s₁ s':Shared}{keep:Bool}{val:Value}{v res:V}(sr:SR G F β ρ O s.heap)(hWn:∀ b∈Fc.W,s.heap.get? b=none)(subB:∀ b∈F.B,b∈Fc.B)(ka:KeepsAll s s₁)
 (st:Step Fc.W β s₁ s' β') (srE:SR G Fc β' S.1 S.2 s'.heap) (rv:VR G Fc.B β' s'.heap val v) (hf:Mine.fin O.length keep v S.2=.ok res O''):∃ β'',Step F.W β s s' β''∧SR G F β'' ρ O'' s'.heap∧VR G F.B β'' s'.heap val res:=by
 obtain⟨β'',q1,q2,q3,q4⟩:=zki srE.br subB srE.fm.notBox st.pre sr.br.len rv hf
 have st0:Step [] β s s' β':=((ka.step [] β).thenW st hWn)
 have st1:Step [] β s s' β'':=⟨st0.gens,st0.os,q1,fun b hb'=>st0.fresh b (q2 b hb'),st0.alive,st0.kept⟩
 exact⟨β'',⟨st1.gens,st1.os,st1.pre,st1.fresh,st1.alive,fun b o e hb' _=>st1.kept b o e hb' List.not_mem_nil⟩,sr.outer st1 q3 fun b hb' hm=>srE.fm.notBox b (subB b hb') (q2 b hm),q4⟩
inductive Callee(G:Gl)(F:Fm)(A':Around)(cx:Cx)(β:List Addr)(ρ:Loc)(O:za)(env:Env)(s s₁:Shared):Prop
 | mk (Fc:Fm) (hE:Fc.env=env) (ka:KeepsAll s s₁) (srC:SR G Fc β ρ O s₁.heap) (fit:Fits Fc cx) (fr:FrA A' Fc) (top:TopA A' Fc) (own:∀ x,ownOf cx.sc x=true→Fc.own x=true) (hWn:∀ b∈Fc.W,s.heap.get? b=none) (subB:∀ b∈F.B,b∈Fc.B)
set_option tactic.hygienic true in
theorem call_one(g:GOk G gval gname)(fns:zhh G J fname gname cname T){A:Around}{k:Nat}(ro:Room A (k+1)){call:Bool→Nat→List V→za→R za V}{hd:Bool}
 (hb:∀ env,BodyOk G J (A.deeper env) fname gname cname { P with call:=call,hd:=hd }):pj G A fname (fun f args O=>match T f with
   | some fn=>if args.length=fn.arity∧fn.arity≤fn.slots then evFn { P with call:=call,hd:=hd } fn args O else .stuck
   | none=>.stuck):=by
 intro F s β ρ O f x vals vs sr frA hf rvs
 obtain⟨⟨a,o,fd,fa⟩,hfn⟩:=fns f x hf
 cases hT:T f with
 | none=>exact⟨a,o,fd,fa,by dsimp only;rw[hT];trivial⟩
 | some fn=>
   obtain⟨a,o,fd,body,names,fo⟩:=hfn fn hT
   refine⟨a,o,fd,fo.at_,?_⟩
   dsimp only
   rw[hT]
   dsimp only
   split
   ·rename_i hlen
    obtain⟨p1,p2,p3,p4,p5,k1,k2,k3,k4,k5,n1,n2,n3,n4⟩:=qe fo.chk
    have hget:s.heap.get? a=some o:=sr.br.keep _ _ fo.at_.get
    have hnt:(names.take fn.arity).length=fn.arity:=by rw[List.length_take];omega
    have hbind:bindArgs fd ⟨vals,[]⟩=pure ((names.take fn.arity).zip vals):=qi p1 p2 p3 p4 p5 (by rw[rvs.length,hnt];exact hlen.1) (n1.sublist (List.take_sublist _ _)) fo.defaults
    have hkind:∀ y∈(names.take fn.arity).zip vals,fd.scope.names.lookup y.1=some .local∨(fd.scope.names.lookup y.1=some .cell∧((cellsFrom (s.heap.objs.size+1) fd.scope.names []).lookup y.1).isSome=true):=fun y hy=>by
     have hy':y.1∈names:=List.mem_of_mem_take (List.of_mem_zip hy).1
     have how:=n4 y.1 hy'
     unfold ownOf at how
     simp only[Bool.or_eq_true,beq_iff_eq] at how
     rcases how with how | how
     ·exact .inl how
     ·exact .inr ⟨how,yf _ _ _ (.inl ((lookup_mem k4).mpr how))⟩
    have enter:∀ (Q:Value→Shared→Prop) (E:Value→Shared→Prop),_→wpAny (model G.prog G.w) A (PySem.call (.ref a) vals) Q E s:=fun Q E h=>wpAny_call (codeAny_call_cells ro.room hget fo.at_.data (g.nolimit.keeps sr.br.keep) (Heap.CodeRec.keeps fo.code sr.br.keep) fo.body_ hbind fo.clos hkind h k3 k2 k1)
    have facts:∀ s₁,InCallC s (callEnvC fd s.heap.objs.size a).locals (bindL (callEnvC fd s.heap.objs.size a).kindOf ((names.take fn.arity).zip vals) fun _=>none) (callEnvC fd s.heap.objs.size a).cells (bindC (callEnvC fd s.heap.objs.size a).kindOf ((names.take fn.arity).zip vals) fun _=>none) s₁→Callee G F (A.deeper (callEnvC fd s.heap.objs.size a)) { names:=yr fn names,sc:=fd.scope,fname:=fname,gname:=gname,cname:=cname } β (vs.map some++List.replicate (fn.slots - fn.arity) none) O (callEnvC fd s.heap.objs.size a) s s₁:=fun s₁ ic=>by
     obtain⟨srC,ka⟩:=zat fo sr.br sr.fm.out rvs hlen.1 ic
     refine⟨xb fd s.heap.objs.size a (yr fn names) F.B F.fr,rfl,ka,srC,⟨rfl,fun _=>rfl,k1⟩,frA.deeper k1,zcv frA,fun _ h=>h,fun b hb'=>?_,fun b hb'=>List.mem_append_right _ hb'⟩
     rcases List.mem_cons.mp hb' with rfl | hb'
     ·exact z7 s
     ·obtain⟨p,hp,rfl⟩:=List.mem_map.mp hb'
      exact Heap.get?_none_of_le (Nat.le_of_lt (ic.above p.1 p.2 hp))
    obtain⟨l₀,hfr₀,_⟩:=id frA
    have hfr':(A.deeper (callEnvC fd s.heap.objs.size a)).frames=some (callEnvC fd s.heap.objs.size a::l₀):=Around.frames_deeper hfr₀
    have hrun:=hb (callEnvC fd s.heap.objs.size a)
    unfold evFn
    cases he:evSs { P with call:=call,hd:=hd } fn.body (vs.map some++List.replicate (fn.slots - fn.arity) none) O with
    | stuck=>trivial
    | ok fl S=>
      cases fl with
      | ret v=>
        show DoesW G F s β _ ((Mine.fin O.length fn.keep v S.2).lift ρ) _
        cases hev:Mine.fin O.length fn.keep v S.2 with
        | stuck=>trivial
        | ok res O''=>
          intro Q E kk
          refine enter Q E fun s₁ ic=>?_
          obtain ⟨Fc,hE,ka,srC,fitC,frC,topC,own,hWn,subB⟩:=facts s₁ ic
          have db:=hrun Fc _ fn.body body s₁ β _ O rfl rfl rfl fitC frC topC own fo.js srC
          rw [he,hE] at db
          refine db _ _ fun s' β' fl' st srE rf=>?_
          obtain ⟨val,rfl,rv⟩:=rf
          obtain ⟨β'',a1,a2,a3⟩:=zdv sr hWn subB ka st srE rv hev
          exact kk s' β'' val a1 a2 a3
      | next=>
        intro Q E kk
        refine enter Q E fun s₁ ic=>?_
        obtain⟨Fc,hE,ka,srC,fitC,frC,topC,own,hWn,subB⟩:=facts s₁ ic
        have db:=hrun Fc _ fn.body body s₁ β _ O rfl rfl rfl fitC frC topC own fo.js srC
        rw[he,hE] at db
        refine db _ _ fun s' β' fl' st srE rf=>?_
        have rf:fl'=.next:=rf
        subst rf
        obtain⟨β'',a1,a2,a3⟩:=zdv (keep:=fn.keep) sr hWn subB ka st srE VR.none zkj
        exact kk s' β'' .none a1 a2 a3
   ·trivial
structure Like(A A':Around):Prop where
 depth:A'.depth=A.depth
 units:A'.units=A.units
 frames:A'.frames=A.frames
 guards:A'.guards=A.guards
theorem Like.refl(A:Around):Like A A:=⟨rfl,rfl,rfl,rfl⟩
theorem Room.like{A A':Around}{k:Nat}(r:Room A k)(l:Like A A'):Room A' k:=⟨by rw[l.depth];exact r.depth,by rw[l.units];exact r.units,by rw[l.guards];exact r.guards⟩
theorem zeh(g:GOk G gval gname)(fns:zhh G J fname gname cname T)
 (body:∀ (A:Around) (call:Bool→Nat→List V→za→R za V) (hd:Bool),Room A 0→(hd=false→A.handled=none) →
   (∀ A' hd',Like A A'→(hd'=false→A'.handled=none)→pj G A' fname (call hd'))→BodyOk G J A fname gname cname { P with call:=call,hd:=hd }) :
 ∀ (k:Nat) (A:Around) (hd:Bool),Room A k→(hd=false→A.handled=none)→pj G A fname (zg P T k hd)
 | 0,A,hd,ro,hm=>fun F s β ρ O f x vals vs sr fr hf rvs=>let ⟨⟨a,o,fd,fa⟩,_⟩:=fns f x hf;⟨a,o,fd,fa,trivial⟩
 | k+1,A,hd,ro,hm=>by
   have:=call_one (P:=P) g fns ro (call:=zg P T k) (hd:=hd) fun env=>body _ _ _ ⟨by have:=(ro.deeper env).depth;omega,by have:=(ro.deeper env).units;omega,(ro.deeper env).guards⟩ hm
    fun A' hd' lk hm'=>zeh g fns body k A' hd' ((ro.deeper env).like lk) hm'
   exact this
end
section
variable{G:Gl}{F:Fm}{A:Around}{s:Shared}{β:List Addr}{ρ:Loc}{O:za}{cx:Cx}{gval:Nat→Option PyData}{gname:Nat→Option Str}
theorem SR.setBox{n:Nat}{a:Addr}{bx:Box}{s':Shared}(sr:SR G F β ρ O s.heap)(hn:β[n]?=some a)(hs:Heap.SameBut a s.heap s'.heap)(hg:s'.gens=s.gens)(hos:s'.os=s.os)
 (hx:Step F.W β s s' β→BoxAt s'.heap F.B β a bx) (hp:Plain s'.heap a):Step F.W β s s' β∧SR G F β ρ (O.set n bx) s'.heap:=by
 have ha:a∈β:=List.mem_of_getElem? hn
 have kp:∀ b o,b≠a→s.heap.get? b=some o→s'.heap.get? b=some o:=fun b o hb e=>(hs.2 b hb).trans e
 have st0:Step [] β s s' β:=⟨hg,hos,List.prefix_refl _,fun _ h=>.inl h,fun b o e=>by
  by_cases hb:b=a
  ·subst hb;obtain⟨o',e',_⟩:=hp;exact⟨o',e'⟩
  ·exact⟨o,kp b o hb e⟩,fun b o e hb _=>⟨o,kp b o (fun h=>hb (h ▸ ha)) e,Kin.refl o⟩⟩
 have st:Step F.W β s s' β:=⟨st0.gens,st0.os,st0.pre,st0.fresh,st0.alive,fun b o e hb _=>st0.kept b o e hb (by simp)⟩
 refine⟨st,sr.outer st0 ⟨fun c o e=>kp c o (fun h=>?_) (sr.br.keep c o e),by rw[List.length_set];exact sr.br.len,sr.br.nodup,sr.br.new,fun i b bx' h1 h2=>?_,fun b hb=>?_⟩ sr.fm.notBox⟩
 ·subst h
  have:=sr.br.new c ha
  rw[e] at this;cases this
 ·by_cases hi:n=i
  ·subst hi
   have hl:n < O.length:=by rw[← sr.br.len];exact (List.getElem?_eq_some_iff.mp hn).1
   rw[List.getElem?_set_self hl] at h2
   cases h2
   rw[hn] at h1;cases h1
   exact hx st
  ·rw[List.getElem?_set_ne hi] at h2
   have hne:b≠a:=fun e=>by
    subst e
    have e1:=(List.getElem?_eq_some_iff.mp hn)
    have e2:=(List.getElem?_eq_some_iff.mp h1)
    exact hi ((List.getElem_inj (h₀:=e1.1) (h₁:=e2.1) sr.br.nodup).mp (e1.2.trans e2.2.symm))
   have hb:=sr.br.at_ i b bx' h1 h2
   cases bx' with
   | lst xs=>
     obtain⟨o,vs,n,e1,e2,e3,as,e4,e5⟩:=hb
     exact⟨o,vs,n,kp _ _ hne e1,e2,e3,as,(zu sr.br sr.fm st e4 e5).1,e5⟩
   | dct kvs=>
     obtain⟨o,es,n,e1,e2,e3,e4,e5⟩:=hb
     refine⟨o,es,n,kp _ _ hne e1,e2,e3,e4,fun i e kv he hkv=>?_⟩
     obtain⟨hq,as,bs,r1,r2,q⟩:=e5 i e kv he hkv
     exact⟨hq,as,bs,(z9 sr.br sr.fm st r1 fun a ha=>q a (List.mem_append_left _ ha)).1,(z9 sr.br sr.fm st r2 fun a ha=>q a (List.mem_append_right _ ha)).1,q⟩
 ·by_cases hba:b=a
  ·subst hba;exact hp
  ·exact (sr.br.plain b hb).at fun o e=>kp b o hba e
theorem j8{h:Heap}{N:List Addr}{a:Addr}{xs:List PyData}(hp:Plain h a)(hl:ListAt h N β a xs):∃ vs as,h.PlainList a vs∧ReadsAll h vs.toList xs as∧∀ b∈as,b∉β∧b∉N:=by
 obtain⟨o,vs,n,e1,e2,e3,as,e4,e5⟩:=hl
 obtain⟨o₉,g1,g2,g3⟩:=hp
 rw[e1] at g1;cases g1
 obtain⟨cl,di,da,sl⟩:=o
 simp only at e2 e3 g2 g3
 subst e2 e3 g2 g3
 exact⟨vs,as,⟨n,e1⟩,e4,e5⟩
set_option tactic.hygienic true in
theorem zk8{o e:Expr}{p q:Pos}{ra:R za V}{rb:za→R za V}(hm:zb6 o p q=true)(hs:starEach [e] F.env=[(false,eval e F.env)])
 (h1:Does G F A s β (eval o F.env) (ra.lift ρ) (VRel G F)) (h2:∀ s' β' O',SR G F β' ρ O' s'.heap→Does G F A s' β' (eval e F.env) ((rb O').lift ρ) (VRel G F)) :
 Does G F A s β (eval (.Call (.Attribute o "append" p) [e] [] q) F.env) ((ra.bind fun v O=>if recv .append v O=true then (rb O).bind fun u O=>meth .append v [u] O else .stuck).lift ρ) (VRel G F):=by
 have hline:(p.endLine == q.line)=true:=(and2 hm).1
 have hbase:attributeBase o "append" F.env (eval o F.env)=eval o F.env:=by
  unfold zb6 at hm
  have:=(and2 hm).2
  cases o <;> first | rfl | exact (Bool.false_ne_true this).elim
 have htrees:backTo q (starEach [e] F.env)=[(false,eval e F.env)]:=by rw[hs];rfl
 refine DoesW.seqE (T₂:=fun ov Q E s₁=>∃ D its,ov=.ref D∧PlainL s₁.heap D its∧wpAny (model G.prog G.w) A (eval e F.env) (fun y s₂=>wpAny (model G.prog G.w) A (call (.builtin "list.append") [.ref D,y]) Q E s₂) E s₁)
  (fun Q E h=>wpAny_Call_append hbase (by rw[htrees];rfl) hline htrees h) h1 fun s' β' v d O' _ st sr rv=>?_
 split
 ·rename_i hr
  cases d with
  | box n=>
    have hr:zdo O' n=true:=hr
    unfold zdo at hr
    cases hx:O'[n]? with
    | none=>rw[hx] at hr;cases hr
    | some bx=>
      rw[hx] at hr
      cases bx with
      | dct _=>cases hr
      | lst xs=>
        obtain⟨a,hn,rfl⟩:=rv
        obtain⟨vs,as,hpl,r1,q1⟩:=j8 (sr.br.plain a (List.mem_of_getElem? hn)) (sr.br.at_ n a _ hn hx)
        obtain⟨k0,e0⟩:=hpl
        refine DoesW.seqE (T₁:=tr G A (eval e F.env)) (T₂:=fun y Q E s₂=>wpAny (model G.prog G.w) A (call (.builtin "list.append") [.ref a,y]) Q E s₂) (fun Q E h=>⟨a,vs,rfl,⟨_,_,e0,rfl,rfl,rfl⟩,h⟩) (h2 s' β' O' sr) fun s₂ β₂ y u O₂ _ st₂ sr₂ ry=>?_
        have hn₂:=x0 st₂.pre hn
        show DoesW _ _ _ _ _ (R.lift ρ (boxL (.box n) O₂ fun n xs=>oneD (fun x=>if xs.length < line then .ok (.d .none) (O₂.set n (.lst (xs++[x]))) else .stuck) [u])) _
        unfold boxL
        dsimp only
        cases hy:O₂[n]? with
        | none=>trivial
        | some bx₂=>
          cases bx₂ with
          | dct _=>trivial
          | lst ys=>
            cases u with
            | d x'=>
              show DoesW _ _ _ _ _ (R.lift ρ (if ys.length < line then R.ok (V.d .none) (O₂.set n (.lst (ys++[x']))) else .stuck)) _
              by_cases hlen:ys.length < line
              ·rw [if_pos hlen]
               obtain ⟨ws,bs,hpl₂,r2,q2⟩:=j8 (sr₂.br.plain a (List.mem_of_getElem? hn₂)) (sr₂.br.at_ n a _ hn₂ hy)
               intro Q E k
               have hsz:ws.size≤sizeLine:=by rw [← Array.length_toList,zd r2];exact Nat.le_trans (Nat.le_of_lt hlen) (by decide)
               refine wpAny_list_append_plain hpl₂ (fun h' hl' hs'=>?_) hsz
               obtain ⟨k',e'⟩:=hl'
               obtain ⟨cs,r3,q3⟩:=ry
               have hb:Step F.W β₂ s₂ { s₂ with heap:=h' } β₂→BoxAt h' F.B β₂ a (.lst (ys++[x'])):=fun st₃=>by
                refine ⟨_,_,k',e',rfl,rfl,bs++(cs++[]),?_,fun b hb=>?_⟩
                ·rw [Array.toList_push]
                 exact y5 (zu sr₂.br sr₂.fm st₃ r2 q2).1 (.cons (z9 sr₂.br sr₂.fm st₃ r3 q3).1 .nil)
                ·rw [List.append_nil] at hb
                 exact (List.mem_append.mp hb).elim (q2 b) (q3 b)
               obtain ⟨st₃,sr₃⟩:=SR.setBox (bx:=.lst (ys++[x'])) (s':={ s₂ with heap:=h' }) sr₂ hn₂ hs' rfl rfl hb ⟨_,e',rfl,rfl⟩
               exact k _ β₂ .none st₃ sr₃ VR.none
              ·rw [if_neg hlen];trivial
            | _=>trivial
  | _=>cases hr
 ·trivial
theorem zfq{v:Value}{b:Bool}(sr:SR G F β ρ O s.heap)(rv:VR G F.B β s.heap v (.d (.bool b))) :
 LeafD G F s β (tr G A (call (.type "int") [v])) (V.d (.int (if b then 1 else 0))) (FRel G F s):=by
 obtain⟨as,r,_⟩:=rv
 cases r
 exact LeafD.leaf sr fun Q E k=>call_int_bool (k _ _ (KeepsAll.toks s _) ⟨VR.int,fun _ h=>by cases h⟩)
end
theorem R.bind_ok{σ α:Type}(r:R σ α):(r.bind fun v O=>R.ok v O)=r:=by cases r <;> rfl
section
variable{G:Gl}{F:Fm}{A:Around}{s:Shared}{β:List Addr}{ρ:Loc}{O:za}{cx:Cx}{gval:Nat→Option PyData}{gname:Nat→Option Str}{P:Pg}{K:V→za→R za V}
theorem LeafD.fin2{T:WT Value}{c:PyData}(hK:Fin2 K)(sr:SR G F β ρ O s.heap)(h:LeafD G F s β T (V.d c) (FRel G F s)):DoesW G F s β T ((K (.d c) O).lift ρ) (VRel G F):=by
 cases hK with
 | plain=>exact (h.does sr).weaken (fun _ _ h=>h) fun _ _ _ _ r=>r.1
 | box=>exact h.box sr
theorem gw{T:WT Value}{o:Option PyData}(hK:Fin2 K)(sr:SR G F β ρ O s.heap)(h:∀ c,o=some c→LeafD G F s β T (V.d c) (FRel G F s)):DoesW G F s β T (((opt (o.map V.d) O).bind K).lift ρ) (VRel G F):=by
 cases o with
 | none=>trivial
 | some c=>exact (h c rfl).fin2 hK sr
theorem znj{elts:List Expr}{pos:Pos}{r:R za (List V)}(hK:Fin2 K)(hl:∀ vs O,r=.ok vs O→vs.length≤line)
 (h1:Does G F A s β (spliced (backTo pos (starEach elts F.env))) (r.lift ρ) (VRsl G F)) :
 Does G F A s β (eval (.List elts pos) F.env) (((r.bind fun vs O=>opt ((allD vs).map fun xs=>V.d (.list xs)) O).bind K).lift ρ) (VRel G F):=by
 rw[R.bind_assoc]
 refine DoesW.seqE (T₂:=fun vs Q E s₁=>vs.length≤sizeLine∧Q (.ref s₁.heap.objs.size) { s₁ with heap:=s₁.heap.push { cls:=.type "list",data:=.seq vs.toArray } }) (fun Q E h=>wpAny_List h) h1 fun s' β' vs ds O' e st sr rv=>?_
 have hz:vs.length≤sizeLine:=by rw[rv.length];exact Nat.le_trans (hl _ _ e) (by decide)
 have:((allD ds).map fun xs=>V.d (.list xs))=((allD ds).map PyData.list).map V.d:=by rw[Option.map_map];rfl
 rw[this]
 refine gw hK sr fun c hc=>?_
 cases hd:allD ds with
 | none=>rw[hd] at hc;cases hc
 | some xs=>
   rw[hd] at hc;cases hc
   exact LeafD.leaf sr fun Q E q=>⟨hz,q _ _ (KeepsAll.push s' _ s'.toks) ⟨zcu sr rv hd,fun _ _=>⟨_,rfl,z7 s',_,Heap.get?_push_size _ rfl,rfl,rfl⟩⟩⟩
theorem zqy{op:Bop}{o:Operator}{x y:Expr}{p:Pos}{ra:R za V}{rb:za→R za V}(hK:Fin2 K)(ho:zei op o=true)
 (h1:Does G F A s β (eval x F.env) (ra.lift ρ) (VRel G F)) (h2:∀ s' β' O',SR G F β' ρ O' s'.heap→Does G F A s' β' (eval y F.env) ((rb O').lift ρ) (VRel G F)) :
 Does G F A s β (eval (.BinOp x o y p) F.env) (((ra.bind fun v O=>(rb O).bind fun u O=>opt (((look O v).bind fun x=>(look O u).bind fun y=>zbm op x y).map V.d) O).bind K).lift ρ) (VRel G F):=by
 rw[R.bind_assoc]
 refine DoesW.seqE (T₂:=fun v Q E s₁=>wpAny (model G.prog G.w) A (eval y F.env) (fun u s₂=>wpAny (model G.prog G.w) A (binaryOp o v u) Q E s₂) E s₁) (fun Q E h=>wpAny_BinOp h) h1 fun s' β' v d O' _ st sr rv=>?_
 rw[R.bind_assoc]
 refine DoesW.seqE (T₂:=fun u=>tr G A (binaryOp o v u)) (fun Q E h=>h) (h2 s' β' O' sr) fun s₂ β₂ u d₂ O₂ _ st₂ sr₂ ru=>?_
 exact gw hK sr₂ fun c hc=>zmn ho sr₂ (rv.step sr.br sr.fm st₂) ru hc
noncomputable def fvOf:Prim→Value
 | .isinst _ | .isexc _=>.builtin "isinstance"
 | .len | .lenset=>.builtin "len"
 | .all=>.builtin "all"
 | .any=>.builtin "any"
 | .sum=>.builtin "sum"
 | .sorted | .sortedset=>.builtin "sorted"
 | .list=>.type "list"
 | .tuple=>.type "tuple"
 | .min2 | .min=>.builtin "min"
 | .max=>.builtin "max"
 | .int=>.type "int"
 | .str=>.type "str"
theorem zke(p:Prim):(wf p,fvOf p)∈bis:=by cases p <;> first | decide | exact (by decide:(("isinstance" : Str),Value.builtin "isinstance")∈bis)
theorem zmx(p:Prim):(∃ id,fvOf p=.builtin id)∨∃ T,fvOf p=.type T:=by cases p <;> first | exact .inl ⟨_,rfl⟩ | exact .inr ⟨_,rfl⟩
end
section
variable{G:Gl}{F:Fm}{A:Around}{s:Shared}{β:List Addr}{ρ:Loc}{O:za}{cx:Cx}{gval:Nat→Option PyData}{gname:Nat→Option Str}{P:Pg}{K:V→za→R za V}
theorem zma{p:Prim}{v:V}(hp:∀ c,p≠.isexc c):prim P p [v] O=opt (((look O v).bind fun x=>p9 P p [x]).map V.d) O:=by
 have:prim P p [v] O=(match ([v].mapM (look O)).bind (p9 P p) with | some y=>R.ok (V.d y) O | none=>.stuck):=by
  cases p <;> first | rfl | exact absurd rfl (hp _)
 rw[this]
 cases hl:look O v with
 | none=>simp[List.mapM_cons,hl,opt]
 | some x=>
   simp only[List.mapM_cons,List.mapM_nil,hl]
   show (match p9 P p [x] with | some y=>R.ok (V.d y) O | none=>.stuck)=opt ((p9 P p [x]).map V.d) O
   cases p9 P p [x] <;> rfl
noncomputable def zbo(G:Gl)(P:Pg):Prop:=∀ (A:Around) (F:Fm) (s:Shared) (β:List Addr) (ρ:Loc) (O:za) (v:Value) (d:V) (xs ys:List PyData) (k:Nat),Room A k→SR G F β ρ O s.heap→VR G F.B β s.heap v d→look O d=some (.list xs)→xs.length < 64→P.srt xs=some ys →
 LeafD G F s β (tr G A (call (.builtin "sorted") [v])) (V.d (.list ys)) (FRel G F s)
noncomputable def zll(G:Gl)(P:Pg):Prop:=P.sets=true→∀ (A:Around) (F:Fm) (s:Shared) (β:List Addr) (ρ:Loc) (O:za) (v:Value) (xs:List PyData) (is:List Int) (k:Nat),Room A k→A.handled=none→SR G F β ρ O s.heap→VR G F.B β s.heap v (.d (.tuple xs))→Mine.intsOf xs=some is→small is=true →
 LeafD G F s β (fun Q E s=>wpAny (model G.prog G.w) A (call (.type "set") [v]) (fun S s₁=>wpAny (model G.prog G.w) A (call (.builtin "len") [S]) Q E s₁) E s) (V.d (.int (wq is).length)) (FRel G F s) ∧
 LeafD G F s β (fun Q E s=>wpAny (model G.prog G.w) A (call (.type "set") [v]) (fun S s₁=>wpAny (model G.prog G.w) A (call (.builtin "sorted") [S]) Q E s₁) E s) (V.d (.list ((wq is).map .int))) (FRel G F s)
noncomputable def zln(G:Gl)(z:Str)(v:Value):Prop:=G.mg z=some v∨(G.mg z=none∧G.mb z=some v)
structure zhj(G:Gl)(P:Pg)(cname:Nat→Option Str):Prop where
 inst:∀ c z,cname c=some z→∃ cv,zln G z cv∧∀ (A:Around) (s:Shared) (x:Nat) (b:Bool) (e:Addr) (oe:Obj) (Q:Value→Shared→Prop) (E:Value→Shared→Prop),P.sub x c=some b→(∀ b o,G.h₀.get? b=some o→s.heap.get? b=some o) →
  s.heap.get? e=some oe→oe.cls=G.cls x→oe.dict=none→(∃ fs,oe.data=.fields fs)→(∀ s',KeepsAll s s'→Q (.bool b) s')→wpAny (model G.prog G.w) A (call (.builtin "isinstance") [.ref e,cv]) Q E s
 matches_:∀ c z,cname c=some z→∃ cv,zln G z cv∧∀ (A:Around) (s:Shared) (x:Nat) (b:Bool) (e:Addr) (oe:Obj) (Q:Bool→Shared→Prop) (E:Value→Shared→Prop),P.sub x c=some b→(∀ b o,G.h₀.get? b=some o→s.heap.get? b=some o) →
  s.heap.get? e=some oe→oe.cls=G.cls x→Q b s→wpAny (model G.prog G.w) A (excMatches (.ref e) cv) Q E s
 raise:∀ (c:Nat) (z:Str) (A:Around) (s:Shared) (env:Env) (x:Str) (y:Str) (np cpos pos yp:Pos) (yk:Nat) (Q:Flow→Shared→Prop) (E:Value→Shared→Prop),cname c=some z→c≠0→A.handled=none→(∀ b o,G.h₀.get? b=some o→s.heap.get? b=some o) →
  env.scope.kind=.function→env.globals=mainGlobals→env.kindOf z=some .globalImplicit→(z == ("__debug__" : Str))=false →
  (∀ h' tk e t oe,(∀ b o,s.heap.get? b=some o→h'.get? b=some o)→s.heap.get? e=none→h'.get? e=some oe→oe.cls=G.cls c→oe.dict=none→oe.data=.fields t→t[1]?=some .none→E (.ref e) { s with heap:=h',toks:=tk }) →
  wpAny (model G.prog G.w) A (exec (.Raise (some (.Call (.Name z np) [.Constant (.str y) yk yp] [] cpos)) none pos) env) Q E s
theorem qt{f:List PyData→Option PyData}{x y:PyData}(h:zdk f x=some y):∃ xs,x=.list xs∧f xs=some y:=by
 cases x <;> first | (cases h;done) | skip
 exact⟨_,rfl,h⟩
theorem zpm{p:Prim}{v:Value}{d:V}{x y:PyData}{k:Nat}(hp:p.plain=true)(hh:p.calm=true∨A.handled=none)(so:zbo G P)(ro:Room A k)(sr:SR G F β ρ O s.heap)(rv:VR G F.B β s.heap v d)(hx:look O d=some x)(e:za0 P p x=some y) :
 LeafD G F s β (tr G A (call (fvOf p) [v])) (V.d y) (FRel G F s):=by
 have hh':p.calm=false→A.handled=none:=fun h=>by
  rcases hh with hh | hh
  ·rw[h] at hh;cases hh
  ·exact hh
 cases p with
 | len=>
   cases x with
   | list xs=>obtain⟨h1,rfl⟩:=yz e;exact zfp sr rv hx h1
   | tuple xs=>
     obtain⟨h1,rfl⟩:=yz e
     have:=yi hx (fun _ h=>by cases h);subst this
     exact zdm sr rv h1
   | _=>cases e
 | all=>
   obtain⟨xs,rfl,e⟩:=qt e
   obtain⟨bs,hb,rfl⟩:=Option.map_eq_some_iff.mp e
   exact zr3 (hh' rfl) sr rv hx hb
 | any=>
   obtain⟨xs,rfl,e⟩:=qt e
   obtain⟨bs,hb,rfl⟩:=Option.map_eq_some_iff.mp e
   exact zr2 (hh' rfl) sr rv hx hb
 | sum=>
   obtain⟨xs,rfl,e⟩:=qt e
   obtain⟨bs,hb,rfl⟩:=Option.map_eq_some_iff.mp e
   exact l_sum (hh' rfl) sr rv hx hb
 | sorted=>
   obtain⟨xs,rfl,e⟩:=qt e
   have e:(if xs.length < 64 then (P.srt xs).map PyData.list else none)=some y:=e
   by_cases hl:xs.length < 64
   ·rw[if_pos hl] at e
    obtain⟨ys,hs,rfl⟩:=Option.map_eq_some_iff.mp e
    exact so A F s β ρ O v d xs ys k ro sr rv hx hl hs
   ·rw[if_neg hl] at e;cases e
 | list=>
   cases x with
   | list xs=>obtain⟨h1,rfl⟩:=yz e;exact zjy sr rv hx rfl h1
   | tuple xs=>obtain⟨h1,rfl⟩:=yz e;exact zjy sr rv hx rfl h1
   | _=>cases e
 | tuple=>
   cases x with
   | list xs=>obtain⟨h1,rfl⟩:=yz e;exact zb8 sr rv hx h1
   | tuple xs=>
     cases e
     have:=yi hx (fun _ h=>by cases h);subst this
     exact zah sr rv
   | _=>cases e
 | int=>
   cases x with
   | bool b=>
     cases e
     have:=yi hx (fun _ h=>by cases h);subst this
     exact zfq sr rv
   | _=>cases e
 | min=>cases e
 | max=>cases e
 | str=>cases e
 | isinst _=>cases hp
 | isexc _=>cases hp
 | min2=>cases hp
 | lenset=>cases hp
 | sortedset=>cases hp
set_option tactic.hygienic true in
theorem zni{p:Prim}{y:Expr}{ps q:Pos}{r:R za V}{k:Nat}(hK:Fin2 K)(hp:p.plain=true)(hh:p.calm=true∨A.handled=none)(so:zbo G P)(ro:Room A k)(g:GOk G gval gname)(sr:SR G F β ρ O s.heap)(fit:Fits F cx)(hx:cx.isGlob (wf p)=true)
 (he:starEach [y] F.env=(false,eval y F.env)::starEach [] F.env) (h1:Does G F A s β (eval y F.env) (r.lift ρ) (VRel G F)) :
 Does G F A s β (eval (.Call (.Name (wf p) ps) [y] [] q) F.env) ((((r.bind fun v O=>R.ok [v] O).bind fun vs O=>prim P p vs O).bind K).lift ρ) (VRel G F):=by
 rw[R.bind_assoc]
 refine wt (r:=r.bind fun v O=>R.ok [v] O) g sr fit hx (zke p) (zmx p) he rfl (yn he h1 fun s' β' O' sr'=>xg sr') fun s' β' vals vs O' e st sr' rvs=>?_
 cases r with
 | stuck=>cases e
 | ok v O₁=>
   cases (e)
   cases rvs with
   | cons rv rs=>cases rs with
     | nil=>
       rename_i val
       have hpr:=zma (P:=P) (v:=v) (O:=O') (p:=p) (fun c e=>by subst e;cases hp)
       rw[hpr]
       refine gw hK sr' fun c hc=>?_
       cases hl:look O' v with
       | none=>rw[hl] at hc;cases hc
       | some x=>rw[hl] at hc;exact zpm hp hh so ro sr' rv hl (show za0 P p x=some c from hc)
theorem zk7{t:Ty}{y:Expr}{ps pz q:Pos}{r:R za V}(g:GOk G gval gname)(sr:SR G F β ρ O s.heap)(fit:Fits F cx)(hx:cx.isGlob "isinstance" = true)(hz:cx.isGlob (vf t)=true)
 (he:∀ rest,starEach (y::rest) F.env=(false,eval y F.env)::starEach rest F.env) (h1:Does G F A s β (eval y F.env) (r.lift ρ) (VRel G F)) :
 Does G F A s β (eval (.Call (.Name "isinstance" ps) [y,.Name (vf t) pz] [] q) F.env) (((r.bind fun v O=>R.ok [v] O).bind fun vs O=>prim P (.isinst t) vs O).lift ρ) (VRel G F):=by
 obtain⟨b1,b2⟩:=g.bi _ (zke (.isinst t))
 have e1:((r.bind fun v O=>R.ok [v] O).bind fun vs O=>prim P (.isinst t) vs O)=r.bind fun v O=>opt (((look O v).map fun x=>V.d (.bool (isTy t x)))) O:=by
  rw[R.bind_assoc]
  cases r with
  | ok v O₁=>
    show prim P (.isinst t) [v] O₁=opt (((look O₁ v).map fun x=>V.d (.bool (isTy t x)))) O₁
    unfold prim
    cases hl:look O₁ v with
    | none=>simp[List.mapM_cons,hl,opt]
    | some x=>simp[List.mapM_cons,hl,opt,p9,za0]
  | _=>rfl
 rw[e1]
 have hne:starEach [Expr.Name (vf t) pz] F.env=(false,eval (.Name (vf t) pz) F.env)::starEach [] F.env:=rfl
 obtain⟨c1,c2⟩:=g.bi _ (zol t)
 refine DoesW.seqE (T₂:=fun v Q E s₁=>wpAny (model G.prog G.w) A (eval (.Name (vf t) pz) F.env) (fun c s₂=>wpAny (model G.prog G.w) A (call (.builtin "isinstance") [v,c]) Q E s₂) E s₁)
  (fun Q E h=>Call_Name rfl (ym g sr fit hx b1 b2 (callWith_builtin1 (spliced_more (wpAny_mono h (fun v s₁ h₁=>spliced_more (wpAny_mono h₁ (fun c s₂ h₂=>spliced_none h₂) (fun _ _ x=>x)) hne) (fun _ _ x=>x)) (he _)) (he _) rfl))) h1 fun s' β' val v O' _ st sr' rv=>?_
 cases hl:look O' v with
 | none=>trivial
 | some x=>exact ((zjz sr' rv hl).does sr').weaken (fun Q E h=>ym g sr' fit hz c1 c2 h) fun _ _ _ _ r=>r.1
end
structure Run(G:Gl)(A:Around)(P:Pg)(fname gname cname:Nat→Option Str):Prop where
 g:GOk G P.gval gname
 ro:Room A 0
 hm:P.hd=false→A.handled=none
 ck:∀ A' hd,Like A A'→(hd=false→A'.handled=none)→pj G A' fname (P.call hd)
 so:zbo G P
 se:zll G P
 cl:zhj G P cname
noncomputable def zji:Expr→Bool
 | .Set _ _ _=>false
 | .Starred _ _=>false
 | .Slice _ _ _ _=>false
 | _=>true
noncomputable def PX(e:Expr):Prop:=zji e=true
theorem PX.star{e:Expr}(h:PX e){env:Env}{rest:List Expr}:starEach (e::rest) env=(false,eval e env)::starEach rest env:=by
 cases e <;> first | rfl | cases h
theorem PX.set{e:Expr}(h:PX e):∀ l k p,e≠.Set l k p:=fun _ _ _ q=>by subst q;cases h
theorem PX.slice{e:Expr}(h:PX e):∀ l u t p,e≠.Slice l u t p:=fun _ _ _ _ q=>by subst q;cases h
theorem zix(ra:R za V)(rb:za→R za V):tv (ra.bind fun v O=>(opt (truth v) O).bind (andK rb))=(tv ra).bind fun t O=>(match t with | true=>tv (rb O) | false=>R.ok false O):=by
 cases ra with
 | ok v O=>
   show tv ((opt (truth v) O).bind (andK rb))=(opt (truth v) O).bind _
   cases truth v with
   | none=>rfl
   | some b=>cases b <;> rfl
 | _=>rfl
theorem znv(ra:R za V)(rb:za→R za V):tv (ra.bind fun v O=>(opt (truth v) O).bind (orK rb))=(tv ra).bind fun t O=>(match t with | true=>R.ok true O | false=>tv (rb O)):=by
 cases ra with
 | ok v O=>
   show tv ((opt (truth v) O).bind (orK rb))=(opt (truth v) O).bind _
   cases truth v with
   | none=>rfl
   | some b=>cases b <;> rfl
 | _=>rfl
theorem zhd(r:R za Bool):(r.bind fun t O=>(match t with | true=>R.ok true O | false=>R.ok false O))=r:=by
 cases r with
 | ok t O=>cases t <;> rfl
 | _=>rfl
section
variable{G:Gl}{F:Fm}{A:Around}{s:Shared}{β:List Addr}{ρ:Loc}{O:za}
end
noncomputable def CEs.len:CEs→Nat
 | .nil=>0
 | .cons _ es=>es.len+1
theorem zdw{P:Pg}{ρ:Loc}:∀ (es:CEs) (O:za) (vs:List V) (O':za),evEs P ρ es O=.ok vs O'→vs.length=es.len
 | .nil,O,vs,O',h=>by cases h;rfl
 | .cons e es,O,vs,O',h=>by
   unfold evEs at h
   cases he:evE P ρ e O with
   | stuck=>rw[he] at h;cases h
   | ok v O₁=>
     rw[he] at h
     cases hes:evEs P ρ es O₁ with
     | stuck=>simp only[R.bind,hes] at h;cases h
     | ok ws O₂=>
       simp only[R.bind,hes] at h
       cases h
       exact congrArg (· + 1) (zdw es O₁ ws _ hes)
set_option tactic.hygienic true in
theorem zi4{v:V}{O O':za}{src:Src}(h:srcV v O=.ok src O'):src.Has O':=by
 unfold srcV at h
 split at h
 ·rename_i x
  cases hi:items x with
  | none=>rw[hi] at h;cases h
  | some xs=>rw[hi] at h;cases h;trivial
 ·split at h
  ·cases h;assumption
  ·cases h
 ·cases h
theorem qh{α β:Type}{r:R za α}{f:α→za→R za β}{b:β}{O:za}(h:r.bind f=.ok b O):∃ a O₁,r=.ok a O₁∧f a O₁=.ok b O:=by
 cases r with
 | ok a O₁=>exact⟨a,O₁,rfl,h⟩
 | _=>cases h
section
variable{G:Gl}{F:Fm}{A:Around}{s:Shared}{β:List Addr}{ρ:Loc}{O:za}{cx:Cx}{gval:Nat→Option PyData}{gname:Nat→Option Str}{K:V→za→R za V}
set_option tactic.hygienic true in
theorem zea{y:Expr}{p q:Pos}{r:R za (Int×Int)}(hK:Fin2 K)(g:GOk G gval gname)(hh:A.handled=none)(sr:SR G F β ρ O s.heap)(fit:Fits F cx)(hx:cx.isGlob "list" = true)(he:starEach [y] F.env=(false,eval y F.env)::starEach [] F.env)
 (hs:∀ p O',r=.ok p O'→zbp p) (h1:Does G F A s β (eval y F.env) (r.lift ρ) (RRel s)) :
 Does G F A s β (eval (.Call (.Name "list" p) [y] [] q) F.env) (((r.bind fun p O=>if (zj p.1 p.2).length≤line then R.ok (V.d (.list (zj p.1 p.2))) O else .stuck).bind K).lift ρ) (VRel G F):=by
 obtain ⟨b1,b2⟩:=g.bi ("list",.type "list") (by decide)
 rw[R.bind_assoc]
 refine DoesW.seqE (T₂:=fun v=>tr G A (call (.type "list") [v])) (fun Q E h=>Call_Name rfl (ym g sr fit hx b1 b2 (callWith_type1 (spliced_more (wpAny_mono h (fun v s₁ h₁=>spliced_none h₁) (fun _ _ x=>x)) he) he rfl))) h1 fun s' β' v d O' e st sr' rv=>?_
 obtain⟨rr,t,u,w,rfl,hr⟩:=rv
 obtain⟨p1,p2,p3,p4⟩:=hs _ _ e
 split
 ·rename_i hlen
  refine LeafD.fin2 (c:=.list (zj d.1 d.2)) hK sr' (LeafD.leaf sr' fun Q E k=>call_list_range (n:=(d.2 - d.1).toNat) hh hr (small_one (by omega) (by omega) (by omega) (by omega)) we ?_ fun h' tk acc' c' hk hS hacc=>?_)
  ·have:(zj d.1 d.2).length=(d.2 - d.1).toNat:=by unfold zj;simp
   rw[this] at hlen
   exact Nat.le_trans hlen (by decide)
  ·have hra:∃ as,ReadsAll h' acc'.toList (zj d.1 d.2) as∧∀ a∈as,a∉β'∧a∉F.B:=by
    refine⟨[],?_,fun _ h=>nomatch h⟩
    obtain⟨hsz,hit⟩:=hacc
    have key:∀ (l:List Value) (xs:List PyData),l.length=xs.length→(∀ (i:Nat) (h:i < l.length) (h2:i < xs.length),∃ t n,l[i]=.int n t∧xs[i]=.int n)→ReadsAll h' l xs []:=by
     intro l
     induction l with
     | nil=>intro xs hl _;cases xs with
       | nil=>exact .nil
       | cons _ _=>cases hl
     | cons v l ih=>
       intro xs hl hx
       cases xs with
       | nil=>cases hl
       | cons x xs=>
         obtain ⟨t,n,e1,e2⟩:=hx 0 (by simp) (by simp)
         have e1:v=.int n t:=e1
         have e2:x=.int n:=e2
         subst e1;subst e2
         refine ReadsAll.cons (as:=[]) (bs:=[]) (.int n t) (ih xs (by simpa using hl) fun i h h2=>?_)
         exact hx (i+1) (by simpa using h) (by simpa using h2)
    refine key _ _ ?_ fun i h h2=>?_
    ·rw[Array.length_toList,hsz];unfold zj;simp
    ·obtain⟨t,ht⟩:=hit i acc'.toList[i] (by rw[← Array.getElem?_toList];exact List.getElem?_eq_getElem h)
     refine⟨t,_,ht,?_⟩
     have hlen':(zj d.1 d.2).length=(d.2 - d.1).toNat:=by unfold zj;simp
     have e9:(zj d.1 d.2)[i]?=some (.int (d.1+i)):=by
      unfold zj
      rw[List.getElem?_map,List.getElem?_range (by rw[← hlen'];exact h2)];rfl
     rw[List.getElem?_eq_getElem h2] at e9
     rw[Option.some.inj e9,Int.mul_one]
   obtain⟨as,r1,q1⟩:=hra
   exact k _ _ (xe hk) ⟨xd hS rfl rfl r1 q1 sr'.size_new,fun _ _=>⟨_,rfl,z7 s',_,hS,rfl,rfl⟩⟩
 ·trivial
end
structure Here(G:Gl)(A:Around)(P:Pg)(F:Fm)(cx:Cx):Prop where
 run:Run G A P cx.fname cx.gname cx.cname
 fit:Fits F cx
 fr:FrA A F
structure zlo(G:Gl)(A:Around)(P:Pg)(F:Fm)(cx:Cx):Prop extends Here G A P F cx where
 top:TopA A F
 own:∀ x,ownOf cx.sc x=true→F.own x=true
structure JK(cx:Cx)(x:Expr)(c:CE):Prop where
 px:PX x
 d:∀ {G:Gl} {A:Around} {P:Pg} {F:Fm} {s:Shared} {β:List Addr} {ρ:Loc} {O:za} {K:V→za→R za V},Here G A P F cx→SR G F β ρ O s.heap→Fin2 K→Does G F A s β (eval x F.env) (((evE P ρ c O).bind K).lift ρ) (VRel G F)
structure JE(cx:Cx)(x:Expr)(c:CE):Prop where
 px:PX x
 d:∀ {G:Gl} {A:Around} {P:Pg} {F:Fm} {s:Shared} {β:List Addr} {ρ:Loc} {O:za},Here G A P F cx→SR G F β ρ O s.heap→Does G F A s β (eval x F.env) ((evE P ρ c O).lift ρ) (VRel G F)
structure JT(cx:Cx)(x:Expr)(c:CE):Prop where
 d:∀ {G:Gl} {A:Around} {P:Pg} {F:Fm} {s:Shared} {β:List Addr} {ρ:Loc} {O:za},Here G A P F cx→SR G F β ρ O s.heap→Does G F A s β (isTrue x F.env (eval x F.env)) ((tv (evE P ρ c O)).lift ρ) BRel
structure JEs(cx:Cx)(l:List Expr)(es:CEs):Prop where
 d:∀ {G:Gl} {A:Around} {P:Pg} {F:Fm} {s:Shared} {β:List Addr} {ρ:Loc} {O:za} {pos:Pos},Here G A P F cx→SR G F β ρ O s.heap→Does G F A s β (spliced (backTo pos (starEach l F.env))) ((evEs P ρ es O).lift ρ) (VRsl G F)
structure JIfs(cx:Cx)(l:List Expr)(es:CEs):Prop where
 d:∀ {G:Gl} {A:Around} {P:Pg} {F:Fm} {s:Shared} {β:List Addr} {ρ:Loc} {O:za},Here G A P F cx→SR G F β ρ O s.heap→Does G F A s β (y8 l F.env) ((xy P ρ es O).lift ρ) BRel
structure JI(cx:Cx)(x:Expr)(it:CI):Prop where
 px:PX x
 d:∀ {G:Gl} {A:Around} {P:Pg} {F:Fm} {s:Shared} {β:List Addr} {ρ:Loc} {O:za} {target:Expr},A.handled=none→Here G A P F cx→SR G F β ρ O s.heap→DoesW G F s β (za6 G A x F.env) ((evI P ρ it O).lift ρ) (IRel G F A target s)
 has:∀ {P:Pg} {ρ:Loc} {O O':za} {src:Src},evI P ρ it O=.ok src O'→src.Has O'
structure JR(cx:Cx)(x:Expr)(a b:CE):Prop where
 px:PX x
 d:∀ {G:Gl} {A:Around} {P:Pg} {F:Fm} {s:Shared} {β:List Addr} {ρ:Loc} {O:za},Here G A P F cx→SR G F β ρ O s.heap→Does G F A s β (eval x F.env) ((rng a b P ρ O).lift ρ) (RRel s)
structure JS(cx:Cx)(st:Stmt)(c:CS):Prop where
 d:∀ {G:Gl} {A:Around} {P:Pg} {F:Fm} {s:Shared} {β:List Addr} {ρ:Loc} {O:za},zlo G A P F cx→SR G F β ρ O s.heap→Does G F A s β (exec st F.env) (evS P c ρ O) (yv G F)
structure JSs(cx:Cx)(l:List Stmt)(c:CSs):Prop where
 d:∀ {G:Gl} {A:Around} {P:Pg} {F:Fm} {s:Shared} {β:List Addr} {ρ:Loc} {O:za},zlo G A P F cx→SR G F β ρ O s.heap→Does G F A s β (execs l F.env) (evSs P c ρ O) (yv G F)
section
variable{cx:Cx}{x y z u:Expr}{a b c:CE}{p q ps pz:Pos}
theorem JK.e(h:JK cx x c):JE cx x c:=⟨h.px,fun hr sr=>by have:=h.d hr sr .plain;rwa [R.bind_ok] at this⟩
theorem zmr(h:JK cx x c):JE cx x (.boxed c):=⟨h.px,fun hr sr=>h.d hr sr .box⟩
theorem zpr{k:Nat}:JE cx (.Constant .none k p) .none:=⟨rfl,fun {G A P F s β ρ O} hr sr=>Does.leaf sr fun Q E q=>wpAny_Constant_none (q _ _ (KeepsAll.refl s) VR.none)⟩
theorem zpz{k:Nat}{v:Bool}:JE cx (.Constant (.bool v) k p) (.bool v):=⟨rfl,fun {G A P F s β ρ O} hr sr=>Does.leaf sr fun Q E q=>wpAny_Constant_bool (q _ _ (KeepsAll.refl s) VR.bool)⟩
theorem zsb{k:Nat}{v:Int}:JE cx (.Constant (.int v) k p) (.int v):=⟨rfl,fun {G A P F s β ρ O} hr sr=>Does.leaf sr fun Q E q=>wpAny_Constant_int (q _ _ (KeepsAll.toks s _) VR.int)⟩
theorem zr7{k:Nat}{v:Str}:JE cx (.Constant (.str v) k p) (.str v):=⟨rfl,fun {G A P F s β ρ O} hr sr=>Does.leaf sr fun Q E q=>wpAny_Constant_str (q _ _ (KeepsAll.toks s _) VR.str)⟩
theorem zr9{i:Nat}{n:Str}(h:cx.isLoc i n=true):JE cx (.Name n p) (.loc i):=⟨rfl,fun hr sr=>zsw sr hr.fit h⟩
theorem zpw{k:Nat}{n:Str}(h:(cx.gname k == some n && cx.isGlob n)=true):JE cx (.Name n p) (.glob k):=⟨rfl,fun hr sr=>zqr hr.run.g sr hr.fit (beq_iff_eq.mp (and2 h).1) (and2 h).2⟩
theorem zjt{es:CEs}(hl:Nat.ble es.len 1000=true){P:Pg}{ρ:Loc}{O:za}(vs:List V)(O':za)(e:evEs P ρ es O=.ok vs O'):vs.length≤line:=by
 rw[zdw es O vs O' e];exact Nat.le_trans (Nat.le_of_ble_eq_true hl) (by decide)
theorem zr6{l:List Expr}{es:CEs}{k:Nat}(h:JEs cx l es)(hl:Nat.ble es.len 1000=true):JE cx (.Tuple l k p) (.tup es):=⟨rfl,fun hr sr=>zss (zjt hl) (h.d hr sr)⟩
theorem zpi{l:List Expr}{es:CEs}(h:JEs cx l es)(hl:Nat.ble es.len 1000=true):JK cx (.List l p) (.list es):=⟨rfl,fun hr sr k=>znj k (zjt hl) (h.d hr sr)⟩
theorem zr8(h:JE cx x a):JE cx (.UnaryOp .USub x p) (.neg a):=⟨rfl,fun hr sr=>zsu (h.d hr sr)⟩
theorem j_nt(h:JE cx x a):JE cx (.UnaryOp .Not x p) (.nt a):=⟨rfl,fun hr sr=>d_nt (h.d hr sr)⟩
theorem zp1(h1:JE cx x a)(h2:JE cx y b):JE cx (.BoolOp .And [x,y] p) (.and_ a b):=⟨rfl,fun {G A P F s β ρ O} hr sr=>zn9 (rb:=fun O=>evE P ρ b O) (h1.d hr sr) fun s' β' O' sr'=>h2.d hr sr'⟩
theorem zp0{r:List Expr}(h1:JE cx x a)(h2:JE cx (.BoolOp .And (y::z::r) p) b):JE cx (.BoolOp .And (x::y::z::r) p) (.and_ a b):=⟨rfl,fun {G A P F s β ρ O} hr sr=>zn9 (rb:=fun O=>evE P ρ b O) (h1.d hr sr) fun s' β' O' sr'=>h2.d hr sr'⟩
theorem zrv{op:Bop}{o:Operator}(h1:JE cx x a)(h2:JE cx y b)(ho:zei op o=true):JK cx (.BinOp x o y p) (.bin op a b):=⟨rfl,fun {G A P F s β ρ O K} hr sr k=>zqy (rb:=fun O=>evE P ρ b O) k ho (h1.d hr sr) fun s' β' O' sr'=>h2.d hr sr'⟩
theorem zsd{op:Cop}{o:CmpOp}(h1:JE cx x a)(h2:JE cx y b)(ho:xz op o=true):JE cx (.Compare x [o] [y] p) (.cmp op a b):=⟨rfl,fun {G A P F s β ρ O} hr sr=>zs0 (rb:=fun O=>evE P ρ b O) hr.run.ro ho h2.px.set (h1.d hr sr) fun s' β' O' sr'=>h2.d hr sr'⟩
theorem zmq{op1 op2:Cop}{o1 o2:CmpOp}(h1:JE cx x a)(h2:JE cx y b)(h3:JE cx z c)(ho:xz op1 o1=true)(ho2:xz op2 o2=true):JE cx (.Compare x [o1,o2] [y,z] p) (.chain op1 op2 a b c):=
 ⟨rfl,fun {G A P F s β ρ O} hr sr=>znk (rb:=fun O=>evE P ρ b O) (rc:=fun O=>evE P ρ c O) hr.run.ro ho ho2 h2.px.set h3.px.set (h1.d hr sr) (fun s' β' O' sr'=>h2.d hr sr') fun s' β' O' sr'=>h3.d hr sr'⟩
theorem zsa(h1:JT cx x a)(h2:JE cx y b)(h3:JE cx z c):JE cx (.IfExp x y z p) (.ite a b c):=
 ⟨rfl,fun {G A P F s β ρ O} hr sr=>zsx (ra:=fun O=>evE P ρ b O) (rb:=fun O=>evE P ρ c O) (h1.d hr sr) (fun s' β' O' sr'=>h2.d hr sr') fun s' β' O' sr'=>h3.d hr sr'⟩
theorem zsc(h1:JE cx x a)(h2:JE cx y b):JE cx (.Subscript x y p) (.idx a b):=⟨rfl,fun {G A P F s β ρ O} hr sr=>zsz (rb:=fun O=>evE P ρ b O) hr.run.ro h2.px.slice (h1.d hr sr) fun s' β' O' sr'=>h2.d hr sr'⟩
structure JP(cx:Cx)(o:Option Expr)(c:CE):Prop where
 d:∀ {G:Gl} {A:Around} {P:Pg} {F:Fm} {s:Shared} {β:List Addr} {ρ:Loc} {O:za},Here G A P F cx→SR G F β ρ O s.heap→Does G F A s β (evalPart o F.env) ((evE P ρ c O).lift ρ) (VRel G F)
theorem zpe:JP cx none .none:=⟨fun hr sr=>zd9 sr⟩
theorem zpd(h:JE cx x c):JP cx (some x) c:=⟨fun hr sr=>h.d hr sr⟩
theorem zmp{lo hi:Option Expr}(h1:JE cx x a)(h2:JP cx lo b)(h3:JP cx hi c):JE cx (.Subscript x (.Slice lo hi none ps) p) (.slice a b c):=
 ⟨rfl,fun {G A P F s β ρ O} hr sr=>znf (rl:=fun O=>evE P ρ b O) (rh:=fun O=>evE P ρ c O) (h1.d hr sr) (fun s' β' O' sr'=>h2.d hr sr') fun s' β' O' sr'=>h3.d hr sr'⟩
theorem Here.inner{G:Gl}{A:Around}{P:Pg}{F:Fm}{tgt:CT}{t:Expr}{scope:Scope}(hr:Here G A P F cx)(hk:F.env.scope.kind=.function)(h1:y9 scope cx.sc=true)(C D:Addr):Here G A P (zh cx F tgt t scope C D) (cx.inner tgt t scope):=
 ⟨hr.run,g7 hr.fit hk h1 C D,hr.fr⟩
theorem zjo{t:Expr}{fs:List Expr}{scope:Scope}{tgt:CT}{it:CI}{ifs:CEs}(hi:JI cx y it)(hf:JIfs (cx.inner tgt t scope) fs ifs)(hx:JE (cx.inner tgt t scope) x c)
 (hc:(y9 scope cx.sc && xf (cx.inner tgt t scope).names && chkT (cx.inner tgt t scope) (ownOf scope) tgt t)=true):JK cx (.ListComp x [⟨t,y,fs,0⟩] scope p) (.comp c tgt it ifs):=
 ⟨rfl,fun {G A P F s β ρ O K} hr sr k=>by
   obtain⟨h1,h2,h3⟩:=and3 hc
   show Does G F A s β _ (R.lift ρ ((if P.hd=true then .stuck else _:R za V).bind K)) _
   by_cases hd:P.hd=true
   ·rw[if_pos hd];trivial
   rw[if_neg hd]
   have hh:=hr.run.hm (Bool.eq_false_iff.mpr hd)
   exact zqv (r:=evI P ρ it O) (evT:=fun ρ O=>xy P ρ ifs O) (evX:=fun ρ O=>evE P ρ c O) hr.run.g hh hr.fit h1 h2 h3 hi.px.set (fun C D s' β' ρ' O' sr'=>hf.d (hr.inner sr.fm.kind h1 C D) sr') (fun C D s' β' ρ' O' sr'=>hx.d (hr.inner sr.fm.kind h1 C D) sr') sr (hi.d hh hr sr) (fun _ _ e=>hi.has e) k⟩
theorem zay{P:Pg}{ρ:Loc}{O O':za}{pr:Int×Int}(h:rng a b P ρ O=.ok pr O'):zbp pr:=by
 obtain⟨v,O₁,_,h⟩:=qh h
 obtain⟨w,O₂,_,h⟩:=qh h
 exact (zb2 h).1
theorem zrl(h:JE cx y b)(hg:cx.isGlob "range" = true):JR cx (.Call (.Name "range" ps) [y] [] q) (.int 0) b:=⟨rfl,fun hr sr=>zk3 hr.run.g sr hr.fit hg rfl h.px.star (h.d hr sr)⟩
theorem zrk(h1:JE cx x a)(h2:JE cx y b)(hg:cx.isGlob "range" = true):JR cx (.Call (.Name "range" ps) [x,y] [] q) a b:=⟨rfl,fun {G A P F s β ρ O} hr sr=>zk2 (rb:=fun O=>evE P ρ b O) hr.run.g sr hr.fit hg rfl h1.px.star h2.px.star (h1.d hr sr) fun s' β' O' sr'=>h2.d hr sr'⟩
theorem zmw(h:JR cx x a b):JI cx x (.range a b):=⟨h.px,fun hh hr sr=>zck hr.run.g hh (fun _ _ e=>zay e) (h.d hr sr),fun e=>by obtain⟨_,_,_,e⟩:=qh e;cases e;trivial⟩
theorem i_e(h:JE cx x a):JI cx x (.e a):=⟨h.px,fun hh hr sr=>zk6 hr.run.g hh (h.d hr sr),fun e=>by obtain⟨_,_,_,e⟩:=qh e;exact zi4 e⟩
theorem zmj(h:JR cx y a b)(hg:cx.isGlob "list" = true):JK cx (.Call (.Name "list" ps) [y] [] q) (.listI (.range a b)):=
 ⟨rfl,fun {G A P F s β ρ O K} hr sr k=>by
   show Does G F A s β _ (R.lift ρ ((if P.hd=true then .stuck else _:R za V).bind K)) _
   by_cases hd:P.hd=true
   ·rw[if_pos hd];trivial
   rw[if_neg hd]
   have e1:((evI P ρ (.range a b) O).bind fun src O=>if src.xs.length≤line then R.ok (V.d (.list src.xs)) O else .stuck)=(rng a b P ρ O).bind fun p O=>if (zj p.1 p.2).length≤line then R.ok (V.d (.list (zj p.1 p.2))) O else .stuck:=R.bind_assoc _ _ _
   rw[e1]
   exact zea k hr.run.g (hr.run.hm (Bool.eq_false_iff.mpr hd)) sr hr.fit hg h.px.star (fun _ _ e=>zay e) (h.d hr sr)⟩
theorem zpy{f:Nat}{n:Str}{l:List Expr}{es:CEs}(h:JEs cx (x::l) es)(hx:zji x=true)(hf:(cx.fname f == some n && cx.isGlob n)=true):JE cx (.Call (.Name n p) (x::l) [] q) (.call f es):=
 ⟨rfl,fun {G A P F s β ρ O} hr sr=>zqx (fname:=cx.fname) hr.run.g (hr.run.ck A P.hd (Like.refl A) hr.run.hm) hr.fr sr hr.fit (beq_iff_eq.mp (and2 hf).1) (and2 hf).2 (PX.star hx) (h.d hr sr)⟩
theorem zpf{P:Pg}{ρ:Loc}{O:za}:evEs P ρ (.cons a .nil) O=(evE P ρ a O).bind fun v O=>R.ok [v] O:=rfl
theorem znn{G:Gl}{A:Around}{P:Pg}{f g h:Nat→Option Str}{pr:Prim}(run:Run G A P f g h)(hd:¬(P.hd && !pr.calm)=true):pr.calm=true∨A.handled=none:=by
 cases hc:pr.calm with
 | true=>exact .inl rfl
 | false=>
   rw[hc] at hd
   exact .inr (run.hm (by cases hh:P.hd with | false=>rfl | true=>rw[hh] at hd;exact absurd rfl hd))
theorem zmi{pr:Prim}{n:Str}(h:JE cx y a)(hp:(n == wf pr && pr.plain && cx.isGlob n)=true):JK cx (.Call (.Name n ps) [y] [] q) (.prim pr (.cons a .nil)):=
 ⟨rfl,fun {G A P F s β ρ O K} hr sr k=>by
   obtain⟨h1,h2,h3⟩:=and3 hp
   have:=beq_iff_eq.mp h1;subst this
   show Does G F A s β _ (R.lift ρ ((if (P.hd && !pr.calm)=true then .stuck else _:R za V).bind K)) _
   by_cases hd:(P.hd && !pr.calm)=true
   ·rw[if_pos hd];trivial
   rw[if_neg hd]
   exact zni k h2 (znn hr.run hd) hr.run.so hr.run.ro hr.run.g sr hr.fit h3 h.px.star (h.d hr sr)⟩
theorem zj5{t:Ty}{n:Str}(h:JE cx y a)(hp:(n == vf t && cx.isGlob "isinstance" && cx.isGlob n)=true):JE cx (.Call (.Name "isinstance" ps) [y,.Name n pz] [] q) (.prim (.isinst t) (.cons a .nil)):=
 ⟨rfl,fun {G A P F s β ρ O} hr sr=>by
   obtain⟨h1,h2,h3⟩:=and3 hp
   have:=beq_iff_eq.mp h1;subst this
   have hd:(P.hd && !(Prim.isinst t).calm)=false:=by cases P.hd <;> rfl
   show Does G F A s β _ (R.lift ρ (if (P.hd && !(Prim.isinst t).calm)=true then .stuck else _:R za V)) _
   rw[hd,if_neg (by decide)]
   exact zk7 hr.run.g sr hr.fit h2 h3 (fun rest=>h.px.star) (h.d hr sr)⟩
theorem zj6(h1:JE cx x a)(h2:JE cx y b)(hm:zb6 x p q=true):JE cx (.Call (.Attribute x "append" p) [y] [] q) (.meth .append a (.cons b .nil)):=
 ⟨rfl,fun {G A P F s β ρ O} hr sr=>by
   have e1:∀ (v:V) (O:za),((evEs P ρ (.cons b .nil) O).bind fun vs O=>meth .append v vs O)=(evE P ρ b O).bind fun u O=>meth .append v [u] O:=fun v O=>by
    rw[zpf,R.bind_assoc];cases evE P ρ b O <;> rfl
   have e2:evE P ρ (.meth .append a (.cons b .nil)) O=(evE P ρ a O).bind fun v O=>if recv .append v O=true then (evE P ρ b O).bind fun u O=>meth .append v [u] O else .stuck:=by
    show ((evE P ρ a O).bind fun v O=>if recv .append v O=true then (evEs P ρ (.cons b .nil) O).bind fun vs O=>meth .append v vs O else .stuck)=_
    simp only[e1]
   rw[e2]
   exact zk8 (rb:=fun O=>evE P ρ b O) hm h2.px.star (h1.d hr sr) fun s' β' O' sr'=>h2.d hr sr'⟩
theorem zqa:JEs cx [] .nil:=⟨fun hr sr=>xg sr⟩
theorem zm0{l:List Expr}{es:CEs}(h1:JE cx x a)(h2:JEs cx l es):JEs cx (x::l) (.cons a es):=⟨fun {G A P F s β ρ O pos} hr sr=>yn (g:=fun O=>evEs P ρ es O) h1.px.star (h1.d hr sr) fun s' β' O' sr'=>h2.d hr sr'⟩
theorem zmu:JIfs cx [] .nil:=⟨fun hr sr=>zd7 sr⟩
theorem zkb{l:List Expr}{es:CEs}(h1:JT cx x a)(h2:JIfs cx l es):JIfs cx (x::l) (.cons a es):=⟨fun {G A P F s β ρ O} hr sr=>by
 have:=zcj (rb:=fun O=>xy P ρ es O) (h1.d hr sr) fun s' β' O' sr'=>h2.d hr sr'
 unfold tv at this
 rw[R.bind_assoc] at this
 exact this⟩
noncomputable def znw:Expr→Bool
 | .UnaryOp o _ _=>(match o with
    | .Not=>true
    | _=>false)
 | .BoolOp _ _ _=>true
 | .IfExp _ _ _ _=>true
 | .Compare _ _ _ _=>true
 | _=>false
theorem isTrue_plain{e:Expr}{env:Env}(h:znw e=false):isTrue e env (eval e env)=(do let v ← eval e env;standAt e.pos;holding [v] (truthy v)):=by
 cases e with
 | UnaryOp o x p=>cases o <;> first | rfl | cases h
 | BoolOp o l p=>cases h
 | IfExp a b c p=>cases h
 | Compare a b c p=>cases h
 | _=>rfl
theorem zl0(h:JE cx x c)(ht:znw x=false):JT cx x c:=⟨fun hr sr=>zly (isTrue_plain ht) (h.d hr sr)⟩
theorem zra(h:JT cx x a):JT cx (.UnaryOp .Not x p) (.nt a):=⟨fun hr sr=>zrc (h.d hr sr)⟩
theorem qw{G:Gl}{F:Fm}{A:Around}{s:Shared}{β:List Addr}{ρ:Loc}{t:Sem Bool}{r r':R za Bool}(e:r=r')(h:Does G F A s β t (r'.lift ρ) BRel):Does G F A s β t (r.lift ρ) BRel:=e ▸ h
theorem zlv(h1:JT cx x a)(h2:JT cx y b):JT cx (.BoolOp .And [x,y] p) (.and_ a b):=⟨fun {G A P F s β ρ O} hr sr=>
 qw (zix (evE P ρ a O) fun O=>evE P ρ b O) (wz (rb:=fun O=>tv (evE P ρ b O)) (h1.d hr sr) fun s' β' O' sr'=>
  qw (zhd (tv (evE P ρ b O'))).symm (wz (rb:=fun O=>R.ok true O) (h2.d hr sr') fun s'' β'' O'' sr''=>zas (op:=.And) sr''))⟩
theorem zlu{r:List Expr}(h1:JT cx x a)(h2:JT cx (.BoolOp .And (y::z::r) p) b):JT cx (.BoolOp .And (x::y::z::r) p) (.and_ a b):=⟨fun {G A P F s β ρ O} hr sr=>
 qw (zix (evE P ρ a O) fun O=>evE P ρ b O) (wz (rb:=fun O=>tv (evE P ρ b O)) (h1.d hr sr) fun s' β' O' sr'=>h2.d hr sr')⟩
theorem zon(h1:JT cx x a)(h2:JT cx y b):JT cx (.BoolOp .Or [x,y] p) (.or_ a b):=⟨fun {G A P F s β ρ O} hr sr=>
 qw (znv (evE P ρ a O) fun O=>evE P ρ b O) (h8 (rb:=fun O=>tv (evE P ρ b O)) (h1.d hr sr) fun s' β' O' sr'=>
  qw (zhd (tv (evE P ρ b O'))).symm (h8 (rb:=fun O=>R.ok false O) (h2.d hr sr') fun s'' β'' O'' sr''=>zas (op:=.Or) sr''))⟩
theorem zom{r:List Expr}(h1:JT cx x a)(h2:JT cx (.BoolOp .Or (y::z::r) p) b):JT cx (.BoolOp .Or (x::y::z::r) p) (.or_ a b):=⟨fun {G A P F s β ρ O} hr sr=>
 qw (znv (evE P ρ a O) fun O=>evE P ρ b O) (h8 (rb:=fun O=>tv (evE P ρ b O)) (h1.d hr sr) fun s' β' O' sr'=>h2.d hr sr')⟩
theorem zoo{op:Cop}{o:CmpOp}(h1:JE cx x a)(h2:JE cx y b)(ho:xz op o=true):JT cx (.Compare x [o] [y] p) (.cmp op a b):=⟨fun {G A P F s β ρ O} hr sr=>zre (rb:=fun O=>evE P ρ b O) hr.run.ro ho h2.px.set (h1.d hr sr) fun s' β' O' sr'=>h2.d hr sr'⟩
theorem zi1{op1 op2:Cop}{o1 o2:CmpOp}(h1:JE cx x a)(h2:JE cx y b)(h3:JE cx z c)(ho:xz op1 o1=true)(ho2:xz op2 o2=true):JT cx (.Compare x [o1,o2] [y,z] p) (.chain op1 op2 a b c):=⟨fun {G A P F s β ρ O} hr sr=>
 zl1 (rb:=fun O=>evE P ρ b O) (rc:=fun O=>evE P ρ c O) hr.run.ro ho ho2 h2.px.set h3.px.set (h1.d hr sr) (fun s' β' O' sr'=>h2.d hr sr') fun s' β' O' sr'=>h3.d hr sr'⟩
end
section
variable{cx:Cx}{x y z u:Expr}{a b c:CE}{p q ps pz:Pos}
theorem zrg(h:JE cx x a):JS cx (.Return (some x) p) (.ret a):=⟨fun hr sr=>zst (h.d hr.toHere sr)⟩
noncomputable def noCompX:Expr→Bool
 | .ListComp _ _ _ _=>false
 | .SetComp _ _ _ _=>false
 | .DictComp _ _ _ _ _=>false
 | _=>true
theorem noCompX.swaps{e:Expr}(h:noCompX e=true)(t:Option Expr)(n:Nat)(env:Env):swapsWith e t n env=pure false:=
 zcx (fun _ _ _ _ q=>by subst q;cases h) (fun _ _ _ _ q=>by subst q;cases h) (fun _ _ _ _ _ q=>by subst q;cases h) t n env
theorem zo5(h:JE cx x a)(hx:noCompX x=true):JS cx (.Expr x p) (.expr a):=⟨fun hr sr=>zqu sr.fm.kind (by unfold interactive;rw[sr.fm.kind];rfl) (noCompX.swaps hx _ _ _) (h.d hr.toHere sr)⟩
theorem zg0{h:Bool}{i:Nat}:(h && !(CT.name i).isName)=false:=by cases h <;> rfl
theorem zrj{n:Str}{i:Nat}(h:JE cx x a)(hx:(chkT cx (ownOf cx.sc) (.name i) (.Name n ps) && noCompX x)=true):JS cx (.Assign [.Name n ps] x p) (.asg (.name i) a):=⟨fun {G A P F s β ρ O} hr sr=>by
 obtain⟨h1,h2⟩:=and2 hx
 show Does G F A s β _ (if (P.hd && !(CT.name i).isName)=true then .stuck else _:R (Loc×za) Fl) _
 rw[zg0,if_neg Bool.false_ne_true]
 exact dm hr.fit hr.own h1 (noCompX.swaps h2 _ _ _) (h.d hr.toHere sr)⟩
noncomputable def unpX:Expr→Bool
 | .Name _ _=>true
 | .Subscript _ _ _=>true
 | .Call _ _ _ _=>true
 | _=>false
theorem zcw{l:List Expr}{k n:Nat}{ps:Pos}{x:Expr}{env:Env}(h:unpX x=true):swapsWithSole [.Tuple l k ps] x n env=pure false∧swappedStores [.Tuple l k ps] x env=pure none:=by
 cases x <;> first | exact⟨rfl,rfl⟩ | cases h
theorem zo6{l:List Expr}{k:Nat}{t:CT}(h:JE cx x a)(hx:(chkT cx (ownOf cx.sc) t (.Tuple l k ps) && unpX x && !t.isName)=true):JS cx (.Assign [.Tuple l k ps] x p) (.asg t a):=⟨fun {G A P F s β ρ O} hr sr=>by
 obtain⟨h1,h2,h3⟩:=and3 hx
 show Does G F A s β _ (if (P.hd && !t.isName)=true then .stuck else _:R (Loc×za) Fl) _
 rw[h3,Bool.and_true]
 by_cases hd:P.hd=true
 ·rw[if_pos hd];trivial
 rw[if_neg hd]
 have e:=zcw (l:=l) (k:=k) (n:=p.line) (ps:=ps) (env:=F.env) h2
 exact zec (hr.run.hm (Bool.eq_false_iff.mpr hd)) hr.fit hr.own h1 e.1 e.2 (h.d hr.toHere sr)⟩
theorem zlg{n:Str}{i:Nat}{t:Expr}{fs:List Expr}{scope:Scope}{tgt:CT}{it:CI}{ifs:CEs}(hi:JI cx y it)(hf:JIfs (cx.inner tgt t scope) fs ifs)(hx:JE (cx.inner tgt t scope) x c)
 (hc:(y9 scope cx.sc && xf (cx.inner tgt t scope).names && chkT (cx.inner tgt t scope) (ownOf scope) tgt t)=true) (hn:chkT cx (ownOf cx.sc) (.name i) (.Name n ps)=true)
 {G:Gl} {A:Around} {P:Pg} {F:Fm} {s:Shared} {β:List Addr} {ρ:Loc} {O:za} {K:V→za→R za V} (hr:zlo G A P F cx) (sr:SR G F β ρ O s.heap) (hK:Fin2 K) :
 Does G F A s β (exec (.Assign [.Name n ps] (.ListComp x [⟨t,y,fs,0⟩] scope q) p) F.env) ((((evE P ρ (.comp c tgt it ifs) O).bind K).lift ρ).bind (asgR (.name i))) (yv G F):=by
 obtain⟨b,hb⟩ : ∃ b,swapsWith (.ListComp x [⟨t,y,fs,0⟩] scope q) (some (.Name n ps)) p.line F.env=pure b:=⟨_,rfl⟩
 cases b with
 | false=>exact dm hr.fit hr.own hn hb ((zjo hi hf hx hc).d hr.toHere sr hK)
 | true=>
   obtain⟨h1,h2,h3⟩:=and3 hc
   show Does G F A s β _ ((R.lift ρ ((if P.hd=true then .stuck else _:R za V).bind K)).bind _) _
   by_cases hd:P.hd=true
   ·rw[if_pos hd];trivial
   rw[if_neg hd]
   have hh:=hr.run.hm (Bool.eq_false_iff.mpr hd)
   exact zih (evT:=fun ρ O=>xy P ρ ifs O) (evX:=fun ρ O=>evE P ρ c O) hr.run.g hh hr.fit hr.own hn h1 h2 h3 hi.px.set (fun C D s' β' ρ' O' sr'=>hf.d (hr.toHere.inner sr.fm.kind h1 C D) sr') (fun C D s' β' ρ' O' sr'=>hx.d (hr.toHere.inner sr.fm.kind h1 C D) sr') sr (hi.d hh hr.toHere sr) (fun _ _ e=>hi.has e) hK hb
theorem zo7{n:Str}{i:Nat}{t:Expr}{fs:List Expr}{scope:Scope}{tgt:CT}{it:CI}{ifs:CEs}(hi:JI cx y it)(hf:JIfs (cx.inner tgt t scope) fs ifs)(hx:JE (cx.inner tgt t scope) x c)
 (hc:(y9 scope cx.sc && xf (cx.inner tgt t scope).names && chkT (cx.inner tgt t scope) (ownOf scope) tgt t)=true) (hn:chkT cx (ownOf cx.sc) (.name i) (.Name n ps)=true) :
 JS cx (.Assign [.Name n ps] (.ListComp x [⟨t,y,fs,0⟩] scope q) p) (.asg (.name i) (.comp c tgt it ifs)):=⟨fun {G A P F s β ρ O} hr sr=>by
 have:=zlg hi hf hx hc hn (p:=p) (q:=q) hr sr .plain
 rw[R.bind_ok] at this
 show Does G F A s β _ (if (P.hd && !(CT.name i).isName)=true then .stuck else _:R (Loc×za) Fl) _
 rw[zg0,if_neg Bool.false_ne_true]
 exact this⟩
theorem zrh{l m:List Stmt}{d e:CSs}(h1:JT cx x a)(h2:JSs cx l d)(h3:JSs cx m e):JS cx (.If x l m p) (.ife a d e):=⟨fun {G A P F s β ρ O} hr sr=>
 zsy (ga:=fun ρ O=>evSs P d ρ O) (gb:=fun ρ O=>evSs P e ρ O) (h1.d hr.toHere sr) (fun s' β' ρ' O' sr'=>h2.d hr sr') fun s' β' ρ' O' sr'=>h3.d hr sr'⟩
theorem zri{l:List Stmt}{d:CSs}{t:CT}{it:CI}(h1:JI cx x it)(h2:JSs cx l d)(hc:chkT cx (ownOf cx.sc) t y=true):JS cx (.For y x l [] p) (.for_ t it d):=⟨fun {G A P F s β ρ O} hr sr=>by
 show Does G F A s β _ (if P.hd=true then .stuck else _:R (Loc×za) Fl) _
 by_cases hd:P.hd=true
 ·rw[if_pos hd];trivial
 rw[if_neg hd]
 have hh:=hr.run.hm (Bool.eq_false_iff.mpr hd)
 exact zn8 (evb:=fun ρ O=>evSs P d ρ O) hr.run.g hh hr.fit hr.own hc h1.px.set (fun s' β' ρ' O' sr'=>h2.d hr sr') sr (h1.d hh hr.toHere sr) fun _ _ e=>h1.has e⟩
theorem zl8{l:List Stmt}{d:CSs}(h1:JT cx x a)(h2:JSs cx l d):JS cx (.While x l [] p) (.while_ a d):=⟨fun {G A P F s β ρ O} hr sr=>
 zne (ev:=fun ρ O=>evE P ρ a O) (evb:=fun ρ O=>evSs P d ρ O) (fun s' β' ρ' O' sr'=>h1.d hr.toHere sr') (fun s' β' ρ' O' sr'=>h2.d hr sr') sr⟩
theorem zox:JSs cx [] .nil:=⟨fun hr sr=>zeb sr⟩
theorem zgh{st:Stmt}{l:List Stmt}{d:CS}{e:CSs}(h1:JS cx st d)(h2:JSs cx l e):JSs cx (st::l) (.cons d e):=⟨fun {G A P F s β ρ O} hr sr=>
 zcl (g:=fun ρ O=>evSs P e ρ O) (h1.d hr sr) fun s' β' ρ' O' sr'=>h2.d hr sr'⟩
end
theorem gd{G:Gl}{P:Pg}{fname gname cname:Nat→Option Str}(g:GOk G P.gval gname)(so:zbo G P)(se:zll G P)(cl:zhj G P cname)(A:Around)(call:Bool→Nat→List V→za→R za V)(hd:Bool)(ro:Room A 0)(hm:hd=false→A.handled=none)
 (ck:∀ A' hd',Like A A'→(hd'=false→A'.handled=none)→pj G A' fname (call hd')):BodyOk G JSs A fname gname cname { P with call:=call,hd:=hd }:=by
 intro F cx c body s β ρ O e1 e2 e3 fit fr top own hc sr
 subst e1;subst e2;subst e3
 exact hc.d ⟨⟨⟨g,ro,hm,ck,so,se,⟨cl.inst,cl.matches_,cl.raise⟩⟩,fit,fr⟩,top,own⟩ sr
section
variable{G:Gl}{fname gname cname:Nat→Option Str}{T:Nat→Option Fn}{P:Pg}
set_option tactic.hygienic true in
theorem go_top(g:GOk G P.gval gname)(fns:zhh G JSs fname gname cname T)(so:zbo G P)(se:zll G P)(cl:zhj G P cname){k:Nat}{A:Around}(ro:Room A (k+1))(hm:A.handled=none)(hfr:A.frames=some []){s:Shared}(hs:s.heap=G.h₀)
 {f:Nat} {x:Str} (hf:fname f=some x) {vals:List Value} {vs:List V} (rvs:VRs G [sysModules] [] s.heap vals vs) {d:PyData} {O'':za} (hev:zg P T (k+1) false f vs []=.ok (.d d) O'') {Q:Value→Shared→Prop} {E:Value→Shared→Prop}
 (kk:∀ s' val as,s'.gens=s.gens→s'.os=s.os→(∀ b o,s.heap.get? b=some o→s'.heap.get? b=some o)→Reads s'.heap val d as→Q val s') :
 ∀ a,G.mg x=some (.ref a)→wpAny (model G.prog G.w) A (call (.ref a) vals) Q E s:=by
 intro a₀ ha₀
 rw[zg] at hev
 cases hT:T f with
 | none=>rw[hT] at hev;cases hev
 | some fn=>
   obtain⟨a,o,fd,body,names,fo⟩:=(fns f x hf).2 fn hT
   have haa:a=a₀:=by have:=fo.at_.name.symm.trans ha₀;cases this;rfl
   subst haa
   rw[hT] at hev
   dsimp only at hev
   split at hev
   ·rename_i hlen
    obtain⟨p1,p2,p3,p4,p5,k1,k2,k3,k4,k5,n1,n2,n3,n4⟩:=qe fo.chk
    have kp:∀ b o,G.h₀.get? b=some o→s.heap.get? b=some o:=by rw[hs];exact fun _ _ h=>h
    have br:BR G [sysModules] [] [] s.heap:=⟨kp,rfl,.nil,fun _ h=>(nomatch h),fun i a bx h=>by simp at h,fun _ h=>(nomatch h)⟩
    have ou:Out G [sysModules] [] [] s.heap:=⟨⟨fun a ha hs=>absurd (List.mem_singleton.mp ha) hs,List.mem_singleton.mpr rfl,fun h=>(nomatch h)⟩,fun _ _ h=>(nomatch h),fun a ha=>by
     obtain⟨o',es,n,e1,e2⟩:=br.sysAlive
     exact⟨o',by rw[List.mem_singleton.mp ha];exact e1,fun vs n q=>by rw[e2] at q;cases q⟩,fun _ h=>(nomatch h),fun _ h=>(nomatch h)⟩
    have hget:s.heap.get? a=some o:=kp _ _ fo.at_.get
    have hnt:(names.take fn.arity).length=fn.arity:=by rw[List.length_take];omega
    have hbind:bindArgs fd ⟨vals,[]⟩=pure ((names.take fn.arity).zip vals):=qi p1 p2 p3 p4 p5 (by rw[rvs.length,hnt];exact hlen.1) (n1.sublist (List.take_sublist _ _)) fo.defaults
    have hkind:∀ y∈(names.take fn.arity).zip vals,fd.scope.names.lookup y.1=some .local∨(fd.scope.names.lookup y.1=some .cell∧((cellsFrom (s.heap.objs.size+1) fd.scope.names []).lookup y.1).isSome=true):=fun y hy=>by
     have hy':y.1∈names:=List.mem_of_mem_take (List.of_mem_zip hy).1
     have how:=n4 y.1 hy'
     unfold ownOf at how
     simp only[Bool.or_eq_true,beq_iff_eq] at how
     rcases how with how | how
     ·exact .inl how
     ·exact .inr ⟨how,yf _ _ _ (.inl ((lookup_mem k4).mpr how))⟩
    refine wpAny_call (codeAny_call_cells ro.room hget fo.at_.data (g.nolimit.keeps kp) (Heap.CodeRec.keeps fo.code kp) fo.body_ hbind fo.clos hkind (fun s₁ ic=>?_) k3 k2 k1)
    obtain⟨srC,ka⟩:=zat fo br ou rvs hlen.1 ic
    have fitC:Fits (xb fd s.heap.objs.size a (yr fn names) [sysModules] []) { names:=yr fn names,sc:=fd.scope,fname:=fname,gname:=gname,cname:=cname }:=⟨rfl,fun _=>rfl,k1⟩
    have frC:FrA (A.deeper (callEnvC fd s.heap.objs.size a)) (xb fd s.heap.objs.size a (yr fn names) [sysModules] []):=⟨_,Around.frames_deeper hfr,fun env he=>by
     have he':=List.mem_singleton.mp he
     subst he'
     exact⟨by show fd.scope.kind≠.module;rw[k1];decide,_,rfl,List.mem_cons_self⟩⟩
    have topC:TopA (A.deeper (callEnvC fd s.heap.objs.size a)) (xb fd s.heap.objs.size a (yr fn names) [sysModules] []):=⟨⟨[],Around.frames_deeper hfr⟩,_,rfl⟩
    have roD:=ro.deeper (callEnvC fd s.heap.objs.size a)
    have db:=gd g so se cl (A.deeper (callEnvC fd s.heap.objs.size a)) (zg P T k) false ⟨by have:=roD.depth;omega,by have:=roD.units;omega,roD.guards⟩ (fun _=>hm) (fun A' hd' lk hm'=>zeh g fns (gd g so se cl) k A' hd' (roD.like lk) hm')
     _ _ fn.body body s₁ [] _ [] rfl rfl rfl fitC frC topC (fun _ h=>h) fo.js srC
    unfold evFn at hev
    cases he:evSs { P with call:=zg P T k,hd:=false } fn.body (vs.map some++List.replicate (fn.slots - fn.arity) none) [] with
    | stuck=>rw[he] at hev;cases hev
    | ok fl S=>
      rw[he] at hev db
      have fin:∀ (s':Shared) (β':List Addr) (val:Value) (v:V),Step (xb fd s.heap.objs.size a (yr fn names) [sysModules] []).W [] s₁ s' β'→SR G (xb fd s.heap.objs.size a (yr fn names) [sysModules] []) β' S.1 S.2 s'.heap →
       VR G (xb fd s.heap.objs.size a (yr fn names) [sysModules] []).B β' s'.heap val v→Mine.fin 0 fn.keep v S.2=.ok (.d d) O''→Q val s':=by
       intro s' β' val v st srE rv hf
       obtain⟨β'',q1,q2,q3,as,q4,q5⟩:=zki srE.br (N:=[sysModules]) (fun a ha=>List.mem_append_right _ ha) srE.fm.notBox st.pre rfl rv hf
       exact kk s' val as (st.gens.trans ka.gens) (st.os.trans ka.os) (by rw[hs];exact srE.br.keep) q4
      refine db _ _ fun s' β' fl' st srE rf=>?_
      cases fl with
      | ret v=>
        obtain⟨val,rfl,rv⟩:=rf
        exact fin s' β' val v st srE rv hev
      | next=>
        have rf:fl'=.next:=rf
        subst rf
        exact fin s' β' .none (.d .none) st srE VR.none hev
   ·cases hev
end
noncomputable def zf0(p:Program)(fname:Nat→Option Str)(T:Nat→Option Fn)(slots:Nat→List Str)(at_:Nat→Nat)(f:Nat):Bool:=match fname f,T f,(recsOf p)[at_ f]? with
 | some x,some fn,some d=>d.name == x && zhc fn (slots f) d.params d.scope
 | _,_,_=>false
noncomputable def zab(p:Program)(fname gname cname:Nat→Option Str)(T:Nat→Option Fn)(slots:Nat→List Str)(at_:Nat→Nat):Prop:=
 ∀ f fn d,T f=some fn→(recsOf p)[at_ f]?=some d→JSs { names:=yr fn (slots f),sc:=d.scope,fname,gname,cname } d.body fn.body
set_option tactic.hygienic true in
theorem zp6{G:Gl}{p:Program}{loose:List Str}{mean:ExcName→Option Value}{fname gname cname:Nat→Option Str}{T:Nat→Option Fn}{slots:Nat→List Str}{at_:Nat→Nat}(t:Top p loose mean G.mg G.mb G.h₀)(n:Nat)(h0:∀ f,n≤f→fname f=none)
 (h:(List.range n).all (zf0 p fname T slots at_)=true) (hb:zab p fname gname cname T slots at_):zhh G JSs fname gname cname T:=by
 intro f x hf
 have hn:f < n:=by
  rcases Nat.lt_or_ge f n with h | h
  ·exact h
  ·rw[h0 f h] at hf;cases hf
 have hh:=List.all_eq_true.mp h f (List.mem_range.mpr hn)
 unfold zf0 at hh
 rw[hf] at hh
 split at hh
 ·rename_i x' fn d e1 e2 e3
  cases e1
  obtain⟨q1,q2⟩:=and2 hh
  have hx:d.name=x:=beq_iff_eq.mp q1
  obtain⟨a,o,pm,code,doc,h1,h2,h3,h4⟩:=t.fn d (List.mem_of_getElem? e3)
  rw[hx] at h1
  exact⟨⟨a,o,_,h1,h2,h3⟩,fun fn' hfn'=>by
   rw[e2] at hfn';cases hfn'
   exact⟨a,o,_,_,slots f,⟨⟨h1,h2,h3⟩,h4,rfl,rfl,rfl,rfl,rfl,q2,hb f fn d e2 e3⟩⟩⟩
 ·cases hh
noncomputable def zld(K:W.Frag):Bool:=bis.all fun p=>W.nsIn K mainGlobals p.1 == some none && bootBuiltins p.1 == some p.2 && p.1 != "__name__"
theorem zba{h:Heap}:∀ {is:List Int} {vs:List Value} {as:List Addr},ReadsAll h vs (is.map .int) as→as=[]
 | [],_,_,.nil=>rfl
 | _::_,_,_,.cons r rs=>by cases r;rw[zba rs];rfl
theorem ze6{h:Heap}{is:List Int}{a:Addr}{rs:List Addr}{m:Str→Option Value}(hm:h.Ns sysModules m)(r:Reads h (.ref a) (.list (is.map .int)) rs):sysModules∉rs:=by
 cases r with
 | list h1 h2 h3 h4=>
   rw[zba h4]
   intro hs
   have e:sysModules=a:=List.mem_singleton.mp hs
   obtain⟨o,es,ep,q1,q2,_⟩:=hm
   rw[e,h1] at q1;cases q1
   rw[h3] at q2;cases q2
end Mine
end
section
namespace Mine
open PySem
section
variable{prog:Program}{w:World}{K:Type}[DecidableEq K]
structure ItemKind(prog:Program)(w:World)(K:Type)[DecidableEq K] where
 is:Heap→K→Value→Prop
 hash:K→Int
 draws:K→Nat
 room:Around→Prop
 dep:Nat
 inj:∀ {h:Heap} {v:Value} {x y:K},is h x v→is h y v→x=y
 keeps:∀ {h h':Heap} {k:K} {v:Value} {d:Addr} {o:Obj} {es ep},is h k v→h.get? d=some o→o.data=.dict es ep→Heap.SameBut d h h'→is h' k v
 pyHash:∀ {A:Around} {E:Value→Shared→Prop} {s:Shared} {k:K} {v:Value} {Q:Int→Shared→Prop},room A→is s.heap k v→Q (hash k) { s with toks:=s.toks+draws k }→wpAny (model prog w) A (PySem.pyHash v) Q E s
 eqBool:∀ {A:Around} {E:Value→Shared→Prop} {s:Shared} {x y:K} {u v:Value} {Q:Bool→Shared→Prop},room A→is s.heap x u→is s.heap y v→Q (decide (x=y)) s→wpAny (model prog w) A (PySem.eqBool u v) Q E s
 quiet:∀ {A:Around} {E:Value→Shared→Prop} {s:Shared} {k:K} {v:Value} {n:Nat} {Q:Bool→Shared→Prop},dep≤n→is s.heap k v→Q true s→wpAny (model prog w) A (eqIsQuiet n v) Q E s
inductive ItemsK(ik:ItemKind prog w K)(h:Heap):List K→List Value→Prop
 | nil:ItemsK ik h [] []
 | cons {k:K} {v:Value} {ks:List K} {vs:List Value}:ik.is h k v→ItemsK ik h ks vs→ItemsK ik h (k::ks) (v::vs)
noncomputable def IsTupK(ik:ItemKind prog w K)(h:Heap)(ks:List K)(a:Addr):Prop:=∃ o items n,h.get? a=some o∧o.cls=.type "tuple"∧o.data=.seq items n∧ItemsK ik h ks items.toList
variable{ik:ItemKind prog w K}
theorem ItemsK.inj{h:Heap}{x y:List K}{vs:List Value}(hx:ItemsK ik h x vs)(hy:ItemsK ik h y vs):x=y:=by
 induction hx generalizing y with
 | nil=>cases hy;rfl
 | cons h1 _ ih=>
   cases hy with
   | cons h2 t2=>rw[ik.inj h1 h2,ih t2]
theorem ItemsK.length{h:Heap}{x:List K}{vs:List Value}(hx:ItemsK ik h x vs):x.length=vs.length:=by
 induction hx with
 | nil=>rfl
 | cons _ _ ih=>simp[ih]
theorem ItemsK.keeps{h h':Heap}{x:List K}{vs:List Value}{d:Addr}{o:Obj}{es ep}(hx:ItemsK ik h x vs)(ho:h.get? d=some o)(hd:o.data=.dict es ep)(hs:Heap.SameBut d h h'):ItemsK ik h' x vs:=by
 induction hx with
 | nil=>exact .nil
 | cons h1 _ ih=>exact .cons (ik.keeps h1 ho hd hs) ih
theorem IsTupK.typeIs{s:Shared}{ks:List K}{a:Addr}(x:IsTupK ik s.heap ks a):s.TypeIs (.ref a) "tuple":=let ⟨o,_,_,ho,hc,_⟩:=x;⟨o,ho,hc⟩
theorem IsTupK.inj{h:Heap}{a:Addr}{x y:List K}(hx:IsTupK ik h x a)(hy:IsTupK ik h y a):x=y:=by
 obtain⟨o,items,n,ho,_,hd,hi⟩:=hx
 obtain⟨o',items',n',ho',_,hd',hi'⟩:=hy
 obtain rfl:o=o':=Option.some.inj (ho.symm.trans ho')
 rw[hd] at hd'
 injection hd' with h1 _
 subst h1
 exact hi.inj hi'
theorem IsTupK.keeps{h h':Heap}{ks:List K}{a d:Addr}{o:Obj}{es ep}(x:IsTupK ik h ks a)(ho:h.get? d=some o)(hd:o.data=.dict es ep)(hs:Heap.SameBut d h h'):IsTupK ik h' ks a:=by
 obtain⟨o',items,n,ho',hc,hd',hi⟩:=x
 have hne:a≠d:=by
  rintro rfl
  obtain rfl:o'=o:=Option.some.inj (ho'.symm.trans ho)
  rw[hd] at hd';exact nomatch hd'
 exact⟨o',items,n,(hs.2 a hne).trans ho',hc,hd',hi.keeps ho hd hs⟩
variable(ik) in
noncomputable def zey(ks:List K):Int:=reduceHash (Builtin.Tuple.tupleHashOf (ks.map ik.hash))
variable(ik) in
noncomputable def zbv(ks:List K):Nat:=(ks.map ik.draws).sum+1
variable{A:Around}{E:Value→Shared→Prop}{s:Shared}
theorem zh8{ks:List K}{a:Addr}{Q:Int→Shared→Prop}(hu:A.units < cLine)(hr:ik.room A.in1)(hk:IsTupK ik s.heap ks a)(h:Q (zey ik ks) { s with toks:=s.toks+zbv ik ks }) :
 wpAny (model prog w) A (pyHash (.ref a)) Q E s:=by
 have hT:=hk.typeIs
 obtain⟨o,items,n,ho,_,hd,hi⟩:=hk
 unfold pyHash
 unfold pyHashByItsType
 refine wpAny_bind (wpAny_cRoomFor_or (.inr hu) ?_)
 refine wpAny_bind (wpAny_specialOf hT F.slot_tuple_hash.lookup ?_)
 show wpAny _ _ (if (some (Value.builtin "tuple.__hash__") == some Value.none)=true then _ else _) Q E s
 rw[if_neg (by rw[beq_builtin_none];exact Bool.false_ne_true)]
 refine wpAny_bind (wpAny_specialOf hT F.slot_tuple_hash.lookup ?_)
 show wpAny _ _ (callSpecialIfBoundUnlessNone? (.ref a) "__hash__" _ >>= _) Q E s
 refine wpAny_bind (wpAny_callSpecialIfBoundUnlessNone?_slot hT F.slot_tuple_hash (wpAny_call_entry F.slot_tuple_hash hT F.entry_tuple_hash ?_ (F.args_tuple_hash_1 _)))
 show wpAny _ _ (Builtin.Tuple.tupleItemsOf (.ref a) >>= _) _ _ s
 refine wpAny_bind (wpAny_tupleItemsOf ho hd ?_)
 refine wpAny_bind ?_
 rw[← Array.forIn_toList]
 refine wpAny_forIn_list _
  (fun rest (b:Array Int) s'=>∃ done left,ks=done++left∧ItemsK ik s.heap left rest∧b.toList=done.map ik.hash∧s' = { s with toks:=s.toks+(done.map ik.draws).sum })
  _ ?_ ?_ _ _ ⟨[],ks,rfl,hi,rfl,rfl⟩
 ·rintro x rest b s' ⟨done,left,rfl,hl,hb,rfl⟩
  cases hl with
  | @cons k _ ks' _ h1 hl'=>
    refine wpAny_bind (ik.pyHash (s:={ s with toks:=s.toks+(done.map ik.draws).sum }) hr h1 ?_)
    first
     | exact wpAny_pure ⟨done++[k],ks',by simp,hl',by simp[hb],by simp[Nat.add_assoc]⟩
     | exact wpAny_bind (wpAny_pure (wpAny_pure ⟨done++[k],ks',by simp,hl',by simp[hb],by simp[Nat.add_assoc]⟩))
 ·rintro b s' ⟨done,left,rfl,hl,hb,rfl⟩
  cases hl
  rw[List.append_nil] at h
  show wpAny _ _ (retInt (Builtin.Tuple.tupleHashOf b.toList)) _ _ _
  rw[hb]
  refine wpAny_ret_mkInt ?_
  show wpAny _ _ (if (decide (-(2:Int) ^ 63≤Builtin.Tuple.tupleHashOf (done.map ik.hash)) && decide (Builtin.Tuple.tupleHashOf (done.map ik.hash) < 2 ^ 63))=true then _ else _) Q E _
  unfold zey reduceHash at h
  unfold zbv at h
  by_cases hr:(decide (-(2:Int) ^ 63≤Builtin.Tuple.tupleHashOf (done.map ik.hash)) && decide (Builtin.Tuple.tupleHashOf (done.map ik.hash) < 2 ^ 63))=true
  ·rw[if_pos hr]
   rw[if_pos hr] at h
   exact wpAny_pure (by simpa [Nat.add_assoc] using h)
  ·rw[if_neg hr]
   rw[if_neg hr] at h
   exact wpAny_bind (wpAny_rule (wpAny_pure (by simpa [Nat.add_assoc] using h)))
theorem zkn{x y:List K}{a b:Addr}{P:Fin→Shared→Prop}(hr:ik.room A)(hx:IsTupK ik s.heap x a)(hy:IsTupK ik s.heap y b)(h:P (.done (.ret (.bool (decide (x=y))))) s) :
 wpAny (model prog w) A (Builtin.«tuple.__eq__» ⟨[.ref a,.ref b],[]⟩) P E s:=by
 have hTb:=hy.typeIs
 obtain⟨oa,xs,na,hoa,_,hda,hia⟩:=hx
 obtain⟨ob,ys,nb,hob,_,hdb,hib⟩:=hy
 show wpAny _ _ (isInstance (.ref b) (.type "tuple") >>= _) _ _ s
 refine wpAny_bind (wpAny_isInstance hTb isSubtype_tuple_tuple ?_)
 simp only[Bool.not_true,Bool.false_eq_true,if_false]
 refine wpAny_bind (wpAny_tupleItemsOf hoa hda ?_)
 refine wpAny_bind (wpAny_tupleItemsOf hob hdb ?_)
 refine wpAny_bind ?_
 refine wpAny_forIn_list _
  (fun rest r s'=>r.1=none∧s'=s∧∃ x' y' xs' ys',rest=List.zip xs' ys'∧ItemsK ik s.heap x' xs'∧ItemsK ik s.heap y' ys'∧decide (x'=y')=decide (x=y)∧(xs'.length == ys'.length)=(xs.size == ys.size))
  _ ?_ ?_ _ _ ⟨rfl,rfl,x,y,xs.toList,ys.toList,rfl,hia,hib,rfl,by simp⟩
 ·rintro⟨u,v⟩ rest r s' ⟨hr',rfl,x',y',xs',ys',hz,hx',hy',hdec,hlen⟩
  cases hx' with
  | nil=>simp at hz
  | @cons k1 u' x'' xs'' h1 hx''=>
    cases hy' with
    | nil=>simp at hz
    | @cons k2 v' y'' ys'' h2 hy''=>
      simp only[List.zip_cons_cons,List.cons.injEq,Prod.mk.injEq] at hz
      obtain⟨⟨rfl,rfl⟩,rfl⟩:=hz
      refine wpAny_bind (ik.eqBool (x:=k1) (y:=k2) hr h1 h2 ?_)
      by_cases hk:k1=k2
      ·subst hk
       rw[decide_eq_true rfl]
       simp only[Bool.not_true,Bool.false_eq_true,if_false]
       refine wpAny_pure ⟨rfl,rfl,x'',y'',xs'',ys'',rfl,hx'',hy'',?_,by simpa using hlen⟩
       rw[← hdec]
       by_cases hxy:x''=y''
       ·simp[hxy]
       ·simp[hxy]
      ·rw[decide_eq_false hk]
       simp only[Bool.not_false,if_true]
       have hf:decide (x=y)=false:=by rw[← hdec];simp[hk]
       rw[hf] at h
       exact wpAny_bind (wpAny_pure (wpAny_pure (wpAny_pure h)))
 ·rintro⟨r1,r2⟩ s' ⟨hr',rfl,x',y',xs',ys',hz,hx',hy',hdec,hlen⟩
  simp only at hr'
  subst hr'
  refine wpAny_pure ?_
  have hfin:(xs.size == ys.size)=decide (x=y):=by
   rw[← hdec,← hlen]
   cases hx' with
   | nil=>
     cases hy' with
     | nil=>simp
     | cons _ _=>simp
   | cons _ _=>
     cases hy' with
     | nil=>simp
     | cons _ _=>simp at hz
  show P (.done (.ret (.bool (xs.size == ys.size)))) s'
  rw[hfin];exact h
theorem zm1{x y:List K}{a b:Addr}{Q:Bool→Shared→Prop}(hu:A.units < cLine)(hr:ik.room A.in1)(hx:IsTupK ik s.heap x a)(hy:IsTupK ik s.heap y b)(h:Q (decide (x=y)) s) :
 wpAny (model prog w) A (eqBool (.ref a) (.ref b)) Q E s:=by
 unfold eqBool
 try with_reducible refine wpAny_holding ?_
 show wpAny _ _ (if (Value.ref a == Value.ref b)=true then _ else _) Q E s
 by_cases hab:(Value.ref a == Value.ref b)=true
 ·rw[if_pos hab]
  have e:a=b:=by have:=eq_of_beq hab;injection this
  subst e
  obtain rfl:=hx.inj hy
  exact wpAny_bind (wpAny_rule (wpAny_pure (by simpa using h)))
 ·rw[if_neg hab]
  exact wpAny_bind (wpAny_richCompare_same_room (op:=.Eq) hx.typeIs hy.typeIs F.slot_tuple_eq
   (wpAny_call_entry F.slot_tuple_eq hx.typeIs F.entry_tuple_eq (zkn hr hx hy ⟨_,rfl,(fun e=>nomatch e),wpAny_truthy_bool h⟩) (F.args_tuple_eq_2 _ _)) hu)
theorem zfe{ks:List K}{a:Addr}{n:Nat}{Q:Bool→Shared→Prop}(hn:ik.dep+1≤n)(hk:IsTupK ik s.heap ks a)(h:Q true s):wpAny (model prog w) A (eqIsQuiet n (.ref a)) Q E s:=by
 obtain⟨n,rfl⟩ : ∃ n',n=n' + 1:=⟨n - 1,by omega⟩
 have hT:=hk.typeIs
 obtain⟨o,items,_,ho,_,hd,hi⟩:=hk
 unfold eqIsQuiet
 refine wpAny_bind (wpAny_specialOf hT F.slot_tuple_eq.lookup ?_)
 show wpAny _ _ (isInstance (.ref a) (.type "tuple") >>= _) _ _ s
 refine wpAny_bind (wpAny_isInstance hT isSubtype_tuple_tuple ?_)
 simp only[Bool.not_true,Bool.false_eq_true,if_false]
 refine wpAny_bind (wpAny_seqItems ho hd ?_)
 refine wpAny_bind ?_
 show wpAny _ _ (forIn items _ _) _ _ s
 rw[← Array.forIn_toList]
 refine wpAny_forIn_list _ (fun rest r s'=>r.1=none∧s'=s∧∃ ks',ItemsK ik s.heap ks' rest) _ ?_ ?_ _ _ ⟨rfl,rfl,ks,hi⟩
 ·rintro v rest r s' ⟨hr,rfl,ks',hall⟩
  cases hall with
  | cons h1 h2=>
    refine wpAny_bind (ik.quiet (by omega) h1 ?_)
    simp only[Bool.not_true,Bool.false_eq_true,if_false]
    exact wpAny_pure ⟨rfl,rfl,_,h2⟩
 ·rintro⟨r1,r2⟩ s' ⟨hr,rfl,_⟩
  simp only at hr
  subst hr
  exact wpAny_pure h
end
section
variable{prog:Program}{w:World}{K:Type}[DecidableEq K]
noncomputable def ut(ik:ItemKind prog w K):ItemKind prog w (List K) where
 is:=fun h ks v=>∃ a,v=.ref a∧IsTupK ik h ks a
 hash:=zey ik
 draws:=zbv ik
 room:=fun A=>A.units < cLine∧ik.room A.in1
 dep:=ik.dep+1
 inj:=fun ⟨a,e,h1⟩ ⟨b,e',h2⟩=>by subst e;cases e';exact h1.inj h2
 keeps:=fun ⟨a,e,h1⟩ ho hd hs=>⟨a,e,h1.keeps ho hd hs⟩
 pyHash:=fun ⟨hu,hr⟩ ⟨a,e,h1⟩ h=>by subst e;exact zh8 hu hr h1 h
 eqBool:=fun ⟨hu,hr⟩ ⟨a,e,h1⟩ ⟨b,e',h2⟩ h=>by subst e;subst e';exact zm1 hu hr h1 h2 h
 quiet:=fun hn ⟨a,e,h1⟩ h=>by subst e;exact zfe hn h1 h
noncomputable def qx:ItemKind prog w Int where
 is:=fun _ i v=>(intKind prog w).is i v=true
 hash:=(intKind prog w).hash
 draws:=fun _=>1
 room:=fun _=>True
 dep:=0
 inj:=fun h1 h2=>(intKind prog w).inj _ _ _ h1 h2
 keeps:=fun h _ _ _=>h
 pyHash:=fun _ h1 h=>(intKind prog w).pyHash h1 h
 eqBool:=fun _ h1 h2 h=>(intKind prog w).eqBool h1 h2 h
 quiet:=fun _ h1 h=>by rw[eqIsQuiet_byValue _ ((intKind prog w).byValue _ _ h1)];exact wpAny_pure h
noncomputable def IsPairK{K':Type}[DecidableEq K'](ik:ItemKind prog w K)(jk:ItemKind prog w K')(h:Heap)(k:K×K')(a:Addr):Prop:=∃ o x y n,h.get? a=some o∧o.cls=.type "tuple"∧o.data=.seq #[x,y] n∧ik.is h k.1 x∧jk.is h k.2 y
variable{K':Type}[DecidableEq K']{ik:ItemKind prog w K}{jk:ItemKind prog w K'}{A:Around}{E:Value→Shared→Prop}{s:Shared}
theorem IsPairK.typeIs{k:K×K'}{a:Addr}(x:IsPairK ik jk s.heap k a):s.TypeIs (.ref a) "tuple":=let ⟨o,_,_,_,ho,hc,_⟩:=x;⟨o,ho,hc⟩
theorem IsPairK.inj{h:Heap}{a:Addr}{x y:K×K'}(hx:IsPairK ik jk h x a)(hy:IsPairK ik jk h y a):x=y:=by
 obtain⟨o,u,v,n,ho,_,hd,h1,h2⟩:=hx
 obtain⟨o',u',v',n',ho',_,hd',h1',h2'⟩:=hy
 obtain rfl:o=o':=Option.some.inj (ho.symm.trans ho')
 rw[hd] at hd'
 cases hd'
 exact Prod.ext (ik.inj h1 h1') (jk.inj h2 h2')
theorem IsPairK.keeps{h h':Heap}{k:K×K'}{a d:Addr}{o:Obj}{es ep}(x:IsPairK ik jk h k a)(ho:h.get? d=some o)(hd:o.data=.dict es ep)(hs:Heap.SameBut d h h'):IsPairK ik jk h' k a:=by
 obtain⟨o',u,v,n,ho',hc,hd',h1,h2⟩:=x
 have hne:a≠d:=by
  rintro rfl
  obtain rfl:o'=o:=Option.some.inj (ho'.symm.trans ho)
  rw[hd] at hd';exact nomatch hd'
 exact⟨o',u,v,n,(hs.2 a hne).trans ho',hc,hd',ik.keeps h1 ho hd hs,jk.keeps h2 ho hd hs⟩
variable(ik jk) in
noncomputable def zfg(k:K×K'):Int:=reduceHash (Builtin.Tuple.tupleHashOf [ik.hash k.1,jk.hash k.2])
variable(ik jk) in
noncomputable def zb3(k:K×K'):Nat:=ik.draws k.1+jk.draws k.2+1
theorem zfy{k:K×K'}{a:Addr}{Q:Int→Shared→Prop}(hu:A.units < cLine)(hr:ik.room A.in1)(hr':jk.room A.in1)(hk:IsPairK ik jk s.heap k a)(h:Q (zfg ik jk k) { s with toks:=s.toks+zb3 ik jk k }) :
 wpAny (model prog w) A (pyHash (.ref a)) Q E s:=by
 have hT:=hk.typeIs
 obtain⟨o,x,y,n,ho,_,hd,h1,h2⟩:=hk
 unfold pyHash
 unfold pyHashByItsType
 refine wpAny_bind (wpAny_cRoomFor_or (.inr hu) ?_)
 refine wpAny_bind (wpAny_specialOf hT F.slot_tuple_hash.lookup ?_)
 show wpAny _ _ (if (some (Value.builtin "tuple.__hash__") == some Value.none)=true then _ else _) Q E s
 rw[if_neg (by rw[beq_builtin_none];exact Bool.false_ne_true)]
 refine wpAny_bind (wpAny_specialOf hT F.slot_tuple_hash.lookup ?_)
 show wpAny _ _ (callSpecialIfBoundUnlessNone? (.ref a) "__hash__" _ >>= _) Q E s
 refine wpAny_bind (wpAny_callSpecialIfBoundUnlessNone?_slot hT F.slot_tuple_hash (wpAny_call_entry F.slot_tuple_hash hT F.entry_tuple_hash ?_ (F.args_tuple_hash_1 _)))
 show wpAny _ _ (Builtin.Tuple.tupleItemsOf (.ref a) >>= _) _ _ s
 refine wpAny_bind (wpAny_tupleItemsOf ho hd ?_)
 refine wpAny_bind ?_
 rw[← Array.forIn_toList]
 refine wpAny_forIn_list _
  (fun rest (b:Array Int) s'=>(rest=[x,y]∧b = #[]∧s'=s)∨(rest=[y]∧b = #[ik.hash k.1]∧s' = { s with toks:=s.toks+ik.draws k.1 }) ∨
    (rest=[]∧b = #[ik.hash k.1,jk.hash k.2]∧s' = { s with toks:=s.toks+ik.draws k.1+jk.draws k.2 }))
  _ ?_ ?_ _ _ (.inl ⟨rfl,rfl,rfl⟩)
 ·rintro v rest b s' (⟨hr1,rfl,rfl⟩ | ⟨hr1,rfl,rfl⟩ | ⟨hr1,_⟩)
  ·cases hr1
   refine wpAny_bind (ik.pyHash hr h1 ?_)
   first
    | exact wpAny_pure (.inr (.inl ⟨rfl,rfl,rfl⟩))
    | exact wpAny_bind (wpAny_pure (wpAny_pure (.inr (.inl ⟨rfl,rfl,rfl⟩))))
  ·cases hr1
   refine wpAny_bind (jk.pyHash (s:={ s with toks:=s.toks+ik.draws k.1 }) hr' h2 ?_)
   first
    | exact wpAny_pure (.inr (.inr ⟨rfl,rfl,rfl⟩))
    | exact wpAny_bind (wpAny_pure (wpAny_pure (.inr (.inr ⟨rfl,rfl,rfl⟩))))
  ·cases hr1
 ·rintro b s' (⟨hr1,_⟩ | ⟨hr1,_⟩ | ⟨_,rfl,rfl⟩)
  ·cases hr1
  ·cases hr1
  ·show wpAny _ _ (retInt (Builtin.Tuple.tupleHashOf [ik.hash k.1,jk.hash k.2])) _ _ _
   refine wpAny_ret_mkInt ?_
   show wpAny _ _ (if (decide (-(2:Int) ^ 63≤Builtin.Tuple.tupleHashOf [ik.hash k.1,jk.hash k.2]) && decide (Builtin.Tuple.tupleHashOf [ik.hash k.1,jk.hash k.2] < 2 ^ 63))=true then _ else _) Q E _
   unfold zfg reduceHash at h
   unfold zb3 at h
   by_cases hr:(decide (-(2:Int) ^ 63≤Builtin.Tuple.tupleHashOf [ik.hash k.1,jk.hash k.2]) && decide (Builtin.Tuple.tupleHashOf [ik.hash k.1,jk.hash k.2] < 2 ^ 63))=true
   ·rw[if_pos hr]
    rw[if_pos hr] at h
    exact wpAny_pure (by simpa [Nat.add_assoc] using h)
   ·rw[if_neg hr]
    rw[if_neg hr] at h
    exact wpAny_bind (wpAny_rule (wpAny_pure (by simpa [Nat.add_assoc] using h)))
theorem zkm{x y:K×K'}{a b:Addr}{P:Fin→Shared→Prop}(hr:ik.room A)(hr':jk.room A)(hx:IsPairK ik jk s.heap x a)(hy:IsPairK ik jk s.heap y b)(h:P (.done (.ret (.bool (decide (x=y))))) s) :
 wpAny (model prog w) A (Builtin.«tuple.__eq__» ⟨[.ref a,.ref b],[]⟩) P E s:=by
 have hTb:=hy.typeIs
 obtain⟨oa,u,v,na,hoa,_,hda,i1,i2⟩:=hx
 obtain⟨ob,u',v',nb,hob,_,hdb,j1,j2⟩:=hy
 show wpAny _ _ (isInstance (.ref b) (.type "tuple") >>= _) _ _ s
 refine wpAny_bind (wpAny_isInstance hTb isSubtype_tuple_tuple ?_)
 simp only[Bool.not_true,Bool.false_eq_true,if_false]
 refine wpAny_bind (wpAny_tupleItemsOf hoa hda ?_)
 refine wpAny_bind (wpAny_tupleItemsOf hob hdb ?_)
 refine wpAny_bind ?_
 refine wpAny_forIn_list _
  (fun rest r s'=>r.1=none∧s'=s∧(rest=[(u,u'),(v,v')]∨(rest=[(v,v')]∧x.1=y.1)∨(rest=[]∧x=y))) _ ?_ ?_ _ _ ⟨rfl,rfl,.inl rfl⟩
 ·rintro⟨p,q⟩ rest r s' ⟨hr1,rfl,hz | ⟨hz,e1⟩ | ⟨hz,_⟩⟩
  ·cases hz
   refine wpAny_bind (ik.eqBool (x:=x.1) (y:=y.1) hr i1 j1 ?_)
   by_cases hk:x.1=y.1
   ·rw[decide_eq_true hk]
    simp only[Bool.not_true,Bool.false_eq_true,if_false]
    exact wpAny_pure ⟨rfl,rfl,by simp[hk]⟩
   ·rw[decide_eq_false hk]
    simp only[Bool.not_false,if_true]
    have hf:decide (x=y)=false:=decide_eq_false fun e=>hk (by rw[e])
    rw[hf] at h
    exact wpAny_bind (wpAny_pure (wpAny_pure (wpAny_pure h)))
  ·cases hz
   refine wpAny_bind (jk.eqBool (x:=x.2) (y:=y.2) hr' i2 j2 ?_)
   by_cases hk:x.2=y.2
   ·rw[decide_eq_true hk]
    simp only[Bool.not_true,Bool.false_eq_true,if_false]
    exact wpAny_pure ⟨rfl,rfl,by simp[Prod.ext e1 hk]⟩
   ·rw[decide_eq_false hk]
    simp only[Bool.not_false,if_true]
    have hf:decide (x=y)=false:=decide_eq_false fun e=>hk (by rw[e])
    rw[hf] at h
    exact wpAny_bind (wpAny_pure (wpAny_pure (wpAny_pure h)))
  ·cases hz
 ·rintro⟨r1,r2⟩ s' ⟨hr1,rfl,hz | ⟨hz,_⟩ | ⟨_,e⟩⟩
  ·cases hz
  ·cases hz
  ·simp only at hr1
   subst hr1
   refine wpAny_pure ?_
   rw[decide_eq_true e] at h
   exact h
theorem zko{x y:K×K'}{a b:Addr}{Q:Bool→Shared→Prop}(hu:A.units < cLine)(hr:ik.room A.in1)(hr':jk.room A.in1)(hx:IsPairK ik jk s.heap x a)(hy:IsPairK ik jk s.heap y b)(h:Q (decide (x=y)) s) :
 wpAny (model prog w) A (eqBool (.ref a) (.ref b)) Q E s:=by
 unfold eqBool
 try with_reducible refine wpAny_holding ?_
 show wpAny _ _ (if (Value.ref a == Value.ref b)=true then _ else _) Q E s
 by_cases hab:(Value.ref a == Value.ref b)=true
 ·rw[if_pos hab]
  have e:a=b:=by have:=eq_of_beq hab;injection this
  subst e
  obtain rfl:=hx.inj hy
  exact wpAny_bind (wpAny_rule (wpAny_pure (by simpa using h)))
 ·rw[if_neg hab]
  exact wpAny_bind (wpAny_richCompare_same_room (op:=.Eq) hx.typeIs hy.typeIs F.slot_tuple_eq
   (wpAny_call_entry F.slot_tuple_eq hx.typeIs F.entry_tuple_eq (zkm hr hr' hx hy ⟨_,rfl,(fun e=>nomatch e),wpAny_truthy_bool h⟩) (F.args_tuple_eq_2 _ _)) hu)
theorem zdd{k:K×K'}{a:Addr}{n:Nat}{Q:Bool→Shared→Prop}(hn:ik.dep+1≤n)(hn':jk.dep+1≤n)(hk:IsPairK ik jk s.heap k a)(h:Q true s):wpAny (model prog w) A (eqIsQuiet n (.ref a)) Q E s:=by
 obtain⟨n,rfl⟩ : ∃ n',n=n' + 1:=⟨n - 1,by omega⟩
 have hT:=hk.typeIs
 obtain⟨o,x,y,_,ho,_,hd,h1,h2⟩:=hk
 unfold eqIsQuiet
 refine wpAny_bind (wpAny_specialOf hT F.slot_tuple_eq.lookup ?_)
 show wpAny _ _ (isInstance (.ref a) (.type "tuple") >>= _) _ _ s
 refine wpAny_bind (wpAny_isInstance hT isSubtype_tuple_tuple ?_)
 simp only[Bool.not_true,Bool.false_eq_true,if_false]
 refine wpAny_bind (wpAny_seqItems ho hd ?_)
 refine wpAny_bind ?_
 show wpAny _ _ (forIn #[x,y] _ _) _ _ s
 rw[← Array.forIn_toList]
 refine wpAny_forIn_list _ (fun rest r s'=>r.1=none∧s'=s∧(rest=[x,y]∨rest=[y]∨rest=[])) _ ?_ ?_ _ _ ⟨rfl,rfl,.inl rfl⟩
 ·rintro v rest r s' ⟨hr,rfl,hz | hz | hz⟩
  ·cases hz
   refine wpAny_bind (ik.quiet (by omega) h1 ?_)
   simp only[Bool.not_true,Bool.false_eq_true,if_false]
   exact wpAny_pure ⟨rfl,rfl,by simp⟩
  ·cases hz
   refine wpAny_bind (jk.quiet (by omega) h2 ?_)
   simp only[Bool.not_true,Bool.false_eq_true,if_false]
   exact wpAny_pure ⟨rfl,rfl,by simp⟩
  ·cases hz
 ·rintro⟨r1,r2⟩ s' ⟨hr,rfl,_⟩
  simp only at hr
  subst hr
  exact wpAny_pure h
noncomputable def zjj(ik:ItemKind prog w K)(jk:ItemKind prog w K')(hd:ik.dep≤7)(hd':jk.dep≤7):HeapKind prog w (K×K') where
 is:=IsPairK ik jk
 hash:=zfg ik jk
 draws:=zb3 ik jk
 room:=fun A=>A.units < cLine∧ik.room A.in1∧jk.room A.in1
 inj:=fun hx hy=>hx.inj hy
 keeps:=fun x ho hd hs=>x.keeps ho hd hs
 pyHash:=fun hu hk h=>zfy hu.1 hu.2.1 hu.2.2 hk h
 eqBool:=fun hu hx hy h=>zko hu.1 hu.2.1 hu.2.2 hx hy h
 quiet:=fun hk h=>zdd (by omega) (by omega) hk h
noncomputable def yl(prog:Program)(w:World):HeapKind prog w (List (List Int)×Int):=zjj (ut (ut qx)) qx (show 2≤7 by decide) (show 0≤7 by decide)
end
end Mine
end
section
namespace Mine
open PySem PyProof.Rows
section
variable{prog:Program}{w:World}{h:Heap}
theorem int_is{v:Value}{i:Int}:(intKind prog w).is i v=true↔∃ t,v=.int i t:=by
 constructor
 ·intro e
  cases v with
  | int j t=>exact⟨t,by have:=(intKind prog w).inj _ _ _ e (intKind_is _ _ j t);rw[this]⟩
  | _=>cases e
 ·rintro⟨t,rfl⟩;exact intKind_is _ _ _ _
theorem zbb:∀ {c:List Int} {vs:List Value} {as:List Addr},ReadsAll h vs (c.map .int) as→ItemsK (qx (prog:=prog) (w:=w)) h c vs
 | [],_,_,.nil=>.nil
 | _::_,_,_,.cons r rs=>by cases r;exact .cons (int_is.mpr ⟨_,rfl⟩) (zbb rs)
theorem items_int:∀ {c:List Int} {vs:List Value},ItemsK (qx (prog:=prog) (w:=w)) h c vs→ReadsAll h vs (c.map .int) []
 | _,_,.nil=>.nil
 | _,_,.cons r rs=>by obtain⟨t,rfl⟩:=int_is.mp r;exact ReadsAll.cons (as:=[]) (bs:=[]) (.int _ t) (items_int rs)
theorem zaq:∀ {c:List (List Int)} {vs:List Value} {as:List Addr},ReadsAll h vs (c.map fun c=>.tuple (c.map .int)) as→ItemsK (ut (qx (prog:=prog) (w:=w))) h c vs
 | [],_,_,.nil=>.nil
 | _::_,_,_,.cons r rs=>by
   cases r with
   | tuple h1 h2 h3 h4=>exact .cons ⟨_,rfl,_,_,_,h1,h2,h3,zbb h4⟩ (zaq rs)
theorem za7:∀ {c:List (List Int)} {vs:List Value},ItemsK (ut (qx (prog:=prog) (w:=w))) h c vs→ReadsAll h vs (c.map fun c=>.tuple (c.map .int)) []
 | _,_,.nil=>.nil
 | _,_,.cons r rs=>by
   obtain⟨a,rfl,o,its,n,h1,h2,h3,h4⟩:=r
   exact ReadsAll.cons (as:=[]) (bs:=[]) (.tuple h1 h2 h3 (items_int h4)) (za7 rs)
theorem uu{k:MKey}{v:Value}{as:List Addr}(r:Reads h v (pe k) as):∃ a,v=.ref a∧(yl prog w).is h k a:=by
 cases r with
 | @tuple a o vs n xs bs h1 h2 h3 h4=>
   refine⟨a,rfl,?_⟩
   obtain⟨l⟩:=vs
   cases h4 with
   | cons r1 r2=>cases r2 with
     | cons r3 r4=>
       cases r4
       cases r1 with
       | tuple g1 g2 g3 g4=>
         cases r3 with
         | int i t=>exact⟨o,_,_,n,h1,h2,h3,⟨_,rfl,_,_,_,g1,g2,g3,zaq g4⟩,int_is.mpr ⟨t,rfl⟩⟩
theorem zfk{k:MKey}{a:Addr}(r:(yl prog w).is h k a):Reads h (.ref a) (pe k) []:=by
 obtain⟨o,x,y,n,h1,h2,h3,⟨b,rfl,o',its,n',g1,g2,g3,g4⟩,h5⟩:=r
 obtain⟨t,rfl⟩:=int_is.mp h5
 exact .tuple h1 h2 h3 (ReadsAll.cons (as:=[]) (bs:=[]) (.tuple g1 g2 g3 (za7 g4)) (ReadsAll.cons (as:=[]) (bs:=[]) (.int _ t) .nil))
theorem zhx(k:MKey):(yl prog w).hash k=zn4 k:=rfl
noncomputable def wv(h:Heap)(N β:List Addr)(xs:List (MKey×Addr×Value))(kvs:List (MKey×PyData)):Prop:=
 xs.length=kvs.length∧∀ (i:Nat) x kv,xs[i]?=some x→kvs[i]?=some kv→x.1=kv.1∧∃ bs,Reads h x.2.2 kv.2 bs∧∀ b∈bs,b∉β∧b∉N
theorem zci{N β:List Addr}{d:Addr}{kvs:List (MKey×PyData)}(hp:Plain h d)(hd:DictAt h N β d kvs):∃ xs,h.DictOfH (yl prog w) d xs∧wv h N β xs kvs:=by
 obtain⟨o,es,n,h1,h2,h3,⟨h4,hn⟩,h5⟩:=hd
 obtain⟨o',h1',hd',hs'⟩:=hp
 rw[h1] at h1';cases h1'
 have key:∀ (es:List DictEntry) (kvs:List (MKey×PyData)),es.length=kvs.length→(∀ (i:Nat) e kv,es[i]?=some e→kvs[i]?=some kv→zhi h N β e kv) →
  ∃ xs,es=xs.map (entryOfKey (yl prog w))∧(∀ x∈xs,(yl prog w).is h x.1 x.2.1)∧xs.map (·.1)=kvs.map (·.1)∧wv h N β xs kvs:=by
  intro es
  induction es with
  | nil=>
    intro kvs hl _
    cases kvs with
    | nil=>exact⟨[],rfl,fun _ h=>(nomatch h),rfl,rfl,fun i x kv hx=>by simp at hx⟩
    | cons _ _=>cases hl
  | cons e es ih=>
    intro kvs hl hE
    cases kvs with
    | nil=>cases hl
    | cons kv kvs=>
      obtain⟨xs,e1,e2,e3,e4,e5⟩:=ih kvs (by simpa using hl) fun i e' kv' he hk=>hE (i+1) e' kv' (by simpa using he) (by simpa using hk)
      obtain⟨hq,as,bs,r1,r2,q⟩:=hE 0 e kv rfl rfl
      obtain⟨a,ha,hk⟩:=uu (prog:=prog) (w:=w) r1
      refine⟨(kv.1,a,e.val)::xs,?_,fun x hx=>?_,by simp[e3],by simp[e4],fun i x kv' hx hk'=>?_⟩
      ·rw[List.map_cons,← e1]
       congr 1
       obtain⟨eh,ek,ev⟩:=e
       dsimp only at ha hq
       subst ha;subst hq
       rfl
      ·rcases List.mem_cons.mp hx with rfl | hx
       ·exact hk
       ·exact e2 x hx
      ·cases i with
       | zero=>
         simp at hx hk'
         subst hx;subst hk'
         exact⟨rfl,bs,r2,fun b hb=>q b (List.mem_append_right _ hb)⟩
       | succ i=>exact e5 i x kv' (by simpa using hx) (by simpa using hk')
 obtain⟨xs,e1,e2,e3,e4⟩:=key es.toList kvs (by simpa using h4) fun i e kv he hk=>h5 i e kv (by simpa using he) hk
 exact⟨xs,⟨o,es,n,h1,⟨h2,hd',hs'⟩,h3,e1,e2,by rw[e3];exact hn⟩,e4⟩
theorem znd{N β:List Addr}{d:Addr}{xs:List (MKey×Addr×Value)}{kvs:List (MKey×PyData)}(hd:h.DictOfH (yl prog w) d xs)(hv:wv h N β xs kvs):DictAt h N β d kvs∧Plain h d:=by
 obtain⟨o,es,n,h1,⟨h2,g1,g2⟩,h3,h4,h5,h6⟩:=hd
 have hl:es.size=xs.length:=by rw[← Array.length_toList,h4,List.length_map]
 refine⟨⟨o,es,n,h1,h2,h3,⟨hl.trans hv.1,?_⟩,fun i e kv he hk=>?_⟩,o,h1,g1,g2⟩
 ·have:kvs.map (·.1)=xs.map (·.1):=by
   refine List.ext_getElem? fun i=>?_
   rw[List.getElem?_map,List.getElem?_map]
   cases hx:xs[i]? with
   | none=>
     have:kvs[i]?=none:=by rw[List.getElem?_eq_none_iff] at hx ⊢;rw[← hv.1];exact hx
     rw[this];rfl
   | some x=>
     have hi:=(List.getElem?_eq_some_iff.mp hx).1
     rw[hv.1] at hi
     have hk:kvs[i]?=some kvs[i]:=List.getElem?_eq_getElem hi
     rw[hk]
     exact congrArg some ((hv.2 i x _ hx hk).1).symm
  rw[this];exact h6
 ·have he':es.toList[i]?=some e:=by simpa using he
  rw[h4,List.getElem?_map] at he'
  cases hx:xs[i]? with
  | none=>rw[hx] at he';cases he'
  | some x=>
    rw[hx] at he'
    cases he'
    obtain⟨e1,bs,r,q⟩:=hv.2 i x kv hx hk
    obtain⟨kk,dd⟩:=kv
    have e1:x.1=kk:=e1
    subst e1
    exact⟨zhx _,[],bs,zfk (h5 x (List.mem_of_getElem? hx)),r,fun b hb=>q b (by simpa using hb)⟩
theorem qk{N β:List Addr}{k:MKey}:∀ {xs:List (MKey×Addr×Value)} {kvs:List (MKey×PyData)},wv h N β xs kvs→(atKey xs k=none∧zx kvs k=none)∨∃ p d bs,atKey xs k=some p∧zx kvs k=some d∧Reads h p.2 d bs∧∀ b∈bs,b∉β∧b∉N
 | [],[],_=>.inl ⟨rfl,rfl⟩
 | [],_::_,hv=>by cases hv.1
 | _::_,[],hv=>by cases hv.1
 | x::xs,kv::kvs,hv=>by
   obtain⟨e,bs,r,q⟩:=hv.2 0 x kv rfl rfl
   by_cases hk:x.1=k
   ·right
    refine⟨x.2,kv.2,bs,by simp[atKey,hk],by simp[zx,← e,hk],r,q⟩
   ·have hk':¬ kv.1=k:=by rw[← e];exact hk
    have:=qk (k:=k) (xs:=xs) (kvs:=kvs) ⟨by simpa using hv.1,fun i x' kv' h1 h2=>hv.2 (i+1) x' kv' (by simpa using h1) (by simpa using h2)⟩
    have e1:atKey (x::xs) k=atKey xs k:=by simp[atKey,hk]
    have e2:zx (kv::kvs) k=zx kvs k:=by simp[zx,hk']
    rw[e1,e2]
    exact this
end
set_option tactic.hygienic true in
theorem zgx:∀ {xs:List PyData} {is:List Int},intsOf xs=some is→xs=is.map PyData.int
 | [],_,h=>by cases h;rfl
 | x::xs,is,h=>by
   cases x <;> first | (cases h;done) | skip
   rename_i i
   unfold intsOf at h
   cases hr:intsOf xs with
   | none=>rw[hr] at h;cases h
   | some r=>rw[hr] at h;cases h;rw[zgx hr];rfl
theorem zgg:∀ {xs:List PyData} {kss:List (List Int)},ja xs=some kss→xs=kss.map fun c=>PyData.tuple (c.map .int)
 | [],_,h=>by cases h;rfl
 | x::xs,kss,h=>by
   unfold ja at h
   cases hx:tupI x with
   | none=>rw[hx] at h;cases h
   | some c=>
     rw[hx] at h
     cases hr:ja xs with
     | none=>rw[hr] at h;cases h
     | some r=>
       rw[hr] at h;cases h
       rw[zgg hr]
       cases x <;> first | (cases hx;done) | skip
       have hx:intsOf _=some c:=hx
       rw[zgx hx];rfl
set_option tactic.hygienic true in
theorem gz{x:PyData}{k:MKey}(h:keyOf x=some k):x=pe k:=by
 unfold keyOf at h
 split at h
 ·rename_i xs n
  cases hr:ja xs with
  | none=>rw[hr] at h;cases h
  | some r=>rw[hr] at h;cases h;rw[zgg hr];rfl
 ·cases h
section
variable{G:Gl}{F:Fm}{A:Around}{s:Shared}{β:List Addr}{ρ:Loc}{O:za}
theorem Room.memo{k:Nat}(ro:Room A k):(yl G.prog G.w).room A.in1:=by
 have h:=ro.units
 have hc:cLine=9900:=rfl
 refine⟨?_,⟨?_,?_,trivial⟩,trivial⟩
 ·show A.units+1 < cLine;omega
 ·show A.units+1+1 < cLine;omega
 ·show A.units+1+1+1 < cLine;omega
theorem zak{d a:Addr}{k:MKey}{xs:List (MKey×Addr×Value)}{E:Value→Shared→Prop}{Q:Bool→Shared→Prop}(hu:(yl G.prog G.w).room A.in1)(hkey:(yl G.prog G.w).is s.heap k a)(hd:(d == sysModules)=false)(hm:s.heap.DictOfH (yl G.prog G.w) d xs)
 (h:Q (atKey xs k).isSome { s with toks:=s.toks+(yl G.prog G.w).draws k }):wpAny (model G.prog G.w) A (contains (.ref d) (.ref a)) Q E s:=by
 unfold contains
 try with_reducible refine wpAny_holding ?_
 refine wpAny_bind (wpAny_specialOf hm.typeIs slot_dict_contains.lookup ?_)
 show wpAny _ _ (if (some (Value.builtin "dict.__contains__") == some Value.none)=true then _ else _) _ E s
 rw[if_neg (by rw[beq_builtin_none];exact Bool.false_ne_true)]
 refine wpAny_bind (wpAny_callSpecialUnlessNone?_slot (name:=Str.ofString "__contains__") hm.typeIs slot_dict_contains
  (wpAny_call_entry slot_dict_contains hm.typeIs entry_dict_contains ?_ (args_dict_contains _ _)))
 show wpAny _ _ (dictGet d (.ref a) >>= _) _ _ s
 refine wpAny_bind (wpAny_dictGet_heap hu hkey hm ?_)
 cases hf:atKey xs k with
 | some p=>
   rw[hf] at h
   show wpAny _ _ (ret (.bool true)) _ _ _
   exact wpAny_pure ⟨_,rfl,wpAny_truthy_bool h⟩
 | none=>
   rw[hf] at h
   show wpAny _ _ (Builtin.Dict.pendingKey? d (.ref a) >>= _) _ _ _
   exact wpAny_bind (wpAny_pendingKey_other hd (wpAny_pure ⟨_,rfl,wpAny_truthy_bool h⟩))
theorem zaj{v u:Value}{n:Nat}{x:PyData}{kvs:List (MKey×PyData)}{q:MKey}{k:Nat}(ro:Room A k)(sr:SR G F β ρ O s.heap)(ho:O[n]?=some (.dct kvs))(hk:keyOf x=some q)
 (rv:VR G F.B β s.heap v (.d x)) (ru:VR G F.B β s.heap u (.box n)) :
 Does G F A s β (compareOp .NotIn v u) ((R.ok (V.d (.bool !(zx kvs q).isSome)) O).lift ρ) (VRel G F):=by
 obtain⟨d,hd,rfl⟩:=ru
 obtain⟨as,r,_⟩:=rv
 rw[gz hk] at r
 obtain⟨a,rfl,hkey⟩:=uu (prog:=G.prog) (w:=G.w) r
 have hm:=List.mem_of_getElem? hd
 obtain⟨xs,hD,hv⟩:=zci (prog:=G.prog) (w:=G.w) (sr.br.plain d hm) (sr.br.at_ n d _ hd ho)
 refine Does.leaf sr fun Q E kk=>?_
 show wpAny _ _ (do return Value.bool (!(← contains (.ref d) (.ref a)))) Q E s
 refine wpAny_bind (zak ro.memo hkey (G.notSys (sr.br.new d hm)) hD (wpAny_pure ?_))
 have e:(atKey xs q).isSome=(zx kvs q).isSome:=by
  rcases qk (k:=q) hv with ⟨e1,e2⟩ | ⟨p,d',bs,e1,e2,_⟩ <;> rw[e1,e2] <;> rfl
 rw[e]
 exact kk _ _ (KeepsAll.toks s _) VR.bool
theorem zd5{value slice:Expr}{v u:Value}{n:Nat}{x:PyData}{kvs:List (MKey×PyData)}{q:MKey}{k:Nat}(ro:Room A k)(sr:SR G F β ρ O s.heap)(ho:O[n]?=some (.dct kvs))(hk:keyOf x=some q)
 (rv:VR G F.B β s.heap v (.box n)) (ru:VR G F.B β s.heap u (.d x)) (hs:subscripted slice false v u=operate [v,u] (getItem v u)) :
 Does G F A s β (subscriptTail value slice v u) ((opt ((zx kvs q).map V.d) O).lift ρ) (VRel G F):=by
 obtain⟨d,hd,rfl⟩:=rv
 obtain⟨as,r,_⟩:=ru
 rw[gz hk] at r
 obtain⟨a,rfl,hkey⟩:=uu (prog:=G.prog) (w:=G.w) r
 have hm:=List.mem_of_getElem? hd
 obtain⟨xs,hD,hv⟩:=zci (prog:=G.prog) (w:=G.w) (sr.br.plain d hm) (sr.br.at_ n d _ hd ho)
 rcases qk (k:=q) hv with ⟨e1,e2⟩ | ⟨p,d',bs,e1,e2,r',hb⟩
 ·rw[e2];trivial
 ·rw[e2]
  refine Does.leaf sr fun Q E kk=>?_
  refine tail_any (T:="dict") hD.typeIs slot_dict_getitem.lookup ?_ hs
  exact wpAny_getItem_heap ro.memo hkey hD e1 (kk _ _ (KeepsAll.toks s _) ⟨bs,r',hb⟩)
end
end Mine
end
section
namespace Mine
open PySem PySem.SetTable
noncomputable abbrev Ent:=Nat×Int×Value
noncomputable def places(L:List Ent):Array Nat:=(L.map (·.1)).toArray
noncomputable def elems(L:List Ent):Array (Int×Value):=(L.map (·.2)).toArray
noncomputable def Rise(L:List Ent):Prop:=L.Pairwise fun a b=>a.1 < b.1
theorem zle{xs:Array Nat}{j c:Nat}(h:∀ i (hi:i < xs.size),xs[i] < j↔i < c):∀ (fuel lo hi:Nat),lo≤c→c≤hi→hi≤xs.size→hi≤fuel+lo→below.go xs j fuel lo hi=c:=by
 intro fuel
 induction fuel with
 | zero=>exact fun lo hi h1 h2 _ h4=>Nat.le_antisymm h1 (Nat.le_trans h2 (Nat.zero_add lo ▸ h4))
 | succ fuel ih=>
   intro lo hi h1 h2 h3 h4
   show (if lo < hi then (if xs.getD ((lo+hi) / 2) j < j then below.go xs j fuel ((lo+hi) / 2+1) hi else below.go xs j fuel lo ((lo+hi) / 2)) else lo)=c
   by_cases hl:lo < hi
   ·have a1:lo≤(lo+hi) / 2:=by omega
    have a2:(lo+hi) / 2 < hi:=by omega
    generalize (lo+hi) / 2=m at a1 a2
    have hm:m < xs.size:=Nat.lt_of_lt_of_le a2 h3
    have e:xs.getD m j=xs[m]:=by rw[Array.getD_eq_getD_getElem?,Array.getElem?_eq_getElem hm];rfl
    rw[if_pos hl,e]
    by_cases hx:xs[m] < j
    ·rw[if_pos hx]
     exact ih _ hi ((h _ hm).mp hx) h2 h3 (Nat.le_trans h4 (by omega))
    ·rw[if_neg hx]
     exact ih lo _ h1 (Nat.le_of_not_lt fun q=>hx ((h _ hm).mpr q)) (Nat.le_of_lt hm) (Nat.le_of_lt_succ (Nat.lt_of_lt_of_le a2 (Nat.succ_add fuel lo ▸ h4)))
   ·rw[if_neg hl]
    exact Nat.le_antisymm h1 (Nat.le_trans h2 (Nat.le_of_not_lt hl))
theorem zlf{xs:Array Nat}{j c:Nat}(hc:c≤xs.size)(h:∀ i (hi:i < xs.size),xs[i] < j↔i < c):below xs j=c:=
 zle h _ _ _ (Nat.zero_le _) hc (Nat.le_refl _) (Nat.le_refl _)
theorem jp{A B:List Ent}{j:Nat}(hA:∀ e∈A,e.1 < j)(hB:∀ e∈B,j≤e.1):below (places (A++B)) j=A.length:=by
 refine zlf (by simp[places]) fun i hi=>?_
 have hs:i < (A++B).length:=by simpa [places] using hi
 have e:(places (A++B))[i]=((A++B)[i]).1:=by
  apply Option.some.inj
  rw[← Array.getElem?_eq_getElem hi]
  unfold places
  rw[List.getElem?_toArray,List.getElem?_map,List.getElem?_eq_getElem hs]
  rfl
 rw[e]
 by_cases h:i < A.length
 ·rw[List.getElem_append_left h]
  exact⟨fun _=>h,fun _=>hA _ (List.getElem_mem _)⟩
 ·rw[List.getElem_append_right (by omega)]
  have:=hB _ (List.getElem_mem (l:=B) (n:=i - A.length) (by simp at hs;omega))
  constructor
  ·intro q;omega
  ·intro q;omega
theorem vj(j:Nat):∀ (L:List Ent),Rise L→∃ A B,L=A++B∧(∀ e∈A,e.1 < j)∧∀ e∈B,j≤e.1
 | [],_=>⟨[],[],rfl,fun _ h=>(nomatch h),fun _ h=>(nomatch h)⟩
 | x::L,h=>by
   have h':Rise L:=(List.pairwise_cons.mp h).2
   by_cases hx:x.1 < j
   ·obtain⟨A,B,rfl,h1,h2⟩:=vj j L h'
    exact⟨x::A,B,rfl,fun e he=>by
     rcases List.mem_cons.mp he with rfl | he
     ·exact hx
     ·exact h1 e he,h2⟩
   ·refine⟨[],x::L,rfl,fun _ h=>(nomatch h),fun e he=>?_⟩
    rcases List.mem_cons.mp he with rfl | he
    ·omega
    ·have:=(List.pairwise_cons.mp h).1 e he;omega
structure jq(t:SetTable)(m:Nat)(ld:Bool)(L:List Ent):Prop where
 mask:t.mask=m
 place:t.place=places L
 dummies:t.dummies = #[]
 led:t.led=ld
 plain:t.plain=true
theorem zav{t:SetTable}{m:Nat}{ld:Bool}{A B:List Ent}{e:Ent}(ht:jq t m ld (A++e::B))(hr:Rise (A++e::B)):t.slot e.1=.live A.length:=by
 have hA:∀ x∈A,x.1 < e.1:=fun x hx=>(List.pairwise_append.mp hr).2.2 x hx e List.mem_cons_self
 have hB:∀ x∈e::B,e.1≤x.1:=fun x hx=>by
  rcases List.mem_cons.mp hx with rfl | hx
  ·exact Nat.le_refl _
  ·exact Nat.le_of_lt ((List.pairwise_cons.mp (List.pairwise_append.mp hr).2.1).1 x hx)
 unfold slot
 rw[ht.place,jp hA hB]
 dsimp only
 rw[if_pos]
 simp[places]
theorem ze2{t:SetTable}{m:Nat}{ld:Bool}{L:List Ent}{j:Nat}(ht:jq t m ld L)(hr:Rise L)(hj:∀ e∈L,e.1≠j):t.slot j=.empty:=by
 obtain⟨A,B,rfl,hA,hB⟩:=vj j L hr
 unfold slot
 rw[ht.place,jp hA hB,ht.dummies]
 dsimp only
 have h1:((places (A++B))[A.length]? == some j)=false:=by
  cases B with
  | nil=>simp[places]
  | cons b B=>
    have:(places (A++b::B))[A.length]?=some b.1:=by simp[places]
    rw[this]
    have hb:=hj b (by simp)
    simpa using hb
 rw[if_neg (by rw[h1];decide)]
 have h2:has #[] j=false:=by simp[has]
 rw[if_neg (by rw[h2];decide)]
theorem zpb{t:SetTable}{m:Nat}{ld:Bool}{L:List Ent}{j:Nat}(ht:jq t m ld L)(hr:Rise L)(hj:∀ e∈L,e.1≠j)(h:Int)(x:Value):∃ A B,L=A++B∧(t.put j).2=A.length∧jq (t.put j).1 m ld (A++(j,h,x)::B)∧Rise (A++(j,h,x)::B) ∧
 insertAt (elems L) A.length (h,x)=elems (A++(j,h,x)::B):=by
 obtain⟨A,B,rfl,hA,hB⟩:=vj j L hr
 have hB':∀ e∈B,j < e.1:=fun e he=>Nat.lt_of_le_of_ne (hB e he) (fun q=>hj e (List.mem_append_right _ he) q.symm)
 have ins:∀ {α:Type} (f:Ent→α) (z:α),insertAt ((A++B).map f).toArray A.length z=(A.map f++z::B.map f).toArray:=by
  intro α f z
  unfold insertAt
  apply Array.toList_inj.mp
  simp
  exact List.take_of_length_le (by simp)
 refine⟨A,B,rfl,?_,⟨ht.mask,?_,?_,ht.led,ht.plain⟩,?_,?_⟩
 ·unfold put;dsimp only;rw[ht.place,jp hA hB]
 ·unfold put;dsimp only
  rw[ht.place,jp hA hB]
  unfold places
  rw[ins];simp
 ·unfold put;dsimp only
  rw[ht.dummies]
  rfl
 ·refine List.pairwise_append.mpr ⟨(List.pairwise_append.mp hr).1,List.pairwise_cons.mpr ⟨hB',(List.pairwise_append.mp hr).2.1⟩,fun a ha b hb=>?_⟩
  rcases List.mem_cons.mp hb with rfl | hb
  ·exact hA a ha
  ·exact (List.pairwise_append.mp hr).2.2 a ha b hb
 ·unfold elems
  rw[ins];simp
noncomputable def advM(m:Nat)(p:Probe):Probe:=
 if p.more > 0 then { p with j:=p.j+1,more:=p.more - 1 } else
 { p with j:=(leap m p.i p.perturb).1,more:=runEnd m (leap m p.i p.perturb).1 - (leap m p.i p.perturb).1,i:=(leap m p.i p.perturb).1,perturb:=(leap m p.i p.perturb).2 }
theorem zf7(t:SetTable)(p:Probe):t.advance p=advM t.mask p:=by unfold advance advM;split <;> rfl
noncomputable def lp(m i pt:Nat):Probe:={ j:=i,more:=runEnd m i - i,i:=i,perturb:=pt,dummy:=none }
noncomputable def advN(m:Nat):Nat→Probe→Probe
 | 0,p=>p
 | n+1,p=>advN m n (advM m p)
theorem xw(m:Nat):∀ (a b:Nat) (p:Probe),advN m (a+b) p=advN m b (advN m a p)
 | 0,b,p=>by rw[Nat.zero_add];rfl
 | a+1,b,p=>by rw[Nat.succ_add];exact xw m a b (advM m p)
theorem d8(m:Nat):∀ (k:Nat) (p:Probe),k≤p.more→advN m k p = { p with j:=p.j+k,more:=p.more - k }
 | 0,p,_=>rfl
 | k+1,p,h=>by
   rw[advN,d8 m k _ (by unfold advM;rw[if_pos (by omega)];show k≤p.more - 1;omega)]
   unfold advM
   rw[if_pos (by omega)]
   simp only[Probe.mk.injEq]
   refine⟨by omega,by omega,trivial,trivial,trivial⟩
theorem pi(m:Nat)(p:Probe)(hd:p.dummy=none):advN m (p.more+1) p=lp m (leap m p.i p.perturb).1 (leap m p.i p.perturb).2:=by
 rw[xw,d8 m _ _ (Nat.le_refl _)]
 show advM m _=_
 unfold advM lp
 rw[if_neg (by show ¬ (p.more - p.more > 0);omega)]
 simp[hd]
theorem more_le{m i:Nat}:runEnd m i - i≤9:=by unfold runEnd;split <;> omega
noncomputable def lpN(m:Nat):Nat→Nat×Nat→Nat×Nat
 | 0,x=>x
 | q+1,x=>lpN m q (leap m x.1 x.2)
theorem zgq(m:Nat):∀ (a b:Nat) (x:Nat×Nat),lpN m (a+b) x=lpN m b (lpN m a x)
 | 0,b,x=>by rw[Nat.zero_add];rfl
 | a+1,b,x=>by rw[Nat.succ_add];exact zgq m a b _
theorem zn1(m:Nat):∀ (q i pt:Nat),∃ n,n≤10 * q∧advN m n (lp m i pt)=lp m (lpN m q (i,pt)).1 (lpN m q (i,pt)).2
 | 0,i,pt=>⟨0,Nat.le_refl _,rfl⟩
 | q+1,i,pt=>by
   obtain⟨n,h1,h2⟩:=zn1 m q (leap m i pt).1 (leap m i pt).2
   refine⟨(lp m i pt).more+1+n,?_,?_⟩
   ·have:(lp m i pt).more≤9:=more_le
    omega
   ·rw[xw,pi m _ rfl]
    exact h2
theorem zjq(m:Nat):∀ (q i pt:Nat),(lpN m q (i,pt)).2=pt / 32 ^ q
 | 0,i,pt=>by simp[lpN]
 | q+1,i,pt=>by
   show (lpN m q ((leap m i pt).1,(leap m i pt).2)).2=_
   rw[zjq m q]
   show pt / 32 / 32 ^ q=_
   rw[Nat.div_div_eq_div_mul,Nat.pow_succ,Nat.mul_comm]
theorem zjr(m:Nat):∀ (q i pt:Nat),i≤m→(lpN m q (i,pt)).1≤m
 | 0,i,pt,h=>h
 | q+1,i,pt,h=>zjr m q _ _ (by show (i * 5+1+pt / 32) % (m+1)≤m;have:=Nat.mod_lt (i * 5+1+pt / 32) (show 0 < m+1 by omega);omega)
noncomputable def full(m:Nat):Bool:=(List.range (m+1)).all fun i=>(List.range (m+1)).all fun j=>(List.range (m+1)).any fun q=>(lpN m q (i,0)).1 == j
theorem zsi:full 7=true:=by decide +kernel
theorem zkf:full 31=true:=by decide +kernel
theorem gv{m:Nat}(hf:full m=true){i pt j:Nat}(hi:i≤m)(hp:pt < 2 ^ 64)(hj:j≤m):∃ q,q≤13+m∧(lpN m q (i,pt)).1=j:=by
 have h0:(lpN m 13 (i,pt)).2=0:=by rw[zjq];exact Nat.div_eq_of_lt (Nat.lt_of_lt_of_le hp (by decide))
 have h1:=zjr m 13 i pt hi
 unfold full at hf
 have h2:=List.all_eq_true.mp (List.all_eq_true.mp hf _ (List.mem_range.mpr (Nat.lt_succ_of_le h1))) j (List.mem_range.mpr (Nat.lt_succ_of_le hj))
 obtain⟨q,hq,h3⟩:=List.any_eq_true.mp h2
 rw[List.mem_range] at hq
 refine⟨13+q,by omega,?_⟩
 rw[zgq]
 have:lpN m 13 (i,pt)=((lpN m 13 (i,pt)).1,0):=Prod.ext rfl h0
 rw[this]
 exact beq_iff_eq.mp h3
structure Stand(m:Nat)(p:Probe):Prop where
 d:p.dummy=none
 i:p.i≤m
 pt:p.perturb < 2 ^ 64
 more:p.more≤9
theorem zhe(h:Int):bits h < 2 ^ 64:=by
 unfold bits
 have h1:0≤h % (2 ^ 64:Int):=Int.emod_nonneg _ (by decide)
 have h2:h % (2 ^ 64:Int) < 2 ^ 64:=Int.emod_lt_of_pos _ (by decide)
 omega
theorem Stand.lp{m i pt:Nat}(hi:i≤m)(hp:pt < 2 ^ 64):Stand m (lp m i pt):=⟨rfl,hi,hp,more_le⟩
theorem Stand.adv{m:Nat}{p:Probe}(h:Stand m p):Stand m (advM m p):=by
 unfold advM
 split
 ·exact⟨h.d,h.i,h.pt,by show p.more - 1≤9;have:=h.more;omega⟩
 ·refine⟨h.d,?_,?_,more_le⟩
  ·show (p.i * 5+1+p.perturb / 32) % (m+1)≤m
   have:=Nat.mod_lt (p.i * 5+1+p.perturb / 32) (show 0 < m+1 by omega);omega
  ·show p.perturb / 32 < 2 ^ 64
   have:=h.pt;omega
theorem Stand.advN{m:Nat}:∀ (n:Nat) {p:Probe},Stand m p→Stand m (advN m n p)
 | 0,_,h=>h
 | n+1,_,h=>Stand.advN n h.adv
theorem meets{m:Nat}(hf:full m=true){p:Probe}(hp:Stand m p){j:Nat}(hj:j≤m):∃ n,n < 10 * turns m∧(advN m n p).j=j:=by
 have hl:(leap m p.i p.perturb).1≤m:=by
  show (p.i * 5+1+p.perturb / 32) % (m+1)≤m
  have:=Nat.mod_lt (p.i * 5+1+p.perturb / 32) (show 0 < m+1 by omega);omega
 have h2:(leap m p.i p.perturb).2 < 2 ^ 64:=by
  show p.perturb / 32 < 2 ^ 64
  have:=hp.pt;omega
 obtain⟨q,hq,e⟩:=gv hf hl h2 hj
 obtain⟨n,hn,en⟩:=zn1 m q (leap m p.i p.perturb).1 (leap m p.i p.perturb).2
 refine⟨p.more+1+n,?_,?_⟩
 ·have:=hp.more
  unfold turns
  omega
 ·rw[xw,pi m p hp.d,en]
  exact e
theorem nodup_le:∀ {l l':List Nat},l.Nodup→(∀ x∈l,x∈l')→l.length≤l'.length
 | [],_,_,_=>Nat.zero_le _
 | a::l,l',hn,hs=>by
   obtain⟨h1,h2⟩:=List.nodup_cons.mp hn
   have:=nodup_le (l':=l'.erase a) h2 fun x hx=>(List.mem_erase_of_ne (fun e=>h1 (by rw[← e];exact hx))).mpr (hs x (List.mem_cons_of_mem _ hx))
   rw[List.length_erase_of_mem (hs a List.mem_cons_self)] at this
   have hp:0 < l'.length:=List.length_pos_of_mem (hs a List.mem_cons_self)
   rw[List.length_cons]
   omega
noncomputable def FirstFree(L:List Ent)(m n:Nat)(p:Probe):Prop:=(∀ e∈L,e.1≠(advN m n p).j)∧∀ k,k < n→∃ e∈L,e.1=(advN m k p).j
theorem zh9{L:List Ent}{m:Nat}(hf:full m=true)(hl:L.length≤m){p:Probe}(hp:Stand m p):∃ n,n < 10 * turns m∧FirstFree L m n p:=by
 have hfree:∃ j,j≤m∧∀ e∈L,e.1≠j:=by
  refine Classical.byContradiction fun hn=>?_
  have hall:∀ j,j∈List.range (m+1)→j∈L.map (·.1):=fun j hj=>by
   refine Classical.byContradiction fun hc=>hn ⟨j,Nat.lt_succ_iff.mp (List.mem_range.mp hj),fun e he q=>hc (List.mem_map.mpr ⟨e,he,q⟩)⟩
  have:=nodup_le List.nodup_range hall
  simp at this
  omega
 obtain⟨j,hj,hfr⟩:=hfree
 obtain⟨n,hn,e⟩:=meets hf hp hj
 have key:∀ n,(∀ e∈L,e.1≠(advN m n p).j)→∃ k,k≤n∧FirstFree L m k p:=by
  intro n
  induction n using Nat.strongRecOn with
  | ind n ih=>
    intro h
    by_cases hx:∃ k,k < n∧∀ e∈L,e.1≠(advN m k p).j
    ·obtain⟨k,hk,h'⟩:=hx
     obtain⟨k',h1,h2⟩:=ih k hk h'
     exact⟨k',by omega,h2⟩
    ·refine⟨n,Nat.le_refl _,h,fun k hk=>?_⟩
     refine Classical.byContradiction fun hc=>hx ⟨k,hk,fun e he q=>hc ⟨e,he,q⟩⟩
 obtain⟨k,h1,h2⟩:=key n (by rw[e];exact hfr)
 exact⟨k,by omega,h2⟩
noncomputable def yy(m:Nat)(h:Int):Probe:=lp m (bits h % (m+1)) (bits h)
theorem zcy(m:Nat)(h:Int):Stand m (yy m h):=.lp (by have:=Nat.mod_lt (bits h) (show 0 < m+1 by omega);omega) (zhe h)
noncomputable def Reach(L:List Ent)(m:Nat):Prop:=∀ e∈L,∃ n,(advN m n (yy m e.2.1)).j=e.1∧∀ k,k < n→∃ e'∈L,e'.1=(advN m k (yy m e.2.1)).j
theorem Reach.before{L:List Ent}{m n:Nat}{e:Ent}(hr:Reach L m)(he:e∈L)(hf:FirstFree L m n (yy m e.2.1)):∃ k,k < n∧(advN m k (yy m e.2.1)).j=e.1:=by
 obtain⟨k,h1,h2⟩:=hr e he
 refine⟨k,?_,h1⟩
 rcases Nat.lt_trichotomy k n with h | h | h
 ·exact h
 ·subst h;exact absurd h1.symm (hf.1 e he)
 ·obtain⟨e',he',h3⟩:=h2 n h
  exact absurd h3 (hf.1 e' he')
theorem Reach.put{A B:List Ent}{m n:Nat}{h:Int}{x:Value}(hr:Reach (A++B) m)(hf:FirstFree (A++B) m n (yy m h)):Reach (A++((advN m n (yy m h)).j,h,x)::B) m:=by
 have sub:∀ e∈A++B,e∈A++((advN m n (yy m h)).j,h,x)::B:=fun e he=>by
  rcases List.mem_append.mp he with he | he
  ·exact List.mem_append_left _ he
  ·exact List.mem_append_right _ (List.mem_cons_of_mem _ he)
 have old:∀ e∈A++B,∃ n',(advN m n' (yy m e.2.1)).j=e.1∧∀ k,k < n'→∃ e'∈A++((advN m n (yy m h)).j,h,x)::B,e'.1=(advN m k (yy m e.2.1)).j:=fun e he=>by
  obtain⟨k,h1,h2⟩:=hr e he
  exact⟨k,h1,fun i hi=>let ⟨e',he',q⟩:=h2 i hi;⟨e',sub e' he',q⟩⟩
 intro e he
 rcases List.mem_append.mp he with he | he
 ·exact old e (List.mem_append_left _ he)
 ·rcases List.mem_cons.mp he with rfl | he
  ·exact⟨n,rfl,fun k hk=>let ⟨e',he',q⟩:=hf.2 k hk;⟨e',sub e' he',q⟩⟩
  ·exact old e (List.mem_append_right _ he)
section
variable{m:Nat}{owner:Array (Option Nat)}
noncomputable def Fr(owner:Array (Option Nat))(j:Nat):Prop:=owner[j]?=some none
noncomputable def Oc(owner:Array (Option Nat))(j:Nat):Prop:=∃ i,owner[j]?=some (some i)
theorem zo9{i:Nat}(hi:i≤m):runEnd m i≤m:=by unfold runEnd;split <;> omega
theorem zjc{i:Nat}:i≤runEnd m i:=by unfold runEnd;split <;> omega
theorem pd(hs:owner.size=m+1){j:Nat}(hj:j≤m):((owner.getD j (some 0)).isNone=true∧Fr owner j)∨((owner.getD j (some 0)).isNone=false∧Oc owner j):=by
 have hl:j < owner.size:=by omega
 have e:owner[j]?=some owner[j]:=Array.getElem?_eq_getElem hl
 rw[Array.getD_eq_getD_getElem?]
 unfold Fr Oc
 rw[e]
 cases owner[j] with
 | none=>exact .inl ⟨rfl,rfl⟩
 | some i=>exact .inr ⟨rfl,i,rfl⟩
theorem zmy(hs:owner.size=m+1):∀ (fuel i pt q:Nat),i≤m→q < fuel→Fr owner (lpN m q (i,pt)).1→∃ n,layClean.free m owner fuel i pt=some (advN m n (lp m i pt)).j∧Fr owner (advN m n (lp m i pt)).j∧∀ k,k < n→Oc owner (advN m k (lp m i pt)).j:=by
 intro fuel
 induction fuel with
 | zero=>exact fun _ _ _ _ h=>absurd h (Nat.not_lt_zero _)
 | succ fuel ih=>
   intro i pt q hi hq hfr
   have hin:∀ k,k < runEnd m i - i+1→i+k≤m:=fun k hk=>Nat.le_trans (Nat.add_le_add_left (Nat.le_of_lt_succ hk) i) (Nat.le_trans (Nat.le_of_eq (Nat.add_sub_of_le zjc)) (zo9 hi))
   have ef:layClean.free m owner (fuel+1) i pt=((List.range (runEnd m i+1 - i)).find? fun k=>(owner.getD (i+k) (some 0)).isNone).elim (layClean.free m owner fuel (leap m i pt).1 (leap m i pt).2) (fun k=>some (i+k)):=by
    show (match (List.range (runEnd m i+1 - i)).find? fun k=>(owner.getD (i+k) (some 0)).isNone with | some k=>some (i+k) | none=>layClean.free m owner fuel (leap m i pt).1 (leap m i pt).2)=_
    cases (List.range (runEnd m i+1 - i)).find? fun k=>(owner.getD (i+k) (some 0)).isNone <;> rfl
   rw[ef,Nat.succ_sub zjc]
   clear ef
   have hr:(lp m i pt).more=runEnd m i - i:=rfl
   generalize runEnd m i - i=r at hin hr
   have e:∀ k,k≤r→(advN m k (lp m i pt)).j=i+k:=fun k hk=>by
    rw[d8 m k _ (hr ▸ hk)];rfl
   cases hfind:(List.range (r+1)).find? fun k=>(owner.getD (i+k) (some 0)).isNone with
   | some k=>
     obtain⟨h1,h2,h3⟩:=List.find?_range_eq_some.mp hfind
     have h2:=List.mem_range.mp h2
     refine⟨k,congrArg some (e k (Nat.le_of_lt_succ h2)).symm,?_,fun k' hk'=>?_⟩
     ·rw[e k (Nat.le_of_lt_succ h2)]
      rcases pd hs (hin k h2) with h | h
      ·exact h.2
      ·exact absurd (h1.symm.trans h.1) nofun
     ·have h4:=Nat.lt_trans hk' h2
      rw[e k' (Nat.le_of_lt_succ h4)]
      rcases pd hs (hin k' h4) with h | h
      ·have:=h3 k' hk'
       rw[h.1] at this;cases this
      ·exact h.2
   | none=>
     have hall:∀ k,k < r+1→Oc owner (i+k):=fun k hk=>
      (pd hs (hin k hk)).elim (fun h=>absurd h.1 (List.find?_eq_none.mp hfind k (List.mem_range.mpr hk))) (·.2)
     cases q with
     | zero=>
       obtain⟨i',h⟩:=hall 0 (Nat.succ_pos _)
       exact absurd ((show owner[i]?=some none from hfr).symm.trans h) nofun
     | succ q=>
       obtain⟨n,h1,h2,h3⟩:=ih (leap m i pt).1 (leap m i pt).2 q (Nat.le_of_lt_succ (Nat.mod_lt _ (Nat.succ_pos m))) (Nat.lt_of_succ_lt_succ hq) hfr
       have e':∀ k,advN m (r+1+k) (lp m i pt)=advN m k (lp m (leap m i pt).1 (leap m i pt).2):=fun k=>by
        rw[← hr,xw,pi m _ rfl];rfl
       refine⟨r+1+n,?_,?_,fun k hk=>?_⟩
       ·rw[e'];exact h1
       ·rw[e'];exact h2
       ·by_cases hk':k < r+1
        ·rw [e k (Nat.le_of_lt_succ hk')]
         exact hall k hk'
        ·obtain ⟨k',rfl⟩:=Nat.exists_eq_add_of_le (Nat.le_of_not_lt hk')
         rw [e']
         exact h3 k' (Nat.lt_of_add_lt_add_left hk)
end
structure Own(m:Nat)(owner:Array (Option Nat))(hs:List Int)(js:List Nat):Prop where
 size:owner.size=m+1
 len:js.length=hs.length
 nd:js.Nodup
 at_:∀ (j i:Nat),owner[j]?=some (some i)↔js[i]?=some j
 le:∀ j∈js,j≤m
 way:∀ (i:Nat) (h:Int) (j:Nat),hs[i]?=some h→js[i]?=some j→∃ n,(advN m n (yy m h)).j=j∧∀ k,k < n→Oc owner (advN m k (yy m h)).j
theorem zjv{m:Nat}(hf:full m=true){owner:Array (Option Nat)}{hs:List Int}{js:List Nat}(o:Own m owner hs js)(hl:hs.length≤m)(h:Int) :
 ∃ j,layClean.free m owner (turns m) (bits h % (m+1)) (bits h)=some j∧Own m (owner.setIfInBounds j (some hs.length)) (hs++[h]) (js++[j]):=by
 have hi:bits h % (m+1)≤m:=by have:=Nat.mod_lt (bits h) (show 0 < m+1 by omega);omega
 have hfree:∃ j,j≤m∧j∉js:=by
  refine Classical.byContradiction fun hn=>?_
  have:=nodup_le (l:=List.range (m+1)) (l':=js) List.nodup_range fun x hx=>by
   refine Classical.byContradiction fun hc=>hn ⟨x,by have:=List.mem_range.mp hx;omega,hc⟩
  rw[List.length_range,o.len] at this
  omega
 obtain⟨j0,hj0,hn0⟩:=hfree
 have hfr0:Fr owner j0:=by
  have hlt:j0 < owner.size:=by rw[o.size];omega
  have e:owner[j0]?=some owner[j0]:=Array.getElem?_eq_getElem hlt
  unfold Fr
  rw[e]
  cases hx:owner[j0] with
  | none=>rfl
  | some i=>
    rw[hx] at e
    exact absurd (List.mem_of_getElem? ((o.at_ j0 i).mp e)) hn0
 obtain⟨q,hq,eq⟩:=gv hf hi (zhe h) hj0
 obtain⟨n,h1,h2,h3⟩:=zmy o.size (turns m) (bits h % (m+1)) (bits h) q hi (by unfold turns;omega) (by rw[eq];exact hfr0)
 generalize hj:(advN m n (lp m (bits h % (m+1)) (bits h))).j=j at h1 h2
 have hjlt:j < owner.size:=by
  unfold Fr at h2
  exact (Array.getElem?_eq_some_iff.mp h2).1
 have hjn:j∉js:=fun hm=>by
  obtain⟨i,hi'⟩:=List.getElem?_of_mem hm
  have:=(o.at_ j i).mpr hi'
  unfold Fr at h2
  rw[h2] at this;cases this
 have grow:∀ k,Oc owner k→Oc (owner.setIfInBounds j (some hs.length)) k:=fun k ⟨i,hk⟩=>by
  by_cases e:j=k
  ·subst e;exact⟨hs.length,by rw[Array.getElem?_setIfInBounds_self,if_pos hjlt]⟩
  ·exact⟨i,by rw[Array.getElem?_setIfInBounds_ne e];exact hk⟩
 refine⟨j,h1,?_⟩
 constructor
 ·rw[Array.size_setIfInBounds];exact o.size
 ·simp[o.len]
 ·exact List.nodup_append.mpr ⟨o.nd,by simp,fun a ha b hb=>by rw[List.mem_singleton.mp hb];rintro rfl;exact hjn ha⟩
 ·intro k i
  by_cases e:j=k
  ·subst e
   rw[Array.getElem?_setIfInBounds_self,if_pos hjlt]
   constructor
   ·intro q;cases q;rw[← o.len];simp
   ·intro q
    by_cases hi':i < js.length
    ·rw[List.getElem?_append_left hi'] at q
     exact absurd (List.mem_of_getElem? q) hjn
    ·have:i=js.length:=by
      have:=(List.getElem?_eq_some_iff.mp q).1
      simp at this;omega
     subst this;rw[o.len]
  ·rw[Array.getElem?_setIfInBounds_ne e,o.at_]
   constructor
   ·intro q
    have:=(List.getElem?_eq_some_iff.mp q).1
    rw[List.getElem?_append_left this];exact q
   ·intro q
    by_cases hi':i < js.length
    ·rw[List.getElem?_append_left hi'] at q;exact q
    ·have:i=js.length:=by
      have:=(List.getElem?_eq_some_iff.mp q).1
      simp at this;omega
     subst this
     simp at q
     exact absurd q e
 ·intro k hk
  rcases List.mem_append.mp hk with hk | hk
  ·exact o.le k hk
  ·rw[List.mem_singleton.mp hk];have:=o.size;omega
 ·intro i h' j' e1 e2
  by_cases hi':i < js.length
  ·rw[List.getElem?_append_left hi'] at e2
   rw[List.getElem?_append_left (by rw[← o.len];exact hi')] at e1
   obtain⟨n',q1,q2⟩:=o.way i h' j' e1 e2
   exact⟨n',q1,fun k hk=>grow _ (q2 k hk)⟩
  ·have:i=js.length:=by
    have:=(List.getElem?_eq_some_iff.mp e2).1
    simp at this;omega
   subst this
   rw[List.getElem?_append_right (Nat.le_refl _),Nat.sub_self] at e2
   rw[o.len,List.getElem?_append_right (Nat.le_refl _),Nat.sub_self] at e1
   cases e1;cases e2
   exact⟨n,hj,fun k hk=>grow _ (h3 k hk)⟩
theorem lay_all{m:Nat}(hf:full m=true):∀ (rest hs:List Int) (owner:Array (Option Nat)) (js:List Nat),Own m owner hs js→hs.length+rest.length≤m →
 ∃ owner' js',rest.foldl (init:=some (owner,hs.length)) (fun acc h=>do
  let (owner,k) ← acc
  let j ← layClean.free m owner (turns m) (bits h % (m+1)) (bits h)
  pure (owner.setIfInBounds j (some k),k+1))=some (owner',hs.length+rest.length)∧Own m owner' (hs++rest) js'
 | [],hs,owner,js,o,_=>⟨owner,js,rfl,by rw[List.append_nil];exact o⟩
 | h::rest,hs,owner,js,o,hl=>by
   rw[List.length_cons] at hl
   obtain⟨j,h1,h2⟩:=zjv hf o (by omega) h
   obtain⟨owner',js',e,o'⟩:=lay_all hf rest (hs++[h]) _ _ h2 (by simp;omega)
   refine⟨owner',js',?_,by rw[List.append_assoc] at o';exact o'⟩
   rw[List.foldl_cons]
   rw[List.length_append,List.length_singleton] at e
   have:(do
    let (owner,k) ← some (owner,hs.length)
    let j ← layClean.free m owner (turns m) (bits h % (m+1)) (bits h)
    pure (owner.setIfInBounds j (some k),k+1))=some (owner.setIfInBounds j (some hs.length),hs.length+1):=by
    show (layClean.free m owner (turns m) (bits h % (m+1)) (bits h)).bind _=_
    rw[h1];rfl
   rw[this,e,List.length_cons]
   congr 2
   omega
theorem own0(m:Nat):Own m (Array.replicate (m+1) none) [] [] where
 size:=by simp
 len:=rfl
 nd:=List.nodup_nil
 at_:=fun j i=>by
  constructor
  ·intro q
   rw[Array.getElem?_replicate] at q
   split at q <;> cases q
  ·intro q;simp at q
 le:=fun _ h=>nomatch h
 way:=fun i h j e=>by simp at e
theorem zhs{ld:Bool}{t:SetTable}{m wanted:Nat}{es:Array (Int×Value)}(hf:full m=true)(hm:sizeAbove wanted - 1=m)(hl:es.size≤m)(hled:t.led=ld)(hplain:t.plain=true) :
 ∃ t' order L,t.relaid (es.map (·.1)) wanted=some (t',order)∧order.filterMap (es[·]?)=elems L∧L.length=es.size∧jq t' m ld L∧Rise L∧Reach L m∧(∀ e∈L,e.1≤m)∧(∀ p,(∃ e∈L,e.2=p)↔p∈es):=by
 obtain⟨owner,js,e1,o⟩:=lay_all hf (es.toList.map (·.1)) [] _ _ (own0 m) (by simp;exact hl)
 rw[List.nil_append] at o
 have hn:js.length=es.size:=by rw[o.len];simp
 have elay:layClean m (es.map (·.1))=some owner:=by
  unfold layClean
  have:(es.map (·.1))=(es.toList.map (·.1)).toArray:=by apply Array.toList_inj.mp;simp
  rw[this,← Array.foldl_toList]
  rw[List.toList_toArray]
  rw[show (0:Nat)=([]:List Int).length from rfl,e1]
  rfl
 let live:=(List.range (m+1)).filterMap fun j=>(owner.getD j none).map (j,·)
 have mem_live:∀ j i,(j,i)∈live↔js[i]?=some j:=fun j i=>by
  rw[← o.at_]
  simp only[live,List.mem_filterMap,List.mem_range]
  constructor
  ·rintro⟨k,hk,e⟩
   rw[Array.getD_eq_getD_getElem?,Array.getElem?_eq_getElem (by rw[o.size];exact hk)] at e
   simp only[Option.getD_some,Option.map_eq_some_iff,Prod.mk.injEq] at e
   obtain⟨i',h1,rfl,rfl⟩:=e
   rw[Array.getElem?_eq_getElem (by rw[o.size];exact hk),h1]
  ·intro q
   have hk:=(Array.getElem?_eq_some_iff.mp q).1
   refine⟨j,by rw[← o.size];exact hk,?_⟩
   rw[Array.getD_eq_getD_getElem?,q];rfl
 have idx_lt:∀ j i,(j,i)∈live→i < es.size:=fun j i h=>by
  have:=(List.getElem?_eq_some_iff.mp ((mem_live j i).mp h)).1
  omega
 let entOf:Nat×Nat→Ent:=fun x=>(x.1,es.getD x.2 (0,.none))
 have get_es:∀ i,i < es.size→es[i]?=some (es.getD i (0,.none)):=fun i hi=>by
  rw[Array.getD_eq_getD_getElem?,Array.getElem?_eq_getElem hi];rfl
 have rise_live:live.Pairwise fun a b=>a.1 < b.1:=by
  refine List.Pairwise.filterMap _ ?_ List.pairwise_lt_range
  intro a b hab x hx y hy
  simp only[Option.map_eq_some_iff] at hx hy
  obtain⟨_,_,rfl⟩:=hx
  obtain⟨_,_,rfl⟩:=hy
  exact hab
 have len_live:live.length=es.size:=by
  have nd1:(live.map (·.1)).Nodup:=by
   refine List.Pairwise.imp (R:=(· < ·)) (fun h=>Nat.ne_of_lt h) (List.pairwise_map.mpr rise_live)
  have a1:=nodup_le nd1 (l':=js) fun x hx=>by
   obtain⟨p,hp,rfl⟩:=List.mem_map.mp hx
   exact List.mem_of_getElem? ((mem_live p.1 p.2).mp hp)
  have a2:=nodup_le o.nd (l':=live.map (·.1)) fun x hx=>by
   obtain⟨i,hi⟩:=List.getElem?_of_mem hx
   exact List.mem_map.mpr ⟨(x,i),(mem_live x i).mpr hi,rfl⟩
  rw[List.length_map] at a1 a2
  omega
 refine⟨{ mask:=m,place:=(live.map (·.1)).toArray,dummies:=#[],finger:=t.finger,led:=t.led,moves:=t.movedTo m,plain:=t.plain },(live.map (·.2)).toArray,live.map entOf,?_,?_,by rw[List.length_map,len_live],⟨rfl,?_,rfl,hled,hplain⟩,?_,?_,?_,?_⟩
 ·unfold relaid laid
  rw[hm,elay]
  rfl
 ·-- the order
  unfold elems
  show Array.filterMap (fun x=>es[x]?) (live.map (·.2)).toArray=_
  rw[List.filterMap_toArray,List.map_map,List.filterMap_map]
  congr 1
  have:∀ l:List (Nat×Nat),(∀ x∈l,x∈live)→l.filterMap ((fun x=>es[x]?)∘fun x=>x.2)=l.map ((fun x=>x.2)∘entOf):=by
   intro l
   induction l with
   | nil=>intro _;rfl
   | cons x l ih=>
     intro hx
     rw[List.filterMap_cons,List.map_cons]
     have e9:((fun x=>es[x]?)∘fun x:Nat×Nat=>x.2) x=some (es.getD x.2 (0,.none)):=get_es x.2 (idx_lt x.1 x.2 (hx x List.mem_cons_self))
     rw[e9]
     dsimp only
     rw[ih fun y hy=>hx y (List.mem_cons_of_mem _ hy)]
     rfl
  exact this live fun _ h=>h
 ·unfold places
  rw[List.map_map];rfl
 ·exact List.pairwise_map.mpr rise_live
 ·intro e he
  obtain⟨x,hx,rfl⟩:=List.mem_map.mp he
  have hx':=(mem_live x.1 x.2).mp hx
  have hlt:=idx_lt x.1 x.2 hx
  obtain⟨n,h1,h2⟩:=o.way x.2 (es.getD x.2 (0,.none)).1 x.1 (by
   rw[List.getElem?_map,Array.getElem?_toList,get_es x.2 hlt];rfl) hx'
  refine⟨n,h1,fun k hk=>?_⟩
  obtain⟨i,hi⟩:=h2 k hk
  exact⟨entOf ((advN m k (yy m (es.getD x.2 (0,.none)).1)).j,i),List.mem_map.mpr ⟨_,(mem_live _ i).mpr ((o.at_ _ i).mp hi),rfl⟩,rfl⟩
 ·intro e he
  obtain⟨x,hx,rfl⟩:=List.mem_map.mp he
  exact o.le x.1 (List.mem_of_getElem? ((mem_live x.1 x.2).mp hx))
 ·intro p
  constructor
  ·rintro⟨e,he,rfl⟩
   obtain⟨x,hx,rfl⟩:=List.mem_map.mp he
   exact Array.mem_of_getElem? (get_es x.2 (idx_lt x.1 x.2 hx))
  ·intro hp
   obtain⟨i,hi,e⟩:=Array.getElem_of_mem hp
   have hj:i < js.length:=by omega
   refine⟨entOf (js[i],i),List.mem_map.mpr ⟨(js[i],i),(mem_live _ _).mpr (List.getElem?_eq_getElem hj),rfl⟩,?_⟩
   show es.getD i (0,.none)=p
   rw[Array.getD_eq_getD_getElem?,Array.getElem?_eq_getElem hi,← e];rfl
theorem Rise.unique{L:List Ent}(h:Rise L):∀ {e e':Ent},e∈L→e'∈L→e.1=e'.1→e=e':=by
 induction L with
 | nil=>intro e e' he;exact absurd he List.not_mem_nil
 | cons x L ih=>
   intro e e' he he' q
   obtain⟨h1,h2⟩:=List.pairwise_cons.mp h
   rcases List.mem_cons.mp he with r | r
   ·rcases List.mem_cons.mp he' with r' | r'
    ·rw[r,r']
    ·subst r;have:=h1 e' r';omega
   ·rcases List.mem_cons.mp he' with r' | r'
    ·subst r';have:=h1 e r;omega
    ·exact ih h2 r r' q
theorem FirstFree.next{L:List Ent}{m n:Nat}{p:Probe}(h:FirstFree L m (n+1) p):FirstFree L m n (advM m p):=
 ⟨h.1,fun k hk=>h.2 (k+1) (by omega)⟩
theorem FirstFree.drop{L:List Ent}{m:Nat}:∀ (k:Nat) {n:Nat} {p:Probe},FirstFree L m n p→k≤n→FirstFree L m (n - k) (advN m k p)
 | 0,n,p,h,_=>h
 | k+1,n,p,h,hk=>by
   obtain⟨n,rfl⟩ : ∃ n',n=n' + 1:=⟨n - 1,by omega⟩
   have:=FirstFree.drop k h.next (by omega)
   rw[show n+1 - (k+1)=n - k by omega]
   exact this
theorem advM_dummy{m:Nat}{p:Probe}:(advM m p).dummy=p.dummy:=by unfold advM;split <;> rfl
theorem zn5{t:SetTable}{hashAt:Nat→Int}{h:Int}{fuel:Nat}{p:Probe}{x:Slot}(hs:t.slot p.j=x):probe.go t hashAt h (fuel+1) p=match (generalizing:=false) x with
 | .empty=>some (.empty p.j p.dummy)
 | .dummy=>probe.go t hashAt h fuel (t.advance { p with dummy:=some p.j })
 | .live i=>if hashAt i == h then some (.candidate p.j i (t.advance p)) else probe.go t hashAt h fuel (t.advance p):=by subst hs;rfl
theorem zsg{t:SetTable}{m:Nat}{ld:Bool}{L:List Ent}(ht:jq t m ld L)(hr:Rise L){hashAt:Nat→Int}(hh:∀ (i:Nat) (e:Int×Value),(elems L)[i]?=some e→hashAt i=e.1){h:Int} :
 ∀ (fuel n:Nat) (p:Probe),n < fuel→p.dummy=none→FirstFree L m n p →
  (∃ k A e B,k < n∧L=A++e::B∧e.1=(advN m k p).j∧e.2.1=h∧probe.go t hashAt h fuel p=some (.candidate e.1 A.length (advM m (advN m k p)))∧∀ k',k' < k→∀ e'∈L,e'.1=(advN m k' p).j→e'.2.1≠h) ∨
  ((∀ k,k < n→∀ e∈L,e.1=(advN m k p).j→e.2.1≠h)∧probe.go t hashAt h fuel p=some (.empty (advN m n p).j none)):=by
 intro fuel
 induction fuel with
 | zero=>exact fun n _ hn=>absurd hn (Nat.not_lt_zero _)
 | succ fuel ih=>
   intro n p hn hd hf
   cases n with
   | zero=>
     exact .inr ⟨fun k hk=>absurd hk (Nat.not_lt_zero _),(zn5 (ze2 ht hr (fun e he=>hf.1 e he))).trans (hd ▸ rfl)⟩
   | succ n=>
     obtain⟨e,he,hej⟩:=hf.2 0 (Nat.succ_pos n)
     have hej:e.1=p.j:=hej
     obtain⟨A,B,hL⟩:=List.append_of_mem he
     have hs:t.slot p.j=.live A.length:=hej ▸ zav (hL ▸ ht) (hL ▸ hr)
     have hhe:hashAt A.length=e.2.1:=hh A.length e.2 (by rw[hL];simp[elems])
     have ego:=zn5 (hashAt:=hashAt) (h:=h) (fuel:=fuel) hs
     dsimp only at ego
     rw[zf7,ht.mask] at ego
     by_cases hq:e.2.1=h
     ·have ego:=ego.trans (if_pos (by rw[hhe,hq];exact beq_self_eq_true _))
      exact .inl ⟨0,A,e,B,Nat.succ_pos n,hL,hej,hq,hej ▸ ego,fun k' hk'=>absurd hk' (Nat.not_lt_zero _)⟩
     ·have zero:∀ e'∈L,e'.1=p.j→e'.2.1≠h:=fun e' he' q=>hr.unique he' he (q.trans hej.symm) ▸ hq
      have ego:=ego.trans (if_neg (by rw[hhe];exact fun q=>hq (beq_iff_eq.mp q)))
      rw[ego]
      rcases ih n (advM m p) (Nat.lt_of_succ_lt_succ hn) (advM_dummy.trans hd) hf.next with ⟨k,A',e',B',h1,h2,h3,h4,h5,h6⟩ | ⟨h1,h2⟩
      ·refine .inl ⟨k+1,A',e',B',Nat.succ_lt_succ h1,h2,h3,h4,h5,fun k' hk'=>?_⟩
       cases k' with
       | zero=>exact zero
       | succ k'=>exact h6 k' (Nat.lt_of_succ_lt_succ hk')
      ·refine .inr ⟨fun k hk=>?_,h2⟩
       cases k with
       | zero=>exact zero
       | succ k=>exact h1 k (Nat.lt_of_succ_lt_succ hk)
section
variable{prog:Program}{w:World}{A:Around}{E:Value→Shared→Prop}{s:Shared}
variable(prog w) in
noncomputable abbrev TK(h:Heap)(ks:List Int)(a:Addr):Prop:=IsTupleKey (intKind prog w) h ks a
variable(prog w) in
noncomputable abbrev tkh(ks:List Int):Int:=tupleKeyHash (intKind prog w) ks
variable(prog w) in
noncomputable def Ents(h:Heap)(L:List Ent):Prop:=∀ e∈L,∃ a ks,e.2.2=.ref a∧TK prog w h ks a∧e.2.1=tkh prog w ks
theorem zal(n:Nat){v:Value}(h:carriedByValue v=true):ofAClassStatement n v=pure false:=by
 cases v with
 | ref a=>simp[carriedByValue] at h
 | _=>cases n <;> rfl
theorem ul{d:Nat}{ks:List Int}{a:Addr}{Q:Bool→Shared→Prop}(hk:TK prog w s.heap ks a)(h:Q false s):wpAny (model prog w) A (ofAClassStatement (d+1) (.ref a)) Q E s:=by
 have hT:=IsTupleKey.typeIs hk
 obtain⟨o,items,n,ho,_,hd,hi⟩:=hk
 unfold ofAClassStatement
 refine wpAny_bind (wpAny_typeOf hT ?_)
 refine wpAny_ite_true rfl (wpAny_bind (wpAny_pure (wpAny_ite_false rfl ?_)))
 refine wpAny_bind (wpAny_seqItems ho hd (wpAny_bind ?_))
 show wpAny _ _ (forIn items _ _) _ _ s
 rw[← Array.forIn_toList]
 refine wpAny_forIn_list _ (fun rest r s'=>r.1=none∧s'=s∧∀ v∈rest,carriedByValue v=true) _ ?_ ?_ _ _ ⟨rfl,rfl,hi.byValue⟩
 ·rintro v rest r s' ⟨hr,rfl,hall⟩
  rw[zal _ (hall v List.mem_cons_self)]
  refine wpAny_bind (wpAny_pure (wpAny_ite_false rfl ?_))
  exact wpAny_pure ⟨rfl,rfl,fun u hu'=>hall u (List.mem_cons_of_mem _ hu')⟩
 ·rintro⟨r1,r2⟩ s' ⟨hr,rfl,_⟩
  simp only at hr
  subst hr
  exact wpAny_pure h
theorem zl7{ks:List Int}{a:Addr}{l:List Value}{Q:Bool→Shared→Prop}(hk:TK prog w s.heap ks a)(hl:∀ y∈l,∃ b ks',y=.ref b∧TK prog w s.heap ks' b)(h:Q false s) :
 wpAny (model prog w) A (searchCouldBeSeen (.ref a) l) Q E s:=by
 unfold searchCouldBeSeen
 refine wpAny_bind ?_
 refine wpAny_forIn_list _ (fun rest r s'=>r.1=none∧s'=s∧∀ y∈rest,∃ b ks',y=.ref b∧TK prog w s.heap ks' b) _ ?_ ?_ _ _ ⟨rfl,rfl,hl⟩
 ·rintro v rest r s' ⟨hr,rfl,hall⟩
  obtain⟨b,ks',rfl,hb⟩:=hall v List.mem_cons_self
  have next:∀ r:Option Bool×PUnit,r.1=none→∀ y∈rest,∃ b ks',y=Value.ref b∧TK prog w s'.heap ks' b:=fun _ _ y hy=>hall y (List.mem_cons_of_mem _ hy)
  dsimp only
  refine wpAny_ite_split (fun _=>wpAny_pure ⟨rfl,rfl,next (none,()) rfl⟩) fun _=>?_
  refine wpAny_bind (wpAny_eqIsQuiet_tuple hk (wpAny_ite_false rfl ?_))
  refine wpAny_bind (wpAny_eqIsQuiet_tuple hb (wpAny_ite_false rfl ?_))
  refine wpAny_bind (ul hk (wpAny_ite_false rfl ?_))
  refine wpAny_bind (ul hb (wpAny_ite_false rfl ?_))
  exact wpAny_pure ⟨rfl,rfl,next (none,()) rfl⟩
 ·rintro⟨r1,r2⟩ s' ⟨hr,rfl,_⟩
  simp only at hr
  subst hr
  exact wpAny_pure h
theorem zf8{m:Nat}(n:Nat):∀ (p:Probe),(advN m n p).dummy=p.dummy:=by
 induction n with
 | zero=>exact fun _=>rfl
 | succ n ih=>exact fun p=>(ih _).trans advM_dummy
theorem zl3{α:Type}{o:Option (Int×Value)}{x:Int}{y:Value}{f:Int→Value→Sem α}{g:Sem α}{Q:α→Shared→Prop}(h:o=some (x,y))(k:wpAny (model prog w) A (f x y) Q E s) :
 wpAny (model prog w) A (match o with | some (x,y)=>f x y | none=>g) Q E s:=by subst h;exact k
theorem zi6{α:Type}{o:Option (Int×Value)}{x:Int}{y:Value}{f:Value→Sem α}{g:Sem α}{Q:α→Shared→Prop}(h:o=some (x,y))(k:wpAny (model prog w) A (f y) Q E s) :
 wpAny (model prog w) A (match o with | some (_,y)=>f y | _=>g) Q E s:=by subst h;exact k
theorem zhr{S:Addr}{o:Obj}{ep m:Nat}{t:SetTable}{ld:Bool}{L:List Ent}(ho:s.heap.get? S=some o)(hd:o.data=.set (elems L) ep t)(ht:jq t m ld L)(hr:Rise L)(hL:L.length≤m)(hodd:m % 2=1)
 (he:Ents prog w s.heap L) (hu:A.units < cLine) {a:Addr} {ks:List Int} (hk:TK prog w s.heap ks a) {Q:SetFound→Shared→Prop} (hQ1:(∃ e∈L,∃ b,e.2.2=.ref b∧TK prog w s.heap ks b)→Q (.there none) s) :
 ∀ (fuel n:Nat) (st:Option Probe) (p:Probe),st.getD (t.probeStart (tkh prog w ks))=p→n < fuel→n < 10 * turns m→p.dummy=none→FirstFree L m n p →
  ((∀ k,k < n→∀ e∈L,e.1=(advN m k p).j→∀ b,e.2.2=.ref b→¬ TK prog w s.heap ks b)→Q (.free (advN m n p).j false) s) →
  wpAny (model prog w) A (setSearchFrom S (.ref a) (tkh prog w ks) true fuel st) Q E s:=by
 have hfit:t.fits (elems L).size=true:=by
  simp only[SetTable.fits,SetTable.fill,ht.place,ht.dummies,ht.mask,places,elems,Bool.and_eq_true,beq_iff_eq,decide_eq_true_eq]
  simp;exact hL
 have hgw:t.gaveWay=false:=by unfold gaveWay;rw[ht.mask,hodd];decide
 have other:∀ e∈L,e.2.1≠tkh prog w ks→∀ b,e.2.2=.ref b→¬ TK prog w s.heap ks b:=fun e heL hne b hb hkb=>by
  obtain⟨b',ks',e1,e2,e3⟩:=he e heL
  rw[hb] at e1;cases e1
  rw[IsTupleKey.inj e2 hkb] at e3
  exact hne e3
 have hseen:∀ y∈((elems L).filter (·.1 == tkh prog w ks)).toList.map (·.2),∃ b ks',y=.ref b∧TK prog w s.heap ks' b:=fun y hy=>by
  obtain⟨z,hz,rfl⟩:=List.mem_map.mp hy
  have hz':z∈elems L:=(Array.mem_filter.mp (Array.mem_toList_iff.mp hz)).1
  unfold elems at hz'
  rw[List.mem_toArray] at hz'
  obtain⟨e',he',rfl⟩:=List.mem_map.mp hz'
  obtain⟨b',ks'',q1,q2,_⟩:=he e' he'
  exact⟨b',ks'',q1,q2⟩
 intro fuel
 induction fuel with
 | zero=>exact fun n _ _ _ hn=>absurd hn (Nat.not_lt_zero _)
 | succ fuel ih=>
   intro n st p hst hn hn' hpd hf hQ2
   have hgo:=zsg ht hr (hashAt:=fun i=>((elems L)[i]?.map (·.1)).getD 0) (fun i e he=>by rw[he];rfl) (h:=tkh prog w ks) (10 * turns t.mask) n p (by rw[ht.mask];exact hn') hpd hf
   rcases hgo with ⟨k,A',e,B',h1,h2,h3,h4,h5,h6⟩ | ⟨h1,h2⟩
   ·have heL:e∈L:=by rw[h2];simp
    obtain⟨b,ks',e1,e2,e3⟩:=he e heL
    have hget:(elems L)[A'.length]?=some e.2:=by rw[h2];simp[elems]
    have hsl:t.slot e.1=.live A'.length:=zav (h2 ▸ ht) (h2 ▸ hr)
    have hle:=Nat.succ_le_of_lt h1
    have hadv:advM m (advN m k p)=advN m (k+1) p:=by rw[xw];rfl
    have again:ks'≠ks→wpAny (model prog w) A (setSearchFrom S (.ref a) (tkh prog w ks) true fuel (some (advM m (advN m k p)))) Q E s:=fun hkk=>by
     refine ih (n - (k+1)) _ (advN m (k+1) p) hadv (Nat.lt_of_le_of_lt (Nat.sub_le_sub_left (Nat.succ_pos k) n) (Nat.sub_lt_left_of_lt_add (Nat.lt_of_le_of_lt (Nat.zero_le _) h1) (Nat.add_comm _ _ ▸ hn))) (Nat.lt_of_le_of_lt (Nat.sub_le _ _) hn') ((zf8 _ p).trans hpd) (hf.drop (k+1) hle) fun hno=>?_
     rw[← xw,Nat.add_sub_of_le hle]
     refine hQ2 fun i hi e' he' q=>?_
     rcases Nat.lt_trichotomy i k with hik | rfl | hik
     ·exact other e' he' (h6 i hik e' he' q)
     ·rw[hr.unique he' heL (q.trans h3.symm)]
      intro b' hb' hkb'
      rw[e1] at hb';cases hb'
      exact hkk (IsTupleKey.inj e2 hkb')
     ·exact hno (i - (k+1)) (Nat.sub_lt_sub_right hik hi) e' he' (by rw[← xw,Nat.add_sub_of_le hik];exact q)
    clear ih hQ2 hf hpd hn hn' h6 h3 h4 hadv
    obtain⟨ej,eh,ev⟩:=e
    have e1:ev=.ref b:=e1
    subst e1
    have hsm:t.sameMemory t.moves t.mask=some true:=by unfold sameMemory;rw[if_pos (beq_self_eq_true _)]
    have hlast:wpAny (model prog w) A (do
     if true && decide (ks'=ks) then return .there none
     let some same:=t.sameMemory t.moves t.mask | unsupported "set.changed-during-lookup:is-the-new-block-at-the-old-address"
     let still ← match (if same then t.slot ej else .empty) with
      | .live i'=>match (elems L)[i']? with
        | some (_,y')=>do pure (if ← isSame y' (.ref b) then some i' else none)
        | none=>pure none
      | _=>pure none
     match still with
     | none=>rule "set.search.anew";setSearchFrom S (.ref a) (tkh prog w ks) true fuel none
     | some i'=>if decide (ks'=ks) then return .there (some i') else setSearchFrom S (.ref a) (tkh prog w ks) true fuel (some (advM m (advN m k p)))) Q E s:=by
     rw[hsm,hsl]
     by_cases hkk:ks'=ks
     ·exact wpAny_ite_true (by rw[decide_eq_true hkk];rfl) (wpAny_pure (hQ1 ⟨_,heL,b,rfl,hkk ▸ e2⟩))
     ·exact wpAny_ite_false (by rw[decide_eq_false hkk];rfl) (zl3 hget (wpAny_bind (wpAny_isSame_ref_self (wpAny_bind (wpAny_pure (wpAny_ite_false (by rw[decide_eq_false hkk];rfl) (again hkk)))))))
    clear again hsm hsl
    show wpAny _ _ (setState S >>= _) _ _ _
    refine wpAny_bind (wpAny_setState_of ho hd hfit ?_)
    refine wpAny_ite_false (by rw[hgw];rfl) ?_
    dsimp only
    rw[hst]
    unfold probe
    erw [h5]
    refine wpAny_ite_split (fun _=>wpAny_bind (zl7 hk hseen (wpAny_ite_false rfl ?_))) fun _=>?_ <;> (refine zi6 hget ?_;exact (wpAny_bind (wpAny_holding (wpAny_eqBool_tuple hu e2 hk (wpAny_bind (wpAny_setState_of ho hd hfit hlast))))))
   ·show wpAny _ _ (setState S >>= _) _ _ _
    refine wpAny_bind (wpAny_setState_of ho hd hfit ?_)
    refine wpAny_ite_false (by rw[hgw];rfl) ?_
    dsimp only
    rw[hst]
    unfold probe
    erw [h2]
    exact wpAny_pure (hQ2 fun k hk e' he' q=>other e' he' (h1 k hk e' he' q))
end
section
variable{prog:Program}{w:World}{A:Around}{E:Value→Shared→Prop}{s:Shared}
theorem zan{ks:List Int}{a:Addr}{Q:Bool→Shared→Prop}(hk:TK prog w s.heap ks a)(h:Q true s):wpAny (model prog w) A (hashByValue 8 (.ref a)) Q E s:=by
 have hT:=IsTupleKey.typeIs hk
 obtain⟨o,items,n,ho,_,hd,hi⟩:=hk
 have hint:∀ v∈items.toList,∃ i t,v=.int i t:=by
  generalize items.toList=l at hi
  induction hi with
  | nil=>intro v hv;simp at hv
  | @cons k v' ks vs h1 _ ih=>
    intro v hv
    rcases List.mem_cons.mp hv with rfl | hv
    ·cases v with
     | int i t=>exact⟨i,t,rfl⟩
     | _=>cases h1
    ·exact ih v hv
 unfold hashByValue
 refine wpAny_bind (wpAny_specialOf hT F.slot_tuple_hash.lookup ?_)
 dsimp only
 refine wpAny_bind (wpAny_seqItems ho hd ?_)
 refine wpAny_bind ?_
 show wpAny _ _ (forIn items _ _) _ _ s
 rw[← Array.forIn_toList]
 refine wpAny_forIn_list _ (fun rest r s'=>r.1=none∧s'=s∧∀ v∈rest,∃ i t,v=Value.int i t) _ ?_ ?_ _ _ ⟨rfl,rfl,hint⟩
 ·rintro v rest r s' ⟨hr,rfl,hall⟩
  obtain⟨i,t,rfl⟩:=hall v List.mem_cons_self
  have e:hashByValue 7 (.int i t)=pure true:=by first | rfl | simp[hashByValue]
  rw[e]
  exact wpAny_bind (wpAny_pure (wpAny_ite_false rfl (wpAny_pure ⟨rfl,rfl,fun u hu'=>hall u (List.mem_cons_of_mem _ hu')⟩)))
 ·rintro⟨r1,r2⟩ s' ⟨hr,rfl,_⟩
  simp only at hr
  subst hr
  exact wpAny_pure h
variable(prog w) in
inductive TSet(h:Heap)(S:Addr)(ld:Bool)(K:List (List Int)):Prop
 | mk (o:Obj) (ep:Nat) (t:SetTable) (m:Nat) (L:List Ent) (ho:h.get? S=some o) (hex:o.ExactSet) (hd:o.data=.set (elems L) ep t) (ht:jq t m ld L) (hr:Rise L) (hre:Reach L m) (hlen:L.length=K.length) (hnd:K.Nodup) (hent:Ents prog w h L)
   (hmem:∀ ks,ks∈K↔∃ e∈L,∃ b,e.2.2=.ref b∧TK prog w h ks b) (hm:(m=7∧L.length≤4)∨(m=31∧L.length≤18))
theorem zbt{h h':Heap}{S:Addr}{o:Obj}(ho:h.get? S=some o)(hc:o.ExactSet)(hs:Heap.SameBut S h h'){ks:List Int}{b:Addr}(hk:TK prog w h ks b):TK prog w h' ks b:=by
 obtain⟨o',items,n,ho',hc',r⟩:=hk
 refine⟨o',items,n,(hs.2 b fun q=>?_).trans ho',hc',r⟩
 subst q
 rw[ho] at ho';cases ho'
 rw[hc.1] at hc';exact absurd hc' (by decide)
theorem zlx{h h':Heap}{S:Addr}{o':Obj}(ho:h'.get? S=some o')(hc:o'.ExactSet)(hs:Heap.SameBut S h h'){ks:List Int}{b:Addr}(hk:TK prog w h' ks b):TK prog w h ks b:=by
 obtain⟨o,items,n,ho',hc',r⟩:=hk
 refine⟨o,items,n,(hs.2 b fun q=>?_).symm.trans ho',hc',r⟩
 subst q
 rw[ho] at ho';cases ho'
 rw[hc.1] at hc';exact absurd hc' (by decide)
theorem zfa(a:Addr)(wanted:Nat):setRelay a wanted=(do
 let (es,_,t) ← setState a
 if SetTable.sizeAbove wanted > sizeLine then unsupported "set:memory"
 let (es,t) ← (do
  let some (t,order):=t.relaid (es.map (·.1)) wanted | unsupported "internal:set-table-without-room"
  let es':=order.filterMap (es[·]?)
  if es'.size != es.size then unsupported "internal:set-table-lost-an-element"
  pure (es',t):Sem (Array (Int×Value)×SetTable))
 storeSet a es t):=rfl
theorem zjd{S:Addr}{o:Obj}{ep:Nat}{t:SetTable}{ld:Bool}{L:List Ent}(ho:s.heap.get? S=some o)(hd:o.data=.set (elems L) ep t)(ht:jq t 7 ld L)(h5:L.length=5){Q:Unit→Shared→Prop}
 (h:∀ t' L',jq t' 31 ld L'→Rise L'→Reach L' 31→L'.length=5→(∀ p,(∃ e∈L',e.2=p)↔∃ e∈L,e.2=p)→Q () { s with heap:=s.heap.update S (Obj.putSet (elems L') t') }) :
 wpAny (model prog w) A (setRelay S (grown 5)) Q E s:=by
 have hsz:(elems L).size=5:=by simp[elems,h5]
 have hfit:t.fits (elems L).size=true:=by
  simp only[SetTable.fits,SetTable.fill,ht.place,ht.dummies,ht.mask,places,elems,Bool.and_eq_true,beq_iff_eq,decide_eq_true_eq]
  simp[h5]
 have h32:sizeAbove (grown 5)=32:=by decide
 obtain⟨t',order,L',e1,e2,e3,e4,e5,e6,e7,e8⟩:=zhs (t:=t) (wanted:=grown 5) (es:=elems L) zkf (by rw[h32]) (by rw[hsz];decide) ht.led ht.plain
 have hl':(elems L').size=(elems L).size:=by rw[← e3];simp[elems]
 have fin:=h t' L' e4 e5 e6 (by rw[e3,hsz]) fun p=>by
  rw[e8]
  unfold elems
  rw[List.mem_toArray,List.mem_map]
 rw[← e2] at fin hl'
 clear h e2 e3 e4 e5 e6 e7 e8
 rw[zfa]
 refine wpAny_bind (wpAny_setState_of ho hd hfit (wpAny_ite_false (by rw[h32,sizeLine_eq];rfl) (wpAny_bind ?_)))
 dsimp only
 rw[e1]
 exact wpAny_ite_false (by rw[hl',bne_self_eq_false];rfl) (wpAny_pure (wpAny_storeSet_of ho hd fin (by rw[hl',hsz,sizeLine_eq];decide)))
theorem zaa(a:Addr)(x:Value)(h:Int)(fuel:Nat):setAddHashedIn a x h (fuel+1)=(do
 let (es₀,_,t₀) ← setState a
 if byScan x es₀ then
  match ← setAddByScan a x h es₀ t₀ with
  | some added=>return added
  | none=>return ← setAddHashedIn a x h fuel
 let .free slot wasDummy ← setSearch a x h (adding:=true) | return false
 let (es,_,t) ← setState a
 let (t,p):=t.put slot
 let byValue ← if t.plain then hashByValue 8 x else pure true
 let t:=if byValue then t else { t with plain:=false }
 storeSet a (SetTable.insertAt es p (h,x)) t
 if !wasDummy && t.tooFull then setRelay a (SetTable.grown (es.size+1))
 return true):=rfl
theorem zjg{t:SetTable}{m n:Nat}{ld:Bool}{L:List Ent}{h:Int}{x:Value}(ht:jq t m ld L)(hr:Rise L)(hre:Reach L m)(hf:FirstFree L m n (yy m h)) :
 ∃ p t₁ L',t.put (advN m n (yy m h)).j=(t₁,p)∧insertAt (elems L) p (h,x)=elems L'∧jq t₁ m ld L'∧Rise L'∧Reach L' m∧L'.length=L.length+1∧∀ y,(∃ e∈L',e.2=y)↔y=(h,x)∨∃ e∈L,e.2=y:=by
 obtain⟨A,B,rfl,p1,p2,p3,p4⟩:=zpb ht hr hf.1 h x
 refine⟨A.length,_,_,Prod.ext rfl p1,p4,p2,p3,hre.put hf,?_,fun y=>?_⟩
 ·rw[List.length_append,List.length_append];rfl
 ·constructor
  ·rintro⟨e,he,rfl⟩
   rcases List.mem_append.mp he with he | he
   ·exact .inr ⟨e,List.mem_append_left _ he,rfl⟩
   ·rcases List.mem_cons.mp he with rfl | he
    ·exact .inl rfl
    ·exact .inr ⟨e,List.mem_append_right _ he,rfl⟩
  ·rintro (rfl | ⟨e,he,rfl⟩)
   ·exact⟨_,List.mem_append_right _ List.mem_cons_self,rfl⟩
   ·refine⟨e,?_,rfl⟩
    rcases List.mem_append.mp he with he | he
    ·exact List.mem_append_left _ he
    ·exact List.mem_append_right _ (List.mem_cons_of_mem _ he)
theorem TSet.more{h h':Heap}{S a:Addr}{ld:Bool}{K:List (List Int)}{ks:List Int}{o o':Obj}{ep' m':Nat}{t':SetTable}{L L' L'':List Ent}(ho:h.get? S=some o)(hex:o.ExactSet)(hk:TK prog w h ks a)(hlen:L.length=K.length)(hnd:K.Nodup)(hent:Ents prog w h L)
 (hmem:∀ ks,ks∈K↔∃ e∈L,∃ b,e.2.2=.ref b∧TK prog w h ks b) (hnK:ks∉K) (hnew:∀ y,(∃ e∈L',e.2=y)↔y=(tkh prog w ks,Value.ref a)∨∃ e∈L,e.2=y)
 (hsb:Heap.SameBut S h h') (ho':h'.get? S=some o') (hex':o'.ExactSet) (hd':o'.data=.set (elems L'') ep' t') (ht':jq t' m' ld L'') (hr':Rise L'') (hre':Reach L'' m') (hl':L''.length=L.length+1)
 (hsame:∀ p,(∃ e∈L'',e.2=p)↔∃ e∈L',e.2=p) (hm':(m'=7∧L''.length≤4)∨(m'=31∧L''.length≤18)):TSet prog w h' S ld (K++[ks]):=by
 have hn:∀ y,(∃ e∈L'',e.2=y)↔y=(tkh prog w ks,Value.ref a)∨∃ e∈L,e.2=y:=fun y=>(hsame y).trans (hnew y)
 have tk:=zbt ho hex hsb hk
 refine⟨o',ep',t',m',L'',ho',hex',hd',ht',hr',hre',by rw[hl',hlen,List.length_append];rfl,?_,?_,fun ks'=>?_,hm'⟩
 ·exact List.nodup_append.mpr ⟨hnd,List.nodup_cons.mpr ⟨List.not_mem_nil,List.nodup_nil⟩,fun x hx y hy=>by rw[List.mem_singleton.mp hy];rintro rfl;exact hnK hx⟩
 ·intro e he
  rcases (hn e.2).mp ⟨e,he,rfl⟩ with q | ⟨e₁,he₁,q⟩
  ·rw[q];exact⟨a,ks,rfl,tk,rfl⟩
  ·rw[← q]
   obtain⟨b,ks',q1,q2,q3⟩:=hent e₁ he₁
   exact⟨b,ks',q1,zbt ho hex hsb q2,q3⟩
 ·rw[List.mem_append,List.mem_singleton,hmem]
  constructor
  ·rintro (⟨e,he,b,hb,hkb⟩ | rfl)
   ·obtain⟨e₁,he₁,q⟩:=(hn e.2).mpr (.inr ⟨e,he,rfl⟩)
    exact⟨e₁,he₁,b,q ▸ hb,zbt ho hex hsb hkb⟩
   ·obtain⟨e₁,he₁,q⟩:=(hn _).mpr (.inl rfl)
    exact⟨e₁,he₁,a,q ▸ rfl,tk⟩
  ·rintro⟨e,he,b,hb,hkb⟩
   have hkb':TK prog w h ks' b:=zlx ho' hex' hsb hkb
   rcases (hn e.2).mp ⟨e,he,rfl⟩ with q | ⟨e₁,he₁,q⟩
   ·rw[q] at hb
    cases hb
    exact .inr (IsTupleKey.inj hkb' hk)
   ·exact .inl ⟨e₁,he₁,b,q ▸ hb,hkb'⟩
theorem zex{t:SetTable}{m:Nat}{ld:Bool}{L:List Ent}(ht:jq t m ld L):t.tooFull=decide (m * 3≤L.length * 5):=by
 unfold tooFull fill
 rw[ht.place,ht.dummies,ht.mask]
 simp[places]
theorem zno{S:Addr}{ld:Bool}{K:List (List Int)}(hS:TSet prog w s.heap S ld K)(hu:A.units < cLine){a:Addr}{ks:List Int}(hk:TK prog w s.heap ks a)(hK:K.length≤17){Q:Bool→Shared→Prop}
 (h:∀ b h',Heap.SameBut S s.heap h'→TSet prog w h' S ld (if ks∈K then K else K++[ks])→Q b { s with heap:=h' }) :
 wpAny (model prog w) A (setAddHashed S (.ref a) (tkh prog w ks)) Q E s:=by
 have old:ks∈K→∀ b,Q b s:=fun hin b=>h b s.heap (Heap.SameBut.refl S s.heap) (by rw[if_pos hin];exact hS)
 have new:ks∉K→∀ b h',Heap.SameBut S s.heap h'→TSet prog w h' S ld (K++[ks])→Q b { s with heap:=h' }:=fun hin b h' hs hT=>h b h' hs (by rw[if_neg hin];exact hT)
 clear h
 obtain⟨o,ep,t,m,L,ho,hex,hd,ht,hr,hre,hlen,hnd,hent,hmem,hm⟩:=hS
 have hLm:L.length≤m:=by rcases hm with ⟨rfl,h⟩ | ⟨rfl,h⟩ <;> exact Nat.le_trans h (by decide)
 have hfull:full m=true:=by rcases hm with ⟨rfl,_⟩ | ⟨rfl,_⟩ <;> first | exact zsi | exact zkf
 have hodd:m % 2=1:=by rcases hm with ⟨rfl,_⟩ | ⟨rfl,_⟩ <;> rfl
 have hfit:t.fits (elems L).size=true:=by
  simp only[SetTable.fits,SetTable.fill,ht.place,ht.dummies,ht.mask,places,elems,Bool.and_eq_true,beq_iff_eq,decide_eq_true_eq]
  simp;exact hLm
 have hstart:t.probeStart (tkh prog w ks)=yy m (tkh prog w ks):=by
  show lp t.mask (bits (tkh prog w ks) % (t.mask+1)) (bits (tkh prog w ks))=_
  rw[ht.mask];rfl
 obtain⟨n,hn,hff⟩:=zh9 (L:=L) hfull hLm (zcy m (tkh prog w ks))
 have hturn:n < 100000:=Nat.lt_of_lt_of_le hn (by rcases hm with ⟨rfl,_⟩ | ⟨rfl,_⟩ <;> decide)
 have hnot:(∀ k,k < n→∀ e∈L,e.1=(advN m k (yy m (tkh prog w ks))).j→∀ b,e.2.2=.ref b→¬ TK prog w s.heap ks b)→ks∉K:=fun hno hin=>by
  obtain⟨e,he,b,hb,hkb⟩:=(hmem ks).mp hin
  obtain⟨b',ks',q1,q2,q3⟩:=hent e he
  rw[hb] at q1;cases q1
  rw[IsTupleKey.inj q2 hkb] at q3
  obtain⟨k,hk1,hk2⟩:=hre.before he (q3.symm ▸ hff)
  rw[q3] at hk2
  exact hno k hk1 e he hk2.symm b hb hkb
 obtain⟨p,t₁,L',eput,eins,p2,p3,p4,hlen',hnew⟩:=zjg (x:=.ref a) ht hr hre hff
 have hsz':(elems L').size=L.length+1:=by rw[← hlen'];simp[elems]
 have hsb1:=Heap.SameBut.update s.heap S (Obj.putSet (elems L') t₁)
 have hg1:=Heap.get?_update_self (Obj.putSet (elems L') t₁) ho (by rw[putSet_of _ _ hd];rfl)
 rw[putSet_of _ _ hd] at hg1
 have last:ks∉K→wpAny (model prog w) A (if (!false && t₁.tooFull)=true then setRelay S (grown ((elems L).size+1)) >>= fun _=>pure true else pure true) Q E { s with heap:=s.heap.update S (Obj.putSet (elems L') t₁) }:=fun hnK=>by
  have size:(elems L).size=L.length:=by simp[elems]
  rw[zex p2,hlen']
  by_cases hfl:m * 3≤(L.length+1) * 5
  ·have h74:m=7∧L.length=4:=by rcases hm with ⟨rfl,h⟩ | ⟨rfl,h⟩ <;> omega
   obtain⟨rfl,h4⟩:=h74
   rw[size,h4]
   refine wpAny_ite_true (by rw[← h4,decide_eq_true hfl];rfl) (wpAny_bind (zjd (s:={ s with heap:=s.heap.update S (Obj.putSet (elems L') t₁) }) hg1 rfl p2 (hlen'.trans (congrArg (· + 1) h4)) fun t' L'' q1 q2 q3 q4 q5=>wpAny_pure ?_))
   have hsb2:=Heap.SameBut.update (s.heap.update S (Obj.putSet (elems L') t₁)) S (Obj.putSet (elems L'') t')
   have hg2:=Heap.get?_update_self (Obj.putSet (elems L'') t') hg1 (by rw[putSet_of (es:=elems L') (ep:=ep+1) _ _ rfl];rfl)
   rw[putSet_of (es:=elems L') (ep:=ep+1) _ _ rfl] at hg2
   exact new hnK _ _ (hsb1.trans hsb2) (.more ho hex hk hlen hnd hent hmem hnK hnew (hsb1.trans hsb2) hg2 hex rfl q1 q2 q3 (q4.trans (congrArg (· + 1) h4.symm)) q5 (.inr ⟨rfl,q4 ▸ (by decide)⟩))
  ·exact wpAny_ite_false (by rw[decide_eq_false hfl];rfl) (wpAny_pure (new hnK _ _ hsb1 (.more ho hex hk hlen hnd hent hmem hnK hnew hsb1 hg1 hex rfl p2 p3 p4 hlen' (fun _=>Iff.rfl) (by rw[hlen'];rcases hm with ⟨rfl,h⟩ | ⟨rfl,h⟩ <;> omega))))
 clear hnew p3 p4 hsb1 hg1 new hfull
 unfold setAddHashed
 rw[zaa]
 refine wpAny_holding (wpAny_bind (wpAny_setState_of ho hd hfit (wpAny_ite_false rfl ?_)))
 refine wpAny_bind (zhr ho hd ht hr hLm hodd hent hu hk (fun hin=>wpAny_pure (old ((hmem ks).mpr hin) _)) 100000 n none (yy m (tkh prog w ks)) hstart hturn hn rfl hff fun hno=>?_)
 refine wpAny_bind (wpAny_setState_of ho hd hfit ?_)
 dsimp only
 rw[eput]
 refine wpAny_ite_true (by rw[p2.plain];rfl) (wpAny_bind (zan hk ?_))
 show wpAny _ _ (storeSet S (insertAt (elems L) p (tkh prog w ks,.ref a)) t₁ >>= _) _ _ _
 rw[eins]
 exact wpAny_bind (wpAny_storeSet_of ho hd (last (hnot hno)) (by rw[hsz',sizeLine_eq];omega))
end
end Mine
end
section
namespace Mine
open PySem PyProof.Rows PySem.W
noncomputable def lexI:List Int→List Int→Bool
 | [],[]=>false
 | [],_::_=>true
 | _::_,[]=>false
 | x::xs,y::ys=>if x=y then lexI xs ys else decide (x < y)
section
variable{prog:Program}{w:World}{A:Around}{E:Value→Shared→Prop}{s:Shared}
theorem zdz{x y:Int}{t u:Tok}{Q:Bool→Shared→Prop}(hu:A.units < cLine)(h:Q (decide (x=y)) s):wpAny (model prog w) A (eqBool (.int x t) (.int y u)) Q E s:=by
 have:=SeqAt.eqBoolOverData prog w A E s (.int x t) (.int y u) (.int x) (.int y) [] [] Q (.int x t) (.int y u) rfl rfl (by show A.units+min 0 0 < cLine;simpa using hu)
 refine this ?_
 exact h
theorem zac{a b:Addr}{oa ob:Obj}{xs ys:Array Value}{na nb:Nat}{x y:List Int}{P:PySem.Fin→Shared→Prop}(hu:A.units < cLine)(hoa:s.heap.get? a=some oa)(hca:oa.cls=.type "tuple")(hda:oa.data=.seq xs na)(hia:IntsAre xs.toList x)
 (hob:s.heap.get? b=some ob) (hcb:ob.cls=.type "tuple") (hdb:ob.data=.seq ys nb) (hib:IntsAre ys.toList y) (h:P (.done (.ret (.bool (lexI x y)))) s) :
 wpAny (model prog w) A (Builtin.«tuple.__lt__» ⟨[.ref a,.ref b],[]⟩) P E s:=by
 have hTb:s.TypeIs (.ref b) "tuple":=⟨ob,hob,hcb⟩
 show wpAny _ _ (isInstance (.ref b) (.type "tuple") >>= _) _ _ s
 refine wpAny_bind (wpAny_isInstance hTb isSubtype_tuple_tuple ?_)
 simp only[Bool.not_true,Bool.false_eq_true,if_false]
 refine wpAny_bind (wpAny_tupleItemsOf hoa hda ?_)
 refine wpAny_bind (wpAny_tupleItemsOf hob hdb ?_)
 refine wpAny_bind ?_
 refine wpAny_forIn_list _
  (fun rest r s'=>r.1=none∧s'=s∧∃ x' y' xs' ys',rest=List.zip xs' ys'∧IntsAre xs' x'∧IntsAre ys' y'∧lexI x' y'=lexI x y∧(decide (xs'.length < ys'.length))=(decide (xs.size < ys.size)))
  _ ?_ ?_ _ _ ⟨rfl,rfl,x,y,xs.toList,ys.toList,rfl,hia,hib,rfl,by simp⟩
 ·rintro⟨u,v⟩ rest r s' ⟨hr,rfl,x',y',xs',ys',hz,hx',hy',hdec,hlen⟩
  cases hx' with
  | nil=>simp at hz
  | cons k1 t1 hx''=>
    cases hy' with
    | nil=>simp at hz
    | cons k2 t2 hy''=>
      simp only[List.zip_cons_cons,List.cons.injEq,Prod.mk.injEq] at hz
      obtain⟨⟨rfl,rfl⟩,rfl⟩:=hz
      refine wpAny_bind (zdz hu ?_)
      by_cases hk:k1=k2
      ·subst hk
       rw[decide_eq_true rfl]
       simp only[Bool.not_true,Bool.false_eq_true,if_false]
       refine wpAny_pure ⟨rfl,rfl,_,_,_,_,rfl,hx'',hy'',?_,by simpa using hlen⟩
       rw[← hdec]
       simp[lexI]
      ·rw[decide_eq_false hk]
       simp only[Bool.not_false,if_true]
       have hf:lexI x y=decide (k1 < k2):=by rw[← hdec];simp[lexI,hk]
       rw[hf] at h
       refine wpAny_bind (wpAny_rule (wpAny_bind ?_))
       refine wpAny_lt_int (A:=A) ?_
       exact wpAny_bind (wpAny_pure (wpAny_pure (wpAny_pure h)))
 ·rintro⟨r1,r2⟩ s' ⟨hr,rfl,x',y',xs',ys',hz,hx',hy',hdec,hlen⟩
  simp only at hr
  subst hr
  refine wpAny_pure ?_
  have hfin:decide (xs.size < ys.size)=lexI x y:=by
   rw[← hdec,← hlen]
   cases hx' with
   | nil=>
     cases hy' with
     | nil=>simp[lexI]
     | cons _ _ _=>simp[lexI]
   | cons _ _ _=>
     cases hy' with
     | nil=>simp[lexI]
     | cons _ _ _=>simp at hz
  show P (.done (.ret (.bool (decide (xs.size < ys.size))))) s'
  rw[hfin];exact h
theorem zhz{a b:Addr}{oa ob:Obj}{xs ys:Array Value}{na nb:Nat}{x y:List Int}{Q:Value→Shared→Prop}(hu:A.units+1 < cLine)(hoa:s.heap.get? a=some oa)(hca:oa.cls=.type "tuple")(hda:oa.data=.seq xs na)(hia:IntsAre xs.toList x)
 (hob:s.heap.get? b=some ob) (hcb:ob.cls=.type "tuple") (hdb:ob.data=.seq ys nb) (hib:IntsAre ys.toList y) (h:Q (.bool (lexI x y)) s):wpAny (model prog w) A (compareOp .Lt (.ref a) (.ref b)) Q E s:=by
 show wpAny _ _ (richCompare .Lt (.ref a) (.ref b)) Q E s
 have hTa:s.TypeIs (.ref a) "tuple":=⟨oa,hoa,hca⟩
 have hTb:s.TypeIs (.ref b) "tuple":=⟨ob,hob,hcb⟩
 exact wpAny_richCompare_same_room (op:=.Lt) hTa hTb F.slot_tuple_lt (wpAny_call_entry F.slot_tuple_lt hTa F.entry_tuple_lt (zac (A:=A.in1) hu hoa hca hda hia hob hcb hdb hib ⟨_,rfl,(fun e=>nomatch e),h⟩) (F.args_tuple_lt_2 _ _)) (by omega)
noncomputable def wj{α:Type}(lt:Nat→Nat→Option Bool):KasT α→Option α
 | .ret a=>some a
 | .ask i j k=>match lt i j with
   | some b=>wj lt (k b)
   | none=>none
theorem zj1{α:Type}{cmp:Nat→Nat→(Bool→Shared→Prop)→Shared→Prop}{lt:Nat→Nat→Option Bool}{s:Shared}(hc:∀ i j b (C:Bool→Shared→Prop),lt i j=some b→C b s→cmp i j C s){Q:α→Shared→Prop}{a:α}(hq:Q a s) :
 ∀ (t:KasT α),wj lt t=some a→t.kasWp cmp Q s
 | .ret b,h=>by cases h;exact hq
 | .ask i j k,h=>by
   unfold wj at h
   cases hl:lt i j with
   | none=>rw[hl] at h;cases h
   | some b=>
     rw[hl] at h
     exact hc i j b _ hl (zj1 hc hq (k b) h)
theorem zhm{a:Addr}{vs:List Value}{n:Nat}{κ:SortKind}{lt:Nat→Nat→Option Bool}{out:List Value}{P:PySem.Fin→Shared→Prop}(ho:s.heap.get? a=some (seqObj "list" vs.toArray n))(h64:vs.length < 64)
 (hk:∀ (s':Shared),(∀ b o,b≠a→s.heap.get? b=some o→s'.heap.get? b=some o)→2≤vs.length→∀ (Q:SortKind→Shared→Prop),Q κ s'→wpAny (model prog w) A (keyKind' vs.toArray) Q E s')
 (hc:∀ (s':Shared),(∀ b o,b≠a→s.heap.get? b=some o→s'.heap.get? b=some o)→∀ i j b (C:Bool→Shared→Prop),lt i j=some b→C b s'→wpAny (model prog w) A (keyLt' κ (vs.getD i Value.none) (vs.getD j Value.none)) C (fun _ _=>False) s')
 (hev:(vs.length < 2∧out=vs)∨(2≤vs.length∧∃ p,wj lt (kas_sort vs.length)=some p∧out=p.toList.map fun i=>vs.getD i Value.none))
 (h:P (.done (.ret .none)) { s with heap:=sortedHeap s.heap a vs out.toArray }):wpAny (model prog w) A (Builtin.«list.sort» ⟨[.ref a],[]⟩) P E s:=by
 rw[list_sort_plain]
 have ha:a < s.heap.objs.size:=Heap.lt_size ho
 refine wpAny_bind (listItems_at ho rfl ?_)
 refine wpAny_bind (listUpdate_at ho rfl ?_ (by rw[List.size_toArray,sizeLine_eq];omega) (Nat.zero_le _))
 obtain ⟨e1,ho1⟩ : ∃ e1,(s.heap.update a (Obj.mapSeq fun _=>#[])).get? a=some (seqObj "list" #[] e1):=⟨_,get?_update_seq ho (fun _=>#[])⟩
 refine wpAny_bind (seqEpoch_at ho1 rfl ?_)
 refine wpAny_bind (wpAny_newTuple ?_ (by show vs.length≤_;rw[sizeLine_eq];omega))
 refine wpAny_bind (wpAny_newList ?_ (Nat.zero_le _))
 refine wpAny_holding ?_
 have ho6:(((s.heap.update a (Obj.mapSeq fun _=>#[])).push (seqObj "tuple" vs.toArray 0)).push (seqObj "list" #[] 0)).get? a=some (seqObj "list" #[] e1):=by
  rw[Heap.get?_push_ne _ _ _ (by rw[size_push',Heap.size_update];exact Nat.ne_of_lt (Nat.lt_succ_of_lt ha)),Heap.get?_push_ne _ _ _ (by rw[Heap.size_update];exact Nat.ne_of_lt ha)]
  exact ho1
 show wpAny (model prog w) A _ P E { s with heap:=((s.heap.update a (Obj.mapSeq fun _=>#[])).push (seqObj "tuple" vs.toArray 0)).push (seqObj "list" #[] 0) }
 have keep:∀ b o,b≠a→s.heap.get? b=some o→(((s.heap.update a (Obj.mapSeq fun _=>#[])).push (seqObj "tuple" vs.toArray 0)).push (seqObj "list" #[] 0)).get? b=some o:=fun b o hb e=>
  Heap.get?_push_of_some _ (Heap.get?_push_of_some _ ((Heap.get?_update_ne _ _ _ _ hb).trans e))
 dsimp only
 have hsz:vs.toArray.size=vs.length:=by simp
 rcases hev with ⟨h2,hout⟩ | ⟨h2,p,hp,rfl⟩
 ·rw[hout] at h
  have h2':vs.toArray.size < 2:=by rw[hsz];exact h2
  rw[if_pos h2',if_pos h2']
  refine wpAny_bind (wpAny_pure ?_)
  rw[StateT.run_pure]
  refine wpAny_bind (wpAny_pure ?_)
  dsimp only
  refine wpAny_bind (seqEpoch_at ho6 rfl ?_)
  have hmap:Array.map (fun x=>x.2) (arrOf (SortSt.mk' general' (vs.toArray.zip vs.toArray) #[] 7 none))=vs.toArray:=by
   show Array.map (fun x=>x.2) (vs.toArray.zip vs.toArray)=vs.toArray
   apply Array.toList_inj.mp
   simp[List.map_snd_zip]
  rw[hmap]
  refine wpAny_bind (listUpdate_at ho6 rfl ?_ (Nat.zero_le _) (by rw[List.size_toArray,sizeLine_eq];omega))
  simp only[bne_self_eq_false,Bool.false_eq_true,if_false]
  exact wpAny_pure h
 ·have h2':¬ vs.toArray.size < 2:=by rw[hsz];omega
  rw[if_neg h2',if_neg h2']
  refine wpAny_bind (hk _ keep h2 _ ?_)
  refine wpAny_bind (wpAny_mono (kat_run (ks:=vs) (Q:=fun st' s'=>s' = { s with heap:=((s.heap.update a (Obj.mapSeq fun _=>#[])).push (seqObj "tuple" vs.toArray 0)).push (seqObj "list" #[] 0) }∧p.size=vs.length∧arrOf st'=p.map (kas_item (vs.toArray.zip vs.toArray))∧failedOf st'=none)
   (G:=fun q s'=>q=p∧s' = { s with heap:=((s.heap.update a (Obj.mapSeq fun _=>#[])).push (seqObj "tuple" vs.toArray 0)).push (seqObj "list" #[] 0) }) rfl h2 h64 (fun q st' s' a1 a2 a3 a4=>by obtain ⟨rfl,rfl⟩:=a4;exact ⟨rfl,a1,a2,a3⟩)
   (zj1 (fun i j b C hl hC=>hc _ keep i j b C hl hC) ⟨rfl,rfl⟩ _ hp)) ?_ fun _ _ e=>e)
  rintro⟨⟨⟩,st'⟩ s' ⟨rfl,hps,har,hf⟩
  dsimp only
  refine wpAny_bind (seqEpoch_at ho6 rfl ?_)
  rw[kat_snds rfl har]
  refine wpAny_bind (listUpdate_at ho6 rfl ?_ (Nat.zero_le _) (by rw[List.size_toArray,List.length_map,Array.length_toList,hps,sizeLine_eq];omega))
  rw[hf]
  simp only[bne_self_eq_false,Bool.false_eq_true,if_false]
  exact wpAny_pure h
theorem zc2{h:Heap}{a:Addr}{vs out:List Value}{n:Nat}(ho:h.get? a=some (seqObj "list" vs.toArray n)) :
 (∀ b o,b≠a→h.get? b=some o→(sortedHeap h a vs out.toArray).get? b=some o)∧∃ c,(sortedHeap h a vs out.toArray).get? a=some (seqObj "list" out.toArray c):=by
 have ha:a < h.objs.size:=Heap.lt_size ho
 obtain ⟨e1,ho1⟩ : ∃ e1,(h.update a (Obj.mapSeq fun _=>#[])).get? a=some (seqObj "list" #[] e1):=⟨_,get?_update_seq ho (fun _=>#[])⟩
 have ho6:(((h.update a (Obj.mapSeq fun _=>#[])).push (seqObj "tuple" vs.toArray 0)).push (seqObj "list" #[] 0)).get? a=some (seqObj "list" #[] e1):=by
  rw[Heap.get?_push_ne _ _ _ (by rw[size_push',Heap.size_update];exact Nat.ne_of_lt (Nat.lt_succ_of_lt ha)),Heap.get?_push_ne _ _ _ (by rw[Heap.size_update];exact Nat.ne_of_lt ha)]
  exact ho1
 refine⟨fun b o hb e=>?_,_,get?_update_seq ho6 fun _=>out.toArray⟩
 unfold sortedHeap
 rw[Heap.get?_update_ne _ _ _ _ hb]
 exact Heap.get?_push_of_some _ (Heap.get?_push_of_some _ ((Heap.get?_update_ne _ _ _ _ hb).trans e))
theorem zc1{l:Addr}{vs:List Value}{κ:SortKind}{lt:Nat→Nat→Option Bool}{out:List Value}{Q:Value→Shared→Prop}(hl:s.heap.IsList l vs.toArray)(h64:vs.length < 64)
 (hk:∀ (s':Shared),(∀ b o,s.heap.get? b=some o→s'.heap.get? b=some o)→2≤vs.length→∀ (Q:SortKind→Shared→Prop),Q κ s'→wpAny (model prog w) A.in1.in1 (keyKind' vs.toArray) Q (fun _ _=>False) s')
 (hc:∀ (s':Shared),(∀ b o,s.heap.get? b=some o→s'.heap.get? b=some o)→∀ i j b (C:Bool→Shared→Prop),lt i j=some b→C b s'→wpAny (model prog w) A.in1.in1 (keyLt' κ (vs.getD i Value.none) (vs.getD j Value.none)) C (fun _ _=>False) s')
 (hev:(vs.length < 2∧out=vs)∨(2≤vs.length∧∃ p,wj lt (kas_sort vs.length)=some p∧out=p.toList.map fun i=>vs.getD i Value.none))
 (h:∀ D h' c,s.heap.get? D=none→(∀ b o,s.heap.get? b=some o→h'.get? b=some o)→h'.get? D=some (seqObj "list" out.toArray c)→Q (.ref D) { s with heap:=h' }) :
 wpAny (model prog w) A (call (.builtin "sorted") [.ref l]) Q E s:=by
 refine Calls.call_function_entry kind_sorted plain_sorted entry_sorted (args_sorted1 _) ?_
 unfold Builtin.«sorted»
 refine wpAny_bind (m:=checkCount "sorted" 1 1 _) (wpAny_pure ?_)
 refine wpAny_bind (collect_list hl ?_ (by rw[sizeLine_eq];omega))
 refine wpAny_bind (wpAny_newList ?_ (by rw[sizeLine_eq];omega))
 have hsz:((s.heap.push (seqObj "list" #[] 0)).update s.heap.objs.size (Obj.mapSeq (·++vs.toArray))).objs.size=s.heap.objs.size+1:=by
  rw[Heap.size_update,size_push']
 have hoL:(((s.heap.push (seqObj "list" #[] 0)).update s.heap.objs.size (Obj.mapSeq (·++vs.toArray))).push (seqObj "list" vs.toArray 0)).get? (s.heap.objs.size+1)=some (seqObj "list" vs.toArray 0):=by
  rw[← hsz];exact Heap.get?_push_size _ rfl
 have keep:∀ b o,s.heap.get? b=some o→(((s.heap.push (seqObj "list" #[] 0)).update s.heap.objs.size (Obj.mapSeq (·++vs.toArray))).push (seqObj "list" vs.toArray 0)).get? b=some o:=fun b o q=>by
  have hlt:b < s.heap.objs.size:=Heap.lt_size q
  rw[Heap.get?_push_ne _ _ _ (by rw[hsz];exact Nat.ne_of_lt (Nat.lt_succ_of_lt hlt)),Heap.get?_update_ne _ _ _ _ (Nat.ne_of_lt hlt),Heap.get?_push_ne _ _ _ (Nat.ne_of_lt hlt)]
  exact q
 have ne:∀ b o,s.heap.get? b=some o→b≠s.heap.objs.size+1:=fun b o q=>Nat.ne_of_lt (Nat.lt_succ_of_lt (Heap.lt_size q))
 show wpAny _ _ _ _ _ { s with heap:=((s.heap.push (seqObj "list" #[] 0)).update s.heap.objs.size (Obj.mapSeq (·++vs.toArray))).push (seqObj "list" vs.toArray 0) }
 rw[hsz]
 obtain⟨k1,c,k2⟩:=zc2 (out:=out) hoL
 refine wpAny_bind (wpAny_holding (wpAny_call_entry slot_list_sort ⟨_,hoL,rfl⟩ entry_list_sort ?body (args_list_sort _)))
 case body=>
  refine wpAny_mono (zhm (E:=fun _ _=>False) (P:=fun r s'=>r=.done (.ret .none)∧s'=_) hoL h64 (fun s' hk' h2 Q q=>hk s' (fun b o e=>hk' b o (ne b o e) (keep b o e)) h2 Q q) (fun s' hk' i j b C hl hC=>hc s' (fun b o e=>hk' b o (ne b o e) (keep b o e)) i j b C hl hC) hev ⟨rfl,rfl⟩) (fun r s' hr=>?_) fun _ _ x=>x.elim
  obtain⟨rfl,rfl⟩:=hr
  exact⟨_,rfl,wpAny_pure ⟨_,rfl,h _ _ c (Heap.get?_none_of_le (Nat.le_succ _)) (fun b o e=>k1 b o (ne b o e) (keep b o e)) k2⟩⟩
end
noncomputable def zar:PyData→Option (List Int)
 | .tuple a=>Mine.intsOf a
 | _=>none
noncomputable def znz:List PyData→Option (List Int×List Int)
 | [x,y]=>(zar x).bind fun a=>(zar y).map fun b=>(a,b)
 | _=>none
noncomputable def pairOf:PyData→Option (List Int×List Int)
 | .tuple xs=>znz xs
 | _=>none
noncomputable def ltP(p q:List Int×List Int):Bool:=if p.1=q.1 then (if p.2=q.2 then false else lexI p.2 q.2) else lexI p.1 q.1
noncomputable def ltAt(ps:List (List Int×List Int))(i j:Nat):Option Bool:=match ps[i]?,ps[j]? with
 | some p,some q=>some (ltP p q)
 | _,_=>none
noncomputable def jx:List PyData→Option (List (List Int×List Int))
 | []=>some []
 | x::r=>(pairOf x).bind fun p=>(jx r).map (p::·)
noncomputable def zcz(xs:List PyData):Option (List PyData):=(jx xs).bind fun ps=>if xs.length < 2 then some xs else (wj (ltAt ps) (kas_sort xs.length)).map fun p=>p.toList.map fun i=>xs.getD i .none
theorem lays:∀ is:List Int,PyData.canLayAll0 (is.map .int)=true
 | []=>rfl
 | _::is=>lays is
theorem qa:∀ a b:List Int,PyData.eqvAll (a.map .int) (b.map .int)=decide (a=b)
 | [],[]=>rfl
 | [],_::_=>rfl
 | _::_,[]=>rfl
 | x::a,y::b=>by
   show (decide (x=y) && PyData.eqvAll (a.map .int) (b.map .int))=_
   rw[qa a b]
   by_cases h:x=y <;> by_cases h':a=b <;> simp[h,h']
theorem qc:∀ a:List Int,PyData.depthAll (a.map .int)≤0
 | []=>Nat.le_refl 0
 | _::a=>Nat.max_le.mpr ⟨Nat.le_refl 0,qc a⟩
theorem zdp{a:List PyData}{x:List Int}(h:Mine.intsOf a=some x):PyData.canLayAll0 a=true:=by rw[ints_length h];exact lays x
theorem zj8{a b:List PyData}{x y:List Int}(h1:Mine.intsOf a=some x)(h2:Mine.intsOf b=some y):PyData.eqvAll a b=decide (x=y):=by rw[ints_length h1,ints_length h2];exact qa x y
theorem zfw{a:List PyData}{x:List Int}(h:Mine.intsOf a=some x):PyData.depthAll a≤0:=by rw[ints_length h];exact qc x
inductive TupI(h:Heap)(b:Addr)(p:List Int):Prop
 | mk (o:Obj) (n:Nat) (vs:Array Value) (g1:h.get? b=some o) (g2:o.cls=.type "tuple") (g3:o.data=.seq vs n) (g4:IntsAre vs.toList p) (xs:List PyData) (as:List Addr) (r:Reads h (.ref b) (.tuple xs) as) (i:Mine.intsOf xs=some p)
inductive PairAt(h:Heap)(v:Value)(p:List Int×List Int):Prop
 | mk (a b c:Addr) (o:Obj) (n:Nat) (e:v=.ref a) (h1:h.get? a=some o) (h2:o.cls=.type "tuple") (h3:o.data=.seq #[.ref b,.ref c] n) (t1:TupI h b p.1) (t2:TupI h c p.2)
theorem zbs{h:Heap}{v:Value}{x:PyData}{as:List Addr}{p:List Int}(r:Reads h v x as)(e:zar x=some p):∃ b,v=.ref b∧TupI h b p:=by
 cases x <;> first | (cases e;done) | skip
 have r':=r
 cases r with
 | tuple h1 h2 h3 h4=>exact⟨_,rfl,_,_,_,h1,h2,h3,ints_get h4 e,_,_,r',e⟩
theorem zhv{xs:List PyData}{p:List Int×List Int}(e:znz xs=some p):∃ x y,xs=[x,y]∧zar x=some p.1∧zar y=some p.2:=by
 cases xs with
 | nil=>cases e
 | cons x xs=>cases xs with
   | nil=>cases e
   | cons y xs=>cases xs with
     | cons _ _=>cases e
     | nil=>
       obtain⟨a,h1,e⟩:=Option.bind_eq_some_iff.mp e
       obtain⟨b,h2,rfl⟩:=Option.map_eq_some_iff.mp e
       exact⟨x,y,rfl,h1,h2⟩
set_option tactic.hygienic true in
theorem zmc{h:Heap}{v:Value}{x:PyData}{as:List Addr}{p:List Int×List Int}(r:Reads h v x as)(e:pairOf x=some p):PairAt h v p:=by
 cases x <;> first | (cases e;done) | skip
 obtain⟨x,y,rfl,hx,hy⟩:=zhv e
 cases r with
 | tuple h1 h2 h3 h4=>
   rename_i ad o vs n
   obtain⟨v1,v2,bs,cs,hvs,r1,_,r2,_⟩:=wb (P:=fun _=>True) h4 fun _ _=>trivial
   obtain⟨b,rfl,t1⟩:=zbs r1 hx
   obtain⟨c,rfl,t2⟩:=zbs r2 hy
   exact⟨_,b,c,o,n,rfl,h1,h2,by rw[h3,Array.toList_inj.mp (show vs.toList = #[Value.ref b,.ref c].toList from hvs)],t1,t2⟩
theorem TupI.keeps{h h':Heap}{b:Addr}{p:List Int}(hk:∀ b o,h.get? b=some o→h'.get? b=some o)(x:TupI h b p):TupI h' b p:=
 let ⟨o,n,vs,g1,g2,g3,g4,xs,as,r,i⟩:=x;⟨o,n,vs,hk _ _ g1,g2,g3,g4,xs,as,z5 hk r,i⟩
theorem PairAt.keeps{h h':Heap}{v:Value}{p:List Int×List Int}(hk:∀ b o,h.get? b=some o→h'.get? b=some o)(x:PairAt h v p):PairAt h' v p:=
 let ⟨a,b,c,o,n,e,h1,h2,h3,t1,t2⟩:=x;⟨a,b,c,o,n,e,hk _ _ h1,h2,h3,t1.keeps hk,t2.keeps hk⟩
theorem pairs_at{h:Heap}{vs:List Value}{xs:List PyData}{as:List Addr}(r:ReadsAll h vs xs as):∀ {ps:List (List Int×List Int)},jx xs=some ps→vs.length=ps.length∧∀ (i:Nat) p,ps[i]?=some p→∃ v,vs[i]?=some v∧PairAt h v p:=by
 refine ya (motive:=fun vs xs _=>∀ {ps:List (List Int×List Int)},jx xs=some ps→vs.length=ps.length∧∀ (i:Nat) p,ps[i]?=some p→∃ v,vs[i]?=some v∧PairAt h v p) ?_ ?_ r
 ·intro ps e;cases e;exact⟨rfl,fun i p h=>by rw[List.getElem?_nil] at h;cases h⟩
 ·intro v d as vs ds bs r _ ih ps e
  obtain⟨p,hx,e⟩:=Option.bind_eq_some_iff.mp e
  obtain⟨q,hr,rfl⟩:=Option.map_eq_some_iff.mp e
  obtain⟨l,k⟩:=ih hr
  refine⟨congrArg (· + 1) l,fun i p' h=>?_⟩
  cases i with
  | zero=>have h:some p=some p':=h
          cases h;exact⟨v,rfl,zmc r hx⟩
  | succ i=>exact k i p' h
section
variable{prog:Program}{w:World}{A:Around}{E:Value→Shared→Prop}{s:Shared}
theorem zg5{b b':Addr}{p q:List Int}{C:Bool→Shared→Prop}(hu:A.units+10 < cLine)(t:TupI s.heap b p)(t':TupI s.heap b' q)(h:C (decide (p=q)) s):wpAny (model prog w) A (eqBool (.ref b) (.ref b')) C E s:=by
 obtain⟨_,_,_,_,_,_,_,xs,as,r,i⟩:=t
 obtain⟨_,_,_,_,_,_,_,xs',as',r',i'⟩:=t'
 have d1:(PyData.tuple xs).depth≤1:=Nat.succ_le_succ (zfw i)
 refine SeqAt.eqBoolOverData prog w A _ s _ _ _ _ _ _ _ r r' (zdp i) (zdp i') (by omega) ?_
 have e1:PyData.eqv (.tuple xs) (.tuple xs')=decide (p=q):=zj8 i i'
 rw[e1];exact h
theorem zgp{b b':Addr}{p q:List Int}{Q:Value→Shared→Prop}(hu:A.units+1 < cLine)(t:TupI s.heap b p)(t':TupI s.heap b' q)(h:Q (.bool (lexI p q)) s):wpAny (model prog w) A (compareOp .Lt (.ref b) (.ref b')) Q E s:=by
 obtain⟨_,_,_,g1,g2,g3,g4,_,_,_,_⟩:=t
 obtain⟨_,_,_,k1,k2,k3,k4,_,_,_,_⟩:=t'
 exact zhz hu g1 g2 g3 g4 k1 k2 k3 k4 h
theorem zjp{v u:Value}{p q:List Int×List Int}{C:Bool→Shared→Prop}(hu:A.units+10 < cLine)(hv:PairAt s.heap v p)(hw:PairAt s.heap u q)(h:C (ltP p q) s):wpAny (model prog w) A (keyLt' (tuples' false) v u) C E s:=by
 obtain⟨a,b,c,o,n,rfl,h1,h2,h3,t1,t2⟩:=hv
 obtain⟨a',b',c',o',n',rfl,h1',h2',h3',t1',t2'⟩:=hw
 have hu1:A.units+1 < cLine:=by omega
 refine kat_lt h1 h3 h1' h3' ?_
 show KatLex prog w A false (decide (2 < 2)) C [(.ref b,.ref b'),(.ref c,.ref c')] 0 s
 refine kat_cons (zg5 hu t1 t1' ?_)
 unfold ltP at h
 by_cases hp:p.1=q.1
 ·rw[if_pos hp] at h
  rw[decide_eq_true hp]
  refine kat_yes (kat_cons (zg5 hu t2 t2' ?_))
  by_cases hq:p.2=q.2
  ·rw[if_pos hq] at h
   rw[decide_eq_true hq]
   exact kat_yes (kat_nil h)
  ·rw[if_neg hq] at h
   rw[decide_eq_false hq]
   exact kat_no (kat_one _ _ (zgp hu1 t2 t2' h))
 ·rw[if_neg hp] at h
  rw[decide_eq_false hp]
  exact kat_no (kat_one _ _ (zgp hu1 t1 t1' h))
theorem zfs{vs:List Value}{ps:List (List Int×List Int)}{Q:SortKind→Shared→Prop}(hl:vs.length=ps.length)(hp:∀ (i:Nat) p,ps[i]?=some p→∃ v,vs[i]?=some v∧PairAt s.heap v p)(h2:2≤vs.length)(h:Q (tuples' false) s) :
 wpAny (model prog w) A (keyKind' vs.toArray) Q E s:=by
 have key:∀ (vs:List Value) (ps:List (List Int×List Int)),vs.length=ps.length→(∀ (i:Nat) p,ps[i]?=some p→∃ v,vs[i]?=some v∧PairAt s.heap v p)→∃ fs,KatTups s.heap vs fs∧fs.length=vs.length∧∀ f∈fs,∃ b o,f=Value.ref b∧s.heap.get? b=some o∧o.cls=.type "tuple":=by
  intro vs
  induction vs with
  | nil=>intro ps _ _;exact⟨[],trivial,rfl,fun _ h=>nomatch h⟩
  | cons v vs ih=>
    intro ps hl hp
    cases ps with
    | nil=>cases hl
    | cons p ps=>
      obtain⟨fs,k1,k2,k3⟩:=ih ps (Nat.succ.inj hl) fun i p' h=>hp (i+1) p' h
      obtain⟨v',e,a,b,c,o,n,rfl,h1,h2,h3,⟨o1,_,_,g1,g2,_,_,_,_,_,_⟩,_⟩:=hp 0 p rfl
      have e:some v=some _:=e
      cases e
      refine⟨.ref b::fs,KatTups.cons h1 h2 h3 (by simp) k1,by simp[k2],fun f hf=>?_⟩
      rcases List.mem_cons.mp hf with rfl | hf
      ·exact⟨b,o1,rfl,g1,g2⟩
      ·exact k3 f hf
 obtain⟨fs,k1,k2,k3⟩:=key vs ps hl hp
 refine kat_kind (T:=.type "tuple") k1 (by rw [k2];omega) (fun f hf=>?_) (by decide) h
 obtain⟨b,o,rfl,h1,h2⟩:=k3 f hf
 rw[← h2]
 exact (Looks.ld h1).andThen .now
end
theorem zdc{h:Heap}{P:Addr→Prop}{vs:List Value}{xs:List PyData}{as:List Addr}(r:ReadsAll h vs xs as)(q:∀ a∈as,P a)(i:Nat)(x:PyData)(e:xs[i]?=some x):∃ v bs,vs[i]?=some v∧Reads h v x bs∧∀ b∈bs,P b:=zo r q e
theorem va{h:Heap}{P:Addr→Prop}{vs:List Value}{xs:List PyData}{as:List Addr}(r:ReadsAll h vs xs as)(q:∀ a∈as,P a):∀ (l:List Nat),(∀ i∈l,i < xs.length)→∃ bs,ReadsAll h (l.map fun i=>vs.getD i Value.none) (l.map fun i=>xs.getD i .none) bs∧∀ b∈bs,P b
 | [],_=>⟨[],.nil,fun _ h=>nomatch h⟩
 | i::l,hl=>by
   have hi:=hl i List.mem_cons_self
   obtain⟨v,bs,e1,r1,q1⟩:=zdc r q i _ (List.getElem?_eq_getElem hi)
   obtain⟨cs,r2,q2⟩:=va r q l fun j hj=>hl j (List.mem_cons_of_mem _ hj)
   refine⟨bs++cs,?_,fun b hb=>(List.mem_append.mp hb).elim (q1 b) (q2 b)⟩
   have ev:vs.getD i Value.none=v:=by simp[List.getD,e1]
   have ex:xs.getD i .none=xs[i]:=by simp[List.getD,hi]
   rw[List.map_cons,List.map_cons,ev,ex]
   exact .cons r1 r2
noncomputable def zez(xs:List PyData):Bool:=match wj (ltAt ((jx xs).getD [])) (kas_sort xs.length) with
 | some p=>p.toList.all fun i=>decide (i < xs.length)
 | none=>true
noncomputable def ze0(xs:List PyData):Option (List PyData):=if zez xs=true then zcz xs else none
set_option tactic.hygienic true in
theorem zoy{G:Gl}{P:Pg}(hP:P.srt=ze0):zbo G P:=by
 intro A F s β ρ O v d xs ys k ro sr rv hx h64 hs
 obtain⟨a,rfl,o,vs,n,h1,h2,h3,as,h4,h5⟩:=yb sr rv hx
 rw[hP] at hs
 unfold ze0 at hs
 by_cases hcond:zez xs=true
 ·rw[if_pos hcond] at hs
  ·have hy:=hs
   unfold zcz at hy
   cases hps:jx xs with
   | none=>rw[hps] at hy;cases hy
   | some ps=>
     rw[hps] at hy
     simp only[Option.bind_some] at hy
     obtain⟨hl,hat⟩:=pairs_at h4 hps
     have hvl:vs.toList.length=xs.length:=zd h4
     have hu:=ro.c (n:=200)
     have hL:s.heap.IsList a vs.toList.toArray:=⟨o,h1,h2,n,by simpa using h3⟩
     have fin:∀ (out:List Value) (bs:List Addr),(∀ h',(∀ b o,s.heap.get? b=some o→h'.get? b=some o)→ReadsAll h' out ys bs)→(∀ b∈bs,b∉β∧b∉F.B) →
      ((vs.toList.length < 2∧out=vs.toList)∨(2≤vs.toList.length∧∃ p,wj (ltAt ps) (kas_sort vs.toList.length)=some p∧out=p.toList.map fun i=>vs.toList.getD i Value.none)) →
      LeafD G F s β (tr G A (call (.builtin "sorted") [.ref a])) (V.d (.list ys)) (FRel G F s):=by
      intro out bs hrd hq hev
      refine LeafD.leaf sr fun Q E kk=>zc1 (κ:=tuples' false) (lt:=ltAt ps) (out:=out) hL (by rw[hvl];exact h64) (fun s' hk h2' Q q=>zfs hl (fun i p hi=>let ⟨v,e,pa⟩:=hat i p hi;⟨v,e,pa.keeps hk⟩) h2' q)
       (fun s' hk i j b C hlt hC=>?_) hev fun D h' c hDn hk hD=>?_
      ·unfold ltAt at hlt
       split at hlt
       ·rename_i p q hp hq'
        cases hlt
        obtain⟨v,e,pv⟩:=hat i p hp
        obtain⟨u,e',pu⟩:=hat j q hq'
        have ev:vs.toList.getD i Value.none=v:=by simp only[List.getD,e,Option.getD_some]
        have eu:vs.toList.getD j Value.none=u:=by simp only[List.getD,e',Option.getD_some]
        rw[ev,eu]
        exact zjp (by show A.units+1+1+10 < cLine;omega) (pv.keeps hk) (pu.keeps hk) hC
       ·cases hlt
      ·have hDβ:D∉β∧D∉F.B:=⟨fun hm=>(by obtain⟨o,e,_⟩:=sr.br.alive D hm;rw[hDn] at e;cases e),fun hm=>(by obtain⟨o,e,_⟩:=sr.fm.stor D hm;rw[hDn] at e;cases e)⟩
       exact kk _ _ (xe (tk:=s.toks) hk) ⟨xd hD rfl rfl (by simpa using hrd h' hk) hq hDβ,fun _ _=>⟨D,rfl,hDn,_,hD,rfl,rfl⟩⟩
     split at hy
     ·rename_i hlt
      cases hy
      exact fin vs.toList as (fun h' hk=>zw hk h4) h5 (.inl ⟨by rw[hvl];exact hlt,rfl⟩)
     ·rename_i hge
      cases hev:wj (ltAt ps) (kas_sort xs.length) with
      | none=>rw[hev] at hy;cases hy
      | some p=>
        rw[hev] at hy
        cases hy
        have hall:∀ i∈p.toList,i < xs.length:=by
         have:=hcond
         unfold zez at this
         rw [hps] at this
         simp only [Option.getD_some,hev] at this
         intro i hi
         exact of_decide_eq_true (List.all_eq_true.mp this i hi)
        obtain⟨bs,r1,q1⟩:=va h4 h5 p.toList hall
        exact fin _ bs (fun h' hk=>zw hk r1) q1 (.inr ⟨by rw[hvl];omega,p,by rw[hvl];exact hev,rfl⟩)
 ·rw[if_neg hcond] at hs;cases hs
noncomputable def tabOf(L:List Int)(led:Bool):SetTable:={ mask:=7,place:=(L.map Int.toNat).toArray,dummies:=#[],finger:=0,led:=led,moves:=0,plain:=true }
structure Few(L:List Int)(n:Nat):Prop where
 up:L.Pairwise (· < ·)
 lo:∀ x∈L,0≤x∧x < 5
 len:L.length≤n
theorem zp9{x:Int}(h:0≤x∧x < 5):∃ a:_root_.Fin 5,x=(a.val:Int):=⟨⟨x.toNat,by omega⟩,by simp;omega⟩
set_option tactic.hygienic true in
theorem d9:∀ (k:Int) (L:List Int) (x:Int),x∈addI k L↔x=k∨x∈L
 | k,[],x=>by simp[addI]
 | k,b::r,x=>by
   unfold addI
   split
   ·simp
   ·split
    ·rename_i h;subst h;simp
    ·simp only[List.mem_cons,d9 k r x]
     constructor
     ·rintro (h | h | h) <;> simp[h]
     ·rintro (h | h | h) <;> simp[h]
set_option tactic.hygienic true in
theorem zhg:∀ (k:Int) (L:List Int),L.Pairwise (· < ·)→(addI k L).Pairwise (· < ·)
 | k,[],_=>by simp[addI]
 | k,b::r,h=>by
   obtain⟨h1,h2⟩:=List.pairwise_cons.mp h
   unfold addI
   split
   ·rename_i hk
    refine List.pairwise_cons.mpr ⟨fun x hx=>?_,h⟩
    rcases List.mem_cons.mp hx with rfl | hx
    ·exact hk
    ·exact Int.lt_trans hk (h1 x hx)
   ·split
    ·exact h
    ·rename_i hk hne
     refine List.pairwise_cons.mpr ⟨fun x hx=>?_,zhg k r h2⟩
     rcases (d9 k r x).mp hx with rfl | hx
     ·omega
     ·exact h1 x hx
theorem zep:∀ (k:Int) (L:List Int),(addI k L).length≤L.length+1
 | k,[]=>by simp[addI]
 | k,b::r=>by
   unfold addI
   split
   ·simp
   ·split
    ·simp
    ·have:=zep k r;simp;omega
theorem Few.add{L:List Int}{k:Int}{n:Nat}(f:Few L n)(hk:0≤k∧k < 5):Few (addI k L) (n+1):=
 ⟨zhg k L f.up,fun x hx=>by rcases (d9 k L x).mp hx with rfl | hx;exact hk;exact f.lo x hx,Nat.le_trans (zep k L) (Nat.succ_le_succ f.len)⟩
noncomputable def SmallSet(h:Heap)(S:Addr)(L:List Int)(led:Bool):Prop:=
 ∃ o es ep,h.get? S=some o∧o.ExactSet∧o.data=.set es ep (tabOf L led)∧es.toList.map (·.1)=L∧∀ e∈es.toList,∃ t,e.2=.int e.1 t
section
variable{prog:Program}{w:World}{A:Around}{E:Value→Shared→Prop}{s:Shared}
theorem zfx{k:Int}(hk:0≤k∧k < 5):(intKind prog w).hash k=k:=by
 obtain⟨k,rfl⟩:=zp9 hk
 show hashInt (k.val:Int)=_
 revert k
 decide +kernel
theorem SmallSet.elems{es:List (Int×Value)}{L:List Int}{n:Nat}(f:Few L n)(h1:es.map (·.1)=L)(h2:∀ e∈es,∃ t,e.2=.int e.1 t):ElemsOf (intKind prog w) es:=fun e he=>by
 obtain⟨t,ht⟩:=h2 e he
 have hm:e.1∈L:=by rw[← h1];exact List.mem_map.mpr ⟨e,he,rfl⟩
 refine⟨⟨e.1,?_,(zfx (f.lo _ hm)).symm⟩,by rw[ht];rfl⟩
 rw[ht];exact intKind_is _ _ _ _
variable{I:Addr}{fp wr:List Addr}{R:Result→Shared→Prop}{P:Nat→Value→Prop}{St:Nat→Heap→Prop}
end
section
variable{prog:Program}{w:World}{A:Around}{E:Value→Shared→Prop}{s:Shared}
theorem code_set_new(a:Value){Q₁:Value→Shared→Prop}
 (h:Q₁ (.ref s.heap.objs.size) { s with heap:=s.heap.push { cls:=.type "set",dict:=none,data:=.set #[] 0 (.fresh 0 0 (!w.params.followText "set-order")) } }) :
 codeAny (model prog w) A (.call (.builtin "set.__new__") ⟨[.type "set",a],[]⟩) (wants Q₁ E) s:=by
 refine codeAny_of_tree ?_
 show wpAny _ A.in1 (do checkBuiltinCall "set.__new__" ⟨[.type "set",a],[]⟩;again (.builtin "set.__new__" ⟨[.type "set",a],[]⟩)) _ _ s
 refine wpAny_bind (wpAny_of_eq (PySem.F.newCall_set_1 a) (wpAny_pure ⟨plainId_quiet PySem.F.plain_set_new _,codeAny_builtin PySem.F.entry_set_new ?_⟩))
 rw[Around.under_plainId PySem.F.plain_set_new _]
 unfold Builtin.«set.__new__» Builtin.Frozenset.newClass
 have hsub:=sub_set_self
 obtain⟨hp,g,d,tk,os⟩:=s
 dsimp only
 wp_walk
 refine wpAny_askSetting (wpAny_pure ?_)
 dsimp only
 simp only[newObj]
 refine wpAny_bind (wpAny_alloc (wpAny_pure ?_))
 exact wpAny_pure h
noncomputable abbrev newSet(w:World):Obj:={ cls:=.type "set",dict:=none,data:=.set #[] 0 (.fresh 0 0 (!w.params.followText "set-order")) }
noncomputable abbrev zjk(c:String)(l:Addr):Obj:={ cls:=.type c,data:=.fields #[.ref l,.int 0 0] }
theorem zcm{l:Addr}{c ci:String}{ol:Obj}{T:Heap→Prop}{Q:Value→Shared→Prop}(hol:s.heap.get? l=some ol)(hcl:ol.cls=.type c)
 (hsls:isSubtype (.type c) (.type "set")=pure false) (hslf:isSubtype (.type c) (.type "frozenset")=pure false) (hne:(Value.type c == Value.type "dict")=false)
 (hit:∀ {A:Around} {E:Value→Shared→Prop} {s':Shared} {Q':Value→Shared→Prop},s'.heap.get? l=some ol→Q' (.ref s'.heap.objs.size) { s' with heap:=s'.heap.push (zjk ci l) }→wpAny (model prog w) A (pyIter (.ref l)) Q' E s')
 (fill:∀ (R:Result→Shared→Prop),(∀ h' tk,(∀ b o,s.heap.get? b=some o→h'.get? b=some o)→T h'→R (.ok (.ret .none)) { s with heap:=h',toks:=tk }) →
   codeAny (model prog w) A.in1.in1 (.builtin "set.update.loop" ⟨[.ref s.heap.objs.size,.ref (s.heap.push (newSet w)).objs.size],[]⟩) R { s with heap:=(s.heap.push (newSet w)).push (zjk ci l) })
 (h:∀ (h':Heap) (tk:Nat),T h'→(∀ b o,s.heap.get? b=some o→h'.get? b=some o)→Q (.ref s.heap.objs.size) { s with heap:=h',toks:=tk }) :
 wpAny (model prog w) A (call (.type "set") [.ref l]) Q E s:=by
 obtain⟨c',tl,hmro⟩:=PySem.F.called_set.mro
 have hmade:=PySem.F.called_set.made
 have hsub:=PySem.F.called_set.sub
 refine wpAny_call (codeAny_of_tree ?_)
 show wpAny _ _ (callAny (.type "set") _) _ _ _
 refine wpAny_pure ⟨Code.quiet_builtin _ (by decide +kernel),codeAny_builtin PySem.F.entry_type_call ?_⟩
 rw [Around.under_plain (weight_type_call_type "set" [.ref l] []) rfl]
 have h1:=PySem.F.called_set.notType
 have h2:=PySem.F.called_set.canCreate
 have hct:=PySem.F.typeCall_set_1 (.ref l)
 repeat (any_goals (first | assumption | wp_step))
 refine codeAny_mono (code_set_new (.ref l) (E:=E) (Q₁:=fun obj s₁=>obj=.ref s.heap.objs.size∧s₁ = { s with heap:=s.heap.push (newSet w) }) ⟨rfl,rfl⟩) fun r s₁ hr=>?_
 cases r with
 | error e=>exact hr
 | ok fl=>
   cases fl with
   | ret obj=>
     obtain⟨rfl,rfl⟩:=hr
     have hS:(s.heap.push (newSet w)).get? s.heap.objs.size=some (newSet w):=Heap.get?_push_size _ rfl
     have hT:Shared.TypeIs { s with heap:=s.heap.push (newSet w) } (.ref s.heap.objs.size) "set":=⟨_,hS,rfl⟩
     have hli:=PySem.F.called_set.init.lookup
     have hbi:=PySem.F.called_set.init.bind (.ref s.heap.objs.size)
     repeat (any_goals (first | assumption | wp_step))
     refine codeAny_mono (codeAny_call_builtin (R:=wants (fun r s₂=>r=.none∧∃ h' tk,s₂ = { s with heap:=h',toks:=tk }∧T h'∧(∀ b o,s.heap.get? b=some o→h'.get? b=some o)) E) PySem.F.called_set.init.plain PySem.F.entry_set_init (check_set_init_1 hT ?_)) fun r₂ s₂ hr₂=>?_
     ·have hol':(s.heap.push (newSet w)).get? l=some ol:=Heap.get?_push_of_some _ hol
      clear hol h
      obtain⟨ocls,odict,odata,oslots⟩:=ol
      have hcl:ocls=_:=hcl
      subst hcl
      unfold Builtin.«set.__init__» noKeywords Builtin.Frozenset.updateFrom
      generalize hPI:pyIter=PI
      wp_walk
      subst hPI
      refine hit hol' (wpAny_bind (wpAny_runValue (fill _ fun h' tk hk hT=>?_)))
      show wpAny _ _ _ _ _ _
      refine wpAny_pure ?_
      show wpAny _ _ (ret Value.none) _ _ _
      exact wpAny_pure ⟨rfl,h',tk,rfl,hT,hk⟩
     ·cases r₂ with
      | error e=>exact hr₂
      | ok fl₂=>
        cases fl₂ with
        | ret r=>
          obtain ⟨rfl,h',tk,rfl,hS',hk'⟩:=hr₂
          repeat (any_goals (first | assumption | wp_step))
          exact h _ _ hS' hk'
        | _=>exact hr₂.elim
   | _=>exact hr.elim
theorem zho{h h':Heap}{w:World}{c:String}{l:Addr}(hm:∀ b o,b∉h.objs.size::[(h.push (newSet w)).objs.size]→((h.push (newSet w)).push (zjk c l)).get? b=some o→h'.get? b=some o):∀ b o,h.get? b=some o→h'.get? b=some o:=fun b o e=>by
 have hb:=Heap.lt_size e
 refine hm b o (fun hx=>?_) (Heap.get?_push_of_some _ (Heap.get?_push_of_some _ e))
 rw[Heap.size_push] at hx
 rcases List.mem_cons.mp hx with rfl | hx
 ·exact Nat.lt_irrefl _ hb
 ·rw[List.mem_singleton.mp hx] at hb
  exact Nat.lt_irrefl _ (Nat.lt_trans (Nat.lt_succ_self _) hb)
theorem zhp{h:Heap}{w:World}{l:Addr}(hl:l < h.objs.size):l≠(h.push (newSet w)).objs.size∧h.objs.size∉[(h.push (newSet w)).objs.size,l]:=by
 rw[Heap.size_push]
 refine⟨Nat.ne_of_lt (Nat.lt_succ_of_lt hl),fun hx=>?_⟩
 rcases List.mem_cons.mp hx with hx | hx
 ·exact absurd hx (Nat.ne_of_lt (Nat.lt_succ_self _))
 ·exact absurd (List.mem_singleton.mp hx) (Nat.ne_of_gt hl)
end
noncomputable def addK(K:List (List Int))(ks:List Int):List (List Int):=if ks∈K then K else K++[ks]
noncomputable def yo(kss:List (List Int))(i:Nat):List (List Int):=(kss.take i).foldl addK []
theorem pq{kss:List (List Int)}{i:Nat}{k:List Int}(h:kss[i]?=some k):yo kss (i+1)=addK (yo kss i) k:=by
 unfold yo
 rw[List.take_add_one,h,List.foldl_append]
 rfl
theorem wy(kss:List (List Int)):∀ i,(yo kss i).length≤i
 | 0=>by simp[yo]
 | i+1=>by
   have ih:=wy kss i
   cases h:kss[i]? with
   | none=>
     have:yo kss (i+1)=yo kss i:=by unfold yo;rw[List.take_add_one,h];simp
     rw[this];omega
   | some k=>
     rw[pq h]
     unfold addK
     split
     ·omega
     ·rw[List.length_append,List.length_singleton];omega
section
variable{prog:Program}{w:World}{A:Around}{E:Value→Shared→Prop}{s:Shared}
variable{I:Addr}{fp wr:List Addr}{R:Result→Shared→Prop}{P:Nat→Value→Prop}{St:Nat→Heap→Prop}
theorem TK.keep{h h':Heap}{ks:List Int}{b:Addr}(hk:TK prog w h ks b)(hs:∀ b o,h.get? b=some o→h'.get? b=some o):TK prog w h' ks b:=by
 obtain⟨o,items,n,ho,r⟩:=hk
 exact⟨o,items,n,hs b o ho,r⟩
theorem TSet.keep{h h':Heap}{S:Addr}{ld:Bool}{K:List (List Int)}(hS:TSet prog w h S ld K)(z:List Addr)(hz:∀ b∈z,∀ o,h.get? b=some o→o.cls≠.type "tuple")(hSz:S∉z)(hs:∀ b o,b∉z→h.get? b=some o→h'.get? b=some o):TSet prog w h' S ld K:=by
 obtain⟨o,ep,t,m,L,ho,hex,hd,ht,hr,hre,hlen,hnd,hent,hmem,hm⟩:=hS
 have up:∀ {ks:List Int} {b:Addr},TK prog w h ks b→TK prog w h' ks b:=fun {ks b} ⟨o',items,n,ho',hc',r⟩=>⟨o',items,n,hs b o' (fun hb=>hz b hb o' ho' hc') ho',hc',r⟩
 refine⟨o,ep,t,m,L,hs S o hSz ho,hex,hd,ht,hr,hre,hlen,hnd,fun e he=>?_,fun ks=>?_,hm⟩
 ·obtain⟨a,ks,q1,q2,q3⟩:=hent e he
  exact⟨a,ks,q1,up q2,q3⟩
 ·rw[hmem]
  constructor
  ·rintro⟨e,he,b,hb,hk⟩
   exact⟨e,he,b,hb,up hk⟩
  ·rintro⟨e,he,b,hb,hk⟩
   obtain⟨a,ks',q1,q2,q3⟩:=hent e he
   rw[hb] at q1;cases q1
   have:=IsTupleKey.inj (up q2) hk
   subst this
   exact⟨e,he,b,hb,q2⟩
theorem zkk{kss:List (List Int)}{ld:Bool}(W:Walks prog w A.in1 I fp wr kss.length P St)(S:Addr)(hSf:S∉fp)(h0:Heap)(hu:A.in1.units < cLine)
 (hval:∀ (i:Nat) v,i < kss.length→P i v→∃ b ks,kss[i]?=some ks∧v=.ref b∧TK prog w h0 ks b) (hwr:∀ i h,St i h→∀ z∈wr,∀ o,h.get? z=some o→o.cls≠.type "tuple") (hS0:h0.get? S=none) (hw0:∀ z∈wr,h0.get? z=none) (h4:kss.length≤17) :
 ∀ (k i:Nat) (s:Shared),kss.length - i=k→i≤kss.length→St i s.heap→TSet prog w s.heap S ld (yo kss i)→(∀ b o,h0.get? b=some o→s.heap.get? b=some o) →
  (∀ h' tk,(∀ b o,b∉S::wr→s.heap.get? b=some o→h'.get? b=some o)→TSet prog w h' S ld (yo kss kss.length)→R (.ok (.ret .none)) { s with heap:=h',toks:=tk }) →
  codeAny (model prog w) A (.builtin "set.update.loop" ⟨[.ref S,.ref I],[]⟩) R s:=by
 have hSw:S∉wr:=fun h=>hSf (W.sub _ h)
 intro k
 induction k with
 | zero=>
   intro i s hk hi hst hS hkp hR
   have hin:i=kss.length:=by omega
   subst hin
   refine codeAny_builtin F.entry_set_update_loop ?_
   rw[Around.under_plainId F.plain_set_update_loop _]
   show wpAny _ A.in1 (pyNext (.ref I) >>= _) _ _ s
   refine wpAny_bind (W.done s _ _ hst fun h' tk hm=>?_)
   show wpAny _ A.in1 (ret Value.none) _ _ _
   refine wpAny_pure (hR h' tk (fun b o hb e=>hm b o (fun h=>hb (List.mem_cons_of_mem _ h)) e) ?_)
   exact hS.keep wr (hwr _ _ hst) hSw hm
 | succ k ih=>
   intro i s hk hi hst hS hkp hR
   have hlt:i < kss.length:=by omega
   refine codeAny_builtin F.entry_set_update_loop ?_
   rw[Around.under_plainId F.plain_set_update_loop _]
   show wpAny _ A.in1 (pyNext (.ref I) >>= _) _ _ s
   refine wpAny_bind (W.item i s _ _ hlt hst fun v h₁ tk₁ hP hst' hm=>?_)
   obtain⟨b,ks,hx,rfl,hkb⟩:=hval i v hlt hP
   have hS':TSet prog w h₁ S ld (yo kss i):=hS.keep wr (hwr _ _ hst) hSw hm
   have hkp1:∀ b o,h0.get? b=some o→h₁.get? b=some o:=fun b o e=>hm b o (fun hb=>by rw[hw0 b hb] at e;cases e) (hkp b o e)
   have hk1:TK prog w h₁ ks b:=hkb.keep hkp1
   show wpAny _ A.in1 (holding [Value.ref b] (setAdd S (.ref b)) >>= _) _ _ _
   refine wpAny_bind (wpAny_holding ?_)
   unfold setAdd
   refine wpAny_holding ?_
   refine wpAny_bind (wpAny_pyHash_tuple (s:={ s with heap:=h₁,toks:=tk₁ }) hu hk1 ?_)
   refine zno (s:={ s with heap:=h₁,toks:=tk₁+(ks.length+1) }) hS' hu hk1 (by have:=wy kss i;omega) fun b' h' hsb hS2=>?_
   have hS2:TSet prog w h' S ld (yo kss (i+1)):=by rw[pq hx];exact hS2
   refine wpAny_pure ⟨plainId_quiet F.plain_set_update_loop _,ih (i+1) _ (by omega) hlt (W.frame _ _ _ hst' fun b hb o e=>?_) hS2 (fun b o e=>?_) fun h'' tk hk'' hS''=>?_⟩
   ·exact (hsb.2 b (fun h:b=S=>hSf (by rw[← h];exact hb))).trans e
   ·exact (hsb.2 b (fun h:b=S=>by rw[h,hS0] at e;cases e)).trans (hkp1 b o e)
   ·refine hR h'' tk (fun b o hb e=>hk'' b o hb ?_) hS''
    exact (hsb.2 b (fun h:b=S=>hb (by rw[h];exact List.mem_cons_self))).trans (hm b o (fun h=>hb (List.mem_cons_of_mem _ h)) e)
theorem zam{l:Addr}{items:Array Value}{kss:List (List Int)}{Q:Value→Shared→Prop}
 (hh:A.handled=none) (hu:A.units+10 < cLine) (hl:s.heap.IsList l items) (hsz:items.size=kss.length) (hi:∀ (i:Nat) v,items[i]?=some v→∃ b ks,kss[i]?=some ks∧v=.ref b∧TK prog w s.heap ks b) (h4:kss.length≤17)
 (h:∀ (h':Heap) (tk:Nat),TSet prog w h' s.heap.objs.size (!w.params.followText "set-order") (yo kss kss.length) →
   (∀ b o,s.heap.get? b=some o→h'.get? b=some o)→Q (.ref s.heap.objs.size) { s with heap:=h',toks:=tk }) :
 wpAny (model prog w) A (call (.type "set") [.ref l]) Q E s:=by
 obtain⟨ol,hol,hcl,nl,hdl⟩:=hl
 refine zcm (ci:="list_iterator") hol hcl PySem.F.sub_list_set PySem.F.sub_list_frozenset (by decide) (fun e hQ=>wpAny_pyIter_list ⟨_,e,hcl,nl,hdl⟩ hQ) (fun R hR=>?_) h
 obtain⟨hneI,hSf⟩:=zhp (w:=w) (Heap.lt_size hol)
 have W:=Walks.list (prog:=prog) (w:=w) (A:=A.in1.in1.in1) (by simp[hh]) (s.heap.push (newSet w)).objs.size l hneI items
 rw[hsz] at W
 have nn:∀ j,s.heap.objs.size≤j→s.heap.get? j=none:=fun j hj=>by
  cases e:s.heap.get? j with
  | none=>rfl
  | some o'=>exact absurd (Heap.lt_size e) (Nat.not_lt.mpr hj)
 refine zkk (kss:=kss) (ld:=!w.params.followText "set-order") W s.heap.objs.size hSf s.heap (by simp only [Around.in1_units];omega) (fun i v hi' hv=>hi i v hv) (fun i h' st z hz o' e=>?_) (nn _ (Nat.le_refl _)) (fun z hz=>nn z (by rw [List.mem_singleton.mp hz,Heap.size_push];exact Nat.le_succ _)) h4 kss.length 0 _ rfl (Nat.zero_le _)
  ⟨⟨_,Heap.get?_push_size _ rfl,rfl,rfl⟩,ol,Heap.get?_push_of_some _ (Heap.get?_push_of_some _ hol),hcl,nl,hdl⟩ ?_ (fun b o e=>Heap.get?_push_of_some _ (Heap.get?_push_of_some _ e)) fun h' tk hm hS'=>hR h' tk (zho hm) hS'
 ·obtain⟨⟨oI,hoI,hcI,_⟩,_⟩:=st
  rw[List.mem_singleton.mp hz] at e
  rw[e] at hoI;cases hoI
  rw[hcI];decide
 ·exact⟨_,0,_,7,[],Heap.get?_push_of_some _ (Heap.get?_push_size _ rfl),⟨rfl,rfl,rfl⟩,rfl,⟨rfl,rfl,rfl,rfl,rfl⟩,.nil,fun _ h=>(nomatch h),rfl,by simp[yo],fun _ h=>(nomatch h),fun ks=>by simp[yo],.inl ⟨rfl,Nat.zero_le _⟩⟩
end
end Mine
end
section
namespace Mine
open PySem PyProof.Rows
noncomputable def CSs.stuck:CSs:=fun _ _ _=>.stuck
theorem zi3{cx:Cx}{l:List Stmt}:JSs cx l .stuck:=⟨fun _ _=>trivial⟩
section
variable{G:Gl}{F:Fm}{A:Around}{s:Shared}{β:List Addr}{ρ:Loc}{O:za}{cx:Cx}{gval:Nat→Option PyData}{gname:Nat→Option Str}
theorem znm{α:Type}{x:Str}{fv:Value}{y:Expr}{ps q:Pos}{r:R za V}{k:V→za→R za α}{Rel:List Addr→Heap→Value→α→Prop}(g:GOk G gval gname)(sr:SR G F β ρ O s.heap)(fit:Fits F cx)(hx:cx.isGlob x=true)(hb:(x,fv)∈bis)(hfv:(∃ id,fv=.builtin id)∨∃ T,fv=.type T)
 (he:starEach [y] F.env=(false,eval y F.env)::starEach [] F.env) (h1:Does G F A s β (eval y F.env) (r.lift ρ) (VRel G F))
 (h2:∀ s' β' val v O',SR G F β' ρ O' s'.heap→VR G F.B β' s'.heap val v→Does G F A s' β' (call fv [val]) ((k v O').lift ρ) Rel) :
 Does G F A s β (eval (.Call (.Name x ps) [y] [] q) F.env) ((r.bind k).lift ρ) Rel:=by
 have e1:r.bind k=(r.bind fun v O=>(R.ok ([]:List V) O).bind fun vs O=>R.ok (v::vs) O).bind fun vs O=>(match vs with | [u]=>k u O | _=>.stuck):=by cases r <;> rfl
 rw[e1]
 refine wt g sr fit hx hb hfv he rfl (yn he h1 fun s' β' O' sr'=>xg sr') fun s' β' vals vs O' e' st sr' rvs=>?_
 cases vs with
 | nil=>trivial
 | cons u vs=>cases vs with
   | cons _ _=>trivial
   | nil=>
     obtain⟨v,rfl,ru⟩:=rvs.one
     exact h2 s' β' v u O' sr' ru
theorem znl{α:Type}{x:Str}{fv:Value}{y z:Expr}{ps q:Pos}{ra:R za V}{rb:za→R za V}{k:V→V→za→R za α}{Rel:List Addr→Heap→Value→α→Prop}(g:GOk G gval gname)(sr:SR G F β ρ O s.heap)(fit:Fits F cx)(hx:cx.isGlob x=true)(hb:(x,fv)∈bis)(hfv:(∃ id,fv=.builtin id)∨∃ T,fv=.type T)
 (he:starEach [y,z] F.env=(false,eval y F.env)::starEach [z] F.env) (he':starEach [z] F.env=(false,eval z F.env)::starEach [] F.env)
 (h1:Does G F A s β (eval y F.env) (ra.lift ρ) (VRel G F)) (h2:∀ s' β' O',SR G F β' ρ O' s'.heap→Does G F A s' β' (eval z F.env) ((rb O').lift ρ) (VRel G F))
 (h3:∀ s' β' val wal v w O',SR G F β' ρ O' s'.heap→VR G F.B β' s'.heap val v→VR G F.B β' s'.heap wal w→Does G F A s' β' (call fv [val,wal]) ((k v w O').lift ρ) Rel) :
 Does G F A s β (eval (.Call (.Name x ps) [y,z] [] q) F.env) ((ra.bind fun v O=>(rb O).bind fun u O=>k v u O).lift ρ) Rel:=by
 have d1:Does G F A s β (spliced (backTo q (starEach [y,z] F.env))) ((ra.bind fun v O=>((rb O).bind fun v O=>(R.ok ([]:List V) O).bind fun vs O=>.ok (v::vs) O).bind fun vs O=>.ok (v::vs) O).lift ρ) (VRsl G F):=
  yn he h1 fun s' β' O' sr'=>yn he' (h2 s' β' O' sr') fun s' β' O' sr'=>xg sr'
 have e1:(ra.bind fun v O=>(rb O).bind fun u O=>k v u O)=(ra.bind fun v O=>((rb O).bind fun v O=>(R.ok ([]:List V) O).bind fun vs O=>.ok (v::vs) O).bind fun vs O=>.ok (v::vs) O).bind fun vs O=>(match vs with | [v,u]=>k v u O | _=>.stuck):=by
  cases ra with
  | ok v O=>
    show (rb O).bind (fun u O=>k v u O)=(((rb O).bind fun v O=>(R.ok ([]:List V) O).bind fun vs O=>R.ok (v::vs) O).bind fun vs O=>R.ok (v::vs) O).bind _
    cases rb O <;> rfl
  | stuck=>rfl
 rw[e1]
 refine wt g sr fit hx hb hfv he (by rw[he'];rfl) d1 fun s' β' vals vs O' e' st sr' rvs=>?_
 cases vs with
 | nil=>trivial
 | cons u vs=>cases vs with
   | nil=>trivial
   | cons w vs=>cases vs with
     | cons _ _=>trivial
     | nil=>
       obtain⟨v,v',rfl,rv,ru⟩:=rvs.two
       exact h3 s' β' v v' u w O' sr' rv ru
end
noncomputable def minV(v u:V)(O:za):R za V:=match intV v with
 | some i=>(match intV u with
    | some j=>.ok (.d (.int (min i j))) O
    | none=>.stuck)
 | none=>.stuck
noncomputable def CE.min2(a b:CE):CE:=fun P ρ O=>if P.hd=true then .stuck else (evE P ρ a O).bind fun v O=>(evE P ρ b O).bind fun u O=>minV v u O
section
variable{cx:Cx}{x y:Expr}{a b:CE}{p q ps pz:Pos}
theorem zqo{G:Gl}{F:Fm}{A:Around}{s:Shared}{β:List Addr}{ρ:Loc}{O:za}{v u:Value}{d e:V}(hh:A.handled=none)(sr:SR G F β ρ O s.heap)(rv:VR G F.B β s.heap v d)(ru:VR G F.B β s.heap u e) :
 Does G F A s β (call (.builtin "min") [v,u]) ((minV d e O).lift ρ) (VRel G F):=by
 unfold minV
 cases h1:intV d with
 | none=>trivial
 | some i=>
   cases h2:intV e with
   | none=>trivial
   | some j=>
     obtain⟨t,rfl⟩:=rv.intV h1
     obtain⟨t',rfl⟩:=ru.intV h2
     refine Does.leaf sr fun Q E q=>min_two_ints hh fun h' tk hk=>?_
     by_cases hij:j < i
     ·rw[if_pos hij]
      rw[show min i j=j from Int.min_eq_right (Int.le_of_lt hij)] at q
      exact q _ _ (xe hk) VR.int
     ·rw[if_neg hij]
      rw[show min i j=i from Int.min_eq_left (Int.not_lt.mp hij)] at q
      exact q _ _ (xe hk) VR.int
theorem zps(h1:JE cx x a)(h2:JE cx y b)(hg:cx.isGlob "min" = true):JE cx (.Call (.Name "min" ps) [x,y] [] q) (.min2 a b):=
 ⟨rfl,fun {G A P F s β ρ O} hr sr=>by
   show Does G F A s β _ (R.lift ρ (if P.hd=true then .stuck else _:R za V)) _
   by_cases hd:P.hd=true
   ·rw[if_pos hd];trivial
   rw[if_neg hd]
   exact znl (rb:=fun O=>evE P ρ b O) (fv:=.builtin "min") hr.run.g sr hr.fit hg (by decide) (.inl ⟨_,rfl⟩) h1.px.star h2.px.star (h1.d hr sr) (fun s' β' O' sr'=>h2.d hr sr') fun s' β' v w d e O' sr' rv rw=>zqo (hr.run.hm (Bool.eq_false_iff.mpr hd)) sr' rv rw⟩
end
section
variable{cx:Cx}{x y:Expr}{a b:CE}{p q ps pz:Pos}
end
section
variable{prog:Program}{w:World}{A:Around}{E:Value→Shared→Prop}{s:Shared}
theorem zad{l:Addr}{items:Array Value}{k:Int}{t:Tok}{v:Value}{Q:Unit→Shared→Prop}(hl:s.heap.PlainList l items)(h0:0≤k)(hfit:k < 2 ^ 63)(hn:k < items.size)
 (hQ:∀ h',h'.PlainList l (items.setIfInBounds k.toNat v)→Heap.SameBut l s.heap h'→Q () { s with heap:=h' }):wpAny (model prog w) A (setItem (.ref l) (.int k t) v) Q E s:=by
 obtain⟨n,ho⟩:=hl
 have hT:s.TypeIs (.ref l) "list":=⟨_,ho,rfl⟩
 unfold setItem
 try with_reducible refine wpAny_holding ?_
 first | refine wpAny_bind (wpAny_pure ?_) | skip
 refine wpAny_bind (wpAny_sequenceKey hT (by decide) ?_)
 refine wpAny_bind (wpAny_callSpecial?_slot (name:=Str.ofString "__setitem__") hT slot_list_setitem (wpAny_call_entry slot_list_setitem hT entry_list_setitem ?_ (args_list_setitem _ _ _)))
 show wpAny _ _ (Builtin.List.listSubscript? (.int k t) >>= _) _ _ s
 refine wpAny_bind (wpAny_listSubscript_int (fitsIndex_of h0 hfit) ?_)
 clear hfit
 obtain⟨j,rfl⟩:=Int.eq_ofNat_of_zero_le h0
 have hj:j < items.size:=by omega
 show wpAny _ _ ((seqItemAt l j >>= fun r=>pure (r.map (j,·))) >>= _) _ _ s
 refine wpAny_bind (wpAny_bind (wpAny_seqItemAt ho rfl (wpAny_pure ?_)))
 rw[Array.getElem?_eq_getElem hj]
 show wpAny _ _ (setSeqItemAt l j v >>= _) _ _ s
 have hfin:(s.heap.update l (Obj.mapSeq (·.setIfInBounds j v))).PlainList l (items.setIfInBounds j v):=⟨_,Heap.get?_update_self _ ho rfl⟩
 refine wpAny_bind (wpAny_setSeqItemAt ho rfl ?_)
 first
  | exact wpAny_bind (wpAny_pure (wpAny_pure ⟨.none,rfl,wpAny_pure (hQ _ hfin (Heap.SameBut.update ..))⟩))
  | exact wpAny_pure ⟨.none,rfl,wpAny_pure (hQ _ hfin (Heap.SameBut.update ..))⟩
end
theorem zb0{h:Heap}{P:Addr→Prop}{v:Value}{y:PyData}{cs:List Addr}(rv:Reads h v y cs)(qv:∀ a∈cs,P a){vs:List Value}{xs:List PyData}{as:List Addr}(r:ReadsAll h vs xs as):(∀ a∈as,P a)→∀ (j:Nat),∃ bs,ReadsAll h (vs.set j v) (xs.set j y) bs∧∀ a∈bs,P a:=by
 refine ya (motive:=fun vs xs as=>(∀ a∈as,P a)→∀ (j:Nat),∃ bs,ReadsAll h (vs.set j v) (xs.set j y) bs∧∀ a∈bs,P a) ?_ ?_ r
 ·intro _ j;exact⟨[],.nil,fun _ h=>nomatch h⟩
 ·intro u d as vs ds bs r rs ih q j
  cases j with
  | zero=>exact⟨cs++bs,.cons rv rs,fun a ha=>(List.mem_append.mp ha).elim (qv a) fun h=>q a (List.mem_append_right _ h)⟩
  | succ j=>
    obtain⟨b,r',q'⟩:=ih (fun a ha=>q a (List.mem_append_right _ ha)) j
    exact⟨as++b,.cons r r',fun a ha=>(List.mem_append.mp ha).elim (fun h=>q a (List.mem_append_left _ h)) (q' a)⟩
noncomputable def zny(n:Nat)(xs:List PyData)(k x:V)(O:za):R za Unit:=match intV k with
 | some j=>(match x with
    | .d y=>if 0≤j∧j < xs.length∧xs.length≤line then .ok () (O.set n (.lst (xs.set j.toNat y))) else .stuck
    | _=>.stuck)
 | none=>.stuck
noncomputable def zgl(w k x:V)(O:za):R za Unit:=match w with
 | .box n=>(match O[n]? with
    | some (.lst xs)=>zny n xs k x O
    | _=>.stuck)
 | _=>.stuck
noncomputable def CS.setI(o i e:CE):CS:=fun P ρ O=>(((evE P ρ e O).bind fun x O=>(evE P ρ o O).bind fun w O=>(evE P ρ i O).bind fun k O=>zgl w k x O).lift ρ).bind fun _ S=>.ok .next S
section
variable{G:Gl}{F:Fm}{A:Around}{s:Shared}{β:List Addr}{ρ:Loc}{O:za}
set_option tactic.hygienic true in
theorem znh{v u z:Value}{w k x:V}(sr:SR G F β ρ O s.heap)(rw_:VR G F.B β s.heap v w)(rk:VR G F.B β s.heap u k)(rx:VR G F.B β s.heap z x) :
 Does G F A s β (setItem v u z) ((zgl w k x O).lift ρ) (fun _ _ _ _=>True):=by
 cases w <;> first | trivial | skip
 rename_i n
 unfold zgl
 dsimp only
 cases hx:O[n]? with
 | none=>trivial
 | some bx=>
   cases bx with
   | dct _=>trivial
   | lst xs=>
     dsimp only
     unfold zny
     cases hk:intV k with
     | none=>trivial
     | some j=>
       cases x <;> first | trivial | skip
       rename_i y
       dsimp only
       by_cases hj:0≤j∧j < xs.length∧xs.length≤line
       ·rw[if_pos hj]
        obtain⟨a,hn,rfl⟩:=rw_
        obtain⟨t,rfl⟩:=rk.intV hk
        obtain⟨vs,as,hpl,r1,q1⟩:=j8 (sr.br.plain a (List.mem_of_getElem? hn)) (sr.br.at_ n a _ hn hx)
        have hsz:vs.size=xs.length:=by rw[← Array.length_toList,zd r1]
        intro Q E kk
        have hline:line < 2 ^ 63:=by decide
        refine zad hpl hj.1 (by omega) (by rw[hsz];exact hj.2.1) fun h' hl' hs'=>?_
        obtain⟨k',e'⟩:=hl'
        obtain⟨cs,r3,q3⟩:=rx
        have hb:Step F.W β s { s with heap:=h' } β→BoxAt h' F.B β a (.lst (xs.set j.toNat y)):=fun st₃=>by
         obtain ⟨bs,r4,q4⟩:=zb0 (z9 sr.br sr.fm st₃ r3 q3).1 q3 (zu sr.br sr.fm st₃ r1 q1).1 q1 j.toNat
         exact⟨_,_,k',e',rfl,rfl,bs,by rw[Array.toList_setIfInBounds];exact r4,q4⟩
        obtain⟨st₃,sr₃⟩:=SR.setBox (bx:=.lst (xs.set j.toNat y)) (s':={ s with heap:=h' }) sr hn hs' rfl rfl hb ⟨_,e',rfl,rfl⟩
        exact kk _ β () st₃ sr₃ trivial
       ·rw[if_neg hj];trivial
theorem zqn{o i value:Expr}{p spos:Pos}{re:R za V}{ro ri:za→R za V}(hs:swapsWith value (some (.Subscript o i p)) spos.line F.env=pure false)
 (h1:Does G F A s β (eval value F.env) (re.lift ρ) (VRel G F)) (h2:∀ s' β' O',SR G F β' ρ O' s'.heap→Does G F A s' β' (eval o F.env) ((ro O').lift ρ) (VRel G F)) (h3:∀ s' β' O',SR G F β' ρ O' s'.heap→Does G F A s' β' (eval i F.env) ((ri O').lift ρ) (VRel G F)) :
 Does G F A s β (exec (.Assign [.Subscript o i p] value spos) F.env) (((re.bind fun x O=>(ro O).bind fun w O=>(ri O).bind fun k O=>zgl w k x O).lift ρ).bind fun _ S=>.ok .next S) (yv G F):=by
 refine DoesW.seq (T₁:=fun Q E s=>wpAny (model G.prog G.w) A (eval value F.env) (fun v s₁=>wpAny (model G.prog G.w) A (eval o F.env) (fun ov s₂=>wpAny (model G.prog G.w) A (eval i F.env) (fun iv s₃=>wpAny (model G.prog G.w) A (setItem ov iv v) Q E s₃) E s₂) E s₁) E s)
  (T₂:=fun _ Q E s'=>Q .next s') (Rel₁:=fun _ _ _ _=>True) (fun Q E h=>wpAny_Assign_Subscript h hs) ?_ fun s' β' v d S e st sr rv=>Does.leaf sr fun Q E q=>q .next _ (KeepsAll.refl s') rfl
 refine DoesW.seqE (T₂:=fun v Q E s₁=>wpAny (model G.prog G.w) A (eval o F.env) (fun ov s₂=>wpAny (model G.prog G.w) A (eval i F.env) (fun iv s₃=>wpAny (model G.prog G.w) A (setItem ov iv v) Q E s₃) E s₂) E s₁) (fun Q E h=>h) h1 fun s₁ β₁ v x O₁ _ st₁ sr₁ rx=>?_
 refine DoesW.seqE (T₁:=tr G A (eval o F.env)) (T₂:=fun ov Q E s₂=>wpAny (model G.prog G.w) A (eval i F.env) (fun iv s₃=>wpAny (model G.prog G.w) A (setItem ov iv v) Q E s₃) E s₂) (fun Q E h=>h) (h2 s₁ β₁ O₁ sr₁) fun s₂ β₂ ov w O₂ _ st₂ sr₂ rw_=>?_
 refine DoesW.seqE (T₁:=tr G A (eval i F.env)) (T₂:=fun iv=>tr G A (setItem ov iv v)) (fun Q E h=>h) (h3 s₂ β₂ O₂ sr₂) fun s₃ β₃ iv k O₃ _ st₃ sr₃ rk=>?_
 exact znh sr₃ (rw_.step sr₂.br sr₂.fm st₃) rk (rx.step sr₁.br sr₁.fm (st₂.trans st₃))
end
theorem zo2{cx:Cx}{x y z:Expr}{a b c:CE}{p ps:Pos}(h1:JE cx x a)(h2:JE cx y b)(h3:JE cx z c)(hx:noCompX z=true):JS cx (.Assign [.Subscript x y ps] z p) (.setI a b c):=
 ⟨fun {G A P F s β ρ O} hr sr=>zqn (ro:=fun O=>evE P ρ a O) (ri:=fun O=>evE P ρ b O) (noCompX.swaps hx _ _ _) (h3.d hr.toHere sr) (fun s' β' O' sr'=>h1.d hr.toHere sr') fun s' β' O' sr'=>h2.d hr.toHere sr'⟩
noncomputable def CE.memo:CE:=fun _ _ O=>.ok (.box O.length) (O++[.dct []])
noncomputable def ky(w k:V)(O:za):Option (Nat×List (MKey×PyData)×MKey):=match w,k with
 | .box n,.d x=>(match O[n]? with
    | some (.dct kvs)=>(keyOf x).map fun q=>(n,kvs,q)
    | _=>none)
 | _,_=>none
inductive zq4(w k:V)(O:za)(n:Nat)(kvs:List (MKey×PyData))(q:MKey):Prop
 | mk (x:PyData) (e1:w=.box n) (e2:k=.d x) (e3:O[n]?=some (.dct kvs)) (e4:keyOf x=some q)
set_option tactic.hygienic true in
theorem vq{w k:V}{O:za}{n:Nat}{kvs:List (MKey×PyData)}{q:MKey}(h:ky w k O=some (n,kvs,q)):zq4 w k O n kvs q:=by
 cases w <;> first | (cases h;done) | skip
 rename_i m
 cases k <;> first | (cases h;done) | skip
 rename_i x
 have h:(match O[m]? with
  | some (.dct kvs)=>(keyOf x).map fun q=>(m,kvs,q)
  | _=>none)=some (n,kvs,q):=h
 cases e:O[m]? with
 | none=>rw[e] at h;cases h
 | some b=>
   rw[e] at h
   cases b with
   | lst _=>cases h
   | dct kv=>
     have h:(keyOf x).map (fun q=>(m,kv,q))=some (n,kvs,q):=h
     cases e':keyOf x with
     | none=>rw[e'] at h;cases h
     | some q'=>rw[e'] at h;cases h;exact⟨x,rfl,rfl,e,e'⟩
noncomputable def notinM(k w:V)(O:za):R za V:=match ky w k O with
 | some (_,kvs,q)=>.ok (.d (.bool !(zx kvs q).isSome)) O
 | none=>.stuck
noncomputable def getM(w k:V)(O:za):R za V:=match ky w k O with
 | some (_,kvs,q)=>opt ((zx kvs q).map V.d) O
 | none=>.stuck
noncomputable def setM(w k x:V)(O:za):R za Unit:=match ky w k O,x with
 | some (n,kvs,q),.d y=>if zx kvs q=none∧kvs.length≤line then .ok () (O.set n (.dct (kvs++[(q,y)]))) else .stuck
 | _,_=>.stuck
noncomputable def CE.notinM(a b:CE):CE:=fun P ρ O=>(evE P ρ a O).bind fun v O=>(evE P ρ b O).bind fun u O=>Mine.notinM v u O
noncomputable def CE.getM(a b:CE):CE:=fun P ρ O=>(evE P ρ a O).bind fun v O=>(evE P ρ b O).bind fun u O=>Mine.getM v u O
noncomputable def CS.setM(o i e:CE):CS:=fun P ρ O=>(((evE P ρ e O).bind fun x O=>(evE P ρ o O).bind fun w O=>(evE P ρ i O).bind fun k O=>Mine.setM w k x O).lift ρ).bind fun _ S=>.ok .next S
section
variable{G:Gl}{F:Fm}{A:Around}{s:Shared}{β:List Addr}{ρ:Loc}{O:za}
theorem zqp{p:Pos}(sr:SR G F β ρ O s.heap):Does G F A s β (eval (.Dict [] [] p) F.env) ((R.ok (V.box O.length) (O++[.dct []])).lift ρ) (VRel G F):=by
 intro Q E k
 have hL:s.heap.objs.size≠F.env.locals:=fun e=>by
  obtain⟨m,o,_,_,h,_⟩:=sr.fm.ns
  rw[← e,z7 s] at h;cases h
 refine wpAny_Dict_empty ?_
 have hg:(s.heap.push { cls:=.type "dict",data:=.dict #[] }).get? s.heap.objs.size=some { cls:=.type "dict",data:=.dict #[] }:=Heap.get?_push_size _ rfl
 obtain ⟨st,sr'⟩:=SR.keepNB (bx₀:=.dct []) (s':={ s with heap:=s.heap.push { cls:=.type "dict",data:=.dict #[] } }) (KeepsAll.push s _ s.toks).toL sr (z7 s) ⟨_,_,_,hg,rfl,rfl,⟨rfl,List.nodup_nil⟩,fun i e kv h1 h2=>by simp at h2⟩ ⟨_,hg,rfl,rfl⟩
 exact k _ _ _ st sr' ⟨_,by rw[← sr.br.len];simp,rfl⟩
theorem zk5{v u:Value}{x y:V}{k:Nat}(ro:Room A k)(sr:SR G F β ρ O s.heap)(rv:VR G F.B β s.heap v x)(ru:VR G F.B β s.heap u y):Does G F A s β (compareOp .NotIn v u) ((notinM x y O).lift ρ) (VRel G F):=by
 unfold notinM
 cases h:ky y x O with
 | none=>trivial
 | some p=>
   obtain⟨n,kvs,q⟩:=p
   obtain⟨d,rfl,rfl,e3,e4⟩:=vq h
   exact zaj ro sr e3 e4 rv ru
theorem zqs{value slice:Expr}{v u:Value}{x y:V}{k:Nat}(ro:Room A k)(hs:∀ l u t p,slice≠.Slice l u t p)(sr:SR G F β ρ O s.heap)(rv:VR G F.B β s.heap v x)(ru:VR G F.B β s.heap u y):Does G F A s β (subscriptTail value slice v u) ((getM x y O).lift ρ) (VRel G F):=by
 unfold getM
 cases h:ky x y O with
 | none=>trivial
 | some p=>
   obtain⟨n,kvs,q⟩:=p
   obtain⟨d,rfl,rfl,e3,e4⟩:=vq h
   exact zd5 ro sr e3 e4 rv ru (xi hs _ _)
set_option tactic.hygienic true in
theorem zqm{v u z:Value}{w k x:V}{r:Nat}(ro:Room A r)(sr:SR G F β ρ O s.heap)(rw_:VR G F.B β s.heap v w)(rk:VR G F.B β s.heap u k)(rx:VR G F.B β s.heap z x):Does G F A s β (setItem v u z) ((setM w k x O).lift ρ) (fun _ _ _ _=>True):=by
 unfold setM
 cases h:ky w k O with
 | none=>trivial
 | some p=>
   obtain⟨n,kvs,q⟩:=p
   obtain⟨d,rfl,rfl,e3,e4⟩:=vq h
   cases x <;> first | trivial | skip
   rename_i y
   dsimp only
   by_cases hj:zx kvs q=none∧kvs.length≤line
   ·rw[if_pos hj]
    obtain⟨D,hd,rfl⟩:=rw_
    obtain⟨as,rr,_⟩:=rk
    rw[gz e4] at rr
    obtain⟨a,rfl,hkey⟩:=uu (prog:=G.prog) (w:=G.w) rr
    have hm:=List.mem_of_getElem? hd
    obtain⟨xs,hD,hv⟩:=zci (prog:=G.prog) (w:=G.w) (sr.br.plain D hm) (sr.br.at_ n D _ hd e3)
    have hnone:atKey xs q=none:=by
     rcases qk (k:=q) hv with ⟨e1,e2⟩ | ⟨p,d',bs,e1,e2,_⟩
     ·exact e1
     ·rw[hj.1] at e2;cases e2
    intro Q E kk
    refine wpAny_setItem_heap ro.memo hkey hD (fun h' hD' hs'=>?_) (by rw[hv.1];exact Nat.le_trans hj.2 (by decide))
    rw[storedH_new hnone] at hD'
    obtain⟨cs,r3,q3⟩:=rx
    have hb:Step F.W β s { s with heap:=h',toks:=s.toks+(yl G.prog G.w).draws q } β→wv h' F.B β (xs++[(q,a,z)]) (kvs++[(q,y)]):=fun st₃=>by
     refine⟨by simp[hv.1],fun i x kv h1 h2=>?_⟩
     rcases Nat.lt_or_ge i xs.length with hi | hi
     ·rw[List.getElem?_append_left hi] at h1
      rw[List.getElem?_append_left (by rw[← hv.1];exact hi)] at h2
      obtain⟨e,bs,r,qq⟩:=hv.2 i x kv h1 h2
      obtain⟨p1,p2⟩:=z9 sr.br sr.fm st₃ r qq
      exact⟨e,bs,p1,p2⟩
     ·rw[List.getElem?_append_right hi] at h1
      rw[List.getElem?_append_right (by rw[← hv.1];exact hi),← hv.1] at h2
      obtain⟨e1,e2⟩ : x=(q,a,z)∧kv=(q,y):=by
       cases e:i - xs.length with
       | zero=>rw[e] at h1 h2;cases h1;cases h2;exact⟨rfl,rfl⟩
       | succ j=>rw[e] at h1;simp at h1
      subst e1;subst e2
      obtain⟨p1,p2⟩:=z9 sr.br sr.fm st₃ r3 q3
      exact⟨rfl,cs,p1,p2⟩
    obtain⟨st₃,sr₃⟩:=SR.setBox (bx:=.dct (kvs++[(q,y)])) (s':={ s with heap:=h',toks:=s.toks+(yl G.prog G.w).draws q }) sr hd hs' rfl rfl (fun st₃=>(znd hD' (hb st₃)).1) (by obtain⟨o,es,n,h1,⟨_,g1,g2⟩,_⟩:=hD';exact⟨o,h1,g1,g2⟩)
    exact kk _ β () st₃ sr₃ trivial
   ·rw[if_neg hj];trivial
theorem zng{o i value:Expr}{p spos:Pos}{re:R za V}{ro ri:za→R za V}{r:Nat}(rm:Room A r)(hs:swapsWith value (some (.Subscript o i p)) spos.line F.env=pure false)
 (h1:Does G F A s β (eval value F.env) (re.lift ρ) (VRel G F)) (h2:∀ s' β' O',SR G F β' ρ O' s'.heap→Does G F A s' β' (eval o F.env) ((ro O').lift ρ) (VRel G F)) (h3:∀ s' β' O',SR G F β' ρ O' s'.heap→Does G F A s' β' (eval i F.env) ((ri O').lift ρ) (VRel G F)) :
 Does G F A s β (exec (.Assign [.Subscript o i p] value spos) F.env) (((re.bind fun x O=>(ro O).bind fun w O=>(ri O).bind fun k O=>setM w k x O).lift ρ).bind fun _ S=>.ok .next S) (yv G F):=by
 refine DoesW.seq (T₁:=fun Q E s=>wpAny (model G.prog G.w) A (eval value F.env) (fun v s₁=>wpAny (model G.prog G.w) A (eval o F.env) (fun ov s₂=>wpAny (model G.prog G.w) A (eval i F.env) (fun iv s₃=>wpAny (model G.prog G.w) A (setItem ov iv v) Q E s₃) E s₂) E s₁) E s)
  (T₂:=fun _ Q E s'=>Q .next s') (Rel₁:=fun _ _ _ _=>True) (fun Q E h=>wpAny_Assign_Subscript h hs) ?_ fun s' β' v d S e st sr rv=>Does.leaf sr fun Q E q=>q .next _ (KeepsAll.refl s') rfl
 refine DoesW.seqE (T₂:=fun v Q E s₁=>wpAny (model G.prog G.w) A (eval o F.env) (fun ov s₂=>wpAny (model G.prog G.w) A (eval i F.env) (fun iv s₃=>wpAny (model G.prog G.w) A (setItem ov iv v) Q E s₃) E s₂) E s₁) (fun Q E h=>h) h1 fun s₁ β₁ v x O₁ _ st₁ sr₁ rx=>?_
 refine DoesW.seqE (T₁:=tr G A (eval o F.env)) (T₂:=fun ov Q E s₂=>wpAny (model G.prog G.w) A (eval i F.env) (fun iv s₃=>wpAny (model G.prog G.w) A (setItem ov iv v) Q E s₃) E s₂) (fun Q E h=>h) (h2 s₁ β₁ O₁ sr₁) fun s₂ β₂ ov w O₂ _ st₂ sr₂ rw_=>?_
 refine DoesW.seqE (T₁:=tr G A (eval i F.env)) (T₂:=fun iv=>tr G A (setItem ov iv v)) (fun Q E h=>h) (h3 s₂ β₂ O₂ sr₂) fun s₃ β₃ iv k O₃ _ st₃ sr₃ rk=>?_
 exact zqm rm sr₃ (rw_.step sr₂.br sr₂.fm st₃) rk (rx.step sr₁.br sr₁.fm (st₂.trans st₃))
end
section
variable{cx:Cx}{x y z:Expr}{a b c:CE}{p ps:Pos}
theorem zpt:JE cx (.Dict [] [] p) .memo:=⟨rfl,fun hr sr=>zqp sr⟩
theorem zpx(h1:JE cx x a)(h2:JE cx y b):JE cx (.Subscript x y p) (.getM a b):=⟨rfl,fun {G A P F s β ρ O} hr sr=>by
 refine DoesW.seqE (T₂:=fun a Q E s₁=>wpAny (model G.prog G.w) A (eval y F.env) (fun b s₂=>wpAny (model G.prog G.w) A (subscriptTail x y a b) Q E s₂) E s₁) (fun Q E h=>Subscript_ h) (h1.d hr sr) fun s' β' v d O' e st sr rv=>?_
 refine DoesW.seqE (T₁:=tr G A (eval y F.env)) (T₂:=fun b=>tr G A (subscriptTail x y v b)) (fun Q E h=>h) (h2.d hr sr) fun s₂ β₂ u d₂ O₂ e₂ st₂ sr₂ ru=>?_
 exact zqs hr.run.ro h2.px.slice sr₂ (rv.step sr.br sr.fm st₂) ru⟩
theorem zo1(h1:JE cx x a)(h2:JE cx y b)(h3:JE cx z c)(hx:noCompX z=true):JS cx (.Assign [.Subscript x y ps] z p) (.setM a b c):=
 ⟨fun {G A P F s β ρ O} hr sr=>zng (ro:=fun O=>evE P ρ a O) (ri:=fun O=>evE P ρ b O) hr.run.ro (noCompX.swaps hx _ _ _) (h3.d hr.toHere sr) (fun s' β' O' sr'=>h1.d hr.toHere sr') fun s' β' O' sr'=>h2.d hr.toHere sr'⟩
end
noncomputable def qb(xs:List PyData):List PyData:=xs.zipIdx.map fun p=>.tuple [.int p.2,p.1]
theorem zib{xs:List PyData}{i:Nat}{x:PyData}(h:(qb xs)[i]?=some x):∃ y,xs[i]?=some y∧x=.tuple [.int i,y]:=by
 unfold qb at h
 rw[List.getElem?_map,List.getElem?_zipIdx] at h
 cases e:xs[i]? with
 | none=>rw[e] at h;cases h
 | some y=>
   rw[e] at h
   simp only[Option.map_some,Option.some.injEq,Nat.zero_add] at h
   exact⟨y,rfl,h.symm⟩
theorem zcf{xs:List PyData}:(qb xs).length=xs.length:=by simp[qb]
noncomputable def zsj(v:V)(O:za):R za Src:=match v with
 | .d (.list xs)=>.ok (.plain (qb xs)) O
 | _=>.stuck
noncomputable def CI.enum(a:CE):CI:=fun P ρ O=>(evE P ρ a O).bind zsj
section
variable{G:Gl}{F:Fm}{A:Around}{es:List Expr}{kt:Nat}{pt:Pos}(hc:∀ c,∃ C,G.cls c=.ref C)
inductive EnSt(G:Gl)(I it ax:Addr)(xs:List PyData)(i:Nat)(N β:List Addr)(h:Heap):Prop
 | mk (old:Value) (e:IsEnum h I it (i:Int) old) (l:h.IsListIter it ax i) (r:VR G N β h (.ref ax) (.d (.list xs)))
theorem EnSt.itr{I it ax:Addr}{xs:List PyData}{i:Nat}{N β:List Addr}{h:Heap}(st:EnSt G I it ax xs i N β h):∀ z∈[I,it],Itr h z:=fun z hz=>by
 obtain⟨old,e,⟨o,h1,h2,h3⟩,r⟩:=st
 rcases List.mem_cons.mp hz with rfl | hz
 ·exact⟨_,_,_,e,rfl,rfl⟩
 ·rw[List.mem_singleton.mp hz];exact⟨o,_,_,h1,h2,h3⟩
include hc in
theorem Turns.enum(hh:A.handled=none)(I it ax:Addr)(hne:I≠it)(xs:List PyData):Turns G A (.Tuple es kt pt) I [I,it] (.plain (qb xs)) (EnSt G I it ax xs) where
 itr:=fun i N β h st=>st.itr
 keep:=fun i N N' β β' h h' st k1 k2 _=>by
  obtain⟨old,e,l,r⟩:=st
  exact⟨old,k1 I (by simp) _ e,l.at fun o e=>k1 it (by simp) o e,k2 _ _ r⟩
 item:=fun i N β O s x Q E hx br has st k=>by
  have hitr:=st.itr
  obtain⟨old,e,l,r⟩:=st
  obtain⟨⟨o,vs,n,h1,h2,h3,as,h4,h5⟩,_⟩:=qu r
  obtain⟨y,hy,rfl⟩:=zib hx
  obtain⟨v,cs,e1,e2,e3⟩:=zo h4 h5 (i:=i) hy
  refine wpAny_pyNext_enum_item e l ⟨o,h1,h2,n,h3⟩ (x:=v) (by rw[← Array.getElem?_toList];exact e1) hne fun h' he' hit' ht' hz' hk'=>?_
  refine k _ _ fun Q' E' k'=>wpAny_letOwnedTupleGo_enum he' fun h₂ he₂ hs₂=>?_
  have hI:s.heap.objs.size≠I:=Nat.ne_of_gt (Heap.lt_size e)
  have kz:KeepsZ [I,it] s { s with heap:=h₂,toks:=s.toks+1 }:=⟨rfl,rfl,fun b o hb hbo=>by
   rw[List.mem_cons,List.mem_singleton,not_or] at hb
   exact (hs₂.2 b hb.1).trans (hk' b o hb.1 hb.2 hbo)⟩
  have rv:VR G N β h₂ v (.d y):=VR.keepZ (x:=.d y) hitr kz.kept hc ⟨cs,e2,e3⟩
  refine k' _ kz ?_ ⟨v,he₂,hit'.extBut hs₂.extBut hne.symm,VR.keepZ hitr kz.kept hc r⟩
  obtain⟨as',r',q'⟩:=rv
  exact⟨_,.tuple ((hs₂.2 _ hI).trans ht') rfl rfl (.cons (.int _ _) (.cons r' .nil)),by simpa using q'⟩
 done:=fun i N β O s Q E hx br has st k=>by
  obtain⟨old,e,l,r⟩:=st
  obtain⟨⟨o,vs,n,h1,h2,h3,as,h4,h5⟩,_⟩:=qu r
  refine wpAny_pyNext_enum_end hh e l ⟨o,h1,h2,n,h3⟩ ?_ fun h' he=>k _ ⟨rfl,rfl,fun b o hb hbo=>he b o (fun h=>hb (by simp[h])) hbo⟩
  rw[Array.getElem?_eq_none]
  have hx:(qb xs).length=i:=hx
  rw[zcf] at hx
  rw[← Array.length_toList,zd h4];exact Nat.le_of_eq hx
 self:=fun i N β s Q E st q=>by
  obtain⟨old,e,_⟩:=st
  exact wpAny_pyIter_enum e q
end
set_option tactic.hygienic true in
theorem zo4{cx:Cx}{x:Expr}{a:CE}{ps q pt p:Pos}{es:List Expr}{kt:Nat}{l:List Stmt}{d:CSs}{t:CT}(h:JE cx x a)(hx:cx.isGlob "enumerate" = true)(h2:JSs cx l d)(hc:chkT cx (ownOf cx.sc) t (.Tuple es kt pt)=true) :
 JS cx (.For (.Tuple es kt pt) (.Call (.Name "enumerate" ps) [x] [] q) l [] p) (.for_ t (.enum a) d):=⟨fun {G A P F s β ρ O} hr sr=>by
 show Does G F A s β _ (if P.hd=true then .stuck else _:R (Loc×za) Fl) _
 by_cases hd:P.hd=true
 ·rw[if_pos hd];trivial
 rw[if_neg hd]
 have hh:=hr.run.hm (Bool.eq_false_iff.mpr hd)
 obtain ⟨b1,b2⟩:=hr.run.g.bi ("enumerate",.type "enumerate") (by decide)
 refine zn8 (r:=evI P ρ (.enum a) O) (evb:=fun ρ O=>evSs P d ρ O) hr.run.g hh hr.fit hr.own hc (fun _ _ _ h=>nomatch h) (fun s' β' ρ' O' sr'=>h2.d hr sr') sr ?_ fun src O' e=>?_
 ·refine DoesW.seqE (T₂:=fun v Q E s=>wpAny (model G.prog G.w) A (call (.type "enumerate") [v]) (fun S s₁=>wpAny (model G.prog G.w) A (pyIter S) Q E s₁) E s) (fun Q E h'=>?_) (h.d hr.toHere sr) fun s' β' v d O' e st sr' rv=>?_
  ·exact Call_Name rfl (ym hr.run.g sr hr.fit hx b1 b2 (callWith_type1 (spliced_more (wpAny_mono h' (fun v s₁ h₁=>spliced_none h₁) (fun _ _ x=>x)) h.px.star) h.px.star rfl))
  ·clear e
   cases d <;> first | trivial | skip
   rename_i z
   cases z <;> first | trivial | skip
   rename_i xs
   have rv':=rv
   obtain⟨b,rfl,⟨o,vs,n,h1,h2,h3,as,h4,h5⟩,h6⟩:=rv.list_inv
   refine DoesW.weaken (T₁:=fun Q E s=>wpAny (model G.prog G.w) A (call (.type "enumerate") [.ref b]) (fun S s₁=>wpAny (model G.prog G.w) A (pyIter S) Q E s₁) E s) (Does.leaf sr' fun Q E k=>?_) (fun Q E h=>h) fun _ _ _ _ r=>IRel.back (target:=.Tuple es kt pt) st r
   refine call_enumerate_list ⟨o,h1,h2,n,h3⟩ fun h' he hl hz hk=>wpAny_pyIter_enum he (k _ { s' with heap:=h' } ⟨rfl,rfl,hk⟩ ⟨_,_,_,rfl,Turns.enum hr.run.g.clsRef hh _ _ b (Nat.succ_ne_self _) xs,⟨_,he,hl,rv'.keepAll hk⟩,fun z hz=>?_⟩)
   refine Heap.get?_none_of_le ?_
   rcases List.mem_cons.mp hz with rfl | hz
   ·exact Nat.le_succ _
   ·rw[List.mem_singleton.mp hz];exact Nat.le_refl _
 ·obtain⟨v,O₁,e',e⟩:=qh e
  clear e'
  cases v <;> first | (cases e;done) | skip
  rename_i z
  cases z <;> first | (cases e;done) | skip
  cases e;trivial⟩
inductive SqK | lst | tup
noncomputable def SqK.cls:SqK→String
 | .lst=>"list"
 | .tup=>"tuple"
noncomputable def SqK.itc:SqK→String
 | .lst=>"list_iterator"
 | .tup=>"tuple_iterator"
noncomputable def IsSq(q:SqK)(h:Heap)(a:Addr)(xs:Array Value):Prop:=∃ o,h.get? a=some o∧o.cls=.type q.cls∧∃ n,o.data=.seq xs n
noncomputable def IsIt(q:SqK)(h:Heap)(i a:Addr)(j:Nat):Prop:=∃ o,h.get? i=some o∧o.cls=.type q.itc∧o.data=.fields #[.ref a,.int j 0]
theorem IsSq.ext{q:SqK}{h h':Heap}{a c:Addr}{xs:Array Value}(x:IsSq q h a xs)(hs:Heap.ExtBut c h h')(hne:a≠c):IsSq q h' a xs:=x.elim fun o r=>⟨o,hs _ _ hne r.1,r.2⟩
theorem IsIt.ext{q:SqK}{h h':Heap}{i a c:Addr}{j:Nat}(x:IsIt q h i a j)(hs:Heap.ExtBut c h h')(hne:i≠c):IsIt q h' i a j:=x.elim fun o r=>⟨o,hs _ _ hne r.1,r.2⟩
structure ZAt(q1 q2:SqK)(h:Heap)(z TI TO i1 i2 t l:Addr)(k:Nat)(f:Value):Prop where
 zip:IsZip h z TI TO f
 ti:IsPair h TI (.ref i1) (.ref i2)
 it1:IsIt q1 h i1 t k
 it2:IsIt q2 h i2 l k
section
variable{prog:Program}{w:World}{A:Around}{E:Value→Shared→Prop}{s:Shared}
theorem zfh{it t:Addr}{i:Nat}{items:Array Value}{x:Value}{Q:Value→Shared→Prop}(hit:IsTupIter s.heap it t i)(ht:IsTup s.heap t items)(hx:items[i]?=some x)
 (hQ:∀ h',IsTupIter h' it t (i+1)→Heap.SameBut it s.heap h'→Q x { s with heap:=h' }):wpAny (model prog w) A (Builtin.SmallTypes.nextOf (.ref it)) Q E s:=by
 obtain⟨o,ho,hc,hd⟩:=id hit
 obtain⟨ol,hol,_,nl,hdl⟩:=ht
 unfold Builtin.SmallTypes.nextOf
 refine wpAny_bind (wpAny_callSpecial?_slot (name:=Str.ofString "__next__") hit.typeIs slot_tupleiter_next (wpAny_call_entry slot_tupleiter_next hit.typeIs entry_tupleiter_next ?_ (args_tupleiter_next _)))
 show wpAny _ _ (field (.ref it) 0 >>= _) _ _ s
 refine wpAny_bind (wpAny_field ho hd (x:=.ref t) rfl ?_)
 show wpAny _ _ (if (Value.ref t == Value.none)=true then _ else _) _ _ s
 rw[if_neg (show ¬ ((Value.ref t == Value.none)=true) from Bool.false_ne_true)]
 refine wpAny_bind (wpAny_field ho hd (x:=.int i 0) rfl (wpAny_bind (wpAny_seqItems hol hdl ?_)))
 simp only[Int.toNat_natCast,hx]
 refine wpAny_bind (wpAny_setField ho hd (by simp) (wpAny_pure ⟨x,rfl,wpAny_pure (hQ _ ?_ (Heap.SameBut.update ..))⟩))
 exact⟨_,Heap.get?_update_self _ ho (Obj.isFreed_of_fields (Obj.data_mapFields hd _)),(Obj.cls_mapFields ..).trans hc,by
  rw[Obj.data_mapFields hd];simp[rawInt]⟩
theorem za2{q:SqK}{it t:Addr}{i:Nat}{items:Array Value}{x:Value}{Q:Value→Shared→Prop}(hit:IsIt q s.heap it t i)(ht:IsSq q s.heap t items)(hx:items[i]?=some x)
 (hQ:∀ h',IsIt q h' it t (i+1)→Heap.SameBut it s.heap h'→Q x { s with heap:=h' }):wpAny (model prog w) A (Builtin.SmallTypes.nextOf (.ref it)) Q E s:=by
 cases q with
 | tup=>exact zfh hit ht hx hQ
 | lst=>exact wpAny_nextOf_list_item hit ht hx hQ
variable{q1 q2:SqK}{z TI TO i1 i2 t l:Addr}{k:Nat}{xs ys:Array Value}{x y a b:Value}
theorem zis{Q:Option Value→Shared→Prop}(D:ZipApart z TI TO i1 i2 t l)(Z:ZAt q1 q2 s.heap z TI TO i1 i2 t l k .none)(hTO:IsPair s.heap TO a b)(hl1:IsSq q1 s.heap t xs)(hl2:IsSq q2 s.heap l ys)(hx:xs[k]?=some x)(hy:ys[k]?=some y)
 (hQ:∀ h',ZAt q1 q2 h' z TI TO i1 i2 t l (k+1) (rawInt s.heap.objs.size)→IsPair h' TO x y→IsPair h' s.heap.objs.size x y →
   (∀ c o,c≠z→c≠TO→c≠i1→c≠i2→s.heap.get? c=some o→h'.get? c=some o)→Q (some (.ref s.heap.objs.size)) { s with heap:=h' }) :
 wpAny (model prog w) A (pyNext (.ref z)) Q E s:=by
 obtain⟨hz,hTI,h1,h2⟩:=Z
 have hT:s.TypeIs (.ref z) "zip":=⟨_,hz,rfl⟩
 unfold pyNext
 refine wpAny_bind (wpAny_attempt (wpAny_callSpecial?_slot (name:=Str.ofString "__next__") hT F.slot_zip_next (wpAny_call_entry F.slot_zip_next hT F.entry_zip_next ?_ (F.args_zip_next_1 _))))
 show wpAny _ _ (field (.ref z) 2 >>= _) _ _ _
 refine wpAny_bind (wpAny_field hz rfl (x:=.bool false) rfl ?_)
 show wpAny _ _ (field (.ref z) 3 >>= _) _ _ _
 refine wpAny_bind (wpAny_field hz rfl (x:=.ref TI) rfl (wpAny_bind (wpAny_seqItems hTI rfl ?_)))
 show wpAny _ _ (Builtin.SmallTypes.ownedTupleIsFree (.ref z) >>= _) _ _ _
 refine wpAny_bind ?_
 unfold Builtin.SmallTypes.ownedTupleIsFree
 refine wpAny_bind (wpAny_field hz rfl (x:=.none) rfl (wpAny_pure ?_))
 simp only[if_true]
 refine wpAny_bind (wpAny_rule (wpAny_bind (wpAny_field hz rfl (x:=.ref TO) rfl (wpAny_bind (wpAny_setField_rec hz (by simp) fun h₁ hz₁ hs₁=>?_)))))
 replace hz₁:IsZip h₁ z TI TO .ellipsis:=hz₁
 refine wpAny_bind ?_
 simp only[List.zipIdx_cons,List.zipIdx_nil,List.forIn_cons,List.forIn_nil]
 refine wpAny_bind (wpAny_bind (wpAny_onRaise ?_))
 show wpAny _ _ (Builtin.SmallTypes.nextOf (.ref i1) >>= _) _ _ _
 refine wpAny_bind (za2 (h1.ext hs₁.extBut D.i1z) (hl1.ext hs₁.extBut D.l1z) hx fun h₂ h1₂ hs₂=>wpAny_pure ?_)
 have hTO₂:IsPair h₂ TO a b:=hs₂.extBut _ _ D.TOi1 (hs₁.extBut _ _ D.TOz hTO)
 refine wpAny_bind (wpAny_seqItems hTO₂ rfl (wpAny_bind (wpAny_updateSeq_pair hTO₂ fun h₃ hTO₃ hs₃=>?_)))
 replace hTO₃:IsPair h₃ TO x b:=hTO₃
 refine wpAny_bind (wpAny_letGo (wpAny_pure ?_))
 refine wpAny_bind (wpAny_bind (wpAny_onRaise ?_))
 show wpAny _ _ (Builtin.SmallTypes.nextOf (.ref i2) >>= _) _ _ _
 refine wpAny_bind (za2 (((h2.ext hs₁.extBut D.i2z).ext hs₂.extBut D.i12.symm).ext hs₃.extBut D.TOi2.symm)
  (((hl2.ext hs₁.extBut D.l2z).ext hs₂.extBut D.l2i1).ext hs₃.extBut D.l2TO) hy fun h₄ h2₄ hs₄=>wpAny_pure ?_)
 have hTO₄:IsPair h₄ TO x b:=hs₄.extBut _ _ D.TOi2 hTO₃
 refine wpAny_bind (wpAny_seqItems hTO₄ rfl (wpAny_bind (wpAny_updateSeq_pair hTO₄ fun h₅ hTO₅ hs₅=>?_)))
 replace hTO₅:IsPair h₅ TO x y:=hTO₅
 refine wpAny_bind (wpAny_letGo (wpAny_pure (wpAny_pure ?_)))
 refine wpAny_bind (wpAny_seqItems hTO₅ rfl (wpAny_bind (wpAny_newTuple ?_)))
 have hsz:h₅.objs.size=s.heap.objs.size:=by rw[hs₅.1,hs₄.1,hs₃.1,hs₂.1,hs₁.1]
 have hk₅:∀ c o,c≠z→c≠TO→c≠i1→c≠i2→s.heap.get? c=some o→h₅.get? c=some o:=fun c o c1 c2 c3 c4 e=>
  hs₅.extBut _ _ c2 (hs₄.extBut _ _ c4 (hs₃.extBut _ _ c2 (hs₂.extBut _ _ c3 (hs₁.extBut _ _ c1 e))))
 have hz₅:IsZip h₅ z TI TO .ellipsis:=hs₅.extBut _ _ D.TOz.symm (hs₄.extBut _ _ D.i2z.symm (hs₃.extBut _ _ D.TOz.symm (hs₂.extBut _ _ D.i1z.symm hz₁)))
 have h1₅:IsIt q1 h₅ i1 t (k+1):=((h1₂.ext hs₃.extBut D.TOi1.symm).ext hs₄.extBut D.i12).ext hs₅.extBut D.TOi1.symm
 have h2₅:IsIt q2 h₅ i2 l (k+1):=h2₄.ext hs₅.extBut D.TOi2.symm
 have hTI₅:IsPair h₅ TI (.ref i1) (.ref i2):=hk₅ _ _ D.TIz D.TITO D.TIi1 D.TIi2 hTI
 have hzlt:z < h₅.objs.size:=Heap.lt_size hz₅
 show wpAny _ _ (Builtin.SmallTypes.ownedTupleHandOut (.ref z) (.ref h₅.objs.size) >>= _) _ _ _
 refine wpAny_bind ?_
 unfold Builtin.SmallTypes.ownedTupleHandOut
 have hz₆:IsZip (h₅.push { cls:=.type "tuple",data:=.seq #[x,y] }) z TI TO .ellipsis:=Heap.get?_push_of_some _ hz₅
 refine wpAny_bind (wpAny_setField_rec hz₆ (by simp) fun h₇ hz₇ hs₇=>?_)
 replace hz₇:IsZip h₇ z TI TO (rawInt h₅.objs.size):=hz₇
 refine wpAny_setField_rec hz₇ (by simp) fun h₈ hz₈ hs₈=>?_
 replace hz₈:IsZip h₈ z TI TO (rawInt h₅.objs.size):=hz₈
 have up:∀ c o,c≠z→h₅.get? c=some o→h₈.get? c=some o:=fun c o c1 e=>hs₈.extBut _ _ c1 (hs₇.extBut _ _ c1 (Heap.get?_push_of_some _ e))
 have hT₈:IsPair h₈ h₅.objs.size x y:=hs₈.extBut _ _ (Nat.ne_of_gt hzlt) (hs₇.extBut _ _ (Nat.ne_of_gt hzlt) (Heap.get?_push_size _ rfl))
 rw[hsz] at hz₈ hT₈
 refine wpAny_pure ⟨_,rfl,?_⟩
 rw[hsz]
 exact wpAny_pure (hQ h₈ ⟨hz₈,up _ _ D.TIz hTI₅,h1₅.elim fun o r=>⟨o,up _ _ D.i1z r.1,r.2⟩,h2₅.elim fun o r=>⟨o,up _ _ D.i2z r.1,r.2⟩⟩ (up _ _ D.TOz hTO₅) hT₈ fun c o c1 c2 c3 c4 e=>up c o c1 (hk₅ c o c1 c2 c3 c4 e))
theorem gq{it t:Addr}{i:Nat}{items:Array Value}{Q:Value→Shared→Prop}(hh:A.handled=none)(hit:IsTupIter s.heap it t i)(ht:IsTup s.heap t items)(hx:items[i]?=none)
 (hE:∀ h' e,Heap.ExtBut it s.heap h'→(∃ o,h'.get? e=some o∧o.cls=.type "StopIteration")→E (.ref e) { s with heap:=h' }):wpAny (model prog w) A (Builtin.SmallTypes.nextOf (.ref it)) Q E s:=by
 obtain⟨o,ho,hc,hd⟩:=id hit
 obtain⟨ol,hol,_,nl,hdl⟩:=ht
 unfold Builtin.SmallTypes.nextOf
 refine wpAny_bind (wpAny_callSpecial?_slot (name:=Str.ofString "__next__") hit.typeIs slot_tupleiter_next (wpAny_call_entry slot_tupleiter_next hit.typeIs entry_tupleiter_next ?_ (args_tupleiter_next _)))
 show wpAny _ _ (field (.ref it) 0 >>= _) _ _ s
 refine wpAny_bind (wpAny_field ho hd (x:=.ref t) rfl ?_)
 show wpAny _ _ (if (Value.ref t == Value.none)=true then _ else _) _ _ s
 rw[if_neg (show ¬ ((Value.ref t == Value.none)=true) from Bool.false_ne_true)]
 refine wpAny_bind (wpAny_field ho hd (x:=.int i 0) rfl (wpAny_bind (wpAny_seqItems hol hdl ?_)))
 simp only[Int.toNat_natCast,hx]
 refine wpAny_bind (wpAny_rule (wpAny_bind (wpAny_setField ho hd (by simp) ?_)))
 show wpAny _ _ (newExc (.type "StopIteration") [] >>= _) _ _ _
 refine wpAny_bind ?_
 simp only[newExc,newTuple]
 refine wpAny_bind (wpAny_newObj_type ?_ (by size_fits))
 refine wpAny_bind (m:=firstArgMember _ _) (wpAny_of_eq (a:=Value.none) (by first | rfl | (simp only[firstArgMember];rfl)) ?_)
 refine wpAny_newObj_type ?_ (by size_fits)
 simp only[raiseNew]
 refine wpAny_bind (wpAny_handled ?_)
 first | rw[show A.in1.handled=none from hh] | rw[hh]
 refine wpAny_bind (wpAny_pure (wpAny_throw ?_))
 exact hE _ _ (((Heap.SameBut.update ..).extBut.push _).push _) ⟨_,Heap.get?_push_size _ rfl,rfl⟩
theorem zfi{q:SqK}{it t:Addr}{i:Nat}{items:Array Value}{Q:Value→Shared→Prop}(hh:A.handled=none)(hit:IsIt q s.heap it t i)(ht:IsSq q s.heap t items)(hx:items[i]?=none)
 (hE:∀ h' e,Heap.ExtBut it s.heap h'→(∃ o,h'.get? e=some o∧o.cls=.type "StopIteration")→E (.ref e) { s with heap:=h' }):wpAny (model prog w) A (Builtin.SmallTypes.nextOf (.ref it)) Q E s:=by
 cases q with
 | tup=>exact gq hh hit ht hx hE
 | lst=>exact wpAny_nextOf_list_end hh hit ht hx hE
theorem zlq{Q:Option Value→Shared→Prop}(hh:A.handled=none)(D:ZipApart z TI TO i1 i2 t l)(Z:ZAt q1 q2 s.heap z TI TO i1 i2 t l k .none)(hl1:IsSq q1 s.heap t xs)(hx:xs[k]?=none)
 (hQ:∀ h',(∀ c o,c≠z→c≠i1→s.heap.get? c=some o→h'.get? c=some o)→Q none { s with heap:=h' }) :
 wpAny (model prog w) A (pyNext (.ref z)) Q E s:=by
 obtain⟨hz,hTI,h1,h2⟩:=Z
 have hT:s.TypeIs (.ref z) "zip":=⟨_,hz,rfl⟩
 unfold pyNext
 refine wpAny_bind (wpAny_attempt (wpAny_callSpecial?_slot (name:=Str.ofString "__next__") hT F.slot_zip_next (wpAny_call_entry F.slot_zip_next hT F.entry_zip_next ?_ (F.args_zip_next_1 _))))
 show wpAny _ _ (field (.ref z) 2 >>= _) _ _ _
 refine wpAny_bind (wpAny_field hz rfl (x:=.bool false) rfl ?_)
 show wpAny _ _ (field (.ref z) 3 >>= _) _ _ _
 refine wpAny_bind (wpAny_field hz rfl (x:=.ref TI) rfl (wpAny_bind (wpAny_seqItems hTI rfl ?_)))
 show wpAny _ _ (Builtin.SmallTypes.ownedTupleIsFree (.ref z) >>= _) _ _ _
 refine wpAny_bind ?_
 unfold Builtin.SmallTypes.ownedTupleIsFree
 refine wpAny_bind (wpAny_field hz rfl (x:=.none) rfl (wpAny_pure ?_))
 simp only[if_true]
 refine wpAny_bind (wpAny_rule (wpAny_bind (wpAny_field hz rfl (x:=.ref TO) rfl (wpAny_bind (wpAny_setField_rec hz (by simp) fun h₁ hz₁ hs₁=>?_)))))
 replace hz₁:IsZip h₁ z TI TO .ellipsis:=hz₁
 refine wpAny_bind ?_
 simp only[List.zipIdx_cons,List.zipIdx_nil,List.forIn_cons,List.forIn_nil]
 refine wpAny_bind (wpAny_bind (wpAny_onRaise ?_))
 show wpAny _ _ (Builtin.SmallTypes.nextOf (.ref i1) >>= _) _ _ _
 refine wpAny_bind (zfi hh (h1.ext hs₁.extBut D.i1z) (hl1.ext hs₁.extBut D.l1z) hx fun h₂ e hs₂ he=>?_)
 obtain⟨oe,hoe,hce⟩:=he
 have hz₂:IsZip h₂ z TI TO .ellipsis:=hs₂ _ _ D.i1z.symm hz₁
 have hez:e≠z:=fun x=>by subst x;rw[hz₂] at hoe;cases hoe;simp at hce
 refine wpAny_setField_rec hz₂ (by simp) fun h₃ _ hs₃=>?_
 refine wpAny_bind (wpAny_isInstance (T:="StopIteration") (b:=true) ⟨oe,hs₃.extBut _ _ hez hoe,hce⟩ isSubtype_stop ?_)
 exact wpAny_pure (hQ h₃ fun c o c1 c3 x=>hs₃.extBut _ _ c1 (hs₂ _ _ c3 (hs₁.extBut _ _ c1 x)))
theorem zgw{q:SqK}{l:Addr}{xs:Array Value}{Q:Value→Shared→Prop}(hl:IsSq q s.heap l xs)(hQ:Q (.ref s.heap.objs.size) { s with heap:=s.heap.push { cls:=.type q.itc,data:=.fields #[.ref l,.int 0 0] } }):wpAny (model prog w) A (pyIter (.ref l)) Q E s:=by
 cases q with
 | tup=>exact iter_tuple hl hQ
 | lst=>exact wpAny_pyIter_list hl hQ
noncomputable abbrev zH1(q1:SqK)(h:Heap)(l:Addr):Heap:=h.push { cls:=.type q1.itc,data:=.fields #[.ref l,.int 0 0] }
noncomputable abbrev zH2(q1 q2:SqK)(h:Heap)(l t:Addr):Heap:=(zH1 q1 h l).push { cls:=.type q2.itc,data:=.fields #[.ref t,.int 0 0] }
noncomputable abbrev zH3(q1 q2:SqK)(h:Heap)(l t:Addr):Heap:=(zH2 q1 q2 h l t).push { cls:=.type "tuple",data:=.seq #[.ref h.objs.size,.ref (zH1 q1 h l).objs.size] }
noncomputable abbrev zH4(q1 q2:SqK)(h:Heap)(l t:Addr):Heap:=(zH3 q1 q2 h l t).push { cls:=.type "tuple",data:=.seq #[.none,.none] }
noncomputable abbrev zH5(q1 q2:SqK)(h:Heap)(l t:Addr):Heap:=(zH4 q1 q2 h l t).push { cls:=.type "zip",data:=.fields #[.none,.bool false,.bool false,.ref (zH2 q1 q2 h l t).objs.size,.ref (zH3 q1 q2 h l t).objs.size] }
theorem zhy(q1 q2:SqK)(l t:Addr)(xs ys:Array Value) :
 Meets (Builtin.«zip.__new__» ⟨[.type "zip",.ref l,.ref t],[]⟩) (fun _ R s=>IsSq q1 s.heap l xs∧IsSq q2 s.heap t ys ∧
  R (.ok (.ret (.ref (zH4 q1 q2 s.heap l t).objs.size))) { s with heap:=zH5 q1 q2 s.heap l t }):=
 .of_wp fun prog w A R s h=>by
  obtain⟨hp,g,d,tk,os⟩:=s;obtain⟨hl1,hl2,h⟩:=h
  have hsub:=sub_zip
  have hL1:IsSq q1 (Shared.heap ⟨hp,g,d,tk,os⟩) l xs:=hl1
  have hL2:IsSq q2 (Shared.heap ⟨hp.push { cls:=.type q1.itc,data:=.fields #[.ref l,.int 0 0] },g,d,tk,os⟩) t ys:=let ⟨o,e,r⟩:=hl2;⟨o,Heap.get?_push_of_some _ e,r⟩
  wp_walk using zgw hL1,zgw hL2
  exact⟨_,rfl,h⟩
theorem zlb{l t:Addr}{Q:Value→Shared→Prop}(hl1:IsSq q1 s.heap l xs)(hl2:IsSq q2 s.heap t ys)
 (h:∀ h' z TI TO i1 i2,ZAt q1 q2 h' z TI TO i1 i2 l t 0 .none→IsPair h' TO .none .none→ZipApart z TI TO i1 i2 l t→(∀ c∈[z,TI,TO,i1,i2],s.heap.get? c=none)→(∀ c o,s.heap.get? c=some o→h'.get? c=some o)→Q (.ref z) { s with heap:=h' }) :
 wpAny (model prog w) A (call (.type "zip") [.ref l,.ref t]) Q E s:=by
 refine callType_new F.called_zip (by decide) (F.typeCall_zip_2 _ _) (F.newCall_zip_2 _ _) (fun obj=>F.args_object_init_3 obj _ _) F.entry_zip_new (zhy q1 q2 l t xs ys) ⟨hl1,hl2,?_⟩
 have hl:l < s.heap.objs.size:=by obtain⟨_,e,_⟩:=hl1;exact Heap.lt_size e
 have ht:t < s.heap.objs.size:=by obtain⟨_,e,_⟩:=hl2;exact Heap.lt_size e
 have z1:(zH1 q1 s.heap l).objs.size=s.heap.objs.size+1:=Heap.size_push ..
 have z2:(zH2 q1 q2 s.heap l t).objs.size=s.heap.objs.size+2:=by rw[Heap.size_push,z1]
 have z3:(zH3 q1 q2 s.heap l t).objs.size=s.heap.objs.size+3:=by rw[Heap.size_push,z2]
 have z4:(zH4 q1 q2 s.heap l t).objs.size=s.heap.objs.size+4:=by rw[Heap.size_push,z3]
 have g5:(zH5 q1 q2 s.heap l t).get? (zH4 q1 q2 s.heap l t).objs.size=some _:=Heap.get?_push_size _ rfl
 have g4:(zH5 q1 q2 s.heap l t).get? (zH3 q1 q2 s.heap l t).objs.size=some _:=Heap.get?_push_of_some _ (Heap.get?_push_size _ rfl)
 have g3:(zH5 q1 q2 s.heap l t).get? (zH2 q1 q2 s.heap l t).objs.size=some _:=Heap.get?_push_of_some _ (Heap.get?_push_of_some _ (Heap.get?_push_size _ rfl))
 have g2:(zH5 q1 q2 s.heap l t).get? (zH1 q1 s.heap l).objs.size=some _:=Heap.get?_push_of_some _ (Heap.get?_push_of_some _ (Heap.get?_push_of_some _ (Heap.get?_push_size _ rfl)))
 have g1:(zH5 q1 q2 s.heap l t).get? s.heap.objs.size=some _:=Heap.get?_push_of_some _ (Heap.get?_push_of_some _ (Heap.get?_push_of_some _ (Heap.get?_push_of_some _ (Heap.get?_push_size _ rfl))))
 refine⟨⟨_,g5,rfl⟩,h _ _ _ _ _ _ ⟨g5,g3,⟨_,g1,rfl,rfl⟩,⟨_,g2,rfl,rfl⟩⟩ g4 ?_ (fun c hc=>Heap.get?_none_of_le ?_) fun c o x=>
  Heap.get?_push_of_some _ (Heap.get?_push_of_some _ (Heap.get?_push_of_some _ (Heap.get?_push_of_some _ (Heap.get?_push_of_some _ x))))⟩
 ·rw[z4,z3,z2,z1];exact zipApart_new hl ht
 ·simp only[List.mem_cons,List.not_mem_nil,or_false] at hc
  rcases hc with rfl | rfl | rfl | rfl | rfl
  ·rw[z4];exact Nat.le_add_right _ _
  ·rw[z2];exact Nat.le_add_right _ _
  ·rw[z3];exact Nat.le_add_right _ _
  ·exact Nat.le_refl _
  ·rw[z1];exact Nat.le_add_right _ _
end
inductive Shy(Bd:List PyData→Prop):PyData→Prop
 | none:Shy Bd .none
 | bool (b:Bool):Shy Bd (.bool b)
 | int (i:Int):Shy Bd (.int i)
 | str (x:Str):Shy Bd (.str x)
 | list {xs:List PyData} (h:∀ x∈xs,Shy Bd x):Shy Bd (.list xs)
 | tuple {xs:List PyData} (h:∀ x∈xs,Shy Bd x) (hb:¬ Bd xs):Shy Bd (.tuple xs)
variable{Bd:List PyData→Prop}
theorem Shy.of_list{xs:List PyData}(h:Shy Bd (.list xs)):∀ x∈xs,Shy Bd x:=by cases h;assumption
theorem Shy.of_tuple{xs:List PyData}(h:Shy Bd (.tuple xs)):(∀ x∈xs,Shy Bd x)∧¬ Bd xs:=by cases h;exact⟨by assumption,by assumption⟩
noncomputable def ShyV(Bd:List PyData→Prop):V→Prop
 | .d x=>Shy Bd x
 | .box _=>True
 | .tm _=>False
noncomputable def ShyB(Bd:List PyData→Prop):Box→Prop
 | .lst xs=>∀ x∈xs,Shy Bd x
 | .dct kvs=>∀ kv∈kvs,Shy Bd (pe kv.1)∧Shy Bd kv.2
structure ShyS(Bd:List PyData→Prop)(ρ:Loc)(O:za):Prop where
 loc:∀ v,some v∈ρ→ShyV Bd v
 box:∀ b∈O,ShyB Bd b
theorem Reads.same{h:Heap}{v:Value}{x:PyData}{as:List Addr}(r:Reads h v x as):Shy Bd x→∀ (x':PyData) (as':List Addr),Reads h v x' as'→x'=x:=
 Reads.rec (motive_1:=fun v x as _=>Shy Bd x→∀ (x':PyData) (as':List Addr),Reads h v x' as'→x'=x) (motive_2:=fun vs xs as _=>(∀ x∈xs,Shy Bd x)→∀ (xs':List PyData) (as':List Addr),ReadsAll h vs xs' as'→xs'=xs)
  (fun _ x' as' r=>by cases r;rfl) (fun b _ x' as' r=>by cases r;rfl) (fun i t _ x' as' r=>by cases r;rfl) (fun x t _ x' as' r=>by cases r;rfl)
  (fun h1 h2 h3 _ ih s x' as' r=>by
    cases r with
    | list q1 q2 q3 q4=>rw[h1] at q1;cases q1;rw[h3] at q3;cases q3;rw[ih s.of_list _ _ q4]
    | tuple q1 q2 q3 q4=>rw[h1] at q1;cases q1;rw[h2] at q2;exact absurd q2 (by simp)
    | dict q1 q2 q3 q4=>rw[h1] at q1;cases q1;rw[h2] at q2;exact absurd q2 (by simp))
  (fun h1 h2 h3 _ ih s x' as' r=>by
    cases r with
    | list q1 q2 q3 q4=>rw[h1] at q1;cases q1;rw[h2] at q2;exact absurd q2 (by simp)
    | tuple q1 q2 q3 q4=>rw[h1] at q1;cases q1;rw[h3] at q3;cases q3;rw[ih s.of_tuple.1 _ _ q4]
    | dict q1 q2 q3 q4=>rw[h1] at q1;cases q1;rw[h2] at q2;exact absurd q2 (by simp))
  (fun _ _ _ _ _ _ _ s=>nomatch s)
  (fun _ xs' as' r=>by cases r;rfl)
  (fun _ _ i1 i2 s xs' as' r=>by
    cases r with
    | cons r1 r2=>rw[i1 (s _ List.mem_cons_self) _ _ r1,i2 (fun x hx=>s x (List.mem_cons_of_mem _ hx)) _ _ r2]) r
inductive ZOwn(Bd:List PyData→Prop)(h:Heap)(T:Addr):Prop
 | none (e:IsPair h T .none .none):ZOwn Bd h T
 | data (a b:Value) (e:IsPair h T a b) (x y:PyData) (as cs:List Addr) (r1:Reads h a x as) (r2:Reads h b y cs) (s1:Shy Bd x) (s2:Shy Bd y) (hb:Bd [x,y]):ZOwn Bd h T
theorem ZOwn.pair{h:Heap}{T:Addr}(o:ZOwn Bd h T):∃ a b,IsPair h T a b:=by
 cases o with
 | none e=>exact⟨_,_,e⟩
 | data a b e=>exact⟨a,b,e⟩
theorem ZOwn.bad{h:Heap}{T:Addr}(hN:Bd [.none,.none])(o:ZOwn Bd h T){ob:Obj}{vs:Array Value}{n:Nat}(e:h.get? T=some ob)(hd:ob.data=.seq vs n){xs:List PyData}{as:List Addr}(r:ReadsAll h vs.toList xs as):Bd xs:=by
 cases o with
 | none e'=>
   have e':h.get? T=_:=e'
   rw[e] at e';cases e';cases hd
   cases r with
   | cons r1 r=>
     cases r with
     | cons r2 r=>cases r;cases r1;cases r2;exact hN
 | data a b e' x y as cs g1 g2 s1 s2 hb=>
   have e':h.get? T=_:=e'
   rw[e] at e';cases e';cases hd
   cases r with
   | cons r1 r=>
     cases r with
     | cons r2 r=>
       cases r
       rw[Reads.same g1 s1 _ _ r1,Reads.same g2 s2 _ _ r2];exact hb
section
variable{G:Gl}{F:Fm}{N β Z:List Addr}{T:Addr}{ρ:Loc}{O:za}{h h':Heap}(hz:∀ z∈Z,Itr h z)(hN:Bd [.none,.none])(ho:ZOwn Bd h T)(hk:∀ b o,b∉Z→b≠T→h.get? b=some o→h'.get? b=some o)
include hz hN ho hk
theorem getS{b:Addr}{o:Obj}(e:h.get? b=some o)(hd:∀ fs,o.data≠.fields fs)(hc:∀ vs n,o.data=.seq vs n→o.cls≠.type "tuple"):h'.get? b=some o:=by
 refine hk b o (notZ hz e hd) (fun hb=>?_) e
 obtain⟨x,y,ep⟩:=ho.pair
 have ep:h.get? T=_:=ep
 rw[← hb,e] at ep;cases ep
 exact hc _ _ rfl rfl
theorem jm{v:Value}{x:PyData}{as:List Addr}(r:Reads h v x as):Shy Bd x→Reads h' v x as:=
 Reads.rec (motive_1:=fun v x as _=>Shy Bd x→Reads h' v x as) (motive_2:=fun vs xs as _=>(∀ x∈xs,Shy Bd x)→ReadsAll h' vs xs as)
  (fun _=>.none) (fun b _=>.bool b) (fun i t _=>.int i t) (fun x t _=>.str x t)
  (fun h1 h2 h3 _ ih s=>.list (getS hz hN ho hk h1 (fun fs q=>by rw[h3] at q;cases q) fun _ _ _ q=>by rw[h2] at q;exact absurd q (by simp)) h2 h3 (ih s.of_list))
  (fun {a o vs n xs as} h1 h2 h3 r ih s=>.tuple (hk a o (notZ hz h1 fun fs q=>by rw[h3] at q;cases q) (fun e=>s.of_tuple.2 (ho.bad hN (e ▸ h1) h3 r)) h1) h2 h3 (ih s.of_tuple.1))
  (fun _ _ _ _ _ _ _ s=>nomatch s)
  (fun _=>.nil) (fun _ _ i1 i2 s=>.cons (i1 (s _ List.mem_cons_self)) (i2 fun x hx=>s x (List.mem_cons_of_mem _ hx))) r
theorem gj{vs:List Value}{xs:List PyData}{as:List Addr}(r:ReadsAll h vs xs as)(s:∀ x∈xs,Shy Bd x):ReadsAll h' vs xs as:=by
 revert s
 refine ya (motive:=fun vs xs as=>(∀ x∈xs,Shy Bd x)→ReadsAll h' vs xs as) (fun _=>.nil) (fun {v d as vs ds bs} r _ ih s=>.cons (jm hz hN ho hk r (s _ List.mem_cons_self)) (ih fun x hx=>s x (List.mem_cons_of_mem _ hx))) r
theorem VR.keepS{v:Value}{x:V}(r:VR G N β h v x)(s:ShyV Bd x):VR G N β h' v x:=by
 cases x with
 | d x=>obtain⟨as,r,q⟩:=r;exact⟨as,jm hz hN ho hk r s,q⟩
 | box n=>exact r
 | tm its=>cases s
theorem BoxAt.keepS{a:Addr}{bx:Box}(r:BoxAt h N β a bx)(s:ShyB Bd bx):BoxAt h' N β a bx:=by
 cases bx with
 | lst xs=>obtain⟨o,vs,n,h1,h2,h3,as,h4,h5⟩:=r;exact⟨o,vs,n,getS hz hN ho hk h1 (fun fs q=>by rw[h3] at q;cases q) (fun _ _ _ q=>by rw[h2] at q;exact absurd q (by simp)),h2,h3,as,gj hz hN ho hk h4 s,h5⟩
 | dct kvs=>
   obtain⟨o,es,n,h1,h2,h3,h4,h5⟩:=r
   refine⟨o,es,n,getS hz hN ho hk h1 (fun fs q=>by rw[h3] at q;cases q) (fun _ _ q=>by rw[h3] at q;cases q),h2,h3,h4,fun i e kv he hkv=>?_⟩
   obtain⟨hq,as,bs,r1,r2,q⟩:=h5 i e kv he hkv
   exact⟨hq,as,bs,jm hz hN ho hk r1 (s _ (List.mem_of_getElem? hkv)).1,jm hz hN ho hk r2 (s _ (List.mem_of_getElem? hkv)).2,q⟩
theorem nsS{L:Addr}{m:Str→Option Value}(x:h.Ns L m):h'.Ns L m:=by
 obtain⟨o,es,ep,h1,h2,r⟩:=x
 exact⟨o,es,ep,getS hz hN ho hk h1 (fun fs q=>by rw[h2] at q;cases q) (fun _ _ q=>by rw[h2] at q;cases q),h2,r⟩
theorem zob{c:Addr}{v:Option Value}(x:h.IsCell c v):h'.IsCell c v:=by
 obtain⟨o,h1,h2⟩:=x
 exact⟨o,getS hz hN ho hk h1 (fun fs q=>by rw[h2] at q;cases q) (fun _ _ q=>by rw[h2] at q;cases q),h2⟩
theorem SR.keepS(hz0:∀ z∈Z,G.h₀.get? z=none)(hT0:G.h₀.get? T=none)(hzB:∀ z∈Z,z∉F.B)(hTB:T∉F.B)(r:SR G F β ρ O h)(s:ShyS Bd ρ O):SR G F β ρ O h':=by
 have f:=r.fm
 refine⟨⟨fun c o e=>hk _ _ (fun hb=>by rw[hz0 c hb] at e;cases e) (fun hb=>by rw[hb,hT0] at e;cases e) (r.br.keep c o e),r.br.len,r.br.nodup,r.br.new,fun i a bx h1 h2=>(r.br.at_ i a bx h1 h2).keepS hz hN ho hk (s.box _ (List.mem_of_getElem? h2)),fun a ha=>(r.br.plain a ha).at fun o e=>?_⟩,
  ⟨f.kind,f.globals,f.builtins,f.once,let ⟨m,e⟩:=f.ns;⟨m,nsS hz hN ho hk e⟩,f.nsW,fun x h1=>let ⟨c,v,h3,h4,h5⟩:=f.cell x h1;⟨c,v,h3,zob hz hN ho hk h4,h5⟩,f.apart,f.sub,f.new,f.notBox,
    fun a ha=>let ⟨o,h1,h2⟩:=f.stor a ha;⟨o,hk _ _ (fun hb=>hzB a hb ha) (fun hb=>hTB (hb ▸ ha)) h1,h2⟩,f.frB,fun a ha=>let ⟨m,e⟩:=f.frs a ha;⟨m,nsS hz hN ho hk e⟩,fun m e=>⟨nsS hz hN ho hk (f.pin m e).1,(f.pin m e).2⟩⟩,
  fun i x v h1 h2=>?_⟩
 ·refine hk a o (r.br.notItr hz (fun b o hb e=>e) ha) (fun hT=>?_) e
  obtain⟨o',e',hc⟩:=r.br.alive a ha
  obtain⟨x,y,ep⟩:=ho.pair
  have ep:h.get? T=_:=ep
  rw[← hT,e'] at ep;cases ep
  rcases hc with hc | hc <;> exact absurd hc (by simp)
 ·obtain⟨val,h3,h4⟩:=r.get i x v h1 h2
  refine⟨val,?_,h4.keepS hz hN ho hk (s.loc v (List.mem_of_getElem? h2))⟩
  rcases h3 with ⟨g1,m,g2,g3⟩ | ⟨g1,c,g2,g3⟩
  ·exact .inl ⟨g1,m,nsS hz hN ho hk g2,g3⟩
  ·exact .inr ⟨g1,c,g2,zob hz hN ho hk g3⟩
end
end Mine
end
section
namespace Mine
open PySem PyProof.Rows
theorem zhl{i n:Nat}(h:i < n):n+1 - (i+1) < n+1 - i:=by omega
noncomputable def zipT(xs ys:List PyData):List PyData:=List.zipWith (fun x y=>.tuple [x,y]) xs ys
noncomputable def SqK.mk:SqK→List PyData→PyData
 | .lst,xs=>.list xs
 | .tup,xs=>.tuple xs
noncomputable def sqOf:SqK→PyData→Option (List PyData)
 | .lst,.list xs=>some xs
 | .tup,.tuple xs=>some xs
 | _,_=>none
theorem zc0{q:SqK}{x:PyData}{xs:List PyData}(h:sqOf q x=some xs):x=q.mk xs:=by
 cases q <;> cases x <;> first | (cases h;rfl) | cases h
structure ZOk(Bd:List PyData→Prop)(q1 q2:SqK)(xs ys:List PyData):Prop where
 len:xs.length=ys.length
 sx:Shy Bd (q1.mk xs)
 sy:Shy Bd (q2.mk ys)
 non:Bd [.none,.none]
 bad:∀ (i:Nat) x y,xs[i]?=some x→ys[i]?=some y→Bd [x,y]
theorem Shy.of_sq{Bd:List PyData→Prop}{q:SqK}{xs:List PyData}(h:Shy Bd (q.mk xs)):∀ x∈xs,Shy Bd x:=by
 cases q with
 | lst=>exact Shy.of_list h
 | tup=>exact (Shy.of_tuple h).1
inductive SqV(q:SqK)(h:Heap)(N β:List Addr)(v:Value)(xs:List PyData):Prop
 | mk (a:Addr) (o:Obj) (vs:Array Value) (n:Nat) (hv:v=.ref a) (h1:h.get? a=some o) (h2:o.cls=.type q.cls) (h3:o.data=.seq vs n) (as:List Addr) (h4:ReadsAll h vs.toList xs as) (h5:∀ a∈as,a∉β∧a∉N)
theorem VR.sq_inv{G:Gl}{q:SqK}{h:Heap}{N β:List Addr}{v:Value}{xs:List PyData}(r:VR G N β h v (.d (q.mk xs))):SqV q h N β v xs:=by
 cases q with
 | tup=>obtain⟨a,o,vs,n,e,h1,h2,h3,as,h4,h5⟩:=VR.tuple_inv r;exact⟨a,o,vs,n,e,h1,h2,h3,as,h4,h5⟩
 | lst=>obtain⟨a,e,⟨o,vs,n,h1,h2,h3,as,h4,h5⟩,_⟩:=VR.list_inv r;exact⟨a,o,vs,n,e,h1,h2,h3,as,h4,h5⟩
noncomputable def xh(Bd:List PyData→Prop)(c:CT)(evb:Loc→za→R (Loc×za) Fl)(x:PyData)(ρ:Loc)(O:za):R (Loc×za) Fl:=@ite _ (ShyS Bd ρ O) (Classical.propDecidable _) (jv c evb x ρ O) .stuck
noncomputable def zkh(Bd:List PyData→Prop)(q1 q2:SqK)(c:CT)(evb:Loc→za→R (Loc×za) Fl)(o1 o2:Option (List PyData))(S:Loc×za):R (Loc×za) Fl:=match o1,o2 with
 | some xs,some ys=>@ite _ (ZOk Bd q1 q2 xs ys) (Classical.propDecidable _) (z6 (.plain (zipT xs ys)) (xh Bd c evb) (zipT xs ys) S.1 S.2) .stuck
 | _,_=>.stuck
noncomputable def zg1(Bd:List PyData→Prop)(q1 q2:SqK)(c:CT)(evb:Loc→za→R (Loc×za) Fl)(p:V×V)(S:Loc×za):R (Loc×za) Fl:=match p with
 | (.d x,.d y)=>zkh Bd q1 q2 c evb (sqOf q1 x) (sqOf q2 y) S
 | _=>.stuck
noncomputable def CS.forG(Bd:List PyData→Prop)(q1 q2:SqK)(t:CT)(a b:CE)(c:CSs):CS:=fun P ρ O=>if P.hd=true then .stuck else (((evE P ρ a O).bind fun v O=>(evE P ρ b O).bind fun u O=>.ok (v,u) O).lift ρ).bind (zg1 Bd q1 q2 t fun ρ O=>evSs P c ρ O)
variable{Bd:List PyData→Prop}{q1 q2:SqK}
theorem zkg{src:Src}{c:CT}{evb:Loc→za→R (Loc×za) Fl}{x:PyData}{xs:List PyData}{ρ:Loc}{O:za}{fl:Fl}{S:Loc×za}(h:z6 src (xh Bd c evb) (x::xs) ρ O=.ok fl S):ShyS Bd ρ O∧zlp src c evb x (z6 src (xh Bd c evb) xs) ρ O fl S:=by
 have h:(match xh Bd c evb x ρ O with
  | .ok (.ret v) S=>.ok (.ret v) S
  | .ok .next S=>if src.still S.2 then z6 src (xh Bd c evb) xs S.1 S.2 else .stuck
  | _=>.stuck)=R.ok fl S:=h
 by_cases hs:ShyS Bd ρ O
 ·rw[show xh Bd c evb x ρ O=jv c evb x ρ O from if_pos hs] at h
  exact⟨hs,zds h⟩
 ·rw[show xh Bd c evb x ρ O=.stuck from if_neg hs] at h
  cases h
section
variable{G:Gl}{F:Fm}{A:Around}{cx:Cx}{gval:Nat→Option PyData}{gname:Nat→Option Str}
inductive OwnV(G:Gl)(Bd:List PyData→Prop)(N β:List Addr)(h:Heap)(T:Addr):Prop
 | none (e:IsPair h T .none .none):OwnV G Bd N β h T
 | data (a b:Value) (e:IsPair h T a b) (x y:PyData) (r1:VR G N β h a (.d x)) (r2:VR G N β h b (.d y)) (s1:Shy Bd x) (s2:Shy Bd y) (hb:Bd [x,y]):OwnV G Bd N β h T
theorem OwnV.own{N β:List Addr}{h:Heap}{T:Addr}(o:OwnV G Bd N β h T):ZOwn Bd h T:=by
 cases o with
 | none e=>exact .none e
 | data a b e x y r1 r2 s1 s2 hb=>obtain⟨as,r1,_⟩:=r1;obtain⟨cs,r2,_⟩:=r2;exact .data a b e x y as cs r1 r2 s1 s2 hb
inductive TInv(G:Gl)(Bd:List PyData→Prop)(q1 q2:SqK)(F:Fm)(β₀:List Addr)(s₀:Shared)(z TI TO i1 i2 t l:Addr)(xs ys:List PyData)(go:List PyData→Loc→za→Prop)(k:Nat)(s:Shared):Prop
 | mk (i:Nat) (β:List Addr) (ρ:Loc) (O:za) (hk:k=xs.length+1 - i) (hi:i≤xs.length) (step:Step F.W β₀ s₀ s β) (sr:SR G F β ρ O s.heap) (Z:ZAt q1 q2 s.heap z TI TO i1 i2 t l i .none) (own:OwnV G Bd F.B β s.heap TO)
    (rt:VR G F.B β s.heap (.ref t) (.d (q1.mk xs))) (rl:VR G F.B β s.heap (.ref l) (.d (q2.mk ys))) (hgo:go ((zipT xs ys).drop i) ρ O)
theorem ZAt.at{h h':Heap}{z TI TO i1 i2 t l:Addr}{k:Nat}{f:Value}(Z:ZAt q1 q2 h z TI TO i1 i2 t l k f)(hk:∀ c∈[z,TI,i1,i2],∀ o,(∀ es n,o.data≠.dict es n)→h.get? c=some o→h'.get? c=some o):ZAt q1 q2 h' z TI TO i1 i2 t l k f:=by
 obtain⟨h1,h2,⟨o4,h4,c4,d4⟩,⟨o5,h5,c5,d5⟩⟩:=Z
 exact⟨hk z (by simp) _ (fun _ _ e=>nomatch e) h1,hk TI (by simp) _ (fun _ _ e=>nomatch e) h2,
  ⟨o4,hk i1 (by simp) _ (fun _ _ e=>by rw[d4] at e;cases e) h4,c4,d4⟩,⟨o5,hk i2 (by simp) _ (fun _ _ e=>by rw[d5] at e;cases e) h5,c5,d5⟩⟩
theorem ZAt.itr{h:Heap}{z TI TO i1 i2 t l:Addr}{k:Nat}{f:Value}(Z:ZAt q1 q2 h z TI TO i1 i2 t l k f):∀ c∈[z,i1,i2],Itr h c:=fun c hc=>by
 obtain⟨h1,h2,⟨o4,h4,c4,d4⟩,⟨o5,h5,c5,d5⟩⟩:=Z
 rcases List.mem_cons.mp hc with rfl | hc
 ·exact⟨_,_,_,h1,rfl,rfl⟩
 rcases List.mem_cons.mp hc with rfl | hc
 ·exact⟨o4,_,_,h4,c4,d4⟩
 ·rw[List.mem_singleton.mp hc];exact⟨o5,_,_,h5,c5,d5⟩
theorem BR.notTup{N β:List Addr}{O:za}{h:Heap}(b:BR G N β O h){c:Addr}{x y:Value}(e:IsPair h c x y):c∉β:=fun hc=>by
 obtain⟨o,e',hd⟩:=b.alive c hc
 have e:h.get? c=_:=e
 rw[e] at e';cases e'
 rcases hd with hd | hd <;> exact absurd hd (by simp)
theorem zqt{es:List Expr}{kt:Nat}{pt:Pos}{c:CT}{own:Str→Bool}{body:List Stmt}{evb:Loc→za→R (Loc×za) Fl}{xs ys:List PyData}(g:GOk G gval gname)(hh:A.handled=none)(fit:Fits F cx)(hown:∀ x,own x=true→F.own x=true)(hc:chkT cx own c (.Tuple es kt pt)=true)
 (hb:∀ s β ρ O,SR G F β ρ O s.heap→Does G F A s β (execs body F.env) (evb ρ O) (yv G F)) {s:Shared} {β:List Addr} {ρ:Loc} {O:za} {v u:Value} (sr:SR G F β ρ O s.heap) (rv:VR G F.B β s.heap v (.d (q1.mk xs))) (ru:VR G F.B β s.heap u (.d (q2.mk ys))) (ok:ZOk Bd q1 q2 xs ys)
 {fl:Fl} {S:Loc×za} (hgo:z6 (.plain (zipT xs ys)) (xh Bd c evb) (zipT xs ys) ρ O=.ok fl S) {Q:Flow→Shared→Prop} {E:Value→Shared→Prop}
 (kk:∀ s' β' f,Step F.W β s s' β'→SR G F β' S.1 S.2 s'.heap→yv G F β' s'.heap f fl→Q f s') :
 wpAny (model G.prog G.w) A (call (.type "zip") [v,u]) (fun z s₁=>wpAny (model G.prog G.w) A (pyIter z) (fun it s₂=>codeAny (model G.prog G.w) A (.forLoop (.Tuple es kt pt) it body [] F.env)
  (fun r s'=>match r with | .ok f=>Q f s' | .error e=>cameBackBy (model G.prog G.w) A F.env E e s') s₂) E s₁) E s:=by
 have rv₀:=rv
 have ru₀:=ru
 obtain⟨t,ot,vt,nt,rfl,t1,t2,t3,at',t4,t5⟩:=rv.sq_inv
 obtain⟨l,ol,vl,nl,rfl,l1,l2,l3,al,l4,l5⟩:=ru.sq_inv
 refine zlb (q1:=q1) (q2:=q2) ⟨ot,t1,t2,nt,t3⟩ ⟨ol,l1,l2,nl,l3⟩ fun h₁ z TI TO i1 i2 Z hTO D fresh kept=>wpAny_pyIter_zip Z.zip ?_
 clear t1 t2 t3 t4 t5 l1 l2 l3 l4 l5
 have f0:∀ c∈[z,TI,TO,i1,i2],G.h₀.get? c=none:=fun c hc=>by
  cases e:G.h₀.get? c with
  | none=>rfl
  | some o=>have:=sr.br.keep c o e;rw[fresh c hc] at this;cases this
 have fB:∀ c∈[z,TI,TO,i1,i2],c∉F.B:=fun c hc hB=>by
  obtain⟨o,e,_⟩:=sr.fm.stor c hB
  rw[fresh c hc] at e;cases e
 have m3:∀ c∈[z,i1,i2],c∈[z,TI,TO,i1,i2]:=fun c hc=>by
  simp only[List.mem_cons,List.not_mem_nil,or_false] at hc ⊢
  rcases hc with h | h | h <;> simp[h]
 have ka:KeepsAll s { s with heap:=h₁ }:=⟨rfl,rfl,kept⟩
 refine codeAny_forLoop_any (TInv G Bd q1 q2 F β s z TI TO i1 i2 t l xs ys fun zs ρ O=>z6 (.plain (zipT xs ys)) (xh Bd c evb) zs ρ O=.ok fl S) ?_ (xs.length+1) ⟨0,β,ρ,O,rfl,Nat.zero_le _,ka.step _ _,sr.keepAll kept,Z,.none hTO,rv₀.keepAll kept,ru₀.keepAll kept,hgo⟩
 clear hgo Z hTO ka rv₀ ru₀
 intro k s' hI
 obtain⟨i,β',ρ',O',rfl,hi,step,sr',Z,own,rt,rl,hgo⟩:=hI
 have hitr:=Z.itr
 have hlz:(zipT xs ys).length=xs.length:=by simp[zipT,ok.len]
 have rt':=rt
 have rl':=rl
 obtain⟨t',ot,vt,nt,e,t1,t2,t3,at',t4,t5⟩:=rt.sq_inv
 cases e
 obtain⟨l',ol,vl,nl,e,l1,l2,l3,al,l4,l5⟩:=rl.sq_inv
 cases e
 by_cases hlt:i < xs.length
 ·have hxi:xs[i]?=some xs[i]:=List.getElem?_eq_getElem hlt
  have hly:i < ys.length:=by rw[← ok.len];exact hlt
  have hyi:ys[i]?=some ys[i]:=List.getElem?_eq_getElem hly
  have hzi:(zipT xs ys).drop i=.tuple [xs[i],ys[i]]::(zipT xs ys).drop (i+1):=by
   rw[List.drop_eq_getElem_cons (by rw[hlz];exact hlt)]
   simp[zipT]
  rw[hzi] at hgo
  obtain⟨hshy,ρ'',f,S',hbt,he,hrest⟩:=zkg hgo
  have sx:Shy Bd xs[i]:=ok.sx.of_sq _ (List.mem_of_getElem? hxi)
  have sy:Shy Bd ys[i]:=ok.sy.of_sq _ (List.mem_of_getElem? hyi)
  have hbd:Bd [xs[i],ys[i]]:=ok.bad i _ _ hxi hyi
  have hN:=ok.non
  generalize xs[i]=x at hxi hbt sx hzi hbd
  generalize ys[i]=y at hyi hbt sy hzi hbd
  obtain⟨vx,bx,x1,x2,x3⟩:=zo t4 t5 hxi
  obtain⟨vy,by',y1,y2,y3⟩:=zo l4 l5 hyi
  rw[Array.getElem?_toList] at x1 y1
  obtain⟨ta,tb,hTO⟩:=own.own.pair
  refine zis D Z hTO ⟨ot,t1,t2,nt,t3⟩ ⟨ol,l1,l2,nl,l3⟩ x1 y1 fun h₂ Z₂ hTO₂ hT hk₂=>?_
  have zlt:s'.heap.objs.size≠z:=Nat.ne_of_gt (Heap.lt_size Z.zip)
  refine wpAny_letOwnedTupleGo_zip (s:={ s' with heap:=h₂ }) Z₂.zip fun h₃ hz₃ hs₃=>?_
  have hk₃:∀ b o,b∉[z,i1,i2]→b≠TO→s'.heap.get? b=some o→h₃.get? b=some o:=fun b o hb hbT e=>by
   simp only[List.mem_cons,List.not_mem_nil,or_false,not_or] at hb
   exact hs₃.extBut _ _ hb.1 (hk₂ b o hb.1 hbT hb.2.1 hb.2.2 e)
  have Z₃:ZAt q1 q2 h₃ z TI TO i1 i2 t l (i+1) .none:=by
   obtain⟨_,q2,⟨o4,q4,r4⟩,q5⟩:=Z₂
   exact⟨hz₃,hs₃.extBut _ _ D.TIz q2,⟨o4,hs₃.extBut _ _ D.i1z q4,r4⟩,q5.ext hs₃.extBut D.i2z⟩
  have hTO₃:IsPair h₃ TO vx vy:=hs₃.extBut _ _ D.TOz hTO₂
  have sr₃:SR G F β' ρ' O' h₃:=sr'.keepS hitr hN own.own hk₃ (fun c hc=>f0 c (m3 c hc)) (f0 TO (by simp)) (fun c hc=>fB c (m3 c hc)) (fB TO (by simp)) hshy
  have rx:VR G F.B β' h₃ vx (.d x):=VR.keepS hitr hN own.own hk₃ (x:=.d x) ⟨bx,x2,x3⟩ sx
  have ry:VR G F.B β' h₃ vy (.d y):=VR.keepS hitr hN own.own hk₃ (x:=.d y) ⟨by',y2,y3⟩ sy
  have rt₃:=rt'.keepS hitr hN own.own hk₃ ok.sx
  have rl₃:=rl'.keepS hitr hN own.own hk₃ ok.sy
  have rp:VR G F.B β' h₃ (.ref s'.heap.objs.size) (.d (.tuple [x,y])):=by
   obtain⟨as,r1,q1⟩:=id rx
   obtain⟨bs,r2,q2⟩:=id ry
   exact⟨_,.tuple (hs₃.extBut _ _ zlt hT) rfl rfl (.cons r1 (.cons r2 .nil)),fun a ha=>by
    rw[List.append_nil] at ha
    exact (List.mem_append.mp ha).elim (q1 a) (q2 a)⟩
  have step₃:Step F.W β s { s' with heap:=h₃ } β':=step.thenZ (Z:=[z,TI,TO,i1,i2]) ⟨rfl,rfl,fun b o hb e=>hk₃ b o (fun h=>hb (m3 b h)) (fun h=>hb (by simp[h])) e⟩ fresh
  have da:=xu (A:=A) (s:={ s' with heap:=h₃ }) hh fit hown c hc sr₃ rp
  unfold bindR at da
  dsimp only at da
  rw[hbt] at da
  dsimp only at da
  refine da _ _ fun s₄ β₄ _ st₄ sr₄ _=>?_
  have db:=hb s₄ β₄ ρ'' O' sr₄
  rw[he] at db
  refine db _ _ fun s₅ β₅ f' st₅ sr₅ rf=>?_
  have st:=st₄.trans st₅
  have step₅:=step₃.trans st
  cases hrest with
  | ret w e=>
    subst e
    obtain⟨val,rfl,rv'⟩:=rf
    exact kk s₅ β₅ (.ret val) step₅ sr₅ ⟨val,rfl,rv'⟩
  | next _ hst hgo=>
    have rf:f'=.next:=rf
    subst rf
    have nW:∀ c∈[z,TI,TO,i1,i2],c∉F.W:=fun c hc hW=>fB c hc (sr.fm.sub c hW)
    refine⟨xs.length+1 - (i+1),zhl hlt,i+1,β₅,S'.1,S'.2,rfl,hlt,step₅,sr₅,Z₃.at fun c hc o hd e=>st.keptE e ?_ (nW c ?_) hd,.data vx vy ?_ x y (rx.step sr₃.br sr₃.fm st) (ry.step sr₃.br sr₃.fm st) sx sy hbd,rt₃.step sr₃.br sr₃.fm st,rl₃.step sr₃.br sr₃.fm st,hgo⟩
    ·simp only[List.mem_cons,List.not_mem_nil,or_false] at hc
     rcases hc with rfl | rfl | rfl | rfl
     ·exact uz sr₃.br Z₃.itr _ (by simp)
     ·exact sr₃.br.notTup Z₃.ti
     ·exact uz sr₃.br Z₃.itr _ (by simp)
     ·exact uz sr₃.br Z₃.itr _ (by simp)
    ·simp only[List.mem_cons,List.not_mem_nil,or_false] at hc ⊢
     rcases hc with h | h | h | h <;> simp[h]
    ·exact st.keptE hTO₃ (sr₃.br.notTup hTO₃) (nW TO (by simp)) fun _ _ e=>nomatch e
 ·have hie:i=xs.length:=by omega
  have hd:(zipT xs ys).drop i=[]:=by rw[List.drop_eq_nil_iff,hlz,hie];exact Nat.le_refl _
  rw[hd] at hgo
  have hgo:Mine.R.ok Fl.next (ρ',O')=Mine.R.ok fl S:=hgo
  cases hgo
  have hnone:vt[i]?=none:=by
   rw[← Array.getElem?_toList,List.getElem?_eq_none]
   rw[zd t4,hie];exact Nat.le_refl _
  refine zlq hh D Z ⟨ot,t1,t2,nt,t3⟩ hnone fun h' hk=>?_
  have kz:KeepsZ [z,i1] s' { s' with heap:=h' }:=⟨rfl,rfl,fun b o hb e=>by
   rw[List.mem_cons,List.mem_singleton,not_or] at hb
   exact hk b o hb.1 hb.2 e⟩
  have m2:∀ c∈[z,i1],c∈[z,i1,i2]:=fun c hc=>by
   simp only[List.mem_cons,List.not_mem_nil,or_false] at hc ⊢
   rcases hc with h | h <;> simp[h]
  exact wpAny_execs_nil (kk _ β' .next (step.thenZ kz fun c hc=>fresh c (m3 c (m2 c hc))) (sr'.keepZ (fun c hc=>hitr c (m2 c hc)) kz.kept g.clsRef (fun c hc=>f0 c (m3 c (m2 c hc))) fun c hc=>fB c (m3 c (m2 c hc))) rfl)
end
set_option tactic.hygienic true in
theorem zo3{cx:Cx}{x y:Expr}{a b:CE}{c:CSs}{t:CT}{body:List Stmt}{es:List Expr}{pt ps q pos:Pos}{kt:Nat}(h1:JE cx x a)(h2:JE cx y b)(hb:JSs cx body c)(hx:cx.isGlob "zip" = true)(hc:chkT cx (ownOf cx.sc) t (.Tuple es kt pt)=true) :
 JS cx (.For (.Tuple es kt pt) (.Call (.Name "zip" ps) [x,y] [] q) body [] pos) (.forG Bd q1 q2 t a b c):=⟨fun {G A P F s β ρ O} hr sr=>by
 show Does G F A s β _ (if P.hd=true then .stuck else _:R (Loc×za) Fl) _
 by_cases hd:P.hd=true
 ·rw[if_pos hd];trivial
 rw[if_neg hd]
 have hh:=hr.run.hm (Bool.eq_false_iff.mpr hd)
 obtain ⟨b1,b2⟩:=hr.run.g.bi ("zip",.type "zip") (by decide)
 let evb:Loc→za→R (Loc×za) Fl:=fun ρ O=>evSs P c ρ O
 have e1:(((evE P ρ a O).bind fun v O=>(evE P ρ b O).bind fun u O=>R.ok (v,u) O).lift ρ).bind (zg1 Bd q1 q2 t evb)=((evE P ρ a O).lift ρ).bind fun v S=>((evE P ρ b S.2).lift ρ).bind fun u S'=>zg1 Bd q1 q2 t evb (v,u) (ρ,S'.2):=by
  cases evE P ρ a O with
  | ok v O'=>
    show (((evE P ρ b O').bind fun u O=>R.ok (v,u) O).lift ρ).bind _=((evE P ρ b O').lift ρ).bind _
    cases evE P ρ b O' <;> rfl
  | stuck=>rfl
 rw[e1]
 let tail:Value→Value→WT Flow:=fun v u Q E s=>wpAny (model G.prog G.w) A (call (.type "zip") [v,u]) (fun z s₁=>wpAny (model G.prog G.w) A (pyIter z) (fun it s₂=>codeAny (model G.prog G.w) A (.forLoop (.Tuple es kt pt) it body [] F.env)
  (fun r s'=>match r with | .ok f=>Q f s' | .error e=>cameBackBy (model G.prog G.w) A F.env E e s') s₂) E s₁) E s
 refine DoesW.seq (T₂:=fun v Q E s=>wpAny (model G.prog G.w) A (eval y F.env) (fun u s₁=>tail v u Q E s₁) E s) (fun Q E h=>?_) (h1.d hr.toHere sr) fun s₁ β₁ v d S e st sr₁ rv=>?_
 ·exact wpAny_For (Call_Name rfl (ym hr.run.g sr hr.fit hx b1 b2 (callWith_type1 (spliced_more (wpAny_mono h (fun v s₁ h₁=>spliced_more (wpAny_mono h₁ (fun u s₂ h₂=>spliced_none h₂) fun _ _ x=>x) h2.px.star) fun _ _ x=>x) h1.px.star) h1.px.star (by rw[h2.px.star];rfl)))) fun v=>rfl
 ·have hS:S=(ρ,S.2):=by
   cases hv:evE P ρ a O with
   | ok _ _=>rw[hv] at e;cases e;rfl
   | stuck=>rw[hv] at e;cases e
  rw[hS] at sr₁
  refine DoesW.seq (T₁:=tr G A (eval y F.env)) (T₂:=fun u=>tail v u) (fun Q E h=>h) (h2.d hr.toHere sr₁) fun s₂ β₂ u d₂ S₂ e₂ st₂ sr₂ ru=>?_
  have hS₂:S₂.1=ρ:=by
   cases hv:evE P ρ b S.2 with
   | ok _ _=>rw[hv] at e₂;cases e₂;rfl
   | stuck=>rw[hv] at e₂;cases e₂
  rw[hS₂] at sr₂
  have rv₂:=rv.step sr₁.br sr₁.fm st₂
  clear rv e e₂
  cases d <;> first | trivial | skip
  rename_i dx
  cases d₂ <;> first | trivial | skip
  rename_i dy
  show DoesW G F s₂ β₂ _ (zkh Bd q1 q2 t evb (sqOf q1 dx) (sqOf q2 dy) (ρ,S₂.2)) _
  cases hx':sqOf q1 dx with
  | none=>trivial
  | some xs=>
    cases hy':sqOf q2 dy with
    | none=>trivial
    | some ys=>
      rw[zc0 hx'] at rv₂
      rw[zc0 hy'] at ru
      show DoesW G F s₂ β₂ _ (@ite _ (ZOk Bd q1 q2 xs ys) (Classical.propDecidable _) (z6 (.plain (zipT xs ys)) (xh Bd t evb) (zipT xs ys) ρ S₂.2) .stuck) _
      by_cases ok:ZOk Bd q1 q2 xs ys
      ·rw[if_pos ok]
       cases hgo:z6 (.plain (zipT xs ys)) (xh Bd t evb) (zipT xs ys) ρ S₂.2 with
       | stuck=>trivial
       | ok fl S'=>exact fun Q E kk=>zqt hr.run.g hh hr.fit hr.own hc (fun s' β' ρ' O' sr'=>hb.d hr sr') sr₂ rv₂ ru ok hgo kk
      ·rw[if_neg ok];trivial⟩
end Mine
end
section
namespace Mine
open PySem PyProof.Rows PySem.W
section
variable{prog:Program}{w:World}
theorem zj7{vs:List Value}{is:List Int}(h:IntsAre vs is):ItemsAre (intKind prog w) is vs:=by
 induction h with
 | nil=>exact .nil
 | cons i t _ ih=>exact .cons (by show Value.isInt i (.int i t)=true;unfold Value.isInt;exact decide_eq_true rfl) ih
theorem ziz{h:Heap}{vs:List Value}{xs:List PyData}{as:List Addr}(r:ReadsAll h vs xs as):∀ {kss:List (List Int)},ja xs=some kss→vs.length=kss.length∧∀ (i:Nat) v,vs[i]?=some v→∃ b ks,kss[i]?=some ks∧v=.ref b∧TK (prog:=prog) (w:=w) h ks b:=by
 refine ya (motive:=fun vs xs _=>∀ {kss:List (List Int)},ja xs=some kss→vs.length=kss.length∧∀ (i:Nat) v,vs[i]?=some v→∃ b ks,kss[i]?=some ks∧v=.ref b∧TK (prog:=prog) (w:=w) h ks b) ?_ ?_ r
 ·intro kss e;cases e;exact⟨rfl,fun i v h=>by rw[List.getElem?_nil] at h;cases h⟩
 ·intro v d as vs ds bs r _ ih kss e
  obtain⟨p,hx,e⟩:=Option.bind_eq_some_iff.mp e
  obtain⟨q,hr,rfl⟩:=Option.map_eq_some_iff.mp e
  obtain⟨l,k⟩:=ih hr
  refine⟨congrArg (· + 1) l,fun i u h=>?_⟩
  cases i with
  | succ i=>exact k i u h
  | zero=>
    have h:some v=some u:=h
    cases h
    have hx:zar d=some p:=hx
    obtain⟨b,rfl,o,n,us,g1,g2,g3,g4,_⟩:=zbs r hx
    exact⟨b,p,rfl,rfl,o,us,n,g1,g2,g3,zj7 g4⟩
end
noncomputable def gu(x:PyData):Option PyData:=ofList (fun xs=>(ja xs).bind fun kss=>if kss.length≤17 then some (.int (yo kss kss.length).length) else none) x
noncomputable def CE.lenS(a:CE):CE:=fun P ρ O=>if P.hd=true then .stuck else (evE P ρ a O).bind fun v O=>opt (((look O v).bind gu).map .d) O
section
variable{G:Gl}{F:Fm}{A:Around}{s:Shared}{β:List Addr}{ρ:Loc}{O:za}{cx:Cx}{gval:Nat→Option PyData}{gname:Nat→Option Str}
theorem zpo{v:Value}{d:V}{x y:PyData}{k:Nat}(ro:Room A k)(hh:A.handled=none)(sr:SR G F β ρ O s.heap)(rv:VR G F.B β s.heap v d)(hx:look O d=some x)(hy:gu x=some y) :
 DoesW G F s β (fun Q E s=>wpAny (model G.prog G.w) A (call (.type "set") [v]) (fun S s₁=>wpAny (model G.prog G.w) A (call (.builtin "len") [S]) Q E s₁) E s) (.ok (V.d y) (ρ,O)) (VRel G F):=by
 obtain⟨xs,rfl,h⟩:=vp (f:=fun xs=>(ja xs).bind fun kss=>if kss.length≤17 then some (.int (yo kss kss.length).length) else none) hy
 obtain⟨kss,h1,h⟩:=Option.bind_eq_some_iff.mp h
 obtain⟨h17,rfl⟩:=yz h
 obtain⟨a,rfl,o,vs,n,e1,e2,e3,as,r,q⟩:=yb sr rv hx
 obtain⟨l,hk⟩:=ziz (prog:=G.prog) (w:=G.w) r h1
 have hu:=ro.c (n:=200)
 refine Does.leaf sr fun Q E kk=>zam hh (by omega) ⟨o,e1,e2,n,e3⟩ (by rw[← Array.length_toList];exact l) (fun i v hv=>hk i v (by rw[← hv];exact Array.getElem?_toList)) h17 fun h' tk hS hkeep=>?_
 obtain⟨o',ep,t,m,L,ho,hex,hd,ht,hr,hre,hlen,hnd,hent,hmem,hm⟩:=hS
 have hsz:(elems L).size=(yo kss kss.length).length:=by rw[← hlen];unfold elems;rw[List.size_toArray,List.length_map]
 have hle:=wy kss kss.length
 have hfit:t.fits (elems L).size=true:=by
  simp only[SetTable.fits,SetTable.fill,ht.place,ht.dummies,ht.mask,places,elems,Bool.and_eq_true,beq_iff_eq,decide_eq_true_eq]
  constructor
  ·simp
  ·simp;omega
 refine call_len_set (s:={ s with heap:=h',toks:=tk }) ho hex hd hfit (by rw[hsz];omega) ?_
 rw[hsz]
 exact kk _ _ ⟨rfl,rfl,hkeep⟩ VR.int
theorem zpv{y:Expr}{a:CE}{ps pz q q':Pos}(h:JE cx y a)(hg:(cx.isGlob "len" && cx.isGlob "set")=true):JE cx (.Call (.Name "len" ps) [.Call (.Name "set" pz) [y] [] q'] [] q) (.lenS a):=
 ⟨rfl,fun {G A P F s β ρ O} hr sr=>by
   obtain⟨hx,hz⟩:=and2 hg
   show Does G F A s β _ (R.lift ρ (if P.hd=true then .stuck else _:R za V)) _
   by_cases hd:P.hd=true
   ·rw[if_pos hd];trivial
   rw[if_neg hd]
   have hh:=hr.run.hm (Bool.eq_false_iff.mpr hd)
   obtain ⟨b1,b2⟩:=hr.run.g.bi ("len",.builtin "len") (by decide)
   obtain ⟨c1,c2⟩:=hr.run.g.bi ("set",.type "set") (by decide)
   have hne:starEach [Expr.Call (.Name "set" pz) [y] [] q'] F.env=(false,eval (.Call (.Name "set" pz) [y] [] q') F.env)::starEach [] F.env:=rfl
   refine DoesW.seqE (T₂:=fun v Q E s=>wpAny (model G.prog G.w) A (call (.type "set") [v]) (fun S s₁=>wpAny (model G.prog G.w) A (call (.builtin "len") [S]) Q E s₁) E s)
    (fun Q E h'=>?_) (h.d hr sr) fun s' β' val v O' _ st sr' rv=>?_
   ·exact Call_Name rfl (ym hr.run.g sr hr.fit hx b1 b2 (callWith_builtin1 (spliced_more (wpAny_mono (Call_Name rfl (ym hr.run.g sr hr.fit hz c1 c2 (callWith_type1 (spliced_more (wpAny_mono h' (fun v s₁ h₁=>spliced_none h₁) (fun _ _ x=>x)) h.px.star) h.px.star rfl))) (fun v s₁ h₁=>spliced_none h₁) (fun _ _ x=>x)) hne) hne rfl))
   ·cases hl:(look O' v).bind gu with
    | none=>trivial
    | some y=>
      obtain⟨x,h1,h2⟩:=Option.bind_eq_some_iff.mp hl
      exact zpo hr.run.ro hh sr' rv h1 h2⟩
end
end Mine
end
section
namespace Mine
open PySem PyProof.Rows
theorem zb7:∀ (r:List Int) (a:Int),(r.foldl max a=a∨r.foldl max a∈r)∧a≤r.foldl max a∧∀ b∈r,b≤r.foldl max a
 | [],a=>⟨.inl rfl,Int.le_refl _,fun _ h=>nomatch h⟩
 | c::r,a=>by
   obtain⟨h1,h2,h3⟩:=zb7 r (max a c)
   rw[List.foldl_cons]
   refine⟨?_,Int.le_trans (Int.le_max_left a c) h2,fun b hb=>?_⟩
   ·rcases h1 with h1 | h1
    ·rw[h1]
     rcases Int.le_total a c with h | h
     ·rw[Int.max_eq_right h];exact .inr (.head _)
     ·rw[Int.max_eq_left h];exact .inl rfl
    ·exact .inr (.tail _ h1)
   ·rcases List.mem_cons.mp hb with rfl | hb
    ·exact Int.le_trans (Int.le_max_right a b) h2
    ·exact h3 b hb
theorem zjm{is:List Int}{M N:Int}(h:maxI is=some M)(h1:N∈is)(h2:∀ a∈is,a≤N):N=M:=by
 cases is with
 | nil=>cases h
 | cons a r=>
   cases h
   obtain⟨g1,g2,g3⟩:=zb7 r a
   refine Int.le_antisymm ?_ (h2 _ ?_)
   ·rcases List.mem_cons.mp h1 with rfl | h1
    ·exact g2
    ·exact g3 _ h1
   ·rcases g1 with g1 | g1
    ·rw[g1];exact .head _
    ·exact .tail _ g1
noncomputable def gs(xs:List PyData):Option PyData:=(intsOf xs).bind fun is=>(maxI is).map .int
noncomputable def CE.maxL(a:CE):CE:=fun P ρ O=>if P.hd=true then .stuck else (evE P ρ a O).bind fun v O=>opt (((look O v).bind (ofList gs)).map .d) O
section
variable{G:Gl}{F:Fm}{A:Around}{s:Shared}{β:List Addr}{ρ:Loc}{O:za}
theorem zsv{v:Value}{d:V}(hh:A.handled=none)(sr:SR G F β ρ O s.heap)(rv:VR G F.B β s.heap v d) :
 Does G F A s β (call (.builtin "max") [v]) ((opt (((look O d).bind (ofList gs)).map V.d) O).lift ρ) (VRel G F):=by
 cases hl:(look O d).bind (ofList gs) with
 | none=>trivial
 | some y=>
   obtain⟨x,h1,h2⟩:=Option.bind_eq_some_iff.mp hl
   obtain⟨xs,rfl,h⟩:=vp h2
   obtain⟨is,h3,h⟩:=Option.bind_eq_some_iff.mp h
   obtain⟨M,h4,rfl⟩:=Option.map_eq_some_iff.mp h
   obtain⟨a,rfl,o,vs,n,e1,e2,e3,as,r,q⟩:=yb sr rv h1
   have hi:=ints_get r h3
   obtain⟨ys,rfl⟩:=AllInts.items (vs:=vs) hi.allInts
   have hn:ys.toList.map (·.1)=is:=by rw[← nums_intItems,hi.numsOf]
   have hp:0 < ys.size:=by
    rw[← Array.length_toList,← List.length_map (f:=(·.1)),hn]
    cases is with
    | nil=>cases h4
    | cons _ _=>exact Nat.succ_pos _
   refine Does.leaf sr fun Q E k=>max_intList hh ⟨o,e1,e2,n,e3⟩ hp fun v h' tk hv hk=>?_
   obtain⟨t,rfl⟩:=intItems_at hv
   obtain⟨g1,g2⟩:=argBest_gt (numAt ys) (ys.size - 1)
   have hl:is.length=ys.size:=by rw[← hn,List.length_map,Array.length_toList]
   have hM:numAt ys (argBest (fun i j=>decide (numAt ys i > numAt ys j)) (ys.size - 1))=M:=zjm h4 (by rw[numAt_eq,hn];exact getD_mem (by omega)) fun b hb=>by
    obtain⟨j,hj,rfl⟩:=mem_getD hb
    rw[← hn,← numAt_eq];exact g2 j (by omega)
   rw[hM]
   exact k _ _ (xe hk) VR.int
end
theorem zpu{cx:Cx}{x:Expr}{a:CE}{q ps:Pos}(h1:JE cx x a)(hg:cx.isGlob "max" = true):JE cx (.Call (.Name "max" ps) [x] [] q) (.maxL a):=
 ⟨rfl,fun {G A P F s β ρ O} hr sr=>by
   show Does G F A s β _ (R.lift ρ (if P.hd=true then .stuck else _:R za V)) _
   by_cases hd:P.hd=true
   ·rw[if_pos hd];trivial
   rw[if_neg hd]
   exact znm (fv:=.builtin "max") hr.run.g sr hr.fit hg (by decide) (.inl ⟨_,rfl⟩) h1.px.star (h1.d hr sr) fun s' β' v d O' sr' rv=>zsv (hr.run.hm (Bool.eq_false_iff.mpr hd)) sr' rv⟩
section
variable{G:Gl}{F:Fm}{A:Around}{s:Shared}{β:List Addr}{ρ:Loc}{O:za}{cx:Cx}
end
noncomputable def zrt(f:List PyData→Option PyData):PyData→Option PyData
 | .tuple xs=>f xs
 | _=>none
noncomputable def zl4(xs:List PyData)(lo hi:PyData):Option PyData:=if xs.length≤line then (clip xs.length 0 lo).bind fun l=>(clip xs.length xs.length hi).map fun h=>.tuple (vi xs l h) else none
noncomputable def zs8(v l h:V)(O:za):R za V:=match l with
 | .d l=>(match h with
    | .d h=>opt (((look O v).bind (zrt fun xs=>zl4 xs l h)).map .d) O
    | _=>.stuck)
 | _=>.stuck
section
variable{G:Gl}{F:Fm}{A:Around}{s:Shared}{β:List Addr}{ρ:Loc}{O:za}
end
section
variable{cx:Cx}{x y:Expr}{a b c:CE}{p q ps:Pos}
end
noncomputable def zlh(i j k:Nat)(v:V)(S:Loc×za):R (Loc×za) Fl:=match v with
 | .d (.tuple [x,y,z])=>if i < S.1.length∧j < S.1.length∧k < S.1.length then .ok .next (((S.1.set i (some (.d x))).set j (some (.d y))).set k (some (.d z)),S.2) else .stuck
 | _=>.stuck
noncomputable def CS.asg3(i j k:Nat)(e:CE):CS:=fun P ρ O=>if P.hd=true then .stuck else ((evE P ρ e O).lift ρ).bind (zlh i j k)
theorem zry{α:Type}{l:List α}{a b c:α}(hl:l.length=3)(h0:l[0]?=some a)(h1:l[1]?=some b)(h2:l[2]?=some c):l=[a,b,c]:=by
 cases l with
 | nil=>cases h0
 | cons x l=>
   cases l with
   | nil=>cases h1
   | cons y l=>
     cases l with
     | nil=>cases h2
     | cons z l=>
       rw[List.eq_nil_of_length_eq_zero (Nat.succ.inj (Nat.succ.inj (Nat.succ.inj hl))),Option.some.inj h0,Option.some.inj h1,Option.some.inj h2]
inductive R3(h:Heap)(P:Addr→Prop)(vs:List Value)(x y z:PyData):Prop
 | mk (v1 v2 v3:Value) (b1 b2 b3:List Addr) (hv:vs=[v1,v2,v3]) (r1:Reads h v1 x b1) (q1:∀ a∈b1,P a) (r2:Reads h v2 y b2) (q2:∀ a∈b2,P a) (r3:Reads h v3 z b3) (q3:∀ a∈b3,P a)
theorem gh{h:Heap}{P:Addr→Prop}{vs:List Value}{x y z:PyData}{as:List Addr}(r:ReadsAll h vs [x,y,z] as)(q:∀ a∈as,P a):R3 h P vs x y z:=by
 obtain⟨v1,b1,e1,r1,q1⟩:=zo r q (i:=0) rfl
 obtain⟨v2,b2,e2,r2,q2⟩:=zo r q (i:=1) rfl
 obtain⟨v3,b3,e3,r3,q3⟩:=zo r q (i:=2) rfl
 refine⟨v1,v2,v3,b1,b2,b3,?_,r1,q1,r2,q2,r3,q3⟩
 exact zry (zd r) e1 e2 e3
set_option tactic.hygienic true in
theorem zo8{cx:Cx}{x:Expr}{a:CE}{p ps pa pb pc:Pos}{kt i j k:Nat}{na nb nc:Str}(h:JE cx x a)(hx:(chkT cx (ownOf cx.sc) (.name i) (.Name na pa) && chkT cx (ownOf cx.sc) (.name j) (.Name nb pb) && chkT cx (ownOf cx.sc) (.name k) (.Name nc pc) && unpX x)=true) :
 JS cx (.Assign [.Tuple [.Name na pa,.Name nb pb,.Name nc pc] kt ps] x p) (.asg3 i j k a):=⟨fun {G A P F s β ρ O} hr sr=>by
 obtain⟨hx,h2⟩:=and2 hx
 obtain⟨ha,hb,hc⟩:=and3 hx
 show Does G F A s β _ (if P.hd=true then .stuck else _:R (Loc×za) Fl) _
 by_cases hd:P.hd=true
 ·rw[if_pos hd];trivial
 rw[if_neg hd]
 have e:=zcw (l:=[.Name na pa,.Name nb pb,.Name nc pc]) (k:=kt) (n:=p.line) (ps:=ps) (env:=F.env) h2
 have hh:=hr.run.hm (Bool.eq_false_iff.mpr hd)
 refine DoesW.seq (T₂:=fun v Q E s'=>wpAny (model G.prog G.w) A (assign (.Tuple [.Name na pa,.Name nb pb,.Name nc pc] kt ps) F.env v) (fun _=>Q .next) E s') (fun Q E h=>Assign_Tuple h e.1 e.2) (h.d hr.toHere sr) fun s' β' v d S e st sr rv=>?_
 cases d <;> first | trivial | skip
 rename_i z
 cases z <;> first | trivial | skip
 rename_i l
 match l,rv with
 | [y1,y2,y3],rv=>
   by_cases hl:i < S.1.length∧j < S.1.length∧k < S.1.length
   ·show DoesW G F s' β' _ (if i < S.1.length∧j < S.1.length∧k < S.1.length then _ else _) _
    rw[if_pos hl]
    intro Q E kk
    obtain⟨a,o,vs,n,rfl,g1,g2,g3,as,r,q⟩:=rv.tuple_inv
    obtain⟨v1,v2,v3,b1,b2,b3,hvs,r1,q1,r2,q2,r3,q3⟩:=gh r q
    have hsz:vs.size=3:=by rw[← Array.length_toList,hvs];rfl
    refine v4 (M:=model G.prog G.w) hh g1 (.inl g2) g3 (by rw[hsz];rfl) rfl fun s₁ ka=>?_
    show wpAny _ A (assignInOrder [assign (.Name na pa) F.env,assign (.Name nb pb) F.env,assign (.Name nc pc) F.env] vs.toList) _ _ s₁
    rw[hvs]
    have da:=xu (A:=A) hh hr.fit hr.own (.name i) ha (sr.keepAll ka.kept) (v:=v1) (d:=.d y1) ⟨b1,z5 ka.kept r1,q1⟩
    unfold bindR zp at da
    dsimp only at da
    rw[if_pos hl.1] at da
    refine assignInOrder_cons (da _ _ fun s₂ β₂ _ st₂ sr₂ _=>?_)
    have db:=xu (A:=A) hh hr.fit hr.own (.name j) hb sr₂ (v:=v2) (d:=.d y2) (VR.step (sr.keepAll ka.kept).br (sr.keepAll ka.kept).fm st₂ ⟨b2,z5 ka.kept r2,q2⟩)
    unfold bindR zp at db
    dsimp only at db
    rw[if_pos (by rw[List.length_set];exact hl.2.1)] at db
    refine assignInOrder_cons (db _ _ fun s₃ β₃ _ st₃ sr₃ _=>?_)
    have dc:=xu (A:=A) hh hr.fit hr.own (.name k) hc sr₃ (v:=v3) (d:=.d y3) (VR.step (sr.keepAll ka.kept).br (sr.keepAll ka.kept).fm (st₂.trans st₃) ⟨b3,z5 ka.kept r3,q3⟩)
    unfold bindR zp at dc
    dsimp only at dc
    rw[if_pos (by rw[List.length_set,List.length_set];exact hl.2.2)] at dc
    refine assignInOrder_cons (dc _ _ fun s₄ β₄ _ st₄ sr₄ _=>?_)
    exact assignInOrder_nil (kk s₄ β₄ .next ((ka.step _ _).trans ((st₂.trans st₃).trans st₄)) sr₄ rfl)
   ·show DoesW G F s' β' _ (if i < S.1.length∧j < S.1.length∧k < S.1.length then _ else _) _
    rw[if_neg hl];trivial
 | [],_=>trivial
 | [_],_=>trivial
 | [_,_],_=>trivial
 | _::_::_::_::_,_=>trivial⟩
section
variable{G:Gl}{F:Fm}{A:Around}{s:Shared}{β:List Addr}{ρ:Loc}{O:za}
end
theorem zhk{cx:Cx}{x y:Expr}{a b:CE}{p:Pos}(h1:JE cx x a)(h2:JE cx y b):JT cx (.Compare x [.NotIn] [y] p) (.notinM a b):=⟨fun {G A P F s β ρ O} hr sr=>by
 have e:tv (evE P ρ (.notinM a b) O)=(evE P ρ a O).bind fun v O=>(evE P ρ b O).bind fun u O=>(Mine.notinM v u O).bind fun c O=>opt (truth c) O:=by
  show tv ((evE P ρ a O).bind fun v O=>(evE P ρ b O).bind fun u O=>Mine.notinM v u O)=_
  cases evE P ρ a O with
  | ok v O=>show R.bind (R.bind (evE P ρ b O) _) _=R.bind (evE P ρ b O) _;cases evE P ρ b O <;> rfl
  | stuck=>rfl
 rw[e]
 refine DoesW.seqE (T₂:=fun a Q E s₁=>wpAny (model G.prog G.w) A (eval y F.env) (fun b s₂=>wpAny (model G.prog G.w) A (compareOp .NotIn a b) (fun c s₃=>wpAny (model G.prog G.w) A (truthy c) Q E s₃) E s₂) E s₁) (fun Q E h=>wpAny_isTrue_Compare1 h (xj h2.px.set .NotIn)) (h1.d hr sr) fun s' β' v d O' e st sr rv=>?_
 refine DoesW.seqE (T₁:=tr G A (eval y F.env)) (T₂:=fun b Q E s₂=>wpAny (model G.prog G.w) A (compareOp .NotIn v b) (fun c s₃=>wpAny (model G.prog G.w) A (truthy c) Q E s₃) E s₂) (fun Q E h=>h) (h2.d hr sr) fun s₂ β₂ u d₂ O₂ e₂ st₂ sr₂ ru=>?_
 refine DoesW.seqE (T₁:=tr G A (compareOp .NotIn v u)) (T₂:=fun c=>tr G A (truthy c)) (fun Q E h=>h) (zk5 hr.run.ro sr₂ (rv.step sr.br sr.fm st₂) ru) fun s₃ β₃ c d₃ O₃ e₃ st₃ sr₃ rc=>?_
 exact jf sr₃ rc⟩
noncomputable def badP(xs:List PyData):Prop:=xs=[.none,.none]∨∃ a l,xs=[a,.list l]
noncomputable def badF(xs:List PyData):Prop:=xs=[.none,.none]∨∃ l a,xs=[.list l,a]
end Mine
end
section
namespace Mine.L09
open PySem Mine
noncomputable def c0:Fn:=⟨3,3,false,(.cons (.ret (.and_ (.prim (.isinst .int) (.cons (.loc 0) .nil)) (.and_ (.nt (.prim (.isinst .bool) (.cons (.loc 0) .nil))) (.chain .le .le (.loc 1) (.loc 0) (.loc 2))))) .nil)⟩
noncomputable def c1:Fn:=⟨1,1,false,(.cons (.ife (.nt (.call 0 (.cons (.loc 0) (.cons (.glob 0) (.cons (.glob 1) .nil))))) .stuck .nil) .nil)⟩
noncomputable def c2:Fn:=⟨2,3,false,(.cons (.ret (.and_ (.prim (.isinst .tuple) (.cons (.loc 1) .nil)) (.and_ (.cmp .eq (.prim .len (.cons (.loc 1) .nil)) (.loc 0)) (.prim .all (.cons (.comp (.call 0 (.cons (.loc 2) (.cons (.neg (.int 1)) (.cons (.int 1) .nil)))) (.name 2) (.e (.loc 1)) .nil) .nil))))) .nil)⟩
noncomputable def c3:Fn:=⟨2,3,false,(.cons (.expr (.call 1 (.cons (.loc 0) .nil))) (.cons (.ife (.or_ (.nt (.prim (.isinst .list) (.cons (.loc 1) .nil))) (.nt (.chain .le .le (.int 1) (.prim .len (.cons (.loc 1) .nil)) (.glob 2)))) .stuck .nil) (.cons (.ife (.nt (.prim .all (.cons (.comp (.call 2 (.cons (.loc 0) (.cons (.loc 2) .nil))) (.name 2) (.e (.loc 1)) .nil) .nil))) .stuck .nil) (.cons (.ife (.cmp .lt (.lenS (.loc 1)) (.prim .len (.cons (.loc 1) .nil))) .stuck .nil) .nil))))⟩
noncomputable def c4:Fn:=⟨2,4,false,(.cons (.ife (.or_ (.nt (.prim (.isinst .tuple) (.cons (.loc 1) .nil))) (.or_ (.cmp .eq (.prim .len (.cons (.loc 1) .nil)) (.int 0)) (.nt (.prim .all (.cons (.comp (.call 0 (.cons (.loc 2) (.cons (.int 0) (.cons (.bin .sub (.loc 0) (.int 1)) .nil)))) (.name 2) (.e (.loc 1)) .nil) .nil))))) (.cons (.ret (.bool false)) .nil) .nil) (.cons (.ret (.prim .all (.cons (.comp (.cmp .lt (.idx (.loc 1) (.bin .sub (.loc 3) (.int 1))) (.idx (.loc 1) (.loc 3))) (.name 3) (.range (.int 1) (.prim .len (.cons (.loc 1) .nil))) .nil) .nil))) .nil))⟩
noncomputable def c5:Fn:=⟨2,5,false,(.cons (.ife (.or_ (.nt (.prim (.isinst .tuple) (.cons (.loc 1) .nil))) (.cmp .ne (.prim .len (.cons (.loc 1) .nil)) (.int 2))) (.cons (.ret (.bool false)) .nil) .nil) (.cons (.asg (.two (.name 2) (.name 3)) (.loc 1)) (.cons (.ife (.or_ (.nt (.call 4 (.cons (.loc 0) (.cons (.loc 2) .nil)))) (.or_ (.nt (.call 4 (.cons (.loc 0) (.cons (.loc 3) .nil)))) (.cmp .ne (.prim .len (.cons (.loc 2) .nil)) (.prim .len (.cons (.loc 3) .nil))))) (.cons (.ret (.bool false)) .nil) .nil) (.cons (.ret (.nt (.prim .any (.cons (.comp (.cmp .in_ (.loc 4) (.loc 3)) (.name 4) (.e (.loc 2)) .nil) .nil)))) .nil))))⟩
noncomputable def c6:Fn:=⟨1,4,false,(.cons (.asg (.name 1) (.list (.cons (.tup .nil) .nil))) (.cons (.for_ (.name 2) (.e (.loc 0)) (.cons (.asg (.name 1) (.bin .add (.loc 1) (.comp (.bin .add (.loc 3) (.tup (.cons (.loc 2) .nil))) (.name 3) (.e (.loc 1)) .nil))) .nil)) (.cons (.ret (.loc 1)) .nil)))⟩
noncomputable def c7:Fn:=⟨1,5,false,(.cons (.asg (.name 1) (.call 6 (.cons (.listI (.range (.int 0) (.loc 0))) .nil))) (.cons (.asg (.name 2) (.boxed (.list .nil))) (.cons (.for_ (.name 3) (.e (.loc 1)) (.cons (.for_ (.name 4) (.e (.loc 1)) (.cons (.ife (.and_ (.call 5 (.cons (.loc 0) (.cons (.tup (.cons (.loc 3) (.cons (.loc 4) .nil))) .nil))) (.cmp .lt (.idx (.loc 3) (.int 0)) (.idx (.loc 4) (.int 0)))) (.cons (.expr (.meth .append (.loc 2) (.cons (.tup (.cons (.loc 3) (.cons (.loc 4) .nil))) .nil))) .nil) .nil) .nil)) .nil)) (.cons (.ret (.prim .sorted (.cons (.loc 2) .nil))) .nil))))⟩
noncomputable def c8:Fn:=⟨2,7,false,(.cons (.asg (.two (.name 2) (.name 3)) (.loc 0)) (.cons (.asg (.name 4) (.bin .sub (.prim .sum (.cons (.comp (.idx (.loc 1) (.loc 5)) (.name 5) (.e (.loc 2)) .nil) .nil)) (.prim .sum (.cons (.comp (.idx (.loc 1) (.loc 6)) (.name 6) (.e (.loc 3)) .nil) .nil)))) (.cons (.ife (.cmp .gt (.loc 4) (.int 0)) (.cons (.ret (.int 1)) .nil) .nil) (.cons (.ret (.ite (.cmp .lt (.loc 4) (.int 0)) (.neg (.int 1)) (.int 0))) .nil))))⟩
noncomputable def c9:Fn:=⟨2,5,false,(.cons (.asg (.name 2) (.boxed (.list .nil))) (.cons (.for_ (.name 3) (.e (.glob 3)) (.cons (.expr (.meth .append (.loc 2) (.cons (.comp (.loc 4) (.name 4) (.e (.loc 1)) (.cons (.cmp .eq (.call 8 (.cons (.loc 0) (.cons (.loc 4) .nil))) (.loc 3)) .nil)) .nil))) .nil)) (.cons (.ret (.loc 2)) .nil)))⟩
noncomputable def c10:Fn:=⟨3,5,false,(.cons (.ife (.or_ (.nt (.prim (.isinst .tuple) (.cons (.loc 2) .nil))) (.or_ (.cmp .lt (.prim .len (.cons (.loc 2) .nil)) (.int 2)) (.nt (.prim (.isinst .str) (.cons (.idx (.loc 2) (.int 0)) .nil))))) (.cons (.ret (.bool false)) .nil) .nil) (.cons (.ife (.cmp .eq (.idx (.loc 2) (.int 0)) (.str (Str.ofString "told"))) (.cons (.ret (.and_ (.cmp .eq (.prim .len (.cons (.loc 2) .nil)) (.int 2)) (.and_ (.call 2 (.cons (.loc 0) (.cons (.idx (.loc 2) (.int 1)) .nil))) (.cmp .eq (.loc 1) (.list (.cons (.idx (.loc 2) (.int 1)) .nil)))))) .nil) .nil) (.cons (.ife (.or_ (.cmp .ne (.idx (.loc 2) (.int 0)) (.str (Str.ofString "weigh"))) (.or_ (.cmp .ne (.prim .len (.cons (.loc 2) .nil)) (.int 3)) (.nt (.call 5 (.cons (.loc 0) (.cons (.idx (.loc 2) (.int 1)) .nil)))))) (.cons (.ret (.bool false)) .nil) .nil) (.cons (.ife (.or_ (.nt (.prim (.isinst .tuple) (.cons (.idx (.loc 2) (.int 2)) .nil))) (.cmp .ne (.prim .len (.cons (.idx (.loc 2) (.int 2)) .nil)) (.int 3))) (.cons (.ret (.bool false)) .nil) .nil) (.cons (.forG badF .lst .tup (.two (.name 3) (.name 4)) (.call 9 (.cons (.idx (.loc 2) (.int 1)) (.cons (.loc 1) .nil))) (.idx (.loc 2) (.int 2)) (.cons (.ife (.and_ (.cmp .eq (.loc 3) (.list .nil)) (.cmp .isnot (.loc 4) .none)) (.cons (.ret (.bool false)) .nil) .nil) (.cons (.ife (.and_ (.cmp .ne (.loc 3) (.list .nil)) (.nt (.call 10 (.cons (.loc 0) (.cons (.loc 3) (.cons (.loc 4) .nil)))))) (.cons (.ret (.bool false)) .nil) .nil) .nil))) (.cons (.ret (.bool true)) .nil))))))⟩
noncomputable def c11:Fn:=⟨3,3,false,(.cons (.expr (.call 3 (.cons (.loc 0) (.cons (.loc 1) .nil)))) (.cons (.ret (.call 10 (.cons (.loc 0) (.cons (.loc 1) (.cons (.loc 2) .nil))))) .nil))⟩
noncomputable def c12:Fn:=⟨2,5,false,(.cons (.asg (.name 2) (.boxed (.list .nil))) (.cons (.asg (.name 3) (.loc 0)) (.cons (.while_ (.cmp .eq (.idx (.loc 3) (.int 0)) (.str (Str.ofString "weigh"))) (.cons (.asg (.name 4) (.call 8 (.cons (.idx (.loc 3) (.int 1)) (.cons (.loc 1) .nil)))) (.cons (.expr (.meth .append (.loc 2) (.cons (.tup (.cons (.idx (.loc 3) (.int 1)) (.cons (.loc 4) .nil))) .nil))) (.cons (.asg (.name 3) (.idx (.idx (.loc 3) (.int 2)) (.bin .add (.loc 4) (.int 1)))) .nil)))) (.cons (.ret (.loc 2)) .nil))))⟩
noncomputable def c13:Fn:=⟨2,2,false,(.cons (.ife (.or_ (.nt (.prim (.isinst .tuple) (.cons (.loc 1) .nil))) (.cmp .ne (.prim .len (.cons (.loc 1) .nil)) (.int 2))) (.cons (.ret (.bool false)) .nil) .nil) (.cons (.ret (.and_ (.call 5 (.cons (.loc 0) (.cons (.idx (.loc 1) (.int 0)) .nil))) (.call 0 (.cons (.idx (.loc 1) (.int 1)) (.cons (.neg (.int 1)) (.cons (.int 1) .nil)))))) .nil))⟩
noncomputable def c14:Fn:=⟨3,7,false,(.cons (.expr (.call 3 (.cons (.loc 0) (.cons (.loc 1) .nil)))) (.cons (.ife (.or_ (.nt (.prim (.isinst .list) (.cons (.loc 2) .nil))) (.or_ (.cmp .gt (.prim .len (.cons (.loc 2) .nil)) (.glob 4)) (.nt (.prim .all (.cons (.comp (.call 13 (.cons (.loc 0) (.cons (.loc 3) .nil))) (.name 3) (.e (.loc 2)) .nil) .nil))))) .stuck .nil) (.cons (.ret (.comp (.loc 4) (.name 4) (.e (.loc 1)) (.cons (.prim .all (.cons (.comp (.cmp .eq (.call 8 (.cons (.loc 5) (.cons (.loc 4) .nil))) (.loc 6)) (.two (.name 5) (.name 6)) (.e (.loc 2)) .nil) .nil)) .nil))) .nil)))⟩
noncomputable def c15:Fn:=⟨1,3,false,(.cons (.asg (.name 1) (.int 1)) (.cons (.for_ (.name 2) (.range (.int 0) (.loc 0)) (.cons (.asg (.name 1) (.bin .mul (.loc 1) (.int 3))) .nil)) (.cons (.ret (.loc 1)) .nil)))⟩
noncomputable def c16:Fn:=⟨3,4,false,(.cons (.ret (.prim .all (.cons (.comp (.cmp .eq (.call 8 (.cons (.loc 3) (.cons (.loc 1) .nil))) (.call 8 (.cons (.loc 3) (.cons (.loc 2) .nil)))) (.name 3) (.e (.loc 0)) .nil) .nil))) .nil)⟩
noncomputable def c17:Fn:=⟨2,5,false,(.cons (.for_ (.two (.name 2) (.name 3)) (.enum (.loc 1)) (.cons (.for_ (.name 4) (.e (.slice (.loc 1) (.bin .add (.loc 2) (.int 1)) .none)) (.cons (.ife (.call 16 (.cons (.loc 0) (.cons (.loc 3) (.cons (.loc 4) .nil)))) (.cons (.ret (.tup (.cons (.loc 3) (.cons (.loc 4) .nil)))) .nil) .nil) .nil)) .nil)) (.cons (.ret .none) .nil))⟩
noncomputable def c18:Fn:=⟨5,10,false,(.cons (.asg (.name 5) (.boxed (.list .nil))) (.cons (.forG badP .tup .lst (.two (.name 6) (.name 7)) (.glob 3) (.call 9 (.cons (.loc 1) (.cons (.loc 2) .nil))) (.cons (.ife (.cmp .eq (.loc 7) (.list .nil)) (.cons (.expr (.meth .append (.loc 5) (.cons .none .nil))) .nil) (.cons (.asg (.two (.name 8) (.name 9)) (.call 20 (.cons (.loc 0) (.cons (.loc 7) (.cons (.bin .sub (.loc 3) (.int 1)) (.cons (.loc 4) .nil)))))) (.cons (.ife (.cmp .eq (.loc 8) (.str (Str.ofString "hold"))) (.cons (.ret (.tup (.cons (.str (Str.ofString "hold")) (.cons (.tup (.cons (.loc 6) (.cons (.loc 9) .nil))) .nil)))) .nil) .nil) (.cons (.expr (.meth .append (.loc 5) (.cons (.loc 9) .nil))) .nil)))) .nil)) (.cons (.ret (.tup (.cons (.str (Str.ofString "plan")) (.cons (.tup (.cons (.str (Str.ofString "weigh")) (.cons (.loc 1) (.cons (.prim .tuple (.cons (.loc 5) .nil)) .nil)))) .nil)))) .nil)))⟩
noncomputable def c19:Fn:=⟨4,8,false,(.cons (.asg (.name 4) (.boxed (.list .nil))) (.cons (.for_ (.name 5) (.e (.loc 0)) (.cons (.asg (.two (.name 6) (.name 7)) (.call 18 (.cons (.loc 0) (.cons (.loc 5) (.cons (.loc 1) (.cons (.loc 2) (.cons (.loc 3) .nil))))))) (.cons (.ife (.cmp .eq (.loc 6) (.str (Str.ofString "plan"))) (.cons (.ret (.tup (.cons (.str (Str.ofString "plan")) (.cons (.loc 7) .nil)))) .nil) .nil) (.cons (.expr (.meth .append (.loc 4) (.cons (.loc 7) .nil))) .nil)))) (.cons (.ret (.tup (.cons (.str (Str.ofString "hold")) (.cons (.tup (.cons (.str (Str.ofString "each")) (.cons (.prim .tuple (.cons (.loc 4) .nil)) .nil))) .nil)))) .nil)))⟩
noncomputable def c20:Fn:=⟨4,5,false,(.cons (.ife (.cmp .eq (.prim .len (.cons (.loc 1) .nil)) (.int 1)) (.cons (.ret (.tup (.cons (.str (Str.ofString "plan")) (.cons (.tup (.cons (.str (Str.ofString "told")) (.cons (.idx (.loc 1) (.int 0)) .nil))) .nil)))) .nil) .nil) (.cons (.ife (.cmp .gt (.prim .len (.cons (.loc 1) .nil)) (.call 15 (.cons (.loc 2) .nil))) (.cons (.ret (.tup (.cons (.str (Str.ofString "hold")) (.cons (.tup (.cons (.str (Str.ofString "many")) .nil)) .nil)))) .nil) .nil) (.cons (.asg (.name 4) (.tup (.cons (.prim .tuple (.cons (.loc 1) .nil)) (.cons (.loc 2) .nil)))) (.cons (.ife (.notinM (.loc 4) (.loc 3)) (.cons (.setM (.loc 3) (.loc 4) (.call 19 (.cons (.loc 0) (.cons (.loc 1) (.cons (.loc 2) (.cons (.loc 3) .nil)))))) .nil) .nil) (.cons (.ret (.getM (.loc 3) (.loc 4))) .nil)))))⟩
noncomputable def c21:Fn:=⟨2,7,false,(.cons (.asg (.name 2) .memo) (.cons (.asg (.name 3) .none) (.cons (.asg (.name 4) (.int 0)) (.cons (.asg (.two (.name 5) (.name 6)) (.call 20 (.cons (.loc 0) (.cons (.loc 1) (.cons (.loc 4) (.cons (.loc 2) .nil)))))) (.cons (.while_ (.cmp .eq (.loc 5) (.str (Str.ofString "hold"))) (.cons (.asg (.name 3) (.loc 6)) (.cons (.asg (.name 4) (.bin .add (.loc 4) (.int 1))) (.cons (.asg (.two (.name 5) (.name 6)) (.call 20 (.cons (.loc 0) (.cons (.loc 1) (.cons (.loc 4) (.cons (.loc 2) .nil)))))) .nil)))) (.cons (.ret (.tup (.cons (.loc 6) (.cons (.loc 3) (.cons (.loc 4) .nil))))) .nil))))))⟩
noncomputable def c22:Fn:=⟨3,9,false,(.cons (.asg (.name 3) (.call 14 (.cons (.loc 0) (.cons (.loc 1) (.cons (.loc 2) .nil))))) (.cons (.asg (.name 4) (.call 7 (.cons (.loc 0) .nil))) (.cons (.ife (.cmp .eq (.loc 3) (.list .nil)) (.cons (.ret (.tup (.cons (.str (Str.ofString "none")) .nil))) .nil) .nil) (.cons (.asg (.name 5) (.call 17 (.cons (.loc 4) (.cons (.loc 3) .nil)))) (.cons (.ife (.cmp .isnot (.loc 5) .none) (.cons (.ret (.tup (.cons (.str (Str.ofString "alike")) (.cons (.idx (.loc 5) (.int 0)) (.cons (.idx (.loc 5) (.int 1)) .nil))))) .nil) .nil) (.cons (.asg3 6 7 8 (.call 21 (.cons (.loc 4) (.cons (.loc 3) .nil)))) (.cons (.ret (.tup (.cons (.str (Str.ofString "plan")) (.cons (.loc 6) (.cons (.loc 7) .nil))))) .nil)))))))⟩
noncomputable def c23:Fn:=⟨3,5,false,(.cons (.asg (.name 3) (.call 14 (.cons (.loc 0) (.cons (.loc 1) (.cons (.loc 2) .nil))))) (.cons (.asg (.name 4) (.call 7 (.cons (.loc 0) .nil))) (.cons (.ife (.or_ (.cmp .eq (.loc 3) (.list .nil)) (.cmp .isnot (.call 17 (.cons (.loc 4) (.cons (.loc 3) .nil))) .none)) (.cons (.ret .none) .nil) .nil) (.cons (.ret (.idx (.call 21 (.cons (.loc 4) (.cons (.loc 3) .nil))) (.int 2))) .nil))))⟩
noncomputable def c24:Fn:=⟨2,2,false,(.cons (.ife (.cmp .lt (.loc 1) (.prim .len (.cons (.loc 0) .nil))) (.cons (.ret (.idx (.loc 0) (.loc 1))) .nil) .nil) (.cons (.ret (.int 0)) .nil))⟩
noncomputable def c25:Fn:=⟨2,2,false,(.cons (.ret (.bin .fdiv (.bin .mod (.bin .mul (.bin .add (.bin .add (.call 24 (.cons (.loc 0) (.cons (.loc 1) .nil))) (.bin .mul (.int 7919) (.loc 1))) (.int 13)) (.int 48271)) (.int 2147483647)) (.int 3))) .nil)⟩
noncomputable def c26:Fn:=⟨2,4,false,(.cons (.asg (.name 2) (.int 0)) (.cons (.for_ (.name 3) (.e (.idx (.loc 0) (.int 0))) (.cons (.asg (.name 2) (.bin .add (.loc 2) (.idx (.loc 1) (.loc 3)))) .nil)) (.cons (.for_ (.name 3) (.e (.idx (.loc 0) (.int 1))) (.cons (.asg (.name 2) (.bin .sub (.loc 2) (.idx (.loc 1) (.loc 3)))) .nil)) (.cons (.ret (.ite (.cmp .gt (.loc 2) (.int 0)) (.int 1) (.ite (.cmp .lt (.loc 2) (.int 0)) (.neg (.int 1)) (.int 0)))) .nil))))⟩
noncomputable def c27:Fn:=⟨1,9,false,(.cons (.asg (.name 1) (.boxed (.list .nil))) (.cons (.for_ (.name 2) (.range (.int 0) (.idx (.list (.cons (.int 9) (.cons (.int 27) (.cons (.int 81) (.cons (.int 243) .nil))))) (.bin .sub (.loc 0) (.int 2)))) (.cons (.asg (.name 3) (.comp (.bin .mod (.bin .fdiv (.loc 2) (.idx (.list (.cons (.int 1) (.cons (.int 3) (.cons (.int 9) (.cons (.int 27) (.cons (.int 81) .nil)))))) (.loc 6))) (.int 3)) (.name 6) (.range (.int 0) (.loc 0)) .nil)) (.cons (.asg (.name 4) (.prim .tuple (.cons (.comp (.loc 7) (.name 7) (.range (.int 0) (.loc 0)) (.cons (.cmp .eq (.idx (.loc 3) (.loc 7)) (.int 1)) .nil)) .nil))) (.cons (.asg (.name 5) (.prim .tuple (.cons (.comp (.loc 8) (.name 8) (.range (.int 0) (.loc 0)) (.cons (.cmp .eq (.idx (.loc 3) (.loc 8)) (.int 2)) .nil)) .nil))) (.cons (.ife (.and_ (.cmp .eq (.prim .len (.cons (.loc 4) .nil)) (.prim .len (.cons (.loc 5) .nil))) (.and_ (.cmp .ne (.loc 4) (.tup .nil)) (.cmp .lt (.idx (.loc 4) (.int 0)) (.idx (.loc 5) (.int 0))))) (.cons (.expr (.meth .append (.loc 1) (.cons (.tup (.cons (.loc 4) (.cons (.loc 5) .nil))) .nil))) .nil) .nil) .nil))))) (.cons (.ret (.prim .sorted (.cons (.loc 1) .nil))) .nil)))⟩
noncomputable def c28:Fn:=⟨2,6,false,(.cons (.asg (.name 2) (.boxed (.list .nil))) (.cons (.for_ (.name 3) (.range (.int 0) (.loc 0)) (.cons (.for_ (.name 4) (.range (.int 0) (.loc 0)) (.cons (.asg (.name 5) (.boxed (.bin .mul (.list (.cons (.int 0) .nil)) (.loc 0)))) (.cons (.setI (.loc 5) (.loc 3) (.idx (.list (.cons (.int 1) (.cons (.neg (.int 1)) (.cons (.idx (.list (.cons (.int 1) (.cons (.neg (.int 1)) .nil))) (.bin .mod (.loc 4) (.int 2))) (.cons (.int 1) (.cons (.int 1) .nil)))))) (.loc 1))) (.cons (.ife (.and_ (.cmp .gt (.loc 1) (.int 2)) (.cmp .ne (.loc 3) (.loc 4))) (.cons (.setI (.loc 5) (.loc 4) (.idx (.list (.cons (.int 1) (.cons (.neg (.int 1)) .nil))) (.bin .sub (.loc 1) (.int 3)))) .nil) .nil) (.cons (.ife (.and_ (.cmp .notin (.prim .tuple (.cons (.loc 5) .nil)) (.loc 2)) (.or_ (.cmp .lt (.loc 1) (.int 3)) (.cmp .ne (.loc 3) (.loc 4)))) (.cons (.expr (.meth .append (.loc 2) (.cons (.prim .tuple (.cons (.loc 5) .nil)) .nil))) .nil) .nil) .nil))))) .nil)) (.cons (.ife (.cmp .eq (.loc 1) (.int 2)) (.cons (.expr (.meth .append (.loc 2) (.cons (.bin .mul (.tup (.cons (.int 0) .nil)) (.loc 0)) .nil))) .nil) .nil) (.cons (.ret (.loc 2)) .nil))))⟩
noncomputable def c29:Fn:=⟨3,12,false,(.cons (.asg (.name 3) (.call 25 (.cons (.loc 0) (.cons (.loc 1) .nil)))) (.cons (.asg (.name 4) (.min2 (.loc 2) (.idx (.list (.cons (.int 2) (.cons (.int 3) (.cons (.int 3) (.cons (.int 4) (.cons (.int 4) (.cons (.int 5) .nil))))))) (.bin .mod (.loc 3) (.int 6))))) (.cons (.asg (.name 5) (.idx (.list (.cons (.int 9) (.cons (.int 12) (.cons (.int 8) (.cons (.int 5) .nil))))) (.bin .sub (.loc 4) (.int 2)))) (.cons (.asg (.name 6) (.boxed (.list .nil))) (.cons (.for_ (.name 7) (.range (.int 0) (.int 12)) (.cons (.asg (.name 8) (.call 25 (.cons (.loc 0) (.cons (.bin .add (.bin .add (.loc 1) (.int 1)) (.loc 7)) .nil)))) (.cons (.expr (.meth .append (.loc 6) (.cons (.prim .tuple (.cons (.comp (.bin .sub (.bin .mod (.bin .fdiv (.loc 8) (.idx (.list (.cons (.int 1) (.cons (.int 3) (.cons (.int 9) (.cons (.int 27) (.cons (.int 81) .nil)))))) (.loc 11))) (.int 3)) (.int 1)) (.name 11) (.range (.int 0) (.loc 4)) .nil) .nil)) .nil))) .nil))) (.cons (.ife (.cmp .gt (.bin .mod (.bin .fdiv (.loc 3) (.int 6)) (.int 6)) (.int 0)) (.cons (.asg (.name 6) (.call 28 (.cons (.loc 4) (.cons (.bin .sub (.bin .mod (.bin .fdiv (.loc 3) (.int 6)) (.int 6)) (.int 1)) .nil)))) .nil) .nil) (.cons (.asg (.name 9) (.boxed (.list .nil))) (.cons (.asg (.name 8) (.bin .fdiv (.loc 3) (.int 36))) (.cons (.ife (.and_ (.cmp .gt (.loc 4) (.int 3)) (.and_ (.cmp .eq (.bin .mod (.bin .fdiv (.loc 8) (.int 256)) (.int 4)) (.int 1)) (.cmp .gt (.bin .mod (.bin .fdiv (.loc 3) (.int 6)) (.int 6)) (.int 0)))) (.cons (.asg (.name 5) (.int 12)) .nil) .nil) (.cons (.for_ (.name 7) (.range (.int 0) (.idx (.list (.cons (.bin .add (.int 1) (.bin .mod (.loc 8) (.loc 5))) (.cons (.loc 5) .nil))) (.prim .int (.cons (.and_ (.cmp .eq (.loc 5) (.int 12)) (.cmp .gt (.loc 4) (.int 3))) .nil)))) (.cons (.asg (.name 10) (.idx (.loc 6) (.bin .mod (.bin .add (.bin .fdiv (.loc 8) (.int 8)) (.bin .mul (.loc 7) (.bin .add (.int 1) (.bin .mod (.bin .fdiv (.loc 8) (.int 64)) (.int 2))))) (.prim .len (.cons (.loc 6) .nil))))) (.cons (.ife (.cmp .notin (.loc 10) (.loc 9)) (.cons (.expr (.meth .append (.loc 9) (.cons (.loc 10) .nil))) .nil) .nil) .nil))) (.cons (.ret (.tup (.cons (.loc 4) (.cons (.loc 9) .nil)))) .nil)))))))))))⟩
noncomputable def c30:Fn:=⟨4,13,false,(.cons (.asg (.name 4) (.call 25 (.cons (.loc 0) (.cons (.loc 1) .nil)))) (.cons (.asg (.name 5) (.call 27 (.cons (.loc 2) .nil))) (.cons (.asg (.name 6) (.boxed (.list .nil))) (.cons (.for_ (.name 7) (.range (.int 0) (.idx (.list (.cons (.int 0) (.cons (.int 0) (.cons (.int 1) (.cons (.int 2) (.cons (.int 3) .nil)))))) (.bin .mod (.loc 4) (.int 5)))) (.cons (.asg (.name 8) (.call 25 (.cons (.loc 0) (.cons (.bin .add (.bin .add (.loc 1) (.int 1)) (.loc 7)) .nil)))) (.cons (.asg (.two (.name 9) (.name 10)) (.idx (.loc 5) (.bin .mod (.loc 8) (.prim .len (.cons (.loc 5) .nil))))) (.cons (.asg (.name 11) (.idx (.list (.cons (.tup (.cons (.loc 9) (.cons (.loc 10) .nil))) (.cons (.tup (.cons (.loc 10) (.cons (.loc 9) .nil))) .nil))) (.bin .mod (.bin .fdiv (.loc 8) (.int 32)) (.int 2)))) (.cons (.asg (.name 12) (.call 26 (.cons (.loc 11) (.cons (.idx (.loc 3) (.bin .mod (.bin .fdiv (.loc 4) (.int 5)) (.prim .len (.cons (.loc 3) .nil)))) .nil)))) (.cons (.ife (.cmp .eq (.bin .mod (.bin .fdiv (.loc 8) (.int 64)) (.int 8)) (.int 1)) (.cons (.asg (.name 12) (.bin .sub (.bin .mod (.bin .fdiv (.loc 8) (.int 512)) (.int 3)) (.int 1))) .nil) .nil) (.cons (.expr (.meth .append (.loc 6) (.cons (.tup (.cons (.loc 11) (.cons (.loc 12) .nil))) .nil))) .nil))))))) (.cons (.ret (.loc 6)) .nil)))))⟩
noncomputable def c31:Fn:=⟨2,5,false,(.cons (.ret (.comp (.loc 2) (.name 2) (.e (.loc 0)) (.cons (.cmp .eq (.comp (.int 1) (.two (.name 3) (.name 4)) (.e (.loc 1)) (.cons (.cmp .ne (.call 26 (.cons (.loc 3) (.cons (.loc 2) .nil))) (.loc 4)) .nil)) (.list .nil)) .nil))) .nil)⟩
noncomputable def c32:Fn:=⟨4,7,false,(.cons (.for_ (.two (.name 4) (.name 5)) (.e (.loc 3)) (.cons (.asg (.name 2) (.idx (.idx (.loc 2) (.int 2)) (.bin .add (.loc 5) (.int 1)))) (.cons (.asg (.name 1) (.comp (.loc 6) (.name 6) (.e (.loc 1)) (.cons (.cmp .eq (.call 26 (.cons (.loc 4) (.cons (.loc 6) .nil))) (.loc 5)) .nil))) .nil))) (.cons (.ret (.cmp .is (.call 11 (.cons (.loc 0) (.cons (.prim .list (.cons (.loc 1) .nil)) (.cons (.loc 2) .nil)))) (.bool true))) .nil))⟩
noncomputable def c33:Fn:=⟨1,12,false,(.cons (.asg (.two (.name 1) (.name 2)) (.call 29 (.cons (.loc 0) (.cons (.int 6) (.cons (.int 4) .nil))))) (.cons (.asg (.name 3) (.slice (.call 30 (.cons (.loc 0) (.cons (.int 1) (.cons (.loc 1) (.cons (.loc 2) .nil))))) .none (.int 2))) (.cons (.asg (.name 4) (.call 31 (.cons (.loc 2) (.cons (.loc 3) .nil)))) (.cons (.asg (.name 5) (.call 22 (.cons (.loc 1) (.cons (.prim .list (.cons (.loc 2) .nil)) (.cons (.prim .list (.cons (.loc 3) .nil)) .nil))))) (.cons (.asg (.name 6) (.call 23 (.cons (.loc 1) (.cons (.prim .list (.cons (.loc 2) .nil)) (.cons (.prim .list (.cons (.loc 3) .nil)) .nil))))) (.cons (.ife (.cmp .ne (.idx (.loc 5) (.int 0)) (.str (Str.ofString "plan"))) (.cons (.ret (.cmp .is (.loc 6) .none)) .nil) .nil) (.cons (.asg (.name 7) (.boxed (.list .nil))) (.cons (.for_ (.name 8) (.e (.loc 4)) (.cons (.asg (.name 9) (.call 12 (.cons (.idx (.loc 5) (.int 1)) (.cons (.loc 8) .nil)))) (.cons (.expr (.meth .append (.loc 7) (.cons (.prim .len (.cons (.loc 9) .nil)) .nil))) (.cons (.ife (.or_ (.cmp .ne (.comp (.loc 11) (.name 11) (.e (.loc 9)) (.cons (.cmp .ne (.idx (.loc 11) (.int 1)) (.call 26 (.cons (.idx (.loc 11) (.int 0)) (.cons (.loc 8) .nil)))) .nil)) (.list .nil)) (.cmp .gt (.prim .len (.cons (.loc 9) .nil)) (.loc 6))) (.cons (.ret (.bool false)) .nil) .nil) (.cons (.ife (.cmp .ne (.call 14 (.cons (.loc 1) (.cons (.prim .list (.cons (.loc 2) .nil)) (.cons (.bin .add (.loc 3) (.loc 9)) .nil)))) (.list (.cons (.loc 8) .nil))) (.cons (.ret (.bool false)) .nil) .nil) (.cons (.asg (.name 10) (.bin .mod (.call 25 (.cons (.loc 0) (.cons (.int 20) .nil))) (.bin .add (.prim .len (.cons (.loc 9) .nil)) (.int 1)))) (.cons (.ife (.nt (.call 32 (.cons (.loc 1) (.cons (.loc 4) (.cons (.idx (.loc 5) (.int 1)) (.cons (.slice (.loc 9) .none (.loc 10)) .nil)))))) (.cons (.ret (.bool false)) .nil) .nil) (.cons (.ife (.cmp .gt (.call 23 (.cons (.loc 1) (.cons (.prim .list (.cons (.loc 2) .nil)) (.cons (.bin .add (.loc 3) (.slice (.loc 9) .none (.loc 10))) .nil)))) (.bin .sub (.loc 6) (.loc 10))) (.cons (.ret (.bool false)) .nil) .nil) .nil)))))))) (.cons (.ret (.cmp .eq (.maxL (.loc 7)) (.loc 6))) .nil)))))))))⟩
noncomputable def zp7:List Str:=[("is_among" : Str),("need_count" : Str),("is_case" : Str),("need_cases" : Str),("is_pan" : Str),("is_weighing" : Str),("some_of" : Str),("all_leading" : Str),("came" : Str),("parted" : Str),("is_plan_for" : Str),("is_plan" : Str),("walked" : Str),("is_done" : Str),("still_open" : Str),("threes" : Str),("are_alike" : Str),("alike_of" : Str),("tried" : Str),("by_each" : Str),("looked" : Str),("found_for" : Str),("told" : Str),("least" : Str),("_law_cell_at" : Str),("_law_mixed" : Str),("_law_came" : Str),("_law_pans" : Str),("_law_pool" : Str),("_law_puzzle" : Str),("_law_done" : Str),("_law_open" : Str),("_law_part_right" : Str),("law" : Str)]
noncomputable def vz(f:Nat):Option Str:=zp7[f]?
noncomputable def zi7:List (List Str):=[[("thing" : Str),("least" : Str),("most" : Str)],[("many" : Str)],[("many" : Str),("thing" : Str)],[("many" : Str),("cases" : Str)],[("many" : Str),("thing" : Str)],[("many" : Str),("thing" : Str),("left" : Str),("right" : Str)],[("things" : Str),("found" : Str),("one" : Str)],[("many" : Str),("pans" : Str),("found" : Str),("left" : Str),("right" : Str)],[("weighing" : Str),("case" : Str),("left" : Str),("right" : Str),("more" : Str)],[("weighing" : Str),("cases" : Str),("found" : Str),("outcome" : Str)],[("many" : Str),("cases" : Str),("thing" : Str),("some" : Str),("part" : Str)],[("many" : Str),("cases" : Str),("thing" : Str)],[("plan" : Str),("case" : Str),("found" : Str),("here" : Str),("outcome" : Str)],[("many" : Str),("thing" : Str)],[("many" : Str),("cases" : Str),("done" : Str)],[("number" : Str),("found" : Str),("turn" : Str)],[("pans" : Str),("one" : Str),("other" : Str)],[("pans" : Str),("cases" : Str),("k" : Str),("one" : Str),("other" : Str)],[("pans" : Str),("weighing" : Str),("cases" : Str),("number" : Str),("known" : Str),("parts" : Str),("outcome" : Str),("some" : Str),("word" : Str),("found" : Str)],[("pans" : Str),("cases" : Str),("number" : Str),("known" : Str),("rows" : Str),("weighing" : Str),("word" : Str),("found" : Str)],[("pans" : Str),("cases" : Str),("number" : Str),("known" : Str),("key" : Str)],[("pans" : Str),("cases" : Str),("known" : Str),("hold" : Str),("number" : Str),("word" : Str),("found" : Str)],[("many" : Str),("cases" : Str),("done" : Str),("some" : Str),("pans" : Str),("pair" : Str),("plan" : Str),("hold" : Str),("number" : Str)],[("many" : Str),("cases" : Str),("done" : Str),("some" : Str),("pans" : Str)],[("_law_script" : Str),("_law_k" : Str)],[("_law_script" : Str),("_law_k" : Str)],[("_law_weighing" : Str),("_law_case" : Str),("_law_more" : Str),("_law_one" : Str)],[("_law_many" : Str),("_law_found" : Str),("_law_number" : Str),("_law_sides" : Str),("_law_left" : Str),("_law_right" : Str)],[("_law_many" : Str),("_law_kind" : Str),("_law_found" : Str),("_law_one" : Str),("_law_other" : Str),("_law_case" : Str)],[("_law_script" : Str),("_law_at" : Str),("_law_greatest" : Str),("_law_first" : Str),("_law_many" : Str),("_law_most" : Str),("_law_pool_here" : Str),("_law_k" : Str),("_law_number" : Str),("_law_found" : Str),("_law_case" : Str)],[("_law_script" : Str),("_law_at" : Str),("_law_many" : Str),("_law_cases" : Str),("_law_first" : Str),("_law_pans_here" : Str),("_law_found" : Str),("_law_k" : Str),("_law_number" : Str),("_law_left" : Str),("_law_right" : Str),("_law_weighing" : Str),("_law_due" : Str)],[("_law_cases" : Str),("_law_done_here" : Str)],[("_law_many" : Str),("_law_some" : Str),("_law_plan" : Str),("_law_rows" : Str),("_law_weighing" : Str),("_law_due" : Str)],[("_law_script" : Str),("_law_many" : Str),("_law_cases" : Str),("_law_done_here" : Str),("_law_some" : Str),("_law_found" : Str),("_law_size" : Str),("_law_sizes" : Str),("_law_case" : Str),("_law_rows" : Str),("_law_at" : Str)]]
noncomputable def jw(f:Nat):List Str:=zi7[f]?.getD []
noncomputable def zp4:List Str:=[("LEAST_THINGS" : Str),("MOST_THINGS" : Str),("MOST_CASES" : Str),("OUTCOMES" : Str),("MOST_DONE" : Str)]
noncomputable def w9(k:Nat):Option Str:=zp4[k]?
noncomputable def zq0:List Str:=[]
noncomputable def dp(k:Nat):Option Str:=zq0[k]?
noncomputable def table:Nat→Option Fn
 | 0=>some c0
 | 1=>some c1
 | 2=>some c2
 | 3=>some c3
 | 4=>some c4
 | 5=>some c5
 | 6=>some c6
 | 7=>some c7
 | 8=>some c8
 | 9=>some c9
 | 10=>some c10
 | 11=>some c11
 | 12=>some c12
 | 13=>some c13
 | 14=>some c14
 | 15=>some c15
 | 16=>some c16
 | 17=>some c17
 | 18=>some c18
 | 19=>some c19
 | 20=>some c20
 | 21=>some c21
 | 22=>some c22
 | 23=>some c23
 | 24=>some c24
 | 25=>some c25
 | 26=>some c26
 | 27=>some c27
 | 28=>some c28
 | 29=>some c29
 | 30=>some c30
 | 31=>some c31
 | 32=>some c32
 | 33=>some c33
 | _+34=>none
noncomputable def zp2:List PyData:=[.int (2),.int (5),.int (12),.tuple [.int (-1),.int (0),.int (1)],.int (20)]
noncomputable def zsf(k:Nat):Option PyData:=zp2[k]?
noncomputable def zjw:Nat:=33
noncomputable def zq3:List Nat:=[0,1,2,3,4,5,6,7,8,9,10,11,12,13,14,15,16,17,18,19,20,21,22,23,24,25,26,27,28,29,30,31,32,33]
noncomputable def at_(f:Nat):Nat:=zq3[f]?.getD 0
noncomputable def subs(x c:Nat):Option Bool:=match x with
 | _=>none
noncomputable def P:Pg:={ call:=fun _ _ _ _=>.stuck,hd:=false,gval:=zsf,turns:=200,sub:=subs,srt:=ze0,sets:=false,txt:=fun _=>none }
end Mine.L09
end
section
namespace Mine.L09
open PySem Mine PyProof.Rows
noncomputable def prog:Program:=PySem.Challenge.pw_uf050003_09
noncomputable def fnOf:Option Stmt→List Stmt×Scope
 | some (.FunctionDef _ _ b _ _ _ s _ _ _)=>(b,s)
 | _=>([],⟨.module,[],false,false,[]⟩)
noncomputable def bd(k:Nat):List Stmt:=(fnOf (prog.main.body[k]?)).1
noncomputable def sp(k:Nat):Scope:=(fnOf (prog.main.body[k]?)).2
noncomputable def cxOf(fn:Fn)(f k:Nat):Cx:={ names:=yr fn (jw f),sc:=sp k,fname:=vz,gname:=w9,cname:=dp }
theorem bs:JSs (cxOf c0 0 9) (bd 9) c0.body∧JSs (cxOf c1 1 10) (bd 10) c1.body∧JSs (cxOf c2 2 11) (bd 11) c2.body∧JSs (cxOf c3 3 12) (bd 12) c3.body∧JSs (cxOf c4 4 15) (bd 15) c4.body∧JSs (cxOf c5 5 16) (bd 16) c5.body∧JSs (cxOf c6 6 17) (bd 17) c6.body∧JSs (cxOf c7 7 18) (bd 18) c7.body∧JSs (cxOf c8 8 19) (bd 19) c8.body∧JSs (cxOf c9 9 20) (bd 20) c9.body∧JSs (cxOf c10 10 22) (bd 22) c10.body∧JSs (cxOf c11 11 23) (bd 23) c11.body∧JSs (cxOf c12 12 24) (bd 24) c12.body∧JSs (cxOf c13 13 27) (bd 27) c13.body∧JSs (cxOf c14 14 28) (bd 28) c14.body∧JSs (cxOf c15 15 30) (bd 30) c15.body∧JSs (cxOf c16 16 32) (bd 32) c16.body∧JSs (cxOf c17 17 33) (bd 33) c17.body∧JSs (cxOf c18 18 34) (bd 34) c18.body∧JSs (cxOf c19 19 35) (bd 35) c19.body∧JSs (cxOf c20 20 36) (bd 36) c20.body∧JSs (cxOf c21 21 37) (bd 37) c21.body∧JSs (cxOf c22 22 38) (bd 38) c22.body∧JSs (cxOf c23 23 39) (bd 39) c23.body∧JSs (cxOf c24 24 41) (bd 41) c24.body∧JSs (cxOf c25 25 42) (bd 42) c25.body∧JSs (cxOf c26 26 43) (bd 43) c26.body∧JSs (cxOf c27 27 44) (bd 44) c27.body∧JSs (cxOf c28 28 45) (bd 45) c28.body∧JSs (cxOf c29 29 46) (bd 46) c29.body∧JSs (cxOf c30 30 47) (bd 47) c30.body∧JSs (cxOf c31 31 48) (bd 48) c31.body∧JSs (cxOf c32 32 49) (bd 49) c32.body∧JSs (cxOf c33 33 50) (bd 50) c33.body:=by
 refine⟨?_,?_,?_,?_,?_,?_,?_,?_,?_,?_,?_,?_,?_,?_,?_,?_,?_,?_,?_,?_,?_,?_,?_,?_,?_,?_,?_,?_,?_,?_,?_,?_,?_,?_⟩ <;> apply zgh
 all_goals with_reducible repeat' first
  | apply q_nil | apply q_ret | apply q_if | apply zox | apply zgh | apply zi3 | apply s_ret0 | apply zrg | apply zrh | apply zo7 | apply s_asgB | apply zo8 | apply zo6 | apply zo1 | apply zo2 | apply zrj | apply s_forZ | apply zo3 | apply s_forT | apply zo4 | apply zri | apply zl8 | apply zo5 | apply s_raise | apply s_try
  | apply zhk | apply zra | apply zlv | apply zlu | apply zon | apply zom | apply tt_cmpB | apply zoo | apply zi1 | apply tt_ite | apply zl0
  | apply zpt | apply j_notinM | apply zpx | apply j_minL | apply zpr | apply zpz | apply zsb | apply zr7 | apply zr9 | apply zpw | apply zr6 | apply j_listB | apply j_dict | apply zr8 | apply j_nt | apply zp1 | apply zp0 | apply j_or2 | apply j_orN | apply zsd | apply zmq | apply zsa
  | apply j_sliceT | apply j_backT | apply zpu | apply j_lenI | apply zmp | apply j_back | apply j_idxB | apply zsc | apply zj5 | apply j_isexc | apply zpv | apply j_str1 | apply zps | apply j_ofset | apply zj6 | apply j_clear | apply zpy | apply zmr | apply JK.e
  | apply zpi | apply zrv | apply zjo | apply zmj | apply zmi
  | apply zqa | apply zm0 | apply zmu | apply zkb | apply zpe | apply zpd | apply zmw | apply i_rev | apply i_e | apply zrl | apply zrk
  | exact .inl rfl | exact .inr rfl | kernel_rfl
theorem b0:JSs (cxOf c0 0 9) (bd 9) c0.body:=bs.1
theorem b1:JSs (cxOf c1 1 10) (bd 10) c1.body:=bs.2.1
theorem b2:JSs (cxOf c2 2 11) (bd 11) c2.body:=bs.2.2.1
theorem b3:JSs (cxOf c3 3 12) (bd 12) c3.body:=bs.2.2.2.1
theorem b4:JSs (cxOf c4 4 15) (bd 15) c4.body:=bs.2.2.2.2.1
theorem b5:JSs (cxOf c5 5 16) (bd 16) c5.body:=bs.2.2.2.2.2.1
theorem b6:JSs (cxOf c6 6 17) (bd 17) c6.body:=bs.2.2.2.2.2.2.1
theorem b7:JSs (cxOf c7 7 18) (bd 18) c7.body:=bs.2.2.2.2.2.2.2.1
theorem b8:JSs (cxOf c8 8 19) (bd 19) c8.body:=bs.2.2.2.2.2.2.2.2.1
theorem b9:JSs (cxOf c9 9 20) (bd 20) c9.body:=bs.2.2.2.2.2.2.2.2.2.1
theorem b10:JSs (cxOf c10 10 22) (bd 22) c10.body:=bs.2.2.2.2.2.2.2.2.2.2.1
theorem b11:JSs (cxOf c11 11 23) (bd 23) c11.body:=bs.2.2.2.2.2.2.2.2.2.2.2.1
theorem b12:JSs (cxOf c12 12 24) (bd 24) c12.body:=bs.2.2.2.2.2.2.2.2.2.2.2.2.1
theorem b13:JSs (cxOf c13 13 27) (bd 27) c13.body:=bs.2.2.2.2.2.2.2.2.2.2.2.2.2.1
theorem b14:JSs (cxOf c14 14 28) (bd 28) c14.body:=bs.2.2.2.2.2.2.2.2.2.2.2.2.2.2.1
theorem b15:JSs (cxOf c15 15 30) (bd 30) c15.body:=bs.2.2.2.2.2.2.2.2.2.2.2.2.2.2.2.1
theorem b16:JSs (cxOf c16 16 32) (bd 32) c16.body:=bs.2.2.2.2.2.2.2.2.2.2.2.2.2.2.2.2.1
theorem b17:JSs (cxOf c17 17 33) (bd 33) c17.body:=bs.2.2.2.2.2.2.2.2.2.2.2.2.2.2.2.2.2.1
theorem b18:JSs (cxOf c18 18 34) (bd 34) c18.body:=bs.2.2.2.2.2.2.2.2.2.2.2.2.2.2.2.2.2.2.1
theorem b19:JSs (cxOf c19 19 35) (bd 35) c19.body:=bs.2.2.2.2.2.2.2.2.2.2.2.2.2.2.2.2.2.2.2.1
theorem b20:JSs (cxOf c20 20 36) (bd 36) c20.body:=bs.2.2.2.2.2.2.2.2.2.2.2.2.2.2.2.2.2.2.2.2.1
theorem b21:JSs (cxOf c21 21 37) (bd 37) c21.body:=bs.2.2.2.2.2.2.2.2.2.2.2.2.2.2.2.2.2.2.2.2.2.1
theorem b22:JSs (cxOf c22 22 38) (bd 38) c22.body:=bs.2.2.2.2.2.2.2.2.2.2.2.2.2.2.2.2.2.2.2.2.2.2.1
theorem b23:JSs (cxOf c23 23 39) (bd 39) c23.body:=bs.2.2.2.2.2.2.2.2.2.2.2.2.2.2.2.2.2.2.2.2.2.2.2.1
theorem b24:JSs (cxOf c24 24 41) (bd 41) c24.body:=bs.2.2.2.2.2.2.2.2.2.2.2.2.2.2.2.2.2.2.2.2.2.2.2.2.1
theorem b25:JSs (cxOf c25 25 42) (bd 42) c25.body:=bs.2.2.2.2.2.2.2.2.2.2.2.2.2.2.2.2.2.2.2.2.2.2.2.2.2.1
theorem b26:JSs (cxOf c26 26 43) (bd 43) c26.body:=bs.2.2.2.2.2.2.2.2.2.2.2.2.2.2.2.2.2.2.2.2.2.2.2.2.2.2.1
theorem b27:JSs (cxOf c27 27 44) (bd 44) c27.body:=bs.2.2.2.2.2.2.2.2.2.2.2.2.2.2.2.2.2.2.2.2.2.2.2.2.2.2.2.1
theorem b28:JSs (cxOf c28 28 45) (bd 45) c28.body:=bs.2.2.2.2.2.2.2.2.2.2.2.2.2.2.2.2.2.2.2.2.2.2.2.2.2.2.2.2.1
theorem b29:JSs (cxOf c29 29 46) (bd 46) c29.body:=bs.2.2.2.2.2.2.2.2.2.2.2.2.2.2.2.2.2.2.2.2.2.2.2.2.2.2.2.2.2.1
theorem b30:JSs (cxOf c30 30 47) (bd 47) c30.body:=bs.2.2.2.2.2.2.2.2.2.2.2.2.2.2.2.2.2.2.2.2.2.2.2.2.2.2.2.2.2.2.1
theorem b31:JSs (cxOf c31 31 48) (bd 48) c31.body:=bs.2.2.2.2.2.2.2.2.2.2.2.2.2.2.2.2.2.2.2.2.2.2.2.2.2.2.2.2.2.2.2.1
theorem b32:JSs (cxOf c32 32 49) (bd 49) c32.body:=bs.2.2.2.2.2.2.2.2.2.2.2.2.2.2.2.2.2.2.2.2.2.2.2.2.2.2.2.2.2.2.2.2.1
theorem b33:JSs (cxOf c33 33 50) (bd 50) c33.body:=bs.2.2.2.2.2.2.2.2.2.2.2.2.2.2.2.2.2.2.2.2.2.2.2.2.2.2.2.2.2.2.2.2.2
theorem zm{f k:Nat}{fn fn':Fn}{d:DefRec}(h:((recsOf prog)[at_ f]?.map fun d=>(d.body,d.scope))=some (bd k,sp k))(hb:JSs (cxOf fn f k) (bd k) fn.body)(hT:some fn=some fn')(hd:(recsOf prog)[at_ f]?=some d) :
 JSs { names:=yr fn' (jw f),sc:=d.scope,fname:=vz,gname:=w9,cname:=dp } d.body fn'.body:=by
 cases hT
 rw[hd] at h
 injection h with h
 injection h with h1 h2
 rw[h1,h2];exact hb
theorem zq2:zab prog vz w9 dp table jw at_:=fun f fn d=>match f with
 | 0=>zm (k:=9) (by kernel_rfl) b0
 | 1=>zm (k:=10) (by kernel_rfl) b1
 | 2=>zm (k:=11) (by kernel_rfl) b2
 | 3=>zm (k:=12) (by kernel_rfl) b3
 | 4=>zm (k:=15) (by kernel_rfl) b4
 | 5=>zm (k:=16) (by kernel_rfl) b5
 | 6=>zm (k:=17) (by kernel_rfl) b6
 | 7=>zm (k:=18) (by kernel_rfl) b7
 | 8=>zm (k:=19) (by kernel_rfl) b8
 | 9=>zm (k:=20) (by kernel_rfl) b9
 | 10=>zm (k:=22) (by kernel_rfl) b10
 | 11=>zm (k:=23) (by kernel_rfl) b11
 | 12=>zm (k:=24) (by kernel_rfl) b12
 | 13=>zm (k:=27) (by kernel_rfl) b13
 | 14=>zm (k:=28) (by kernel_rfl) b14
 | 15=>zm (k:=30) (by kernel_rfl) b15
 | 16=>zm (k:=32) (by kernel_rfl) b16
 | 17=>zm (k:=33) (by kernel_rfl) b17
 | 18=>zm (k:=34) (by kernel_rfl) b18
 | 19=>zm (k:=35) (by kernel_rfl) b19
 | 20=>zm (k:=36) (by kernel_rfl) b20
 | 21=>zm (k:=37) (by kernel_rfl) b21
 | 22=>zm (k:=38) (by kernel_rfl) b22
 | 23=>zm (k:=39) (by kernel_rfl) b23
 | 24=>zm (k:=41) (by kernel_rfl) b24
 | 25=>zm (k:=42) (by kernel_rfl) b25
 | 26=>zm (k:=43) (by kernel_rfl) b26
 | 27=>zm (k:=44) (by kernel_rfl) b27
 | 28=>zm (k:=45) (by kernel_rfl) b28
 | 29=>zm (k:=46) (by kernel_rfl) b29
 | 30=>zm (k:=47) (by kernel_rfl) b30
 | 31=>zm (k:=48) (by kernel_rfl) b31
 | 32=>zm (k:=49) (by kernel_rfl) b32
 | 33=>zm (k:=50) (by kernel_rfl) b33
 | _+34=>fun hT _=>nomatch hT
end Mine.L09
end
section
namespace Mine.L09
open PySem PySem.W PySem.Calls PyProof.Rows Mine
theorem zsh{G:Gl}{p:Program}{loose:List Str}{mean:ExcName→Option Value}{gval:Nat→Option PyData}{gname:Nat→Option Str}{K:W.Frag}(X:K.In G.h₀)(t:Top p loose mean G.mg G.mb G.h₀)(hc:∀ c,∃ C,G.cls c=.ref C)(hb:zld K=true)
 (hv:∀ k d x,gval k=some d→gname k=some x→valOf p x=some d∨∃ v,nsIn K mainGlobals x=some (some v)∧∀ h,K.In h→Reads h v d []):GOk G gval gname where
 nolimit:=t.nolimit
 g:=t.g
 b:=t.b
 gl:=fun k d x h1 h2=>by
  rcases hv k d x h1 h2 with h | ⟨v,h,r⟩
  ·obtain⟨v,q1,q2⟩:=t.const x d h;exact⟨v,q1,q2 _⟩
  ·exact⟨v,W.mg_of X t.g h,r _ X⟩
 clsRef:=hc
 bi:=fun q hq=>by
  have:=List.all_eq_true.mp hb q hq
  simp only[Bool.and_eq_true,beq_iff_eq,bne_iff_ne,ne_eq] at this
  exact⟨W.mg_none_of X t.g this.1.1,by rw[t.builtins _ this.2];exact this.1.2⟩
 digits:=t.nodigits
theorem cl0{G:Gl}:zhj G P dp:=⟨fun c z h=>(nomatch h),fun c z h=>(nomatch h),fun c z A s env x y np cpos pos yp yk Q E h=>(nomatch h)⟩
noncomputable abbrev oOut:Obj:=PySem.Obj.mk (Value.type "tuple") Option.none (PySem.Data.seq #[Value.int (-1) 294,Value.int 0 295,Value.int 1 296]) #[]
theorem h_gv{p:Program}{K:W.Frag}(h0:valOf p "LEAST_THINGS" = some (.int 2))(h1:valOf p "MOST_THINGS" = some (.int 5))(h2:valOf p "MOST_CASES" = some (.int 12))(h5:valOf p "MOST_DONE" = some (.int 20))(h3:nsIn K mainGlobals "OUTCOMES" = some (some (.ref 88)))(h4:K.lookup 88=some oOut):∀ k d x,P.gval k=some d→w9 k=some x→valOf p x=some d∨∃ v,nsIn K mainGlobals x=some (some v)∧∀ h,K.In h→Reads h v d []:=fun k d x e1 e2=>by
 match k,e1,e2 with
 | 0,e1,e2=>cases e1;cases e2;exact .inl h0
 | 1,e1,e2=>cases e1;cases e2;exact .inl h1
 | 2,e1,e2=>cases e1;cases e2;exact .inl h2
 | 3,e1,e2=>
   cases e1;cases e2
   exact .inr ⟨_,h3,fun h X=>.tuple (X 88 _ h4) rfl rfl (.cons (.int _ _) (.cons (.int _ _) (.cons (.int _ _) .nil)))⟩
 | 4,e1,e2=>cases e1;cases e2;exact .inl h5
 | n+5,e1,_=>cases e1
theorem h_no:∀ f,34≤f→vz f=none:=fun f hf=>List.getElem?_eq_none hf
theorem zmm{p:Program}{loose:List Str}{mean:ExcName→Option Value}{K:W.Frag}{prog:Program}{w:World}{s:Shared}{mg mb:Str→Option Value}
 (t:Top p loose mean mg mb s.heap) (X:K.In s.heap) (hf:(List.range 34).all (zf0 p vz table jw at_)=true) (hbo:zab p vz w9 dp table jw at_) (hb:zld K=true) (hv:∀ k d x,P.gval k=some d→w9 k=some x→valOf p x=some d∨∃ v,nsIn K mainGlobals x=some (some v)∧∀ h,K.In h→Reads h v d [])
 (himp:importsNone p=true) {x:Str} (hfx:vz zjw=some x) {script:List Int} {a:Addr} {rs:List Addr} (r0:Reads s.heap (.ref a) (.list (script.map .int)) rs) {d:PyData} {O'':za}
 (hev:zg P table 61 false zjw [.d (.list (script.map .int))] []=.ok (.d d) O'') {Q:Value→Shared→Prop} {E:Value→Shared→Prop}
 (kk:∀ s' val as,s'.gens=s.gens→s'.os=s.os→(∀ b o,s.heap.get? b=some o→s'.heap.get? b=some o)→Reads s'.heap val d as→Q val s') {fa:Addr} (hmg:mg x=some (.ref fa)):wpAny (model prog w) callerA (call (.ref fa) [.ref a]) Q E s:=
 go_top (G:={ prog:=prog,w:=w,h₀:=s.heap,mg:=mg,mb:=mb,cls:=fun _=>.ref 0,sys:=let ⟨m,h,_⟩:=(t.seer himp).mods;⟨m,h⟩ }) (zsh X t (fun _=>⟨0,rfl⟩) hb hv) (zp6 t 34 h_no hf hbo) (zoy rfl) (fun h=>by cases h) cl0 (k:=60) ⟨by decide,by decide,rfl⟩ rfl rfl rfl hfx
  (vals:=[.ref a]) (vs:=[.d (.list (script.map .int))]) (.cons ⟨rs,r0,fun b hb=>⟨fun h=>(nomatch h),fun h=>by rw[List.mem_singleton.mp h] at hb;obtain⟨m,hm,_⟩:=(t.seer himp).mods;exact ze6 hm r0 hb⟩⟩ .nil) hev kk fa hmg
set_option tactic.hygienic true in
theorem holds_of(hE:∀ script:List Int,script.length≤63→∃ O,zg P table 61 false zjw [.d (.list (script.map .int))] []=.ok (.d (.bool true)) O):PySem.Challenge.rw_uf050003_09.Holds:=by
 w_on
 refine holds_law ws fun said=>?_
 refine holds_open (q:=view) (loose:=[]) (Xt:=fun s=>xlAt view [] s && recOk (RowW.records (OpenRow.toRowW (OpenLaw.row PySem.Challenge.rw_uf050003_09))) s) (XP:=XL view []) (Yf:=Hook.obs hook) (Ya:=Hook.val hook) (YP:=Hook.says hook) (N:=4200) ?hl (Hook.of hook) (Hook.keeps hook) (fun s e=>xl_of s (Bool.and_eq_true_iff.mp e).1) XL.keeps (by rfl) (by rfl) (by rfl) (fun s e=>recFacts_of (Bool.and_eq_true_iff.mp e).2) (by rfl) (by assumption) (by decide +kernel) ⟨rfl,rfl,rfl,rfl,rfl,by decide +kernel⟩ ?hw ?hc
 case hw=>w_witness2
 case hl=>exact zml
 case hc=>
  intro w s₀ s₁ mg mb G Y fa o pm cd doc dV kV ho hd hcd hD hmg hg args vals as hpre hlay hrd hwl hlo
  have KX:=kIn_of Y
  have X:=(Ground.X G).1
  have V:=(Ground.X G).2
  refine Ground.open G ?_
  intro T B D TE TW
  clear hd hcd hD
  wrow_args hpre hlay hrd hwl hlo
  clear Y G X V B D TE TW ho
  rename_i script _ _ _ _ _ rs _ a vs _ hL ra _ r0 _ _ hlen _
  have hlen':script.length≤63:=by omega
  obtain⟨O,hev⟩:=hE script hlen'
  refine zmm T KX (by kernel_rfl) zq2 (by kernel_rfl) (h_gv (by kernel_rfl) (by kernel_rfl) (by kernel_rfl) (by kernel_rfl) (by kernel_rfl) (by kernel_rfl)) (by kernel_rfl) rfl r0 hev ?_ hmg
  intro s' val as' hgens hos hkeep hread
  have hread':=readsW_of_reads (R:=Challenge.rw_uf050003_09.row.claim.records) (cl:=classAt s₀.heap) hread
  cases hread
  refine⟨.inl ⟨_,.bool true,[],rfl,fun _=>rfl,?_,?_,fun _=>⟨.nil,fun _ h=>(nomatch h)⟩⟩,.of_keep hkeep,hos,.of_eq (hgens.trans hg)⟩
  ·exact hread'
  ·kernel_rfl
end Mine.L09
end
section
namespace Mine
open PySem
theorem dn{ys:List PyData}{turn:PyData→za→R za (Option PyData)}{f:PyData→PyData}{O:za}:∀ (xs acc:List PyData),(∀ x∈xs,turn x O=.ok (some (f x)) O)→yh (.plain ys) turn xs acc O=.ok (.d (.list (acc++xs.map f))) O
 | [],acc,_=>by simp[yh]
 | x::xs,acc,h=>by
   rw[yh,h x List.mem_cons_self]
   show (if (Src.plain ys).still O=true then _ else _)=_
   rw[if_pos (show (Src.plain ys).still _=true from rfl),dn xs _ fun y hy=>h y (List.mem_cons_of_mem _ hy)]
   simp
theorem g8{α:Type}{ys:List PyData}{turn:PyData→Loc→za→R (Loc×za) Fl}(st:α→Loc×za)(f:α→PyData→α):∀ (xs:List PyData) (a:α),(∀ a,∀ x∈xs,turn x (st a).1 (st a).2=.ok .next (st (f a x))) →
 z6 (.plain ys) turn xs (st a).1 (st a).2=.ok .next (st (xs.foldl f a))
 | [],a,_=>rfl
 | x::xs,a,h=>by
   rw[z6,h a x List.mem_cons_self]
   show (if (Src.plain ys).still _=true then _ else _)=_
   rw[if_pos (show (Src.plain ys).still _=true from rfl),g8 st f xs (f a x) fun a y hy=>h a y (List.mem_cons_of_mem _ hy)]
   rfl
section
variable{P:Pg}{ρ:Loc}{O:za}{a b c t:CE}{es:CEs}
theorem ju{i:Int}:evE P ρ (.int i) O=.ok (.d (.int i)) O:=rfl
theorem x7{i:Nat}:evE P ρ (.loc i) O=opt (ρ[i]?.join) O:=rfl
theorem zns:evE P ρ (.tup es) O=(evEs P ρ es O).bind fun vs O=>opt (tupV vs) O:=rfl
theorem u4:evE P ρ (.list es) O=(evEs P ρ es O).bind fun vs O=>opt ((allD vs).map fun xs=>.d (.list xs)) O:=rfl
theorem zls:evE P ρ (.boxed a) O=(evE P ρ a O).bind boxK:=rfl
theorem x_nt:evE P ρ (.nt a) O=(evE P ρ a O).bind fun v O=>opt ((truth v).map fun b=>.d (.bool !b)) O:=rfl
theorem zq7:evE P ρ (.and_ a b) O=(evE P ρ a O).bind fun v O=>(opt (truth v) O).bind (andK fun O=>evE P ρ b O):=rfl
theorem x_or:evE P ρ (.or_ a b) O=(evE P ρ a O).bind fun v O=>(opt (truth v) O).bind (orK fun O=>evE P ρ b O):=rfl
theorem zit:evE P ρ (.ite t a b) O=(evE P ρ t O).bind fun v O=>(opt (truth v) O).bind (iteK (fun O=>evE P ρ a O) fun O=>evE P ρ b O):=rfl
theorem u5{op:Bop}:evE P ρ (.bin op a b) O=(evE P ρ a O).bind fun v O=>(evE P ρ b O).bind fun u O=>binK op v u O:=rfl
theorem zcs{op:Cop}:evE P ρ (.cmp op a b) O=(evE P ρ a O).bind fun v O=>(evE P ρ b O).bind fun u O=>cmpV op v u O:=rfl
theorem zlr{p q:Cop}:evE P ρ (.chain p q a b c) O=(evE P ρ a O).bind fun v O=>(evE P ρ b O).bind fun u O=>(cmpV p v u O).bind fun t O=>(opt (truth t) O).bind (andK fun O=>(evE P ρ c O).bind fun y O=>cmpV q u y O):=rfl
theorem zap:evE P ρ (.idx a b) O=(evE P ρ a O).bind fun v O=>(evE P ρ b O).bind fun u O=>idxV v u O:=rfl
theorem zgb:evE P ρ (.slice a b c) O=(evE P ρ a O).bind fun v O=>(evE P ρ b O).bind fun l O=>(evE P ρ c O).bind fun h O=>ze3 v l h O:=rfl
theorem x_call{f:Nat}:evE P ρ (.call f es) O=(evEs P ρ es O).bind fun vs O=>P.call P.hd f vs O:=rfl
theorem zes{p:Prim}:evE P ρ (.prim p es) O=if (P.hd && !p.calm)=true then .stuck else (evEs P ρ es O).bind fun vs O=>prim P p vs O:=rfl
theorem zof{m:Meth}:evE P ρ (.meth m a es) O=(evE P ρ a O).bind fun v O=>if recv m v O then (evEs P ρ es O).bind fun vs O=>meth m v vs O else .stuck:=rfl
theorem kl:evEs P ρ .nil O=.ok [] O:=rfl
theorem x8:evEs P ρ (.cons a es) O=(evE P ρ a O).bind fun v O=>(evEs P ρ es O).bind fun vs O=>.ok (v::vs) O:=rfl
theorem zq6:xy P ρ .nil O=.ok true O:=rfl
theorem zcr:xy P ρ (.cons a es) O=(evE P ρ a O).bind fun v O=>(opt (truth v) O).bind fun t O=>(match t with
 | true=>xy P ρ es O
 | false=>.ok false O):=rfl
theorem x_e:evI P ρ (.e a) O=(evE P ρ a O).bind srcV:=rfl
theorem zl2{n:Nat}{xs:List PyData}(h:O[n]?=some (.lst xs)):srcV (.box n) O=.ok (.box n xs) O:=by unfold srcV;dsimp only;rw[h]
noncomputable def zje(v u:V)(O:za):R za Src:=(xa v u O).bind fun p O=>.ok (.plain (zj p.1 p.2)) O
theorem j5{i j:Int}(h : -(10 ^ 9)≤i∧i≤10 ^ 9∧-(10 ^ 9)≤j∧j≤10 ^ 9):zje (.d (.int i)) (.d (.int j)) O=.ok (.plain (zj i j)) O:=by
 have:xa (.d (.int i)) (.d (.int j)) O=.ok (i,j) O:=if_pos h
 unfold zje;rw[this];rfl
theorem uq:evI P ρ (.range a b) O=((evE P ρ a O).bind fun v O=>(evE P ρ b O).bind fun u O=>xa v u O).bind fun p O=>.ok (.plain (zj p.1 p.2)) O:=rfl
theorem zoi{elt:CE}{tgt:CT}{it:CI}{ifs:CEs}{xs:List PyData}{O':za}(hd:P.hd=false)(hit:evI P ρ it O=.ok (.plain xs) O')(hl:xs.length≤line)(f:PyData→PyData)
 (h:∀ x∈xs,∃ ρ',zp tgt (.d x) ρ=some ρ'∧xy P ρ' ifs O'=.ok true O'∧evE P ρ' elt O'=.ok (.d (f x)) O'):evE P ρ (.comp elt tgt it ifs) O=.ok (.d (.list (xs.map f))) O':=by
 show (if P.hd=true then .stuck else _:R za V)=_
 rw[if_neg (by rw[hd];decide),hit]
 show (if xs.length≤line then _ else _)=_
 rw[if_pos hl]
 refine dn (f:=f) xs [] fun x hx=>?_
 obtain⟨ρ',h1,h2,h3⟩:=h x hx
 unfold xq
 rw[h1]
 dsimp only
 rw[h2]
 simp only[R.bind,h3]
theorem zgc:evS P (.ret a) ρ O=((evE P ρ a O).lift ρ).bind fun v S=>.ok (.ret v) S:=rfl
theorem v0{y:CT}:evS P (.asg y a) ρ O=if (P.hd && !y.isName)=true then .stuck else ((evE P ρ a O).lift ρ).bind (asgR y):=rfl
theorem zao{p q:CSs}:evS P (.ife t p q) ρ O=(((evE P ρ t O).bind fun v O=>opt (truth v) O).lift ρ).bind (ifeK (fun S=>evSs P p S.1 S.2) fun S=>evSs P q S.1 S.2):=rfl
noncomputable def yj(P:Pg)(y:CT)(p:CSs):PyData→Loc→za→R (Loc×za) Fl:=jv y fun ρ O=>evSs P p ρ O
theorem q9{y:CT}{it:CI}{p:CSs}:evS P (.for_ y it p) ρ O=if P.hd=true then .stuck else ((evI P ρ it O).lift ρ).bind fun src S=>z6 src (yj P y p) src.xs S.1 S.2:=rfl
theorem zoh:evS P (.expr a) ρ O=((evE P ρ a O).lift ρ).bind fun _ S=>.ok .next S:=rfl
theorem u0:evSs P .nil ρ O=.ok .next (ρ,O):=rfl
theorem jh{s:CS}{ss:CSs}:evSs P (.cons s ss) ρ O=(evS P s ρ O).bind (seqK fun S=>evSs P ss S.1 S.2):=rfl
end
section
variable{P:Pg}{ρ:Loc}{O:za}
theorem zr{σ α β:Type}{a:α}{s:σ}{f:α→σ→R σ β}:(R.ok a s).bind f=f a s:=rfl
theorem j7{α:Type}{a:α}:(R.ok a O).lift ρ=.ok a (ρ,O):=rfl
theorem jr{α:Type}{a:α}:opt (some a) O=.ok a O:=rfl
theorem zbx{b:Bool}:truth (.d (.bool b))=some b:=rfl
theorem zkl{p q:Loc×za→R (Loc×za) Fl}{S:Loc×za}:ifeK p q true S=p S:=rfl
theorem zg3{p q:Loc×za→R (Loc×za) Fl}{S:Loc×za}:ifeK p q false S=q S:=rfl
theorem ze7{p:Loc×za→R (Loc×za) Fl}{v:V}{S:Loc×za}:seqK p (.ret v) S=.ok (.ret v) S:=rfl
theorem ze8{p:Loc×za→R (Loc×za) Fl}{S:Loc×za}:seqK p .next S=p S:=rfl
theorem d7{i:Nat}{v:V}:zp (.name i) v ρ=if i < ρ.length then some (ρ.set i (some v)) else none:=rfl
theorem zcn:allD []=some []:=rfl
theorem zco{x:PyData}{r:List V}:allD (.d x::r)=(allD r).map (x::·):=rfl
theorem zla:Prim.calm .len=true:=rfl
theorem nm_1{i:Nat}:CT.isName (.name i)=true:=rfl
theorem zgn{p:Prim}{x y:PyData}(h:za0 P p x=some y):prim P p [.d x] O=.ok (.d y) O:=by
 have e:∀ (o:Option PyData),o=some y→(match o with | some y=>R.ok (V.d y) O | none=>.stuck)=R.ok (V.d y) O:=fun o h=>by rw[h]
 cases p with
 | isexc _=>cases h
 | _=>exact e _ h
theorem zb5{xs:List PyData}(h:xs.length≤line):prim P .len [.d (.list xs)] O=.ok (.d (.int xs.length)) O:=zgn (if_pos h)
theorem zbk{α:Type}(g:α→Bool):∀ xs:List α,ve (xs.map fun x=>.bool (g x))=some (xs.map g)
 | []=>rfl
 | x::xs=>by rw[List.map_cons,ve,zbk g xs];rfl
theorem ints_map{α:Type}(g:α→Int):∀ xs:List α,Mine.intsOf (xs.map fun x=>.int (g x))=some (xs.map g)
 | []=>rfl
 | x::xs=>by rw[List.map_cons,Mine.intsOf,ints_map g xs];rfl
theorem za9:∀ xs:List Int,Mine.intsOf (xs.map .int)=some xs
 | []=>rfl
 | x::xs=>by rw[List.map_cons,Mine.intsOf,za9 xs];rfl
theorem zrs{α:Type}{g:α→Bool}{xs:List α}:prim P .all [.d (.list (xs.map fun x=>.bool (g x)))] O=.ok (.d (.bool (xs.all g))) O:=by
 have e:(xs.map g).all id=xs.all g:=by rw[List.all_map];rfl
 rw[← e]
 exact zgn (show (ve (xs.map fun x=>.bool (g x))).map (fun bs=>PyData.bool (bs.all id))=_ by rw[zbk];rfl)
theorem zrr{α:Type}{g:α→Int}{xs:List α}:prim P .sum [.d (.list (xs.map fun x=>.int (g x)))] O=.ok (.d (.int (xs.map g).sum)) O:=
 zgn (show (Mine.intsOf (xs.map fun x=>.int (g x))).map (fun is=>PyData.int is.sum)=_ by rw[ints_map];rfl)
theorem zpc{xs:List PyData}(h:xs.length≤line):prim P .tuple [.d (.list xs)] O=.ok (.d (.tuple xs)) O:=zgn (if_pos h)
theorem v_eq{x y:PyData}:cmpV .eq (.d x) (.d y) O=opt ((vc .eq x y).map fun b=>.d (.bool b)) O:=rfl
theorem v_ne{x y:PyData}:cmpV .ne (.d x) (.d y) O=opt ((vc .ne x y).map fun b=>.d (.bool b)) O:=rfl
theorem v_lt{x y:Int}:cmpV .lt (.d (.int x)) (.d (.int y)) O=.ok (.d (.bool (decide (x < y)))) O:=rfl
theorem v_le{x y:Int}:cmpV .le (.d (.int x)) (.d (.int y)) O=.ok (.d (.bool (decide (x≤y)))) O:=rfl
theorem v_gt{x y:Int}:cmpV .gt (.d (.int x)) (.d (.int y)) O=.ok (.d (.bool (decide (x > y)))) O:=rfl
theorem v6{x k:PyData}:idxV (.d x) (.d k) O=opt ((idxD x k).map .d) O:=rfl
theorem vb{a b:Int}:binK .add (.d (.int a)) (.d (.int b)) O=.ok (.d (.int (a+b))) O:=rfl
theorem uf{a b:Int}:binK .sub (.d (.int a)) (.d (.int b)) O=.ok (.d (.int (a - b))) O:=rfl
theorem zgv{op:Bop}{x y:PyData}:binK op (.d x) (.d y) O=opt ((zbm op x y).map V.d) O:=rfl
theorem zj4{a b:List PyData}(h:a.length+b.length≤line):binK .add (.d (.list a)) (.d (.list b)) O=.ok (.d (.list (a++b))) O:=by rw[zgv];show opt (Option.map V.d (if _ then _ else _)) O=_;rw[if_pos h];rfl
theorem zj2{a b:Int}(h:a.natAbs < 2 ^ 64∨b.natAbs < 2 ^ 64):binK .mul (.d (.int a)) (.d (.int b)) O=.ok (.d (.int (a * b))) O:=by rw[zgv];show opt (Option.map V.d (if _ then _ else _)) O=_;rw[if_pos h];rfl
theorem zb9{a b:Int}(h:b≠0∧b.natAbs < 1073741824):binK .fdiv (.d (.int a)) (.d (.int b)) O=.ok (.d (.int (Int.fdiv a b))) O:=by rw[zgv];show opt (Option.map V.d (if _ then _ else _)) O=_;rw[if_pos h];rfl
theorem zj3{a b:Int}(h:b≠0):binK .mod (.d (.int a)) (.d (.int b)) O=.ok (.d (.int (Int.fmod a b))) O:=by rw[zgv];show opt (Option.map V.d (if _ then _ else _)) O=_;rw[if_neg h];rfl
theorem zdy{a b:Int}:eqOk (.int a) (.int b)=true:=by unfold eqOk;rfl
theorem zg4{a b:Int}:PyData.eqv (.int a) (.int b)=decide (a=b):=by first | rfl | simp[PyData.eqv]
theorem eq_int{a b:Int}:cmpV .eq (.d (.int a)) (.d (.int b)) O=.ok (.d (.bool (decide (a=b)))) O:=by rw[v_eq,vc,zdy,zg4];rfl
theorem ne_int{a b:Int}:cmpV .ne (.d (.int a)) (.d (.int b)) O=.ok (.d (.bool (!decide (a=b)))) O:=by rw[v_ne,vc,zdy,zg4];rfl
end
section
variable{P:Pg}{ρ ρ':Loc}{O O' O'':za}{a b c e t:CE}{es:CEs}{v u:V}
theorem xx(h:evE P ρ e O=.ok v O'):evS P (.expr e) ρ O=.ok .next (ρ,O'):=by rw[zoh,h];rfl
theorem zv{i:Nat}(h:evE P ρ e O=.ok v O')(hi:Nat.blt i ρ.length=true)(hr:ρ.set i (some v)=ρ'):evS P (.asg (.name i) e) ρ O=.ok .next (ρ',O'):=by
 subst hr
 rw[v0,h]
 have:(P.hd && !(CT.name i).isName)=false:=by cases P.hd <;> rfl
 rw[this,if_neg Bool.false_ne_true]
 show (match (if i < ρ.length then some (ρ.set i (some v)) else none) with | some ρ'=>R.ok Fl.next (ρ',O') | none=>.stuck)=_
 rw[if_pos (show i < ρ.length from Nat.le_of_ble_eq_true hi)]
theorem yd{p:CSs}(h:evE P ρ t O=.ok (.d (.bool false)) O'):evS P (.ife t p .nil) ρ O=.ok .next (ρ,O'):=by rw[zao,h];rfl
theorem w_if{p q:CSs}{bb:Bool}(h:evE P ρ t O=.ok (.d (.bool bb)) O'):evS P (.ife t p q) ρ O=if bb then evSs P p ρ O' else evSs P q ρ O':=by rw[zao,h];cases bb <;> rfl
theorem yc(h:evE P ρ e O=.ok v O'):evS P (.ret e) ρ O=.ok (.ret v) (ρ,O'):=by rw[zgc,h];rfl
theorem zc{st:CS}{ss:CSs}(h:evS P st ρ O=.ok .next (ρ',O')):evSs P (.cons st ss) ρ O=evSs P ss ρ' O':=by rw[jh,h];rfl
theorem ze{st:CS}{ss:CSs}{S:Loc×za}(h:evS P st ρ O=.ok (.ret v) S):evSs P (.cons st ss) ρ O=.ok (.ret v) S:=by rw[jh,h];rfl
theorem zi{f:Nat}{vs:List V}{r:R za V}(he:evEs P ρ es O=.ok vs O')(hc:P.call P.hd f vs O'=r):evE P ρ (.call f es) O=r:=by rw[x_call,he];exact hc
theorem zl{vs:List V}(h:evE P ρ a O=.ok v O')(h':evEs P ρ es O'=.ok vs O''):evEs P ρ (.cons a es) O=.ok (v::vs) O'':=by rw[x8,h,zr,h',zr]
theorem w_nt{bb:Bool}(h:evE P ρ a O=.ok (.d (.bool bb)) O'):evE P ρ (.nt a) O=.ok (.d (.bool !bb)) O':=by rw[x_nt,h];rfl
theorem w_or{bb:Bool}(h:evE P ρ a O=.ok (.d (.bool bb)) O'):evE P ρ (.or_ a b) O=if bb then .ok (.d (.bool true)) O' else evE P ρ b O':=by rw[x_or,h];cases bb <;> rfl
theorem w_and{bb:Bool}(h:evE P ρ a O=.ok (.d (.bool bb)) O'):evE P ρ (.and_ a b) O=if bb then evE P ρ b O' else .ok (.d (.bool false)) O':=by rw[zq7,h];cases bb <;> rfl
theorem po{r:R za V}(h:evE P ρ a O=.ok (.d (.bool false)) O')(h':evE P ρ b O'=r):evE P ρ (.or_ a b) O=r:=(w_or h).trans h'
theorem zq8(h:evE P ρ a O=.ok (.d (.bool true)) O'):evE P ρ (.or_ a b) O=.ok (.d (.bool true)) O':=w_or h
theorem u8{r:R za V}(h:evE P ρ a O=.ok (.d (.bool true)) O')(h':evE P ρ b O'=r):evE P ρ (.and_ a b) O=r:=(w_and h).trans h'
theorem zev(h:evE P ρ a O=.ok (.d (.bool false)) O'):evE P ρ (.and_ a b) O=.ok (.d (.bool false)) O':=w_and h
theorem yt{p:Prim}{r:R za V}(hp:(P.hd && !p.calm)=false)(h:evE P ρ a O=.ok v O')(hr:prim P p [v] O'=r):evE P ρ (.prim p (.cons a .nil)) O=r:=by rw[zes,hp,if_neg Bool.false_ne_true,x8,h,zr,kl,zr,zr];exact hr
theorem zt{op:Cop}{r:R za V}(h1:evE P ρ a O=.ok v O')(h2:evE P ρ b O'=.ok u O'')(h3:cmpV op v u O''=r):evE P ρ (.cmp op a b) O=r:=by rw[zcs,h1,zr,h2,zr];exact h3
theorem z8{op:Bop}{r:R za V}(h1:evE P ρ a O=.ok v O')(h2:evE P ρ b O'=.ok u O'')(h3:binK op v u O''=r):evE P ρ (.bin op a b) O=r:=by rw[u5,h1,zr,h2,zr];exact h3
theorem yw{r:R za V}(h1:evE P ρ a O=.ok v O')(h2:evE P ρ b O'=.ok u O'')(h3:idxV v u O''=r):evE P ρ (.idx a b) O=r:=by rw[zap,h1,zr,h2,zr];exact h3
theorem km{m:Meth}{vs:List V}{r:R za V}(h1:evE P ρ a O=.ok v O')(hr:recv m v O'=true)(h2:evEs P ρ es O'=.ok vs O'')(h3:meth m v vs O''=r):evE P ρ (.meth m a es) O=r:=by rw[zof,h1,zr,if_pos hr,h2];exact h3
theorem vn{p:Prim}{x y:PyData}(hv:look O v=some x)(hp:za0 P p x=some y):prim P p [v] O=.ok (.d y) O:=by
 have e:([v].mapM (look O)).bind (p9 P p)=some y:=by rw[List.mapM_cons,hv,List.mapM_nil];exact hp
 have e2:∀ (o:Option PyData),o=some y→(match o with | some y=>R.ok (V.d y) O | none=>.stuck)=R.ok (V.d y) O:=fun o h=>by rw[h]
 cases p with
 | isexc _=>cases hp
 | _=>exact e2 _ e
inductive Seen(O:za):V→List PyData→Prop
 | d (xs:List PyData):Seen O (.d (.list xs)) xs
 | box (n:Nat) (xs:List PyData) (h:O[n]?=some (.lst xs)):Seen O (.box n) xs
theorem Seen.look{xs:List PyData}(h:Seen O v xs):look O v=some (.list xs):=by
 cases h with
 | d xs=>rfl
 | box n xs h=>show kj O n=_;unfold kj;rw[h]
theorem Seen.src{xs:List PyData}(h:Seen O v xs):∃ src:Src,srcV v O=.ok src O∧src.xs=xs∧src.still O=true:=by
 cases h with
 | d xs=>exact⟨_,rfl,rfl,rfl⟩
 | box n xs h=>exact⟨_,zl2 h,rfl,by unfold Src.still;exact @decide_eq_true _ (Classical.propDecidable _) h⟩
theorem Seen.more{xs:List PyData}{bx:Box}(h:Seen O v xs):Seen (O++[bx]) v xs:=by
 cases h with
 | d xs=>exact .d xs
 | box n xs h=>exact .box n xs (by rw[List.getElem?_append_left (qr h)];exact h)
theorem zdn{xs:List PyData}(h:Seen O v xs):prim P (.isinst .list) [v] O=.ok (.d (.bool true)) O:=vn h.look rfl
theorem zdl{xs:List PyData}(h:Seen O v xs)(hl:xs.length≤line):prim P .len [v] O=.ok (.d (.int xs.length)) O:=vn h.look (if_pos hl)
theorem zbg{src:Src}{turn:PyData→za→R za (Option PyData)}{f:PyData→Option PyData}(hs:src.still O=true):∀ (xs acc:List PyData),(∀ x∈xs,turn x O=.ok (f x) O)→yh src turn xs acc O=.ok (.d (.list (acc++xs.filterMap f))) O
 | [],acc,_=>by rw[yh,List.filterMap_nil,List.append_nil]
 | x::xs,acc,h=>by
   rw[yh,h x List.mem_cons_self]
   show (if src.still O=true then _ else _)=_
   rw[if_pos hs,zbg hs xs _ fun y hy=>h y (List.mem_cons_of_mem _ hy),List.append_assoc]
   cases hx:f x with
   | none=>rw[List.filterMap_cons_none hx];rfl
   | some y=>rw[List.filterMap_cons_some hx];rfl
theorem qj{elt:CE}{tgt:CT}{it:CI}{ifs:CEs}{src:Src}(hd:P.hd=false)(hit:evI P ρ it O=.ok src O)(hs:src.still O=true)(hl:src.xs.length≤line)(f:PyData→Option PyData)
 (h:∀ x∈src.xs,xq tgt (fun ρ O=>xy P ρ ifs O) (fun ρ O=>evE P ρ elt O) ρ x O=.ok (f x) O):evE P ρ (.comp elt tgt it ifs) O=.ok (.d (.list (src.xs.filterMap f))) O:=by
 show (if P.hd=true then .stuck else _:R za V)=_
 rw[if_neg (by rw[hd];decide),hit]
 show (if src.xs.length≤line then _ else _)=_
 rw[if_pos hl]
 exact zbg hs src.xs [] h
theorem zgd{elt:CE}{tgt:CT}{it:CI}{src:Src}(hd:P.hd=false)(hit:evI P ρ it O=.ok src O)(hs:src.still O=true)(hl:src.xs.length≤line)(f:PyData→PyData)
 (h:∀ x∈src.xs,∃ ρ',zp tgt (.d x) ρ=some ρ'∧evE P ρ' elt O=.ok (.d (f x)) O):evE P ρ (.comp elt tgt it .nil) O=.ok (.d (.list (src.xs.map f))) O:=by
 rw[← List.filterMap_eq_map]
 refine qj hd hit hs hl _ fun x hx=>?_
 obtain⟨ρ',h1,h2⟩:=h x hx
 unfold xq
 rw[h1]
 show R.bind (evE P ρ' elt O) _=_
 rw[h2];rfl
theorem ur{elt:CE}{tgt:CT}{it:CI}{src:Src}{xs:List PyData}(g:PyData→Bool)(hd:P.hd=false)(hit:evI P ρ it O=.ok src O)(hx:src.xs=xs)(hs:src.still O=true)(hl:xs.length≤line)
 (h:∀ x∈xs,∃ ρ',zp tgt (.d x) ρ=some ρ'∧evE P ρ' elt O=.ok (.d (.bool (g x))) O):evE P ρ (.prim .all (.cons (.comp elt tgt it .nil) .nil)) O=.ok (.d (.bool (xs.all g))) O:=by
 subst hx
 refine yt (by rw[hd];rfl) (zgd hd hit hs hl (fun x=>.bool (g x)) h) ?_
 exact zrs
end
end Mine
end
section
namespace Mine.L09
open PySem Mine
section
variable{P:Pg}{ρ:Loc}{O:za}{a b c:CE}
theorem zoe:evE P ρ (.min2 a b) O=if P.hd=true then .stuck else (evE P ρ a O).bind fun v O=>(evE P ρ b O).bind fun u O=>minV v u O:=rfl
theorem zog:evE P ρ (.lenS a) O=if P.hd=true then .stuck else (evE P ρ a O).bind fun v O=>opt (((look O v).bind gu).map .d) O:=rfl
end
noncomputable abbrev PG(k:Nat)(hd:Bool):Pg:={ P with call:=zg P table k,hd:=hd }
theorem jz{k:Nat}{hd:Bool}{f:Nat}{fn:Fn}{args:List V}{O:za}(h:table f=some fn)(hl:args.length=fn.arity∧fn.arity≤fn.slots):zg P table (k+1) hd f args O=evFn (PG k hd) fn args O:=by
 rw[zg,h];exact if_pos hl
section
variable{k:Nat}{hd:Bool}{f:Nat}{fn:Fn}{args:List V}{O:za}{ρ ρ':Loc}{x:PyData}(h:table f=some fn)(hl:args.length=fn.arity∧fn.arity≤fn.slots)(hρ:args.map some++List.replicate (fn.slots - fn.arity) none=ρ)
include h hl hρ
theorem dz{O':za}(hb:evSs (PG k hd) fn.body ρ O=.ok (.ret (.d x)) (ρ',O++O')):zg P table (k+1) hd f args O=.ok (.d x) O:=by
 rw[jz h hl,evFn,hρ,hb]
 show R.ok (V.d x) ((O++O').take O.length)=_
 rw[List.take_left']
 rfl
theorem zq(hb:evSs (PG k hd) fn.body ρ O=.ok (.ret (.d x)) (ρ',O)):zg P table (k+1) hd f args O=.ok (.d x) O:=
 dz (O':=[]) h hl hρ (by rw[List.append_nil];exact hb)
theorem zim(hb:evSs (PG k hd) fn.body ρ O=.ok .next (ρ',O)):zg P table (k+1) hd f args O=.ok (.d .none) O:=by
 rw[jz h hl,evFn,hρ,hb]
 show R.ok (V.d .none) (O.take O.length)=_
 rw[List.take_length]
end
noncomputable def good(m:Nat)(c:List Int):Prop:=c.length=m∧∀ i∈c,-1≤i∧i≤1
noncomputable def m4(m:Nat):Prop:=2≤m∧m≤5
theorem uc{m:Nat}(h:m4 m):m=2∨m=3∨m=4∨m=5:=by have:=h.1;have:=h.2;omega
structure Found(m:Nat)(cs:List (List Int)):Prop where
 good:∀ c∈cs,good m c
 nodup:cs.Nodup
 pos:1≤cs.length
 le:cs.length≤12
noncomputable def caseD(c:List Int):PyData:=.tuple (c.map .int)
noncomputable def zb(cs:List (List Int)):List PyData:=cs.map caseD
theorem zz{cs:List (List Int)}:(zb cs).length=cs.length:=List.length_map _
theorem g9:∀ (kss K:List (List Int)),(K++kss).Nodup→kss.foldl addK K=K++kss
 | [],K,_=>(List.append_nil K).symm
 | k::kss,K,h=>by
   have hk:k∉K:=fun hm=>(List.nodup_append.mp h).2.2 k hm k List.mem_cons_self rfl
   rw[List.foldl_cons]
   have:addK K k=K++[k]:=by unfold addK;rw[if_neg hk]
   rw[this,g9 kss (K++[k]) (by rw[List.append_assoc];exact h),List.append_assoc];rfl
theorem vg:∀ cs:List (List Int),ja (zb cs)=some cs
 | []=>rfl
 | c::cs=>by
   show ((intsOf (c.map .int)).bind fun a=>(ja (zb cs)).map (a::·))=_
   rw[za9,vg cs];rfl
theorem zfn{cs:List (List Int)}(h:cs.length≤17)(hn:cs.Nodup):gu (.list (zb cs))=some (.int cs.length):=by
 show ((ja (zb cs)).bind fun kss=>if kss.length≤17 then some (PyData.int (yo kss kss.length).length) else none)=_
 rw[vg]
 show (if cs.length≤17 then _ else _)=_
 rw[if_pos h,show yo cs cs.length=cs by unfold yo;rw[List.take_length];exact g9 cs [] hn]
noncomputable def allC:Nat→List (List Int)
 | 0=>[[]]
 | n+1=>(allC n).flatMap fun c=>[-1::c,0::c,1::c]
theorem zdh:∀ {m:Nat} {c:List Int},good m c→c∈allC m
 | 0,c,h=>by
   have:=List.length_eq_zero_iff.mp h.1
   subst this;exact List.mem_singleton.mpr rfl
 | m+1,c,h=>by
   cases c with
   | nil=>cases h.1
   | cons i c=>
     refine List.mem_flatMap.mpr ⟨c,zdh ⟨Nat.succ.inj h.1,fun j hj=>h.2 j (List.mem_cons_of_mem _ hj)⟩,?_⟩
     have hi:=h.2 i List.mem_cons_self
     have:i = -1∨i=0∨i=1:=by omega
     rcases this with rfl | rfl | rfl <;> simp
theorem vo{α β:Type}{f g:α→β}{l:List α}(h:l.map f=l.map g){x:α}(hx:x∈l):f x=g x:=List.map_inj_left.mp h x hx
noncomputable def Tk:Nat→za→za
 | 0,O=>O
 | n+1,O=>Tk n (O.take O.length)
theorem zlk:∀ (n:Nat) (O:za),Tk n O=O
 | 0,_=>rfl
 | n+1,O=>by rw[Tk,List.take_length];exact zlk n O
noncomputable abbrev zeg(m k:Nat)(O:za):Prop:=(allC m).map (fun c=>zg P table (k+2) false 2 [.d (.int m),.d (caseD c)] O)=(allC m).map fun _=>.ok (.d (.bool true)) ((Tk m O).take O.length)
theorem zs4{k:Nat}{O:za}:zeg 2 k O:=by kernel_rfl
theorem zs3{k:Nat}{O:za}:zeg 3 k O:=by kernel_rfl
theorem zs2{k:Nat}{O:za}:zeg 4 k O:=by kernel_rfl
theorem zs1{k:Nat}{O:za}:zeg 5 k O:=by kernel_rfl
theorem zd2{k m:Nat}{c:List Int}{O:za}(hm:m4 m)(h:good m c):zg P table (k+2) false 2 [.d (.int m),.d (caseD c)] O=.ok (.d (.bool true)) O:=by
 have hc:=zdh h
 have hq:zeg m k O:=by
  rcases uc hm with rfl | rfl | rfl | rfl
  ·exact zs4
  ·exact zs3
  ·exact zs2
  ·exact zs1
 refine (vo hq hc).trans ?_
 rw[zlk,List.take_length]
theorem zm8{k m:Nat}{O:za}(hm:m4 m):zg P table (k+2) false 1 [.d (.int m)] O=.ok (.d .none) O:=by
 have:zg P table (k+2) false 1 [.d (.int m)] O=.ok (.d .none) ((O.take O.length).take O.length):=by rcases uc hm with rfl | rfl | rfl | rfl <;> kernel_rfl
 rw[this,List.take_length,List.take_length]
theorem zku{k m:Nat}{cs:List (List Int)}{v:V}{O:za}(hm:m4 m)(f:Found m cs)(h:Seen O v (zb cs)):zg P table (k+3) false 3 [.d (.int m),v] O=.ok (.d .none) O:=by
 have f1:=f.pos
 have f2:=f.le
 have hl:(zb cs).length≤line:=by rw[zz];exact Nat.le_trans f.le (by decide)
 obtain⟨src,s1,s2,s3⟩:=h.src
 have pl:prim (PG (k+2) false) .len [v] O=.ok (.d (.int cs.length)) O:=by rw[zdl h hl,zz]
 have le:evE (PG (k+2) false) [some (.d (.int m)),some v,none] (.prim .len (.cons (.loc 1) .nil)) O=.ok (.d (.int cs.length)) O:=yt rfl rfl pl
 have d1:decide ((1:Int)≤(cs.length:Int))=true:=decide_eq_true (by omega)
 have d2:decide ((cs.length:Int)≤12)=true:=decide_eq_true (by omega)
 have d3:decide ((cs.length:Int) < (cs.length:Int))=false:=decide_eq_false (by omega)
 have t1:evE (PG (k+2) false) [some (.d (.int m)),some v,none] (.chain .le .le (.int 1) (.prim .len (.cons (.loc 1) .nil)) (.glob 2)) O=.ok (.d (.bool true)) O:=by
  rw[zlr,ju,zr,le,zr,v_le,d1]
  show cmpV .le (.d (.int cs.length)) (.d (.int 12)) O=_
  rw[v_le,d2]
 have t2:evE (PG (k+2) false) [some (.d (.int m)),some v,none] (.prim .all (.cons (.comp (.call 2 (.cons (.loc 0) (.cons (.loc 2) .nil))) (.name 2) (.e (.loc 1)) .nil) .nil)) O=.ok (.d (.bool true)) O:=by
  have:=ur (P:=PG (k+2) false) (ρ:=[some (.d (.int m)),some v,none]) (elt:=.call 2 (.cons (.loc 0) (.cons (.loc 2) .nil))) (tgt:=.name 2) (it:=.e (.loc 1)) (O:=O) (fun _=>true) rfl s1 s2 s3 hl fun x hx=>⟨[some (.d (.int m)),some v,some (.d x)],rfl,by
   obtain⟨c,hc,rfl⟩:=List.mem_map.mp hx
   exact zi rfl (zd2 hm (f.good c hc))⟩
  rw[this]
  congr 4
  exact List.all_eq_true.mpr fun _ _=>rfl
 have t3:evE (PG (k+2) false) [some (.d (.int m)),some v,none] (.lenS (.loc 1)) O=.ok (.d (.int cs.length)) O:=by
  rw[zog,if_neg Bool.false_ne_true]
  show opt (((look O v).bind gu).map V.d) O=_
  rw[h.look]
  show opt ((gu (.list (zb cs))).map V.d) O=_
  rw[zfn (by omega) f.nodup];rfl
 refine zim (fn:=c3) (ρ':=[some (.d (.int m)),some v,none]) rfl ⟨rfl,by decide⟩ rfl ?_
 refine (zc (xx (zi rfl (zm8 hm)))).trans ?_
 refine (zc (yd (po (w_nt (yt rfl rfl (zdn h))) (w_nt t1)))).trans ?_
 refine (zc (yd (w_nt t2))).trans ?_
 refine (zc (yd (zt t3 le ?_))).trans rfl
 rw[v_lt,d3]
theorem zdr{is:List Int}{j:Nat}(hl:is.length≤line)(hj:j < is.length):idxD (.list (is.map .int)) (.int j)=some (.int (is.getD j 0)):=by
 have e:(is.map PyData.int)[j]?=some (.int (is.getD j 0)):=by
  rw[List.getElem?_map,List.getD_eq_getElem?_getD,List.getElem?_eq_getElem hj];rfl
 unfold idxD items
 dsimp only
 rw[List.length_map,if_pos hl,if_pos (by omega)]
 exact e
theorem zdu{a:Int}{n:Nat}(hn:0 < n):∃ j:Nat,j < n∧Int.fmod a (n:Int)=(j:Int):=by
 have h1:Int.fmod a (n:Int)=a % (n:Int):=Int.fmod_eq_emod_of_nonneg _ (by omega)
 have h2:=Int.emod_nonneg a (show (n:Int)≠0 by omega)
 have h3:=Int.emod_lt_of_pos a (show (0:Int) < n by omega)
 exact⟨(a % (n:Int)).toNat,by omega,by rw[h1];omega⟩
theorem zcb{xs:List PyData}{j n:Nat}(hx:xs.length=n)(hl:n≤line)(hj:j < n):∃ y∈xs,idxD (.list xs) (.int j)=some y:=by
 have hj':j < xs.length:=by omega
 refine⟨xs[j],List.getElem_mem hj',?_⟩
 unfold idxD items
 dsimp only
 rw[hx,if_pos hl,if_pos (by omega)]
 exact List.getElem?_eq_getElem hj'
theorem zfj{a:Int}{n:Nat}{O:za}(hn:0 < n):∃ j:Nat,j < n∧Int.fmod a (n:Int)=(j:Int)∧binK .mod (.d (.int a)) (.d (.int (n:Int))) O=.ok (.d (.int (j:Int))) O:=by
 obtain⟨j,hj,e⟩:=zdu (a:=a) hn
 exact⟨j,hj,e,by rw[zj3 (by omega),e]⟩
theorem zql{k:Nat}{s:List Int}{j:Nat}{O:za}(hs:s.length≤63):zg P table (k+1) false 24 [.d (.list (s.map .int)),.d (.int j)] O=.ok (.d (.int (s.getD j 0))) O:=by
 refine zq (fn:=c24) (ρ:=[some (.d (.list (s.map .int))),some (.d (.int j))]) (ρ':=[some (.d (.list (s.map .int))),some (.d (.int j))]) rfl ⟨rfl,by decide⟩ rfl ?_
 have hlen:(s.map PyData.int).length≤line:=by rw[List.length_map];exact Nat.le_trans hs (by decide)
 by_cases h:j < s.length
 ·have hd:decide ((j:Int) < ((s.map PyData.int).length:Int))=true:=decide_eq_true (by rw[List.length_map];omega)
  simp only[c24,ju,x7,zcs,zap,zes,kl,x8,zgc,zao,u0,jh,zr,j7,jr,zbx,zkl,ze7,v_lt,v6,Option.map_some,Option.join_some,List.getElem?_cons_zero,List.getElem?_cons_succ,Bool.not_true,Bool.and_false,Bool.false_eq_true,if_false,zla,zb5 hlen,hd,zdr (Nat.le_trans hs (by decide)) h]
 ·have hd:decide ((j:Int) < ((s.map PyData.int).length:Int))=false:=decide_eq_false (by rw[List.length_map];omega)
  have e:s.getD j 0=0:=by rw[List.getD_eq_getElem?_getD,List.getElem?_eq_none (by omega)];rfl
  simp only[c24,ju,x7,zcs,zap,zes,kl,x8,zgc,zao,u0,jh,zr,j7,jr,zbx,zg3,ze7,ze8,v_lt,Option.join_some,List.getElem?_cons_zero,List.getElem?_cons_succ,Bool.not_true,Bool.and_false,Bool.false_eq_true,if_false,zla,zb5 hlen,hd,e]
noncomputable def mixI(s:List Int)(j:Nat):Int:=Int.fdiv (Int.fmod ((s.getD j 0+7919 * (j:Int)+13) * 48271) 2147483647) 3
theorem wp{k:Nat}{s:List Int}{j:Nat}{O:za}(hs:s.length≤63):zg P table (k+2) false 25 [.d (.list (s.map .int)),.d (.int j)] O=.ok (.d (.int (mixI s j))) O:=by
 refine zq (fn:=c25) (ρ:=[some (.d (.list (s.map .int))),some (.d (.int j))]) (ρ':=[some (.d (.list (s.map .int))),some (.d (.int j))]) rfl ⟨rfl,by decide⟩ rfl ?_
 have e1:∀ n:Int,binK .mul (.d (.int 7919)) (.d (.int n)) O=.ok (.d (.int (7919 * n))) O:=fun n=>zj2 (.inl (by decide))
 have e2:∀ n:Int,binK .mul (.d (.int n)) (.d (.int 48271)) O=.ok (.d (.int (n * 48271))) O:=fun n=>zj2 (.inr (by decide))
 have e3:∀ n:Int,binK .mod (.d (.int n)) (.d (.int 2147483647)) O=.ok (.d (.int (Int.fmod n 2147483647))) O:=fun n=>zj3 (by decide)
 have e4:∀ n:Int,binK .fdiv (.d (.int n)) (.d (.int 3)) O=.ok (.d (.int (Int.fdiv n 3))) O:=fun n=>zb9 ⟨by decide,by decide⟩
 simp only[c25,ju,x7,u5,x_call,kl,x8,zgc,u0,jh,zr,j7,jr,ze7,vb,Option.join_some,List.getElem?_cons_zero,List.getElem?_cons_succ,zql hs,e1,e2,e3,e4,mixI]
noncomputable def wg(m j:Nat):List (List Int):=match zg P table 1 false 28 [.d (.int m),.d (.int j)] [] with
 | .ok (.d (.list xs)) _=>(ja xs).getD []
 | _=>[]
noncomputable def mjs:List (Nat×Nat):=[2,3,4,5].flatMap fun m=>[0,1,2,3,4].map fun j=>(m,j)
theorem zgo{m j:Nat}(hm:m4 m)(hj:j < 5):(m,j)∈mjs:=by
 have h2:j=0∨j=1∨j=2∨j=3∨j=4:=by omega
 exact List.mem_flatMap.mpr ⟨m,by rcases uc hm with rfl | rfl | rfl | rfl <;> simp,List.mem_map.mpr ⟨j,by rcases h2 with rfl | rfl | rfl | rfl | rfl <;> simp,rfl⟩⟩
noncomputable def zkd(m:Nat)(c:List Int):Bool:=c.length == m && c.all fun i=>decide (-1≤i) && decide (i≤1)
theorem zfz{m:Nat}{c:List Int}(h:zkd m c=true):good m c:=by
 unfold zkd at h
 rw[Bool.and_eq_true,beq_iff_eq] at h
 refine⟨h.1,fun i hi=>?_⟩
 have:=List.all_eq_true.mp h.2 i hi
 rw[Bool.and_eq_true,decide_eq_true_eq,decide_eq_true_eq] at this
 exact this
theorem zjh:(mjs.all fun p=>(wg p.1 p.2).all (zkd p.1) && decide (1≤(wg p.1 p.2).length) && decide ((wg p.1 p.2).length≤30))=true:=by kernel_rfl
theorem zhu{m j:Nat}(hm:m4 m)(hj:j < 5):(∀ c∈wg m j,good m c)∧1≤(wg m j).length∧(wg m j).length≤30:=by
 have h:=List.all_eq_true.mp zjh _ (zgo hm hj)
 rw[Bool.and_eq_true,Bool.and_eq_true,decide_eq_true_eq,decide_eq_true_eq] at h
 exact⟨fun c hc=>zfz (List.all_eq_true.mp h.1.1 c hc),h.1.2,h.2⟩
theorem zmb{k:Nat}{xs:List PyData}:mjs.map (fun p=>zg P table (k+1) false 28 [.d (.int p.1),.d (.int p.2)] [Box.lst xs])=mjs.map fun p=>.ok (.d (.list (zb (wg p.1 p.2)))) [Box.lst xs]:=by kernel_rfl
theorem zqf{k m j:Nat}{xs:List PyData}(hm:m4 m)(hj:j < 5):zg P table (k+1) false 28 [.d (.int m),.d (.int j)] [Box.lst xs]=.ok (.d (.list (zb (wg m j)))) [Box.lst xs]:=vo zmb (zgo hm hj)
theorem wn{ys:List PyData}{turn:PyData→Loc→za→R (Loc×za) Fl}(I:Nat→Loc→za→Prop):∀ (xs:List PyData) (i:Nat) (ρ:Loc) (O:za),(∀ j x,xs[j]?=some x→∀ ρ O,I (i+j) ρ O→∃ ρ' O',turn x ρ O=.ok .next (ρ',O')∧I (i+j+1) ρ' O')→I i ρ O →
 ∃ ρ' O',z6 (.plain ys) turn xs ρ O=.ok .next (ρ',O')∧I (i+xs.length) ρ' O'
 | [],i,ρ,O,_,hi=>⟨ρ,O,rfl,hi⟩
 | x::xs,i,ρ,O,h,hi=>by
   obtain⟨ρ',O',e,hi'⟩:=h 0 x rfl ρ O hi
   obtain⟨ρ₂,O₂,e₂,hi₂⟩:=wn I xs (i+1) ρ' O' (fun j y hy ρ O hI=>by
    have:=h (j+1) y hy ρ O (by rw[show i+(j+1)=i+1+j by omega];exact hI)
    rwa [show i+(j+1)+1=i+1+j+1 by omega] at this) hi'
   refine⟨ρ₂,O₂,?_,by rw[List.length_cons,show i+(xs.length+1)=i+1+xs.length by omega];exact hi₂⟩
   rw[z6,e]
   show (if (Src.plain ys).still _=true then _ else _)=_
   rw[if_pos (show (Src.plain ys).still _=true from rfl)];exact e₂
theorem gn{a n:Int}{j:Nat}{x:PyData}(h:(zj a n)[j]?=some x):x=.int (a+j):=by
 unfold zj at h
 rw[List.getElem?_map] at h
 obtain⟨i,hi,rfl⟩:=Option.map_eq_some_iff.mp h
 have:=List.getElem?_eq_some_iff.mp hi
 obtain⟨h1,h2⟩:=this
 rw[List.getElem_range] at h2
 rw[h2]
theorem xl{a n:Int}:(zj a n).length=(n - a).toNat:=by unfold zj;rw[List.length_map,List.length_range]
noncomputable def toI:PyData→Int
 | .int n=>n
 | _=>0
noncomputable def pow3:List Int:=[1,3,9,27,81]
noncomputable def un(n:Int)(m:Nat):List Int:=(List.range m).map fun i=>Int.fmod (Int.fdiv n (pow3.getD i 0)) 3 - 1
theorem dw{n:Int}{m:Nat}:good m (un n m):=by
 refine⟨by unfold un;rw[List.length_map,List.length_range],fun i hi=>?_⟩
 unfold un at hi
 obtain⟨j,_,rfl⟩:=List.mem_map.mp hi
 obtain⟨t,ht,e⟩:=zdu (a:=Int.fdiv n (pow3.getD j 0)) (n:=3) (by decide)
 have e:Int.fmod (Int.fdiv n (pow3.getD j 0)) 3=(t:Int):=e
 rw[e]
 omega
theorem zik{k:Nat}{ρ:Loc}{O:za}{n:Int}{m:Nat}{a b c:Nat}(hm:m4 m)(hc:c < ρ.length)(hac:a≠c)(ha:ρ[a]?=some (some (.d (.int n))))(hb:ρ[b]?=some (some (.d (.int m)))) :
 evE (PG k false) ρ (.comp (.bin .sub (.bin .mod (.bin .fdiv (.loc a) (.idx (.list (.cons (.int 1) (.cons (.int 3) (.cons (.int 9) (.cons (.int 27) (.cons (.int 81) .nil)))))) (.loc c))) (.int 3)) (.int 1)) (.name c) (.range (.int 0) (.loc b)) .nil) O=.ok (.d (.list ((un n m).map .int))) O:=by
 have key:(un n m).map PyData.int=(zj 0 m).map fun x=>.int (Int.fmod (Int.fdiv n (pow3.getD (toI x).toNat 0)) 3 - 1):=by
  unfold un zj
  rw[List.map_map,List.map_map]
  have:((m:Int) - 0).toNat=m:=by omega
  rw[this]
  refine List.map_congr_left fun i hi=>?_
  show PyData.int _=PyData.int (Int.fmod (Int.fdiv n (pow3.getD (toI (.int ((0:Int)+i))).toNat 0)) 3 - 1)
  have:(toI (.int ((0:Int)+i))).toNat=i:=by show ((0:Int)+i).toNat=i;omega
  rw[this]
 rw[key]
 have hm5:=hm.2
 have hb':opt (ρ[b]?.join) O=.ok (.d (.int m)) O:=by rw[hb];rfl
 refine zoi rfl (O':=O) (xs:=zj 0 m) (by
  simp only[uq,ju,x7,hb',zr]
  exact j5 (by omega)) (by rw[xl];exact Nat.le_trans (show ((m:Int) - 0).toNat≤5 by omega) (by decide)) _ fun x hx=>⟨ρ.set c (some (.d x)),if_pos hc,zq6,?_⟩
 obtain⟨i',hi',rfl⟩:=List.mem_map.mp hx
 rw[List.mem_range] at hi'
 have e0:((0:Int)+(i':Int))=(i':Int):=by omega
 have hi5:i' < 5:=by omega
 have ip:idxD (.list [.int 1,.int 3,.int 9,.int 27,.int 81]) (.int (i':Int))=some (.int (pow3.getD i' 0)):=zdr (is:=pow3) (by decide) hi5
 have hp3:pow3.getD i' 0≠0∧(pow3.getD i' 0).natAbs < 1073741824:=by
  have:i'=0∨i'=1∨i'=2∨i'=3∨i'=4:=by omega
  rcases this with rfl | rfl | rfl | rfl | rfl <;> decide
 have fp:binK .fdiv (.d (.int n)) (.d (.int (pow3.getD i' 0))) O=.ok (.d (.int (Int.fdiv n (pow3.getD i' 0)))) O:=zb9 hp3
 have m3:∀ z:Int,binK .mod (.d (.int z)) (.d (.int 3)) O=.ok (.d (.int (Int.fmod z 3))) O:=fun z=>zj3 (by decide)
 have et:(toI (.int (i':Int))).toNat=i':=by show (i':Int).toNat=i';omega
 rw[e0]
 have h1:opt ((ρ.set c (some (.d (.int (i':Int)))))[a]?.join) O=.ok (.d (.int n)) O:=by rw[List.getElem?_set_ne (Ne.symm hac),ha];rfl
 have h2:opt ((ρ.set c (some (.d (.int (i':Int)))))[c]?.join) O=.ok (.d (.int (i':Int))) O:=by rw[List.getElem?_set_self hc];rfl
 simp only[u5,zap,u4,x8,kl,ju,x7,h1,h2,zr,jr,zco,zcn,Option.map_some,v6,ip,fp,m3,uf,et]
theorem app0{xs:List PyData}{x:PyData}(h:xs.length < line):meth .append (.box 0) [.d x] [Box.lst xs]=.ok (.d .none) [Box.lst (xs++[x])]:=by
 show (if xs.length < line then _ else _)=_
 rw[if_pos h];rfl
theorem app1{b:Box}{xs:List PyData}{x:PyData}(h:xs.length < line):meth .append (.box 1) [.d x] [b,Box.lst xs]=.ok (.d .none) [b,Box.lst (xs++[x])]:=by
 show (if xs.length < line then _ else _)=_
 rw[if_pos h];rfl
theorem um{cs:List (List Int)}{c:List Int}:zb cs++[.tuple (c.map .int)]=zb (cs++[c]):=by unfold zb;rw[List.map_append];rfl
theorem dv{c b:Int}{O:za}(h:b≠0∧b.natAbs < 1073741824):binK .fdiv (.d (.int c)) (.d (.int b)) O=.ok (.d (.int (Int.fdiv c b))) O:=zb9 h
theorem md(a:Int)(n:Nat)(O:za)(hn:0 < n):∃ j:Nat,j < n∧binK .mod (.d (.int a)) (.d (.int (n:Int))) O=.ok (.d (.int (j:Int))) O:=let ⟨j,hj,_,e⟩:=zfj (a:=a) (O:=O) hn;⟨j,hj,e⟩
noncomputable def xt:CSs:=(.cons (.asg (.name 8) (.call 25 (.cons (.loc 0) (.cons (.bin .add (.bin .add (.loc 1) (.int 1)) (.loc 7)) .nil)))) (.cons (.expr (.meth .append (.loc 6) (.cons (.prim .tuple (.cons (.comp (.bin .sub (.bin .mod (.bin .fdiv (.loc 8) (.idx (.list (.cons (.int 1) (.cons (.int 3) (.cons (.int 9) (.cons (.int 27) (.cons (.int 81) .nil)))))) (.loc 11))) (.int 3)) (.int 1)) (.name 11) (.range (.int 0) (.loc 4)) .nil) .nil)) .nil))) .nil))
noncomputable def L1(s:List Int)(n0:Int)(m w:Nat)(pv:V)(a b:Option V):Loc:=[some (.d (.list (s.map .int))),some (.d (.int 6)),some (.d (.int 4)),some (.d (.int n0)),some (.d (.int m)),some (.d (.int w)),some pv,a,b,none,none,none]
inductive AtD(s:List Int)(n0:Int)(m w:Nat)(i:Nat):Loc→za→Prop
 | mk (a b:Option V) (cs:List (List Int)) (g:∀ c∈cs,good m c) (len:cs.length=i):AtD s n0 m w i (L1 s n0 m w (.box 0) a b) [Box.lst (zb cs)]
theorem zov{k:Nat}{s:List Int}{n0:Int}{m w i:Nat}{ρ:Loc}{O:za}(hs:s.length≤63)(hm:m4 m)(hi:i < 100)(h:AtD s n0 m w i ρ O) :
 ∃ ρ' O',yj (PG (k+2) false) (.name 7) xt (.int (0+(i:Int))) ρ O=.ok .next (ρ',O')∧AtD s n0 m w (i+1) ρ' O':=by
 obtain⟨a,b,cs,g,len⟩:=h
 have n1:=wp (k:=k) (j:=7+i) (O:=[Box.lst (zb cs)]) hs
 rw[show ((7+i:Nat):Int)=(6:Int)+1+(0+(i:Int)) by omega] at n1
 generalize mixI s (7+i)=n at n1
 have hl':(zb cs).length < line:=by rw[zz,len];exact Nat.lt_of_lt_of_le hi (by decide)
 have cc:=zik (k:=k+2) (ρ:=L1 s n0 m w (.box 0) (some (.d (.int (0+(i:Int))))) (some (.d (.int n)))) (O:=[Box.lst (zb cs)]) (n:=n) (m:=m) (a:=8) (b:=4) (c:=11) hm (by show 11 < 12;decide) (by decide) rfl rfl
 have ap:=app0 (x:=.tuple ((un n m).map .int)) hl'
 rw[um] at ap
 refine⟨L1 s n0 m w (.box 0) (some (.d (.int (0+(i:Int))))) (some (.d (.int n))),_,?_,.mk _ _ (cs++[un n m]) (fun c hc=>(List.mem_append.mp hc).elim (g c) fun h=>List.mem_singleton.mp h ▸ dw) (by rw[List.length_append,len];rfl)⟩
 show evSs (PG (k+2) false) xt (L1 s n0 m w (.box 0) (some (.d (.int (0+(i:Int))))) b) [Box.lst (zb cs)]=_
 unfold xt
 exact (zc (zv (ρ':=L1 s n0 m w (.box 0) (some (.d (.int (0+(i:Int))))) (some (.d (.int n)))) (zi rfl n1) rfl rfl)).trans ((zc (xx (km rfl rfl (zl (yt rfl cc (zpc (by rw[List.length_map,(dw (n:=n) (m:=m)).1];exact Nat.le_trans hm.2 (by decide)))) rfl) ap))).trans rfl)
theorem zpp{k:Nat}{s:List Int}{n0:Int}{m w:Nat}(hs:s.length≤63)(hm:m4 m):∃ a b cs,z6 (.plain (zj 0 12)) (yj (PG (k+2) false) (.name 7) xt) (zj 0 12) (L1 s n0 m w (.box 0) none none) [Box.lst []]=.ok .next (L1 s n0 m w (.box 0) a b,[Box.lst (zb cs)])∧(∀ c∈cs,good m c)∧cs.length=12:=by
 obtain⟨ρ',O',e,h⟩:=wn (ys:=zj 0 12) (turn:=yj (PG (k+2) false) (.name 7) xt) (AtD s n0 m w) (zj 0 12) 0 (L1 s n0 m w (.box 0) none none) [Box.lst []]
  (fun j x hx ρ O h=>by
    have hj:j < 12:=by have:=(List.getElem?_eq_some_iff.mp hx).1;rw[xl] at this;exact this
    rw[gn hx]
    rw[Nat.zero_add] at h ⊢
    exact zov hs hm (by omega) h) (.mk none none [] (fun _ h=>nomatch h) rfl)
 obtain⟨a,b,cs,g,len⟩:=h
 exact⟨a,b,cs,e,g,by rw[len,xl];rfl⟩
theorem zdx{a c:List Int}:PyData.eqv (caseD a) (caseD c)=decide (a=c):=qa a c
theorem gy{c:List Int}:(caseD c).canLay0=true:=lays c
theorem xm:∀ cs:List (List Int),PyData.canLayAll0 (zb cs)=true
 | []=>rfl
 | c::cs=>by
   show ((caseD c).canLay0 && PyData.canLayAll0 (zb cs))=true
   rw[gy,xm cs];rfl
theorem dj(c:List Int):(caseD c).depth≤1:=Nat.succ_le_succ (qc c)
theorem zen{c:List Int}:∀ cs:List (List Int),((zb cs).any fun y=>PyData.eqv y (caseD c))=decide (c∈cs)
 | []=>rfl
 | a::cs=>by
   show (PyData.eqv (caseD a) (caseD c) || (zb cs).any fun y=>PyData.eqv y (caseD c))=_
   rw[zen cs,zdx]
   by_cases h:a=c
   ·subst h;simp
   ·have h':¬ c=a:=fun e=>h e.symm
    simp[h,h']
theorem zka{c:List Int}{cs:List (List Int)}:inD (caseD c) (zb cs)=some (decide (c∈cs)):=by
 unfold inD
 have h:=dj c
 rw[gy,xm,zen,if_pos]
 rw[decide_eq_true (show (caseD c).depth≤100 by omega)];rfl
theorem zpg{b:Box}{c:List Int}{cs:List (List Int)}:cmpV .notin (.d (caseD c)) (.box 1) [b,Box.lst (zb cs)]=.ok (.d (.bool !decide (c∈cs))) [b,Box.lst (zb cs)]:=by
 show opt (((inD (caseD c) (zb cs)).map (!·)).map fun b=>V.d (.bool b)) _=_
 rw[zka];rfl
theorem j9{k:Nat}{v:V}{xs:List PyData}{O:za}(h:look O v=some (.list xs))(hl:xs.length≤line):prim (PG k false) .len [v] O=.ok (.d (.int xs.length)) O:=vn h (if_pos hl)
theorem zkc{v:V}{k x:PyData}{O:za}(h:look O v=some x):idxV v (.d k) O=opt ((idxD x k).map .d) O:=by
 show opt (((look O v).bind fun x=>idxD x k).map V.d) O=_
 rw[h];rfl
noncomputable def jc:CSs:=(.cons (.asg (.name 10) (.idx (.loc 6) (.bin .mod (.bin .add (.bin .fdiv (.loc 8) (.int 8)) (.bin .mul (.loc 7) (.bin .add (.int 1) (.bin .mod (.bin .fdiv (.loc 8) (.int 64)) (.int 2))))) (.prim .len (.cons (.loc 6) .nil))))) (.cons (.ife (.cmp .notin (.loc 10) (.loc 9)) (.cons (.expr (.meth .append (.loc 9) (.cons (.loc 10) .nil))) .nil) .nil) .nil))
noncomputable def L2(s:List Int)(n0 nn:Int)(m w:Nat)(pv:V)(a b:Option V):Loc:=[some (.d (.list (s.map .int))),some (.d (.int 6)),some (.d (.int 4)),some (.d (.int n0)),some (.d (.int m)),some (.d (.int w)),some pv,a,some (.d (.int nn)),some (.box 1),b,none]
noncomputable def zcp(pv:V)(b0:Box)(pcs:List (List Int)):Prop:=∀ b1,look [b0,b1] pv=some (.list (zb pcs))
inductive AtP(s:List Int)(n0 nn:Int)(m w:Nat)(pv:V)(b0:Box)(i:Nat):Loc→za→Prop
 | mk (a b:Option V) (cs:List (List Int)) (g:∀ c∈cs,good m c) (nd:cs.Nodup) (le:cs.length≤i) (pos:0 < i→1≤cs.length):AtP s n0 nn m w pv b0 i (L2 s n0 nn m w pv a b) [b0,Box.lst (zb cs)]
theorem zot{k:Nat}{s:List Int}{n0 nn:Int}{m w i:Nat}{pv:V}{b0:Box}{ρ:Loc}{O:za}{pcs:List (List Int)}(hp:zcp pv b0 pcs)(h1:1≤pcs.length)(h2:pcs.length≤100)(hg:∀ c∈pcs,good m c)(hi:i < 100)(h:AtP s n0 nn m w pv b0 i ρ O) :
 ∃ ρ' O',yj (PG (k+2) false) (.name 7) jc (.int (0+(i:Int))) ρ O=.ok .next (ρ',O')∧AtP s n0 nn m w pv b0 (i+1) ρ' O':=by
 obtain⟨a,b,cs,g,nd,le,pos⟩:=h
 have hlp:(zb pcs).length≤line:=by rw[zz];exact Nat.le_trans h2 (by decide)
 have pl:=j9 (k:=k+2) (hp (Box.lst (zb cs))) hlp
 obtain⟨j2,_,e2⟩:=md (Int.fdiv nn 64) 2 [b0,Box.lst (zb cs)] (by decide)
 obtain⟨j,hj,ej⟩:=md (Int.fdiv nn 8+(0+(i:Int)) * (1+(j2:Int))) (zb pcs).length [b0,Box.lst (zb cs)] (by rw[zz];exact h1)
 obtain⟨y,hy,ey⟩:=zcb (xs:=zb pcs) rfl hlp hj
 obtain⟨c,hc,rfl⟩:=List.mem_map.mp hy
 have ix:=zkc (k:=.int (j:Int)) (hp (Box.lst (zb cs)))
 rw[ey] at ix
 have ap:=app1 (b:=b0) (x:=caseD c) (xs:=zb cs) (by rw[zz];exact Nat.lt_of_le_of_lt le (Nat.lt_of_lt_of_le hi (by decide)))
 have apc:zb cs++[caseD c]=zb (cs++[c]):=um
 rw[apc] at ap
 have e10:evS (PG (k+2) false) (.asg (.name 10) (.idx (.loc 6) (.bin .mod (.bin .add (.bin .fdiv (.loc 8) (.int 8)) (.bin .mul (.loc 7) (.bin .add (.int 1) (.bin .mod (.bin .fdiv (.loc 8) (.int 64)) (.int 2))))) (.prim .len (.cons (.loc 6) .nil))))) (L2 s n0 nn m w pv (some (.d (.int (0+(i:Int))))) b) [b0,Box.lst (zb cs)]=.ok .next (L2 s n0 nn m w pv (some (.d (.int (0+(i:Int))))) (some (.d (caseD c))),[b0,Box.lst (zb cs)]):=
  zv (yw rfl (z8 (z8 (z8 rfl rfl (dv (by decide))) (z8 rfl (z8 rfl (z8 (z8 rfl rfl (dv (by decide))) rfl e2) vb) (zj2 (.inl (by omega)))) vb) (yt rfl rfl pl) ej) ix) rfl rfl
 have ht:evE (PG (k+2) false) (L2 s n0 nn m w pv (some (.d (.int (0+(i:Int))))) (some (.d (caseD c)))) (.cmp .notin (.loc 10) (.loc 9)) [b0,Box.lst (zb cs)]=.ok (.d (.bool !decide (c∈cs))) [b0,Box.lst (zb cs)]:=zt rfl rfl zpg
 refine⟨L2 s n0 nn m w pv (some (.d (.int (0+(i:Int))))) (some (.d (caseD c))),[b0,Box.lst (zb (if c∈cs then cs else cs++[c]))],?_,?_⟩
 ·show evSs (PG (k+2) false) jc (L2 s n0 nn m w pv (some (.d (.int (0+(i:Int))))) b) [b0,Box.lst (zb cs)]=_
  unfold jc
  refine (zc e10).trans ?_
  by_cases hcm:c∈cs
  ·rw[decide_eq_true hcm] at ht
   rw[if_pos hcm]
   exact (zc (yd ht)).trans rfl
  ·rw[decide_eq_false hcm] at ht
   rw[if_neg hcm]
   have happ:evS (PG (k+2) false) (.expr (.meth .append (.loc 9) (.cons (.loc 10) .nil))) (L2 s n0 nn m w pv (some (.d (.int (0+(i:Int))))) (some (.d (caseD c)))) [b0,Box.lst (zb cs)]=.ok .next (L2 s n0 nn m w pv (some (.d (.int (0+(i:Int))))) (some (.d (caseD c))),[b0,Box.lst (zb (cs++[c]))]):=xx (km rfl rfl (zl rfl rfl) ap)
   rw[jh,w_if ht]
   show R.bind (evSs (PG (k+2) false) (.cons (.expr (.meth .append (.loc 9) (.cons (.loc 10) .nil))) .nil) _ _) _=_
   rw[zc happ]
   rfl
 ·by_cases hcm:c∈cs
  ·rw[if_pos hcm];exact .mk _ _ cs g nd (Nat.le_succ_of_le le) fun _=>List.length_pos_of_mem hcm
  ·rw[if_neg hcm]
   refine .mk _ _ (cs++[c]) (fun d hd=>(List.mem_append.mp hd).elim (g d) fun h=>List.mem_singleton.mp h ▸ hg c hc) (List.nodup_append.mpr ⟨nd,by simp,fun a ha b hb=>by rw[List.mem_singleton.mp hb];exact fun e=>hcm (e ▸ ha)⟩) ?_ fun _=>?_
   ·rw[List.length_append];exact Nat.succ_le_succ le
   ·rw[List.length_append];exact Nat.le_add_left _ _
theorem zpn{k:Nat}{s:List Int}{n0 nn:Int}{m w n:Nat}{pv:V}{b0:Box}{a:Option V}{pcs:List (List Int)}(hp:zcp pv b0 pcs)(h1:1≤pcs.length)(h2:pcs.length≤100)(hg:∀ c∈pcs,good m c)(hn:1≤n∧n≤12) :
 ∃ ρ' O',z6 (.plain (zj 0 n)) (yj (PG (k+2) false) (.name 7) jc) (zj 0 n) (L2 s n0 nn m w pv a none) [b0,Box.lst []]=.ok .next (ρ',O')∧AtP s n0 nn m w pv b0 n ρ' O':=by
 obtain⟨ρ',O',e,h⟩:=wn (ys:=zj 0 n) (turn:=yj (PG (k+2) false) (.name 7) jc) (AtP s n0 nn m w pv b0) (zj 0 n) 0 (L2 s n0 nn m w pv a none) [b0,Box.lst []]
  (fun j x hx ρ O h=>by
    have hj:j < n:=by have:=(List.getElem?_eq_some_iff.mp hx).1;rw[xl] at this;omega
    rw[gn hx]
    rw[Nat.zero_add] at h ⊢
    exact zot hp h1 h2 hg (by omega) h) (.mk a none [] (fun _ h=>nomatch h) List.nodup_nil (Nat.le_refl _) fun h=>absurd h (Nat.lt_irrefl 0))
 refine⟨ρ',O',e,?_⟩
 rwa [xl,show (0:Nat)+((n:Int) - 0).toNat=n by omega] at h
noncomputable def zc9:CSs:=(.cons (.for_ (.name 7) (.range (.int 0) (.idx (.list (.cons (.bin .add (.int 1) (.bin .mod (.loc 8) (.loc 5))) (.cons (.loc 5) .nil))) (.prim .int (.cons (.and_ (.cmp .eq (.loc 5) (.int 12)) (.cmp .gt (.loc 4) (.int 3))) .nil)))) jc) (.cons (.ret (.tup (.cons (.loc 4) (.cons (.loc 9) .nil)))) .nil))
theorem zn0{k:Nat}{b:Bool}{O:za}:prim (PG k false) .int [.d (.bool b)] O=.ok (.d (.int (if b then 1 else 0))) O:=rfl
theorem zeu{P:Pg}{ρ:Loc}{O:za}{a b:CE}(h:∃ x,evE P ρ a O=.ok (.d (.bool x)) O)(h':∃ x,evE P ρ b O=.ok (.d (.bool x)) O):∃ x,evE P ρ (.and_ a b) O=.ok (.d (.bool x)) O:=by
 obtain⟨x,e⟩:=h
 cases x with
 | true=>exact let ⟨y,e'⟩:=h';⟨y,u8 e e'⟩
 | false=>exact⟨false,zev e⟩
theorem zm5{k:Nat}{s:List Int}{n0 nn:Int}{m w:Nat}{pv:V}{b0:Box}{a:Option V}{pcs:List (List Int)}(hp:zcp pv b0 pcs)(h1:1≤pcs.length)(h2:pcs.length≤100)(hg:∀ c∈pcs,good m c)(hw:1≤w∧w≤12) :
 ∃ ρ' cs,evSs (PG (k+2) false) zc9 (L2 s n0 nn m w pv a none) [b0,Box.lst []]=.ok (.ret (.tm [.x (.int m),.b 1])) (ρ',[b0,Box.lst (zb cs)])∧Found m cs:=by
 obtain⟨j,hj,ej⟩:=md nn w [b0,Box.lst []] (by omega)
 obtain⟨bb,hb⟩:=zeu (P:=PG (k+2) false) (ρ:=L2 s n0 nn m w pv a none) (O:=[b0,Box.lst []]) (a:=.cmp .eq (.loc 5) (.int 12)) (b:=.cmp .gt (.loc 4) (.int 3)) ⟨_,zt rfl rfl eq_int⟩ ⟨_,zt rfl rfl v_gt⟩
 have hn:∃ n:Nat,(1≤n∧n≤12)∧evE (PG (k+2) false) (L2 s n0 nn m w pv a none) (.idx (.list (.cons (.bin .add (.int 1) (.bin .mod (.loc 8) (.loc 5))) (.cons (.loc 5) .nil))) (.prim .int (.cons (.and_ (.cmp .eq (.loc 5) (.int 12)) (.cmp .gt (.loc 4) (.int 3))) .nil))) [b0,Box.lst []]=.ok (.d (.int (n:Int))) [b0,Box.lst []]:=by
  have hl:evE (PG (k+2) false) (L2 s n0 nn m w pv a none) (.list (.cons (.bin .add (.int 1) (.bin .mod (.loc 8) (.loc 5))) (.cons (.loc 5) .nil))) [b0,Box.lst []]=.ok (.d (.list [.int ((1+j:Nat):Int),.int (w:Int)])) [b0,Box.lst []]:=by
   rw[u4,zl (z8 rfl (z8 rfl rfl ej) vb) rfl,show (1:Int)+(j:Int)=((1+j:Nat):Int) by omega];rfl
  cases bb with
  | true=>exact⟨w,hw,yw hl (yt rfl hb zn0) rfl⟩
  | false=>exact⟨1+j,by omega,yw hl (yt rfl hb zn0) rfl⟩
 obtain⟨n,hn,en⟩:=hn
 obtain⟨ρ',O',ef,hat⟩:=zpn (k:=k) (s:=s) (n0:=n0) (nn:=nn) (m:=m) (w:=w) (n:=n) (a:=a) hp h1 h2 hg hn
 have hI:evI (PG (k+2) false) (L2 s n0 nn m w pv a none) (.range (.int 0) (.idx (.list (.cons (.bin .add (.int 1) (.bin .mod (.loc 8) (.loc 5))) (.cons (.loc 5) .nil))) (.prim .int (.cons (.and_ (.cmp .eq (.loc 5) (.int 12)) (.cmp .gt (.loc 4) (.int 3))) .nil)))) [b0,Box.lst []]=.ok (.plain (zj 0 n)) [b0,Box.lst []]:=by
  rw[uq,ju,zr,en,zr]
  exact j5 (by omega)
 obtain⟨a',b',cs,g,nd,le,pos⟩:=hat
 refine⟨L2 s n0 nn m w pv a' b',cs,?_,g,nd,pos hn.1,Nat.le_trans le hn.2⟩
 generalize zj 0 (n:Int)=rs at ef hI
 unfold zc9
 refine (zc ?_).trans (ze (yc rfl))
 rw[q9,if_neg Bool.false_ne_true,hI]
 exact ef
noncomputable def zda:CSs:=(.cons (.asg (.name 9) (.boxed (.list .nil))) (.cons (.asg (.name 8) (.bin .fdiv (.loc 3) (.int 36))) (.cons (.ife (.and_ (.cmp .gt (.loc 4) (.int 3)) (.and_ (.cmp .eq (.bin .mod (.bin .fdiv (.loc 8) (.int 256)) (.int 4)) (.int 1)) (.cmp .gt (.bin .mod (.bin .fdiv (.loc 3) (.int 6)) (.int 6)) (.int 0)))) (.cons (.asg (.name 5) (.int 12)) .nil) .nil) zc9)))
theorem zg7{k:Nat}{s:List Int}{n0:Int}{m w:Nat}{pv:V}{b0:Box}{a b:Option V}{pcs:List (List Int)}(hp:zcp pv b0 pcs)(h1:1≤pcs.length)(h2:pcs.length≤100)(hg:∀ c∈pcs,good m c)(hw:1≤w∧w≤12) :
 ∃ ρ' cs,evSs (PG (k+2) false) zda (L1 s n0 m w pv a b) [b0]=.ok (.ret (.tm [.x (.int m),.b 1])) (ρ',[b0,Box.lst (zb cs)])∧Found m cs:=by
 have st:=fun w hw=>zm5 (k:=k) (s:=s) (n0:=n0) (nn:=Int.fdiv n0 36) (w:=w) (a:=a) hp h1 h2 hg hw
 obtain⟨j4,_,e4⟩:=md (Int.fdiv (Int.fdiv n0 36) 256) 4 [b0,Box.lst []] (by decide)
 obtain⟨j6,_,e6⟩:=md (Int.fdiv n0 6) 6 [b0,Box.lst []] (by decide)
 have t2:∃ x,evE (PG (k+2) false) (L2 s n0 (Int.fdiv n0 36) m w pv a none) (.cmp .eq (.bin .mod (.bin .fdiv (.loc 8) (.int 256)) (.int 4)) (.int 1)) [b0,Box.lst []]=.ok (.d (.bool x)) [b0,Box.lst []]:=⟨_,zt (z8 (z8 rfl rfl (dv (by decide))) rfl e4) rfl eq_int⟩
 have t3:∃ x,evE (PG (k+2) false) (L2 s n0 (Int.fdiv n0 36) m w pv a none) (.cmp .gt (.bin .mod (.bin .fdiv (.loc 3) (.int 6)) (.int 6)) (.int 0)) [b0,Box.lst []]=.ok (.d (.bool x)) [b0,Box.lst []]:=⟨_,zt (z8 (z8 rfl rfl (dv (by decide))) rfl e6) rfl v_gt⟩
 obtain⟨bb,ht⟩:=zeu (a:=.cmp .gt (.loc 4) (.int 3)) ⟨_,zt rfl rfl v_gt⟩ (zeu t2 t3)
 have s12:evSs (PG (k+2) false) zda (L1 s n0 m w pv a b) [b0]=(evS (PG (k+2) false) (.ife (.and_ (.cmp .gt (.loc 4) (.int 3)) (.and_ (.cmp .eq (.bin .mod (.bin .fdiv (.loc 8) (.int 256)) (.int 4)) (.int 1)) (.cmp .gt (.bin .mod (.bin .fdiv (.loc 3) (.int 6)) (.int 6)) (.int 0)))) (.cons (.asg (.name 5) (.int 12)) .nil) .nil) (L2 s n0 (Int.fdiv n0 36) m w pv a none) [b0,Box.lst []]).bind (seqK fun S=>evSs (PG (k+2) false) zc9 S.1 S.2):=by
  unfold zda
  exact (zc (zv (v:=.box 1) (O':=[b0,Box.lst []]) rfl rfl rfl)).trans (zc (zv (z8 rfl rfl (dv (by decide))) rfl rfl))
 rw[s12]
 cases bb with
 | false=>rw[yd ht];exact st w hw
 | true=>
   have h12:evS (PG (k+2) false) (.asg (.name 5) (.int 12)) (L2 s n0 (Int.fdiv n0 36) m w pv a none) [b0,Box.lst []]=.ok .next (L2 s n0 (Int.fdiv n0 36) m 12 pv a none,[b0,Box.lst []]):=zv rfl rfl rfl
   rw[w_if ht]
   show ∃ ρ' cs,R.bind (evSs (PG (k+2) false) (.cons (.asg (.name 5) (.int 12)) .nil) _ _) _=_∧_
   rw[zc h12]
   exact st 12 ⟨by decide,by decide⟩
theorem zp8{m:Nat}{cs:List (List Int)}{b0:Box}:fin 0 false (.tm [.x (.int m),.b 1]) [b0,Box.lst (zb cs)]=.ok (.d (.tuple [.int m,.list (zb cs)])) []:=rfl
noncomputable def zdb:CSs:=(.cons (.ife (.cmp .gt (.bin .mod (.bin .fdiv (.loc 3) (.int 6)) (.int 6)) (.int 0)) (.cons (.asg (.name 6) (.call 28 (.cons (.loc 4) (.cons (.bin .sub (.bin .mod (.bin .fdiv (.loc 3) (.int 6)) (.int 6)) (.int 1)) .nil)))) .nil) .nil) zda)
theorem zm6{k:Nat}{s:List Int}{n0:Int}{m w:Nat}{a b:Option V}{dcs:List (List Int)}(hm:m4 m)(hw:1≤w∧w≤12)(hdg:∀ c∈dcs,good m c)(hdl:dcs.length=12) :
 ∃ ρ' b0 cs,evSs (PG (k+2) false) zdb (L1 s n0 m w (.box 0) a b) [Box.lst (zb dcs)]=.ok (.ret (.tm [.x (.int m),.b 1])) (ρ',[b0,Box.lst (zb cs)])∧Found m cs:=by
 have d6:∀ O,binK .fdiv (.d (.int n0)) (.d (.int 6)) O=.ok (.d (.int (Int.fdiv n0 6))) O:=fun O=>zb9 ⟨by decide,by decide⟩
 obtain⟨j6,hj6,_,ej⟩:=zfj (a:=Int.fdiv n0 6) (n:=6) (O:=[Box.lst (zb dcs)]) (by decide)
 have ej:binK .mod (.d (.int (Int.fdiv n0 6))) (.d (.int 6)) [Box.lst (zb dcs)]=.ok (.d (.int (j6:Int))) [Box.lst (zb dcs)]:=ej
 cases hq:decide ((j6:Int) > 0) with
 | false=>
   obtain⟨ρ',cs,e,f⟩:=zg7 (k:=k) (s:=s) (n0:=n0) (m:=m) (w:=w) (pv:=.box 0) (b0:=Box.lst (zb dcs)) (a:=a) (b:=b) (pcs:=dcs) (fun _=>rfl) (by omega) (by omega) hdg hw
   unfold L1 at e
   exact⟨ρ',Box.lst (zb dcs),cs,by unfold zdb L1;simp only[ju,x7,u5,zcs,x_call,kl,x8,v0,zao,u0,jh,zr,j7,jr,zbx,zg3,ze8,v_gt,Option.join_some,List.getElem?_cons_zero,List.getElem?_cons_succ,Bool.not_true,Bool.and_false,Bool.false_eq_true,if_false,nm_1,d6,ej,hq,e],f⟩
 | true=>
   have hj1:1≤j6:=by have:=of_decide_eq_true hq;omega
   obtain⟨pg,pp,pl⟩:=zhu (m:=m) (j:=j6 - 1) hm (by omega)
   have ep:=zqf (k:=k+1) (m:=m) (j:=j6 - 1) (xs:=zb dcs) hm (by omega)
   generalize wg m (j6 - 1)=pcs at pg pp pl ep
   have ejj:((j6:Int) - 1)=((j6 - 1:Nat):Int):=by omega
   obtain⟨ρ',cs,e,f⟩:=zg7 (k:=k) (s:=s) (n0:=n0) (m:=m) (w:=w) (pv:=.d (.list (zb pcs))) (b0:=Box.lst (zb dcs)) (a:=a) (b:=b) (pcs:=pcs) (fun _=>rfl) pp (by omega) pg hw
   unfold L1 at e
   exact⟨ρ',Box.lst (zb dcs),cs,by unfold zdb L1;simp only[ju,x7,u5,zcs,x_call,kl,x8,v0,zao,u0,jh,zr,j7,jr,zbx,zkl,ze8,v_gt,uf,Option.join_some,List.getElem?_cons_zero,List.getElem?_cons_succ,Bool.not_true,Bool.and_false,Bool.false_eq_true,if_true,if_false,nm_1,asgR,d7,List.set_cons_zero,List.set_cons_succ,List.length_cons,List.length_nil,Nat.reduceAdd,Nat.reduceLT,Nat.zero_add,d6,ej,hq,ejj,ep,e],f⟩
theorem zie{k:Nat}{s:List Int}{n0:Int}{m w:Nat}(hs:s.length≤63)(hm:m4 m):∃ a b cs,evS (PG (k+2) false) (.for_ (.name 7) (.range (.int 0) (.int 12)) xt) (L1 s n0 m w (.box 0) none none) [Box.lst []]=.ok .next (L1 s n0 m w (.box 0) a b,[Box.lst (zb cs)])∧(∀ c∈cs,good m c)∧cs.length=12:=by
 obtain⟨a,b,cs,ed,hg,hl⟩:=zpp (k:=k) (s:=s) (n0:=n0) (m:=m) (w:=w) hs hm
 refine⟨a,b,cs,?_,hg,hl⟩
 have hI:evI (PG (k+2) false) (L1 s n0 m w (.box 0) none none) (.range (.int 0) (.int 12)) [Box.lst []]=.ok (.plain (zj 0 12)) [Box.lst []]:=by
  simp only[uq,ju,zr]
  exact j5 (by decide)
 generalize zj 0 12=rs at ed hI
 rw[q9,if_neg Bool.false_ne_true,hI]
 exact ed
theorem zq1:c29.body=(.cons (.asg (.name 3) (.call 25 (.cons (.loc 0) (.cons (.loc 1) .nil)))) (.cons (.asg (.name 4) (.min2 (.loc 2) (.idx (.list (.cons (.int 2) (.cons (.int 3) (.cons (.int 3) (.cons (.int 4) (.cons (.int 4) (.cons (.int 5) .nil))))))) (.bin .mod (.loc 3) (.int 6))))) (.cons (.asg (.name 5) (.idx (.list (.cons (.int 9) (.cons (.int 12) (.cons (.int 8) (.cons (.int 5) .nil))))) (.bin .sub (.loc 4) (.int 2)))) (.cons (.asg (.name 6) (.boxed (.list .nil))) (.cons (.for_ (.name 7) (.range (.int 0) (.int 12)) xt) zdb))))):=by
 unfold c29 zdb zda zc9 xt jc
 rfl
theorem tb1{k:Nat}{s:List Int}{n0:Int}(n1:zg P table (k+2) false 25 [.d (.list (s.map .int)),.d (.int 6)] []=.ok (.d (.int n0)) []):evS (PG (k+2) false) (.asg (.name 3) (.call 25 (.cons (.loc 0) (.cons (.loc 1) .nil)))) [some (.d (.list (s.map .int))),some (.d (.int 6)),some (.d (.int 4)),none,none,none,none,none,none,none,none,none] []=.ok .next ([some (.d (.list (s.map .int))),some (.d (.int 6)),some (.d (.int 4)),some (.d (.int n0)),none,none,none,none,none,none,none,none],[]):=by
 simp only[x7,x_call,kl,x8,v0,zr,j7,jr,Option.join_some,List.getElem?_cons_zero,List.getElem?_cons_succ,Bool.not_true,Bool.and_false,Bool.false_eq_true,if_true,if_false,nm_1,asgR,d7,List.set_cons_zero,List.set_cons_succ,List.length_cons,List.length_nil,Nat.reduceAdd,Nat.reduceLT,Nat.zero_add,n1]
theorem tb2{k:Nat}{s:List Int}{n0:Int}{m x i6:Nat}(hx:minV (.d (.int 4)) (.d (.int (x:Int))) []=.ok (.d (.int (m:Int))) [])(e6:binK .mod (.d (.int n0)) (.d (.int 6)) []=.ok (.d (.int (i6:Int))) [])(em:idxD (.list [.int 2,.int 3,.int 3,.int 4,.int 4,.int 5]) (.int (i6:Int))=some (.int (x:Int))):evS (PG (k+2) false) (.asg (.name 4) (.min2 (.loc 2) (.idx (.list (.cons (.int 2) (.cons (.int 3) (.cons (.int 3) (.cons (.int 4) (.cons (.int 4) (.cons (.int 5) .nil))))))) (.bin .mod (.loc 3) (.int 6))))) [some (.d (.list (s.map .int))),some (.d (.int 6)),some (.d (.int 4)),some (.d (.int n0)),none,none,none,none,none,none,none,none] []=.ok .next ([some (.d (.list (s.map .int))),some (.d (.int 6)),some (.d (.int 4)),some (.d (.int n0)),some (.d (.int m)),none,none,none,none,none,none,none],[]):=by
 simp only[ju,x7,u4,u5,zap,kl,x8,v0,zr,j7,jr,v6,zcn,zco,Option.map_some,Option.join_some,List.getElem?_cons_zero,List.getElem?_cons_succ,Bool.not_true,Bool.and_false,Bool.false_eq_true,if_true,if_false,nm_1,asgR,d7,List.set_cons_zero,List.set_cons_succ,List.length_cons,List.length_nil,Nat.reduceAdd,Nat.reduceLT,Nat.zero_add,zoe,e6,em,hx]
theorem tb3{k:Nat}{s:List Int}{n0:Int}{m w:Nat}(ew:idxD (.list [.int 9,.int 12,.int 8,.int 5]) (.int ((m:Int) - 2))=some (.int (w:Int))):evS (PG (k+2) false) (.asg (.name 5) (.idx (.list (.cons (.int 9) (.cons (.int 12) (.cons (.int 8) (.cons (.int 5) .nil))))) (.bin .sub (.loc 4) (.int 2)))) [some (.d (.list (s.map .int))),some (.d (.int 6)),some (.d (.int 4)),some (.d (.int n0)),some (.d (.int m)),none,none,none,none,none,none,none] []=.ok .next ([some (.d (.list (s.map .int))),some (.d (.int 6)),some (.d (.int 4)),some (.d (.int n0)),some (.d (.int m)),some (.d (.int w)),none,none,none,none,none,none],[]):=by
 simp only[ju,x7,u4,u5,zap,kl,x8,v0,zr,j7,jr,v6,uf,zcn,zco,Option.map_some,Option.join_some,List.getElem?_cons_zero,List.getElem?_cons_succ,Bool.not_true,Bool.and_false,Bool.false_eq_true,if_true,if_false,nm_1,asgR,d7,List.set_cons_zero,List.set_cons_succ,List.length_cons,List.length_nil,Nat.reduceAdd,Nat.reduceLT,Nat.zero_add,ew]
theorem tb4{k:Nat}{s:List Int}{n0:Int}{m w:Nat}:evS (PG (k+2) false) (.asg (.name 6) (.boxed (.list .nil))) [some (.d (.list (s.map .int))),some (.d (.int 6)),some (.d (.int 4)),some (.d (.int n0)),some (.d (.int m)),some (.d (.int w)),none,none,none,none,none,none] []=.ok .next (L1 s n0 m w (.box 0) none none,[Box.lst []]):=by
 have bl:boxK (.d (.list [])) []=.ok (.box 0) [Box.lst []]:=rfl
 unfold L1
 simp only[u4,zls,kl,v0,zr,j7,jr,zcn,Option.map_some,Bool.not_true,Bool.and_false,Bool.false_eq_true,if_true,if_false,nm_1,asgR,d7,List.set_cons_zero,List.set_cons_succ,List.length_cons,List.length_nil,Nat.reduceAdd,Nat.reduceLT,Nat.zero_add,bl]
theorem zic{k:Nat}{s:List Int}{n0:Int}{m w x i6:Nat}(hs:s.length≤63)(n1:zg P table (k+2) false 25 [.d (.list (s.map .int)),.d (.int 6)] []=.ok (.d (.int n0)) [])(e6:binK .mod (.d (.int n0)) (.d (.int 6)) []=.ok (.d (.int (i6:Int))) [])(hm:m4 m)
 (em:idxD (.list [.int 2,.int 3,.int 3,.int 4,.int 4,.int 5]) (.int (i6:Int))=some (.int (x:Int))) (hx:minV (.d (.int 4)) (.d (.int (x:Int))) []=.ok (.d (.int (m:Int))) []) (hw:1≤w∧w≤12) (ew:idxD (.list [.int 9,.int 12,.int 8,.int 5]) (.int ((m:Int) - 2))=some (.int (w:Int))) :
 ∃ ρ' b0 cs,evSs (PG (k+2) false) c29.body [some (.d (.list (s.map .int))),some (.d (.int 6)),some (.d (.int 4)),none,none,none,none,none,none,none,none,none] []=.ok (.ret (.tm [.x (.int m),.b 1])) (ρ',[b0,Box.lst (zb cs)])∧Found m cs:=by
 obtain⟨a,b,dcs,ed,hdg,hdl⟩:=zie (k:=k) (s:=s) (n0:=n0) (m:=m) (w:=w) hs hm
 obtain⟨ρ',b0,cs,e,f⟩:=zm6 (k:=k) (s:=s) (n0:=n0) (m:=m) (w:=w) (a:=a) (b:=b) hm hw hdg hdl
 refine⟨ρ',b0,cs,?_,f⟩
 rw[zq1,zc (tb1 n1),zc (tb2 hx e6 em),zc (tb3 ew),zc tb4,zc ed]
 exact e
theorem zks{k:Nat}{s:List Int}(hs:s.length≤63):∃ m cs,m4 m∧m≤4∧Found m cs∧zg P table (k+3) false 29 [.d (.list (s.map .int)),.d (.int 6),.d (.int 4)] []=.ok (.d (.tuple [.int m,.list (zb cs)])) []:=by
 have n1:zg P table (k+2) false 25 [.d (.list (s.map .int)),.d (.int 6)] []=.ok (.d (.int (mixI s 6))) []:=wp (k:=k) (j:=6) (O:=[]) hs
 generalize mixI s 6=n0 at n1
 obtain⟨i6,h6,_,e6⟩:=zfj (a:=n0) (n:=6) (O:=[]) (by decide)
 have e6:binK .mod (.d (.int n0)) (.d (.int 6)) []=.ok (.d (.int (i6:Int))) []:=e6
 have hm:∃ m x:Nat,m4 m∧m≤4∧idxD (.list [.int 2,.int 3,.int 3,.int 4,.int 4,.int 5]) (.int (i6:Int))=some (.int (x:Int))∧minV (.d (.int 4)) (.d (.int (x:Int))) []=.ok (.d (.int (m:Int))) []:=by
  have:i6=0∨i6=1∨i6=2∨i6=3∨i6=4∨i6=5:=by omega
  rcases this with rfl | rfl | rfl | rfl | rfl | rfl
  ·exact⟨2,2,⟨by decide,by decide⟩,by decide,rfl,rfl⟩
  ·exact⟨3,3,⟨by decide,by decide⟩,by decide,rfl,rfl⟩
  ·exact⟨3,3,⟨by decide,by decide⟩,by decide,rfl,rfl⟩
  ·exact⟨4,4,⟨by decide,by decide⟩,by decide,rfl,rfl⟩
  ·exact⟨4,4,⟨by decide,by decide⟩,by decide,rfl,rfl⟩
  ·exact⟨4,5,⟨by decide,by decide⟩,by decide,rfl,rfl⟩
 obtain⟨m,x,hm,hm3,em,hx⟩:=hm
 have hw:∃ w:Nat,(1≤w∧w≤12)∧idxD (.list [.int 9,.int 12,.int 8,.int 5]) (.int ((m:Int) - 2))=some (.int (w:Int)):=by
  have:m=2∨m=3∨m=4∨m=5:=by have:=hm.1;have:=hm.2;omega
  rcases this with rfl | rfl | rfl | rfl
  ·exact⟨9,⟨by decide,by decide⟩,rfl⟩
  ·exact⟨12,⟨by decide,by decide⟩,rfl⟩
  ·exact⟨8,⟨by decide,by decide⟩,rfl⟩
  ·exact⟨5,⟨by decide,by decide⟩,rfl⟩
 obtain⟨w,hw,ew⟩:=hw
 obtain⟨ρ',b0,cs,e,f⟩:=zic hs n1 e6 hm em hx hw ew
 refine⟨m,cs,hm,hm3,f,?_⟩
 rw[jz (fn:=c29) rfl ⟨rfl,by decide⟩]
 unfold evFn
 show (match evSs (PG (k+2) false) c29.body [some (.d (.list (s.map .int))),some (.d (.int 6)),some (.d (.int 4)),none,none,none,none,none,none,none,none,none] [] with | .ok (.ret v) S=>fin 0 false v S.2 | .ok .next S=>.ok (.d .none) (S.2.take 0) | .stuck=>.stuck)=_
 rw[e]
 exact zp8
noncomputable def sgn(d:Int):Int:=if d > 0 then 1 else if d < 0 then -1 else 0
theorem zoz (d:Int) : -1≤sgn d∧sgn d≤1:=by unfold sgn;repeat' split
                                           all_goals omega
noncomputable def ji(cs is:List Int):Int:=(is.map fun i=>cs.getD i.toNat 0).sum
noncomputable def wOf(is js:List Int):PyData:=.tuple [.tuple (is.map .int),.tuple (js.map .int)]
structure InR(m:Nat)(is:List Int):Prop where
 len:is.length≤2
 at_:∀ i∈is,0≤i∧i < (m:Int)
theorem zhf{m:Nat}{cs is:List Int}{i:Int}(hm:m4 m)(hc:good m cs)(h:InR m is)(hi:i∈is):idxD (caseD cs) (.int i)=some (.int (cs.getD i.toNat 0)):=by
 have hb:=h.at_ i hi
 have hl:=hc.1
 have hj:i.toNat < cs.length:=by omega
 have h5:cs.length≤line:=by rw[hl];exact Nat.le_trans hm.2 (by decide)
 unfold caseD idxD items
 dsimp only
 rw[List.length_map,if_pos h5,if_pos hb.1,List.getElem?_map,List.getD_eq_getElem?_getD,List.getElem?_eq_getElem hj];rfl
theorem zn6{k:Nat}{m:Nat}{cs ls:List Int}{a b:Nat}{ρ:Loc}{O:za}(hm:m4 m)(hc:good m cs)(hr:InR m ls)(ha:Nat.blt a ρ.length=true)(ha1:a≠1)(h1:ρ[1]?=some (some (.d (caseD cs))))(hb:ρ[b]?=some (some (.d (.tuple (ls.map .int))))) :
 evE (PG k false) ρ (.prim .sum (.cons (.comp (.idx (.loc 1) (.loc a)) (.name a) (.e (.loc b)) .nil) .nil)) O=.ok (.d (.int (ji cs ls))) O:=by
 have ha:a < ρ.length:=Nat.le_of_ble_eq_true ha
 have hl:(ls.map PyData.int).length≤line:=by rw[List.length_map];exact Nat.le_trans hr.len (by decide)
 have hI:evI (PG k false) ρ (.e (.loc b)) O=.ok (.plain (ls.map .int)) O:=by rw[x_e,x7,hb];rfl
 refine yt rfl (zgd rfl hI rfl hl (fun x=>.int (cs.getD (toI x).toNat 0)) fun x hx=>⟨ρ.set a (some (.d x)),if_pos ha,?_⟩) ?_
 ·obtain⟨i,hi,rfl⟩:=List.mem_map.mp hx
  have e1:evE (PG k false) (ρ.set a (some (.d (.int i)))) (.loc 1) O=.ok (.d (caseD cs)) O:=by rw[x7,List.getElem?_set_ne ha1,h1];rfl
  have e2:evE (PG k false) (ρ.set a (some (.d (.int i)))) (.loc a) O=.ok (.d (.int i)) O:=by rw[x7,List.getElem?_set_self ha];rfl
  refine yw e1 e2 ?_
  rw[v6,zhf hm hc hr hi];rfl
 ·refine (zrr (g:=fun x=>cs.getD (toI x).toNat 0)).trans ?_
  rw[show ((Src.plain (ls.map PyData.int)).xs.map fun x=>cs.getD (toI x).toNat 0).sum=ji cs ls by show ((ls.map PyData.int).map _).sum=_;rw[List.map_map];rfl]
theorem ziw{P:Pg}{ρ ρ':Loc}{O O':za}{e:CE}{t:CT}{v:V}(hd:P.hd=false)(h:evE P ρ e O=.ok v O')(hb:zp t v ρ=some ρ'):evS P (.asg t e) ρ O=.ok .next (ρ',O'):=by
 rw[v0,hd,Bool.false_and,if_neg Bool.false_ne_true,h]
 show asgR t v (ρ,O')=_
 unfold asgR
 rw[hb]
theorem zqd{k:Nat}{a b c e f g:Option V}{O:za}{d:Int}:evSs (PG k false) (.cons (.ife (.cmp .gt (.loc 4) (.int 0)) (.cons (.ret (.int 1)) .nil) .nil) (.cons (.ret (.ite (.cmp .lt (.loc 4) (.int 0)) (.neg (.int 1)) (.int 0))) .nil)) [a,b,c,e,some (.d (.int d)),f,g] O=.ok (.ret (.d (.int (sgn d)))) ([a,b,c,e,some (.d (.int d)),f,g],O):=by
 have h1:evE (PG k false) [a,b,c,e,some (.d (.int d)),f,g] (.cmp .gt (.loc 4) (.int 0)) O=.ok (.d (.bool (decide (d > 0)))) O:=rfl
 have h2:evE (PG k false) [a,b,c,e,some (.d (.int d)),f,g] (.cmp .lt (.loc 4) (.int 0)) O=.ok (.d (.bool (decide (d < 0)))) O:=rfl
 unfold sgn
 by_cases hg:d > 0
 ·rw[if_pos hg]
  rw[decide_eq_true hg] at h1
  exact ze ((w_if h1).trans rfl)
 ·rw[if_neg hg]
  rw[decide_eq_false hg] at h1
  refine (zc (yd h1)).trans (ze (yc ?_))
  rw[zit,h2]
  by_cases hl:d < 0
  ·rw[if_pos hl,decide_eq_true hl];rfl
  ·rw[if_neg hl,decide_eq_false hl];rfl
theorem zkz{k m:Nat}{cs is js:List Int}{O:za}(hm:m4 m)(hc:good m cs)(hi:InR m is)(hj:InR m js):zg P table (k+1) false 8 [.d (wOf is js),.d (caseD cs)] O=.ok (.d (.int (sgn (ji cs is - ji cs js)))) O:=by
 have k1:=zn6 (k:=k) (a:=5) (b:=2) (O:=O) (ρ:=[some (.d (wOf is js)),some (.d (caseD cs)),some (.d (.tuple (is.map .int))),some (.d (.tuple (js.map .int))),none,none,none]) hm hc hi rfl (by decide) rfl rfl
 have k2:=zn6 (k:=k) (a:=6) (b:=3) (O:=O) (ρ:=[some (.d (wOf is js)),some (.d (caseD cs)),some (.d (.tuple (is.map .int))),some (.d (.tuple (js.map .int))),none,none,none]) hm hc hj rfl (by decide) rfl rfl
 refine zq (fn:=c8) rfl ⟨rfl,by decide⟩ rfl ((zc (ziw rfl rfl rfl)).trans ((zc (zv (z8 k1 k2 uf) rfl rfl)).trans zqd))
noncomputable def zi2(g:Int→Int→Int)(cs:List Int)(a:Int×Option V)(x:PyData):Int×Option V:=(g a.1 (cs.getD (toI x).toNat 0),some (V.d x))
theorem l_sum{k m:Nat}{op:Bop}{g:Int→Int→Int}{cs ls:List Int}{w:V}{i:CE}{O:za}{n:Int}{z:Option V}(hg:∀ a b,binK op (.d (.int a)) (.d (.int b)) O=.ok (.d (.int (g a b))) O)(hm:m4 m)(hc:good m cs)(hr:InR m ls)
 (hi:∀ n z,evE (PG k false) [some w,some (.d (caseD cs)),some (.d (.int n)),z] i O=.ok (.d (.tuple (ls.map .int))) O) :
 ∃ z',evS (PG k false) (.for_ (.name 3) (.e i) (.cons (.asg (.name 2) (.bin op (.loc 2) (.idx (.loc 1) (.loc 3)))) .nil)) [some w,some (.d (caseD cs)),some (.d (.int n)),z] O=.ok .next ([some w,some (.d (caseD cs)),some (.d (.int ((ls.map fun i=>cs.getD i.toNat 0).foldl g n))),z'],O):=by
 refine⟨((ls.map PyData.int).foldl (zi2 g cs) (n,z)).2,?_⟩
 have e1:∀ (ls:List Int) (a:Int×Option V),((ls.map PyData.int).foldl (zi2 g cs) a).1=(ls.map fun i=>cs.getD i.toNat 0).foldl g a.1:=fun ls=>by
  induction ls with
  | nil=>exact fun a=>rfl
  | cons x ls ih=>exact fun a=>ih _
 have:=g8 (ys:=ls.map PyData.int) (turn:=yj (PG k false) (.name 3) (.cons (.asg (.name 2) (.bin op (.loc 2) (.idx (.loc 1) (.loc 3)))) .nil)) (fun a:Int×Option V=>([some w,some (.d (caseD cs)),some (.d (.int a.1)),a.2],O)) (zi2 g cs) (ls.map PyData.int) (n,z) fun a x hx=>by
  obtain⟨i,hi,rfl⟩:=List.mem_map.mp hx
  refine (zc (zv (ρ:=[some w,some (.d (caseD cs)),some (.d (.int a.1)),some (.d (.int i))]) (z8 rfl (yw rfl rfl ?_) (hg _ _)) rfl rfl)).trans rfl
  rw[v6,zhf hm hc hr hi];rfl
 rw[e1] at this
 rw[q9,if_neg Bool.false_ne_true,x_e,hi]
 exact this
theorem zm3{k:Nat}{a b c:Option V}{O:za}{d:Int}:evSs (PG k false) (.cons (.ret (.ite (.cmp .gt (.loc 2) (.int 0)) (.int 1) (.ite (.cmp .lt (.loc 2) (.int 0)) (.neg (.int 1)) (.int 0)))) .nil) [a,b,some (.d (.int d)),c] O=.ok (.ret (.d (.int (sgn d)))) ([a,b,some (.d (.int d)),c],O):=by
 have h1:evE (PG k false) [a,b,some (.d (.int d)),c] (.cmp .gt (.loc 2) (.int 0)) O=.ok (.d (.bool (decide (d > 0)))) O:=rfl
 have h2:evE (PG k false) [a,b,some (.d (.int d)),c] (.cmp .lt (.loc 2) (.int 0)) O=.ok (.d (.bool (decide (d < 0)))) O:=rfl
 refine ze (yc ?_)
 unfold sgn
 rw[zit,h1]
 by_cases hg:d > 0
 ·rw[if_pos hg,decide_eq_true hg];rfl
 ·rw[if_neg hg,decide_eq_false hg]
  show evE (PG k false) [a,b,some (.d (.int d)),c] (.ite (.cmp .lt (.loc 2) (.int 0)) (.neg (.int 1)) (.int 0)) O=_
  rw[zit,h2]
  by_cases hl:d < 0
  ·rw[if_pos hl,decide_eq_true hl];rfl
  ·rw[if_neg hl,decide_eq_false hl];rfl
theorem fold_add:∀ (l:List Int) (a:Int),l.foldl (· + ·) a=a+l.sum
 | [],a=>by simp
 | x::l,a=>by rw[List.foldl_cons,fold_add l,List.sum_cons];omega
theorem zdt:∀ (l:List Int) (a:Int),l.foldl (· - ·) a=a - l.sum
 | [],a=>by simp
 | x::l,a=>by rw[List.foldl_cons,zdt l,List.sum_cons];omega
theorem zch{k m:Nat}{cs is js:List Int}{O:za}(hm:m4 m)(hc:good m cs)(hi:InR m is)(hj:InR m js):zg P table (k+1) false 26 [.d (wOf is js),.d (caseD cs)] O=.ok (.d (.int (sgn (ji cs is - ji cs js)))) O:=by
 obtain⟨z1,e1⟩:=l_sum (k:=k) (op:=.add) (g:=(· + ·)) (w:=.d (wOf is js)) (i:=.idx (.loc 0) (.int 0)) (O:=O) (n:=0) (z:=none) (fun _ _=>vb) hm hc hi fun _ _=>rfl
 rw[fold_add,Int.zero_add] at e1
 obtain⟨z2,e2⟩:=l_sum (k:=k) (op:=.sub) (g:=(· - ·)) (w:=.d (wOf is js)) (i:=.idx (.loc 0) (.int 1)) (O:=O) (n:=(is.map fun i=>cs.getD i.toNat 0).sum) (z:=z1) (fun _ _=>uf) hm hc hj fun _ _=>rfl
 rw[zdt] at e2
 exact zq (fn:=c26) rfl ⟨rfl,by decide⟩ rfl ((zc (zv rfl rfl rfl)).trans ((zc e1).trans ((zc e2).trans zm3)))
noncomputable def dueI:Nat→List (List Int×List Int)
 | 2=>[([0],[1])]
 | 3=>[([0],[1]),([0],[2]),([1],[2])]
 | 4=>[([0],[1]),([0],[2]),([0],[3]),([0,1],[2,3]),([0,2],[1,3]),([0,3],[1,2]),([1],[2]),([1],[3]),([2],[3])]
 | 5=>[([0],[1]),([0],[2]),([0],[3]),([0],[4]),([0,1],[2,3]),([0,1],[2,4]),([0,1],[3,4]),([0,2],[1,3]),([0,2],[1,4]),([0,2],[3,4]),([0,3],[1,2]),([0,3],[1,4]),([0,3],[2,4]),([0,4],[1,2]),([0,4],[1,3]),([0,4],[2,3]),([1],[2]),([1],[3]),([1],[4]),([1,2],[3,4]),([1,3],[2,4]),([1,4],[2,3]),([2],[3]),([2],[4]),([3],[4])]
 | _=>[]
noncomputable def due(m:Nat):List PyData:=(dueI m).map fun p=>wOf p.1 p.2
noncomputable def wsI(m:Nat):List (List Int×List Int):=(dueI m).flatMap fun p=>[(p.1,p.2),(p.2,p.1)]
noncomputable def panB(m:Nat)(is:List Int):Bool:=decide (is.length≤2) && is.all fun i=>decide (0≤i) && decide (i < (m:Int))
theorem zgm{m:Nat}{is:List Int}(h:panB m is=true):InR m is:=by
 unfold panB at h
 rw[Bool.and_eq_true,decide_eq_true_eq] at h
 refine⟨h.1,fun i hi=>?_⟩
 have:=List.all_eq_true.mp h.2 i hi
 rwa [Bool.and_eq_true,decide_eq_true_eq,decide_eq_true_eq] at this
theorem zoj{m:Nat}(hm:m4 m):((wsI m).all fun p=>panB m p.1 && panB m p.2 && (wsI m).contains (p.2,p.1))=true:=by
 rcases uc hm with rfl | rfl | rfl | rfl <;> decide +kernel
noncomputable abbrev Dn:=List Int×List Int×Int
noncomputable def dnD(d:Dn):PyData:=.tuple [wOf d.1 d.2.1,.int d.2.2]
noncomputable def dnsD(ds:List Dn):List PyData:=ds.map dnD
structure OkD(m:Nat)(d:Dn):Prop where
 w:(d.1,d.2.1)∈wsI m
 o : -1≤d.2.2∧d.2.2≤1
structure OkW(m:Nat)(p:List Int×List Int):Prop where
 l:InR m p.1
 r:InR m p.2
 t:(p.2,p.1)∈wsI m
theorem pn{m:Nat}{p:List Int×List Int}(hm:m4 m)(h:p∈wsI m):OkW m p:=by
 have:=List.all_eq_true.mp (zoj hm) p h
 rw[Bool.and_eq_true,Bool.and_eq_true] at this
 exact⟨zgm this.1.1,zgm this.1.2,List.contains_iff_mem.mp this.2⟩
noncomputable def zq9(d:Dn):Dn:=(d.2.1,d.1,0 - d.2.2)
theorem OkD.turn{m:Nat}{d:Dn}(hm:m4 m)(h:OkD m d):OkD m (zq9 d):=⟨(pn hm h.w).t,by have:=h.o;show -1≤0 - d.2.2∧0 - d.2.2≤1;omega⟩
noncomputable def zlj(m:Nat):List Dn:=(wsI m).flatMap fun p=>[(p.1,p.2,-1),(p.1,p.2,0),(p.1,p.2,1)]
theorem OkD.mem{m:Nat}{d:Dn}(h:OkD m d):d∈zlj m:=by
 obtain⟨is,js,o⟩:=d
 refine List.mem_flatMap.mpr ⟨(is,js),h.w,?_⟩
 have ho:=h.o
 have:o = -1∨o=0∨o=1:=by show o = -1∨o=0∨o=1;have : -1≤o∧o≤1:=ho;omega
 rcases this with rfl | rfl | rfl <;> simp
noncomputable def tkA(n:Nat)(O:za):za:=(Tk n O).take O.length
noncomputable def tkW(n:Nat)(O:za):za:=(tkA n (tkA n O)).take O.length
noncomputable def tkD(n:Nat)(O:za):za:=((tkW n O).take (tkW n O).length).take O.length
theorem zbu(n:Nat)(O:za):tkW n O=O:=by
 have hA:∀ O,tkA n O=O:=fun O=>by unfold tkA;rw[zlk,List.take_length]
 unfold tkW;rw[hA,hA,List.take_length]
theorem zor(n:Nat)(O:za):tkD n O=O:=by
 unfold tkD;rw[zbu,List.take_length,List.take_length]
noncomputable abbrev zd3(m k:Nat)(O:za):Prop:=(zlj m).map (fun d=>zg P table (k+4) false 13 [.d (.int m),.d (dnD d)] O)=(zlj m).map fun d=>.ok (.d (.bool true)) (tkD d.1.length O)
theorem zsr{k:Nat}{O:za}:zd3 2 k O:=by kernel_rfl
theorem zsq{k:Nat}{O:za}:zd3 3 k O:=by kernel_rfl
theorem zsp{k:Nat}{O:za}:zd3 4 k O:=by kernel_rfl
theorem zso{k:Nat}{O:za}:zd3 5 k O:=by kernel_rfl
theorem zky{k m:Nat}{d:Dn}{O:za}(hm:m4 m)(h:OkD m d):zg P table (k+4) false 13 [.d (.int m),.d (dnD d)] O=.ok (.d (.bool true)) O:=by
 have hq:zd3 m k O:=by
  rcases uc hm with rfl | rfl | rfl | rfl
  ·exact zsr
  ·exact zsq
  ·exact zsp
  ·exact zso
 refine (vo hq h.mem).trans ?_
 rw[zor]
noncomputable def wu(d:Dn)(c:List Int):Int:=sgn (ji c d.1 - ji c d.2.1)
noncomputable def ki(ds:List Dn)(c:List Int):Bool:=ds.all fun d=>decide (wu d c=d.2.2)
noncomputable def z0(cs:List (List Int))(ds:List Dn):List (List Int):=cs.filter (ki ds)
noncomputable def unC:PyData→List Int
 | .tuple xs=>xs.map toI
 | _=>[]
theorem v8(l:List Int):(l.map PyData.int).map toI=l:=by
 rw[List.map_map]
 exact (List.map_congr_left fun _ _=>rfl).trans (List.map_id l)
theorem x9(c:List Int):unC (caseD c)=c:=v8 c
noncomputable def unW:PyData→List Int×List Int
 | .tuple [l,r]=>(unC l,unC r)
 | _=>([],[])
noncomputable def unD:PyData→Dn
 | .tuple [w,o]=>((unW w).1,(unW w).2,toI o)
 | _=>([],[],0)
theorem zbr(d:Dn):unD (dnD d)=d:=by
 obtain⟨is,js,o⟩:=d
 show (((is.map PyData.int).map toI,(js.map PyData.int).map toI,o):Dn)=_
 rw[v8,v8]
noncomputable def k9(ds:List Dn)(x:PyData):Option PyData:=if ki ds (unC x) then some x else none
theorem jo(ds:List Dn):∀ cs:List (List Int),(zb cs).filterMap (k9 ds)=zb (z0 cs ds)
 | []=>rfl
 | c::cs=>by
   show (caseD c::zb cs).filterMap (k9 ds)=_
   unfold z0
   cases h:ki ds c with
   | true=>rw[List.filterMap_cons_some (show k9 ds (caseD c)=some (caseD c) by unfold k9;rw[x9,h];rfl),jo ds cs,List.filter_cons_of_pos h];rfl
   | false=>rw[List.filterMap_cons_none (show k9 ds (caseD c)=none by unfold k9;rw[x9,h];rfl),jo ds cs,List.filter_cons_of_neg (by rw[h];decide)];rfl
structure Dns(m:Nat)(ds:List Dn):Prop where
 ok:∀ d∈ds,OkD m d
 le:ds.length≤20
theorem yu{ds:List Dn}:(dnsD ds).length=ds.length:=List.length_map _
noncomputable abbrev R8(m:Nat)(v u:V)(a b c e:Option V):Loc:=[some (.d (.int m)),some v,some u,a,b,c,e]
theorem zf1{k m:Nat}{ds:List Dn}{c:List Int}{v u:V}{O:za}(hm:m4 m)(hc:good m c)(hd:Dns m ds)(hu:Seen O u (dnsD ds)) :
 evE (PG (k+4) false) (R8 m v u none (some (.d (caseD c))) none none) (.prim .all (.cons (.comp (.cmp .eq (.call 8 (.cons (.loc 5) (.cons (.loc 4) .nil))) (.loc 6)) (.two (.name 5) (.name 6)) (.e (.loc 2)) .nil) .nil)) O=.ok (.d (.bool (ki ds c))) O:=by
 obtain⟨src,s1,s2,s3⟩:=hu.src
 have hl:(dnsD ds).length≤line:=by rw[yu];exact Nat.le_trans hd.le (by decide)
 have:=ur (P:=PG (k+4) false) (ρ:=R8 m v u none (some (.d (caseD c))) none none) (elt:=.cmp .eq (.call 8 (.cons (.loc 5) (.cons (.loc 4) .nil))) (.loc 6)) (tgt:=.two (.name 5) (.name 6)) (it:=.e (.loc 2)) (O:=O) (fun y=>decide (wu (unD y) c=(unD y).2.2)) rfl s1 s2 s3 hl fun x hx=>by
  obtain⟨d,hdm,rfl⟩:=List.mem_map.mp hx
  have w:=pn hm (hd.ok d hdm).w
  refine⟨R8 m v u none (some (.d (caseD c))) (some (.d (wOf d.1 d.2.1))) (some (.d (.int d.2.2))),rfl,?_⟩
  rw[zbr]
  exact zt (zi rfl (zkz hm hc w.l w.r)) rfl eq_int
 rw[this]
 unfold ki dnsD
 rw[List.all_map]
 congr 4
 funext d
 show decide (wu (unD (dnD d)) c=(unD (dnD d)).2.2)=_
 rw[zbr]
theorem zid{k m:Nat}{cs:List (List Int)}{ds:List Dn}{v u:V}{O:za}(hm:m4 m)(f:Found m cs)(hd:Dns m ds)(hv:Seen O v (zb cs))(hu:Seen O u (dnsD ds)) :
 evE (PG (k+4) false) (R8 m v u none none none none) (.comp (.loc 4) (.name 4) (.e (.loc 1)) (.cons (.prim .all (.cons (.comp (.cmp .eq (.call 8 (.cons (.loc 5) (.cons (.loc 4) .nil))) (.loc 6)) (.two (.name 5) (.name 6)) (.e (.loc 2)) .nil) .nil)) .nil)) O=.ok (.d (.list (zb (z0 cs ds)))) O:=by
 obtain⟨src,s1,s2,s3⟩:=hv.src
 have hl:(zb cs).length≤line:=by rw[zz];exact Nat.le_trans f.le (by decide)
 have:=qj (P:=PG (k+4) false) (ρ:=R8 m v u none none none none) (elt:=.loc 4) (tgt:=.name 4) (it:=.e (.loc 1)) (ifs:=.cons (.prim .all (.cons (.comp (.cmp .eq (.call 8 (.cons (.loc 5) (.cons (.loc 4) .nil))) (.loc 6)) (.two (.name 5) (.name 6)) (.e (.loc 2)) .nil) .nil)) .nil) (O:=O) rfl s1 s3 (by rw[s2];exact hl) (k9 ds) fun x hx=>by
  rw[s2] at hx
  obtain⟨c,hc,rfl⟩:=List.mem_map.mp hx
  have ht:=zf1 (k:=k) (v:=v) hm (f.good c hc) hd hu
  show R.bind (xy (PG (k+4) false) (R8 m v u none (some (.d (caseD c))) none none) _ O) _=_
  rw[zcr,ht]
  unfold k9
  rw[x9]
  cases ki ds c <;> rfl
 rw[this,s2,jo]
theorem zf2{k m:Nat}{cs:List (List Int)}{ds:List Dn}{v u:V}{O:za}(hm:m4 m)(f:Found m cs)(hd:Dns m ds)(hv:Seen O v (zb cs))(hu:Seen O u (dnsD ds)) :
 zg P table (k+5) false 14 [.d (.int m),v,u] O=.ok (.d (.list (zb (z0 cs ds)))) O:=by
 obtain⟨src,s1,s2,s3⟩:=hu.src
 have hl:(dnsD ds).length≤line:=by rw[yu];exact Nat.le_trans hd.le (by decide)
 have hle:=hd.le
 have t1:evE (PG (k+4) false) (R8 m v u none none none none) (.cmp .gt (.prim .len (.cons (.loc 2) .nil)) (.glob 4)) O=.ok (.d (.bool false)) O:=by
  refine zt (yt rfl rfl (zdl hu hl)) rfl ?_
  show R.ok (V.d (.bool (decide (((dnsD ds).length:Int) > 20)))) O=_
  rw[decide_eq_false (by rw[yu];omega)]
 have t2:evE (PG (k+4) false) (R8 m v u none none none none) (.prim .all (.cons (.comp (.call 13 (.cons (.loc 0) (.cons (.loc 3) .nil))) (.name 3) (.e (.loc 2)) .nil) .nil)) O=.ok (.d (.bool true)) O:=by
  have:=ur (P:=PG (k+4) false) (ρ:=R8 m v u none none none none) (elt:=.call 13 (.cons (.loc 0) (.cons (.loc 3) .nil))) (tgt:=.name 3) (it:=.e (.loc 2)) (O:=O) (fun _=>true) rfl s1 s2 s3 hl fun x hx=>⟨R8 m v u (some (.d x)) none none none,rfl,by
   obtain⟨d,hdm,rfl⟩:=List.mem_map.mp hx
   exact zi rfl (zky hm (hd.ok d hdm))⟩
  rw[this]
  congr 4
  exact List.all_eq_true.mpr fun _ _=>rfl
 refine zq (fn:=c14) (ρ':=R8 m v u none none none none) rfl ⟨rfl,by decide⟩ rfl ?_
 refine (zc (xx (zi rfl (zku (k:=k+1) hm f hv)))).trans ?_
 refine (zc (yd (po (w_nt (yt rfl rfl (zdn hu))) (po t1 (w_nt t2))))).trans ?_
 exact ze (yc (zid hm f hd hv hu))
theorem zrq{k:Nat}:zg P table (k+1) false 27 [.d (.int 2)] []=.ok (.d (.list (due 2))) []:=by kernel_rfl
theorem zrp{k:Nat}:zg P table (k+1) false 27 [.d (.int 3)] []=.ok (.d (.list (due 3))) []:=by kernel_rfl
theorem zro{k:Nat}:zg P table (k+1) false 27 [.d (.int 4)] []=.ok (.d (.list (due 4))) []:=by kernel_rfl
theorem zrn{k:Nat}:zg P table (k+1) false 27 [.d (.int 5)] []=.ok (.d (.list (due 5))) []:=by kernel_rfl
theorem zqg{k m:Nat}(hm:m4 m):zg P table (k+1) false 27 [.d (.int m)] []=.ok (.d (.list (due m))) []:=by
 rcases uc hm with rfl | rfl | rfl | rfl
 ·exact zrq
 ·exact zrp
 ·exact zro
 ·exact zrn
theorem znb{m:Nat}(hm:m4 m):0 < (due m).length∧(due m).length≤line:=by rcases uc hm with rfl | rfl | rfl | rfl <;> decide +kernel
theorem zna{m:Nat}{x:PyData}(h:x∈due m):∃ p:List Int×List Int,x=wOf p.1 p.2∧(p.1,p.2)∈wsI m∧(p.2,p.1)∈wsI m:=by
 obtain⟨p,hp,rfl⟩:=List.mem_map.mp h
 exact⟨p,rfl,List.mem_flatMap.mpr ⟨p,hp,by simp⟩,List.mem_flatMap.mpr ⟨p,hp,by simp⟩⟩
noncomputable abbrev R18(s:List Int)(m:Nat)(cs:List (List Int))(n0:Int)(a b c d e f:Option V):Loc:=[some (.d (.list (s.map .int))),some (.d (.int 1)),some (.d (.int m)),some (.d (.list (zb cs))),some (.d (.int n0)),some (.d (.list (due m))),some (.box 0),a,b,c,d,e,f]
section
variable{k:Nat}{s:List Int}{m:Nat}{cs:List (List Int)}{n0 n:Int}{a b c d e f:Option V}{O:za}
theorem q1{i:Nat}(hs:s.length≤63):∃ n,evS (PG (k+2) false) (.asg (.name 8) (.call 25 (.cons (.loc 0) (.cons (.bin .add (.bin .add (.loc 1) (.int 1)) (.loc 7)) .nil)))) (R18 s m cs n0 (some (.d (.int (0+(i:Int))))) b c d e f) O=.ok .next (R18 s m cs n0 (some (.d (.int (0+(i:Int))))) (some (.d (.int n))) c d e f,O):=by
 refine⟨mixI s (2+i),zv (zi rfl ?_) rfl rfl⟩
 show zg P table (k+2) false 25 [.d (.list (s.map .int)),.d (.int (1+1+(0+(i:Int))))] O=_
 rw[show ((1:Int)+1+(0+(i:Int)))=((2+i:Nat):Int) by omega]
 exact wp hs
theorem q2(hm:m4 m):∃ is js,(is,js)∈wsI m∧(js,is)∈wsI m∧evS (PG k false) (.asg (.two (.name 9) (.name 10)) (.idx (.loc 5) (.bin .mod (.loc 8) (.prim .len (.cons (.loc 5) .nil))))) (R18 s m cs n0 a (some (.d (.int n))) c d e f) O=.ok .next (R18 s m cs n0 a (some (.d (.int n))) (some (.d (.tuple (is.map .int)))) (some (.d (.tuple (js.map .int)))) e f,O):=by
 obtain⟨h1,h2⟩:=znb hm
 obtain⟨j,hj,ej⟩:=md n (due m).length O h1
 obtain⟨y,hy,ey⟩:=zcb (xs:=due m) rfl h2 hj
 obtain⟨p,rfl,w1,w2⟩:=zna hy
 exact⟨p.1,p.2,w1,w2,ziw rfl (yw rfl (z8 rfl (yt rfl rfl (zb5 h2)) ej) (by rw[v6,ey];rfl)) rfl⟩
theorem q3{is js:List Int}(w1:(is,js)∈wsI m)(w2:(js,is)∈wsI m):∃ p:List Int×List Int,p∈wsI m∧evS (PG k false) (.asg (.name 11) (.idx (.list (.cons (.tup (.cons (.loc 9) (.cons (.loc 10) .nil))) (.cons (.tup (.cons (.loc 10) (.cons (.loc 9) .nil))) .nil))) (.bin .mod (.bin .fdiv (.loc 8) (.int 32)) (.int 2)))) (R18 s m cs n0 a (some (.d (.int n))) (some (.d (.tuple (is.map .int)))) (some (.d (.tuple (js.map .int)))) e f) O=.ok .next (R18 s m cs n0 a (some (.d (.int n))) (some (.d (.tuple (is.map .int)))) (some (.d (.tuple (js.map .int)))) (some (.d (wOf p.1 p.2))) f,O):=by
 obtain⟨j,hj,ej⟩:=md (Int.fdiv n 32) 2 O (by decide)
 have:j=0∨j=1:=by omega
 rcases this with rfl | rfl
 ·exact⟨_,w1,zv (yw rfl (z8 (z8 rfl rfl (dv (by decide))) rfl ej) rfl) rfl rfl⟩
 ·exact⟨_,w2,zv (yw rfl (z8 (z8 rfl rfl (dv (by decide))) rfl ej) rfl) rfl rfl⟩
theorem q4{p:List Int×List Int}(hm:m4 m)(hf:Found m cs)(hp:p∈wsI m):∃ o:Int,(-1≤o∧o≤1)∧evS (PG (k+1) false) (.asg (.name 12) (.call 26 (.cons (.loc 11) (.cons (.idx (.loc 3) (.bin .mod (.bin .fdiv (.loc 4) (.int 5)) (.prim .len (.cons (.loc 3) .nil)))) .nil)))) (R18 s m cs n0 a (some (.d (.int n))) c d (some (.d (wOf p.1 p.2))) f) O=.ok .next (R18 s m cs n0 a (some (.d (.int n))) c d (some (.d (wOf p.1 p.2))) (some (.d (.int o))),O):=by
 have hl:(zb cs).length≤line:=by rw[zz];exact Nat.le_trans hf.le (by decide)
 obtain⟨j,hj,ej⟩:=md (Int.fdiv n0 5) (zb cs).length O (by rw[zz];exact hf.pos)
 obtain⟨y,hy,ey⟩:=zcb (xs:=zb cs) rfl hl hj
 obtain⟨cc,hc,rfl⟩:=List.mem_map.mp hy
 have w:=pn hm hp
 exact⟨_,zoz _,zv (zi (zl rfl (zl (yw rfl (z8 (z8 rfl rfl (dv (by decide))) (yt rfl rfl (zb5 hl)) ej) (by rw[v6,ey];rfl)) rfl)) (zch hm (hf.good cc hc) w.l w.r)) rfl rfl⟩
theorem q5{o:Int}(ho : -1≤o∧o≤1):∃ o':Int,(-1≤o'∧o'≤1)∧evS (PG k false) (.ife (.cmp .eq (.bin .mod (.bin .fdiv (.loc 8) (.int 64)) (.int 8)) (.int 1)) (.cons (.asg (.name 12) (.bin .sub (.bin .mod (.bin .fdiv (.loc 8) (.int 512)) (.int 3)) (.int 1))) .nil) .nil) (R18 s m cs n0 a (some (.d (.int n))) c d e (some (.d (.int o)))) O=.ok .next (R18 s m cs n0 a (some (.d (.int n))) c d e (some (.d (.int o'))),O):=by
 obtain⟨j,hj,ej⟩:=md (Int.fdiv n 64) 8 O (by decide)
 obtain⟨i,hi,ei⟩:=md (Int.fdiv n 512) 3 O (by decide)
 have ht:evE (PG k false) (R18 s m cs n0 a (some (.d (.int n))) c d e (some (.d (.int o)))) (.cmp .eq (.bin .mod (.bin .fdiv (.loc 8) (.int 64)) (.int 8)) (.int 1)) O=.ok (.d (.bool (decide ((j:Int)=1)))) O:=zt (z8 (z8 rfl rfl (dv (by decide))) rfl ej) rfl eq_int
 by_cases h:(j:Int)=1
 ·rw[decide_eq_true h] at ht
  refine⟨(i:Int) - 1,by omega,(w_if ht).trans ?_⟩
  exact (zc (zv (z8 (z8 (z8 rfl rfl (dv (by decide))) rfl ei) rfl uf) rfl rfl)).trans rfl
 ·rw[decide_eq_false h] at ht
  exact⟨o,ho,yd ht⟩
theorem zk0{ds:List Dn}{x:Dn}:dnsD ds++[dnD x]=dnsD (ds++[x]):=by unfold dnsD;rw[List.map_append];rfl
theorem q6{p:List Int×List Int}{o:Int}{ds:List Dn}(hl:ds.length < 10):evS (PG k false) (.expr (.meth .append (.loc 6) (.cons (.tup (.cons (.loc 11) (.cons (.loc 12) .nil))) .nil))) (R18 s m cs n0 a b c d (some (.d (wOf p.1 p.2))) (some (.d (.int o)))) [Box.lst (dnsD ds)]=.ok .next (R18 s m cs n0 a b c d (some (.d (wOf p.1 p.2))) (some (.d (.int o))),[Box.lst (dnsD (ds++[(p.1,p.2,o)]))]):=by
 have ap:=app0 (xs:=dnsD ds) (x:=dnD (p.1,p.2,o)) (by rw[yu];exact Nat.lt_of_lt_of_le hl (by decide))
 rw[zk0] at ap
 exact xx (v:=.d .none) ap
end
noncomputable def doneBody:CSs:=(.cons (.asg (.name 8) (.call 25 (.cons (.loc 0) (.cons (.bin .add (.bin .add (.loc 1) (.int 1)) (.loc 7)) .nil)))) (.cons (.asg (.two (.name 9) (.name 10)) (.idx (.loc 5) (.bin .mod (.loc 8) (.prim .len (.cons (.loc 5) .nil))))) (.cons (.asg (.name 11) (.idx (.list (.cons (.tup (.cons (.loc 9) (.cons (.loc 10) .nil))) (.cons (.tup (.cons (.loc 10) (.cons (.loc 9) .nil))) .nil))) (.bin .mod (.bin .fdiv (.loc 8) (.int 32)) (.int 2)))) (.cons (.asg (.name 12) (.call 26 (.cons (.loc 11) (.cons (.idx (.loc 3) (.bin .mod (.bin .fdiv (.loc 4) (.int 5)) (.prim .len (.cons (.loc 3) .nil)))) .nil)))) (.cons (.ife (.cmp .eq (.bin .mod (.bin .fdiv (.loc 8) (.int 64)) (.int 8)) (.int 1)) (.cons (.asg (.name 12) (.bin .sub (.bin .mod (.bin .fdiv (.loc 8) (.int 512)) (.int 3)) (.int 1))) .nil) .nil) (.cons (.expr (.meth .append (.loc 6) (.cons (.tup (.cons (.loc 11) (.cons (.loc 12) .nil))) .nil))) .nil))))))
inductive At18(s:List Int)(m:Nat)(cs:List (List Int))(n0:Int)(i:Nat):Loc→za→Prop
 | mk (a b c d e f:Option V) (ds:List Dn) (ok:∀ d∈ds,OkD m d) (len:ds.length=i):At18 s m cs n0 i (R18 s m cs n0 a b c d e f) [Box.lst (dnsD ds)]
theorem zow{k i:Nat}{s:List Int}{m:Nat}{cs:List (List Int)}{n0:Int}{ρ:Loc}{O:za}(hs:s.length≤63)(hm:m4 m)(hf:Found m cs)(hi:i < 10)(h:At18 s m cs n0 i ρ O):∃ ρ' O',yj (PG (k+2) false) (.name 7) doneBody (.int (0+(i:Int))) ρ O=.ok .next (ρ',O')∧At18 s m cs n0 (i+1) ρ' O':=by
 obtain⟨a,b,c,d,e,f,ds,ok,len⟩:=h
 obtain⟨n,e1⟩:=q1 (k:=k) (s:=s) (m:=m) (cs:=cs) (n0:=n0) (i:=i) (b:=b) (c:=c) (d:=d) (e:=e) (f:=f) (O:=[Box.lst (dnsD ds)]) hs
 obtain⟨is,js,w1,w2,e2⟩:=q2 (k:=k+2) (s:=s) (cs:=cs) (n0:=n0) (n:=n) (a:=some (.d (.int (0+(i:Int))))) (c:=c) (d:=d) (e:=e) (f:=f) (O:=[Box.lst (dnsD ds)]) hm
 obtain⟨p,hp,e3⟩:=q3 (k:=k+2) (s:=s) (cs:=cs) (n0:=n0) (n:=n) (a:=some (.d (.int (0+(i:Int))))) (e:=e) (f:=f) (O:=[Box.lst (dnsD ds)]) w1 w2
 obtain⟨o,ho,e4⟩:=q4 (k:=k+1) (s:=s) (n0:=n0) (n:=n) (a:=some (.d (.int (0+(i:Int))))) (c:=some (.d (.tuple (is.map .int)))) (d:=some (.d (.tuple (js.map .int)))) (f:=f) (O:=[Box.lst (dnsD ds)]) hm hf hp
 obtain⟨o',ho',e5⟩:=q5 (k:=k+2) (s:=s) (m:=m) (cs:=cs) (n0:=n0) (n:=n) (a:=some (.d (.int (0+(i:Int))))) (c:=some (.d (.tuple (is.map .int)))) (d:=some (.d (.tuple (js.map .int)))) (e:=some (.d (wOf p.1 p.2))) (O:=[Box.lst (dnsD ds)]) ho
 refine⟨_,_,?_,.mk (some (.d (.int (0+(i:Int))))) (some (.d (.int n))) (some (.d (.tuple (is.map .int)))) (some (.d (.tuple (js.map .int)))) (some (.d (wOf p.1 p.2))) (some (.d (.int o'))) (ds++[(p.1,p.2,o')]) (fun x hx=>?_) (by rw[List.length_append,len];rfl)⟩
 ·show evSs (PG (k+2) false) doneBody (R18 s m cs n0 (some (.d (.int (0+(i:Int))))) b c d e f) [Box.lst (dnsD ds)]=_
  unfold doneBody
  exact (zc e1).trans ((zc e2).trans ((zc e3).trans ((zc e4).trans ((zc e5).trans ((zc (q6 (by omega))).trans rfl)))))
 ·rcases List.mem_append.mp hx with hx | hx
  ·exact ok x hx
  ·rw[List.mem_singleton.mp hx];exact⟨hp,ho'⟩
theorem zpq{k n:Nat}{s:List Int}{m:Nat}{cs:List (List Int)}{n0:Int}(hs:s.length≤63)(hm:m4 m)(hf:Found m cs)(hn:n≤10):∃ ρ' O',z6 (.plain (zj 0 n)) (yj (PG (k+2) false) (.name 7) doneBody) (zj 0 n) (R18 s m cs n0 none none none none none none) [Box.lst []]=.ok .next (ρ',O')∧At18 s m cs n0 n ρ' O':=by
 obtain⟨ρ',O',e,h⟩:=wn (ys:=zj 0 n) (turn:=yj (PG (k+2) false) (.name 7) doneBody) (fun i ρ O=>At18 s m cs n0 i ρ O) (zj 0 n) 0 (R18 s m cs n0 none none none none none none) [Box.lst []]
  (fun j x hx ρ O h=>by
    have hj:j < n:=by have:=(List.getElem?_eq_some_iff.mp hx).1;rw[xl] at this;omega
    rw[gn hx]
    rw[Nat.zero_add] at h ⊢
    exact zow hs hm hf (by omega) h) (.mk _ _ _ _ _ _ [] (fun _ h=>nomatch h) rfl)
 refine⟨ρ',O',e,?_⟩
 rw[xl] at h
 rwa [show (0:Nat)+((n:Int) - 0).toNat=n by omega] at h
theorem zqk{k:Nat}{s:List Int}{m:Nat}{cs:List (List Int)}(hs:s.length≤63)(hm:m4 m)(hf:Found m cs):∃ ds:List Dn,(∀ d∈ds,OkD m d)∧ds.length≤3∧zg P table (k+3) false 30 [.d (.list (s.map .int)),.d (.int 1),.d (.int m),.d (.list (zb cs))] []=.ok (.d (.list (dnsD ds))) []:=by
 have n1:zg P table (k+2) false 25 [.d (.list (s.map .int)),.d (.int 1)] []=.ok (.d (.int (mixI s 1))) []:=wp (k:=k) (j:=1) (O:=[]) hs
 generalize mixI s 1=n0 at n1
 obtain⟨j,hj,ej⟩:=md n0 5 [Box.lst []] (by decide)
 have hn:∃ n:Nat,n≤3∧idxD (.list [.int 0,.int 0,.int 1,.int 2,.int 3]) (.int (j:Int))=some (.int (n:Int)):=by
  have:j=0∨j=1∨j=2∨j=3∨j=4:=by omega
  rcases this with rfl | rfl | rfl | rfl | rfl
  ·exact⟨0,by decide,rfl⟩
  ·exact⟨0,by decide,rfl⟩
  ·exact⟨1,by decide,rfl⟩
  ·exact⟨2,by decide,rfl⟩
  ·exact⟨3,by decide,rfl⟩
 obtain⟨n,hn,en⟩:=hn
 obtain⟨ρ',O',el,hat⟩:=zpq (k:=k) (n:=n) (n0:=n0) hs hm hf (by omega)
 have hI:evI (PG (k+2) false) (R18 s m cs n0 none none none none none none) (.range (.int 0) (.idx (.list (.cons (.int 0) (.cons (.int 0) (.cons (.int 1) (.cons (.int 2) (.cons (.int 3) .nil)))))) (.bin .mod (.loc 4) (.int 5)))) [Box.lst []]=.ok (.plain (zj 0 n)) [Box.lst []]:=by
  have:evE (PG (k+2) false) (R18 s m cs n0 none none none none none none) (.idx (.list (.cons (.int 0) (.cons (.int 0) (.cons (.int 1) (.cons (.int 2) (.cons (.int 3) .nil)))))) (.bin .mod (.loc 4) (.int 5))) [Box.lst []]=.ok (.d (.int (n:Int))) [Box.lst []]:=yw rfl (z8 rfl rfl ej) (by rw[v6,en];rfl)
  rw[uq,ju,zr,this,zr]
  exact j5 (by omega)
 generalize zj 0 (n:Int)=rs at el hI
 obtain⟨a,b,c,d,e,f,ds,ok,len⟩:=hat
 refine⟨ds,ok,by omega,?_⟩
 have hfor:evS (PG (k+2) false) (.for_ (.name 7) (.range (.int 0) (.idx (.list (.cons (.int 0) (.cons (.int 0) (.cons (.int 1) (.cons (.int 2) (.cons (.int 3) .nil)))))) (.bin .mod (.loc 4) (.int 5)))) doneBody) (R18 s m cs n0 none none none none none none) [Box.lst []]=.ok .next (R18 s m cs n0 a b c d e f,[Box.lst (dnsD ds)]):=by
  rw[q9,if_neg Bool.false_ne_true,hI];exact el
 have hb:evSs (PG (k+2) false) c30.body [some (.d (.list (s.map .int))),some (.d (.int 1)),some (.d (.int m)),some (.d (.list (zb cs))),none,none,none,none,none,none,none,none,none] []=.ok (.ret (.box 0)) (R18 s m cs n0 a b c d e f,[Box.lst (dnsD ds)]):=
  (zc (zv (zi rfl n1) rfl rfl)).trans ((zc (zv (zi rfl (zqg (k:=k+1) hm)) rfl rfl)).trans ((zc (zv (v:=.box 0) (O':=[Box.lst []]) rfl rfl rfl)).trans ((zc hfor).trans (ze (yc rfl)))))
 rw[jz (fn:=c30) rfl ⟨rfl,by decide⟩]
 unfold evFn
 show (match evSs (PG (k+2) false) c30.body [some (.d (.list (s.map .int))),some (.d (.int 1)),some (.d (.int m)),some (.d (.list (zb cs))),none,none,none,none,none,none,none,none,none] [] with | .ok (.ret v) S=>fin 0 false v S.2 | .ok .next S=>.ok (.d .none) (S.2.take 0) | .stuck=>.stuck)=_
 rw[hb];rfl
structure Lay(n:Nat)(x:PyData):Prop where
 lay:x.canLay0=true
 depth:x.depth≤n
theorem lay_all{n:Nat}:∀ (xs:List PyData),(∀ x∈xs,Lay n x)→PyData.canLayAll0 xs=true∧PyData.depthAll xs≤n
 | [],_=>⟨rfl,Nat.zero_le _⟩
 | x::xs,h=>by
   obtain⟨h1,h2⟩:=lay_all xs fun y hy=>h y (List.mem_cons_of_mem _ hy)
   have hx:=h x List.mem_cons_self
   refine⟨?_,Nat.max_le.mpr ⟨hx.depth,h2⟩⟩
   show (x.canLay0 && PyData.canLayAll0 xs)=true
   rw[hx.lay,h1];rfl
theorem Lay.list{n:Nat}{xs:List PyData}(h:∀ x∈xs,Lay n x):Lay (n+1) (.list xs):=⟨(lay_all xs h).1,Nat.succ_le_succ (lay_all xs h).2⟩
theorem Lay.eq{n:Nat}{x:PyData}(h:Lay n x)(hn:n≤100):vc .eq x x=some true∧vc .ne x x=some false:=by
 have h3:eqOk x x=true:=by
  unfold eqOk
  rw[h.lay,decide_eq_true (by rw[Nat.min_self];exact Nat.le_trans h.depth hn)];rfl
 refine⟨?_,?_⟩
 ·show (if eqOk x x=true then some (PyData.eqv x x) else none)=_
  rw[if_pos h3,PySem.SeqAt.eqv_refl x h.lay]
 ·show (if eqOk x x=true then some (!PyData.eqv x x) else none)=_
  rw[if_pos h3,PySem.SeqAt.eqv_refl x h.lay];rfl
theorem kc(cs:List (List Int)):∀ x∈zb cs,Lay 10 x:=fun x hx=>by
 obtain⟨c,_,rfl⟩:=List.mem_map.mp hx
 exact⟨gy,Nat.le_trans (dj c) (by decide)⟩
theorem zd0{f:PyData→Option PyData}:∀ xs:List PyData,(xs.filterMap f).isEmpty=xs.all fun x=>(f x).isNone
 | []=>rfl
 | x::xs=>by
   cases h:f x with
   | none=>rw[List.filterMap_cons_none h,zd0 xs,List.all_cons,h];rfl
   | some y=>rw[List.filterMap_cons_some h,List.all_cons,h];rfl
theorem qy{xs ys:List PyData}(h1:PyData.canLayAll0 xs=true)(h2:PyData.canLayAll0 ys=true)(h3:(PyData.list ys).depth≤100):eqOk (.list xs) (.list ys)=true:=by
 unfold eqOk
 rw[show (PyData.list xs).canLay0=true from h1,show (PyData.list ys).canLay0=true from h2,decide_eq_true (Nat.le_trans (Nat.min_le_right _ _) h3)];rfl
theorem zce{xs:List PyData}{O:za}(h:∀ x∈xs,Lay 10 x):cmpV .eq (.d (.list xs)) (.d (.list [])) O=.ok (.d (.bool xs.isEmpty)) O:=by
 rw[v_eq]
 show opt (Option.map _ (if eqOk (.list xs) (.list [])=true then some (PyData.eqv (.list xs) (.list [])) else none)) O=_
 rw[if_pos (qy (Lay.list h).lay rfl (by decide))]
 cases xs <;> rfl
noncomputable def uk(c:List Int)(y:PyData):Option PyData:=if wu (unD y) c=(unD y).2.2 then none else some (.int 1)
theorem zja{c:List Int}{ds:List Dn}:((dnsD ds).filterMap (uk c)).isEmpty=ki ds c:=by
 rw[zd0]
 unfold ki dnsD
 rw[List.all_map]
 congr 1
 funext d
 show (uk c (dnD d)).isNone=_
 unfold uk
 rw[zbr]
 by_cases h:wu d c=d.2.2
 ·rw[if_pos h,decide_eq_true h];rfl
 ·rw[if_neg h,decide_eq_false h];rfl
theorem zi9{c:List Int}{ys:List PyData}:∀ x∈ys.filterMap (uk c),Lay 10 x:=fun x hx=>by
 obtain⟨y,_,e⟩:=List.mem_filterMap.mp hx
 unfold uk at e
 by_cases h:wu (unD y) c=(unD y).2.2
 ·rw[if_pos h] at e;cases e
 ·rw[if_neg h] at e;cases e;exact⟨rfl,Nat.zero_le _⟩
noncomputable abbrev R19(cs:List (List Int))(ds:List Dn)(a b c:Option V):Loc:=[some (.d (.list (zb cs))),some (.d (.list (dnsD ds))),a,b,c]
theorem zqe{k m:Nat}{cs:List (List Int)}{ds:List Dn}{c:List Int}{O:za}(hm:m4 m)(hc:good m c)(hd:Dns m ds) :
 evE (PG (k+1) false) (R19 cs ds (some (.d (caseD c))) none none) (.cmp .eq (.comp (.int 1) (.two (.name 3) (.name 4)) (.e (.loc 1)) (.cons (.cmp .ne (.call 26 (.cons (.loc 3) (.cons (.loc 2) .nil))) (.loc 4)) .nil)) (.list .nil)) O=.ok (.d (.bool (ki ds c))) O:=by
 have hl:(dnsD ds).length≤line:=by rw[yu];exact Nat.le_trans hd.le (by decide)
 have:=qj (P:=PG (k+1) false) (ρ:=R19 cs ds (some (.d (caseD c))) none none) (elt:=.int 1) (tgt:=.two (.name 3) (.name 4)) (it:=.e (.loc 1)) (ifs:=.cons (.cmp .ne (.call 26 (.cons (.loc 3) (.cons (.loc 2) .nil))) (.loc 4)) .nil) (src:=.plain (dnsD ds)) (O:=O) rfl rfl rfl hl (uk c) fun x hx=>by
  obtain⟨d,hdm,rfl⟩:=List.mem_map.mp hx
  have w:=pn hm (hd.ok d hdm).w
  have ht:evE (PG (k+1) false) (R19 cs ds (some (.d (caseD c))) (some (.d (wOf d.1 d.2.1))) (some (.d (.int d.2.2)))) (.cmp .ne (.call 26 (.cons (.loc 3) (.cons (.loc 2) .nil))) (.loc 4)) O=.ok (.d (.bool (!decide (wu d c=d.2.2)))) O:=zt (zi rfl (zch hm hc w.l w.r)) rfl ne_int
  show R.bind (xy (PG (k+1) false) (R19 cs ds (some (.d (caseD c))) (some (.d (wOf d.1 d.2.1))) (some (.d (.int d.2.2)))) _ O) _=_
  rw[zcr,ht]
  unfold uk
  rw[zbr]
  by_cases h:wu d c=d.2.2
  ·rw[if_pos h,decide_eq_true h];rfl
  ·rw[if_neg h,decide_eq_false h];rfl
 refine zt this rfl ?_
 refine (zce zi9).trans ?_
 show R.ok (V.d (.bool ((dnsD ds).filterMap (uk c)).isEmpty)) O=_
 rw[zja]
theorem zm7{k m:Nat}{cs:List (List Int)}{ds:List Dn}{O:za}(hm:m4 m)(f:Found m cs)(hd:Dns m ds):zg P table (k+2) false 31 [.d (.list (zb cs)),.d (.list (dnsD ds))] O=.ok (.d (.list (zb (z0 cs ds)))) O:=by
 have hl:(zb cs).length≤line:=by rw[zz];exact Nat.le_trans f.le (by decide)
 have:=qj (P:=PG (k+1) false) (ρ:=R19 cs ds none none none) (elt:=.loc 2) (tgt:=.name 2) (it:=.e (.loc 0)) (ifs:=.cons (.cmp .eq (.comp (.int 1) (.two (.name 3) (.name 4)) (.e (.loc 1)) (.cons (.cmp .ne (.call 26 (.cons (.loc 3) (.cons (.loc 2) .nil))) (.loc 4)) .nil)) (.list .nil)) .nil) (src:=.plain (zb cs)) (O:=O) rfl rfl rfl hl (k9 ds) fun x hx=>by
  obtain⟨c,hc,rfl⟩:=List.mem_map.mp hx
  have ht:=zqe (k:=k) (cs:=cs) (O:=O) hm (f.good c hc) hd
  show R.bind (xy (PG (k+1) false) (R19 cs ds (some (.d (caseD c))) none none) _ O) _=_
  rw[zcr,ht]
  unfold k9
  rw[x9]
  cases ki ds c <;> rfl
 rw[show (Src.plain (zb cs)).xs.filterMap (k9 ds)=zb (z0 cs ds) from jo ds cs] at this
 exact zq (fn:=c31) rfl ⟨rfl,by decide⟩ rfl (ze (yc this))
noncomputable abbrev Cs:=List (List Int)
noncomputable abbrev Wg:=List Int×List Int
noncomputable def zy(w:Wg)(c:List Int):Int:=sgn (ji c w.1 - ji c w.2)
noncomputable def zf(w:Wg)(o:Int)(cs:Cs):Cs:=cs.filter fun c=>decide (zy w c=o)
theorem zax(d:Int):sgn d = -1∨sgn d=0∨sgn d=1:=by
 unfold sgn
 by_cases h:d > 0
 ·rw[if_pos h];exact .inr (.inr rfl)
 ·rw[if_neg h]
  by_cases h:d < 0
  ·rw[if_pos h];exact .inl rfl
  ·rw[if_neg h];exact .inr (.inl rfl)
theorem zde(w:Wg):∀ cs:Cs,(zf w (-1) cs).length+(zf w 0 cs).length+(zf w 1 cs).length=cs.length
 | []=>rfl
 | c::cs=>by
   have ih:=zde w cs
   unfold zf at ih ⊢
   rw[List.filter_cons,List.filter_cons,List.filter_cons]
   rcases zax (ji c w.1 - ji c w.2) with h | h | h
   ·have h:zy w c = -1:=h
    rw[h,if_pos (by decide),if_neg (by decide),if_neg (by decide)]
    simp only[List.length_cons];omega
   ·have h:zy w c=0:=h
    rw[h,if_neg (by decide),if_pos (by decide),if_neg (by decide)]
    simp only[List.length_cons];omega
   ·have h:zy w c=1:=h
    rw[h,if_neg (by decide),if_neg (by decide),if_pos (by decide)]
    simp only[List.length_cons];omega
noncomputable def outs:List Int:=[-1,0,1]
noncomputable def solv(ws:List Wg):Nat→Cs→Bool
 | 0,cs=>cs.length == 1
 | n+1,cs=>cs.length == 1 || (decide (cs.length≤3 ^ (n+1)) && ws.any fun w=>outs.all fun o=>(zf w o cs).isEmpty || solv ws n (zf w o cs))
variable{ws:List Wg}
theorem xr{n:Nat}{cs:Cs}(h:cs.length=1):solv ws n cs=true:=by
 cases n with
 | zero=>exact beq_iff_eq.mpr h
 | succ n=>unfold solv;rw[h];rfl
theorem solv_succ{n:Nat}{cs:Cs}:solv ws (n+1) cs=true↔cs.length=1∨cs.length≤3 ^ (n+1)∧∃ w∈ws,∀ o∈outs,zf w o cs=[]∨solv ws n (zf w o cs)=true:=by
 show (cs.length == 1 || (decide (cs.length≤3 ^ (n+1)) && ws.any fun w=>outs.all fun o=>(zf w o cs).isEmpty || solv ws n (zf w o cs)))=true↔_
 rw[Bool.or_eq_true,Bool.and_eq_true,beq_iff_eq,decide_eq_true_eq,List.any_eq_true]
 simp only[List.all_eq_true,Bool.or_eq_true,List.isEmpty_iff]
theorem zc4{cs:Cs}:∀ {n:Nat},solv ws n cs=true→cs.length≤3 ^ n
 | 0,h=>Nat.le_of_eq (beq_iff_eq.mp h)
 | n+1,h=>by
   rcases solv_succ.mp h with h | h
   ·rw[h];exact Nat.one_le_pow _ _ (by decide)
   ·exact h.1
theorem zau:∀ {n:Nat} {cs:Cs},solv ws n cs=true→solv ws (n+1) cs=true
 | 0,cs,h=>xr (beq_iff_eq.mp h)
 | n+1,cs,h=>by
   rcases solv_succ.mp h with h | ⟨h1,w,hw,h⟩
   ·exact xr h
   ·refine solv_succ.mpr (.inr ⟨Nat.le_trans h1 (Nat.pow_le_pow_right (by decide) (Nat.le_succ _)),w,hw,fun o ho=>(h o ho).imp id zau⟩)
theorem zgi{n m:Nat}{cs:Cs}(h:solv ws n cs=true)(hm:n≤m):solv ws m cs=true:=by
 obtain⟨k,rfl⟩:=Nat.exists_eq_add_of_le hm
 induction k with
 | zero=>exact h
 | succ k ih=>exact zau (ih (Nat.le_add_right _ _))
theorem zc3:∀ {n:Nat} {cs cs':Cs},solv ws n cs=true→cs'.Sublist cs→cs'≠[]→solv ws n cs'=true
 | 0,cs,cs',h,hs,hn=>by
   have h:cs.length=1:=beq_iff_eq.mp h
   have:=hs.length_le
   have:0 < cs'.length:=List.length_pos_iff.mpr hn
   exact beq_iff_eq.mpr (by omega)
 | n+1,cs,cs',h,hs,hn=>by
   have hp:0 < cs'.length:=List.length_pos_iff.mpr hn
   have hl:=hs.length_le
   rcases solv_succ.mp h with h | ⟨h1,w,hw,h⟩
   ·exact xr (by omega)
   ·refine solv_succ.mpr (.inr ⟨Nat.le_trans hl h1,w,hw,fun o ho=>?_⟩)
    by_cases he:zf w o cs'=[]
    ·exact .inl he
    ·rcases h o ho with h | h
     ·have:=(hs.filter fun c=>decide (zy w c=o))
      unfold zf at h he
      rw[h] at this
      exact absurd (List.sublist_nil.mp this) he
     ·exact .inr (zc3 h (hs.filter _) he)
theorem v9{n:Nat}{w:Wg}{cs:Cs}(hw:w∈ws)(h:∀ o∈outs,zf w o cs=[]∨solv ws n (zf w o cs)=true):solv ws (n+1) cs=true:=by
 have le:∀ o∈outs,(zf w o cs).length≤3 ^ n:=fun o ho=>by
  rcases h o ho with h | h
  ·rw[h];exact Nat.zero_le _
  ·exact zc4 h
 have h1:=le (-1) (by decide)
 have h2:=le 0 (by decide)
 have h3:=le 1 (by decide)
 have:=zde w cs
 exact solv_succ.mpr (.inr ⟨by rw[Nat.pow_succ];omega,w,hw,h⟩)
noncomputable def xk(ws:List Wg)(a b:List Int):Bool:=ws.all fun w=>decide (zy w a=zy w b)
noncomputable def Pw(ws:List Wg)(cs:Cs):Prop:=cs.Pairwise fun a b=>xk ws a b=false
theorem Pw.solv{cs:Cs}:∀ {vs:List Wg},(∀ v∈vs,v∈ws)→∀ {cs:Cs},Pw vs cs→cs≠[]→solv ws vs.length cs=true
 | [],_,cs,hp,hn=>by
   cases cs with
   | nil=>exact absurd rfl hn
   | cons a l=>cases l with
     | nil=>exact xr rfl
     | cons b l=>exact absurd ((List.pairwise_cons.mp hp).1 b (.head _)) (by intro h;cases h)
 | w::vs,hv,cs,hp,hn=>by
   refine v9 (hv w (.head _)) fun o _=>?_
   by_cases he:zf w o cs=[]
   ·exact .inl he
   ·refine .inr (Pw.solv (cs:=cs) (fun v h=>hv v (.tail _ h)) ?_ he)
    have h1:Pw (w::vs) (zf w o cs):=hp.sublist List.filter_sublist
    refine List.Pairwise.imp_of_mem (R:=fun a b=>xk (w::vs) a b=false) (fun {a b} ha hb h=>?_) h1
    have ha:zy w a=o:=of_decide_eq_true (List.mem_filter.mp ha).2
    have hb:zy w b=o:=of_decide_eq_true (List.mem_filter.mp hb).2
    unfold xk at h
    rw[List.all_cons,ha,hb,decide_eq_true rfl,Bool.true_and] at h
    exact h
structure Least(ws:List Wg)(n:Nat)(cs:Cs):Prop where
 yes:solv ws n cs=true
 no:∀ k,k < n→solv ws k cs=false
theorem Least.le{n k:Nat}{cs:Cs}(h:Least ws n cs)(hk:solv ws k cs=true):n≤k:=by
 rcases Nat.lt_or_ge k n with hl | hl
 ·rw[h.no k hl] at hk;cases hk
 ·exact hl
theorem Least.one{n:Nat}{cs:Cs}(h:Least ws n cs)(hl:cs.length=1):n=0:=Nat.le_zero.mp (h.le (xr hl))
theorem Least.part{n k:Nat}{w:Wg}{o:Int}{cs:Cs}(h:Least ws n cs)(hk:Least ws k (zf w o cs))(he:zf w o cs≠[]):k≤n:=hk.le (zc3 h.yes List.filter_sublist he)
theorem Least.step{n:Nat}{cs:Cs}{M:Wg→Nat}(h:Least ws n cs)(hl:cs.length≠1)(hM:∀ w∈ws,(∀ o∈outs,zf w o cs=[]∨solv ws (M w) (zf w o cs)=true)∧∀ k,(∀ o∈outs,zf w o cs=[]∨solv ws k (zf w o cs)=true)→M w≤k) :
 ∃ w∈ws,n=M w+1∧∀ v∈ws,M w≤M v:=by
 cases n with
 | zero=>exact absurd (beq_iff_eq.mp h.yes) hl
 | succ n=>
   rcases solv_succ.mp h.yes with h' | ⟨_,w,hw,h'⟩
   ·exact absurd h' hl
   ·have low:∀ v∈ws,n≤M v:=fun v hv=>Nat.le_of_succ_le_succ (h.le (v9 hv (hM v hv).1))
    have e:n=M w:=Nat.le_antisymm (low w hw) ((hM w hw).2 n h')
    exact⟨w,hw,by rw[e],fun v hv=>e ▸ low v hv⟩
theorem zff{ws:List Wg}:∀ (n:Nat) {cs:Cs},Pw ws cs→cs≠[]→cs.length≤n+1→solv ws n cs=true
 | n,cs,hp,hn,hl=>by
   cases cs with
   | nil=>exact absurd rfl hn
   | cons a l=>
     cases l with
     | nil=>exact xr rfl
     | cons b l=>
       cases n with
       | zero=>exact absurd hl (by simp)
       | succ n=>
         have hab:xk ws a b=false:=(List.pairwise_cons.mp hp).1 b (.head _)
         obtain ⟨w,hw,hd⟩:=List.all_eq_false.mp hab
         rw [decide_eq_true_eq] at hd
         refine v9 hw fun o _=>?_
         by_cases he:zf w o (a::b::l)=[]
         ·exact .inl he
         ·refine .inr (zff n (hp.sublist List.filter_sublist) he ?_)
          have hs:(zf w o (a::b::l)).Sublist (a::b::l):=List.filter_sublist
          rcases Nat.lt_or_ge (zf w o (a::b::l)).length (a::b::l).length with h | h
          ·omega
          ·have e:=hs.eq_of_length (Nat.le_antisymm hs.length_le h)
           have ha:a∈zf w o (a::b::l):=by rw [e];exact List.mem_cons_self
           have hb:b∈zf w o (a::b::l):=by rw [e];exact List.mem_cons_of_mem _ List.mem_cons_self
           exact absurd ((of_decide_eq_true (List.mem_filter.mp ha).2).trans (of_decide_eq_true (List.mem_filter.mp hb).2).symm) hd
end Mine.L09
end
section
namespace Mine.L09
open PySem Mine
theorem mem_part{w:Wg}{o:Int}{cs:Cs}{c:List Int}:c∈zf w o cs↔c∈cs∧zy w c=o:=by unfold zf;rw[List.mem_filter,decide_eq_true_eq]
noncomputable abbrev wD(w:Wg):PyData:=wOf w.1 w.2
noncomputable def wo(w:Wg)(o:Int)(x:PyData):Option PyData:=if decide (zy w (unC x)=o) then some x else none
theorem k8(w:Wg)(o:Int):∀ cs:Cs,(zb cs).filterMap (wo w o)=zb (zf w o cs)
 | []=>rfl
 | c::cs=>by
   show (caseD c::zb cs).filterMap (wo w o)=_
   unfold zf
   cases h:decide (zy w c=o) with
   | true=>rw[List.filterMap_cons_some (show wo w o (caseD c)=some (caseD c) by unfold wo;rw[x9,h];rfl),k8 w o cs,List.filter_cons_of_pos (p:=fun c=>decide (zy w c=o)) h];rfl
   | false=>rw[List.filterMap_cons_none (show wo w o (caseD c)=none by unfold wo;rw[x9,h];rfl),k8 w o cs,List.filter_cons_of_neg (p:=fun c=>decide (zy w c=o)) (by rw[h];decide)];rfl
structure Ok12(m:Nat)(cs:Cs):Prop where
 good:∀ c∈cs,good m c
 le:cs.length≤12
theorem Ok12.part{m:Nat}{cs:Cs}(h:Ok12 m cs)(w:Wg)(o:Int):Ok12 m (zf w o cs):=⟨fun c hc=>h.good c (mem_part.mp hc).1,Nat.le_trans (List.length_filter_le _ _) h.le⟩
theorem Ok12.line{m:Nat}{cs:Cs}(h:Ok12 m cs):(zb cs).length≤line:=by rw[zz];exact Nat.le_trans h.le (by decide)
theorem zkt{k f m a b:Nat}{w:Wg}{o:Int}{cs:Cs}{wx ox:CE}{ρ:Loc}{O:za}(h:Ok12 m cs)(hf:∀ c,good m c→zg P table k false f [.d (wD w),.d (caseD c)] O=.ok (.d (.int (zy w c))) O)(ha:Nat.blt a ρ.length=true)
 (hb:ρ[b]?=some (some (.d (.list (zb cs))))) (hw:∀ x,evE (PG k false) (ρ.set a (some (.d x))) wx O=.ok (.d (wD w)) O) (ho:∀ x,evE (PG k false) (ρ.set a (some (.d x))) ox O=.ok (.d (.int o)) O) :
 evE (PG k false) ρ (.comp (.loc a) (.name a) (.e (.loc b)) (.cons (.cmp .eq (.call f (.cons wx (.cons (.loc a) .nil))) ox) .nil)) O=.ok (.d (.list (zb (zf w o cs)))) O:=by
 have ha:a < ρ.length:=Nat.le_of_ble_eq_true ha
 have hI:evI (PG k false) ρ (.e (.loc b)) O=.ok (.plain (zb cs)) O:=by rw[x_e,x7,hb];rfl
 have:=qj (P:=PG k false) (ρ:=ρ) (elt:=.loc a) (tgt:=.name a) (it:=.e (.loc b)) (ifs:=.cons (.cmp .eq (.call f (.cons wx (.cons (.loc a) .nil))) ox) .nil) (O:=O) rfl hI rfl h.line (wo w o) fun x hx=>by
  obtain⟨c,hc,rfl⟩:=List.mem_map.mp hx
  have ea:evE (PG k false) (ρ.set a (some (.d (caseD c)))) (.loc a) O=.ok (.d (caseD c)) O:=by rw[x7,List.getElem?_set_self ha];rfl
  have et:evE (PG k false) (ρ.set a (some (.d (caseD c)))) (.cmp .eq (.call f (.cons wx (.cons (.loc a) .nil))) ox) O=.ok (.d (.bool (decide (zy w c=o)))) O:=zt (zi (zl (hw _) (zl ea rfl)) (hf c (h.good c hc))) (ho _) eq_int
  unfold xq zp
  rw[if_pos ha]
  show R.bind (xy (PG k false) (ρ.set a (some (.d (caseD c)))) _ O) _=_
  rw[zcr,et]
  unfold wo
  rw[x9]
  cases decide (zy w c=o) with
  | true=>
    show R.bind (evE (PG k false) (ρ.set a (some (.d (caseD c)))) (.loc a) O) _=_
    rw[ea];rfl
  | false=>rfl
 rw[this]
 show R.ok (V.d (.list ((zb cs).filterMap (wo w o)))) O=_
 rw[k8]
theorem zcd{k m:Nat}{w:Wg}{O:za}(hm:m4 m)(hw:w∈wsI m)(c:List Int)(hc:good m c):zg P table (k+1) false 8 [.d (wD w),.d (caseD c)] O=.ok (.d (.int (zy w c))) O:=zkz hm hc (pn hm hw).l (pn hm hw).r
theorem zg2{k m:Nat}{w:Wg}{O:za}(hm:m4 m)(hw:w∈wsI m)(c:List Int)(hc:good m c):zg P table (k+1) false 26 [.d (wD w),.d (caseD c)] O=.ok (.d (.int (zy w c))) O:=zch hm hc (pn hm hw).l (pn hm hw).r
theorem xc{ys:List PyData}{turn:PyData→Loc→za→R (Loc×za) Fl}{x:PyData}{xs:List PyData}{ρ ρ':Loc}{O O':za}(h:turn x ρ O=.ok .next (ρ',O')):z6 (.plain ys) turn (x::xs) ρ O=z6 (.plain ys) turn xs ρ' O':=by
 rw[z6,h];exact if_pos rfl
theorem zbj{k:Nat}{f:Nat}{fn:Fn}{args:List V}{O:za}{ρ ρ':Loc}{xs:List PyData}(h:table f=some fn)(hl:args.length=fn.arity∧fn.arity≤fn.slots)(hρ:args.map some++List.replicate (fn.slots - fn.arity) none=ρ)(hk:fn.keep=false)
 (hb:evSs (PG k false) fn.body ρ O=.ok (.ret (.box O.length)) (ρ',O++[.lst xs])):zg P table (k+1) false f args O=.ok (.d (.list xs)) O:=by
 rw[jz h hl,evFn,hρ,hb]
 show de O.length fn.keep O.length (O++[.lst xs])=_
 unfold de
 rw[if_neg (Nat.lt_irrefl _),hk,List.getElem?_append_right (Nat.le_refl _),Nat.sub_self]
 show R.ok (V.d (.list xs)) ((O++[Box.lst xs]).take O.length)=_
 rw[List.take_left']
 rfl
theorem ze5{O:za}{a b:Box}:(O++[a]).set O.length b=O++[b]:=by rw[List.set_append_right _ _ (Nat.le_refl _),Nat.sub_self];rfl
theorem appN{O:za}{xs:List PyData}{x:PyData}(h:xs.length < line):meth .append (.box O.length) [.d x] (O++[Box.lst xs])=.ok (.d .none) (O++[Box.lst (xs++[x])]):=by
 show (match (O++[Box.lst xs])[O.length]? with | some (.lst xs)=>_ | _=>_)=_
 rw[List.getElem?_append_right (Nat.le_refl _),Nat.sub_self]
 show (if xs.length < line then R.ok (V.d .none) ((O++[Box.lst xs]).set O.length (.lst (xs++[x]))) else _)=_
 rw[if_pos h,ze5]
theorem recN{O:za}{xs:List PyData}:recv .append (.box O.length) (O++[Box.lst xs])=true:=by
 show zdo (O++[Box.lst xs]) O.length=true
 unfold zdo
 rw[List.getElem?_append_right (Nat.le_refl _),Nat.sub_self]
 rfl
noncomputable def zrm:CSs:=.cons (.expr (.meth .append (.loc 2) (.cons (.comp (.loc 4) (.name 4) (.e (.loc 1)) (.cons (.cmp .eq (.call 8 (.cons (.loc 0) (.cons (.loc 4) .nil))) (.loc 3)) .nil)) .nil))) .nil
theorem u9{k m:Nat}{w:Wg}{o:Int}{cs:Cs}{z:Option V}{xs:List PyData}{O:za}(hm:m4 m)(hw:w∈wsI m)(h:Ok12 m cs)(hx:xs.length < line) :
 yj (PG (k+1) false) (.name 3) zrm (.int o) [some (.d (wD w)),some (.d (.list (zb cs))),some (.box O.length),z,none] (O++[Box.lst xs])=.ok .next ([some (.d (wD w)),some (.d (.list (zb cs))),some (.box O.length),some (.d (.int o)),none],O++[Box.lst (xs++[.list (zb (zf w o cs))])]):=by
 have ep:=zkt (k:=k+1) (a:=4) (b:=1) (w:=w) (o:=o) (wx:=.loc 0) (ox:=.loc 3) (ρ:=[some (.d (wD w)),some (.d (.list (zb cs))),some (.box O.length),some (.d (.int o)),none]) (O:=O++[Box.lst xs]) h (zcd hm hw) rfl rfl (fun _=>rfl) fun _=>rfl
 exact (zc (ρ:=[some (.d (wD w)),some (.d (.list (zb cs))),some (.box O.length),some (.d (.int o)),none]) (xx (km rfl recN (zl ep rfl) (appN hx)))).trans rfl
noncomputable def zb4(w:Wg)(cs:Cs):List PyData:=[.list (zb (zf w (-1) cs)),.list (zb (zf w 0 cs)),.list (zb (zf w 1 cs))]
theorem zd1{k m:Nat}{w:Wg}{cs:Cs}{O:za}(hm:m4 m)(hw:w∈wsI m)(h:Ok12 m cs):zg P table (k+2) false 9 [.d (wD w),.d (.list (zb cs))] O=.ok (.d (.list (zb4 w cs))) O:=by
 refine zbj (fn:=c9) rfl ⟨rfl,by decide⟩ rfl rfl ((zc (zv (v:=.box O.length) (O':=O++[Box.lst []]) rfl rfl rfl)).trans ((zc (ρ':=[some (.d (wD w)),some (.d (.list (zb cs))),some (.box O.length),some (.d (.int 1)),none]) (O':=O++[Box.lst (zb4 w cs)]) ?_).trans (ze (yc rfl))))
 rw[q9,if_neg Bool.false_ne_true]
 exact (xc (u9 hm hw h (by show 0 < 1000000;decide))).trans ((xc (u9 hm hw h (by show 1 < 1000000;decide))).trans ((xc (u9 hm hw h (by show 2 < 1000000;decide))).trans rfl))
theorem zkr{k n:Nat}{O:za}(hn:n≤11):zg P table (k+1) false 15 [.d (.int n)] O=.ok (.d (.int ((3 ^ n:Nat):Int))) O:=by
 have key:(List.range 12).map (fun n:Nat=>zg P table (k+1) false 15 [.d (.int n)] O)=(List.range 12).map fun n:Nat=>.ok (.d (.int ((3 ^ n:Nat):Int))) (O.take O.length):=by kernel_rfl
 rw[vo key (List.mem_range.mpr (Nat.lt_succ_of_le hn)),List.take_length]
theorem zr1{k:Nat}:zg P table (k+4) false 7 [.d (.int (2:Nat))] []=.ok (.d (.list (due 2))) []:=by kernel_rfl
theorem zr0{k:Nat}:zg P table (k+4) false 7 [.d (.int (3:Nat))] []=.ok (.d (.list (due 3))) []:=by kernel_rfl
theorem zrz{k:Nat}:zg P table (k+4) false 7 [.d (.int (4:Nat))] []=.ok (.d (.list (due 4))) []:=by kernel_rfl
theorem zpl{k:Nat}{b:Box}:zg P table (k+4) false 7 [.d (.int (2:Nat))] [b]=.ok (.d (.list (due 2))) [b]:=by kernel_rfl
theorem zpk{k:Nat}{b:Box}:zg P table (k+4) false 7 [.d (.int (3:Nat))] [b]=.ok (.d (.list (due 3))) [b]:=by kernel_rfl
theorem zpj{k:Nat}{b:Box}:zg P table (k+4) false 7 [.d (.int (4:Nat))] [b]=.ok (.d (.list (due 4))) [b]:=by kernel_rfl
inductive One:za→Prop
 | nil:One []
 | one (b:Box):One [b]
theorem zkw{k m:Nat}{O:za}(h2:2≤m)(h3:m≤4)(hO:One O):zg P table (k+4) false 7 [.d (.int m)] O=.ok (.d (.list (due m))) O:=by
 have hm:m=2∨m=3∨m=4:=by omega
 cases hO with
 | nil=>
   rcases hm with rfl | rfl | rfl
   ·exact zr1
   ·exact zr0
   ·exact zrz
 | one b=>
   rcases hm with rfl | rfl | rfl
   ·exact zpl
   ·exact zpk
   ·exact zpj
theorem znt(w:Wg):unW (wD w)=w:=Prod.ext (v8 w.1) (v8 w.2)
theorem zm9{k m:Nat}{a b:List Int}{O:za}(hm:m4 m)(ha:good m a)(hb:good m b):zg P table (k+2) false 16 [.d (.list (due m)),.d (caseD a),.d (caseD b)] O=.ok (.d (.bool (xk (dueI m) a b))) O:=by
 have hl:(due m).length≤line:=by rcases uc hm with rfl | rfl | rfl | rfl <;> decide
 have hc:=ur (P:=PG (k+1) false) (ρ:=[some (.d (.list (due m))),some (.d (caseD a)),some (.d (caseD b)),none]) (elt:=.cmp .eq (.call 8 (.cons (.loc 3) (.cons (.loc 1) .nil))) (.call 8 (.cons (.loc 3) (.cons (.loc 2) .nil)))) (tgt:=.name 3) (it:=.e (.loc 0)) (O:=O) (src:=.plain (due m)) (fun x=>decide (zy (unW x) a=zy (unW x) b)) rfl rfl rfl rfl hl fun x hx=>⟨[some (.d (.list (due m))),some (.d (caseD a)),some (.d (caseD b)),some (.d x)],rfl,by
  obtain⟨w,hw,rfl⟩:=List.mem_map.mp hx
  have hw':w∈wsI m:=List.mem_flatMap.mpr ⟨w,hw,.head _⟩
  rw[znt]
  exact zt (zi rfl (zcd hm hw' a ha)) (zi rfl (zcd hm hw' b hb)) eq_int⟩
 refine zq (fn:=c16) rfl ⟨rfl,by decide⟩ rfl (ze (yc (hc.trans ?_)))
 congr 3
 show ((dueI m).map fun p=>wOf p.1 p.2).all _=_
 unfold xk
 rw[List.all_map]
 congr 1
 funext w
 show decide (zy (unW (wD w)) a=zy (unW (wD w)) b)=_
 rw[znt]
inductive Pl where
 | no
 | told (c:List Int)
 | weigh (w:Wg) (a b c:Pl)
noncomputable abbrev sT:Str:=Str.ofString "told"
noncomputable abbrev sW:Str:=Str.ofString "weigh"
noncomputable def Pl.toD:Pl→PyData
 | .no=>.none
 | .told c=>.tuple [.str sT,caseD c]
 | .weigh w a b c=>.tuple [.str sW,wD w,.tuple [a.toD,b.toD,c.toD]]
noncomputable def Pl.fits(m:Nat):Pl→Cs→Prop
 | .no,cs=>cs=[]
 | .told c,cs=>cs=[c]
 | .weigh w a b c,cs=>w∈dueI m∧cs≠[]∧a.fits m (zf w (-1) cs)∧b.fits m (zf w 0 cs)∧c.fits m (zf w 1 cs)
noncomputable def Pl.hgt:Pl→Nat
 | .weigh _ a b c=>max a.hgt (max b.hgt c.hgt)+1
 | _=>0
inductive PlR(m n:Nat)(cs:Cs)(y:PyData):Prop
 | mk (p:Pl) (e:y=p.toD) (fit:p.fits m cs) (le:p.hgt≤n)
noncomputable def zer{α:Type}(Q:α→PyData→Prop):List α→List PyData→Prop
 | [],ys=>ys=[]
 | w::ws,ys=>∃ y zs,ys=y::zs∧Q w y∧zer Q ws zs
noncomputable abbrev zjn:PyData:=.tuple [.str (Str.ofString "many")]
noncomputable abbrev zsk(ys:List PyData):PyData:=.tuple [.str (Str.ofString "each"),.tuple ys]
noncomputable abbrev rowD(o:Int)(y:PyData):PyData:=.tuple [.int o,y]
noncomputable def Hd(m:Nat):Nat→Cs→PyData→Prop
 | 0,cs,y=>3 ^ 0 < cs.length∧y=zjn
 | n+1,cs,y=>(3 ^ (n+1) < cs.length∧y=zjn)∨∃ ys,y=zsk ys∧zer (fun w y=>∃ o z,y=rowD o z∧o∈outs∧Hd m n (zf w o cs) z) (dueI m) ys
theorem Hd.many{m:Nat}{cs:Cs}:∀ {n:Nat},3 ^ n < cs.length→Hd m n cs zjn
 | 0,h=>⟨h,rfl⟩
 | n+1,h=>.inl ⟨h,rfl⟩
noncomputable def Row(m n:Nat)(cs:Cs)(w:Wg)(y:PyData):Prop:=∃ o z,y=rowD o z∧o∈outs∧Hd m n (zf w o cs) z
theorem Hd.tup{m:Nat}{cs:Cs}{y:PyData}:∀ {n:Nat},Hd m n cs y→∃ xs,y=.tuple xs
 | 0,h=>⟨_,h.2⟩
 | n+1,h=>by
   rcases h with h | ⟨ys,h,_⟩
   ·exact⟨_,h.2⟩
   ·exact⟨_,h⟩
noncomputable def Rs(m n:Nat)(cs:Cs):Bool→PyData→Prop
 | true,y=>PlR m n cs y
 | false,y=>Hd m n cs y
theorem Rs.nl{m n:Nat}{cs:Cs}{b:Bool}{y:PyData}(h:Rs m n cs b y)(l:List PyData):y≠.list l:=by
 cases b with
 | true=>obtain⟨p,rfl,_,_⟩:=h;cases p <;> exact fun h=>nomatch h
 | false=>obtain⟨xs,rfl⟩:=Hd.tup h;exact fun h=>nomatch h
structure Mild(Bd:List PyData→Prop):Prop where
 one:∀ x,¬ Bd [x]
 nil:¬ Bd []
 more:∀ x y z l,¬ Bd (x::y::z::l)
 str:∀ s y,(∀ l,y≠.list l)→¬ Bd [.str s,y]
 int:∀ i j,¬ Bd [.int i,.int j]
 row:∀ i xs,¬ Bd [.int i,.tuple xs]
 key:∀ xs i,¬ Bd [.tuple xs,.int i]
 pans:∀ (a b:List Int),¬ Bd [.tuple (a.map .int),.tuple (b.map .int)]
 rows:∀ i xs j ys,¬ Bd [rowD i xs,rowD j ys]
set_option tactic.hygienic true in
theorem mildP:Mild badP:=by
 constructor <;> intros <;> rintro (h | ⟨_,_,h⟩) <;> cases h
 rename_i h;exact h _ rfl
theorem jd:Mild badF:=by
 constructor <;> intros <;> rintro (h | ⟨_,_,h⟩) <;> cases h
section
variable{Bd:List PyData→Prop}
theorem j3{x y:PyData}(hx:Shy Bd x)(hy:Shy Bd y)(h:¬ Bd [x,y]):Shy Bd (.tuple [x,y]):=.tuple (fun z hz=>by
 rcases List.mem_cons.mp hz with rfl | hz
 ·exact hx
 ·rw[List.mem_singleton.mp hz];exact hy) h
variable(M:Mild Bd)
include M
theorem ql{x y z:PyData}(hx:Shy Bd x)(hy:Shy Bd y)(hz:Shy Bd z):Shy Bd (.tuple [x,y,z]):=.tuple (fun u hu=>by
 rcases List.mem_cons.mp hu with rfl | hu
 ·exact hx
 ·rcases List.mem_cons.mp hu with rfl | hu
  ·exact hy
  ·rw[List.mem_singleton.mp hu];exact hz) (M.more _ _ _ _)
theorem kr(l:List Int):Shy Bd (.tuple (l.map .int)):=by
 refine .tuple (fun x hx=>?_) ?_
 ·obtain⟨i,_,rfl⟩:=List.mem_map.mp hx;exact .int i
 ·match l with
  | []=>exact M.nil
  | [_]=>exact M.one _
  | [i,j]=>exact M.int i j
  | _::_::_::_=>exact M.more _ _ _ _
theorem yg(cs:Cs):Shy Bd (.list (zb cs)):=.list fun x hx=>by
 obtain⟨c,_,rfl⟩:=List.mem_map.mp hx;exact kr M c
theorem zi8(w:Wg):Shy Bd (wD w):=j3 (kr M w.1) (kr M w.2) (M.pans _ _)
theorem zl6(m:Nat):Shy Bd (.list (due m)):=.list fun x hx=>by
 obtain⟨w,_,rfl⟩:=List.mem_map.mp hx;exact zi8 M w
theorem y4:∀ p:Pl,Shy Bd p.toD
 | .no=>.none
 | .told c=>j3 (.str _) (kr M c) (M.str _ _ fun _ h=>nomatch h)
 | .weigh w a b c=>ql M (.str _) (zi8 M w) (ql M (y4 a) (y4 b) (y4 c))
theorem zc7{m n:Nat}{cs:Cs}(ih:∀ {cs:Cs} {y:PyData},Hd m n cs y→Shy Bd y):∀ {ws:List Wg} {ys:List PyData},zer (Row m n cs) ws ys→(∀ y∈ys,Shy Bd y)∧¬ Bd ys
 | [],ys,h=>by subst h;exact⟨fun _ h=>(nomatch h),M.nil⟩
 | w::ws,ys,h=>by
   obtain⟨y,zs,rfl,hr,h⟩:=h
   obtain⟨o,z,rfl,_,hz⟩:=hr
   obtain⟨xs,rfl⟩:=hz.tup
   refine⟨fun x hx=>?_,?_⟩
   ·rcases List.mem_cons.mp hx with rfl | hx
    ·exact j3 (.int o) (ih hz) (M.row _ _)
    ·exact (zc7 ih h).1 x hx
   ·match ws,zs,h with
    | [],zs,h=>have h:zs=[]:=h;subst h;exact M.one _
    | _::_,zs,h=>
      obtain⟨_,zs',rfl,hr,_⟩:=h
      obtain⟨o',z',rfl,_,hz'⟩:=hr
      cases zs' with
      | nil=>exact M.rows _ _ _ _
      | cons _ _=>exact M.more _ _ _ _
theorem gf{m:Nat}:∀ {n:Nat} {cs:Cs} {y:PyData},Hd m n cs y→Shy Bd y
 | 0,cs,y,h=>by rw[h.2];exact .tuple (fun x hx=>by rw[List.mem_singleton.mp hx];exact .str _) (M.one _)
 | n+1,cs,y,h=>by
   rcases h with h | ⟨ys,rfl,h⟩
   ·rw[h.2];exact .tuple (fun x hx=>by rw[List.mem_singleton.mp hx];exact .str _) (M.one _)
   ·obtain⟨h1,h2⟩:=zc7 M (fun h=>gf h) h
    exact j3 (.str _) (.tuple h1 h2) (M.str _ _ fun _ h=>nomatch h)
theorem Rs.shy{m n:Nat}{cs:Cs}{b:Bool}{y:PyData}(h:Rs m n cs b y):Shy Bd y:=by
 cases b with
 | true=>obtain⟨p,rfl,_,_⟩:=h;exact y4 M p
 | false=>exact gf M h
end
noncomputable def word(b:Bool):PyData:=.str (if b then Str.ofString "plan" else Str.ofString "hold")
noncomputable def resD(b:Bool)(y:PyData):PyData:=.tuple [word b,y]
theorem zjf(b:Bool)(O:za):cmpV .eq (.d (word b)) (.d (.str (Str.ofString "hold"))) O=.ok (.d (.bool !b)) O:=by cases b <;> kernel_rfl
theorem zpa(b:Bool)(O:za):cmpV .eq (.d (word b)) (.d (.str (Str.ofString "plan"))) O=.ok (.d (.bool b)) O:=by cases b <;> kernel_rfl
theorem zc6(b:Bool):Shy badP (word b):=.str _
theorem zl5(q:MKey):Shy badP (pe q):=j3 (.tuple (fun x hx=>by
 obtain⟨c,_,rfl⟩:=List.mem_map.mp hx;exact kr mildP c) fun h=>by
 rcases h with h | ⟨a,l,h⟩
 ·rcases q with ⟨q,_⟩
  cases q with
  | nil=>cases h
  | cons _ _=>injection h with h _;cases h
 ·rcases q with ⟨q,_⟩
  cases q with
  | nil=>cases h
  | cons _ q=>cases q with
    | nil=>injection h with _ h;cases h
    | cons _ _=>injection h with _ h;injection h with h _;cases h) (.int _) (mildP.key _ _)
noncomputable def allK:Cs→List MKey
 | []=>(List.range 12).map fun n:Nat=>([],(n:Int))
 | c::l=>allK l++(allK l).map fun q=>(c::q.1,q.2)
theorem zeo:∀ C:Cs,(allK C).length=12 * 2 ^ C.length
 | []=>rfl
 | c::l=>by
   show (allK l++(allK l).map _).length=_
   rw[List.length_append,List.length_map,zeo l,List.length_cons,Nat.pow_succ];omega
theorem zli{s C:Cs}{n:Nat}(h:s.Sublist C)(hn:n≤11):(s,(n:Int))∈allK C:=by
 induction h with
 | slnil=>exact List.mem_map.mpr ⟨n,List.mem_range.mpr (Nat.lt_succ_of_le hn),rfl⟩
 | cons c _ ih=>exact List.mem_append_left _ ih
 | cons_cons c _ ih=>exact List.mem_append_right _ (List.mem_map.mpr ⟨_,ih,rfl⟩)
theorem nodup_le{α:Type}[DecidableEq α]:∀ {l L:List α},l.Nodup→(∀ a∈l,a∈L)→l.length≤L.length
 | [],L,_,_=>Nat.zero_le _
 | a::l,L,hn,hs=>by
   have ha:=hs a (.head _)
   have ih:=nodup_le (L:=L.erase a) (List.nodup_cons.mp hn).2 fun b hb=>(List.mem_erase_of_ne (fun e:b=a=>(List.nodup_cons.mp hn).1 (e ▸ hb))).mpr (hs b (.tail _ hb))
   rw[List.length_erase_of_mem ha] at ih
   have:=List.length_pos_of_mem ha
   rw[List.length_cons];omega
structure InC(m:Nat)(C cs:Cs):Prop extends Ok12 m cs where
 sub:cs.Sublist C
theorem InC.part{m:Nat}{C cs:Cs}(h:InC m C cs)(w:Wg)(o:Int):InC m C (zf w o cs):=⟨h.toOk12.part w o,List.filter_sublist.trans h.sub⟩
structure Mem(m:Nat)(C:Cs)(kvs:List (MKey×PyData)):Prop where
 ok:∀ kv∈kvs,∃ n:Nat,kv.1.2=n∧∃ y,kv.2=resD (solv (dueI m) n kv.1.1) y∧Rs m n kv.1.1 (solv (dueI m) n kv.1.1) y
 keys:∀ kv∈kvs,kv.1∈allK C
 nodup:(kvs.map (·.1)).Nodup
 small:C.length≤12
theorem Mem.len{m:Nat}{C:Cs}{kvs:List (MKey×PyData)}(h:Mem m C kvs):kvs.length≤line:=by
 have:=nodup_le h.nodup fun q hq=>by obtain⟨kv,hkv,rfl⟩:=List.mem_map.mp hq;exact h.keys kv hkv
 rw[List.length_map,zeo] at this
 have hp:2 ^ C.length≤2 ^ 12:=Nat.pow_le_pow_right (by decide) h.small
 exact Nat.le_trans this (Nat.le_trans (Nat.mul_le_mul_left 12 hp) (by decide))
theorem Mem.find{m n:Nat}{C cs:Cs}{kvs:List (MKey×PyData)}{x:PyData}(h:Mem m C kvs)(e:zx kvs (cs,(n:Int))=some x):∃ y,x=resD (solv (dueI m) n cs) y∧Rs m n cs (solv (dueI m) n cs) y:=by
 obtain⟨kv,h1,rfl⟩:=Option.map_eq_some_iff.mp e
 have h2:kv.1=(cs,(n:Int)):=of_decide_eq_true (List.find?_some (p:=fun kv:MKey×PyData=>decide (kv.1=(cs,(n:Int)))) h1)
 obtain⟨n',e1,y,e2,hy⟩:=h.ok kv (List.mem_of_find?_eq_some h1)
 rw[h2] at e1 e2 hy
 have:n'=n:=(Int.ofNat.inj e1).symm
 subst this
 exact⟨y,e2,hy⟩
theorem Mem.add{m n:Nat}{C cs:Cs}{kvs:List (MKey×PyData)}{y:PyData}(h:Mem m C kvs)(hy:Rs m n cs (solv (dueI m) n cs) y)(hc:cs.Sublist C)(hn:n≤11)(hd:zx kvs (cs,(n:Int))=none):Mem m C (kvs++[((cs,(n:Int)),resD (solv (dueI m) n cs) y)]):=⟨fun kv hkv=>by
 rcases List.mem_append.mp hkv with hkv | hkv
 ·exact h.ok kv hkv
 ·rw[List.mem_singleton.mp hkv];exact⟨n,rfl,y,rfl,hy⟩,fun kv hkv=>by
 rcases List.mem_append.mp hkv with hkv | hkv
 ·exact h.keys kv hkv
 ·rw[List.mem_singleton.mp hkv];exact zli hc hn,by
 rw[List.map_append]
 refine List.nodup_append.mpr ⟨h.nodup,List.pairwise_singleton _ _,fun a ha b hb e=>?_⟩
 obtain⟨kv,hkv,rfl⟩:=List.mem_map.mp ha
 rw[List.mem_singleton.mp hb] at e
 have:=List.find?_eq_none.mp (Option.map_eq_none_iff.mp hd) kv hkv
 exact this (decide_eq_true e),h.small⟩
theorem zif{kvs:List (MKey×PyData)}{q:MKey}{x:PyData}(h:zx kvs q=none):zx (kvs++[(q,x)]) q=some x:=by
 unfold zx at h ⊢
 rw[Option.map_eq_none_iff] at h
 rw[List.find?_append,h,Option.none_or]
 rw[List.find?_cons,decide_eq_true rfl];rfl
theorem zd6{kvs:List (MKey×PyData)}{q q':MKey}{x:PyData}(h:q≠q'):zx (kvs++[(q,x)]) q'=zx kvs q':=by
 unfold zx
 rw[List.find?_append]
 have:List.find? (fun kv:MKey×PyData=>decide (kv.1=q')) [(q,x)]=none:=by rw[List.find?_cons,decide_eq_false h];rfl
 rw[this,Option.or_none]
structure Ok(m:Nat)(C:Cs)(d:Nat)(O:za)(kvs:List (MKey×PyData)):Prop where
 at_:O[d]?=some (.dct kvs)
 mem:Mem m C kvs
 shy:∀ b∈O,ShyB badP b
theorem set_same{O:za}{d:Nat}{b:Box}(h:O[d]?=some b):O.set d b=O:=by
 obtain⟨hlt,e⟩:=List.getElem?_eq_some_iff.mp h
 rw[← e];exact List.set_getElem_self hlt
section
variable{m d n:Nat}{C:Cs}{O:za}{kvs kvs':List (MKey×PyData)}
theorem Ok.lt(h:Ok m C d O kvs):d < O.length:=(List.getElem?_eq_some_iff.mp h.at_).1
theorem Ok.push{b:Box}(h:Ok m C d O kvs)(hb:ShyB badP b):Ok m C d (O++[b]) kvs:=⟨by rw[List.getElem?_append_left h.lt];exact h.at_,h.mem,fun x hx=>by
 rcases List.mem_append.mp hx with hx | hx
 ·exact h.shy x hx
 ·rw[List.mem_singleton.mp hx];exact hb⟩
theorem Ok.set_push{b x:Box}(h:Ok m C d O kvs):(O++[b]).set d x=O.set d x++[b]:=List.set_append_left _ _ h.lt
theorem Mem.shy(h:Mem m C kvs):ShyB badP (.dct kvs):=fun kv hkv=>by
 obtain⟨_,_,y,e,hy⟩:=h.ok kv hkv
 rw[e];exact⟨zl5 _,j3 (zc6 _) (hy.shy mildP) (mildP.str _ _ hy.nl)⟩
theorem Ok.set(h:Ok m C d O kvs)(hm:Mem m C kvs'):Ok m C d (O.set d (.dct kvs')) kvs':=⟨List.getElem?_set_self h.lt,hm,fun x hx=>by
 rcases List.mem_or_eq_of_mem_set hx with hx | rfl
 ·exact h.shy x hx
 ·exact hm.shy⟩
inductive Gives(m:Nat)(C:Cs)(n d:Nat)(O:za)(kvs:List (MKey×PyData))(b:Bool)(Q:PyData→Prop)(r:R za V):Prop
 | mk (y:PyData) (kvs':List (MKey×PyData)) (e:r=.ok (.d (resD b y)) (O.set d (.dct kvs'))) (ny:Q y) (mem:Mem m C kvs') (old:∀ q:MKey,(n:Int) < q.2→zx kvs' q=zx kvs q)
end
theorem qf{k:Nat}{f:Nat}{fn:Fn}{args:List V}{O O₁ O':za}{ρ ρ':Loc}{x:PyData}(h:table f=some fn)(hl:args.length=fn.arity∧fn.arity≤fn.slots)(hρ:args.map some++List.replicate (fn.slots - fn.arity) none=ρ)
 (hn:O₁.length=O.length) (hb:evSs (PG k false) fn.body ρ O=.ok (.ret (.d x)) (ρ',O₁++O')):zg P table (k+1) false f args O=.ok (.d x) O₁:=by
 rw[jz h hl,evFn,hρ,hb]
 show R.ok (V.d x) ((O₁++O').take O.length)=_
 rw[← hn,List.take_left']
 rfl
theorem u7{P:Pg}{ρ ρ':Loc}{O O':za}{e:CE}{t:CT}{v:V}(hd:P.hd=false)(h:evE P ρ e O=.ok v O')(hb:zp t v ρ=some ρ'):evS P (.asg t e) ρ O=.ok .next (ρ',O'):=by
 rw[v0,if_neg (by rw[hd,Bool.false_and];decide),h]
 show asgR t v (ρ,O')=_
 unfold asgR
 rw[show (ρ,O').1=ρ from rfl,hb]
noncomputable def LookS(m:Nat)(C:Cs)(n lev:Nat):Prop:=∀ (k:Nat) (cs:Cs) (O:za) (d:Nat) (kvs:List (MKey×PyData)),InC m C cs→cs≠[]→Ok m C d O kvs →
 Gives m C n d O kvs (solv (dueI m) n cs) (Rs m n cs (solv (dueI m) n cs)) (zg P table (k+lev) false 20 [.d (.list (due m)),.d (.list (zb cs)),.d (.int (n:Int)),.box d] O)
noncomputable def ShyO(a:Option V):Prop:=∀ v,a=some v→ShyV badP v
theorem qm:ShyO none:=fun _ h=>nomatch h
theorem w0{x:PyData}(h:Shy badP x):ShyO (some (.d x)):=fun v e=>by cases e;exact h
noncomputable abbrev RT(m n:Nat)(w:Wg)(cs:Cs)(d L:Nat)(a b c e:Option V):Loc:=[some (.d (.list (due m))),some (.d (wD w)),some (.d (.list (zb cs))),some (.d (.int ((n+1:Nat):Int))),some (.box d),some (.box L),a,b,c,e]
noncomputable def tryB:CSs:=(.cons (.ife (.cmp .eq (.loc 7) (.list .nil)) (.cons (.expr (.meth .append (.loc 5) (.cons .none .nil))) .nil) (.cons (.asg (.two (.name 8) (.name 9)) (.call 20 (.cons (.loc 0) (.cons (.loc 7) (.cons (.bin .sub (.loc 3) (.int 1)) (.cons (.loc 4) .nil)))))) (.cons (.ife (.cmp .eq (.loc 8) (.str (Str.ofString "hold"))) (.cons (.ret (.tup (.cons (.str (Str.ofString "hold")) (.cons (.tup (.cons (.loc 6) (.cons (.loc 9) .nil))) .nil)))) .nil) .nil) (.cons (.expr (.meth .append (.loc 5) (.cons (.loc 9) .nil))) .nil)))) .nil)
noncomputable def okP(m n:Nat)(w:Wg)(cs:Cs)(o:Int):Bool:=(zf w o cs).isEmpty || solv (dueI m) n (zf w o cs)
section
variable{m n lev k d:Nat}{w:Wg}{C cs:Cs}{O:za}{kvs:List (MKey×PyData)}
theorem zrf{L:Nat}{a b c e:Option V}(ha:ShyO a)(hb:ShyO b)(hc:ShyO c)(he:ShyO e)(hO:∀ b∈O,ShyB badP b):ShyS badP (RT m n w cs d L a b c e) O:=by
 refine⟨fun v hv=>?_,hO⟩
 rcases List.mem_cons.mp hv with hv | hv
 ·cases hv;exact zl6 mildP m
 rcases List.mem_cons.mp hv with hv | hv
 ·cases hv;exact zi8 mildP w
 rcases List.mem_cons.mp hv with hv | hv
 ·cases hv;exact yg mildP cs
 rcases List.mem_cons.mp hv with hv | hv
 ·cases hv;exact .int _
 rcases List.mem_cons.mp hv with hv | hv
 ·cases hv;trivial
 rcases List.mem_cons.mp hv with hv | hv
 ·cases hv;trivial
 rcases List.mem_cons.mp hv with hv | hv
 ·exact ha v hv.symm
 rcases List.mem_cons.mp hv with hv | hv
 ·exact hb v hv.symm
 rcases List.mem_cons.mp hv with hv | hv
 ·exact hc v hv.symm
 ·exact he v (List.mem_singleton.mp hv).symm
inductive zs6(m:Nat)(C:Cs)(n:Nat)(w:Wg)(cs:Cs)(d:Nat)(O:za)(kvs:List (MKey×PyData))(xs:List PyData)(o:Int)(r:R (Loc×za) Fl):Prop
 | next (kvs':List (MKey×PyData)) (mem:Mem m C kvs') (old:∀ q:MKey,(n:Int) < q.2→zx kvs' q=zx kvs q) (hb:okP m n w cs o=true) (x:PyData) (hx:PlR m n (zf w o cs) x) (a b c e:Option V) (ha:ShyO a) (hbb:ShyO b) (hc:ShyO c) (he:ShyO e)
    (h:r=.ok .next (RT m n w cs d O.length a b c e,O.set d (.dct kvs')++[Box.lst (xs++[x])]))
 | ret (kvs':List (MKey×PyData)) (mem:Mem m C kvs') (old:∀ q:MKey,(n:Int) < q.2→zx kvs' q=zx kvs q) (hb:okP m n w cs o=false) (y:PyData) (hy:Row m n cs w y) (ρ':Loc)
    (h:r=.ok (.ret (.d (resD false y))) (ρ',O.set d (.dct kvs')++[Box.lst xs]))
theorem zrb(L1:LookS m C n lev){o:Int}{xs:List PyData}{a b c e:Option V}(ho:o∈outs)(h:InC m C cs)(ok:Ok m C d O kvs)(hxs:∀ x∈xs,Shy badP x)(hl:xs.length < line)(ha:ShyO a)(hb:ShyO b)(hc:ShyO c)(he:ShyO e) :
 zs6 m C n w cs d O kvs xs o (xh badP (.two (.name 6) (.name 7)) (fun ρ O=>evSs (PG (k+lev) false) tryB ρ O) (.tuple [.int o,.list (zb (zf w o cs))]) (RT m n w cs d O.length a b c e) (O++[Box.lst xs])):=by
 have ok1:Ok m C d (O++[Box.lst xs]) kvs:=ok.push hxs
 have hp:=h.part w o
 have e0:xh badP (.two (.name 6) (.name 7)) (fun ρ O=>evSs (PG (k+lev) false) tryB ρ O) (.tuple [.int o,.list (zb (zf w o cs))]) (RT m n w cs d O.length a b c e) (O++[Box.lst xs])=evSs (PG (k+lev) false) tryB (RT m n w cs d O.length (some (.d (.int o))) (some (.d (.list (zb (zf w o cs))))) c e) (O++[Box.lst xs]):=by
  unfold xh
  rw[if_pos (zrf ha hb hc he ok1.shy)]
  rfl
 rw[e0]
 have et:evE (PG (k+lev) false) (RT m n w cs d O.length (some (.d (.int o))) (some (.d (.list (zb (zf w o cs))))) c e) (.cmp .eq (.loc 7) (.list .nil)) (O++[Box.lst xs])=.ok (.d (.bool (zf w o cs).isEmpty)) (O++[Box.lst xs]):=by
  refine zt rfl rfl ((zce (kc _)).trans ?_)
  congr 3
  unfold zb;rw[List.isEmpty_map]
 cases hem:(zf w o cs).isEmpty with
 | true=>
   rw[hem] at et
   refine .next kvs ok.mem (fun _ _=>rfl) (by unfold okP;rw[hem];rfl) .none ⟨.no,rfl,List.isEmpty_iff.mp hem,Nat.zero_le _⟩ _ _ c e (w0 (.int o)) (w0 (yg mildP (zf w o cs))) hc he ?_
   rw[set_same ok.at_]
   exact (zc ((w_if et).trans ((if_pos rfl).trans ((zc (xx (km rfl recN (zl rfl rfl) (appN hl)))).trans rfl)))).trans rfl
 | false=>
   rw[hem] at et
   have hne:zf w o cs≠[]:=fun e=>by rw[e] at hem;cases hem
   obtain⟨y,kvs',e1,ny,mem,old⟩:=L1 k (zf w o cs) _ d kvs hp hne ok1
   have hnum:((n+1:Nat):Int) - 1=(n:Int):=by omega
   have es:evS (PG (k+lev) false) (.asg (.two (.name 8) (.name 9)) (.call 20 (.cons (.loc 0) (.cons (.loc 7) (.cons (.bin .sub (.loc 3) (.int 1)) (.cons (.loc 4) .nil)))))) (RT m n w cs d O.length (some (.d (.int o))) (some (.d (.list (zb (zf w o cs))))) c e) (O++[Box.lst xs]) =
    .ok .next (RT m n w cs d O.length (some (.d (.int o))) (some (.d (.list (zb (zf w o cs))))) (some (.d (word (solv (dueI m) n (zf w o cs))))) (some (.d y)),O.set d (.dct kvs')++[Box.lst xs]):=by
    refine u7 rfl (zi (zl rfl (zl rfl (zl (z8 rfl rfl uf) (zl rfl rfl)))) ?_) (v:=.d (resD (solv (dueI m) n (zf w o cs)) y)) rfl
    rw[hnum,← ok.set_push]
    exact e1
   have eq:=zjf (solv (dueI m) n (zf w o cs)) (O.set d (.dct kvs')++[Box.lst xs])
   have hlen:(O.set d (.dct kvs')).length=O.length:=List.length_set
   cases hb':solv (dueI m) n (zf w o cs) with
   | true=>
     rw[hb'] at eq es ny
     refine .next kvs' mem old (by unfold okP;rw[hb',Bool.or_true]) y ny _ _ _ _ (w0 (.int o)) (w0 (yg mildP (zf w o cs))) (w0 (zc6 true)) (w0 (Rs.shy mildP ny)) ?_
     have er:recv .append (.box O.length) (O.set d (.dct kvs')++[Box.lst xs])=true:=by rw[← hlen];exact recN
     have ea:meth .append (.box O.length) [.d y] (O.set d (.dct kvs')++[Box.lst xs])=.ok (.d .none) (O.set d (.dct kvs')++[Box.lst (xs++[y])]):=by rw[← hlen];exact appN hl
     exact (zc ((w_if et).trans ((if_neg Bool.false_ne_true).trans ((zc es).trans ((zc (yd (zt rfl rfl eq))).trans ((zc (xx (km rfl er (zl rfl rfl) ea))).trans rfl)))))).trans rfl
   | false=>
     rw[hb'] at eq es ny
     refine .ret kvs' mem old (by unfold okP;rw[hb',hem];rfl) (.tuple [.int o,y]) ⟨o,y,rfl,ho,ny⟩ (RT m n w cs d O.length (some (.d (.int o))) (some (.d (.list (zb (zf w o cs))))) (some (.d (word false))) (some (.d y))) ?_
     exact ze ((w_if et).trans ((if_neg Bool.false_ne_true).trans ((zc es).trans (ze ((w_if (zt rfl rfl eq)).trans ((if_pos rfl).trans (ze (yc rfl))))))))
inductive TryR(m:Nat)(C:Cs)(n:Nat)(w:Wg)(cs:Cs)(d:Nat)(O:za)(kvs:List (MKey×PyData))(xs:List PyData)(os:List Int)(r:R (Loc×za) Fl):Prop
 | next (kvs':List (MKey×PyData)) (mem:Mem m C kvs') (old:∀ q:MKey,(n:Int) < q.2→zx kvs' q=zx kvs q) (hb:os.all (okP m n w cs)=true) (ys:List PyData) (hy:zer (fun o=>PlR m n (zf w o cs)) os ys) (a b c e:Option V)
    (h:r=.ok .next (RT m n w cs d O.length a b c e,O.set d (.dct kvs')++[Box.lst (xs++ys)]))
 | ret (kvs':List (MKey×PyData)) (mem:Mem m C kvs') (old:∀ q:MKey,(n:Int) < q.2→zx kvs' q=zx kvs q) (hb:os.all (okP m n w cs)=false) (y:PyData) (hy:Row m n cs w y) (ρ':Loc) (xs':List PyData)
    (h:r=.ok (.ret (.d (resD false y))) (ρ',O.set d (.dct kvs')++[Box.lst xs']))
theorem ux{ys:List PyData}{turn:PyData→Loc→za→R (Loc×za) Fl}{x:PyData}{xs:List PyData}{ρ:Loc}{O:za}{v:V}{S:Loc×za}(h:turn x ρ O=.ok (.ret v) S):z6 (.plain ys) turn (x::xs) ρ O=.ok (.ret v) S:=by
 rw[z6,h]
theorem zn2(L1:LookS m C n lev)(h:InC m C cs){zs:List PyData}:∀ (os:List Int) (O:za) (kvs:List (MKey×PyData)) (xs:List PyData) (a b c e:Option V),(∀ o∈os,o∈outs)→Ok m C d O kvs→(∀ x∈xs,Shy badP x)→xs.length+os.length < line→ShyO a→ShyO b→ShyO c→ShyO e →
 TryR m C n w cs d O kvs xs os (z6 (.plain zs) (xh badP (.two (.name 6) (.name 7)) (fun ρ O=>evSs (PG (k+lev) false) tryB ρ O)) (os.map fun o=>.tuple [.int o,.list (zb (zf w o cs))]) (RT m n w cs d O.length a b c e) (O++[Box.lst xs]))
 | [],O,kvs,xs,a,b,c,e,_,ok,_,_,_,_,_,_=>.next kvs ok.mem (fun _ _=>rfl) rfl [] rfl a b c e (by rw[List.append_nil,set_same ok.at_];rfl)
 | o::os,O,kvs,xs,a,b,c,e,ho,ok,hxs,hl,ha,hb,hc,he=>by
   rw[List.length_cons] at hl
   rcases zrb (k:=k) (w:=w) (o:=o) L1 (ho o (.head _)) h ok hxs (by omega) ha hb hc he with ⟨kvs₁,mem₁,old₁,hb₁,x,hx,a',b',c',e',ha',hb',hc',he',h₁⟩ | ⟨kvs₁,mem₁,old₁,hb₁,y,hy,ρ',h₁⟩
   ·have ok₁:=ok.set mem₁
    have hlen:(O.set d (.dct kvs₁)).length=O.length:=List.length_set
    have ih:=zn2 (zs:=zs) L1 h os (O.set d (.dct kvs₁)) kvs₁ (xs++[x]) a' b' c' e' (fun z hz=>ho z (.tail _ hz)) ok₁ (fun z hz=>by
     rcases List.mem_append.mp hz with hz | hz
     ·exact hxs z hz
     ·rw[List.mem_singleton.mp hz];obtain⟨p,e,_,_⟩:=hx;rw[e];exact y4 mildP p) (by rw[List.length_append,List.length_singleton];omega) ha' hb' hc' he'
    rw[hlen] at ih
    rw[List.map_cons,xc h₁]
    rcases ih with ⟨kvs',mem,old,hb₂,ys,hy,a₂,b₂,c₂,e₂,h₂⟩ | ⟨kvs',mem,old,hb₂,y,hy,ρ',xs',h₂⟩
    ·refine .next kvs' mem (fun q hq=>(old q hq).trans (old₁ q hq)) (by rw[List.all_cons,hb₁,hb₂];rfl) (x::ys) ⟨x,ys,rfl,hx,hy⟩ a₂ b₂ c₂ e₂ ?_
     rw[h₂,hlen,List.set_set,List.append_assoc];rfl
    ·refine .ret kvs' mem (fun q hq=>(old q hq).trans (old₁ q hq)) (by rw[List.all_cons,hb₁,hb₂];rfl) y hy ρ' xs' ?_
     rw[h₂,List.set_set]
   ·refine .ret kvs₁ mem₁ old₁ (by rw[List.all_cons,hb₁];rfl) y hy ρ' xs ?_
    rw[List.map_cons,ux h₁]
theorem ziu{Bd:List PyData→Prop}{q1 q2:SqK}{P:Pg}{ρ:Loc}{O O₁ O₂:za}{t:CT}{a b:CE}{c:CSs}{xs ys:List PyData}(hd:P.hd=false)(h1:evE P ρ a O=.ok (.d (q1.mk xs)) O₁)(h2:evE P ρ b O₁=.ok (.d (q2.mk ys)) O₂)(ok:ZOk Bd q1 q2 xs ys):evS P (.forG Bd q1 q2 t a b c) ρ O=z6 (.plain (zipT xs ys)) (xh Bd t fun ρ O=>evSs P c ρ O) (zipT xs ys) ρ O₂:=by
 show (if P.hd=true then .stuck else (((evE P ρ a O).bind fun v O=>(evE P ρ b O).bind fun u O=>.ok (v,u) O).lift ρ).bind (zg1 Bd q1 q2 t fun ρ O=>evSs P c ρ O))=_
 rw[if_neg (by rw[hd];exact Bool.false_ne_true),h1,zr,h2]
 show zkh Bd q1 q2 t (fun ρ O=>evSs P c ρ O) (sqOf q1 (q1.mk xs)) (sqOf q2 (q2.mk ys)) (ρ,O₂)=_
 have e1:∀ {q:SqK} {xs:List PyData},sqOf q (q.mk xs)=some xs:=fun {q xs}=>by cases q <;> rfl
 rw[e1,e1]
 exact if_pos ok
theorem df{P:Pg}{ρ:Loc}{a b:CE}{x y:PyData}{O O' O'':za}(h1:evE P ρ a O=.ok (.d x) O')(h2:evE P ρ b O'=.ok (.d y) O''):evE P ρ (.tup (.cons a (.cons b .nil))) O=.ok (.d (.tuple [x,y])) O'':=by
 rw[zns,zl h1 (zl h2 rfl)];rfl
theorem zqb{P:Pg}{ρ:Loc}{a b c:CE}{x y z:PyData}{O O' O'' O₃:za}(h1:evE P ρ a O=.ok (.d x) O')(h2:evE P ρ b O'=.ok (.d y) O'')(h3:evE P ρ c O''=.ok (.d z) O₃):evE P ρ (.tup (.cons a (.cons b (.cons c .nil)))) O=.ok (.d (.tuple [x,y,z])) O₃:=by
 rw[zns,zl h1 (zl h2 (zl h3 rfl))];rfl
theorem zi0{k:Nat}{O:za}{xs:List PyData}(hl:xs.length≤line):prim (PG k false) .tuple [.box O.length] (O++[Box.lst xs])=.ok (.d (.tuple xs)) (O++[Box.lst xs]):=by
 refine vn (x:=.list xs) ?_ (if_pos hl)
 show kj (O++[Box.lst xs]) O.length=_
 unfold kj
 rw[List.getElem?_append_right (Nat.le_refl _),Nat.sub_self];rfl
noncomputable def TQ(m n:Nat)(w:Wg)(cs:Cs):Bool→PyData→Prop
 | true,y=>PlR m (n+1) cs y
 | false,y=>Row m n cs w y
theorem zm2(L1:LookS m C n lev)(hm:m4 m)(hw:w∈dueI m)(h:InC m C cs)(hne:cs≠[])(hlev:2≤lev)(ok:Ok m C d O kvs) :
 Gives m C n d O kvs (outs.all (okP m n w cs)) (TQ m n w cs (outs.all (okP m n w cs))) (zg P table (k+lev+1) false 18 [.d (.list (due m)),.d (wD w),.d (.list (zb cs)),.d (.int ((n+1:Nat):Int)),.box d] O):=by
 obtain⟨l',rfl⟩:=Nat.exists_eq_add_of_le' hlev
 have hw':w∈wsI m:=List.mem_flatMap.mpr ⟨w,hw,.head _⟩
 have hz:ZOk badP .tup .lst [.int (-1),.int 0,.int 1] (zb4 w cs):=⟨rfl,ql mildP (.int (-1)) (.int 0) (.int 1),.list fun x hx=>by
  rcases List.mem_cons.mp hx with rfl | hx
  ·exact yg mildP _
  rcases List.mem_cons.mp hx with rfl | hx
  ·exact yg mildP _
  ·rw[List.mem_singleton.mp hx];exact yg mildP _,.inl rfl,fun i x y _ hy=>by
  have hy:=List.mem_of_getElem? hy
  rcases List.mem_cons.mp hy with rfl | hy
  ·exact .inr ⟨_,_,rfl⟩
  rcases List.mem_cons.mp hy with rfl | hy
  ·exact .inr ⟨_,_,rfl⟩
  ·rw[List.mem_singleton.mp hy];exact .inr ⟨_,_,rfl⟩⟩
 have lp:=zn2 (k:=k) (d:=d) (w:=w) (zs:=outs.map fun o=>.tuple [.int o,.list (zb (zf w o cs))]) L1 h outs O kvs [] none none none none (fun _ h=>h) ok (fun _ h=>nomatch h) (by show 3 < 1000000;decide) qm qm qm qm
 have ef:evS (PG (k+(l' + 2)) false) (.forG badP .tup .lst (.two (.name 6) (.name 7)) (.glob 3) (.call 9 (.cons (.loc 1) (.cons (.loc 2) .nil))) tryB) (RT m n w cs d O.length none none none none) (O++[Box.lst []])=z6 (.plain (outs.map fun o=>.tuple [.int o,.list (zb (zf w o cs))])) (xh badP (.two (.name 6) (.name 7)) (fun ρ O=>evSs (PG (k+(l' + 2)) false) tryB ρ O)) (outs.map fun o=>.tuple [.int o,.list (zb (zf w o cs))]) (RT m n w cs d O.length none none none none) (O++[Box.lst []]):=
  ziu (q1:=.tup) (q2:=.lst) rfl rfl (zi rfl (zd1 (k:=k+l') hm hw' h.toOk12)) hz
 have hlen:∀ kvs',(O.set d (.dct kvs')).length=O.length:=fun _=>List.length_set
 rcases lp with ⟨kvs',mem,old,hb,ys,hy,a,b,c,e,h₁⟩ | ⟨kvs',mem,old,hb,y,hy,ρ',xs',h₁⟩
 ·rw[hb]
  obtain⟨y1,ys,rfl,⟨p1,rfl,f1,l1⟩,hy⟩:=hy
  obtain⟨y2,ys,rfl,⟨p2,rfl,f2,l2⟩,hy⟩:=hy
  obtain⟨y3,ys,rfl,⟨p3,rfl,f3,l3⟩,hy⟩:=hy
  have hy:ys=[]:=hy
  subst hy
  refine⟨(Pl.weigh w p1 p2 p3).toD,kvs',?_,⟨.weigh w p1 p2 p3,rfl,⟨hw,hne,f1,f2,f3⟩,Nat.succ_le_succ (Nat.max_le.mpr ⟨l1,Nat.max_le.mpr ⟨l2,l3⟩⟩)⟩,mem,old⟩
  refine qf (fn:=c18) (O':=[Box.lst ([]++[p1.toD,p2.toD,p3.toD])]) rfl ⟨rfl,by decide⟩ rfl (hlen kvs') ((zc (zv (v:=.box O.length) (O':=O++[Box.lst []]) rfl rfl rfl)).trans ((zc (ef.trans h₁)).trans (ze (yc ?_))))
  have et:evE (PG (k+(l' + 2)) false) (RT m n w cs d O.length a b c e) (.prim .tuple (.cons (.loc 5) .nil)) (O.set d (.dct kvs')++[Box.lst ([]++[p1.toD,p2.toD,p3.toD])])=.ok (.d (.tuple [p1.toD,p2.toD,p3.toD])) (O.set d (.dct kvs')++[Box.lst ([]++[p1.toD,p2.toD,p3.toD])]):=yt rfl rfl (by rw[← hlen kvs'];exact zi0 (by show 3≤1000000;decide))
  exact df rfl (zqb rfl rfl et)
 ·rw[hb]
  exact⟨y,kvs',qf (fn:=c18) rfl ⟨rfl,by decide⟩ rfl (hlen kvs') ((zc (zv (v:=.box O.length) (O':=O++[Box.lst []]) rfl rfl rfl)).trans (ze (ef.trans h₁))),hy,mem,old⟩
end
noncomputable abbrev RE(m n:Nat)(cs:Cs)(d L:Nat)(a b c:Option V):Loc:=[some (.d (.list (due m))),some (.d (.list (zb cs))),some (.d (.int ((n+1:Nat):Int))),some (.box d),some (.box L),a,b,c]
noncomputable def zg6:CSs:=(.cons (.asg (.two (.name 6) (.name 7)) (.call 18 (.cons (.loc 0) (.cons (.loc 5) (.cons (.loc 1) (.cons (.loc 2) (.cons (.loc 3) .nil))))))) (.cons (.ife (.cmp .eq (.loc 6) (.str (Str.ofString "plan"))) (.cons (.ret (.tup (.cons (.str (Str.ofString "plan")) (.cons (.loc 7) .nil)))) .nil) .nil) (.cons (.expr (.meth .append (.loc 4) (.cons (.loc 7) .nil))) .nil)))
noncomputable def trB(m n:Nat)(cs:Cs)(w:Wg):Bool:=outs.all (okP m n w cs)
section
variable{m n lev k d:Nat}{C cs:Cs}{O:za}{kvs:List (MKey×PyData)}
inductive zs7(m:Nat)(C:Cs)(n:Nat)(w:Wg)(cs:Cs)(d:Nat)(O:za)(kvs:List (MKey×PyData))(xs:List PyData)(r:R (Loc×za) Fl):Prop
 | next (kvs':List (MKey×PyData)) (mem:Mem m C kvs') (old:∀ q:MKey,(n:Int) < q.2→zx kvs' q=zx kvs q) (hb:trB m n cs w=false) (y:PyData) (hy:Row m n cs w y) (a b c:Option V)
    (h:r=.ok .next (RE m n cs d O.length a b c,O.set d (.dct kvs')++[Box.lst (xs++[y])]))
 | ret (kvs':List (MKey×PyData)) (mem:Mem m C kvs') (old:∀ q:MKey,(n:Int) < q.2→zx kvs' q=zx kvs q) (hb:trB m n cs w=true) (y:PyData) (hy:PlR m (n+1) cs y) (ρ':Loc)
    (h:r=.ok (.ret (.d (resD true y))) (ρ',O.set d (.dct kvs')++[Box.lst xs]))
theorem zou(L1:LookS m C n lev)(hm:m4 m){w:Wg}(hw:w∈dueI m)(h:InC m C cs)(hne:cs≠[])(hlev:2≤lev){xs:List PyData}{a b c:Option V}(ok:Ok m C d O kvs)(hxs:∀ x∈xs,Shy badP x)(hl:xs.length < line) :
 zs7 m C n w cs d O kvs xs (yj (PG (k+lev+1) false) (.name 5) zg6 (wD w) (RE m n cs d O.length a b c) (O++[Box.lst xs])):=by
 have ok1:Ok m C d (O++[Box.lst xs]) kvs:=ok.push hxs
 obtain⟨y,kvs',e1,ny,mem,old⟩:=zm2 (k:=k) L1 hm hw h hne hlev ok1
 have es:evS (PG (k+lev+1) false) (.asg (.two (.name 6) (.name 7)) (.call 18 (.cons (.loc 0) (.cons (.loc 5) (.cons (.loc 1) (.cons (.loc 2) (.cons (.loc 3) .nil))))))) (RE m n cs d O.length (some (.d (wD w))) b c) (O++[Box.lst xs])=.ok .next (RE m n cs d O.length (some (.d (wD w))) (some (.d (word (trB m n cs w)))) (some (.d y)),O.set d (.dct kvs')++[Box.lst xs]):=by
  refine u7 rfl (zi (zl rfl (zl rfl (zl rfl (zl rfl (zl rfl rfl))))) ?_) (v:=.d (resD (trB m n cs w) y)) rfl
  rw[← ok.set_push]
  exact e1
 have eq:=zpa (trB m n cs w) (O.set d (.dct kvs')++[Box.lst xs])
 have hlen:(O.set d (.dct kvs')).length=O.length:=List.length_set
 have ny:TQ m n w cs (trB m n cs w) y:=ny
 cases hb:trB m n cs w with
 | true=>
   rw[hb] at es eq ny
   refine .ret kvs' mem old hb y ny (RE m n cs d O.length (some (.d (wD w))) (some (.d (word true))) (some (.d y))) ?_
   exact (zc es).trans (ze ((w_if (zt rfl rfl eq)).trans ((if_pos rfl).trans (ze (yc rfl)))))
 | false=>
   rw[hb] at es eq ny
   have er:recv .append (.box O.length) (O.set d (.dct kvs')++[Box.lst xs])=true:=by rw[← hlen];exact recN
   have ea:meth .append (.box O.length) [.d y] (O.set d (.dct kvs')++[Box.lst xs])=.ok (.d .none) (O.set d (.dct kvs')++[Box.lst (xs++[y])]):=by rw[← hlen];exact appN hl
   refine .next kvs' mem old hb y ny (some (.d (wD w))) (some (.d (word false))) (some (.d y)) ?_
   exact (zc es).trans ((zc (yd (zt rfl rfl eq))).trans ((zc (xx (km rfl er (zl rfl rfl) ea))).trans rfl))
inductive EachL(m:Nat)(C:Cs)(n:Nat)(cs:Cs)(d:Nat)(O:za)(kvs:List (MKey×PyData))(xs:List PyData)(ws:List Wg)(r:R (Loc×za) Fl):Prop
 | next (kvs':List (MKey×PyData)) (mem:Mem m C kvs') (old:∀ q:MKey,(n:Int) < q.2→zx kvs' q=zx kvs q) (hb:ws.any (trB m n cs)=false) (ys:List PyData) (hl:ys.length=ws.length) (hy:zer (Row m n cs) ws ys) (a b c:Option V)
    (h:r=.ok .next (RE m n cs d O.length a b c,O.set d (.dct kvs')++[Box.lst (xs++ys)]))
 | ret (kvs':List (MKey×PyData)) (mem:Mem m C kvs') (old:∀ q:MKey,(n:Int) < q.2→zx kvs' q=zx kvs q) (hb:ws.any (trB m n cs)=true) (y:PyData) (hy:PlR m (n+1) cs y) (ρ':Loc) (xs':List PyData)
    (h:r=.ok (.ret (.d (resD true y))) (ρ',O.set d (.dct kvs')++[Box.lst xs']))
theorem zj0(L1:LookS m C n lev)(hm:m4 m)(h:InC m C cs)(hne:cs≠[])(hlev:2≤lev){zs:List PyData}:∀ (ws:List Wg) (O:za) (kvs:List (MKey×PyData)) (xs:List PyData) (a b c:Option V),(∀ w∈ws,w∈dueI m)→Ok m C d O kvs→(∀ x∈xs,Shy badP x)→xs.length+ws.length < line →
 EachL m C n cs d O kvs xs ws (z6 (.plain zs) (yj (PG (k+lev+1) false) (.name 5) zg6) (ws.map fun p=>wOf p.1 p.2) (RE m n cs d O.length a b c) (O++[Box.lst xs]))
 | [],O,kvs,xs,a,b,c,_,ok,_,_=>.next kvs ok.mem (fun _ _=>rfl) rfl [] rfl rfl a b c (by rw[List.append_nil,set_same ok.at_];rfl)
 | w::ws,O,kvs,xs,a,b,c,hw,ok,hxs,hl=>by
   rw[List.length_cons] at hl
   rcases zou (k:=k) (a:=a) (b:=b) (c:=c) L1 hm (hw w (.head _)) h hne hlev ok hxs (by omega) with ⟨kvs₁,mem₁,old₁,hb₁,y,hy₁,a',b',c',h₁⟩ | ⟨kvs₁,mem₁,old₁,hb₁,y,hy,ρ',h₁⟩
   ·have ok₁:=ok.set mem₁
    have hlen:(O.set d (.dct kvs₁)).length=O.length:=List.length_set
    have ih:=zj0 (zs:=zs) L1 hm h hne hlev ws (O.set d (.dct kvs₁)) kvs₁ (xs++[y]) a' b' c' (fun v hv=>hw v (.tail _ hv)) ok₁ (fun z hz=>by
     rcases List.mem_append.mp hz with hz | hz
     ·exact hxs z hz
     ·rw[List.mem_singleton.mp hz];obtain⟨o,z,e,_,hz⟩:=hy₁;obtain⟨xs,e2⟩:=hz.tup;rw[e];exact j3 (.int o) (gf mildP hz) (by rw[e2];exact mildP.row _ _)) (by rw[List.length_append,List.length_singleton];omega)
    rw[hlen] at ih
    rw[List.map_cons,xc h₁]
    rcases ih with ⟨kvs',mem,old,hb₂,ys,hl',hy,a₂,b₂,c₂,h₂⟩ | ⟨kvs',mem,old,hb₂,y',hy,ρ',xs',h₂⟩
    ·refine .next kvs' mem (fun q hq=>(old q hq).trans (old₁ q hq)) (by rw[List.any_cons,hb₁,hb₂];rfl) (y::ys) (by rw[List.length_cons,List.length_cons,hl']) ⟨y,ys,rfl,hy₁,hy⟩ a₂ b₂ c₂ ?_
     rw[h₂,hlen,List.set_set,List.append_assoc];rfl
    ·refine .ret kvs' mem (fun q hq=>(old q hq).trans (old₁ q hq)) (by rw[List.any_cons,hb₁,hb₂];rfl) y' hy ρ' xs' ?_
     rw[h₂,List.set_set]
   ·refine .ret kvs₁ mem₁ old₁ (by rw[List.any_cons,hb₁];rfl) y hy ρ' xs ?_
    rw[List.map_cons,ux h₁]
theorem zqj(L1:LookS m C n lev)(hm:m4 m)(hw3:(dueI m).length≤9)(h:InC m C cs)(hne:cs≠[])(hlev:2≤lev)(ok:Ok m C d O kvs) :
 Gives m C n d O kvs ((dueI m).any (trB m n cs)) (Rs m (n+1) cs ((dueI m).any (trB m n cs))) (zg P table (k+lev+2) false 19 [.d (.list (due m)),.d (.list (zb cs)),.d (.int ((n+1:Nat):Int)),.box d] O):=by
 have lp:=zj0 (k:=k) (d:=d) (zs:=due m) L1 hm h hne hlev (dueI m) O kvs [] none none none (fun _ h=>h) ok (fun _ h=>nomatch h) (Nat.lt_of_le_of_lt (by rw[List.length_nil,Nat.zero_add];exact hw3) (by show 9 < 1000000;decide))
 have ef:evS (PG (k+lev+1) false) (.for_ (.name 5) (.e (.loc 0)) zg6) (RE m n cs d O.length none none none) (O++[Box.lst []])=z6 (.plain (due m)) (yj (PG (k+lev+1) false) (.name 5) zg6) ((dueI m).map fun p=>wOf p.1 p.2) (RE m n cs d O.length none none none) (O++[Box.lst []]):=by
  rw[q9,if_neg Bool.false_ne_true]
  rfl
 have hlen:∀ kvs',(O.set d (.dct kvs')).length=O.length:=fun _=>List.length_set
 rcases lp with ⟨kvs',mem,old,hb,ys,hl,hy,a,b,c,h₁⟩ | ⟨kvs',mem,old,hb,y,hy,ρ',xs',h₁⟩
 ·rw[hb]
  refine ⟨.tuple [.str (Str.ofString "each"),.tuple ys],kvs',?_,.inr ⟨ys,rfl,hy⟩,mem,old⟩
  have et:evE (PG (k+lev+1) false) (RE m n cs d O.length a b c) (.prim .tuple (.cons (.loc 4) .nil)) (O.set d (.dct kvs')++[Box.lst ([]++ys)])=.ok (.d (.tuple ys)) (O.set d (.dct kvs')++[Box.lst ([]++ys)]):=yt rfl rfl (by rw[← hlen kvs'];exact zi0 (by show ys.length≤_;rw[hl];exact Nat.le_trans hw3 (by decide)))
  exact qf (fn:=c19) (O':=[Box.lst ([]++ys)]) rfl ⟨rfl,by decide⟩ rfl (hlen kvs') ((zc (zv (v:=.box O.length) (O':=O++[Box.lst []]) rfl rfl rfl)).trans ((zc (ef.trans h₁)).trans (ze (yc (df rfl (df rfl et))))))
 ·rw[hb]
  exact⟨y,kvs',qf (fn:=c19) rfl ⟨rfl,by decide⟩ rfl (hlen kvs') ((zc (zv (v:=.box O.length) (O':=O++[Box.lst []]) rfl rfl rfl)).trans (ze (ef.trans h₁))),hy,mem,old⟩
end
noncomputable abbrev RL(m n:Nat)(cs:Cs)(d:Nat)(a:Option V):Loc:=[some (.d (.list (due m))),some (.d (.list (zb cs))),some (.d (.int (n:Int))),some (.box d),a]
noncomputable def keyD(n:Nat)(cs:Cs):PyData:=.tuple [.tuple (zb cs),.int (n:Int)]
section
variable{m n lev k d:Nat}{C cs:Cs}{O:za}{kvs:List (MKey×PyData)}
theorem uv(h:O[d]?=some (.dct kvs)):ky (.box d) (.d (keyD n cs)) O=some (d,kvs,(cs,(n:Int))):=by
 show (match O[d]? with
  | some (.dct kvs)=>(keyOf (keyD n cs)).map fun q=>(d,kvs,q)
  | _=>none)=_
 rw[h]
 show (keyOf (keyD n cs)).map (fun q=>(d,kvs,q))=_
 have:keyOf (keyD n cs)=some (cs,(n:Int)):=by
  show (ja (zb cs)).map (fun kss=>(kss,(n:Int)))=_
  rw[vg];rfl
 rw[this];rfl
theorem zcg(h:InC m C cs){a:Option V}:evE (PG k false) (RL m n cs d a) (.cmp .eq (.prim .len (.cons (.loc 1) .nil)) (.int 1)) O=.ok (.d (.bool (decide ((cs.length:Int)=1)))) O:=by
 refine zt (yt rfl rfl (j9 rfl h.line)) rfl (eq_int.trans ?_)
 rw[zz]
theorem zkv(h:InC m C cs)(hn:n≤11){a:Option V}:evE (PG (k+1) false) (RL m n cs d a) (.cmp .gt (.prim .len (.cons (.loc 1) .nil)) (.call 15 (.cons (.loc 2) .nil))) O=.ok (.d (.bool (decide ((cs.length:Int) > ((3 ^ n:Nat):Int))))) O:=by
 refine zt (yt rfl rfl (j9 rfl h.line)) (zi rfl (zkr hn)) (v_gt.trans ?_)
 rw[zz]
theorem zdi(h:InC m C cs)(hl:cs.length=1)(ok:Ok m C d O kvs):Gives m C n d O kvs (solv (dueI m) n cs) (Rs m n cs (solv (dueI m) n cs)) (zg P table (k+1) false 20 [.d (.list (due m)),.d (.list (zb cs)),.d (.int (n:Int)),.box d] O):=by
 obtain⟨c,rfl⟩:=List.length_eq_one_iff.mp hl
 rw[xr rfl]
 refine ⟨.tuple [.str (Str.ofString "told"),caseD c],kvs,?_,⟨.told c,rfl,rfl,Nat.zero_le _⟩,ok.mem,fun _ _=>rfl⟩
 rw[set_same ok.at_]
 exact zq (fn:=c20) (ρ':=RL m n [c] d none) rfl ⟨rfl,by decide⟩ rfl (ze ((w_if (zcg h)).trans ((if_pos rfl).trans (ze (yc rfl)))))
theorem za3(h:InC m C cs)(hn:n≤11)(hl:3 ^ n < cs.length)(ok:Ok m C d O kvs):Gives m C n d O kvs (solv (dueI m) n cs) (Rs m n cs (solv (dueI m) n cs)) (zg P table (k+2) false 20 [.d (.list (due m)),.d (.list (zb cs)),.d (.int (n:Int)),.box d] O):=by
 have h1:1 < cs.length:=Nat.lt_of_le_of_lt (Nat.one_le_pow _ _ (by decide)) hl
 have hs:solv (dueI m) n cs=false:=Bool.eq_false_iff.mpr fun e=>Nat.not_lt.mpr (zc4 e) hl
 rw[hs]
 refine ⟨.tuple [.str (Str.ofString "many")],kvs,?_,Hd.many hl,ok.mem,fun _ _=>rfl⟩
 rw[set_same ok.at_]
 have e1:=zcg (k:=k+1) (n:=n) (d:=d) (O:=O) h (a:=none)
 rw[decide_eq_false (by omega)] at e1
 have e2:=zkv (k:=k) (d:=d) (O:=O) h hn (a:=none)
 rw[decide_eq_true (show (cs.length:Int) > ((3 ^ n:Nat):Int) from Int.ofNat_lt.mpr hl)] at e2
 exact zq (fn:=c20) (ρ':=RL m n cs d none) rfl ⟨rfl,by decide⟩ rfl ((zc (yd e1)).trans (ze ((w_if e2).trans ((if_pos rfl).trans (ze (yc rfl))))))
theorem zrx:LookS m C 0 2:=fun k cs O d kvs h hne ok=>by
 by_cases hl:cs.length=1
 ·exact zdi (k:=k+1) h hl ok
 ·exact za3 h (by decide) (by have:0 < cs.length:=List.length_pos_iff.mpr hne;show 1 < cs.length;omega) ok
theorem zrw(L1:LookS m C n lev)(hm:m4 m)(hw3:(dueI m).length≤9)(hlev:2≤lev)(hn:n+1≤11):LookS m C (n+1) (lev+3):=fun k cs O d kvs h hne ok=>by
 by_cases hl:cs.length=1
 ·exact zdi (k:=k+lev+2) h hl ok
 by_cases h3:3 ^ (n+1) < cs.length
 ·exact za3 (k:=k+lev+1) h hn h3 ok
 have hs:solv (dueI m) (n+1) cs=(dueI m).any (trB m n cs):=by
  show (cs.length == 1 || (decide (cs.length≤3 ^ (n+1)) && (dueI m).any (trB m n cs)))=_
  rw[beq_false_of_ne hl,decide_eq_true (Nat.le_of_not_lt h3)];rfl
 have e1:=zcg (k:=k+lev+2) (n:=n+1) (d:=d) (O:=O) h (a:=none)
 rw[decide_eq_false (by omega)] at e1
 have e2:=zkv (k:=k+lev+1) (d:=d) (O:=O) h hn (a:=none)
 rw[decide_eq_false (show ¬ (cs.length:Int) > ((3 ^ (n+1):Nat):Int) from fun q=>h3 (Int.ofNat_lt.mp q))] at e2
 have ek:evS (PG (k+lev+2) false) (.asg (.name 4) (.tup (.cons (.prim .tuple (.cons (.loc 1) .nil)) (.cons (.loc 2) .nil)))) (RL m (n+1) cs d none) O=.ok .next (RL m (n+1) cs d (some (.d (keyD (n+1) cs))),O):=
  zv (df (yt rfl rfl (vn (x:=.list (zb cs)) rfl (if_pos h.line))) rfl) rfl rfl
 have en:evE (PG (k+lev+2) false) (RL m (n+1) cs d (some (.d (keyD (n+1) cs)))) (.notinM (.loc 4) (.loc 3)) O=.ok (.d (.bool !(zx kvs (cs,((n+1:Nat):Int))).isSome)) O:=by
  show Mine.notinM (.d (keyD (n+1) cs)) (.box d) O=_
  unfold Mine.notinM
  rw[uv ok.at_]
 have pre:∀ {r:R (Loc×za) Fl} {ss:CSs},evSs (PG (k+lev+2) false) ss (RL m (n+1) cs d (some (.d (keyD (n+1) cs)))) O=r→evSs (PG (k+lev+2) false) (.cons (.ife (.cmp .eq (.prim .len (.cons (.loc 1) .nil)) (.int 1)) (.cons (.ret (.tup (.cons (.str (Str.ofString "plan")) (.cons (.tup (.cons (.str (Str.ofString "told")) (.cons (.idx (.loc 1) (.int 0)) .nil))) .nil)))) .nil) .nil) (.cons (.ife (.cmp .gt (.prim .len (.cons (.loc 1) .nil)) (.call 15 (.cons (.loc 2) .nil))) (.cons (.ret (.tup (.cons (.str (Str.ofString "hold")) (.cons (.tup (.cons (.str (Str.ofString "many")) .nil)) .nil)))) .nil) .nil) (.cons (.asg (.name 4) (.tup (.cons (.prim .tuple (.cons (.loc 1) .nil)) (.cons (.loc 2) .nil)))) ss))) (RL m (n+1) cs d none) O=r:=
  fun h=>(zc (yd e1)).trans ((zc (yd e2)).trans ((zc ek).trans h))
 rw[hs]
 cases hd:zx kvs (cs,((n+1:Nat):Int)) with
 | some x=>
   rw[hd] at en
   obtain⟨y,rfl,hy⟩:=ok.mem.find hd
   rw[hs] at hd hy
   refine⟨y,kvs,?_,hy,ok.mem,fun _ _=>rfl⟩
   rw[set_same ok.at_]
   refine zq (fn:=c20) (ρ':=RL m (n+1) cs d (some (.d (keyD (n+1) cs)))) rfl ⟨rfl,by decide⟩ rfl (pre ((zc (yd en)).trans (ze (yc ?_))))
   show Mine.getM (.box d) (.d (keyD (n+1) cs)) O=_
   unfold Mine.getM
   rw[uv ok.at_]
   show opt ((zx kvs (cs,((n+1:Nat):Int))).map V.d) O=_
   rw[hd];rfl
 | none=>
   rw[hd] at en
   obtain⟨y,kvs₁,ee,hy,mem₁,old₁⟩:=zqj (k:=k) L1 hm hw3 h hne hlev ok
   have ok₁:=ok.set mem₁
   have hd₁:zx kvs₁ (cs,((n+1:Nat):Int))=none:=(old₁ _ (by show (n:Int) < ((n+1:Nat):Int);omega)).trans hd
   have mem₂:Mem m C (kvs₁++[((cs,((n+1:Nat):Int)),resD (solv (dueI m) (n+1) cs) y)]):=mem₁.add (by rw[hs];exact hy) h.sub hn hd₁
   rw[hs] at mem₂
   have eset:evS (PG (k+lev+2) false) (.setM (.loc 3) (.loc 4) (.call 19 (.cons (.loc 0) (.cons (.loc 1) (.cons (.loc 2) (.cons (.loc 3) .nil)))))) (RL m (n+1) cs d (some (.d (keyD (n+1) cs)))) O=.ok .next (RL m (n+1) cs d (some (.d (keyD (n+1) cs))),O.set d (.dct (kvs₁++[((cs,((n+1:Nat):Int)),resD ((dueI m).any (trB m n cs)) y)]))):=by
    have ec:evE (PG (k+lev+2) false) (RL m (n+1) cs d (some (.d (keyD (n+1) cs)))) (.call 19 (.cons (.loc 0) (.cons (.loc 1) (.cons (.loc 2) (.cons (.loc 3) .nil))))) O=.ok (.d (resD ((dueI m).any (trB m n cs)) y)) (O.set d (.dct kvs₁)):=zi rfl ee
    show R.bind (R.lift _ (R.bind (evE (PG (k+lev+2) false) (RL m (n+1) cs d (some (.d (keyD (n+1) cs)))) (.call 19 (.cons (.loc 0) (.cons (.loc 1) (.cons (.loc 2) (.cons (.loc 3) .nil))))) O) _)) _=_
    rw[ec]
    show R.bind (R.lift _ (Mine.setM (.box d) (.d (keyD (n+1) cs)) (.d (resD ((dueI m).any (trB m n cs)) y)) (O.set d (.dct kvs₁)))) _=_
    unfold Mine.setM
    rw[uv ok₁.at_]
    show R.bind (R.lift _ (if zx kvs₁ (cs,((n+1:Nat):Int))=none∧kvs₁.length≤line then _ else _)) _=_
    rw[if_pos ⟨hd₁,mem₁.len⟩]
    show R.ok _ (_,(O.set d (.dct kvs₁)).set d _)=_
    rw[List.set_set]
   have hlen:(O.set d (.dct (kvs₁++[((cs,((n+1:Nat):Int)),resD ((dueI m).any (trB m n cs)) y)]))).length=O.length:=List.length_set
   refine⟨y,_,?_,hy,mem₂,fun q hq=>?_⟩
   ·refine qf (fn:=c20) (O':=[]) (ρ':=RL m (n+1) cs d (some (.d (keyD (n+1) cs)))) rfl ⟨rfl,by decide⟩ rfl hlen (pre ((zc ((w_if en).trans ((if_pos rfl).trans ((zc eset).trans rfl)))).trans (ze (yc ?_))))
    show Mine.getM (.box d) (.d (keyD (n+1) cs)) (O.set d _)=_
    unfold Mine.getM
    rw[uv (ok.set mem₂).at_,List.append_nil]
    show opt ((zx _ (cs,((n+1:Nat):Int))).map V.d) _=_
    rw[zif hd₁];rfl
   ·rw[zd6 (fun e=>by rw[← e] at hq;exact absurd hq (Int.lt_irrefl _))]
    exact old₁ q (by have:((n+1:Nat):Int) < q.2:=hq;omega)
end
noncomputable abbrev R14(m:Nat)(cs:Cs)(a b c:Option V):Loc:=[some (.d (.list (due m))),some (.d (.list (zb cs))),a,b,c]
noncomputable def vw:CSs:=.cons (.ife (.call 16 (.cons (.loc 0) (.cons (.loc 3) (.cons (.loc 4) .nil)))) (.cons (.ret (.tup (.cons (.loc 3) (.cons (.loc 4) .nil)))) .nil) .nil) .nil
noncomputable def w6:CSs:=.cons (.for_ (.name 4) (.e (.slice (.loc 1) (.bin .add (.loc 2) (.int 1)) .none)) vw) .nil
section
variable{m k:Nat}{cs:Cs}{O:za}
theorem zgu(hm:m4 m){a:List Int}(ha:good m a){i:Option V}{zs:List PyData}:∀ (l:Cs),(∀ c∈l,good m c)→∀ e:Option V,
 (l.any (xk (dueI m) a)=false∧∃ e',z6 (.plain zs) (yj (PG (k+2) false) (.name 4) vw) (zb l) (R14 m cs i (some (.d (caseD a))) e) O=.ok .next (R14 m cs i (some (.d (caseD a))) e',O)) ∨
 (l.any (xk (dueI m) a)=true∧∃ b ρ',z6 (.plain zs) (yj (PG (k+2) false) (.name 4) vw) (zb l) (R14 m cs i (some (.d (caseD a))) e) O=.ok (.ret (.d (.tuple [caseD a,caseD b]))) (ρ',O))
 | [],_,e=>.inl ⟨rfl,e,rfl⟩
 | c::l,hl,e=>by
   have et:evE (PG (k+2) false) (R14 m cs i (some (.d (caseD a))) (some (.d (caseD c)))) (.call 16 (.cons (.loc 0) (.cons (.loc 3) (.cons (.loc 4) .nil)))) O=.ok (.d (.bool (xk (dueI m) a c))) O:=zi rfl (zm9 hm ha (hl c (.head _)))
   cases hb:xk (dueI m) a c with
   | true=>
     rw[hb] at et
     have h1:yj (PG (k+2) false) (.name 4) vw (caseD c) (R14 m cs i (some (.d (caseD a))) e) O=.ok (.ret (.d (.tuple [caseD a,caseD c]))) (R14 m cs i (some (.d (caseD a))) (some (.d (caseD c))),O):=
      ze (P:=PG (k+2) false) (ρ:=R14 m cs i (some (.d (caseD a))) (some (.d (caseD c)))) ((w_if et).trans ((if_pos rfl).trans (ze (yc rfl))))
     exact .inr ⟨by rw[List.any_cons,hb];rfl,c,_,ux h1⟩
   | false=>
     rw[hb] at et
     have h1:yj (PG (k+2) false) (.name 4) vw (caseD c) (R14 m cs i (some (.d (caseD a))) e) O=.ok .next (R14 m cs i (some (.d (caseD a))) (some (.d (caseD c))),O):=
      (zc (P:=PG (k+2) false) (ρ:=R14 m cs i (some (.d (caseD a))) (some (.d (caseD c)))) (yd et)).trans rfl
     have hany:(c::l).any (xk (dueI m) a)=l.any (xk (dueI m) a):=by rw[List.any_cons,hb];rfl
     rw[hany,show zb (c::l)=caseD c::zb l from rfl,xc h1]
     exact zgu hm ha l (fun c hc=>hl c (.tail _ hc)) _
theorem zqi(h:Ok12 m cs){i:Nat}(hi:i < cs.length){b c:Option V}:evE (PG k false) (R14 m cs (some (.d (.int (i:Int)))) b c) (.slice (.loc 1) (.bin .add (.loc 2) (.int 1)) .none) O=.ok (.d (.list (zb (cs.drop (i+1))))) O:=by
 have hc:clipAt (zb cs).length ((i:Int)+1)=i+1:=by
  have:=clipAt_cast (zb cs).length ((i:Int)+1)
  rw[if_neg (by omega),zz] at this
  rw[zz];omega
 have ea:evE (PG k false) (R14 m cs (some (.d (.int (i:Int)))) b c) (.bin .add (.loc 2) (.int 1)) O=.ok (.d (.int ((i:Int)+1))) O:=z8 rfl rfl vb
 rw[zgb,show evE (PG k false) (R14 m cs (some (.d (.int (i:Int)))) b c) (.loc 1) O=.ok (.d (.list (zb cs))) O from rfl,zr,ea,zr]
 show opt ((jj (zb cs) (.int ((i:Int)+1)) .none).map V.d) O=_
 unfold jj
 rw[if_pos h.line]
 show R.ok (V.d (.list (vi (zb cs) (clipAt (zb cs).length ((i:Int)+1)) (zb cs).length))) O=_
 rw[hc]
 unfold vi
 rw[List.take_of_length_le (by rw[List.length_drop];exact Nat.le_refl _)]
 unfold zb
 rw[List.map_drop]
theorem any_alike{a:List Int}{l:Cs}:l.any (xk (dueI m) a)=false↔∀ b∈l,xk (dueI m) a b=false:=by
 rw[List.any_eq_false]
 exact⟨fun h b hb=>Bool.eq_false_iff.mpr (h b hb),fun h b hb=>Bool.eq_false_iff.mp (h b hb)⟩
theorem zgt(hm:m4 m)(h:Ok12 m cs){zs:List PyData}:∀ (l:Cs) (i:Nat) (a b e:Option V),cs.drop i=l →
 (Pw (dueI m) l∧∃ a' b' e',z6 (.plain zs) (yj (PG (k+2) false) (.two (.name 2) (.name 3)) w6) ((l.zipIdx i).map fun p=>.tuple [.int (p.2:Int),caseD p.1]) (R14 m cs a b e) O=.ok .next (R14 m cs a' b' e',O)) ∨
 (¬ Pw (dueI m) l∧∃ x y ρ',z6 (.plain zs) (yj (PG (k+2) false) (.two (.name 2) (.name 3)) w6) ((l.zipIdx i).map fun p=>.tuple [.int (p.2:Int),caseD p.1]) (R14 m cs a b e) O=.ok (.ret (.d (.tuple [x,y]))) (ρ',O))
 | [],i,a,b,e,_=>.inl ⟨List.Pairwise.nil,a,b,e,rfl⟩
 | c::l,i,a,b,e,hd=>by
   have hi:i < cs.length:=Nat.lt_of_not_le fun q=>by rw[List.drop_eq_nil_of_le q] at hd;cases hd
   have hd':cs.drop (i+1)=l:=by rw[← List.drop_drop,hd];rfl
   have hmem:∀ x∈c::l,x∈cs:=fun x hx=>List.mem_of_mem_drop (hd ▸ hx)
   have hg:∀ x∈l,good m x:=fun x hx=>h.good x (hmem x (.tail _ hx))
   have ef:evS (PG (k+2) false) (.for_ (.name 4) (.e (.slice (.loc 1) (.bin .add (.loc 2) (.int 1)) .none)) vw) (R14 m cs (some (.d (.int (i:Int)))) (some (.d (caseD c))) e) O=z6 (.plain (zb l)) (yj (PG (k+2) false) (.name 4) vw) (zb l) (R14 m cs (some (.d (.int (i:Int)))) (some (.d (caseD c))) e) O:=by
    rw[q9,if_neg Bool.false_ne_true,x_e,zqi h hi,hd']
    rfl
   rw[List.zipIdx_cons,List.map_cons]
   rcases zgu (k:=k) (cs:=cs) (O:=O) (i:=some (.d (.int (i:Int)))) (zs:=zb l) hm (h.good c (hmem c (.head _))) l hg e with ⟨hb,e',h1⟩ | ⟨hb,x,ρ',h1⟩
   ·have ht:yj (PG (k+2) false) (.two (.name 2) (.name 3)) w6 (.tuple [.int (i:Int),caseD c]) (R14 m cs a b e) O=.ok .next (R14 m cs (some (.d (.int (i:Int)))) (some (.d (caseD c))) e',O):=
     (zc (P:=PG (k+2) false) (ρ:=R14 m cs (some (.d (.int (i:Int)))) (some (.d (caseD c))) e) (ef.trans h1)).trans rfl
    rw[xc ht]
    have hp:Pw (dueI m) (c::l)↔Pw (dueI m) l:=by
     unfold Pw
     rw[List.pairwise_cons]
     exact⟨fun h=>h.2,fun h=>⟨any_alike.mp hb,h⟩⟩
    rw[hp]
    exact zgt hm h l (i+1) _ _ _ hd'
   ·have ht:yj (PG (k+2) false) (.two (.name 2) (.name 3)) w6 (.tuple [.int (i:Int),caseD c]) (R14 m cs a b e) O=.ok (.ret (.d (.tuple [caseD c,caseD x]))) (ρ',O):=
     ze (P:=PG (k+2) false) (ρ:=R14 m cs (some (.d (.int (i:Int)))) (some (.d (caseD c))) e) (ef.trans h1)
    refine .inr ⟨fun hp=>?_,_,_,_,ux ht⟩
    rw[any_alike.mpr (List.pairwise_cons.mp hp).1] at hb;cases hb
theorem zbe(hm:m4 m)(h:Ok12 m cs):(Pw (dueI m) cs∧zg P table (k+3) false 17 [.d (.list (due m)),.d (.list (zb cs))] O=.ok (.d .none) O)∨(¬ Pw (dueI m) cs∧∃ x y,zg P table (k+3) false 17 [.d (.list (due m)),.d (.list (zb cs))] O=.ok (.d (.tuple [x,y])) O):=by
 have ee:qb (zb cs)=(cs.zipIdx 0).map fun p=>.tuple [.int (p.2:Int),caseD p.1]:=by
  unfold qb zb
  rw[List.zipIdx_map,List.map_map]
  rfl
 have ef:evS (PG (k+2) false) (.for_ (.two (.name 2) (.name 3)) (.enum (.loc 1)) w6) (R14 m cs none none none) O=z6 (.plain (qb (zb cs))) (yj (PG (k+2) false) (.two (.name 2) (.name 3)) w6) ((cs.zipIdx 0).map fun p=>.tuple [.int (p.2:Int),caseD p.1]) (R14 m cs none none none) O:=by
  rw[q9,if_neg Bool.false_ne_true,← ee]
  rfl
 rcases zgt (k:=k) (O:=O) (zs:=qb (zb cs)) hm h cs 0 none none none rfl with ⟨hp,a',b',e',h1⟩ | ⟨hp,x,y,ρ',h1⟩
 ·exact .inl ⟨hp,zq (fn:=c17) rfl ⟨rfl,by decide⟩ rfl ((zc (ef.trans h1)).trans (ze (yc rfl)))⟩
 ·exact .inr ⟨hp,x,y,zq (fn:=c17) rfl ⟨rfl,by decide⟩ rfl (ze (ef.trans h1))⟩
end
section
variable{m n lev k d:Nat}{C cs:Cs}{O:za}{kvs:List (MKey×PyData)}
theorem LookS.more{lev':Nat}(h:LookS m C n lev)(hl:lev≤lev'):LookS m C n lev':=fun k cs O d kvs h1 h2 h3=>by
 obtain⟨j,rfl⟩:=Nat.exists_eq_add_of_le' hl
 obtain⟨y,kvs',e,ny,mem,old⟩:=h (k+j) cs O d kvs h1 h2 h3
 exact⟨y,kvs',by rw[← Nat.add_assoc];exact e,ny,mem,old⟩
theorem zjs(hm:m4 m)(hw3:(dueI m).length≤9):∀ n,n≤11→LookS m C n (3 * n+2)
 | 0,_=>zrx
 | n+1,hn=>zrw (zjs hm hw3 n (Nat.le_of_succ_le hn)) hm hw3 (by omega) hn
theorem zdj(hm:m4 m)(hw3:(dueI m).length≤9){n:Nat}(hn:n≤11):LookS m C n 35:=(zjs hm hw3 n hn).more (by omega)
noncomputable def Held(m:Nat)(cs:Cs):Nat→PyData→Prop
 | 0,h=>h=.none
 | n+1,h=>Hd m n cs h
inductive WhR(m:Nat)(cs:Cs)(N:Nat)(O:za)(r:R (Loc×za) Fl):Prop
 | mk (kvs':List (MKey×PyData)) (h y:PyData) (hh:Held m cs N h) (hy:PlR m N cs y) (e:r=.ok .next ([some (.d (.list (due m))),some (.d (.list (zb cs))),some (.box O.length),some (.d h),some (.d (.int (N:Int))),some (.d (word true)),some (.d y)],O++[.dct kvs']))
noncomputable abbrev RF(m:Nat)(cs:Cs)(d:Nat)(h a b c:Option V):Loc:=[some (.d (.list (due m))),some (.d (.list (zb cs))),some (.box d),h,a,b,c]
noncomputable def zet:CSs:=(.cons (.asg (.name 3) (.loc 6)) (.cons (.asg (.name 4) (.bin .add (.loc 4) (.int 1))) (.cons (.asg (.two (.name 5) (.name 6)) (.call 20 (.cons (.loc 0) (.cons (.loc 1) (.cons (.loc 4) (.cons (.loc 2) .nil)))))) .nil)))
noncomputable def whT(k:Nat)(ρ:Loc)(O:za):R (Loc×za) Bool:=((evE (PG k false) ρ (.cmp .eq (.loc 5) (.str (Str.ofString "hold"))) O).bind fun v O=>opt (truth v) O).lift ρ
theorem zge{b:Bool}{h a c:Option V}:whT k (RF m cs d h a (some (.d (word b))) c) O=.ok (!b) (RF m cs d h a (some (.d (word b))) c,O):=by
 have e:evE (PG k false) (RF m cs d h a (some (.d (word b))) c) (.cmp .eq (.loc 5) (.str (Str.ofString "hold"))) O=.ok (.d (.bool !b)) O:=zt rfl rfl (zjf b O)
 unfold whT
 rw[e];rfl
theorem zgf{turn:Loc→za→R (Loc×za) Fl}{test:Loc→za→R (Loc×za) Bool}{t:Nat}{ρ ρ':Loc}{O O':za}(h:turn ρ O=.ok .next (ρ',O')) :
 (match (R.ok (!false) (ρ,O):R (Loc×za) Bool) with
   | .ok false S=>R.ok Fl.next S
   | .ok true S=>(match turn S.1 S.2 with
      | .ok (.ret v) S=>R.ok (Fl.ret v) S
      | .ok .next S=>yx test turn t S.1 S.2
      | _=>.stuck)
   | _=>.stuck)=yx test turn t ρ' O':=by
 show (match turn ρ O with
        | .ok (.ret v) S=>R.ok (Fl.ret v) S
        | .ok .next S=>yx test turn t S.1 S.2
        | _=>.stuck)=_
 rw[h]
theorem zgr(LA:∀ n,n≤11→LookS m C n 35)(h:InC m C cs)(hne:cs≠[]){N:Nat}(hN:N≤11)(hL:Least (dueI m) N cs):∀ (r t j:Nat) (kvs:List (MKey×PyData)) (hh:PyData) (y:PyData),N=j+r→r < t→Ok m C O.length (O++[.dct kvs]) kvs→Held m cs j hh→Rs m j cs (solv (dueI m) j cs) y →
 WhR m cs N O (yx (whT (k+35)) (fun ρ O=>evSs (PG (k+35) false) zet ρ O) t (RF m cs O.length (some (.d hh)) (some (.d (.int (j:Int)))) (some (.d (word (solv (dueI m) j cs)))) (some (.d y))) (O++[.dct kvs]))
 | 0,0,_,_,_,_,_,h,_,_,_=>absurd h (Nat.lt_irrefl _)
 | 0,t+1,j,kvs,hh,y,e,_,_,g1,g2=>by
   have e:N=j:=e
   subst e
   rw[hL.yes] at g2
   refine⟨kvs,hh,y,g1,g2,?_⟩
   rw[yx,zge,hL.yes]
   rfl
 | r+1,0,_,_,_,_,_,h,_,_,_=>absurd h (Nat.not_lt_zero _)
 | r+1,t+1,j,kvs,hh,y,e,ht,ok,g1,g2=>by
   have hs:solv (dueI m) j cs=false:=hL.no j (by omega)
   obtain⟨y₁,kvs₁,e₁,ny,mem,old⟩:=LA (j+1) (by omega) k cs _ O.length kvs h hne ok
   have hset:(O++[Box.dct kvs]).set O.length (.dct kvs₁)=O++[.dct kvs₁]:=ze5
   rw[hset] at e₁
   have ok₁:Ok m C O.length (O++[.dct kvs₁]) kvs₁:=hset ▸ ok.set mem
   rw[hs] at g2
   obtain⟨kvs',h',y',q1,q2,ih⟩:=zgr LA h hne hN hL r t (j+1) kvs₁ y y₁ (by omega) (by omega) ok₁ g2 ny
   refine⟨kvs',h',y',q1,q2,?_⟩
   have hb:evSs (PG (k+35) false) zet (RF m cs O.length (some (.d hh)) (some (.d (.int (j:Int)))) (some (.d (word (solv (dueI m) j cs)))) (some (.d y))) (O++[.dct kvs])=.ok .next (RF m cs O.length (some (.d y)) (some (.d (.int ((j+1:Nat):Int)))) (some (.d (word (solv (dueI m) (j+1) cs)))) (some (.d y₁)),O++[.dct kvs₁]):=by
    refine (zc (zv rfl rfl rfl)).trans ((zc (zv (z8 rfl rfl vb) rfl rfl)).trans ((zc (u7 rfl (zi rfl e₁) (v:=.d (resD (solv (dueI m) (j+1) cs) y₁)) rfl)).trans rfl))
   rw[yx,zge,hs]
   rw[hs] at hb
   exact (zgf hb).trans ih
theorem kf{ws:List Wg}{cs:Cs}:∀ N,solv ws N cs=true→∃ n,n≤N∧Least ws n cs
 | 0,h=>⟨0,Nat.le_refl _,h,fun k hk=>absurd hk (Nat.not_lt_zero _)⟩
 | N+1,h=>by
   cases hb:solv ws N cs with
   | true=>obtain⟨n,h1,h2⟩:=kf N hb;exact⟨n,Nat.le_succ_of_le h1,h2⟩
   | false=>exact⟨N+1,Nat.le_refl _,h,fun k hk=>Bool.eq_false_iff.mpr fun e=>by rw[zgi e (Nat.le_of_lt_succ hk)] at hb;cases hb⟩
inductive zq5(m:Nat)(cs:Cs)(N:Nat)(O:za)(r:R za V):Prop
 | mk (y h:PyData) (hy:PlR m N cs y) (hh:Held m cs N h) (e:r=.ok (.d (.tuple [y,h,.int (N:Int)])) O)
theorem dg(LA:∀ n,n≤11→LookS m C n 35)(h:InC m C cs)(hne:cs≠[]){N:Nat}(hN:N≤11)(hL:Least (dueI m) N cs)(hC:C.length≤12)(hO:∀ b∈O,ShyB badP b):zq5 m cs N O (zg P table (k+36) false 21 [.d (.list (due m)),.d (.list (zb cs))] O):=by
 have ok0:Ok m C O.length (O++[.dct []]) []:=⟨by rw[List.getElem?_append_right (Nat.le_refl _),Nat.sub_self];rfl,⟨fun _ h=>(nomatch h),fun _ h=>(nomatch h),.nil,hC⟩,fun b hb=>by
  rcases List.mem_append.mp hb with hb | hb
  ·exact hO b hb
  ·rw[List.mem_singleton.mp hb];exact fun _ h=>nomatch h⟩
 obtain⟨y₁,kvs₁,e₁,ny,mem,old⟩:=LA 0 (by decide) k cs _ O.length [] h hne ok0
 have hset:(O++[Box.dct []]).set O.length (.dct kvs₁)=O++[.dct kvs₁]:=ze5
 rw[hset] at e₁
 have ok₁:Ok m C O.length (O++[.dct kvs₁]) kvs₁:=hset ▸ ok0.set mem
 obtain⟨kvs',h',y',q1,q2,hw⟩:=zgr (k:=k) (O:=O) LA h hne hN hL N 200 0 kvs₁ .none y₁ (by omega) (by omega) ok₁ rfl ny
 refine⟨y',h',q2,q1,?_⟩
 refine dz (fn:=c21) (ρ':=RF m cs O.length (some (.d h')) (some (.d (.int (N:Int)))) (some (.d (word true))) (some (.d y'))) (O':=[.dct kvs']) rfl ⟨rfl,by decide⟩ rfl ?_
 refine (zc (zv (v:=.box O.length) (O':=O++[.dct []]) rfl rfl rfl)).trans ((zc (zv rfl rfl rfl)).trans ((zc (zv rfl rfl rfl)).trans ?_))
 refine (zc (u7 rfl (zi rfl e₁) (v:=.d (resD (solv (dueI m) 0 cs) y₁)) rfl)).trans ?_
 have hw:evS (PG (k+35) false) (.while_ (.cmp .eq (.loc 5) (.str (Str.ofString "hold"))) zet) (RF m cs O.length (some (.d .none)) (some (.d (.int ((0:Nat):Int)))) (some (.d (word (solv (dueI m) 0 cs)))) (some (.d y₁))) (O++[.dct kvs₁])=_:=hw
 exact (zc hw).trans (ze (yc rfl))
inductive zga(m:Nat)(so:Cs)(x:PyData):Prop
 | none (h:so=[]∨¬ Pw (dueI m) so) (e:x=.none)
 | some (n:Nat) (hne:so≠[]) (hp:Pw (dueI m) so) (hl:Least (dueI m) n so) (e:x=.int (n:Int))
inductive zoc(m:Nat)(so:Cs)(x:PyData):Prop
 | none (h:so=[]∨¬ Pw (dueI m) so) (e:x=.tuple [.str (Str.ofString "none")])
 | alike (h:so=[]∨¬ Pw (dueI m) so) (a b:PyData) (e:x=.tuple [.str (Str.ofString "alike"),a,b])
 | plan (n:Nat) (hne:so≠[]) (hN:n≤11) (hp:Pw (dueI m) so) (hl:Least (dueI m) n so) (y h:PyData) (hy:PlR m n so y) (hh:Held m so n h) (e:x=.tuple [.str (Str.ofString "plan"),y,h])
theorem due9{m:Nat}(h2:2≤m)(h4:m≤4):(dueI m).length≤9:=by
 have:m=2∨m=3∨m=4:=by omega
 rcases this with rfl | rfl | rfl <;> decide
theorem Ok12.open_{cs:Cs}{ds:List Dn}(f:Found m cs):Ok12 m (z0 cs ds):=⟨fun c hc=>f.good c (List.mem_filter.mp hc).1,Nat.le_trans (List.length_filter_le _ _) f.le⟩
theorem zg9{so:Cs}{P:Pg}{ρ:Loc}{a:CE}(h:evE P ρ a O=.ok (.d (.list (zb so))) O):evE P ρ (.cmp .eq a (.list .nil)) O=.ok (.d (.bool so.isEmpty)) O:=by
 refine zt h rfl ((zce (kc _)).trans ?_)
 congr 3
 unfold zb;rw[List.isEmpty_map]
theorem zg8(hm:m4 m)(h4:m≤4){cs:Cs}{ds:List Dn}(f:Found m cs)(hd:Dns m ds)(h1:One O)(hO:∀ b∈O,ShyB badP b):∃ x,zg P table (k+37) false 23 [.d (.int m),.d (.list (zb cs)),.d (.list (dnsD ds))] O=.ok (.d x) O∧zga m (z0 cs ds) x:=by
 have hso:Ok12 m (z0 cs ds):=.open_ f
 have e1:=zf2 (k:=k+31) (O:=O) hm f hd (.d _) (.d _)
 have e2:=zkw (k:=k+32) hm.1 h4 h1
 have e3:evE (PG (k+36) false) [some (.d (.int m)),some (.d (.list (zb cs))),some (.d (.list (dnsD ds))),some (.d (.list (zb (z0 cs ds)))),some (.d (.list (due m)))] (.cmp .eq (.loc 3) (.list .nil)) O=.ok (.d (.bool (z0 cs ds).isEmpty)) O:=zg9 rfl
 have pre:∀ {r:R (Loc×za) Fl} {ss:CSs},evSs (PG (k+36) false) ss [some (.d (.int m)),some (.d (.list (zb cs))),some (.d (.list (dnsD ds))),some (.d (.list (zb (z0 cs ds)))),some (.d (.list (due m)))] O=r→evSs (PG (k+36) false) (.cons (.asg (.name 3) (.call 14 (.cons (.loc 0) (.cons (.loc 1) (.cons (.loc 2) .nil))))) (.cons (.asg (.name 4) (.call 7 (.cons (.loc 0) .nil))) ss)) [some (.d (.int m)),some (.d (.list (zb cs))),some (.d (.list (dnsD ds))),none,none] O=r:=
  fun h=>(zc (zv (zi rfl e1) rfl rfl)).trans ((zc (zv (zi rfl e2) rfl rfl)).trans h)
 cases hem:(z0 cs ds).isEmpty with
 | true=>
   rw[hem] at e3
   exact⟨.none,zq (fn:=c23) rfl ⟨rfl,by decide⟩ rfl (pre (ze ((w_if (zq8 e3)).trans ((if_pos rfl).trans (ze (yc rfl)))))),.none (.inl (List.isEmpty_iff.mp hem)) rfl⟩
 | false=>
   rw[hem] at e3
   have hne:z0 cs ds≠[]:=fun e=>by rw[e] at hem;cases hem
   rcases zbe (k:=k+33) (O:=O) hm hso with ⟨hp,e4⟩ | ⟨hp,x,y,e4⟩
   ·obtain⟨N,hN,hL⟩:=kf _ (zff 11 hp hne (Nat.le_trans hso.le (by decide)))
    obtain⟨y,h',_,_,e5⟩:=dg (k:=k) (O:=O) (fun n hn=>zdj hm (due9 hm.1 h4) hn) ⟨hso,List.Sublist.refl _⟩ hne hN hL hso.le hO
    refine⟨.int (N:Int),zq (fn:=c23) rfl ⟨rfl,by decide⟩ rfl (pre ((zc (yd (po e3 (zt (zi rfl e4) rfl rfl)))).trans (ze (yc (yw (zi rfl e5) rfl rfl))))),.some N hne hp hL rfl⟩
   ·exact⟨.none,zq (fn:=c23) rfl ⟨rfl,by decide⟩ rfl (pre (ze ((w_if (po e3 (zt (zi rfl e4) rfl rfl))).trans ((if_pos rfl).trans (ze (yc rfl)))))),.none (.inr hp) rfl⟩
theorem zok{P:Pg}{ρ ρ':Loc}{O O':za}{e:CE}{i j k:Nat}{v:V}(hd:P.hd=false)(h:evE P ρ e O=.ok v O')(hb:zlh i j k v (ρ,O')=.ok .next (ρ',O')):evS P (.asg3 i j k e) ρ O=.ok .next (ρ',O'):=by
 show (if P.hd=true then .stuck else ((evE P ρ e O).lift ρ).bind (zlh i j k))=_
 rw[if_neg (by rw[hd];exact Bool.false_ne_true),h];exact hb
theorem zqc(hm:m4 m)(h4:m≤4){cs:Cs}{ds:List Dn}(f:Found m cs)(hd:Dns m ds):∃ x,zg P table (k+37) false 22 [.d (.int m),.d (.list (zb cs)),.d (.list (dnsD ds))] []=.ok (.d x) []∧zoc m (z0 cs ds) x:=by
 have hso:Ok12 m (z0 cs ds):=.open_ f
 have e1:=zf2 (k:=k+31) (O:=[]) hm f hd (.d _) (.d _)
 have e2:=zkw (k:=k+32) hm.1 h4 .nil
 have e3:evE (PG (k+36) false) [some (.d (.int m)),some (.d (.list (zb cs))),some (.d (.list (dnsD ds))),some (.d (.list (zb (z0 cs ds)))),some (.d (.list (due m))),none,none,none,none] (.cmp .eq (.loc 3) (.list .nil)) []=.ok (.d (.bool (z0 cs ds).isEmpty)) []:=zg9 rfl
 have pre:∀ {r:R (Loc×za) Fl} {ss:CSs},evSs (PG (k+36) false) ss [some (.d (.int m)),some (.d (.list (zb cs))),some (.d (.list (dnsD ds))),some (.d (.list (zb (z0 cs ds)))),some (.d (.list (due m))),none,none,none,none] []=r→evSs (PG (k+36) false) (.cons (.asg (.name 3) (.call 14 (.cons (.loc 0) (.cons (.loc 1) (.cons (.loc 2) .nil))))) (.cons (.asg (.name 4) (.call 7 (.cons (.loc 0) .nil))) ss)) [some (.d (.int m)),some (.d (.list (zb cs))),some (.d (.list (dnsD ds))),none,none,none,none,none,none] []=r:=
  fun h=>(zc (zv (zi rfl e1) rfl rfl)).trans ((zc (zv (zi rfl e2) rfl rfl)).trans h)
 cases hem:(z0 cs ds).isEmpty with
 | true=>
   rw[hem] at e3
   exact⟨_,zq (fn:=c22) rfl ⟨rfl,by decide⟩ rfl (pre (ze ((w_if e3).trans ((if_pos rfl).trans (ze (yc rfl)))))),.none (.inl (List.isEmpty_iff.mp hem)) rfl⟩
 | false=>
   rw[hem] at e3
   have hne:z0 cs ds≠[]:=fun e=>by rw[e] at hem;cases hem
   rcases zbe (k:=k+33) (O:=[]) hm hso with ⟨hp,e4⟩ | ⟨hp,x,y,e4⟩
   ·obtain⟨N,hN,hL⟩:=kf _ (zff 11 hp hne (Nat.le_trans hso.le (by decide)))
    obtain⟨y,h',q1,q2,e5⟩:=dg (k:=k) (O:=[]) (fun n hn=>zdj hm (due9 hm.1 h4) hn) ⟨hso,List.Sublist.refl _⟩ hne hN hL hso.le (fun _ h=>nomatch h)
    refine⟨_,zq (fn:=c22) rfl ⟨rfl,by decide⟩ rfl (pre ((zc (yd e3)).trans ((zc (zv (zi rfl e4) rfl rfl)).trans ((zc (yd (zt rfl rfl rfl))).trans ((zc (zok rfl (zi rfl e5) rfl)).trans (ze (yc rfl))))))),.plan N hne hN hp hL y h' q1 q2 rfl⟩
   ·exact⟨_,zq (fn:=c22) rfl ⟨rfl,by decide⟩ rfl (pre ((zc (yd e3)).trans ((zc (zv (zi rfl e4) rfl rfl)).trans (ze ((w_if (zt rfl rfl rfl)).trans ((if_pos rfl).trans (ze (yc rfl)))))))),.alike (.inr hp) x y rfl⟩
end
theorem x4:∀ a b:Cs,PyData.eqvAll (zb a) (zb b)=decide (a=b)
 | [],[]=>rfl
 | [],_::_=>rfl
 | _::_,[]=>rfl
 | c::a,e::b=>by
   show (PyData.eqv (caseD c) (caseD e) && PyData.eqvAll (zb a) (zb b))=_
   rw[zdx,x4 a b,← Bool.decide_and]
   exact decide_eq_decide.mpr List.cons_eq_cons.symm
theorem zbh{a b:Cs}{O:za}:cmpV .eq (.d (.list (zb a))) (.d (.list (zb b))) O=.ok (.d (.bool (decide (a=b)))) O:=by
 rw[v_eq]
 show opt (Option.map _ (if eqOk (.list (zb a)) (.list (zb b))=true then some (PyData.eqvAll (zb a) (zb b)) else none)) O=_
 rw[if_pos (qy (xm a) (xm b) (Nat.le_trans (Lay.list (kc b)).depth (by decide))),x4];rfl
theorem zmh{cs:Cs}{O:za}:cmpV .ne (.d (.list (zb cs))) (.d (.list [])) O=.ok (.d (.bool (!decide (cs=[])))) O:=by
 rw[v_ne]
 show opt (Option.map _ (if eqOk (.list (zb cs)) (.list [])=true then some (!PyData.eqvAll (zb cs) (zb [])) else none)) O=_
 rw[if_pos (qy (xm cs) rfl (by decide)),x4];rfl
theorem q_TT{O:za}:cmpV .eq (.d (.str sT)) (.d (.str sT)) O=.ok (.d (.bool true)) O:=by kernel_rfl
theorem q_WT{O:za}:cmpV .eq (.d (.str sW)) (.d (.str sT)) O=.ok (.d (.bool false)) O:=by kernel_rfl
theorem n_WW{O:za}:cmpV .ne (.d (.str sW)) (.d (.str sW)) O=.ok (.d (.bool false)) O:=by kernel_rfl
noncomputable abbrev wQ(m k:Nat)(O:za):Prop:=(dueI m).map (fun w=>zg P table (k+3) false 5 [.d (.int m),.d (wD w)] O)=(dueI m).map fun w=>.ok (.d (.bool true)) (tkW w.1.length O)
theorem wq2{k:Nat}{O:za}:wQ 2 k O:=by kernel_rfl
theorem wq3{k:Nat}{O:za}:wQ 3 k O:=by kernel_rfl
theorem wq4{k:Nat}{O:za}:wQ 4 k O:=by kernel_rfl
theorem zsm{k m:Nat}{w:Wg}{O:za}(h2:2≤m)(h4:m≤4)(hw:w∈dueI m):zg P table (k+3) false 5 [.d (.int m),.d (wD w)] O=.ok (.d (.bool true)) O:=by
 have hm:m=2∨m=3∨m=4:=by omega
 rcases hm with rfl | rfl | rfl
 ·exact (vo wq2 hw).trans (by rw[zbu])
 ·exact (vo wq3 hw).trans (by rw[zbu])
 ·exact (vo wq4 hw).trans (by rw[zbu])
section
variable{Bd:List PyData→Prop}{ρ:Loc}{O:za}
theorem zc8(h:∀ b∈O,ShyB Bd b):ShyS Bd [] O:=⟨fun _ h=>(nomatch h),h⟩
theorem ku{x:PyData}(h:Shy Bd x)(hr:ShyS Bd ρ O):ShyS Bd (some (.d x)::ρ) O:=⟨fun v hv=>by
 rcases List.mem_cons.mp hv with hv | hv
 ·cases hv;exact h
 ·exact hr.loc v hv,hr.box⟩
theorem zgj(hr:ShyS Bd ρ O):ShyS Bd (none::ρ) O:=⟨fun v hv=>by
 rcases List.mem_cons.mp hv with hv | hv
 ·cases hv
 ·exact hr.loc v hv,hr.box⟩
end
noncomputable abbrev RP(m:Nat)(cs:Cs)(d:PyData)(a b:Option V):Loc:=[some (.d (.int m)),some (.d (.list (zb cs))),some (.d d),a,b]
noncomputable def forB:CSs:=(.cons (.ife (.and_ (.cmp .eq (.loc 3) (.list .nil)) (.cmp .isnot (.loc 4) .none)) (.cons (.ret (.bool false)) .nil) .nil) (.cons (.ife (.and_ (.cmp .ne (.loc 3) (.list .nil)) (.nt (.call 10 (.cons (.loc 0) (.cons (.loc 3) (.cons (.loc 4) .nil)))))) (.cons (.ret (.bool false)) .nil) .nil) .nil))
section
variable{O:za}{m k:Nat}{cs ps:Cs}{p q:Pl}{a b:Option V}
theorem Pl.fits_nil(h:p.fits m []):p=.no:=by
 cases p with
 | no=>rfl
 | told c=>exact nomatch h
 | weigh w a b c=>exact absurd rfl h.2.1
theorem zbw(hs:ShyS badF (RP m cs q.toD a b) O)(hf:p.fits m ps)(hc:ps≠[]→zg P table k false 10 [.d (.int m),.d (.list (zb ps)),.d p.toD] O=.ok (.d (.bool true)) O) :
 xh badF (.two (.name 3) (.name 4)) (fun ρ O=>evSs (PG k false) forB ρ O) (.tuple [.list (zb ps),p.toD]) (RP m cs q.toD a b) O=.ok .next (RP m cs q.toD (some (.d (.list (zb ps)))) (some (.d p.toD)),O):=by
 unfold xh
 rw[if_pos hs]
 show evSs (PG k false) forB (RP m cs q.toD (some (.d (.list (zb ps)))) (some (.d p.toD))) O=_
 have e1:evE (PG k false) (RP m cs q.toD (some (.d (.list (zb ps)))) (some (.d p.toD))) (.cmp .eq (.loc 3) (.list .nil)) O=.ok (.d (.bool (decide (ps=[])))) O:=zt rfl rfl (zbh (b:=[]))
 have e2:evE (PG k false) (RP m cs q.toD (some (.d (.list (zb ps)))) (some (.d p.toD))) (.cmp .ne (.loc 3) (.list .nil)) O=.ok (.d (.bool (!decide (ps=[])))) O:=zt rfl rfl zmh
 by_cases he:ps=[]
 ·subst he
  rw[Pl.fits_nil hf]
  exact (zc (yd (u8 rfl rfl))).trans ((zc (yd (zev rfl))).trans rfl)
 ·rw[decide_eq_false he] at e1 e2
  exact (zc (yd (zev e1))).trans ((zc (yd (u8 e2 (w_nt (bb:=true) (zi rfl (hc he)))))).trans rfl)
theorem znx{x y:PyData}(hO:∀ b∈O,ShyB badF b)(hx:Shy badF x)(hy:Shy badF y):ShyS badF (RP m cs q.toD (some (.d x)) (some (.d y))) O:=ku (.int _) (ku (yg jd cs) (ku (y4 jd q) (ku hx (ku hy (zc8 hO)))))
theorem qz(hm:m4 m)(h4:m≤4)(hO:∀ b∈O,ShyB badF b):∀ (p:Pl) (cs:Cs),p.fits m cs→Ok12 m cs→cs≠[]→∀ k,zg P table (k+p.hgt+4) false 10 [.d (.int m),.d (.list (zb cs)),.d p.toD] O=.ok (.d (.bool true)) O
 | .no,cs,h,_,hne,_=>absurd h hne
 | .told c,cs,h,hc,_,k=>by
   have h:cs=[c]:=h
   subst h
   have hg:good m c:=hc.good c (.head _)
   exact zq (fn:=c10) (ρ':=RP m [c] (Pl.told c).toD none none) rfl ⟨rfl,by decide⟩ rfl ((zc (yd rfl)).trans (ze ((w_if (bb:=true) (zt rfl rfl q_TT)).trans (ze (yc (u8 rfl (u8 (zi rfl (zd2 (k:=k+1) hm hg)) (zt rfl rfl ((zbh (a:=[c]) (b:=[c])).trans (by rw[decide_eq_true rfl]))))))))))
 | .weigh w a b c,cs,h,hc,hne,k=>by
   obtain⟨hw,_,ha,hb,hd⟩:=h
   have up:∀ {p:Pl} {o:Int},p.fits m (zf w o cs)→p.hgt≤max a.hgt (max b.hgt c.hgt)→(Ok12 m (zf w o cs)→zf w o cs≠[]→∀ k,zg P table (k+p.hgt+4) false 10 [.d (.int m),.d (.list (zb (zf w o cs))),.d p.toD] O=.ok (.d (.bool true)) O)→zf w o cs≠[]→zg P table (k+max a.hgt (max b.hgt c.hgt)+4) false 10 [.d (.int m),.d (.list (zb (zf w o cs))),.d p.toD] O=.ok (.d (.bool true)) O:=fun {p o} hp hle ih hn=>by
    have:=ih (hc.part w o) hn (k+(max a.hgt (max b.hgt c.hgt) - p.hgt))
    rwa [show k+(max a.hgt (max b.hgt c.hgt) - p.hgt)+p.hgt+4=k+max a.hgt (max b.hgt c.hgt)+4 by omega] at this
   have u1:=up ha (Nat.le_max_left _ _) (qz hm h4 hO a _ ha)
   have u2:=up hb (Nat.le_trans (Nat.le_max_left _ _) (Nat.le_max_right _ _)) (qz hm h4 hO b _ hb)
   have u3:=up hd (Nat.le_trans (Nat.le_max_right _ _) (Nat.le_max_right _ _)) (qz hm h4 hO c _ hd)
   have hw':w∈wsI m:=List.mem_flatMap.mpr ⟨w,hw,.head _⟩
   have hz:ZOk badF .lst .tup (zb4 w cs) [a.toD,b.toD,c.toD]:=⟨rfl,.list fun x hx=>by
    rcases List.mem_cons.mp hx with rfl | hx
    ·exact yg jd _
    rcases List.mem_cons.mp hx with rfl | hx
    ·exact yg jd _
    ·rw[List.mem_singleton.mp hx];exact yg jd _,ql jd (y4 jd a) (y4 jd b) (y4 jd c),.inl rfl,fun i x y hx _=>by
    have hx:=List.mem_of_getElem? hx
    rcases List.mem_cons.mp hx with rfl | hx
    ·exact .inr ⟨_,_,rfl⟩
    rcases List.mem_cons.mp hx with rfl | hx
    ·exact .inr ⟨_,_,rfl⟩
    ·rw[List.mem_singleton.mp hx];exact .inr ⟨_,_,rfl⟩⟩
   have ef:evS (PG (k+max a.hgt (max b.hgt c.hgt)+4) false) (.forG badF .lst .tup (.two (.name 3) (.name 4)) (.call 9 (.cons (.idx (.loc 2) (.int 1)) (.cons (.loc 1) .nil))) (.idx (.loc 2) (.int 2)) forB) (RP m cs (Pl.weigh w a b c).toD none none) O=.ok .next (RP m cs (Pl.weigh w a b c).toD (some (.d (.list (zb (zf w 1 cs))))) (some (.d c.toD)),O):=by
    rw[ziu (q1:=.lst) (q2:=.tup) rfl (zi rfl (zd1 (k:=k+max a.hgt (max b.hgt c.hgt)+2) hm hw' hc)) rfl hz]
    exact (xc (zbw (ku (.int _) (ku (yg jd cs) (ku (y4 jd (.weigh w a b c)) (zgj (zgj (zc8 hO)))))) ha u1)).trans ((xc (zbw (znx hO (yg jd _) (y4 jd a)) hb u2)).trans ((xc (zbw (znx hO (yg jd _) (y4 jd b)) hd u3)).trans rfl))
   exact zq (fn:=c10) rfl ⟨rfl,by decide⟩ rfl ((zc (yd rfl)).trans ((zc (yd (zt rfl rfl q_WT))).trans ((zc (yd (po (zt rfl rfl n_WW) (po rfl (w_nt (bb:=true) (zi rfl (zsm (k:=k+max a.hgt (max b.hgt c.hgt)+1) hm.1 h4 hw))))))).trans ((zc (yd rfl)).trans ((zc ef).trans (ze (yc rfl)))))))
theorem Pl.solv:∀ (p:Pl) (cs:Cs),p.fits m cs→cs≠[]→solv (dueI m) p.hgt cs=true
 | .no,cs,h,hne=>absurd h hne
 | .told c,cs,h,_=>by have h:cs=[c]:=h;subst h;exact xr rfl
 | .weigh w a b c,cs,h,hne=>by
   obtain⟨hw,_,ha,hb,hd⟩:=h
   have up:∀ {p:Pl} {l:Cs},(l≠[]→Mine.L09.solv (dueI m) p.hgt l=true)→p.hgt≤max a.hgt (max b.hgt c.hgt)→l=[]∨Mine.L09.solv (dueI m) (max a.hgt (max b.hgt c.hgt)) l=true:=fun {p l} ih hle=>by
    by_cases hl:l=[]
    ·exact .inl hl
    ·exact .inr (zgi (ih hl) hle)
   refine v9 hw fun o ho=>?_
   rcases List.mem_cons.mp ho with rfl | ho
   ·exact up (Pl.solv a _ ha) (Nat.le_max_left _ _)
   rcases List.mem_cons.mp ho with rfl | ho
   ·exact up (Pl.solv b _ hb) (Nat.le_trans (Nat.le_max_left _ _) (Nat.le_max_right _ _))
   ·rw[List.mem_singleton.mp ho]
    exact up (Pl.solv c _ hd) (Nat.le_trans (Nat.le_max_right _ _) (Nat.le_max_right _ _))
end
noncomputable def kid(a b c:Pl)(o:Int):Pl:=if o = -1 then a else if o=0 then b else c
noncomputable def Pl.walk:Pl→List Int→List Dn
 | .weigh w a b c,k=>(w.1,w.2,zy w k)::(if zy w k = -1 then a.walk k else if zy w k=0 then b.walk k else c.walk k)
 | _,_=>[]
noncomputable def Pl.down:Pl→List Dn→Pl
 | p,[]=>p
 | .weigh w a b c,d::ds=>if d.2.2 = -1 then a.down ds else if d.2.2=0 then b.down ds else c.down ds
 | p,_::_=>p
theorem u6{w:Wg}{a b c:Pl}{k:List Int}:(Pl.weigh w a b c).walk k=(w.1,w.2,zy w k)::(kid a b c (zy w k)).walk k:=by
 show _::_=_
 unfold kid
 congr 1
 split
 ·rfl
 ·split <;> rfl
theorem zf3{w:Wg}{a b c:Pl}{d:Dn}{ds:List Dn}:(Pl.weigh w a b c).down (d::ds)=(kid a b c d.2.2).down ds:=by
 show (if d.2.2 = -1 then a.down ds else if d.2.2=0 then b.down ds else c.down ds)=_
 unfold kid
 split
 ·rfl
 ·split <;> rfl
theorem x5{w:Wg}{k:List Int}:zy w k∈outs:=by
 rcases zax (ji k w.1 - ji k w.2) with h | h | h
 ·exact (show zy w k = -1 from h) ▸ .head _
 ·exact (show zy w k=0 from h) ▸ .tail _ (.head _)
 ·exact (show zy w k=1 from h) ▸ .tail _ (.tail _ (.head _))
theorem zmd{o:Int}(h:o∈outs) : -1≤o∧o≤1:=by
 rcases List.mem_cons.mp h with rfl | h
 ·decide
 rcases List.mem_cons.mp h with rfl | h
 ·decide
 ·rw[List.mem_singleton.mp h];decide
section
variable{m:Nat}{w:Wg}{a b c p:Pl}{cs so:Cs}{k:List Int}
theorem je(h:(Pl.weigh w a b c).fits m cs){o:Int}(ho:o∈outs):(kid a b c o).fits m (zf w o cs)∧(kid a b c o).hgt < (Pl.weigh w a b c).hgt:=by
 obtain⟨_,_,ha,hb,hc⟩:=h
 have e:(Pl.weigh w a b c).hgt=max a.hgt (max b.hgt c.hgt)+1:=rfl
 rcases List.mem_cons.mp ho with rfl | ho
 ·exact⟨ha,by show a.hgt < _;omega⟩
 rcases List.mem_cons.mp ho with rfl | ho
 ·exact⟨hb,by show b.hgt < _;omega⟩
 ·rw[List.mem_singleton.mp ho];exact⟨hc,by show c.hgt < _;omega⟩
theorem qp{o:Int}{ds:List Dn}:z0 so ((w.1,w.2,o)::ds)=z0 (zf w o so) ds:=by
 unfold z0 zf
 rw[List.filter_filter]
 congr 1
 funext c
 unfold ki
 rw[List.all_cons,Bool.and_comm]
 rfl
theorem zdf{ds es:List Dn}:z0 cs (ds++es)=z0 (z0 cs ds) es:=by
 unfold z0
 rw[List.filter_filter]
 congr 1
 funext c
 unfold ki
 rw[List.all_append,Bool.and_comm]
theorem kx:z0 cs []=cs:=List.filter_eq_self.mpr fun _ _=>rfl
inductive DownR(m:Nat)(p:Pl)(so:Cs)(k:List Int)(ds:List Dn):Prop
 | mk (fit:(p.down ds).fits m (z0 so ds)) (mem:k∈z0 so ds) (hgt:(p.down ds).hgt+ds.length≤p.hgt)
theorem DownR.nil(h:p.fits m so)(hk:k∈so):DownR m p so k []:=by
 have e:p.down []=p:=by cases p <;> rfl
 exact⟨by rw[e,kx];exact h,by rw[kx];exact hk,by rw[e];exact Nat.le_refl _⟩
theorem zf4:∀ (j:Nat) (p:Pl) (so:Cs),p.fits m so→k∈so→DownR m p so k ((p.walk k).take j)
 | 0,p,so,h,hk=>.nil h hk
 | j+1,.no,so,h,hk=>.nil h hk
 | j+1,.told _,so,h,hk=>.nil h hk
 | j+1,.weigh w a b c,so,h,hk=>by
   obtain⟨hf,hh⟩:=je h (x5 (w:=w) (k:=k))
   obtain⟨q1,q2,q3⟩:=zf4 j _ _ hf (mem_part.mpr ⟨hk,rfl⟩)
   rw[u6,List.take_succ_cons]
   refine⟨?_,?_,?_⟩
   ·rw[zf3,qp];exact q1
   ·rw[qp];exact q2
   ·rw[zf3,List.length_cons]
    have q3:(Pl.down (kid a b c (zy w k)) ((Pl.walk (kid a b c (zy w k)) k).take j)).hgt+_≤_:=q3
    show (Pl.down (kid a b c (zy w k)) ((Pl.walk (kid a b c (zy w k)) k).take j)).hgt+_≤_
    omega
theorem v5:∀ (n:Nat) (p:Pl) (so:Cs),p.hgt≤n→p.fits m so→k∈so→z0 so (p.walk k)=[k]∧(p.walk k).length≤p.hgt∧∀ d∈p.walk k,OkD m d∧wu d k=d.2.2
 | n,.no,so,_,h,hk=>by have h:so=[]:=h;subst h;cases hk
 | n,.told c,so,_,h,hk=>by
   have h:so=[c]:=h
   subst h
   rw[List.mem_singleton.mp hk]
   exact⟨kx,Nat.le_refl _,fun _ h=>nomatch h⟩
 | 0,.weigh w a b c,so,hn,_,_=>absurd hn (Nat.not_succ_le_zero _)
 | n+1,.weigh w a b c,so,hn,h,hk=>by
   obtain⟨hf,hh⟩:=je h (x5 (w:=w) (k:=k))
   obtain⟨q1,q2,q3⟩:=v5 n _ _ (by omega) hf (mem_part.mpr ⟨hk,rfl⟩)
   rw[u6]
   refine⟨by rw[qp];exact q1,by rw[List.length_cons];omega,fun d hd=>?_⟩
   rcases List.mem_cons.mp hd with rfl | hd
   ·exact⟨⟨List.mem_flatMap.mpr ⟨w,h.1,.head _⟩,zmd x5⟩,rfl⟩
   ·exact q3 d hd
theorem zct:∀ (n:Nat) (p:Pl) (so:Cs),p.hgt≤n→p.fits m so→so≠[]→∃ k∈so,(p.walk k).length=p.hgt
 | n,.no,so,_,h,hne=>absurd h hne
 | n,.told c,so,_,h,hne=>by
   have h:so=[c]:=h
   subst h
   exact⟨c,.head _,rfl⟩
 | 0,.weigh w a b c,so,hn,_,_=>absurd hn (Nat.not_succ_le_zero _)
 | n+1,.weigh w a b c,so,hn,h,hne=>by
   have e:(Pl.weigh w a b c).hgt=max a.hgt (max b.hgt c.hgt)+1:=rfl
   have hk:∃ o∈outs,(kid a b c o).hgt+1=(Pl.weigh w a b c).hgt∧zf w o so≠[]:=by
    have big:∀ {o:Int},o∈outs→(kid a b c o).hgt+1=(Pl.weigh w a b c).hgt→0 < (kid a b c o).hgt→zf w o so≠[]:=fun ho _ hp he=>by
     have:=(je h ho).1
     rw[he] at this
     rw[Pl.fits_nil this] at hp
     exact absurd hp (Nat.lt_irrefl _)
    by_cases h0:max a.hgt (max b.hgt c.hgt)=0
    ·obtain⟨k,hk⟩:=List.exists_mem_of_ne_nil _ hne
     refine⟨zy w k,x5,?_,fun he=>by have:=(mem_part (w:=w)).mpr ⟨hk,rfl⟩;rw[he] at this;cases this⟩
     have:=(je h (x5 (w:=w) (k:=k))).2
     omega
    ·have:a.hgt=max a.hgt (max b.hgt c.hgt)∨b.hgt=max a.hgt (max b.hgt c.hgt)∨c.hgt=max a.hgt (max b.hgt c.hgt):=by omega
     rcases this with q | q | q
     ·have q':(kid a b c (-1)).hgt=a.hgt:=rfl
      exact⟨-1,.head _,by omega,big (.head _) (by omega) (by omega)⟩
     ·have q':(kid a b c 0).hgt=b.hgt:=rfl
      exact⟨0,.tail _ (.head _),by omega,big (.tail _ (.head _)) (by omega) (by omega)⟩
     ·have q':(kid a b c 1).hgt=c.hgt:=rfl
      exact⟨1,.tail _ (.tail _ (.head _)),by omega,big (.tail _ (.tail _ (.head _))) (by omega) (by omega)⟩
   obtain⟨o,ho,hh,hp⟩:=hk
   obtain⟨k,hk,hl⟩:=zct n (kid a b c o) _ (by omega) (je h ho).1 hp
   obtain⟨hk,hc⟩:=mem_part.mp hk
   refine⟨k,hk,?_⟩
   rw[u6,hc,List.length_cons,hl,hh]
end
theorem q_WW{O:za}:cmpV .eq (.d (.str sW)) (.d (.str sW)) O=.ok (.d (.bool true)) O:=by kernel_rfl
theorem q_TW{O:za}:cmpV .eq (.d (.str sT)) (.d (.str sW)) O=.ok (.d (.bool false)) O:=by kernel_rfl
noncomputable abbrev R12(p0:PyData)(c:List Int)(L:Nat)(h:PyData)(a:Option V):Loc:=[some (.d p0),some (.d (caseD c)),some (.box L),some (.d h),a]
noncomputable def ziv:CSs:=(.cons (.asg (.name 4) (.call 8 (.cons (.idx (.loc 3) (.int 1)) (.cons (.loc 1) .nil)))) (.cons (.expr (.meth .append (.loc 2) (.cons (.tup (.cons (.idx (.loc 3) (.int 1)) (.cons (.loc 4) .nil))) .nil))) (.cons (.asg (.name 3) (.idx (.idx (.loc 3) (.int 2)) (.bin .add (.loc 4) (.int 1)))) .nil)))
noncomputable def wkT(k:Nat)(ρ:Loc)(O:za):R (Loc×za) Bool:=((evE (PG k false) ρ (.cmp .eq (.idx (.loc 3) (.int 0)) (.str (Str.ofString "weigh"))) O).bind fun v O=>opt (truth v) O).lift ρ
section
variable{m k:Nat}{O:za}{c:List Int}{p0:PyData}
theorem zgy{a b d:Pl}{o:Int}(ho:o∈outs):idxV (.d (.tuple [a.toD,b.toD,d.toD])) (.d (.int (o+1))) O=.ok (.d (kid a b d o).toD) O:=by
 rcases List.mem_cons.mp ho with rfl | ho
 ·rfl
 rcases List.mem_cons.mp ho with rfl | ho
 ·rfl
 ·rw[List.mem_singleton.mp ho];rfl
theorem zos(hm:m4 m)(hc:good m c){w:Wg}{a b d:Pl}(hw:w∈dueI m){xs:List PyData}(hl:xs.length < line){x:Option V} :
 evSs (PG (k+1) false) ziv (R12 p0 c O.length (Pl.weigh w a b d).toD x) (O++[Box.lst xs])=.ok .next (R12 p0 c O.length (kid a b d (zy w c)).toD (some (.d (.int (zy w c)))),O++[Box.lst (xs++[dnD (w.1,w.2,zy w c)])]):=by
 have hw':w∈wsI m:=List.mem_flatMap.mpr ⟨w,hw,.head _⟩
 exact (zc (zv (zi (zl (yw rfl rfl rfl) rfl) (zcd (k:=k) hm hw' c hc)) rfl rfl)).trans ((zc (xx (km rfl recN (zl (df (yw rfl rfl rfl) rfl) rfl) (appN hl)))).trans ((zc (zv (yw (yw rfl rfl rfl) (z8 rfl rfl vb) (zgy x5)) rfl rfl)).trans rfl))
theorem zjx(hm:m4 m)(hc:good m c):∀ (n:Nat) (p:Pl) (so:Cs),p.hgt≤n→p.fits m so→c∈so→∀ (t:Nat) (xs:List PyData) (x:Option V),n < t→xs.length+n < line →
 ∃ h x',yx (wkT (k+1)) (fun ρ O=>evSs (PG (k+1) false) ziv ρ O) t (R12 p0 c O.length p.toD x) (O++[Box.lst xs])=.ok .next (R12 p0 c O.length h x',O++[Box.lst (xs++dnsD (p.walk c))])
 | n,.no,so,_,h,hk,_,_,_,_,_=>by have h:so=[]:=h;subst h;cases hk
 | n,.told e,so,_,h,hk,0,_,_,ht,_=>absurd ht (Nat.not_lt_zero _)
 | n,.told e,so,_,h,hk,t+1,xs,x,_,_=>by
   refine⟨(Pl.told e).toD,x,?_⟩
   have et:wkT (k+1) (R12 p0 c O.length (Pl.told e).toD x) (O++[Box.lst xs])=.ok false (R12 p0 c O.length (Pl.told e).toD x,O++[Box.lst xs]):=by
    have e1:evE (PG (k+1) false) (R12 p0 c O.length (Pl.told e).toD x) (.cmp .eq (.idx (.loc 3) (.int 0)) (.str (Str.ofString "weigh"))) (O++[Box.lst xs])=.ok (.d (.bool false)) (O++[Box.lst xs]):=zt (yw rfl rfl rfl) rfl q_TW
    unfold wkT
    rw[e1];rfl
   rw[yx,et]
   show R.ok Fl.next (R12 p0 c O.length (Pl.told e).toD x,O++[Box.lst xs])=_
   rw[show dnsD ((Pl.told e).walk c)=[] from rfl,List.append_nil]
 | 0,.weigh w a b d,so,hn,_,_,_,_,_,_,_=>absurd hn (Nat.not_succ_le_zero _)
 | n+1,.weigh w a b d,so,hn,h,hk,0,_,_,ht,_=>absurd ht (Nat.not_lt_zero _)
 | n+1,.weigh w a b d,so,hn,h,hk,t+1,xs,x,ht,hl=>by
   obtain⟨hf,hh⟩:=je h (x5 (w:=w) (k:=c))
   obtain⟨h',x',e⟩:=zjx hm hc n _ _ (by omega) hf (mem_part.mpr ⟨hk,rfl⟩) t (xs++[dnD (w.1,w.2,zy w c)]) (some (.d (.int (zy w c)))) (by omega) (by rw[List.length_append,List.length_singleton];omega)
   refine⟨h',x',?_⟩
   have et:wkT (k+1) (R12 p0 c O.length (Pl.weigh w a b d).toD x) (O++[Box.lst xs])=.ok (!false) (R12 p0 c O.length (Pl.weigh w a b d).toD x,O++[Box.lst xs]):=by
    have e1:evE (PG (k+1) false) (R12 p0 c O.length (Pl.weigh w a b d).toD x) (.cmp .eq (.idx (.loc 3) (.int 0)) (.str (Str.ofString "weigh"))) (O++[Box.lst xs])=.ok (.d (.bool true)) (O++[Box.lst xs]):=zt (yw rfl rfl rfl) rfl q_WW
    unfold wkT
    rw[e1];rfl
   rw[yx,et]
   refine (zgf (zos hm hc h.1 (by omega))).trans (e.trans ?_)
   rw[u6,List.append_assoc];rfl
theorem zkq{p:Pl}{so:Cs}(hm:m4 m)(hc:good m c)(hf:p.fits m so)(hk:c∈so)(hh:p.hgt≤11):zg P table (k+2) false 12 [.d p.toD,.d (caseD c)] O=.ok (.d (.list (dnsD (p.walk c)))) O:=by
 obtain⟨h,x,e⟩:=zjx (k:=k) (O:=O) (p0:=p.toD) hm hc 11 p so hh hf hk 200 [] none (by decide) (by decide)
 have ew:evS (PG (k+1) false) (.while_ (.cmp .eq (.idx (.loc 3) (.int 0)) (.str (Str.ofString "weigh"))) ziv) (R12 p.toD c O.length p.toD none) (O++[Box.lst []])=_:=e
 exact zbj (fn:=c12) rfl ⟨rfl,by decide⟩ rfl rfl ((zc (zv (v:=.box O.length) (O':=O++[Box.lst []]) rfl rfl rfl)).trans ((zc (zv rfl rfl rfl)).trans ((zc ew).trans (ze (yc rfl)))))
end
theorem zkx{m k:Nat}{so:Cs}{p:Pl}{O:za}(hm:m4 m)(h4:m≤4)(hO:∀ b∈O,ShyB badF b)(f:Found m so)(hp:p.fits m so)(hh:p.hgt≤11):zg P table (k+16) false 11 [.d (.int m),.d (.list (zb so)),.d p.toD] O=.ok (.d (.bool true)) O:=by
 have e:=qz hm h4 hO p so hp ⟨f.good,f.le⟩ (List.length_pos_iff.mp f.pos) (k+11 - p.hgt)
 rw[show k+11 - p.hgt+p.hgt+4=k+15 by omega] at e
 exact zq (fn:=c11) (ρ':=[some (.d (.int m)),some (.d (.list (zb so))),some (.d p.toD)]) rfl ⟨rfl,by decide⟩ rfl ((zc (xx (zi rfl (zku (k:=k+12) hm f (.d _))))).trans (ze (yc (zi rfl e))))
theorem Found.open_{m:Nat}{cs:Cs}{ds:List Dn}(f:Found m cs)(h:z0 cs ds≠[]):Found m (z0 cs ds):=⟨fun c hc=>f.good c (List.mem_filter.mp hc).1,f.nodup.sublist List.filter_sublist,List.length_pos_iff.mpr h,Nat.le_trans (List.length_filter_le _ _) f.le⟩
theorem kb{cs:Cs}{q:Nat}{ρ:Loc}{O:za}{a:CE}(h:cs.length≤12)(ha:evE (PG q false) ρ a O=.ok (.d (.list (zb cs))) O):evE (PG q false) ρ (.prim .list (.cons a .nil)) O=.ok (.d (.list (zb cs))) O:=
 yt rfl ha (vn (x:=.list (zb cs)) rfl (if_pos (by rw[zz];exact Nat.le_trans h (by decide))))
noncomputable abbrev R32(m:Nat)(so:Cs)(p:Pl)(rs:List Dn)(a b:Option V):Loc:=[some (.d (.int m)),some (.d (.list (zb so))),some (.d p.toD),some (.d (.list (dnsD rs))),a,b,none]
noncomputable def ze9:CSs:=(.cons (.asg (.name 2) (.idx (.idx (.loc 2) (.int 2)) (.bin .add (.loc 5) (.int 1)))) (.cons (.asg (.name 1) (.comp (.loc 6) (.name 6) (.e (.loc 1)) (.cons (.cmp .eq (.call 26 (.cons (.loc 4) (.cons (.loc 6) .nil))) (.loc 5)) .nil))) .nil))
section
variable{m k:Nat}{O:za}{c:List Int}{so:Cs}{rs:List Dn}
theorem zlz(hm:m4 m)(h:Ok12 m so){w:Wg}{a b d:Pl}(hw:w∈dueI m){o:Int}(ho:o∈outs){x y:Option V} :
 yj (PG (k+1) false) (.two (.name 4) (.name 5)) ze9 (dnD (w.1,w.2,o)) (R32 m so (Pl.weigh w a b d) rs x y) O=.ok .next (R32 m (zf w o so) (kid a b d o) rs (some (.d (wD w))) (some (.d (.int o))),O):=by
 have hw':w∈wsI m:=List.mem_flatMap.mpr ⟨w,hw,.head _⟩
 have ep:=zkt (k:=k+1) (f:=26) (a:=6) (b:=1) (w:=w) (o:=o) (wx:=.loc 4) (ox:=.loc 5) (ρ:=R32 m so (kid a b d o) rs (some (.d (wD w))) (some (.d (.int o)))) (O:=O) h (zg2 hm hw') rfl rfl (fun _=>rfl) fun _=>rfl
 exact (zc (P:=PG (k+1) false) (ρ:=R32 m so (Pl.weigh w a b d) rs (some (.d (wD w))) (some (.d (.int o)))) (zv (yw (yw rfl rfl rfl) (z8 rfl rfl vb) (zgy ho)) rfl rfl)).trans ((zc (zv ep rfl rfl)).trans rfl)
theorem zgs(hm:m4 m){zs:List PyData}:∀ (j:Nat) (p:Pl) (so:Cs),Ok12 m so→p.fits m so→c∈so→∀ x y:Option V,
 ∃ x' y',z6 (.plain zs) (yj (PG (k+1) false) (.two (.name 4) (.name 5)) ze9) (dnsD ((p.walk c).take j)) (R32 m so p rs x y) O=.ok .next (R32 m (z0 so ((p.walk c).take j)) (p.down ((p.walk c).take j)) rs x' y',O)
 | 0,p,so,_,_,_,x,y=>⟨x,y,by
   have e:p.down []=p:=by cases p <;> rfl
   show R.ok Fl.next (R32 m so p rs x y,O)=.ok .next (R32 m (z0 so []) (p.down []) rs x y,O)
   rw[kx,e]⟩
 | j+1,.no,so,_,h,hk,x,y=>by have h:so=[]:=h;subst h;cases hk
 | j+1,.told e,so,_,_,_,x,y=>⟨x,y,by
   show R.ok Fl.next (R32 m so (.told e) rs x y,O)=.ok .next (R32 m (z0 so []) (.told e) rs x y,O)
   rw[kx]⟩
 | j+1,.weigh w a b d,so,h12,h,hk,x,y=>by
   obtain⟨hf,_⟩:=je h (x5 (w:=w) (k:=c))
   obtain⟨x',y',e⟩:=zgs hm (zs:=zs) j _ _ (h12.part w (zy w c)) hf (mem_part.mpr ⟨hk,rfl⟩) (some (.d (wD w))) (some (.d (.int (zy w c))))
   refine⟨x',y',?_⟩
   rw[u6,List.take_succ_cons,qp,zf3]
   exact (xc (zlz hm h12 h.1 x5)).trans e
theorem zm4{p:Pl}{j:Nat}(hm:m4 m)(h4:m≤4)(hO:∀ b∈O,ShyB badF b)(f:Found m so)(hf:p.fits m so)(hk:c∈so)(hh:p.hgt≤11):zg P table (k+17) false 32 [.d (.int m),.d (.list (zb so)),.d p.toD,.d (.list (dnsD ((p.walk c).take j)))] O=.ok (.d (.bool true)) O:=by
 obtain⟨x,y,e⟩:=zgs (k:=k+15) (O:=O) (rs:=(p.walk c).take j) (zs:=dnsD ((p.walk c).take j)) hm j p so ⟨f.good,f.le⟩ hf hk none none
 obtain⟨q1,q2,q3⟩:=zf4 (m:=m) j p so hf hk
 have f':Found m (z0 so ((p.walk c).take j)):=f.open_ (List.ne_nil_of_mem q2)
 have ef:evS (PG (k+16) false) (.for_ (.two (.name 4) (.name 5)) (.e (.loc 3)) ze9) (R32 m so p ((p.walk c).take j) none none) O=.ok .next (R32 m (z0 so ((p.walk c).take j)) (p.down ((p.walk c).take j)) ((p.walk c).take j) x y,O):=by
  rw[q9,if_neg Bool.false_ne_true]
  exact e
 exact zq (fn:=c32) rfl ⟨rfl,by decide⟩ rfl ((zc ef).trans (ze (yc (zt (zi (zl rfl (zl (kb f'.le rfl) rfl)) (zkx (k:=k) hm h4 hO f' q1 (by omega))) rfl rfl))))
end
theorem zaw{P:Pg}{ρ:Loc}{O:za}{a b:CE}{i:Nat}{xs:List PyData}(h:xs.length≤line)(ha:evE P ρ a O=.ok (.d (.list xs)) O)(hb:evE P ρ b O=.ok (.d (.int (i:Int))) O):evE P ρ (.slice a .none b) O=.ok (.d (.list (xs.take i))) O:=by
 have hc:clipAt xs.length (i:Int)=min i xs.length:=by
  have:=clipAt_cast xs.length (i:Int)
  rw[if_neg (by omega)] at this
  omega
 rw[zgb,ha,zr,show evE P ρ .none O=.ok (.d .none) O from rfl,zr,hb,zr]
 show opt ((jj xs .none (.int (i:Int))).map V.d) O=_
 unfold jj
 rw[if_pos h]
 show R.ok (V.d (.list (vi xs 0 (clipAt xs.length (i:Int))))) O=_
 rw[hc]
 unfold vi
 rw[List.drop_zero,Nat.sub_zero,List.take_eq_take_min (i:=i)]
theorem zd4{ds:List Dn}{i:Nat}:(dnsD ds).take i=dnsD (ds.take i):=by unfold dnsD;rw[List.map_take]
theorem zha{ds es:List Dn}:dnsD ds++dnsD es=dnsD (ds++es):=by unfold dnsD;rw[List.map_append]
noncomputable def y7(ns:List Nat):List PyData:=ns.map fun n:Nat=>PyData.int (n:Int)
theorem za8:∀ ns:List Nat,intsOf (y7 ns)=some (ns.map fun n:Nat=>(n:Int))
 | []=>rfl
 | n::ns=>by
   show (intsOf (y7 ns)).map ((n:Int)::·)=_
   rw[za8 ns];rfl
theorem zqh{P:Pg}{ρ:Loc}{O:za}{a:CE}{v:V}{ns:List Nat}{M:Int}(hd:P.hd=false)(h:evE P ρ a O=.ok v O)(hv:look O v=some (.list (y7 ns)))(hM:maxI (ns.map fun n:Nat=>(n:Int))=some M):evE P ρ (.maxL a) O=.ok (.d (.int M)) O:=by
 show (if P.hd=true then .stuck else (evE P ρ a O).bind fun v O=>opt (((look O v).bind (ofList gs)).map V.d) O:R za V)=_
 rw[if_neg (by rw[hd];decide),h]
 show opt (((look O v).bind (ofList gs)).map V.d) O=_
 rw[hv]
 show opt ((gs (y7 ns)).map V.d) O=_
 unfold gs
 rw[za8]
 show opt (((maxI (ns.map fun n:Nat=>(n:Int))).map PyData.int).map V.d) O=_
 rw[hM];rfl
theorem zph{ns:List Nat}{N:Nat}(h1:N∈ns)(h2:∀ n∈ns,n≤N):maxI (ns.map fun n:Nat=>(n:Int))=some (N:Int):=by
 cases ns with
 | nil=>cases h1
 | cons a r=>
   show some ((r.map fun n:Nat=>(n:Int)).foldl max (a:Int))=_
   obtain⟨g1,g2,g3⟩:=zb7 (r.map fun n:Nat=>(n:Int)) (a:Int)
   congr 1
   have up:(r.map fun n:Nat=>(n:Int)).foldl max (a:Int)≤N:=by
    rcases g1 with g1 | g1
    ·rw[g1];exact Int.ofNat_le.mpr (h2 a (.head _))
    ·obtain⟨n,hn,e⟩:=List.mem_map.mp g1
     rw[← e];exact Int.ofNat_le.mpr (h2 n (.tail _ hn))
   refine Int.le_antisymm up ?_
   rcases List.mem_cons.mp h1 with rfl | h1
   ·exact g2
   ·exact g3 _ (List.mem_map.mpr ⟨N,h1,rfl⟩)
noncomputable abbrev RW(s:List Int)(m:Nat)(cs:Cs)(ds:List Dn)(so:Cs)(t:PyData)(n:Nat)(a b c:Option V):Loc:=[some (.d (.list (s.map .int))),some (.d (.int m)),some (.d (.list (zb cs))),some (.d (.list (dnsD ds))),some (.d (.list (zb so))),some (.d t),some (.d (.int (n:Int))),some (.box 0),a,b,c,none]
noncomputable def lawB:CSs:=(.cons (.asg (.name 9) (.call 12 (.cons (.idx (.loc 5) (.int 1)) (.cons (.loc 8) .nil)))) (.cons (.expr (.meth .append (.loc 7) (.cons (.prim .len (.cons (.loc 9) .nil)) .nil))) (.cons (.ife (.or_ (.cmp .ne (.comp (.loc 11) (.name 11) (.e (.loc 9)) (.cons (.cmp .ne (.idx (.loc 11) (.int 1)) (.call 26 (.cons (.idx (.loc 11) (.int 0)) (.cons (.loc 8) .nil)))) .nil)) (.list .nil)) (.cmp .gt (.prim .len (.cons (.loc 9) .nil)) (.loc 6))) (.cons (.ret (.bool false)) .nil) .nil) (.cons (.ife (.cmp .ne (.call 14 (.cons (.loc 1) (.cons (.prim .list (.cons (.loc 2) .nil)) (.cons (.bin .add (.loc 3) (.loc 9)) .nil)))) (.list (.cons (.loc 8) .nil))) (.cons (.ret (.bool false)) .nil) .nil) (.cons (.asg (.name 10) (.bin .mod (.call 25 (.cons (.loc 0) (.cons (.int 20) .nil))) (.bin .add (.prim .len (.cons (.loc 9) .nil)) (.int 1)))) (.cons (.ife (.nt (.call 32 (.cons (.loc 1) (.cons (.loc 4) (.cons (.idx (.loc 5) (.int 1)) (.cons (.slice (.loc 9) .none (.loc 10)) .nil)))))) (.cons (.ret (.bool false)) .nil) .nil) (.cons (.ife (.cmp .gt (.call 23 (.cons (.loc 1) (.cons (.prim .list (.cons (.loc 2) .nil)) (.cons (.bin .add (.loc 3) (.slice (.loc 9) .none (.loc 10))) .nil)))) (.bin .sub (.loc 6) (.loc 10))) (.cons (.ret (.bool false)) .nil) .nil) .nil)))))))
theorem zjl{a b:Cs}{O:za}:cmpV .ne (.d (.list (zb a))) (.d (.list (zb b))) O=.ok (.d (.bool (!decide (a=b)))) O:=by
 rw[v_ne]
 show opt (Option.map _ (if eqOk (.list (zb a)) (.list (zb b))=true then some (!PyData.eqvAll (zb a) (zb b)) else none)) O=_
 rw[if_pos (qy (xm a) (xm b) (Nat.le_trans (Lay.list (kc b)).depth (by decide))),x4];rfl
section
variable{m k n:Nat}{cs so:Cs}{ds:List Dn}{s:List Int}{p:Pl}{c:List Int}
structure Ctx(s:List Int)(m:Nat)(cs so:Cs)(ds:List Dn)(p:Pl)(n:Nat):Prop where
 hs:s.length≤63
 hm:m4 m
 h4:m≤4
 f:Found m cs
 hd:∀ d∈ds,OkD m d
 hdl:ds.length≤3
 hS:z0 cs ds=so
 hne:so≠[]
 hp:Pw (dueI m) so
 hl:Least (dueI m) n so
 hn:n≤11
 fit:p.fits m so
 hgt:p.hgt=n
noncomputable abbrev tD(p:Pl)(h:PyData):PyData:=.tuple [.str (Str.ofString "plan"),p.toD,h]
theorem Ctx.dns(C:Ctx s m cs so ds p n)(hc:c∈so)(j:Nat):Dns m (ds++(p.walk c).take j):=by
 obtain⟨q1,q2,q3⟩:=v5 (m:=m) 11 p so (by have:=C.hgt;have:=C.hn;omega) C.fit hc
 refine⟨fun d hd=>?_,?_⟩
 ·rcases List.mem_append.mp hd with hd | hd
  ·exact C.hd d hd
  ·exact (q3 d (List.mem_of_mem_take hd)).1
 ·have:=C.hdl;have:=C.hgt;have:=C.hn
  have:=List.length_take_le' j (p.walk c)
  rw[List.length_append];omega
theorem zju(C:Ctx s m cs so ds p n)(hc:c∈so){j:Nat}(hj:j≤(p.walk c).length){x:PyData}(h:zga m (z0 cs (ds++(p.walk c).take j)) x):∃ n':Nat,x=.int (n':Int)∧n' + j≤n:=by
 rw[zdf,C.hS] at h
 obtain⟨q1,q2,q3⟩:=zf4 (m:=m) j p so C.fit hc
 have hne:=List.ne_nil_of_mem q2
 have hp:Pw (dueI m) (z0 so ((p.walk c).take j)):=List.Pairwise.sublist List.filter_sublist C.hp
 cases h with
 | none h _=>exact (h.elim hne fun h=>h hp).elim
 | some n' _ _ hl e=>
   refine⟨n',e,?_⟩
   have hs:=Pl.solv _ _ q1 hne
   have:n'≤(p.down ((p.walk c).take j)).hgt:=Nat.le_of_not_lt fun h=>by have:=hl.no _ h;rw[hs] at this;cases this
   have hl':((p.walk c).take j).length=j:=by rw[List.length_take];omega
   have:=C.hgt
   omega
theorem shyN{Bd:List PyData→Prop}{ns:List Nat}:∀ b∈[Box.lst (y7 ns)],ShyB Bd b:=fun b hb=>by
 rw[List.mem_singleton.mp hb]
 exact fun x hx=>by obtain⟨i,_,rfl⟩:=List.mem_map.mp hx;exact .int _
theorem zrd(C:Ctx s m cs so ds p n)(hc:c∈so){h:PyData}{ns:List Nat}(hl:ns.length < 100){x y z:Option V} :
 ∃ z',yj (PG (k+37) false) (.name 8) lawB (caseD c) (RW s m cs ds so (tD p h) n x y z) [Box.lst (y7 ns)]=.ok .next (RW s m cs ds so (tD p h) n (some (.d (caseD c))) (some (.d (.list (dnsD (p.walk c))))) z',[Box.lst (y7 (ns++[(p.walk c).length]))]):=by
 have hh:p.hgt≤11:=C.hgt ▸ C.hn
 have hg:good m c:=C.f.good c (List.mem_filter.mp (show c∈z0 cs ds by rw[C.hS];exact hc)).1
 obtain⟨w1,w2,w3⟩:=v5 (m:=m) 11 p so hh C.fit hc
 have hwl:(dnsD (p.walk c)).length≤line:=by rw[yu];exact Nat.le_trans (Nat.le_trans w2 hh) (by decide)
 have fo:Found m so:=C.hS ▸ C.f.open_ (C.hS ▸ C.hne)
 have hO:y7 ns++[.int ((dnsD (p.walk c)).length:Int)]=y7 (ns++[(p.walk c).length]):=by unfold y7;rw[List.map_append,yu];rfl
 have hnl:(y7 ns).length < line:=by unfold y7;rw[List.length_map];exact Nat.lt_trans hl (by decide)
 have e1:evS (PG (k+37) false) (.asg (.name 9) (.call 12 (.cons (.idx (.loc 5) (.int 1)) (.cons (.loc 8) .nil)))) (RW s m cs ds so (tD p h) n (some (.d (caseD c))) y z) [Box.lst (y7 ns)]=.ok .next (RW s m cs ds so (tD p h) n (some (.d (caseD c))) (some (.d (.list (dnsD (p.walk c))))) z,[Box.lst (y7 ns)]):=
  zv (zi (zl (yw rfl rfl rfl) rfl) (zkq (k:=k+35) (O:=[Box.lst (y7 ns)]) C.hm hg C.fit hc hh)) rfl rfl
 have el:∀ {z:Option V} {O:za},evE (PG (k+37) false) (RW s m cs ds so (tD p h) n (some (.d (caseD c))) (some (.d (.list (dnsD (p.walk c))))) z) (.prim .len (.cons (.loc 9) .nil)) O=.ok (.d (.int ((dnsD (p.walk c)).length:Int))) O:=yt rfl rfl (j9 rfl hwl)
 have e2:evS (PG (k+37) false) (.expr (.meth .append (.loc 7) (.cons (.prim .len (.cons (.loc 9) .nil)) .nil))) (RW s m cs ds so (tD p h) n (some (.d (caseD c))) (some (.d (.list (dnsD (p.walk c))))) z) [Box.lst (y7 ns)]=.ok .next (RW s m cs ds so (tD p h) n (some (.d (caseD c))) (some (.d (.list (dnsD (p.walk c))))) z,[Box.lst (y7 (ns++[(p.walk c).length]))]):=by
  rw[← hO]
  exact xx (km rfl rfl (zl el rfl) (appN (O:=[]) hnl))
 generalize hB:[Box.lst (y7 (ns++[(p.walk c).length]))]=B at e2
 have sP:∀ b∈B,ShyB badP b:=hB ▸ shyN
 have sF:∀ b∈B,ShyB badF b:=hB ▸ shyN
 have hOne:One B:=hB ▸ .one _
 have e3:evE (PG (k+37) false) (RW s m cs ds so (tD p h) n (some (.d (caseD c))) (some (.d (.list (dnsD (p.walk c))))) z) (.comp (.loc 11) (.name 11) (.e (.loc 9)) (.cons (.cmp .ne (.idx (.loc 11) (.int 1)) (.call 26 (.cons (.idx (.loc 11) (.int 0)) (.cons (.loc 8) .nil)))) .nil)) B=.ok (.d (.list [])) B:=by
  have:=qj (P:=PG (k+37) false) (ρ:=RW s m cs ds so (tD p h) n (some (.d (caseD c))) (some (.d (.list (dnsD (p.walk c))))) z) (elt:=.loc 11) (tgt:=.name 11) (it:=.e (.loc 9)) (ifs:=.cons (.cmp .ne (.idx (.loc 11) (.int 1)) (.call 26 (.cons (.idx (.loc 11) (.int 0)) (.cons (.loc 8) .nil)))) .nil) (O:=B) (src:=.plain (dnsD (p.walk c))) rfl rfl rfl hwl (fun _=>none) fun x hx=>by
   obtain⟨d,hd,rfl⟩:=List.mem_map.mp hx
   obtain⟨ok,hcm⟩:=w3 d hd
   have e:evE (PG (k+37) false) [some (.d (.list (s.map .int))),some (.d (.int m)),some (.d (.list (zb cs))),some (.d (.list (dnsD ds))),some (.d (.list (zb so))),some (.d (tD p h)),some (.d (.int (n:Int))),some (.box 0),some (.d (caseD c)),some (.d (.list (dnsD (p.walk c)))),z,some (.d (dnD d))] (.cmp .ne (.idx (.loc 11) (.int 1)) (.call 26 (.cons (.idx (.loc 11) (.int 0)) (.cons (.loc 8) .nil)))) B=.ok (.d (.bool false)) B:=by
    refine (zt (yw rfl rfl rfl) (zi (zl (yw rfl rfl rfl) rfl) (zg2 (k:=k+36) (w:=(d.1,d.2.1)) C.hm ok.w c hg)) ne_int).trans ?_
    rw[show zy (d.1,d.2.1) c=d.2.2 from hcm,decide_eq_true rfl];rfl
   show R.bind (xy (PG (k+37) false) [some (.d (.list (s.map .int))),some (.d (.int m)),some (.d (.list (zb cs))),some (.d (.list (dnsD ds))),some (.d (.list (zb so))),some (.d (tD p h)),some (.d (.int (n:Int))),some (.box 0),some (.d (caseD c)),some (.d (.list (dnsD (p.walk c)))),z,some (.d (dnD d))] _ B) _=_
   rw[zcr,e];rfl
  rw[this]
  congr 3
  exact List.filterMap_eq_nil_iff.mpr fun _ _=>rfl
 have e4:evE (PG (k+37) false) (RW s m cs ds so (tD p h) n (some (.d (caseD c))) (some (.d (.list (dnsD (p.walk c))))) z) (.cmp .gt (.prim .len (.cons (.loc 9) .nil)) (.loc 6)) B=.ok (.d (.bool false)) B:=(zt el rfl v_gt).trans (by rw[decide_eq_false (by have:=C.hgt;rw[yu];omega)])
 have hj:(p.walk c).take (p.walk c).length=p.walk c:=List.take_length
 have hDall:Dns m (ds++p.walk c):=by have:=C.dns hc (p.walk c).length;rwa [hj] at this
 have eo:=zf2 (k:=k+32) (O:=B) C.hm C.f hDall (.d _) (.d _)
 rw[zdf,C.hS,w1] at eo
 have ec:∀ {z:Option V},evE (PG (k+37) false) (RW s m cs ds so (tD p h) n (some (.d (caseD c))) (some (.d (.list (dnsD (p.walk c))))) z) (.prim .list (.cons (.loc 2) .nil)) B=.ok (.d (.list (zb cs))) B:=kb C.f.le rfl
 have lna:∀ es:List Dn,es.length≤11→(dnsD ds).length+(dnsD es).length≤line:=fun es he=>by rw[yu,yu];exact Nat.le_trans (Nat.add_le_add C.hdl he) (by decide)
 have ea:evE (PG (k+37) false) (RW s m cs ds so (tD p h) n (some (.d (caseD c))) (some (.d (.list (dnsD (p.walk c))))) z) (.bin .add (.loc 3) (.loc 9)) B=.ok (.d (.list (dnsD (ds++p.walk c)))) B:=(z8 rfl rfl (zj4 (lna _ (Nat.le_trans w2 hh)))).trans (by rw[zha])
 have e5:evE (PG (k+37) false) (RW s m cs ds so (tD p h) n (some (.d (caseD c))) (some (.d (.list (dnsD (p.walk c))))) z) (.cmp .ne (.call 14 (.cons (.loc 1) (.cons (.prim .list (.cons (.loc 2) .nil)) (.cons (.bin .add (.loc 3) (.loc 9)) .nil)))) (.list (.cons (.loc 8) .nil))) B=.ok (.d (.bool false)) B:=
  (zt (zi (zl rfl (zl ec (zl ea rfl))) eo) rfl (zjl (b:=[c]))).trans (by rw[decide_eq_true rfl];rfl)
 have n1:=wp (k:=k+35) (j:=20) (O:=B) C.hs
 obtain⟨j,hjl,ej⟩:=md (mixI s 20) ((p.walk c).length+1) B (Nat.succ_pos _)
 have e6:evS (PG (k+37) false) (.asg (.name 10) (.bin .mod (.call 25 (.cons (.loc 0) (.cons (.int 20) .nil))) (.bin .add (.prim .len (.cons (.loc 9) .nil)) (.int 1)))) (RW s m cs ds so (tD p h) n (some (.d (caseD c))) (some (.d (.list (dnsD (p.walk c))))) z) B=.ok .next (RW s m cs ds so (tD p h) n (some (.d (caseD c))) (some (.d (.list (dnsD (p.walk c))))) (some (.d (.int (j:Int)))),B):=by
  refine zv (z8 (zi rfl n1) (z8 el rfl vb) ?_) rfl rfl
  rw[yu];exact ej
 have es:evE (PG (k+37) false) (RW s m cs ds so (tD p h) n (some (.d (caseD c))) (some (.d (.list (dnsD (p.walk c))))) (some (.d (.int (j:Int))))) (.slice (.loc 9) .none (.loc 10)) B=.ok (.d (.list (dnsD ((p.walk c).take j)))) B:=(zaw hwl rfl rfl).trans (by rw[zd4])
 have e7:evE (PG (k+37) false) (RW s m cs ds so (tD p h) n (some (.d (caseD c))) (some (.d (.list (dnsD (p.walk c))))) (some (.d (.int (j:Int))))) (.nt (.call 32 (.cons (.loc 1) (.cons (.loc 4) (.cons (.idx (.loc 5) (.int 1)) (.cons (.slice (.loc 9) .none (.loc 10)) .nil)))))) B=.ok (.d (.bool false)) B:=
  w_nt (bb:=true) (zi (zl rfl (zl rfl (zl (yw rfl rfl rfl) (zl es rfl)))) (zm4 (k:=k+20) C.hm C.h4 sF fo C.fit hc hh))
 have ea':evE (PG (k+37) false) (RW s m cs ds so (tD p h) n (some (.d (caseD c))) (some (.d (.list (dnsD (p.walk c))))) (some (.d (.int (j:Int))))) (.bin .add (.loc 3) (.slice (.loc 9) .none (.loc 10))) B=.ok (.d (.list (dnsD (ds++(p.walk c).take j)))) B:=(z8 rfl es (zj4 (lna _ (Nat.le_trans (List.length_take_le' _ _) (Nat.le_trans w2 hh))))).trans (by rw[zha])
 obtain⟨x',ex,lx⟩:=zg8 (k:=k) (O:=B) C.hm C.h4 C.f (C.dns hc j) hOne sP
 obtain⟨n',rfl,hn'⟩:=zju C hc (Nat.le_of_lt_succ hjl) lx
 have e8:evE (PG (k+37) false) (RW s m cs ds so (tD p h) n (some (.d (caseD c))) (some (.d (.list (dnsD (p.walk c))))) (some (.d (.int (j:Int))))) (.cmp .gt (.call 23 (.cons (.loc 1) (.cons (.prim .list (.cons (.loc 2) .nil)) (.cons (.bin .add (.loc 3) (.slice (.loc 9) .none (.loc 10))) .nil)))) (.bin .sub (.loc 6) (.loc 10))) B=.ok (.d (.bool false)) B:=
  (zt (zi (zl rfl (zl ec (zl ea' rfl))) ex) (z8 rfl rfl uf) v_gt).trans (by rw[decide_eq_false (by omega)])
 exact⟨_,(zc (P:=PG (k+37) false) (ρ:=RW s m cs ds so (tD p h) n (some (.d (caseD c))) y z) e1).trans ((zc e2).trans ((zc (yd (po ((zt e3 rfl rfl)) e4))).trans ((zc (yd e5)).trans ((zc e6).trans ((zc (yd e7)).trans ((zc (yd e8)).trans rfl))))))⟩
theorem zn3(C:Ctx s m cs so ds p n){h:PyData}{zs:List PyData}:∀ (l:Cs) (ns:List Nat) (x y z:Option V),(∀ c∈l,c∈so)→ns.length+l.length < 100 →
 ∃ x' y' z',z6 (.plain zs) (yj (PG (k+37) false) (.name 8) lawB) (zb l) (RW s m cs ds so (tD p h) n x y z) [Box.lst (y7 ns)]=.ok .next (RW s m cs ds so (tD p h) n x' y' z',[Box.lst (y7 (ns++l.map fun c=>(p.walk c).length))])
 | [],ns,x,y,z,_,_=>⟨x,y,z,by rw[List.map_nil,List.append_nil];rfl⟩
 | c::l,ns,x,y,z,hc,hl=>by
   rw[List.length_cons] at hl
   obtain⟨z',e⟩:=zrd (k:=k) (h:=h) (x:=x) (y:=y) (z:=z) C (hc c (.head _)) (ns:=ns) (by omega)
   obtain⟨x₂,y₂,z₂,e₂⟩:=zn3 C (h:=h) (zs:=zs) l (ns++[(p.walk c).length]) (some (.d (caseD c))) (some (.d (.list (dnsD (p.walk c))))) z' (fun c h=>hc c (.tail _ h)) (by rw[List.length_append,List.length_singleton];omega)
   refine⟨x₂,y₂,z₂,(xc e).trans (e₂.trans ?_)⟩
   rw[List.map_cons,List.append_assoc];rfl
end
section
variable{m k n:Nat}{cs so:Cs}{ds:List Dn}{s:List Int}{p:Pl}
theorem n_NP{O:za}:cmpV .ne (.d (.str (Str.ofString "none"))) (.d (.str (Str.ofString "plan"))) O=.ok (.d (.bool true)) O:=by kernel_rfl
theorem n_AP{O:za}:cmpV .ne (.d (.str (Str.ofString "alike"))) (.d (.str (Str.ofString "plan"))) O=.ok (.d (.bool true)) O:=by kernel_rfl
theorem n_PP{O:za}:cmpV .ne (.d (.str (Str.ofString "plan"))) (.d (.str (Str.ofString "plan"))) O=.ok (.d (.bool false)) O:=by kernel_rfl
theorem Least.eq{ws:List Wg}{a b:Nat}(h1:Least ws a so)(h2:Least ws b so):a=b:=by
 rcases Nat.lt_trichotomy a b with h | h | h
 ·have:=h2.no a h;rw[h1.yes] at this;cases this
 ·exact h
 ·have:=h1.no b h;rw[h2.yes] at this;cases this
noncomputable def endB:CSs:=(.cons (.ife (.cmp .ne (.idx (.loc 5) (.int 0)) (.str (Str.ofString "plan"))) (.cons (.ret (.cmp .is (.loc 6) .none)) .nil) .nil) (.cons (.asg (.name 7) (.boxed (.list .nil))) (.cons (.for_ (.name 8) (.e (.loc 4)) lawB) (.cons (.ret (.cmp .eq (.maxL (.loc 7)) (.loc 6))) .nil))))
noncomputable abbrev RE9(s:List Int)(m:Nat)(cs:Cs)(ds:List Dn)(so:Cs)(t x:PyData):Loc:=[some (.d (.list (s.map .int))),some (.d (.int m)),some (.d (.list (zb cs))),some (.d (.list (dnsD ds))),some (.d (.list (zb so))),some (.d t),some (.d x),none,none,none,none,none]
inductive EndR(r:R (Loc×za) Fl):Prop
 | mk (ρ':Loc) (O':za) (e:r=.ok (.ret (.d (.bool true))) (ρ',O'))
theorem zsn(hs:s.length≤63)(hm:m4 m)(h4:m≤4)(f:Found m cs)(hd:∀ d∈ds,OkD m d)(hdl:ds.length≤3)(hS:z0 cs ds=so){t x:PyData}(ht:zoc m so t)(hx:zga m so x):EndR (evSs (PG (k+37) false) endB (RE9 s m cs ds so t x) []):=by
 cases ht with
 | none hb e=>
   subst e
   cases hx with
   | some n hne hp _ _=>exact (hb.elim hne fun h=>h hp).elim
   | none _ e=>subst e;exact⟨_,_,ze ((w_if (zt (yw rfl rfl rfl) rfl n_NP)).trans ((if_pos rfl).trans (ze (yc (zt rfl rfl rfl)))))⟩
 | alike hb a b e=>
   subst e
   cases hx with
   | some n hne hp _ _=>exact (hb.elim hne fun h=>h hp).elim
   | none _ e=>subst e;exact⟨_,_,ze ((w_if (zt (yw rfl rfl rfl) rfl n_AP)).trans ((if_pos rfl).trans (ze (yc (zt rfl rfl rfl)))))⟩
 | plan n hne hN hp hl y h hy hh e=>
   subst e
   cases hx with
   | none hb _=>exact (hb.elim hne fun h=>h hp).elim
   | some n' _ _ hl' e=>
     obtain rfl:=hl.eq hl'
     subst e
     obtain⟨p,rfl,fit,le⟩:=hy
     have hpn:p.hgt=n:=Nat.le_antisymm le (Nat.le_of_not_lt fun hlt=>by have:=hl.no _ hlt;rw[Pl.solv p so fit hne] at this;cases this)
     have C:Ctx s m cs so ds p n:=⟨hs,hm,h4,f,hd,hdl,hS,hne,hp,hl,hN,fit,hpn⟩
     have hso:so.length≤12:=hS ▸ Nat.le_trans (List.length_filter_le _ _) f.le
     obtain⟨a,b,c,e⟩:=zn3 (k:=k) (h:=h) (zs:=zb so) C so [] none none none (fun _ h=>h) (by rw[List.length_nil];omega)
     rw[List.nil_append] at e
     have ef:evS (PG (k+37) false) (.for_ (.name 8) (.e (.loc 4)) lawB) (RW s m cs ds so (tD p h) n none none none) [Box.lst []]=.ok .next (RW s m cs ds so (tD p h) n a b c,[Box.lst (y7 (so.map fun c=>(p.walk c).length))]):=by
      rw[q9,if_neg Bool.false_ne_true]
      exact e
     have hM:=zph (ns:=so.map fun c=>(p.walk c).length) (N:=n) (by
      obtain⟨c,hc,e⟩:=zct (m:=m) 11 p so (by omega) fit hne
      exact List.mem_map.mpr ⟨c,hc,e.trans hpn⟩) fun q hq=>by
      obtain⟨c,hc,rfl⟩:=List.mem_map.mp hq
      have:=(v5 (m:=m) 11 p so (by omega) fit hc).2.1
      omega
     have em:evE (PG (k+37) false) (RW s m cs ds so (tD p h) n a b c) (.cmp .eq (.maxL (.loc 7)) (.loc 6)) [Box.lst (y7 (so.map fun c=>(p.walk c).length))]=.ok (.d (.bool true)) [Box.lst (y7 (so.map fun c=>(p.walk c).length))]:=(zt (zqh rfl rfl rfl hM) rfl eq_int).trans (by rw[decide_eq_true rfl])
     exact⟨_,_,(zc (yd (zt (yw rfl rfl rfl) rfl n_PP))).trans ((zc (zv (v:=.box 0) (O':=[Box.lst []]) rfl rfl rfl)).trans ((zc ef).trans (ze (yc em))))⟩
theorem zsl(hs:s.length≤63):zg P table (k+38) false 33 [.d (.list (s.map .int))] []=.ok (.d (.bool true)) []:=by
 obtain⟨m,cs,hm,h4,f,e1⟩:=zks (k:=k+34) hs
 obtain⟨ds0,hd0,hdl0,e2⟩:=zqk (k:=k+34) hs hm f
 have e2':evE (PG (k+37) false) [some (.d (.list (s.map .int))),some (.d (.int m)),some (.d (.list (zb cs))),none,none,none,none,none,none,none,none,none] (.slice (.call 30 (.cons (.loc 0) (.cons (.int 1) (.cons (.loc 1) (.cons (.loc 2) .nil))))) .none (.int 2)) []=.ok (.d (.list (dnsD (ds0.take 2)))) []:=
  (zaw (i:=2) (by rw[yu];exact Nat.le_trans hdl0 (by decide)) (zi rfl e2) rfl).trans (by rw[zd4])
 have hd:∀ d∈ds0.take 2,OkD m d:=fun d hdm=>hd0 d (List.mem_of_mem_take hdm)
 have hdl:(ds0.take 2).length≤3:=Nat.le_trans (List.length_take_le' _ _) hdl0
 generalize ds0.take 2=ds at e2' hd hdl
 have hD:Dns m ds:=⟨hd,Nat.le_trans hdl (by decide)⟩
 have e3:=zm7 (k:=k+35) (O:=[]) hm f hD
 obtain⟨t,e4,ht⟩:=zqc (k:=k) hm h4 f hD
 obtain⟨x,e5,hx⟩:=zg8 (k:=k) (O:=[]) hm h4 f hD .nil (fun _ h=>nomatch h)
 obtain⟨ρ',O',er⟩:=zsn (k:=k) hs hm h4 f hd hdl rfl ht hx
 have ed:∀ {ρ:Loc},evE (PG (k+37) false) ρ (.loc 3) []=.ok (.d (.list (dnsD ds))) []→evE (PG (k+37) false) ρ (.prim .list (.cons (.loc 3) .nil)) []=.ok (.d (.list (dnsD ds))) []:=fun h=>yt rfl h (vn (x:=.list (dnsD ds)) rfl (if_pos (by rw[yu];exact Nat.le_trans hdl (by decide))))
 refine dz (fn:=c33) (O':=O') rfl ⟨rfl,by decide⟩ rfl ((zc (u7 rfl (zi rfl e1) rfl)).trans ((zc (zv e2' rfl rfl)).trans ((zc (zv (zi rfl e3) rfl rfl)).trans ((zc (zv (zi (zl rfl (zl (kb f.le rfl) (zl (ed rfl) rfl))) e4) rfl rfl)).trans ((zc (zv (zi (zl rfl (zl (kb f.le rfl) (zl (ed rfl) rfl))) e5) rfl rfl)).trans er)))))
end
theorem holds:PySem.Challenge.rw_uf050003_09.Holds:=holds_of fun script h=>⟨_,zsl (k:=23) h⟩
end Mine.L09
end
end
theorem PySem.Challenge.cw_uf050003_09_holds : PySem.Challenge.rw_uf050003_09.Holds :=
  Mine.L09.holds
