/- ExprParams: of a definition, and of it with a parameter more, expr.May answers what the document's reference answers. No condition. -/
import Derived.Test.YtkpblifelpokfaaExprMask
import Derived.Test.YtkpblifelpokfaaExprLaw
import Derived.Test.YtkpblifelpokfaaPAllgsleuthlaw5ExprParams
namespace Go.Proofs.Ytkpblifelpokfaa.PAll
open Go.RowKit Go.Proofs.YtkpblifelpokfaaW.PrintWords Go.Proofs.YtkpblifelpokfaaW.PrintLast Go.Proofs.YtkpblifelpokfaaW.PrintMore
set_option linter.unusedVariables false
set_option linter.unusedSimpArgs false

theorem ExprParams_pure (p : Int) (body : List S33) : ∃ k, sleuthlaw5_ExprParams.f k p body = some true := by
  refine ⟨300 + 1, ?_⟩
  unfold sleuthlaw5_ExprParams.f
  rw [awake5]
  simp only [Option.bind_some, if_true, expr_May.f]
  have e : ∀ q b, sleuthref1_DefMay.f 300 q b = some (mayB q b) := fun q b => DefMay_eq q b 300 (by omega)
  have a : sleuthlaw5_ExprParams.j0 (300 + 1) true p body (wrap64 (p + 1)) body = some true := by
    simp only [sleuthlaw5_ExprParams.j0, if_true]
    rw [e]
    simp [expr_May.f]
  cases h : mayB p body
  · rw [if_neg (by decide)]; exact a
  · rw [if_pos rfl]
    by_cases c : p ≥ 3
    · rw [show decide (p ≥ 3) = true from decide_eq_true c]; exact a
    · rw [show decide (p ≥ 3) = false from decide_eq_false c]
      simp only [sleuthlaw5_ExprParams.j0]
      rw [if_neg (by decide), e]
      simp [expr_May.f, sleuthlaw0_Num.f, sleuthlaw5_adds.f]
end Go.Proofs.Ytkpblifelpokfaa.PAll
