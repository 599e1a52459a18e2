/- Exprs: of every definition expr.May answers what the document's reference answers, and leaves it as it was. Condition: sizes that memory can hold. -/
import Derived.Test.YtkpblifelpokfaaExprSame
import Derived.Test.YtkpblifelpokfaaPAllgsleuthlaw5Exprs
namespace Go.Proofs.Ytkpblifelpokfaa.PAll
open Go.RowKit Go.Proofs.YtkpblifelpokfaaW.PrintWords Go.Proofs.YtkpblifelpokfaaW.PrintLast Go.Proofs.YtkpblifelpokfaaW.PrintMore
set_option linter.unusedVariables false
set_option linter.unusedSimpArgs false

theorem Exprs_pure (p : Int) (body : List S33) (h1 : body.length < 2932031007402) (h2 : ∀ x ∈ body, x.f3.length < 17592186044416) : ∃ k, sleuthlaw5_Exprs.f k p body = some true := by
  refine ⟨2932031007402 + 17592186044416 + 300, ?_⟩
  unfold sleuthlaw5_Exprs.f
  rw [CopyDef_eq p body h1 h2 _ (by omega)]
  simp only [Option.bind_some]
  rw [DefMay_eq p body _ (by omega), SameDef_eq p body 17592186044416 (by omega) (fun x hx => Nat.le_of_lt (h2 x hx)) (by omega) _ (by omega), awake5]
  simp [expr_May.f]
end Go.Proofs.Ytkpblifelpokfaa.PAll
