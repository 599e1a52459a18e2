/- Programs: of any program that memory can hold, program.May answers what the document's reference answers, of a copy; the copy is the same. No condition but sizes. -/
import Derived.Test.YtkpblifelpokfaaPgmSame
import Derived.Test.YtkpblifelpokfaaPAllgsleuthlaw6Programs
namespace Go.Proofs.Ytkpblifelpokfaa.PAll
open Go.RowKit Go.Proofs.YtkpblifelpokfaaW.PrintWords Go.Proofs.YtkpblifelpokfaaW.PrintLast Go.Proofs.YtkpblifelpokfaaW.PrintMore
set_option linter.unusedVariables false
set_option linter.unusedSimpArgs false

theorem awake6 : sleuthlaw6_awake.f = some true := by decide +kernel

theorem Programs_pure' (B : Nat) (hB : 30000000000000 ≤ B) (l : List S24) (hl : Hold l) : sleuthlaw6_Programs.f (9 * B + 300) l = some true := by
  have hL := hl.1
  unfold sleuthlaw6_Programs.f
  rw [CopyProgram_eq B hB l hl _ (by omega), Option.bind_some, ProgramMay_eq B hB l hl _ (by omega), SameProgram_eq B hB l hl _ (by omega), awake6]
  simp [program_May.f]
theorem Programs_pure (l : List S24) (hl : Hold l) : ∃ k, sleuthlaw6_Programs.f k l = some true := ⟨_, Programs_pure' 30000000000000 (Nat.le_refl _) l hl⟩
end Go.Proofs.Ytkpblifelpokfaa.PAll
