/- ExprSizes: bodies of up to MaxBody parts may be. No condition. -/
import Derived.Test.YtkpblifelpokfaaExprMask
import Derived.Test.YtkpblifelpokfaaPAllgsleuthlaw5ExprSizes
namespace Go.Proofs.Ytkpblifelpokfaa.Pure
open Go.RowKit Go.Proofs.Ytkpblifelpokfaa.PAll Go.Proofs.YtkpblifelpokfaaW.PrintWords Go.Proofs.YtkpblifelpokfaaW.PrintLast

theorem sizes_all : ∀ k < 16, sleuthlaw5_ExprSizes.l0 40 ((k : Nat) : Int) 0 0 (([] : List (S33)) ++ [(⟨0, 1, 0, ([] : List Int)⟩ : S33)]) = some true := by decide +kernel
theorem ExprSizes : sleuthlaw5_ExprSizes.Pure := by
  intro a0 _
  refine ⟨40, ?_⟩
  unfold sleuthlaw5_ExprSizes.f
  rw [awake5]
  simp only [Option.bind_some, if_true]
  rw [if_pos (by decide), and15]
  obtain ⟨k, hk⟩ := Int.eq_ofNat_of_zero_le (show 0 ≤ a0 % 16 by omega)
  rw [hk]
  exact sizes_all k (by omega)
end Go.Proofs.Ytkpblifelpokfaa.Pure
