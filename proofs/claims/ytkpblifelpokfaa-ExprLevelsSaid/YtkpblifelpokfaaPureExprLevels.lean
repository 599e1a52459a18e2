/- ExprLevels: lets in lets may be as deep as levels may be, and the last one's variables are all that is there. No condition. -/
import Derived.Test.YtkpblifelpokfaaExprSame
import Derived.Test.YtkpblifelpokfaaPAllx6
namespace Go.Proofs.Ytkpblifelpokfaa.Pure
open Go.RowKit Go.Proofs.Ytkpblifelpokfaa.PAll Go.Proofs.YtkpblifelpokfaaW.PrintWords Go.Proofs.YtkpblifelpokfaaW.PrintLast

theorem levels_all : ∀ p < 4, ∀ k < 12, ∀ v < 16, sleuthlaw5_ExprLevels.j0 40 ((p : Nat) : Int) ((k : Nat) : Int) ((v : Nat) : Int) = some true := by decide +kernel
theorem ExprLevels : sleuthlaw5_ExprLevels.Pure := by
  intro a0 a1 a2 _ _ _
  refine ⟨40, ?_⟩
  unfold sleuthlaw5_ExprLevels.f
  rw [awake5]
  simp only [Option.bind_some, if_true]
  rw [and15, and15, and3]
  obtain ⟨p, hp⟩ := Int.eq_ofNat_of_zero_le (show 0 ≤ a0 % 4 by omega)
  obtain ⟨k, hk⟩ := Int.eq_ofNat_of_zero_le (show 0 ≤ a1 % 16 by omega)
  obtain ⟨v, hv⟩ := Int.eq_ofNat_of_zero_le (show 0 ≤ a2 % 16 by omega)
  rw [hp, hk, hv, w64 (2 * (k : Int)) (by omega), w64 _ (by omega)]
  by_cases c : 2 * (k : Int) + 1 > 24
  · rw [if_pos c]
    exact levels_all p (by omega) 11 (by omega) v (by omega)
  · rw [if_neg c]
    exact levels_all p (by omega) k (by omega) v (by omega)
end Go.Proofs.Ytkpblifelpokfaa.Pure
