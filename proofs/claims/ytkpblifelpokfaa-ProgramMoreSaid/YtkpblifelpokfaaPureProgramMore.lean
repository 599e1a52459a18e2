/- ProgramMore: small() with adds() some times more, and with an empty definition or not. No condition. -/
import Derived.Test.YtkpblifelpokfaaExprMask
import Derived.Test.YtkpblifelpokfaaPAllgsleuthlaw6ProgramMore
namespace Go.Proofs.Ytkpblifelpokfaa.Pure
open Go.RowKit Go.Proofs.Ytkpblifelpokfaa.PAll Go.Proofs.YtkpblifelpokfaaW.PrintWords Go.Proofs.YtkpblifelpokfaaW.PrintLast Go.Proofs.YtkpblifelpokfaaW.PrintMore
set_option linter.unusedVariables false

/-- The loop, told of what many & 7 is. -/
def loop : Nat → Int → Bool → Int → List S24 → Option Bool
  | 0, _, _, _, _ => none
  | k + 1, m, bad, i, p => if i < m then ((sleuthlaw6_adds.f).bind fun d => (if p.length < 4398046511104 then loop k m bad (wrap64 (i + 1)) (p ++ [(⟨d.1, d.2⟩ : S24)]) else none)) else (if bad = true then (if p.length < 4398046511104 then ((sleuthlaw0_Num.f 0).bind fun t => (if t = 0 then ((program_May.f (p ++ [(⟨0, ([] : List S33)⟩ : S24)])).bind fun u => some (u == false)) else none)) else none) else ((sleuthlaw0_Num.f 0).bind fun t => (if t = 0 then ((program_May.f p).bind fun u => some (u == decide (wrap64 (2 + m) ≤ 8))) else none)))
theorem loop_eq (a : Int) (bad : Bool) : ∀ (k : Nat) (i : Int) (p : List S24), sleuthlaw6_ProgramMore.l0 k a bad i p = loop k (Go.bits .and .i64 a 7) bad i p
  | 0, _, _ => rfl
  | k + 1, i, p => by
    simp only [sleuthlaw6_ProgramMore.l0, loop, loop_eq a bad k]
theorem loop_true (m : Int) (h0 : 0 ≤ m) (h1 : m < 8) (bad : Bool) : ((sleuthlaw6_small.f).bind fun p => loop 9 m bad 0 p) = some true := by
  have : m = 0 ∨ m = 1 ∨ m = 2 ∨ m = 3 ∨ m = 4 ∨ m = 5 ∨ m = 6 ∨ m = 7 := by omega
  rcases this with rfl | rfl | rfl | rfl | rfl | rfl | rfl | rfl <;> cases bad <;> decide +kernel

theorem ProgramMore : sleuthlaw6_ProgramMore.Pure := by
  intro a b _
  refine ⟨9, ?_⟩
  have e : sleuthlaw6_awake.f = some true := by decide +kernel
  unfold sleuthlaw6_ProgramMore.f
  rw [e, Option.bind_some, if_pos rfl]
  have h := loop_true (Go.bits .and .i64 a 7) (by rw [and7]; omega) (by rw [and7]; omega) b
  simp only [loop_eq]
  exact h
end Go.Proofs.Ytkpblifelpokfaa.Pure
