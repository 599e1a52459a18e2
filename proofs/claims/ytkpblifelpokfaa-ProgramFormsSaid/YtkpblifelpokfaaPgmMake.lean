/- What make of so many definitions gives. No condition. -/
import Derived.Test.YtkpblifelpokfaaPgmMany
namespace Go.Proofs.Ytkpblifelpokfaa.PAll
open Go.RowKit Go.Proofs.YtkpblifelpokfaaW.PrintWords Go.Proofs.YtkpblifelpokfaaW.PrintLast Go.Proofs.YtkpblifelpokfaaW.PrintMore
theorem make24 (n : Nat) (hn : n < 16) (W : World) : Sem.run Try.prog (Instr.makeSlice 39 (.int .i64 (9 + (n : Int))) (.int .i64 (9 + (n : Int)))) W = .ok (.slice (some ⟨W.heap.size, 0, none⟩) (9 + n) (9 + n)) (W.alloc (.cells (madeCells #[.int .i64 0, .slice none 0 0] ((9 + n) * 2)) 24)) := by
  have : n = 0 ∨ n = 1 ∨ n = 2 ∨ n = 3 ∨ n = 4 ∨ n = 5 ∨ n = 6 ∨ n = 7 ∨ n = 8 ∨ n = 9 ∨ n = 10 ∨ n = 11 ∨ n = 12 ∨ n = 13 ∨ n = 14 ∨ n = 15 := by omega
  rcases this with rfl | rfl | rfl | rfl | rfl | rfl | rfl | rfl | rfl | rfl | rfl | rfl | rfl | rfl | rfl | rfl <;> first | (show _ = _; kernel_rfl) | rfl
theorem made_many (n : Nat) (hn : n < 16) {W : World} {G : Nat} (h : W.heap[G]? = some (.cells (madeCells #[.int .i64 0, .slice none 0 0] ((9 + n) * 2)) 24 (0, 0))) : Many W G (9 + n) (madeCells #[.int .i64 0, .slice none 0 0] ((9 + n) * 2)) := by
  have : n = 0 ∨ n = 1 ∨ n = 2 ∨ n = 3 ∨ n = 4 ∨ n = 5 ∨ n = 6 ∨ n = 7 ∨ n = 8 ∨ n = 9 ∨ n = 10 ∨ n = 11 ∨ n = 12 ∨ n = 13 ∨ n = 14 ∨ n = 15 := by omega
  have key : ∀ k : Nat, k < 16 → (madeCells #[.int .i64 0, .slice none 0 0] ((9 + k) * 2)).size = (9 + k) * 2 ∧ ∀ i, i < 9 + k → (madeCells #[.int .i64 0, .slice none 0 0] ((9 + k) * 2))[i * 2]? = some (.int .i64 0) ∧ (madeCells #[.int .i64 0, .slice none 0 0] ((9 + k) * 2))[i * 2 + 1]? = some (.slice none 0 0) := by
    intro k hk
    refine ⟨size_madeCells _ _, fun i hi => ⟨?_, ?_⟩⟩
    · have h0 : i * 2 < (9 + k) * 2 := by omega
      have h1 : i * 2 % 2 = 0 := by omega
      simp [madeCells, h0, h1]
    · have h0 : i * 2 + 1 < (9 + k) * 2 := by omega
      have h1 : (i * 2 + 1) % 2 = 1 := by omega
      simp [madeCells, h0, h1]
  obtain ⟨h1, h2⟩ := key n hn
  exact ⟨h, h1, fun i hi => (h2 i hi).1, fun i hi => ⟨_, (h2 i hi).2, .inl rfl⟩⟩
end Go.Proofs.Ytkpblifelpokfaa.PAll
