/- sleuthlaw6.ProgramForms answers true: its 8 cases. No condition. -/
import Derived.Test.YtkpblifelpokfaaPgmFormsa
import Derived.Test.YtkpblifelpokfaaPgmFormsb
import Derived.Test.YtkpblifelpokfaaPgmFormsc
import Derived.Test.YtkpblifelpokfaaPgmFormsd
import Derived.Test.YtkpblifelpokfaaPgmFormse
namespace Go.Proofs.Ytkpblifelpokfaa.PAll
open Go.RowKit Go.Proofs.YtkpblifelpokfaaW.PrintWords Go.Proofs.YtkpblifelpokfaaW.PrintLast Go.Proofs.YtkpblifelpokfaaW.PrintMore
theorem u64_pos (a : Int) : 0 ≤ IntKind.u64.wrap a := by
  have e : IntKind.u64.wrap a = a % 18446744073709551616 := by first | rfl | simp [IntKind.wrap, IntKind.bits, IntKind.signed] | exact IntKind.wrap_u64 a
  omega
theorem forms6_runs (a x : Int) (w : World) : Calls Try.prog 9 #[.int .i64 a, .int .i64 x] w fun e w' => e = .returned (.bool true) ∧ Below w.heap.size w w' := by
  have h0 := u64_pos a
  have h1 : (IntKind.u64.wrap a).tmod 8 = IntKind.u64.wrap a % 8 := Int.tmod_eq_emod_of_nonneg h0
  obtain ⟨t, ht⟩ : ∃ t, t = (IntKind.u64.wrap a).tmod 8 := ⟨_, rfl⟩
  have h2 : 0 ≤ t ∧ t < 8 := by rw [ht, h1]; omega
  have : t = 0 ∨ t = 1 ∨ t = 2 ∨ t = 3 ∨ t = 4 ∨ t = 5 ∨ t = 6 ∨ t = 7 := by omega
  rcases this with e | e | e | e | e | e | e | e
  · exact form6_0 a x w (ht.symm.trans e)
  · exact form6_1 a x w (ht.symm.trans e)
  · exact form6_2 a x w (ht.symm.trans e)
  · exact form6_3 a x w (ht.symm.trans e)
  · exact form6_4 a x w (ht.symm.trans e)
  · exact form6_5 a x w (ht.symm.trans e)
  · exact form6_6 a x w (ht.symm.trans e)
  · exact form6_7 a x w (ht.symm.trans e)
end Go.Proofs.Ytkpblifelpokfaa.PAll
