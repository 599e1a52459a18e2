/- sleuthlaw5.ExprForms answers true: its 24 cases. No condition. -/
import Derived.Test.YtkpblifelpokfaaExprFormsa
import Derived.Test.YtkpblifelpokfaaExprFormsb
import Derived.Test.YtkpblifelpokfaaExprFormsc
import Derived.Test.YtkpblifelpokfaaExprFormsd
import Derived.Test.YtkpblifelpokfaaExprFormse
import Derived.Test.YtkpblifelpokfaaExprFormsf
namespace Go.Proofs.Ytkpblifelpokfaa.PAll
open Go.RowKit Go.Proofs.YtkpblifelpokfaaW.PrintWords Go.Proofs.YtkpblifelpokfaaW.PrintLast Go.Proofs.YtkpblifelpokfaaW.PrintMore
theorem u64_pos (a : Int) : 0 ≤ IntKind.u64.wrap a := by
  have e : IntKind.u64.wrap a = a % 18446744073709551616 := by first | rfl | simp [IntKind.wrap, IntKind.bits, IntKind.signed] | exact IntKind.wrap_u64 a
  omega
theorem forms5_runs (a x : Int) (w : World) : Calls Try.prog 4 #[.int .i64 a, .int .i64 x] w fun e w' => e = .returned (.bool true) ∧ Below w.heap.size w w' := by
  have h0 := u64_pos a
  have h1 : (IntKind.u64.wrap a).tmod 24 = IntKind.u64.wrap a % 24 := Int.tmod_eq_emod_of_nonneg h0
  obtain ⟨t, ht⟩ : ∃ t, t = (IntKind.u64.wrap a).tmod 24 := ⟨_, rfl⟩
  have h2 : 0 ≤ t ∧ t < 24 := by rw [ht, h1]; omega
  have : t = 0 ∨ t = 1 ∨ t = 2 ∨ t = 3 ∨ t = 4 ∨ t = 5 ∨ t = 6 ∨ t = 7 ∨ t = 8 ∨ t = 9 ∨ t = 10 ∨ t = 11 ∨ t = 12 ∨ t = 13 ∨ t = 14 ∨ t = 15 ∨ t = 16 ∨ t = 17 ∨ t = 18 ∨ t = 19 ∨ t = 20 ∨ t = 21 ∨ t = 22 ∨ t = 23 := by omega
  rcases this with e | e | e | e | e | e | e | e | e | e | e | e | e | e | e | e | e | e | e | e | e | e | e | e
  · exact form5_0 a x w (ht.symm.trans e)
  · exact form5_1 a x w (ht.symm.trans e)
  · exact form5_2 a x w (ht.symm.trans e)
  · exact form5_3 a x w (ht.symm.trans e)
  · exact form5_4 a x w (ht.symm.trans e)
  · exact form5_5 a x w (ht.symm.trans e)
  · exact form5_6 a x w (ht.symm.trans e)
  · exact form5_7 a x w (ht.symm.trans e)
  · exact form5_8 a x w (ht.symm.trans e)
  · exact form5_9 a x w (ht.symm.trans e)
  · exact form5_10 a x w (ht.symm.trans e)
  · exact form5_11 a x w (ht.symm.trans e)
  · exact form5_12 a x w (ht.symm.trans e)
  · exact form5_13 a x w (ht.symm.trans e)
  · exact form5_14 a x w (ht.symm.trans e)
  · exact form5_15 a x w (ht.symm.trans e)
  · exact form5_16 a x w (ht.symm.trans e)
  · exact form5_17 a x w (ht.symm.trans e)
  · exact form5_18 a x w (ht.symm.trans e)
  · exact form5_19 a x w (ht.symm.trans e)
  · exact form5_20 a x w (ht.symm.trans e)
  · exact form5_21 a x w (ht.symm.trans e)
  · exact form5_22 a x w (ht.symm.trans e)
  · exact form5_23 a x w (ht.symm.trans e)
end Go.Proofs.Ytkpblifelpokfaa.PAll
