/- Written by a program of this session (ownprint.py, over the print of the kit): what Go functions compute, each as a Lean function, and that they compute it; some functions by contracts of the session (texts of their own). No condition. -/
import Derived.Test.YtkpblifelpokfaaPAllx0
import Derived.Test.YtkpblifelpokfaaPAllgsleuthref1upTo
namespace Go.Proofs.Ytkpblifelpokfaa.PAll
open Go.RowKit Go.Proofs.YtkpblifelpokfaaW.PrintWords Go.Proofs.YtkpblifelpokfaaW.PrintLast Go.Proofs.YtkpblifelpokfaaW.PrintMore
attribute [local go_sem] max2_int min2_int max_two min_two max_three min_three max_four min_four   -- for this text's walks alone
set_option linter.unusedVariables false
set_option linter.unusedSimpArgs false

/-! ### sleuthref1_NumMay: function 37 -/
def sleuthref1_NumMay.f (a0 : Int) : Option (Bool) := (sleuthref1_upTo.f a0 (-32768) 32767).bind fun t152 => (some t152)
set_option maxHeartbeats 8000000 in
set_option maxRecDepth 100000 in
theorem sleuthref1_NumMay.calls (a0 : Int) (r : Bool) (w : World) (h : sleuthref1_NumMay.f a0 = some r) :
    Calls Try.prog 37 #[.int .i64 a0] w fun e w' => e = .returned (.bool r) ∧ Drawn0 w w' := by
  have H : ((sleuthref1_upTo.f a0 (-32768) 32767).bind fun t152 => (some t152)) = some r := h
  clear h
  replace H := Option.bind_eq_some_iff.mp H
  obtain ⟨t152, A20, H⟩ := H
  replace H : (some t152) = some r := H
  have A2 := Aside0.mk A20
  clear A20
  obtain rfl := Option.some.inj H
  go_enter Try.func37, Try.ntmps37
  go_wp2_with (first | ((with_reducible refine gate_callee (f := 29) rfl ?_); refine goesL_ (some 4) rfl rfl Try.func29 (by kernel_rfl) rfl #[.int .i64 a0, .int .i64 (-32768), .int .i64 32767] rfl (by (try simp only [List.map_toArray, List.map_cons, List.map_nil]); first | done | rfl | (simp only [List.length_drop, List.length_take]; rfl)) ?_; (with_reducible refine (sleuthref1_upTo.calls a0 (-32768) 32767 t152 _ A2.out).mono ?_); rintro e w' ⟨rfl, ⟨nd, rfl⟩⟩; refine ⟨_, rfl, ?_⟩))
  go_ret
  exact ⟨by first | rfl | (simp; done) | (simp [*]; done), by repeat (first | exact Drawn0.refl _ | apply Drawn0.step)⟩


end Go.Proofs.Ytkpblifelpokfaa.PAll
