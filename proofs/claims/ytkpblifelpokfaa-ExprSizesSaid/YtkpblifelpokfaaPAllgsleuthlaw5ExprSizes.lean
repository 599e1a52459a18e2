/- Written by a program of this session (ownprint.py, over the print of the kit): what Go functions compute, each as a Lean function, and that they compute it; some functions by contracts of the session (texts of their own). No condition. -/
import Derived.Test.YtkpblifelpokfaaPAllx0
import Derived.Test.YtkpblifelpokfaaPAllgsleuthlaw0Num
import Derived.Test.YtkpblifelpokfaaExprMay
import Derived.Test.YtkpblifelpokfaaExprAwake
namespace Go.Proofs.Ytkpblifelpokfaa.PAll
open Go.RowKit Go.Proofs.YtkpblifelpokfaaW.PrintWords Go.Proofs.YtkpblifelpokfaaW.PrintLast Go.Proofs.YtkpblifelpokfaaW.PrintMore
attribute [local go_sem] max2_int min2_int max_two min_two max_three min_three max_four min_four   -- for this text's walks alone
set_option linter.unusedVariables false
set_option linter.unusedSimpArgs false

/-! ### sleuthlaw5_ExprSizes: function 6 -/
def sleuthlaw5_ExprSizes.l0 : Nat → Int → Int → Int → List (S33) → Option (Bool)
  | 0, _, _, _, _ => none
  | k + 1, x3, x5, x293000, x293001 => if x5 < x3 then ((some (([(⟨0, 2, 0, ([] : List Int)⟩ : S33), (⟨4, 0, 0, (([wrap64 ((x293001.length : Int) - 1), wrap64 ((wrap64 ((x293001.length : Int) - 1)) + 1)] : List Int))⟩ : S33)] : List (S33)) : List (S33))).bind fun y299 => (if x293001.length + y299.length < 2932031007402 then (sleuthlaw5_ExprSizes.l0 k x3 (wrap64 (x5 + 1)) x293000 (x293001 ++ y299)) else (none))) else ((sleuthlaw0_Num.f 0).bind fun t305 => (if t305 = 0 then ((expr_May.f x293000 x293001).bind fun t306 => (some (t306 == (decide ((wrap64 (1 + (wrap64 (2 * x3)))) ≤ 24))))) else (none)))
def sleuthlaw5_ExprSizes.f (k : Nat) (a0 : Int) : Option (Bool) := (sleuthlaw5_awake.f).bind fun t291 => (if t291 = true then (if ([] : List (S33)).length < 2932031007402 then (sleuthlaw5_ExprSizes.l0 k (Go.bits .and .i64 a0 15) 0 0 (([] : List (S33)) ++ [(⟨0, 1, 0, ([] : List Int)⟩ : S33)])) else (none)) else (none))
theorem sleuthlaw5_ExprSizes.mono_l : ∀ k, (∀ y0 y1 y2 y3, LeO (sleuthlaw5_ExprSizes.l0 k y0 y1 y2 y3) (sleuthlaw5_ExprSizes.l0 (k + 1) y0 y1 y2 y3))
  | 0 => fun _ _ _ _ r h => by simp [sleuthlaw5_ExprSizes.l0] at h
  | k + 1 => by
    have ih0 := sleuthlaw5_ExprSizes.mono_l k
    · intro y0 y1 y2 y3
      unfold sleuthlaw5_ExprSizes.l0
      repeat' first
      | (with_reducible exact ih0 _ _ _ _)
      | (with_reducible exact LeO.refl _)
      | (with_reducible exact LeO.none _)
      | (with_reducible refine LeO.ite ?_ ?_)
      | (with_reducible refine LeO.bind ?_ (fun _ => ?_))
      | exact ih0 _ _ _ _
      | exact LeO.none _
      | refine LeO.ite ?_ ?_
      | refine LeO.bind ?_ (fun _ => ?_)
theorem sleuthlaw5_ExprSizes.mono : ∀ a0 k, LeO (sleuthlaw5_ExprSizes.f k a0) (sleuthlaw5_ExprSizes.f (k + 1) a0) := by
  intro a0 k
  have ih0 := sleuthlaw5_ExprSizes.mono_l k
  unfold sleuthlaw5_ExprSizes.f
  repeat' first
      | (with_reducible exact ih0 _ _ _ _)
      | (with_reducible exact LeO.refl _)
      | (with_reducible exact LeO.none _)
      | (with_reducible refine LeO.ite ?_ ?_)
      | (with_reducible refine LeO.bind ?_ (fun _ => ?_))
      | exact ih0 _ _ _ _
      | exact LeO.none _
      | refine LeO.ite ?_ ?_
      | refine LeO.bind ?_ (fun _ => ?_)
set_option maxHeartbeats 8000000 in
set_option maxRecDepth 100000 in
theorem sleuthlaw5_ExprSizes.calls (k : Nat) (a0 : Int) (r : Bool) (w : World) (h : sleuthlaw5_ExprSizes.f k a0 = some r) :
    Calls Try.prog 6 #[.int .i64 a0] w fun e w' => e = .returned (.bool r) ∧ Below w.heap.size w w' := by
  have hu24 := Try.underlying24
  have hu33 := Try.underlying33
  have HB := Aside0.mk (Below.refl w.heap.size w)
  have H : ((sleuthlaw5_awake.f).bind fun t291 => (if t291 = true then (if ([] : List (S33)).length < 2932031007402 then (sleuthlaw5_ExprSizes.l0 k (Go.bits .and .i64 a0 15) 0 0 (([] : List (S33)) ++ [(⟨0, 1, 0, ([] : List Int)⟩ : S33)])) else (none)) else (none))) = some r := h
  clear h
  replace H := Option.bind_eq_some_iff.mp H
  obtain ⟨t291, A20, H⟩ := H
  replace H : (if t291 = true then (if ([] : List (S33)).length < 2932031007402 then (sleuthlaw5_ExprSizes.l0 k (Go.bits .and .i64 a0 15) 0 0 (([] : List (S33)) ++ [(⟨0, 1, 0, ([] : List Int)⟩ : S33)])) else (none)) else (none)) = some r := H
  have A2 := Aside0.mk A20
  clear A20
  by_cases c3 : t291 = true
  · subst c3
    have H1 : (if ([] : List (S33)).length < 2932031007402 then (sleuthlaw5_ExprSizes.l0 k (Go.bits .and .i64 a0 15) 0 0 (([] : List (S33)) ++ [(⟨0, 1, 0, ([] : List Int)⟩ : S33)])) else (none)) = some r := by rw [if_pos rfl] at H; exact H
    clear H
    have H := H1
    clear H1
    by_cases c4 : ([] : List (S33)).length < 2932031007402
    · rw [if_pos c4] at H
      have LMc4 := Aside0.mk c4
      clear c4
      obtain ⟨y293, hy293⟩ : ∃ y_ : List (S33), y_ = (([] : List (S33)) ++ [(⟨0, 1, 0, ([] : List Int)⟩ : S33)]) := ⟨_, rfl⟩
      replace H : (sleuthlaw5_ExprSizes.l0 k (Go.bits .and .i64 a0 15) 0 0 y293) = some r := by first | (rw [hy293]; with_reducible exact H) | (have H2_ := (Option.bind_some _ _).symm.trans H; rw [hy293]; with_reducible exact H2_) | (have H2_ := (Option.bind_some _ _).symm.trans H; with_reducible exact H2_) | with_reducible exact H | (rw [hy293]; exact H) | exact H
      have Ny293 := Aside0.mk hy293
      clear hy293
      have H' := Aside0.mk H
      clear H
      go_enter Try.func6, Try.ntmps6
      go_wp2_with (first | ((with_reducible refine gate_callee (f := 16) rfl ?_); refine goesL_ (some 7) rfl rfl Try.func16 (by kernel_rfl) rfl #[] rfl (by (try simp only [List.map_toArray, List.map_cons, List.map_nil]); first | done | rfl | (simp only [List.length_drop, List.length_take]; rfl)) ?_; (with_reducible refine (sleuthlaw5_awake.calls  true _ A2.out).mono ?_); rintro e w5 ⟨rfl, hb⟩; refine ⟨_, rfl, ?_⟩; have n0_ := Aside0.mk (below_step (by repeat (first | (with_reducible first | exact HB.out | apply below_alloc | apply pw_below_drewN | apply below_drew1) | exact HB.out)) hb); clear HB; have HB := n0_; clear n0_; (try clear hb); (try clear hb2); (try clear hk); (try clear hi)) | ((with_reducible refine gate_dst (N := 4) rfl ?_); refine box_event ?hg (N := 4) ?hd (cs := #[.int .i64 0, .slice none 0 0]) (t := 24) ?hr ?_; (case hd => rfl); (case hg => rfl); (case hr => first | (go_simp; done) | (go_simp; rfl)); intro gb292 hg w6 hbox hb; have n0_ := Aside0.mk (below_step (by repeat (first | (with_reducible first | exact HB.out | apply below_alloc | apply pw_below_drewN | apply below_drew1) | exact HB.out)) hb); have n1_ := Aside0.mk (hbox); have n2_ := Aside0.mk ((by rw [hg]; exact (below_size (by repeat (first | (with_reducible first | exact HB.out | apply below_alloc | apply pw_below_drewN | apply below_drew1) | exact HB.out))) : w.heap.size ≤ gb292)); have n3_ := Aside0.mk ((by rw [hg]; exact (below_size (by repeat (first | (with_reducible first | exact HB.out | apply below_alloc | apply pw_below_drewN | apply below_drew1) | exact HB.out))) : w.heap.size ≤ gb292)); clear HB; have HB := n0_; have BK292 := n1_; have GW292 := n2_; have GE292 := n3_; clear n0_ n1_ n2_ n3_; clear hb hbox hg; have hcz7_0 : w6.cell? ⟨gb292, 0, none⟩ = some (.int .i64 0) := (blk_cell BK292.out 0).trans rfl; have hcz7_1 : w6.cell? ⟨gb292, 1, none⟩ = some (.slice none 0 0) := (blk_cell BK292.out 1).trans rfl; have hfz7_0 := blk_frozen BK292.out 0; have hfz7_1 := blk_frozen BK292.out 1) | ((with_reducible refine gate_builtin (b := .append) (xs := #[.tmp 12, .tmp 14]) rfl ?_); at_builtin; refine Kd.N_append k33 (w0 := w) w.heap.size rfl (.tmp 12) (.tmp 14) 22 33 (.agg #[(.int .i64 0), (.int .i64 0), (.int .i64 0), (.slice none 0 0)]) 48 rfl Try.underlying22 info33 rfl (by decide) (by omega) (.slice none 0 0) ([] : List (S33)) (⟨0, 1, 0, ([] : List Int)⟩ : S33) [.int .i64 0, .int .i64 1, .int .i64 0, .slice none 0 0] (fun k_ => k_ ≠ gb292) (fun k_ => ((fun k_ => k_ ≠ gb292)) k_ ∧ some k_ ≠ (.slice none 0 0 : Value).ownBlock) rfl rfl ?aP (fun _ hk => hk) ?aF ?aO ?aB ?aS ?aL ?_; (case aP => exact (k33_mkF _ _ (⟨0, 1, 0, ([] : List Int)⟩ : S33) (Nat.le_refl _) (Kd.F_nil _ _ _))); (case aB => exact (by repeat (first | (with_reducible first | exact HB.out | apply below_alloc | apply pw_below_drewN | apply below_drew1 | refine below_set ?_ GE292.out) | exact HB.out))); (case aF => exact (fun k_ hk => Kd.freshB (g := gb292) (o := .cells #[.int .i64 0, .slice none 0 0] 24 (0, 0)) (by (with_reducible repeat (first | refine blk_drewN ?_ _ | refine blk_drew ?_ | refine blk_alloc ?_ _)); exact BK292.out) k_ hk)); (case aO => exact ((Kd.N_nil _ _ _ _ (fun k_ => k_ ≠ gb292)))); (case aS => exact (below_size (by repeat (first | (with_reducible first | exact HB.out | apply below_alloc | apply pw_below_drewN | apply below_drew1 | refine below_set ?_ GE292.out) | exact HB.out)))); (case aL => have := LMc4.out; omega); intro v294 w8 ho hb hg hat; rw [← Ny293.out] at ho; have n0_ := Aside0.mk (blk_grown (g := gb292) (o := .cells #[.int .i64 0, .slice none 0 0] 24 (0, 0)) (by (with_reducible repeat (first | refine blk_drewN ?_ _ | refine blk_drew ?_ | refine blk_alloc ?_ _)); exact BK292.out) hg (by simp [Value.ownBlock])); have n1_ := Aside0.mk (hb); have n2_ := Aside0.mk (ho); clear BK292; clear HB; have BK292 := n0_; have HB := n1_; have HO295 := n2_; clear n0_ n1_ n2_; clear ho hb hg hat; obtain ⟨Ao9, co9, eo9⟩ := Kd.N_slice HO295.out; subst eo9; have hcz10_0 : w8.cell? ⟨gb292, 0, none⟩ = some (.int .i64 0) := (blk_cell BK292.out 0).trans rfl; have hcz10_1 : w8.cell? ⟨gb292, 1, none⟩ = some (.slice none 0 0) := (blk_cell BK292.out 1).trans rfl; have hfz10_0 := blk_frozen BK292.out 0; have hfz10_1 := blk_frozen BK292.out 1))
      go_loopg [5] k (fun kq v5 w' => ∃ (x5_1 : Int) (x293001_1 : List (S33)) (u293001 : Value), v5 = .int .i64 x5_1 ∧ Aside0 (sleuthlaw5_ExprSizes.l0 kq (Go.bits .and .i64 a0 15) x5_1 0 x293001_1 = some r) ∧ Aside0 (kq ≤ k) ∧ Aside0 (Kd.N k33 33 w' w.heap.size (fun k_ => k_ ≠ gb292) u293001 x293001_1) ∧ Aside0 (w'.heap[gb292]? = some (.cells #[.int .i64 0, u293001] 24 (0, 0))) ∧ Aside0 (Below w.heap.size w w'))
      case atStart => exact ⟨(0), (y293), (.slice Ao9 y293.length co9), (by first | rfl | (simp; done) | (simp [*]; done)), H', ⟨Nat.le_refl _⟩, ⟨by (with_reducible repeat (first | apply Kd.N_alloc | apply Kd.N_drewN | apply Kd.N_drew)); exact Kd.N_mono (Kd.N_far (p := ⟨gb292, 1, none⟩) (Kd.N_mono HO295.out (fun k_ hk => (⟨hk, hk⟩ : _ ∧ k_ ≠ gb292))) (fun _ hk => hk.2) (.slice Ao9 y293.length co9)) (fun _ hk => hk.1)⟩, ⟨by (with_reducible repeat (first | refine blk_drewN ?_ _ | refine blk_drew ?_ | refine blk_alloc ?_ _)); refine blk_put (cs := #[.int .i64 0, .slice none 0 0]) ?_ 1 _ rfl; (with_reducible repeat (first | refine blk_drewN ?_ _ | refine blk_drew ?_ | refine blk_alloc ?_ _)); exact BK292.out⟩, ⟨by repeat (first | (with_reducible first | exact HB.out | apply below_alloc | apply pw_below_drewN | apply below_drew1 | refine below_set ?_ GE292.out) | exact HB.out)⟩⟩
      case round =>
        clear H'
        try clear c1
        try clear p2
        try clear c3
        try clear c4
        try clear c6
        try clear hcz10_0
        try clear hcz10_1
        try clear hcz7_0
        try clear hcz7_1
        try clear hfz10_0
        try clear hfz10_1
        try clear hfz7_0
        try clear hfz7_1
        obtain ⟨x5_1, x293001_1, u293001, rfl, HA, HK1, HO_293001, BK292, HB⟩ := hrel
        cases gk with
        | zero => exact absurd HA.out (by simp [sleuthlaw5_ExprSizes.l0])
        | succ k1 =>
          have H := HA.out
          clear HA
          simp only [sleuthlaw5_ExprSizes.l0] at H
          by_cases c11 : x5_1 < (Go.bits .and .i64 a0 15)
          · rw [if_pos c11] at H
            have c11b0 : decide (x5_1 < (Go.bits .and .i64 a0 15)) = true := decide_eq_true c11
            clear c11
            obtain ⟨y296, hy296⟩ : ∃ y_ : List Int, y_ = (([wrap64 ((x293001_1.length : Int) - 1), wrap64 ((wrap64 ((x293001_1.length : Int) - 1)) + 1)] : List Int)) := ⟨_, rfl⟩
            replace H : ((some (([(⟨0, 2, 0, ([] : List Int)⟩ : S33), (⟨4, 0, 0, y296⟩ : S33)] : List (S33)) : List (S33))).bind fun y299 => (if x293001_1.length + y299.length < 2932031007402 then (sleuthlaw5_ExprSizes.l0 k1 (Go.bits .and .i64 a0 15) (wrap64 (x5_1 + 1)) 0 (x293001_1 ++ y299)) else (none))) = some r := by first | (rw [hy296]; with_reducible exact H) | (have H2_ := (Option.bind_some _ _).symm.trans H; rw [hy296]; with_reducible exact H2_) | (have H2_ := (Option.bind_some _ _).symm.trans H; with_reducible exact H2_) | with_reducible exact H | (rw [hy296]; exact H) | exact H
            have Ny296 := Aside0.mk hy296
            clear hy296
            obtain ⟨y299, hy299⟩ : ∃ y_ : List (S33), y_ = (([(⟨0, 2, 0, ([] : List Int)⟩ : S33), (⟨4, 0, 0, y296⟩ : S33)] : List (S33))) := ⟨_, rfl⟩
            replace H : (if x293001_1.length + y299.length < 2932031007402 then (sleuthlaw5_ExprSizes.l0 k1 (Go.bits .and .i64 a0 15) (wrap64 (x5_1 + 1)) 0 (x293001_1 ++ y299)) else (none)) = some r := by first | (rw [hy299]; with_reducible exact H) | (have H2_ := (Option.bind_some _ _).symm.trans H; rw [hy299]; with_reducible exact H2_) | (have H2_ := (Option.bind_some _ _).symm.trans H; with_reducible exact H2_) | with_reducible exact H | (rw [hy299]; exact H) | exact H
            have Ny299 := Aside0.mk hy299
            clear hy299
            by_cases c12 : x293001_1.length + y299.length < 2932031007402
            · rw [if_pos c12] at H
              have LMc12 := Aside0.mk c12
              clear c12
              obtain ⟨y302, hy302⟩ : ∃ y_ : List (S33), y_ = (x293001_1 ++ y299) := ⟨_, rfl⟩
              replace H : (sleuthlaw5_ExprSizes.l0 k1 (Go.bits .and .i64 a0 15) (wrap64 (x5_1 + 1)) 0 y302) = some r := by first | (rw [hy302]; with_reducible exact H) | (have H2_ := (Option.bind_some _ _).symm.trans H; rw [hy302]; with_reducible exact H2_) | (have H2_ := (Option.bind_some _ _).symm.trans H; with_reducible exact H2_) | with_reducible exact H | (rw [hy302]; exact H) | exact H
              have Ny302 := Aside0.mk hy302
              clear hy302
              have H' := Aside0.mk H
              clear H
              have hcz13_0 : wr.cell? ⟨gb292, 0, none⟩ = some (.int .i64 0) := (blk_cell BK292.out 0).trans rfl
              have hcz13_1 : wr.cell? ⟨gb292, 1, none⟩ = some (u293001) := (blk_cell BK292.out 1).trans rfl
              have hfz13_0 := blk_frozen BK292.out 0
              have hfz13_1 := blk_frozen BK292.out 1
              obtain ⟨Ao14, co14, eo14⟩ := Kd.N_slice HO_293001.out
              subst eo14
              go_wp2_with (first | ((with_reducible refine gate_dst (N := 32) rfl ?_); refine Kd.R_lit (Kd.int .i64) _ 3 ?hg (N := 32) ?hd (xs := ([wrap64 ((x293001_1.length : Int) - 1), wrap64 ((wrap64 ((x293001_1.length : Int) - 1)) + 1)] : List Int)) (inner := [.int .i64 (wrap64 ((x293001_1.length : Int) - 1)), .int .i64 (wrap64 ((wrap64 ((x293001_1.length : Int) - 1)) + 1))]) (ok := fun _ => True) (okp := fun _ => True) ?hr ?hp (fun _ hk => hk) trivial (Below.refl _ _) (Nat.le_refl _) (by simp) ?_; (case hd => rfl); (case hg => rfl); (case hr => first | (go_simp; done) | (go_simp; rfl)); (case hp => exact (Reps.one (show Kd.M (Kd.int .i64) _ _ _ (wrap64 ((x293001_1.length : Int) - 1)) [.int .i64 (wrap64 ((x293001_1.length : Int) - 1))] from rfl) (Reps.one (show Kd.M (Kd.int .i64) _ _ _ (wrap64 ((wrap64 ((x293001_1.length : Int) - 1)) + 1)) [.int .i64 (wrap64 ((wrap64 ((x293001_1.length : Int) - 1)) + 1))] from rfl) (Reps.none _ _)))); intro v297 w15 ho16 hb hg_ hnew_; clear hg_ hnew_; (first | rw [← Ny296.out] at ho16 | (simp only [Int.reduceToNat] at ho16; rw [← Ny296.out] at ho16)); have n0_ := Aside0.mk (Kd.N_elder' (by (with_reducible repeat (first | apply Kd.N_alloc | apply Kd.N_drewN | apply Kd.N_drew)); exact HO_293001.out) (Kd.R_base ho16) hb); have n1_ := Aside0.mk (Kd.R_lower ho16 (below_size (by repeat (first | (with_reducible first | exact HB.out | apply below_alloc | apply pw_below_drewN | apply below_drew1 | refine below_set ?_ GE292.out) | exact HB.out)))); have n2_ := Aside0.mk (blk_below (g := gb292) (o := .cells #[.int .i64 0, .slice Ao14 x293001_1.length co14] 24 (0, 0)) (by (with_reducible repeat (first | refine blk_drewN ?_ _ | refine blk_drew ?_ | refine blk_alloc ?_ _)); exact BK292.out) hb); have n3_ := Aside0.mk (below_step (by repeat (first | (with_reducible first | exact HB.out | apply below_alloc | apply pw_below_drewN | apply below_drew1 | refine below_set ?_ GE292.out) | exact HB.out)) hb); clear HO_293001; clear BK292; clear HB; have HO_293001 := n0_; have HO298 := n1_; have BK292 := n2_; have HB := n3_; clear n0_ n1_ n2_ n3_; clear hb ho16; obtain ⟨Ao17, co17, eo17⟩ := Kd.R_slice HO298.out; subst eo17) | ((with_reducible refine gate_dst (N := 34) rfl ?_); refine Kd.N_lit k33 _ 33 ?hg (N' := 34) ?hd (xs := ([(⟨0, 2, 0, ([] : List Int)⟩ : S33), (⟨4, 0, 0, y296⟩ : S33)] : List (S33))) (inner := [.int .i64 0, .int .i64 2, .int .i64 0, .slice none 0 0, .int .i64 4, .int .i64 0, .int .i64 0, .slice Ao17 y296.length co17]) (ok := (fun k_ => some k_ ≠ (.slice Ao14 x293001_1.length co14 : Value).ownBlock ∧ k_ ≠ gb292)) (okp := (fun k_ => some k_ ≠ (.slice Ao14 x293001_1.length co14 : Value).ownBlock ∧ k_ ≠ gb292)) ?hr ?hp (fun _ hk => hk) ((show ∀ k_, w15.heap.size ≤ k_ → (fun k_ => some k_ ≠ (.slice Ao14 x293001_1.length co14 : Value).ownBlock ∧ k_ ≠ gb292) k_ from fun k_ hk => ⟨Kd.fresh' (Kd.N_lt (by (with_reducible repeat (first | apply Kd.N_alloc | apply Kd.N_drewN | apply Kd.N_drew)); exact HO_293001.out)) k_ hk, Kd.freshB (g := gb292) (o := .cells #[.int .i64 0, .slice Ao14 x293001_1.length co14] 24 (0, 0)) (by (with_reducible repeat (first | refine blk_drewN ?_ _ | refine blk_drew ?_ | refine blk_alloc ?_ _)); exact BK292.out) k_ hk⟩) _ (Nat.le_refl _)) (Below.refl _ _) (Nat.le_refl _) (by simp) ?_; (case hd => rfl); (case hg => rfl); (case hr => first | (go_simp; done) | (go_simp; rfl)); (case hp => exact (Reps.c4 (show Kd.FK k33 _ _ (⟨0, 2, 0, ([] : List Int)⟩ : S33) [.int .i64 0, .int .i64 2, .int .i64 0, .slice none 0 0] from (k33_mkF _ _ (⟨0, 2, 0, ([] : List Int)⟩ : S33) (Nat.le_refl _) (Kd.F_nil _ _ _))) (Reps.c4 (show Kd.FK k33 _ _ (⟨4, 0, 0, y296⟩ : S33) [.int .i64 4, .int .i64 0, .int .i64 0, .slice Ao17 y296.length co17] from (k33_mkF _ _ (⟨4, 0, 0, y296⟩ : S33) (Kd.R_reads' (Kd.R_mono (ok' := (fun k_ => some k_ ≠ (.slice Ao14 x293001_1.length co14 : Value).ownBlock ∧ k_ ≠ gb292)) (Kd.R_types (Kd.R_apart' (HO298.out) (Kd.N_typed HO_293001.out) (by decide)) BK292.out (by decide)) (fun k_ hk => ⟨hk.1.2, hk.2⟩))).2.1 (Kd.R_F (Kd.R_mono (ok' := (fun k_ => some k_ ≠ (.slice Ao14 x293001_1.length co14 : Value).ownBlock ∧ k_ ≠ gb292)) (Kd.R_types (Kd.R_apart' (HO298.out) (Kd.N_typed HO_293001.out) (by decide)) BK292.out (by decide)) (fun k_ hk => ⟨hk.1.2, hk.2⟩))))) (Reps.none _ _)))); intro v300 w18 ho19 hb hg_ hnew_; clear hg_ hnew_; (first | rw [← Ny299.out] at ho19 | (simp only [Int.reduceToNat] at ho19; rw [← Ny299.out] at ho19)); have n0_ := Aside0.mk (Kd.N_elder' (by (with_reducible repeat (first | apply Kd.N_alloc | apply Kd.N_drewN | apply Kd.N_drew)); exact HO_293001.out) (Kd.N_base ho19) hb); have n1_ := Aside0.mk (Kd.N_lower ho19 (below_size (by repeat (first | (with_reducible first | exact HB.out | apply below_alloc | apply pw_below_drewN | apply below_drew1 | refine below_set ?_ GE292.out) | exact HB.out)))); have n2_ := Aside0.mk (blk_below (g := gb292) (o := .cells #[.int .i64 0, .slice Ao14 x293001_1.length co14] 24 (0, 0)) (by (with_reducible repeat (first | refine blk_drewN ?_ _ | refine blk_drew ?_ | refine blk_alloc ?_ _)); exact BK292.out) hb); have n3_ := Aside0.mk (below_step (by repeat (first | (with_reducible first | exact HB.out | apply below_alloc | apply pw_below_drewN | apply below_drew1 | refine below_set ?_ GE292.out) | exact HB.out)) hb); clear HO_293001; clear BK292; clear HB; clear HO298; have HO_293001 := n0_; have HO301 := n1_; have BK292 := n2_; have HB := n3_; clear n0_ n1_ n2_ n3_; clear hb ho19; obtain ⟨Ao21, co21, eo21⟩ := Kd.N_slice HO301.out; subst eo21) | ((with_reducible refine gate_builtin (b := .append) (xs := #[.tmp 27, .tmp 34]) rfl ?_); at_builtin; refine Kd.N_append_rows k33 (w0 := w) w.heap.size rfl (.tmp 27) (.tmp 34) 22 33 (.agg #[(.int .i64 0), (.int .i64 0), (.int .i64 0), (.slice none 0 0)]) 48 rfl Try.underlying22 info33 rfl (by decide) (by omega) (.slice Ao14 x293001_1.length co14) x293001_1 y299 _ _ _ (fun k_ => k_ ≠ gb292) (fun k_ => ((fun k_ => k_ ≠ gb292)) k_ ∧ some k_ ≠ (.slice Ao14 x293001_1.length co14 : Value).ownBlock) rfl rfl ?aO ?aR (fun _ hk => hk) ?aF ?aB ?aS ?aL ?_; (case aR => exact (by skip; exact Kd.N_F (Kd.N_mono (ok' := (fun k_ => ((fun k_ => k_ ≠ gb292)) k_ ∧ some k_ ≠ (.slice Ao14 x293001_1.length co14 : Value).ownBlock)) (HO301.out) (fun k_ hk => ⟨hk.2, hk.1⟩)))); (case aB => exact (by repeat (first | (with_reducible first | exact HB.out | apply below_alloc | apply pw_below_drewN | apply below_drew1 | refine below_set ?_ GE292.out) | exact HB.out))); (case aF => exact (fun k_ hk => Kd.freshB (g := gb292) (o := .cells #[.int .i64 0, .slice Ao14 x293001_1.length co14] 24 (0, 0)) (by (with_reducible repeat (first | refine blk_drewN ?_ _ | refine blk_drew ?_ | refine blk_alloc ?_ _)); exact BK292.out) k_ hk)); (case aO => exact (by (with_reducible repeat (first | apply Kd.N_alloc | apply Kd.N_drewN | apply Kd.N_drew)); exact Kd.N_mono HO_293001.out (fun _ hk => hk.1.1))); (case aS => exact (below_size (by repeat (first | (with_reducible first | exact HB.out | apply below_alloc | apply pw_below_drewN | apply below_drew1 | refine below_set ?_ GE292.out) | exact HB.out)))); (case aL => have := LMc12.out; omega); intro v303 w20 ho hb hg hat; rw [← Ny302.out] at ho; have n0_ := Aside0.mk (blk_grown (g := gb292) (o := .cells #[.int .i64 0, .slice Ao14 x293001_1.length co14] 24 (0, 0)) (by (with_reducible repeat (first | refine blk_drewN ?_ _ | refine blk_drew ?_ | refine blk_alloc ?_ _)); exact BK292.out) hg (Kd.N_ne HO_293001.out BK292.out (by decide))); have n1_ := Aside0.mk (Kd.N_afterv (ok := (fun k_ => k_ ≠ gb292)) (by (with_reducible repeat (first | apply Kd.N_alloc | apply Kd.N_drewN | apply Kd.N_drew)); exact Kd.N_mono HO301.out (fun _ hk => ⟨hk.2, hk.1⟩)) hg hat); have n2_ := Aside0.mk (hb); have n3_ := Aside0.mk (ho); clear BK292; clear HO301; clear HB; clear HO_293001; have BK292 := n0_; have HO301 := n1_; have HB := n2_; have HO304 := n3_; clear n0_ n1_ n2_ n3_; clear ho hb hg hat; obtain ⟨Ao22, co22, eo22⟩ := Kd.N_slice HO304.out; subst eo22; have hcz23_0 : w20.cell? ⟨gb292, 0, none⟩ = some (.int .i64 0) := (blk_cell BK292.out 0).trans rfl; have hcz23_1 : w20.cell? ⟨gb292, 1, none⟩ = some (.slice Ao14 x293001_1.length co14) := (blk_cell BK292.out 1).trans rfl; have hfz23_0 := blk_frozen BK292.out 0; have hfz23_1 := blk_frozen BK292.out 1))
              go_roundg k1
              case measure => have := HK1.out; omega
              case rel => exact ⟨(wrap64 (x5_1 + 1)), (y302), (.slice Ao22 y302.length co22), (by first | rfl | (simp; done) | (simp [*]; done)), H', ⟨by have := HK1.out; omega⟩, ⟨by (with_reducible repeat (first | apply Kd.N_alloc | apply Kd.N_drewN | apply Kd.N_drew)); exact Kd.N_mono (Kd.N_far (p := ⟨gb292, 1, none⟩) (Kd.N_mono HO304.out (fun k_ hk => (⟨hk, hk⟩ : _ ∧ k_ ≠ gb292))) (fun _ hk => hk.2) (.slice Ao22 y302.length co22)) (fun _ hk => hk.1)⟩, ⟨by (with_reducible repeat (first | refine blk_drewN ?_ _ | refine blk_drew ?_ | refine blk_alloc ?_ _)); refine blk_put (cs := #[.int .i64 0, .slice Ao14 x293001_1.length co14]) ?_ 1 _ rfl; (with_reducible repeat (first | refine blk_drewN ?_ _ | refine blk_drew ?_ | refine blk_alloc ?_ _)); exact BK292.out⟩, ⟨by repeat (first | (with_reducible first | exact HB.out | apply below_alloc | apply pw_below_drewN | apply below_drew1 | refine below_set ?_ GE292.out) | exact HB.out)⟩⟩
            · rw [if_neg c12] at H
              exact absurd H (by simp)
          · rw [if_neg c11] at H
            have c11b0 : decide (x5_1 < (Go.bits .and .i64 a0 15)) = false := decide_eq_false c11
            clear c11
            replace H := Option.bind_eq_some_iff.mp H
            obtain ⟨t305, A240, H⟩ := H
            replace H : (if t305 = 0 then ((expr_May.f 0 x293001_1).bind fun t306 => (some (t306 == (decide ((wrap64 (1 + (wrap64 (2 * (Go.bits .and .i64 a0 15))))) ≤ 24))))) else (none)) = some r := H
            have A24 := Aside0.mk A240
            clear A240
            by_cases c25 : t305 = 0
            · rw [if_pos c25] at H
              have c25b0 : (t305 == 0) = true := beq_iff_eq.mpr c25
              have c25b1 : (t305 != 0) = false := bne_eq_false_iff_eq.mpr c25
              clear c25
              replace H := Option.bind_eq_some_iff.mp H
              obtain ⟨t306, A260, H⟩ := H
              replace H : (some (t306 == (decide ((wrap64 (1 + (wrap64 (2 * (Go.bits .and .i64 a0 15))))) ≤ 24)))) = some r := H
              have A26 := Aside0.mk A260
              clear A260
              obtain rfl := Option.some.inj H
              go_wp2_with (first | ((with_reducible refine gate_callee (f := 18) rfl ?_); refine goesL_ (some 37) rfl rfl Try.func18 (by kernel_rfl) rfl #[.int .i64 0] rfl (by (try simp only [List.map_toArray, List.map_cons, List.map_nil]); first | done | rfl | (simp only [List.length_drop, List.length_take]; rfl)) ?_; (with_reducible refine (sleuthlaw0_Num.calls 0 t305 _ A24.out).mono ?_); rintro e w' ⟨rfl, ⟨nd, rfl⟩⟩; refine ⟨_, rfl, ?_⟩; have hcz27_0 : wr.cell? ⟨gb292, 0, none⟩ = some (.int .i64 0) := (blk_cell BK292.out 0).trans rfl; have hcz27_1 : wr.cell? ⟨gb292, 1, none⟩ = some (u293001) := (blk_cell BK292.out 1).trans rfl; have hfz27_0 := blk_frozen BK292.out 0; have hfz27_1 := blk_frozen BK292.out 1; obtain ⟨Ao28, co28, eo28⟩ := Kd.N_slice HO_293001.out; subst eo28) | (go_at_call 13; (with_reducible refine (expr_May.calls 0 _ _ x293001_1 t306 _ ?side1 ?side2 A26.out).mono ?_); (case side1 => repeat (first | exact (Kd.N_reads' HO_293001.out).2.2 | (with_reducible refine Kd.C_alloc ?_ _) | (with_reducible refine Kd.C_drewN ?_ _) | (with_reducible refine Kd.C_drew ?_))); (case side2 => exact (Kd.N_reads' HO_293001.out).2.1); rintro e w29 ⟨rfl, hb⟩; have n0_ := Aside0.mk (Kd.N_below (by (with_reducible repeat (first | apply Kd.N_alloc | apply Kd.N_drewN | apply Kd.N_drew)); exact HO_293001.out) hb); have n1_ := Aside0.mk (blk_below (g := gb292) (o := .cells #[.int .i64 0, .slice Ao28 x293001_1.length co28] 24 (0, 0)) (by (with_reducible repeat (first | refine blk_drewN ?_ _ | refine blk_drew ?_ | refine blk_alloc ?_ _)); exact BK292.out) hb); have n2_ := Aside0.mk (below_step (by repeat (first | (with_reducible first | exact HB.out | apply below_alloc | apply pw_below_drewN | apply below_drew1 | refine below_set ?_ GE292.out) | exact HB.out)) hb); clear HO_293001; clear BK292; clear HB; have HO_293001 := n0_; have BK292 := n1_; have HB := n2_; clear n0_ n1_ n2_; (try clear hb); (try clear hb2); (try clear hk); (try clear hi)))
              go_ret
              exact ⟨by first | rfl | (simp [errW_none, errW_some] <;> rfl) | (simp [*, errW_none, errW_some] <;> rfl), by repeat (first | (with_reducible first | exact HB.out | apply below_alloc | apply pw_below_drewN | apply below_drew1 | refine below_set ?_ GE292.out) | exact HB.out)⟩
            · rw [if_neg c25] at H
              exact absurd H (by simp)
    · rw [if_neg c4] at H
      exact absurd H (by simp)
  · replace c3 := Bool.eq_false_iff.mpr c3
    subst c3
    have H1 : (none) = some r := by rw [if_neg (show ¬ (false = true) by decide)] at H; exact H
    clear H
    have H := H1
    clear H1
    exact absurd H (by simp)

/-- THE ONE PURE STATEMENT of sleuthlaw5_ExprSizes: yours. -/
def sleuthlaw5_ExprSizes.Pure : Prop := ∀ (a0 : Int), (Lit.int .i64 a0).wf = true → ∃ k, sleuthlaw5_ExprSizes.f k a0 = some true
theorem sleuthlaw5_ExprSizes.walk (P : sleuthlaw5_ExprSizes.Pure) (a0 : Int) (w : World) (w0 : (Lit.int .i64 a0).wf = true) :
    Calls Try.prog 6 #[.int .i64 a0] w fun e w' => e = .returned (.bool true) ∧ Below w.heap.size w w' := by
  obtain ⟨k, h⟩ := P a0 w0
  refine (sleuthlaw5_ExprSizes.calls k a0 true w h).mono ?_
  rintro e w' ⟨rfl, hd⟩
  exact ⟨rfl, hd⟩


end Go.Proofs.Ytkpblifelpokfaa.PAll
