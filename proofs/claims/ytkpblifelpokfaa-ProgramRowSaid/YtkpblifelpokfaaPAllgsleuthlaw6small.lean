/- Written by a program of this session (ownprint.py, over the print of the kit): what Go functions compute, each as a Lean function, and that they compute it; some functions by contracts of the session (texts of their own). No condition. -/
import Derived.Test.YtkpblifelpokfaaPAllx0
import Derived.Test.YtkpblifelpokfaaPAllgsleuthlaw6adds
namespace Go.Proofs.Ytkpblifelpokfaa.PAll
open Go.RowKit Go.Proofs.YtkpblifelpokfaaW.PrintWords Go.Proofs.YtkpblifelpokfaaW.PrintLast Go.Proofs.YtkpblifelpokfaaW.PrintMore
attribute [local go_sem] max2_int min2_int max_two min_two max_three min_three max_four min_four   -- for this text's walks alone
set_option linter.unusedVariables false
set_option linter.unusedSimpArgs false

/-! ### sleuthlaw6_small: function 24 -/
def sleuthlaw6_small.f  : Option ((List (S24))) := (sleuthlaw6_adds.f).bind fun bt369 => (some (([(⟨0,(([(⟨7,0,0,([] : List Int)⟩ : S33),(⟨0,4,0,([] : List Int)⟩ : S33),(⟨3,7,0,(([0,1] : List Int))⟩ : S33),(⟨0,5,0,([] : List Int)⟩ : S33),(⟨2,1,0,(([2,3] : List Int))⟩ : S33)] : List (S33)))⟩ : S24),(⟨bt369.1,bt369.2⟩ : S24)] : List (S24))))
set_option maxHeartbeats 8000000 in
set_option maxRecDepth 100000 in
theorem sleuthlaw6_small.calls  (r : List (S24)) (w : World) (h : sleuthlaw6_small.f  = some r) :
  Calls Try.prog 24 #[] w fun e w' => ∃ v0_ : Value,e = .returned (.agg #[v0_]) ∧ Kd.N k24 24 w' w.heap.size (fun k_ => (w.heap.size ≤ k_)) v0_ r ∧ Below w.heap.size w w' := by
 have hu41 := Try.underlying41
 have hu33 := Try.underlying33
 have hu24 := Try.underlying24
 have HB := Aside0.mk (Below.refl w.heap.size w)
 have H : ((sleuthlaw6_adds.f).bind fun bt369 => (some (([(⟨0,(([(⟨7,0,0,([] : List Int)⟩ : S33),(⟨0,4,0,([] : List Int)⟩ : S33),(⟨3,7,0,(([0,1] : List Int))⟩ : S33),(⟨0,5,0,([] : List Int)⟩ : S33),(⟨2,1,0,(([2,3] : List Int))⟩ : S33)] : List (S33)))⟩ : S24),(⟨bt369.1,bt369.2⟩ : S24)] : List (S24))))) = some r := h
 clear h
 obtain ⟨y359,hy359⟩ : ∃ y_ : List Int,y_ = (([0,1] : List Int)) := ⟨_,rfl⟩
 replace H : ((sleuthlaw6_adds.f).bind fun bt369 => (some (([(⟨0,(([(⟨7,0,0,([] : List Int)⟩ : S33),(⟨0,4,0,([] : List Int)⟩ : S33),(⟨3,7,0,y359⟩ : S33),(⟨0,5,0,([] : List Int)⟩ : S33),(⟨2,1,0,(([2,3] : List Int))⟩ : S33)] : List (S33)))⟩ : S24),(⟨bt369.1,bt369.2⟩ : S24)] : List (S24))))) = some r := by first | (rw [hy359]; with_reducible exact H) | (have H2_ := (Option.bind_some _ _).symm.trans H; rw [hy359]; with_reducible exact H2_) | (have H2_ := (Option.bind_some _ _).symm.trans H; with_reducible exact H2_) | with_reducible exact H | (rw [hy359]; exact H) | exact H
 have Ny359 := Aside0.mk hy359
 clear hy359
 obtain ⟨y362,hy362⟩ : ∃ y_ : List Int,y_ = (([2,3] : List Int)) := ⟨_,rfl⟩
 replace H : ((sleuthlaw6_adds.f).bind fun bt369 => (some (([(⟨0,(([(⟨7,0,0,([] : List Int)⟩ : S33),(⟨0,4,0,([] : List Int)⟩ : S33),(⟨3,7,0,y359⟩ : S33),(⟨0,5,0,([] : List Int)⟩ : S33),(⟨2,1,0,y362⟩ : S33)] : List (S33)))⟩ : S24),(⟨bt369.1,bt369.2⟩ : S24)] : List (S24))))) = some r := by first | (rw [hy362]; with_reducible exact H) | (have H2_ := (Option.bind_some _ _).symm.trans H; rw [hy362]; with_reducible exact H2_) | (have H2_ := (Option.bind_some _ _).symm.trans H; with_reducible exact H2_) | with_reducible exact H | (rw [hy362]; exact H) | exact H
 have Ny362 := Aside0.mk hy362
 clear hy362
 obtain ⟨y365,hy365⟩ : ∃ y_ : List (S33),y_ = (([(⟨7,0,0,([] : List Int)⟩ : S33),(⟨0,4,0,([] : List Int)⟩ : S33),(⟨3,7,0,y359⟩ : S33),(⟨0,5,0,([] : List Int)⟩ : S33),(⟨2,1,0,y362⟩ : S33)] : List (S33))) := ⟨_,rfl⟩
 replace H : ((sleuthlaw6_adds.f).bind fun bt369 => (some (([(⟨0,y365⟩ : S24),(⟨bt369.1,bt369.2⟩ : S24)] : List (S24))))) = some r := by first | (rw [hy365]; with_reducible exact H) | (have H2_ := (Option.bind_some _ _).symm.trans H; rw [hy365]; with_reducible exact H2_) | (have H2_ := (Option.bind_some _ _).symm.trans H; with_reducible exact H2_) | with_reducible exact H | (rw [hy365]; exact H) | exact H
 have Ny365 := Aside0.mk hy365
 clear hy365
 replace H := Option.bind_eq_some_iff.mp H
 obtain ⟨⟨t369,t370⟩,A10,H⟩ := H
 replace H : (some (([(⟨0,y365⟩ : S24),(⟨t369,t370⟩ : S24)] : List (S24)))) = some r := H
 have A1 := Aside0.mk A10
 clear A10
 obtain ⟨y373,hy373⟩ : ∃ y_ : List (S24),y_ = (([(⟨0,y365⟩ : S24),(⟨t369,t370⟩ : S24)] : List (S24))) := ⟨_,rfl⟩
 replace H : (some y373) = some r := by first | (rw [hy373]; with_reducible exact H) | (have H2_ := (Option.bind_some _ _).symm.trans H; rw [hy373]; with_reducible exact H2_) | (have H2_ := (Option.bind_some _ _).symm.trans H; with_reducible exact H2_) | with_reducible exact H | (rw [hy373]; exact H) | exact H
 have Ny373 := Aside0.mk hy373
 clear hy373
 obtain rfl := Option.some.inj H
 go_enter Try.func24,Try.ntmps24
 try go_wp2_with (first | ((with_reducible refine gate_dst (N := 0) rfl ?_); refine box_event ?hg (N := 0) ?hd (cs := #[.slice none 0 0]) (t := 41) ?hr ?_; (case hd => rfl); (case hg => rfl); (case hr => first | (go_simp; done) | (go_simp; rfl)); intro gb358 hg w2 hbox hb; have n0_ := Aside0.mk (below_step (by repeat (first | (with_reducible first | exact HB.out | apply below_alloc | apply pw_below_drewN | apply below_drew1) | exact HB.out)) hb); have n1_ := Aside0.mk (hbox); have n2_ := Aside0.mk ((by rw [hg]; exact (below_size (by repeat (first | (with_reducible first | exact HB.out | apply below_alloc | apply pw_below_drewN | apply below_drew1) | exact HB.out))) : w.heap.size ≤ gb358)); have n3_ := Aside0.mk ((by rw [hg]; exact (below_size (by repeat (first | (with_reducible first | exact HB.out | apply below_alloc | apply pw_below_drewN | apply below_drew1) | exact HB.out))) : w.heap.size ≤ gb358)); clear HB; have HB := n0_; have BK358 := n1_; have GW358 := n2_; have GE358 := n3_; clear n0_ n1_ n2_ n3_; clear hb hbox hg) | ((with_reducible refine gate_dst (N := 4) rfl ?_); refine Kd.R_lit (Kd.int .i64) _ 3 ?hg (N := 4) ?hd (xs := ([0,1] : List Int)) (inner := [.int .i64 0,.int .i64 1]) (ok := fun _ => True) (okp := fun _ => True) ?hr ?hp (fun _ hk => hk) trivial (Below.refl _ _) (Nat.le_refl _) (by simp) ?_; (case hd => rfl); (case hg => rfl); (case hr => first | (go_simp; done) | (go_simp; rfl)); (case hp => exact (Reps.one (show Kd.M (Kd.int .i64) _ _ _ 0 [.int .i64 0] from rfl) (Reps.one (show Kd.M (Kd.int .i64) _ _ _ 1 [.int .i64 1] from rfl) (Reps.none _ _)))); intro v360 w3 ho4 hb hg_ hnew_; clear hg_ hnew_; (first | rw [← Ny359.out] at ho4 | (simp only [Int.reduceToNat] at ho4; rw [← Ny359.out] at ho4)); have n0_ := Aside0.mk (Kd.R_lower (Kd.R_newM (M := fun k_ => (w.heap.size ≤ k_)) ho4 (below_size (by repeat (first | (with_reducible first | exact HB.out | apply below_alloc | apply pw_below_drewN | apply below_drew1 | refine below_set ?_ GE358.out) | exact HB.out))) (fun k_ h_ => h_)) (below_size (by repeat (first | (with_reducible first | exact HB.out | apply below_alloc | apply pw_below_drewN | apply below_drew1 | refine below_set ?_ GE358.out) | exact HB.out)))); have n1_ := Aside0.mk (blk_below (g := gb358) (o := .cells #[.slice none 0 0] 41 (0,0)) (by (with_reducible repeat (first | refine blk_drewN ?_ _ | refine blk_drew ?_ | refine blk_alloc ?_ _)); exact BK358.out) hb); have n2_ := Aside0.mk (below_step (by repeat (first | (with_reducible first | exact HB.out | apply below_alloc | apply pw_below_drewN | apply below_drew1 | refine below_set ?_ GE358.out) | exact HB.out)) hb); clear BK358; clear HB; have HO361 := n0_; have BK358 := n1_; have HB := n2_; clear n0_ n1_ n2_; clear hb ho4; obtain ⟨Ao5,co5,eo5⟩ := Kd.R_slice HO361.out; subst eo5) | ((with_reducible refine gate_dst (N := 7) rfl ?_); refine Kd.R_lit (Kd.int .i64) _ 3 ?hg (N := 7) ?hd (xs := ([2,3] : List Int)) (inner := [.int .i64 2,.int .i64 3]) (ok := fun _ => True) (okp := fun _ => True) ?hr ?hp (fun _ hk => hk) trivial (Below.refl _ _) (Nat.le_refl _) (by simp) ?_; (case hd => rfl); (case hg => rfl); (case hr => first | (go_simp; done) | (go_simp; rfl)); (case hp => exact (Reps.one (show Kd.M (Kd.int .i64) _ _ _ 2 [.int .i64 2] from rfl) (Reps.one (show Kd.M (Kd.int .i64) _ _ _ 3 [.int .i64 3] from rfl) (Reps.none _ _)))); intro v363 w6 ho7 hb hg_ hnew_; clear hg_ hnew_; (first | rw [← Ny362.out] at ho7 | (simp only [Int.reduceToNat] at ho7; rw [← Ny362.out] at ho7)); have n0_ := Aside0.mk (Kd.R_elder' (by (with_reducible repeat (first | apply Kd.R_alloc | apply Kd.R_drewN | apply Kd.R_drew)); exact HO361.out) (Kd.R_base ho7) hb); have n1_ := Aside0.mk (Kd.R_lower (Kd.R_new' (Kd.R_newM (M := fun k_ => (w.heap.size ≤ k_)) ho7 (below_size (by repeat (first | (with_reducible first | exact HB.out | apply below_alloc | apply pw_below_drewN | apply below_drew1 | refine below_set ?_ GE358.out) | exact HB.out))) (fun k_ h_ => h_)) (Kd.R_lt (by (with_reducible repeat (first | apply Kd.R_alloc | apply Kd.R_drewN | apply Kd.R_drew)); exact HO361.out))) (below_size (by repeat (first | (with_reducible first | exact HB.out | apply below_alloc | apply pw_below_drewN | apply below_drew1 | refine below_set ?_ GE358.out) | exact HB.out)))); have n2_ := Aside0.mk (blk_below (g := gb358) (o := .cells #[.slice none 0 0] 41 (0,0)) (by (with_reducible repeat (first | refine blk_drewN ?_ _ | refine blk_drew ?_ | refine blk_alloc ?_ _)); exact BK358.out) hb); have n3_ := Aside0.mk (below_step (by repeat (first | (with_reducible first | exact HB.out | apply below_alloc | apply pw_below_drewN | apply below_drew1 | refine below_set ?_ GE358.out) | exact HB.out)) hb); clear HO361; clear BK358; clear HB; have HO361 := n0_; have HO364 := n1_; have BK358 := n2_; have HB := n3_; clear n0_ n1_ n2_ n3_; clear hb ho7; obtain ⟨Ao8,co8,eo8⟩ := Kd.R_slice HO364.out; subst eo8) | ((with_reducible refine gate_dst (N := 9) rfl ?_); refine Kd.N_lit k33 _ 33 ?hg (N' := 9) ?hd (xs := ([(⟨7,0,0,([] : List Int)⟩ : S33),(⟨0,4,0,([] : List Int)⟩ : S33),(⟨3,7,0,y359⟩ : S33),(⟨0,5,0,([] : List Int)⟩ : S33),(⟨2,1,0,y362⟩ : S33)] : List (S33))) (inner := [.int .i64 7,.int .i64 0,.int .i64 0,.slice none 0 0,.int .i64 0,.int .i64 4,.int .i64 0,.slice none 0 0,.int .i64 3,.int .i64 7,.int .i64 0,.slice Ao5 y359.length co5,.int .i64 0,.int .i64 5,.int .i64 0,.slice none 0 0,.int .i64 2,.int .i64 1,.int .i64 0,.slice Ao8 y362.length co8]) (ok := (fun k_ => (w.heap.size ≤ k_) ∧ k_ ≠ gb358)) (okp := (fun k_ => (w.heap.size ≤ k_) ∧ k_ ≠ gb358)) ?hr ?hp (fun _ hk => hk) ((show ∀ k_,w6.heap.size ≤ k_ → (fun k_ => (w.heap.size ≤ k_) ∧ k_ ≠ gb358) k_ from fun k_ hk => ⟨(Nat.le_trans (below_size (by repeat (first | (with_reducible first | exact HB.out | apply below_alloc | apply pw_below_drewN | apply below_drew1 | refine below_set ?_ GE358.out) | exact HB.out))) hk),Kd.freshB (g := gb358) (o := .cells #[.slice none 0 0] 41 (0,0)) (by (with_reducible repeat (first | refine blk_drewN ?_ _ | refine blk_drew ?_ | refine blk_alloc ?_ _)); exact BK358.out) k_ hk⟩) _ (Nat.le_refl _)) (Below.refl _ _) (Nat.le_refl _) (by simp) ?_; (case hd => rfl); (case hg => rfl); (case hr => first | (go_simp; done) | (go_simp; rfl)); (case hp => exact (Reps.c4 (show Kd.FK k33 _ _ (⟨7,0,0,([] : List Int)⟩ : S33) [.int .i64 7,.int .i64 0,.int .i64 0,.slice none 0 0] from (k33_mkF _ _ (⟨7,0,0,([] : List Int)⟩ : S33) (Nat.le_refl _) (Kd.F_nil _ _ _))) (Reps.c4 (show Kd.FK k33 _ _ (⟨0,4,0,([] : List Int)⟩ : S33) [.int .i64 0,.int .i64 4,.int .i64 0,.slice none 0 0] from (k33_mkF _ _ (⟨0,4,0,([] : List Int)⟩ : S33) (Nat.le_refl _) (Kd.F_nil _ _ _))) (Reps.c4 (show Kd.FK k33 _ _ (⟨3,7,0,y359⟩ : S33) [.int .i64 3,.int .i64 7,.int .i64 0,.slice Ao5 y359.length co5] from (k33_mkF _ _ (⟨3,7,0,y359⟩ : S33) (Kd.R_reads' (Kd.R_mono (ok' := (fun k_ => (w.heap.size ≤ k_) ∧ k_ ≠ gb358)) (Kd.R_types (HO361.out) BK358.out (by decide)) (fun k_ hk => ⟨hk.1.1.1,hk.2⟩))).2.1 (Kd.R_F (Kd.R_mono (ok' := (fun k_ => (w.heap.size ≤ k_) ∧ k_ ≠ gb358)) (Kd.R_types (HO361.out) BK358.out (by decide)) (fun k_ hk => ⟨hk.1.1.1,hk.2⟩))))) (Reps.c4 (show Kd.FK k33 _ _ (⟨0,5,0,([] : List Int)⟩ : S33) [.int .i64 0,.int .i64 5,.int .i64 0,.slice none 0 0] from (k33_mkF _ _ (⟨0,5,0,([] : List Int)⟩ : S33) (Nat.le_refl _) (Kd.F_nil _ _ _))) (Reps.c4 (show Kd.FK k33 _ _ (⟨2,1,0,y362⟩ : S33) [.int .i64 2,.int .i64 1,.int .i64 0,.slice Ao8 y362.length co8] from (k33_mkF _ _ (⟨2,1,0,y362⟩ : S33) (Kd.R_reads' (Kd.R_mono (ok' := (fun k_ => (w.heap.size ≤ k_) ∧ k_ ≠ gb358)) (Kd.R_types (HO364.out) BK358.out (by decide)) (fun k_ hk => ⟨hk.1.1.1,hk.2⟩))).2.1 (Kd.R_F (Kd.R_mono (ok' := (fun k_ => (w.heap.size ≤ k_) ∧ k_ ≠ gb358)) (Kd.R_types (HO364.out) BK358.out (by decide)) (fun k_ hk => ⟨hk.1.1.1,hk.2⟩))))) (Reps.none _ _))))))); intro v366 w9 ho10 hb hg_ hnew_; clear hg_ hnew_; (first | rw [← Ny365.out] at ho10 | (simp only [Int.reduceToNat] at ho10; rw [← Ny365.out] at ho10)); have n0_ := Aside0.mk (Kd.N_lower ho10 (below_size (by repeat (first | (with_reducible first | exact HB.out | apply below_alloc | apply pw_below_drewN | apply below_drew1 | refine below_set ?_ GE358.out) | exact HB.out)))); have n1_ := Aside0.mk (blk_below (g := gb358) (o := .cells #[.slice none 0 0] 41 (0,0)) (by (with_reducible repeat (first | refine blk_drewN ?_ _ | refine blk_drew ?_ | refine blk_alloc ?_ _)); exact BK358.out) hb); have n2_ := Aside0.mk (below_step (by repeat (first | (with_reducible first | exact HB.out | apply below_alloc | apply pw_below_drewN | apply below_drew1 | refine below_set ?_ GE358.out) | exact HB.out)) hb); clear BK358; clear HB; clear HO361; clear HO364; have HO367 := n0_; have BK358 := n1_; have HB := n2_; clear n0_ n1_ n2_; clear hb ho10; obtain ⟨Ao11,co11,eo11⟩ := Kd.N_slice HO367.out; subst eo11) | ((with_reducible refine gate_dst (N := 1) rfl ?_); refine box_event ?hg (N := 1) ?hd (cs := #[.int .i64 0,.slice none 0 0]) (t := 24) ?hr ?_; (case hd => rfl); (case hg => rfl); (case hr => first | (go_simp; done) | (go_simp; rfl)); intro gb368 hg w12 hbox hb; have n0_ := Aside0.mk (Kd.N_below (Kd.N_elderB (by (with_reducible repeat (first | apply Kd.N_alloc | apply Kd.N_drewN | apply Kd.N_drew)); exact HO367.out) gb368 (Nat.le_of_eq hg.symm)) hb); have n1_ := Aside0.mk (blk_below (g := gb358) (o := .cells #[.slice none 0 0] 41 (0,0)) (by (with_reducible repeat (first | refine blk_drewN ?_ _ | refine blk_drew ?_ | refine blk_alloc ?_ _)); exact BK358.out) hb); have n2_ := Aside0.mk (below_step (by repeat (first | (with_reducible first | exact HB.out | apply below_alloc | apply pw_below_drewN | apply below_drew1 | refine below_set ?_ GE358.out) | exact HB.out)) hb); have n3_ := Aside0.mk (hbox); have n4_ := Aside0.mk ((by rw [hg]; exact (below_size (by repeat (first | (with_reducible first | exact HB.out | apply below_alloc | apply pw_below_drewN | apply below_drew1 | refine below_set ?_ GE358.out) | exact HB.out))) : w.heap.size ≤ gb368)); have n5_ := Aside0.mk ((by rw [hg]; exact (below_size (by repeat (first | (with_reducible first | exact HB.out | apply below_alloc | apply pw_below_drewN | apply below_drew1 | refine below_set ?_ GE358.out) | exact HB.out))) : w.heap.size ≤ gb368)); have n6_ := Aside0.mk ((by rw [hg]; exact Nat.ne_of_lt (blk_lt (g := gb358) (o := .cells #[.slice none 0 0] 41 (0,0)) (by (with_reducible repeat (first | refine blk_drewN ?_ _ | refine blk_drew ?_ | refine blk_alloc ?_ _)); exact BK358.out)) : gb358 ≠ gb368)); have n7_ := Aside0.mk ((by rw [hg]; exact Nat.ne_of_gt (blk_lt (g := gb358) (o := .cells #[.slice none 0 0] 41 (0,0)) (by (with_reducible repeat (first | refine blk_drewN ?_ _ | refine blk_drew ?_ | refine blk_alloc ?_ _)); exact BK358.out)) : gb368 ≠ gb358)); clear HO367; clear BK358; clear HB; have HO367 := n0_; have BK358 := n1_; have HB := n2_; have BK368 := n3_; have GW368 := n4_; have GE368 := n5_; have NB358_368 := n6_; have NB368_358 := n7_; clear n0_ n1_ n2_ n3_ n4_ n5_ n6_ n7_; clear hb hbox hg; have hnb13 := NB368_358.out; have hnc13 := NB358_368.out; have hcz14_0 : w12.cell? ⟨gb368,0,none⟩ = some (.int .i64 0) := (blk_cell BK368.out 0).trans rfl; have hcz14_1 : w12.cell? ⟨gb368,1,none⟩ = some (.slice none 0 0) := (blk_cell BK368.out 1).trans rfl; have hfz14_0 := blk_frozen BK368.out 0; have hfz14_1 := blk_frozen BK368.out 1))
 have n0_ : Aside0 (Kd.N k33 33 ((w12.setCell ⟨gb368,0,none⟩ (.int .i64 0)).setCell ⟨gb368,1,none⟩ (.slice Ao11 y365.length co11)) w.heap.size (fun k_ => (w.heap.size ≤ k_) ∧ k_ ≠ gb358 ∧ k_ ≠ gb368) (.slice Ao11 y365.length co11) y365) := ⟨by (with_reducible repeat (first | apply Kd.N_alloc | apply Kd.N_drewN | apply Kd.N_drew)); exact Kd.N_mono (Kd.N_far (p := ⟨gb368,1,none⟩) (Kd.N_far (p := ⟨gb368,0,none⟩) (Kd.N_mono HO367.out (fun k_ hk => (⟨hk,hk.2⟩ : _ ∧ k_ ≠ gb368))) (fun _ hk => hk.2) (.int .i64 0)) (fun _ hk => hk.2) (.slice Ao11 y365.length co11)) (fun _ hk => ⟨hk.1.1.1,⟨hk.1.1.2,hk.1.2⟩⟩)⟩
 have n1_ : Aside0 (((w12.setCell ⟨gb368,0,none⟩ (.int .i64 0)).setCell ⟨gb368,1,none⟩ (.slice Ao11 y365.length co11)).heap[gb358]? = some (.cells #[.slice none 0 0] 41 (0,0))) := ⟨by (with_reducible repeat (first | refine blk_drewN ?_ _ | refine blk_drew ?_ | refine blk_alloc ?_ _)); refine blk_far ?_ NB358_368.out _; (with_reducible repeat (first | refine blk_drewN ?_ _ | refine blk_drew ?_ | refine blk_alloc ?_ _)); refine blk_far ?_ NB358_368.out _; (with_reducible repeat (first | refine blk_drewN ?_ _ | refine blk_drew ?_ | refine blk_alloc ?_ _)); exact BK358.out⟩
 have n2_ : Aside0 (((w12.setCell ⟨gb368,0,none⟩ (.int .i64 0)).setCell ⟨gb368,1,none⟩ (.slice Ao11 y365.length co11)).heap[gb368]? = some (.cells #[.int .i64 0,.slice Ao11 y365.length co11] 24 (0,0))) := ⟨by (with_reducible repeat (first | refine blk_drewN ?_ _ | refine blk_drew ?_ | refine blk_alloc ?_ _)); refine blk_put (cs := #[.int .i64 0,.slice none 0 0]) ?_ 1 _ rfl; (with_reducible repeat (first | refine blk_drewN ?_ _ | refine blk_drew ?_ | refine blk_alloc ?_ _)); refine blk_put (cs := #[.int .i64 0,.slice none 0 0]) ?_ 0 _ rfl; (with_reducible repeat (first | refine blk_drewN ?_ _ | refine blk_drew ?_ | refine blk_alloc ?_ _)); exact BK368.out⟩
 have n3_ : Aside0 (Below w.heap.size w ((w12.setCell ⟨gb368,0,none⟩ (.int .i64 0)).setCell ⟨gb368,1,none⟩ (.slice Ao11 y365.length co11))) := ⟨by repeat (first | (with_reducible first | exact HB.out | apply below_alloc | apply pw_below_drewN | apply below_drew1 | refine below_set ?_ GE358.out | refine below_set ?_ GE368.out) | exact HB.out)⟩
 (try clear HO367)
 (try clear BK358)
 (try clear BK368)
 (try clear HB)
 generalize ((w12.setCell ⟨gb368,0,none⟩ (.int .i64 0)).setCell ⟨gb368,1,none⟩ (.slice Ao11 y365.length co11)) = w15 at n0_ n1_ n2_ n3_ ⊢
 have HO367 := n0_
 have BK358 := n1_
 have BK368 := n2_
 have HB := n3_
 clear n0_ n1_ n2_ n3_
 have n0_ := Aside0.mk (Kd.N_drew HO367.out)
 have n1_ := Aside0.mk (blk_drew BK358.out)
 have n2_ := Aside0.mk (blk_drew BK368.out)
 have n3_ := Aside0.mk (below_drew1 HB.out)
 clear HO367
 clear BK358
 clear BK368
 clear HB
 have HO367 := n0_
 have BK358 := n1_
 have BK368 := n2_
 have HB := n3_
 clear n0_ n1_ n2_ n3_
 refine start_ (n := 5) (S := fun w' => w'.cell? ⟨gb368,0,none⟩ = some (.int .i64 0) ∧ w'.cell? ⟨gb368,1,none⟩ = some (.slice Ao11 y365.length co11)) (ds := []) #[false,false,false,false,false] (by kernel_rfl) rfl rfl ⟨(blk_cell BK368.out 0).trans rfl,(blk_cell BK368.out 1).trans rfl⟩ (fun hHeld => ?_)
 generalize w15.drew = w16 at HO367 BK358 BK368 HB hHeld ⊢
 refine take_ (i := 0) (N := some 11) (v := ?_) (a' := ?_) #[true,false,false,false,false] rfl rfl (by kernel_rfl) (fun _ _ _ h => h) (Or.inl ⟨by rfl,?_⟩) hHeld ?_ ?_
 rotate_left
 ·rintro w' ⟨s0,s1⟩
  go_simp
  with_reducible rfl
 rotate_left
 ·simp only [Act.put,List.setIfInBounds_toArray,List.set_cons_zero,List.set_cons_succ,i64_w,i32_w]
  rfl
 refine one_ (i := 1) (N := some 12) #[true,true,false,false,false] rfl rfl (by kernel_rfl) (by decide) (fun K hK => ?_)
 refine goes_ Try.func25 (by kernel_rfl) rfl #[] (by rfl) rfl rfl (by (try simp only [List.map_toArray,List.map_cons,List.map_nil]); first | done | rfl | (simp only [List.length_drop,List.length_take]; rfl)) ?_
 with_reducible refine (sleuthlaw6_adds.calls  t369 t370 _ A1.out).mono ?_
 rintro e w17 ⟨v371,rfl,ho0,hb⟩
 refine ⟨_,rfl,?_⟩
 have n0_ := Aside0.mk (Kd.N_elder' (by (with_reducible repeat (first | apply Kd.N_alloc | apply Kd.N_drewN | apply Kd.N_drew)); exact HO367.out) (Kd.N_base ho0) hb)
 have n1_ := Aside0.mk (Kd.N_lower (Kd.N_mono (ok' := fun k_ => (w.heap.size ≤ k_) ∧ some k_ ≠ (.slice Ao11 y365.length co11 : Value).ownBlock ∧ k_ ≠ gb358 ∧ k_ ≠ gb368) ho0 (fun k_ hk_ => ⟨(Nat.le_trans (below_size (by repeat (first | (with_reducible first | exact HB.out | apply below_alloc | apply pw_below_drewN | apply below_drew1 | refine below_set ?_ GE358.out | refine below_set ?_ GE368.out) | exact HB.out))) hk_),(Kd.fresh' (Kd.N_lt (by (with_reducible repeat (first | apply Kd.N_alloc | apply Kd.N_drewN | apply Kd.N_drew)); exact HO367.out)) k_ hk_),(Kd.freshB (g := gb358) (o := .cells #[.slice none 0 0] 41 (0,0)) (by (with_reducible repeat (first | refine blk_drewN ?_ _ | refine blk_drew ?_ | refine blk_alloc ?_ _)); exact BK358.out) k_ hk_),(Kd.freshB (g := gb368) (o := .cells #[.int .i64 0,.slice Ao11 y365.length co11] 24 (0,0)) (by (with_reducible repeat (first | refine blk_drewN ?_ _ | refine blk_drew ?_ | refine blk_alloc ?_ _)); exact BK368.out) k_ hk_)⟩)) (below_size (by repeat (first | (with_reducible first | exact HB.out | apply below_alloc | apply pw_below_drewN | apply below_drew1 | refine below_set ?_ GE358.out | refine below_set ?_ GE368.out) | exact HB.out))))
 have n2_ := Aside0.mk (blk_below (g := gb358) (o := .cells #[.slice none 0 0] 41 (0,0)) (by (with_reducible repeat (first | refine blk_drewN ?_ _ | refine blk_drew ?_ | refine blk_alloc ?_ _)); exact BK358.out) hb)
 have n3_ := Aside0.mk (blk_below (g := gb368) (o := .cells #[.int .i64 0,.slice Ao11 y365.length co11] 24 (0,0)) (by (with_reducible repeat (first | refine blk_drewN ?_ _ | refine blk_drew ?_ | refine blk_alloc ?_ _)); exact BK368.out) hb)
 have n4_ := Aside0.mk (below_step (by repeat (first | (with_reducible first | exact HB.out | apply below_alloc | apply pw_below_drewN | apply below_drew1 | refine below_set ?_ GE358.out | refine below_set ?_ GE368.out) | exact HB.out)) hb)
 clear HO367
 clear BK358
 clear BK368
 clear HB
 have HO367 := n0_
 have HO372 := n1_
 have BK358 := n2_
 have BK368 := n3_
 have HB := n4_
 clear n0_ n1_ n2_ n3_ n4_
 (try clear hb)
 (try clear hb2)
 (try clear hk)
 (try clear hi)
 (try clear ho0)
 obtain ⟨Ao18,co18,eo18⟩ := Kd.N_slice HO372.out
 (first | subst eo18 | (injection eo18 with f1_ f2_ f3_; have f4_ := f1_.symm; have f5_ := f3_.symm; clear f1_ f2_ f3_; subst f4_; subst f5_))
 refine hK.out _ _ ⟨(blk_cell BK368.out 0).trans rfl,(blk_cell BK368.out 1).trans rfl⟩ (fun hHeld => ?_)
 clear hK K
 refine norm_ (a' := ?_) ?_ ?_
 rotate_left
 ·show Act.put _ (some 12) _ = _
  simp only [Act.put,List.setIfInBounds_toArray,List.set_cons_zero,List.set_cons_succ,i64_w,i32_w]
  rfl
 refine one_ (i := 2) (N := some 13) #[true,true,true,false,false] rfl rfl (by kernel_rfl) (by decide) (fun K hK => ?_)
 refine Kd.N_lit_step k24 _ 24 ?hg (N' := 13) ?hd (xs := ([(⟨0,y365⟩ : S24),(⟨t369,t370⟩ : S24)] : List (S24))) (inner := [.int .i64 0,.slice Ao11 y365.length co11,.int .i64 t369,.slice Ao18 t370.length co18]) (ok := (fun k_ => (w.heap.size ≤ k_) ∧ k_ ≠ gb358 ∧ k_ ≠ gb368)) (okp := (fun k_ => (w.heap.size ≤ k_) ∧ k_ ≠ gb358 ∧ k_ ≠ gb368)) ?hr ?hp (fun _ hk => hk) ((show ∀ k_,w17.heap.size ≤ k_ → (fun k_ => (w.heap.size ≤ k_) ∧ k_ ≠ gb358 ∧ k_ ≠ gb368) k_ from fun k_ hk => ⟨(Nat.le_trans (below_size (by repeat (first | (with_reducible first | exact HB.out | apply below_alloc | apply pw_below_drewN | apply below_drew1 | refine below_set ?_ GE358.out | refine below_set ?_ GE368.out) | exact HB.out))) hk),Kd.freshB (g := gb358) (o := .cells #[.slice none 0 0] 41 (0,0)) (by (with_reducible repeat (first | refine blk_drewN ?_ _ | refine blk_drew ?_ | refine blk_alloc ?_ _)); exact BK358.out) k_ hk,Kd.freshB (g := gb368) (o := .cells #[.int .i64 0,.slice Ao11 y365.length co11] 24 (0,0)) (by (with_reducible repeat (first | refine blk_drewN ?_ _ | refine blk_drew ?_ | refine blk_alloc ?_ _)); exact BK368.out) k_ hk⟩) _ (Nat.le_refl _)) (Below.refl _ _) (Nat.le_refl _) (by simp) ?_; (case hd => rfl); (case hg => rfl); (case hr => first | (go_simp; done) | (go_simp; rfl)); (case hp => exact (Reps.c2 (show Kd.FK k24 _ _ (⟨0,y365⟩ : S24) [.int .i64 0,.slice Ao11 y365.length co11] from (k24_mkF _ _ (⟨0,y365⟩ : S24) (Kd.N_reads' (Kd.N_mono (ok' := (fun k_ => (w.heap.size ≤ k_) ∧ k_ ≠ gb358 ∧ k_ ≠ gb368)) (HO367.out) (fun k_ hk => ⟨hk.1.1,⟨hk.1.2.1,hk.1.2.2⟩⟩))).2.1 (Kd.N_F (Kd.N_mono (ok' := (fun k_ => (w.heap.size ≤ k_) ∧ k_ ≠ gb358 ∧ k_ ≠ gb368)) (HO367.out) (fun k_ hk => ⟨hk.1.1,⟨hk.1.2.1,hk.1.2.2⟩⟩))))) (Reps.c2 (show Kd.FK k24 _ _ (⟨t369,t370⟩ : S24) [.int .i64 t369,.slice Ao18 t370.length co18] from (k24_mkF _ _ (⟨t369,t370⟩ : S24) (Kd.N_reads' (Kd.N_mono (ok' := (fun k_ => (w.heap.size ≤ k_) ∧ k_ ≠ gb358 ∧ k_ ≠ gb368)) (HO372.out) (fun k_ hk => ⟨hk.1,⟨hk.2.2.1,hk.2.2.2⟩⟩))).2.1 (Kd.N_F (Kd.N_mono (ok' := (fun k_ => (w.heap.size ≤ k_) ∧ k_ ≠ gb358 ∧ k_ ≠ gb368)) (HO372.out) (fun k_ hk => ⟨hk.1,⟨hk.2.2.1,hk.2.2.2⟩⟩))))) (Reps.none _ _))))
 intro v374 w19 ho20 hb hg_ hnew_
 clear hg_ hnew_
 (first | rw [← Ny373.out] at ho20 | (simp only [Int.reduceToNat] at ho20; rw [← Ny373.out] at ho20))
 have n0_ := Aside0.mk (Kd.N_lower ho20 (below_size (by repeat (first | (with_reducible first | exact HB.out | apply below_alloc | apply pw_below_drewN | apply below_drew1 | refine below_set ?_ GE358.out | refine below_set ?_ GE368.out) | exact HB.out))))
 have n1_ := Aside0.mk (blk_below (g := gb358) (o := .cells #[.slice none 0 0] 41 (0,0)) (by (with_reducible repeat (first | refine blk_drewN ?_ _ | refine blk_drew ?_ | refine blk_alloc ?_ _)); exact BK358.out) hb)
 have n2_ := Aside0.mk (blk_below (g := gb368) (o := .cells #[.int .i64 0,.slice Ao11 y365.length co11] 24 (0,0)) (by (with_reducible repeat (first | refine blk_drewN ?_ _ | refine blk_drew ?_ | refine blk_alloc ?_ _)); exact BK368.out) hb)
 have n3_ := Aside0.mk (below_step (by repeat (first | (with_reducible first | exact HB.out | apply below_alloc | apply pw_below_drewN | apply below_drew1 | refine below_set ?_ GE358.out | refine below_set ?_ GE368.out) | exact HB.out)) hb)
 clear BK358
 clear BK368
 clear HB
 clear HO367
 clear HO372
 have HO375 := n0_
 have BK358 := n1_
 have BK368 := n2_
 have HB := n3_
 clear n0_ n1_ n2_ n3_
 clear hb ho20
 obtain ⟨Ao21,co21,eo21⟩ := Kd.N_slice HO375.out
 (first | subst eo21 | (injection eo21 with f1_ f2_ f3_; have f4_ := f1_.symm; have f5_ := f3_.symm; clear f1_ f2_ f3_; subst f4_; subst f5_))
 refine hK.out _ _ ⟨(blk_cell BK368.out 0).trans rfl,(blk_cell BK368.out 1).trans rfl⟩ (fun hHeld => ?_)
 clear hK K
 refine norm_ (a' := ?_) ?_ ?_
 rotate_left
 ·show Act.put _ (some 13) _ = _
  simp only [Act.put,List.setIfInBounds_toArray,List.set_cons_zero,List.set_cons_succ,i64_w,i32_w]
  rfl
 refine pure_ (i := 3) (N := some 14) (v := ?_) (a' := ?_) #[true,true,true,true,false] rfl rfl (by kernel_rfl) (fun _ _ _ h => h) (Or.inl ⟨by rfl,?_⟩) ?_ ?_
 rotate_left
 ·intro w'
  go_simp
  with_reducible rfl
 rotate_left
 ·simp only [Act.put,List.setIfInBounds_toArray,List.set_cons_zero,List.set_cons_succ,i64_w,i32_w]
  rfl
 refine one_ (i := 4) (N := none) #[true,true,true,true,true] rfl rfl (by kernel_rfl) (by decide) (fun K hK => ?_)
 have hs22 : w19.cell? ⟨gb358,0,none⟩ = some (.slice none 0 0) := (blk_cell BK358.out 0).trans rfl
 have hfs22 := blk_frozen BK358.out 0
 have hns22_1 := NB368_358.out
 have hms22_1 := NB358_368.out
 refine skip_ (w1 := ?_) (by rfl) rfl ?_ ?_
 rotate_left
 ·go_simp
  rfl
 refine hK.out _ _ ⟨((cell_far (p := ⟨gb358,_,none⟩) NB368_358.out _).trans (hHeld.1)),((cell_far (p := ⟨gb358,_,none⟩) NB368_358.out _).trans (hHeld.2))⟩ (fun hHeld => ?_)
 clear hK K
 refine done_ (by kernel_rfl) ?_
 try go_wp2
 refine bodyPost_ret (results_cell_row rfl _ _ gb358 41 #[.slice Ao21 y373.length co21] (0,0) _ rfl (by (with_reducible repeat (first | refine blk_drewN ?_ _ | refine blk_drew ?_ | refine blk_alloc ?_ _)); refine blk_put (cs := #[.slice none 0 0]) ?_ 0 _ rfl; (with_reducible repeat (first | refine blk_drewN ?_ _ | refine blk_drew ?_ | refine blk_alloc ?_ _)); exact BK358.out) Try.underlying41 rfl (by kernel_rfl)) rfl ?_
 exact ⟨_,by first | rfl | (simp [errW_none,errW_some] <;> rfl) | (simp [*,errW_none,errW_some] <;> rfl),by (with_reducible repeat (first | apply Kd.N_alloc | apply Kd.N_drewN | apply Kd.N_drew)); exact Kd.N_mono (Kd.N_far (p := ⟨gb358,0,none⟩) (Kd.N_mono HO375.out (fun k_ hk => (⟨hk,hk.2.1⟩ : _ ∧ k_ ≠ gb358))) (fun _ hk => hk.2) (.slice Ao21 y373.length co21)) (fun _ hk => hk.1.1),by repeat (first | (with_reducible first | exact HB.out | apply below_alloc | apply pw_below_drewN | apply below_drew1 | refine below_set ?_ GE358.out | refine below_set ?_ GE368.out) | exact HB.out)⟩


end Go.Proofs.Ytkpblifelpokfaa.PAll
