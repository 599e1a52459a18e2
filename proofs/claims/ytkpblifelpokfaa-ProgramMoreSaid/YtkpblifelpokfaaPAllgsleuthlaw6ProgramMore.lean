/- Written by a program of this session (ownprint.py, over the print of the kit): what Go functions compute, each as a Lean function, and that they compute it; some functions by contracts of the session (texts of their own). No condition. -/
import Derived.Test.YtkpblifelpokfaaPAllx0
import Derived.Test.YtkpblifelpokfaaPAllgsleuthlaw0Num
import Derived.Test.YtkpblifelpokfaaPAllgsleuthlaw6adds
import Derived.Test.YtkpblifelpokfaaPAllgsleuthlaw6small
import Derived.Test.YtkpblifelpokfaaPAllgsleuthlaw6awake
import Derived.Test.YtkpblifelpokfaaPgmMay
namespace Go.Proofs.Ytkpblifelpokfaa.PAll
open Go.RowKit Go.Proofs.YtkpblifelpokfaaW.PrintWords Go.Proofs.YtkpblifelpokfaaW.PrintLast Go.Proofs.YtkpblifelpokfaaW.PrintMore
attribute [local go_sem] max2_int min2_int max_two min_two max_three min_three max_four min_four   -- for this text's walks alone
set_option linter.unusedVariables false
set_option linter.unusedSimpArgs false

/-! ### sleuthlaw6_ProgramMore: function 10 -/
def sleuthlaw6_ProgramMore.l0 : Nat → Int → Bool → Int → List (S24) → Option (Bool)
  | 0, _, _, _, _ => none
  | k + 1, x0, x1, x6, x424000 => if x6 < (Go.bits .and .i64 x0 7) then ((sleuthlaw6_adds.f).bind fun bt424 => (if x424000.length < 4398046511104 then (sleuthlaw6_ProgramMore.l0 k x0 x1 (wrap64 (x6 + 1)) (x424000 ++ [(⟨bt424.1, bt424.2⟩ : S24)])) else (none))) else (if x1 = true then (if x424000.length < 4398046511104 then ((sleuthlaw0_Num.f 0).bind fun t434 => (if t434 = 0 then ((program_May.f (x424000 ++ [(⟨0, ([] : List (S33))⟩ : S24)])).bind fun t435 => (some (t435 == false))) else (none))) else (none)) else ((sleuthlaw0_Num.f 0).bind fun t436 => (if t436 = 0 then ((program_May.f x424000).bind fun t437 => (some (t437 == (decide ((wrap64 (2 + (Go.bits .and .i64 x0 7))) ≤ 8))))) else (none))))
def sleuthlaw6_ProgramMore.f (k : Nat) (a0 : Int) (a1 : Bool) : Option (Bool) := (sleuthlaw6_awake.f).bind fun t419 => (if t419 = true then ((sleuthlaw6_small.f).bind fun t420 => (sleuthlaw6_ProgramMore.l0 k a0 a1 0 t420)) else (none))
theorem sleuthlaw6_ProgramMore.mono_l : ∀ k, (∀ y0 y1 y2 y3, LeO (sleuthlaw6_ProgramMore.l0 k y0 y1 y2 y3) (sleuthlaw6_ProgramMore.l0 (k + 1) y0 y1 y2 y3))
  | 0 => fun _ _ _ _ r h => by simp [sleuthlaw6_ProgramMore.l0] at h
  | k + 1 => by
    have ih0 := sleuthlaw6_ProgramMore.mono_l k
    · intro y0 y1 y2 y3
      unfold sleuthlaw6_ProgramMore.l0
      repeat' first
      | (with_reducible exact ih0 _ _ _ _)
      | (with_reducible exact LeO.refl _)
      | (with_reducible exact LeO.none _)
      | (with_reducible refine LeO.ite ?_ ?_)
      | (with_reducible refine LeO.bind ?_ (fun _ => ?_))
      | exact ih0 _ _ _ _
      | exact LeO.none _
      | refine LeO.ite ?_ ?_
      | refine LeO.bind ?_ (fun _ => ?_)
theorem sleuthlaw6_ProgramMore.mono : ∀ a0 a1 k, LeO (sleuthlaw6_ProgramMore.f k a0 a1) (sleuthlaw6_ProgramMore.f (k + 1) a0 a1) := by
  intro a0 a1 k
  have ih0 := sleuthlaw6_ProgramMore.mono_l k
  unfold sleuthlaw6_ProgramMore.f
  repeat' first
      | (with_reducible exact ih0 _ _ _ _)
      | (with_reducible exact LeO.refl _)
      | (with_reducible exact LeO.none _)
      | (with_reducible refine LeO.ite ?_ ?_)
      | (with_reducible refine LeO.bind ?_ (fun _ => ?_))
      | exact ih0 _ _ _ _
      | exact LeO.none _
      | refine LeO.ite ?_ ?_
      | refine LeO.bind ?_ (fun _ => ?_)
set_option maxHeartbeats 8000000 in
set_option maxRecDepth 100000 in
theorem sleuthlaw6_ProgramMore.calls (k : Nat) (a0 : Int) (a1 : Bool) (r : Bool) (w : World) (h : sleuthlaw6_ProgramMore.f k a0 a1 = some r) :
    Calls Try.prog 10 #[.int .i64 a0, .bool a1] w fun e w' => e = .returned (.bool r) ∧ Below w.heap.size w w' := by
  have hu41 := Try.underlying41
  have hu24 := Try.underlying24
  have HB := Aside0.mk (Below.refl w.heap.size w)
  have H : ((sleuthlaw6_awake.f).bind fun t419 => (if t419 = true then ((sleuthlaw6_small.f).bind fun t420 => (sleuthlaw6_ProgramMore.l0 k a0 a1 0 t420)) else (none))) = some r := h
  clear h
  replace H := Option.bind_eq_some_iff.mp H
  obtain ⟨t419, A30, H⟩ := H
  replace H : (if t419 = true then ((sleuthlaw6_small.f).bind fun t420 => (sleuthlaw6_ProgramMore.l0 k a0 a1 0 t420)) else (none)) = some r := H
  have A3 := Aside0.mk A30
  clear A30
  by_cases c4 : t419 = true
  · subst c4
    have H1 : ((sleuthlaw6_small.f).bind fun t420 => (sleuthlaw6_ProgramMore.l0 k a0 a1 0 t420)) = some r := by rw [if_pos rfl] at H; exact H
    clear H
    have H := H1
    clear H1
    replace H := Option.bind_eq_some_iff.mp H
    obtain ⟨t420, A50, H⟩ := H
    replace H : (sleuthlaw6_ProgramMore.l0 k a0 a1 0 t420) = some r := H
    have A5 := Aside0.mk A50
    clear A50
    have H' := Aside0.mk H
    clear H
    go_enter Try.func10, Try.ntmps10
    go_wp2_with (first | ((with_reducible refine gate_callee (f := 23) rfl ?_); refine goesL_ (some 7) rfl rfl Try.func23 (by kernel_rfl) rfl #[] rfl (by (try simp only [List.map_toArray, List.map_cons, List.map_nil]); first | done | rfl | (simp only [List.length_drop, List.length_take]; rfl)) ?_; (with_reducible refine (sleuthlaw6_awake.calls  true _ A3.out).mono ?_); rintro e w6 ⟨rfl, hb⟩; refine ⟨_, rfl, ?_⟩; have n0_ := Aside0.mk (below_step (by repeat (first | (with_reducible first | exact HB.out | apply below_alloc | apply pw_below_drewN | apply below_drew1) | exact HB.out)) hb); clear HB; have HB := n0_; clear n0_; (try clear hb); (try clear hb2); (try clear hk); (try clear hi)) | ((with_reducible refine gate_callee (f := 24) rfl ?_); refine goesL_ (some 9) rfl rfl Try.func24 (by kernel_rfl) rfl #[] rfl (by (try simp only [List.map_toArray, List.map_cons, List.map_nil]); first | done | rfl | (simp only [List.length_drop, List.length_take]; rfl)) ?_; (with_reducible refine (sleuthlaw6_small.calls  t420 _ A5.out).mono ?_); rintro e w7 ⟨v421, rfl, ho0, hb⟩; refine ⟨_, rfl, ?_⟩; have n0_ := Aside0.mk (Kd.N_lower (Kd.N_mono (ok' := fun k_ => True) ho0 (fun k_ hk_ => trivial)) (below_size (by repeat (first | (with_reducible first | exact HB.out | apply below_alloc | apply pw_below_drewN | apply below_drew1) | exact HB.out)))); have n1_ := Aside0.mk (below_step (by repeat (first | (with_reducible first | exact HB.out | apply below_alloc | apply pw_below_drewN | apply below_drew1) | exact HB.out)) hb); clear HB; have HO422 := n0_; have HB := n1_; clear n0_ n1_; (try clear hb); (try clear hb2); (try clear hk); (try clear hi); (try clear ho0)) | ((with_reducible refine gate_dst (N := 5) rfl ?_); refine box_event ?hg (N := 5) ?hd (cs := #[.slice none 0 0]) (t := 41) ?hr ?_; (case hd => rfl); (case hg => rfl); (case hr => first | (go_simp; done) | (go_simp; rfl)); intro gb423 hg w8 hbox hb; have n0_ := Aside0.mk (Kd.N_below (Kd.N_elderB (by (with_reducible repeat (first | apply Kd.N_alloc | apply Kd.N_drewN | apply Kd.N_drew)); exact HO422.out) gb423 (Nat.le_of_eq hg.symm)) hb); have n1_ := Aside0.mk (below_step (by repeat (first | (with_reducible first | exact HB.out | apply below_alloc | apply pw_below_drewN | apply below_drew1) | exact HB.out)) hb); have n2_ := Aside0.mk (hbox); have n3_ := Aside0.mk ((by rw [hg]; exact (below_size (by repeat (first | (with_reducible first | exact HB.out | apply below_alloc | apply pw_below_drewN | apply below_drew1) | exact HB.out))) : w.heap.size ≤ gb423)); have n4_ := Aside0.mk ((by rw [hg]; exact (below_size (by repeat (first | (with_reducible first | exact HB.out | apply below_alloc | apply pw_below_drewN | apply below_drew1) | exact HB.out))) : w.heap.size ≤ gb423)); clear HO422; clear HB; have HO422 := n0_; have HB := n1_; have BK423 := n2_; have GW423 := n3_; have GE423 := n4_; clear n0_ n1_ n2_ n3_ n4_; clear hb hbox hg; obtain ⟨Ao9, co9, eo9⟩ := Kd.N_slice HO422.out; subst eo9; have hcz10_0 : w8.cell? ⟨gb423, 0, none⟩ = some (.slice none 0 0) := (blk_cell BK423.out 0).trans rfl; have hfz10_0 := blk_frozen BK423.out 0))
    go_loopg [6] k (fun kq v6 w' => ∃ (x6_1 : Int) (x424000_1 : List (S24)) (u424000 : Value), v6 = .int .i64 x6_1 ∧ Aside0 (sleuthlaw6_ProgramMore.l0 kq a0 a1 x6_1 x424000_1 = some r) ∧ Aside0 (kq ≤ k) ∧ Aside0 (Kd.N k24 24 w' w.heap.size (fun k_ => k_ ≠ gb423) u424000 x424000_1) ∧ Aside0 (w'.heap[gb423]? = some (.cells #[u424000] 41 (0, 0))) ∧ Aside0 (Below w.heap.size w w'))
    case atStart => exact ⟨(0), (t420), (.slice Ao9 t420.length co9), (by first | rfl | (simp; done) | (simp [*]; done)), H', ⟨Nat.le_refl _⟩, ⟨by (with_reducible repeat (first | apply Kd.N_alloc | apply Kd.N_drewN | apply Kd.N_drew)); exact Kd.N_mono (Kd.N_far (p := ⟨gb423, 0, none⟩) (Kd.N_mono HO422.out (fun k_ hk => (⟨hk, hk.2⟩ : _ ∧ k_ ≠ gb423))) (fun _ hk => hk.2) (.slice Ao9 t420.length co9)) (fun _ hk => hk.1.2)⟩, ⟨by (with_reducible repeat (first | refine blk_drewN ?_ _ | refine blk_drew ?_ | refine blk_alloc ?_ _)); refine blk_put (cs := #[.slice none 0 0]) ?_ 0 _ rfl; (with_reducible repeat (first | refine blk_drewN ?_ _ | refine blk_drew ?_ | refine blk_alloc ?_ _)); exact BK423.out⟩, ⟨by repeat (first | (with_reducible first | exact HB.out | apply below_alloc | apply pw_below_drewN | apply below_drew1 | refine below_set ?_ GE423.out) | exact HB.out)⟩⟩
    case round =>
      clear H'
      try clear c1
      try clear c2
      try clear p2
      try clear c4
      try clear c10
      try clear hcz10_0
      try clear hfz10_0
      obtain ⟨x6_1, x424000_1, u424000, rfl, HA, HK1, HO_424000, BK423, HB⟩ := hrel
      cases gk with
      | zero => exact absurd HA.out (by simp [sleuthlaw6_ProgramMore.l0])
      | succ k1 =>
        have H := HA.out
        clear HA
        simp only [sleuthlaw6_ProgramMore.l0] at H
        by_cases c11 : x6_1 < (Go.bits .and .i64 a0 7)
        · rw [if_pos c11] at H
          have c11b0 : decide (x6_1 < (Go.bits .and .i64 a0 7)) = true := decide_eq_true c11
          clear c11
          replace H := Option.bind_eq_some_iff.mp H
          obtain ⟨⟨t424, t425⟩, A120, H⟩ := H
          replace H : (if x424000_1.length < 4398046511104 then (sleuthlaw6_ProgramMore.l0 k1 a0 a1 (wrap64 (x6_1 + 1)) (x424000_1 ++ [(⟨t424, t425⟩ : S24)])) else (none)) = some r := H
          have A12 := Aside0.mk A120
          clear A120
          by_cases c13 : x424000_1.length < 4398046511104
          · rw [if_pos c13] at H
            have LMc13 := Aside0.mk c13
            clear c13
            obtain ⟨y428, hy428⟩ : ∃ y_ : List (S24), y_ = (x424000_1 ++ [(⟨t424, t425⟩ : S24)]) := ⟨_, rfl⟩
            replace H : (sleuthlaw6_ProgramMore.l0 k1 a0 a1 (wrap64 (x6_1 + 1)) y428) = some r := by first | (rw [hy428]; with_reducible exact H) | (have H2_ := (Option.bind_some _ _).symm.trans H; rw [hy428]; with_reducible exact H2_) | (have H2_ := (Option.bind_some _ _).symm.trans H; with_reducible exact H2_) | with_reducible exact H | (rw [hy428]; exact H) | exact H
            have Ny428 := Aside0.mk hy428
            clear hy428
            have H' := Aside0.mk H
            clear H
            try go_wp2
            have n0_ := Aside0.mk (Kd.N_drew HO_424000.out)
            have n1_ := Aside0.mk (blk_drew BK423.out)
            have n2_ := Aside0.mk (below_drew1 HB.out)
            clear HO_424000
            clear BK423
            clear HB
            have HO_424000 := n0_
            have BK423 := n1_
            have HB := n2_
            clear n0_ n1_ n2_
            refine start_ (n := 7) (S := fun w' => w'.cell? ⟨gb423, 0, none⟩ = some (u424000)) (ds := [6]) #[false, false, false, false, false, false, false] (by kernel_rfl) rfl rfl ((blk_cell BK423.out 0).trans rfl) (fun hHeld => ?_)
            generalize wr.drew = w14 at HO_424000 BK423 HB hHeld ⊢
            refine pure_ (i := 0) (N := some 16) (v := ?_) (a' := ?_) #[true, false, false, false, false, false, false] rfl rfl (by kernel_rfl) (fun _ _ _ h => h) (Or.inl ⟨by rfl, ?_⟩) ?_ ?_
            rotate_left
            · intro w'
              go_simp
              with_reducible rfl
            rotate_left
            · simp only [Act.put, List.setIfInBounds_toArray, List.set_cons_zero, List.set_cons_succ, i64_w, i32_w]
              rfl
            refine take_ (i := 1) (N := some 17) (v := ?_) (a' := ?_) #[true, true, false, false, false, false, false] rfl rfl (by kernel_rfl) (fun _ _ _ h => h) (Or.inl ⟨by rfl, ?_⟩) hHeld ?_ ?_
            rotate_left
            · intro w' s0
              go_simp
              with_reducible rfl
            rotate_left
            · simp only [Act.put, List.setIfInBounds_toArray, List.set_cons_zero, List.set_cons_succ, i64_w, i32_w]
              rfl
            refine one_ (i := 2) (N := some 18) #[true, true, true, false, false, false, false] rfl rfl (by kernel_rfl) (by decide) (fun K hK => ?_)
            refine goes_ Try.func25 (by kernel_rfl) rfl #[] (by rfl) rfl rfl (by (try simp only [List.map_toArray, List.map_cons, List.map_nil]); first | done | rfl | (simp only [List.length_drop, List.length_take]; rfl)) ?_
            with_reducible refine (sleuthlaw6_adds.calls  t424 t425 _ A12.out).mono ?_
            rintro e w15 ⟨v426, rfl, ho0, hb⟩
            refine ⟨_, rfl, ?_⟩
            have n0_ := Aside0.mk (Kd.N_elder' (by (with_reducible repeat (first | apply Kd.N_alloc | apply Kd.N_drewN | apply Kd.N_drew)); exact HO_424000.out) (Kd.N_base ho0) hb)
            have n1_ := Aside0.mk (Kd.N_lower (Kd.N_mono (ok' := fun k_ => some k_ ≠ (u424000 : Value).ownBlock ∧ k_ ≠ gb423) ho0 (fun k_ hk_ => ⟨(Kd.fresh' (Kd.N_lt (by (with_reducible repeat (first | apply Kd.N_alloc | apply Kd.N_drewN | apply Kd.N_drew)); exact HO_424000.out)) k_ hk_), (Kd.freshB (g := gb423) (o := .cells #[u424000] 41 (0, 0)) (by (with_reducible repeat (first | refine blk_drewN ?_ _ | refine blk_drew ?_ | refine blk_alloc ?_ _)); exact BK423.out) k_ hk_)⟩)) (below_size (by repeat (first | (with_reducible first | exact HB.out | apply below_alloc | apply pw_below_drewN | apply below_drew1 | refine below_set ?_ GE423.out) | exact HB.out))))
            have n2_ := Aside0.mk (blk_below (g := gb423) (o := .cells #[u424000] 41 (0, 0)) (by (with_reducible repeat (first | refine blk_drewN ?_ _ | refine blk_drew ?_ | refine blk_alloc ?_ _)); exact BK423.out) hb)
            have n3_ := Aside0.mk (below_step (by repeat (first | (with_reducible first | exact HB.out | apply below_alloc | apply pw_below_drewN | apply below_drew1 | refine below_set ?_ GE423.out) | exact HB.out)) hb)
            clear HO_424000
            clear BK423
            clear HB
            have HO_424000 := n0_
            have HO427 := n1_
            have BK423 := n2_
            have HB := n3_
            clear n0_ n1_ n2_ n3_
            (try clear hb)
            (try clear hb2)
            (try clear hk)
            (try clear hi)
            (try clear ho0)
            obtain ⟨Ao17, co17, eo17⟩ := Kd.N_slice HO427.out
            (first | subst eo17 | (injection eo17 with f1_ f2_ f3_; have f4_ := f1_.symm; have f5_ := f3_.symm; clear f1_ f2_ f3_; subst f4_; subst f5_))
            refine hK.out _ _ ((blk_cell BK423.out 0).trans rfl) (fun hHeld => ?_)
            clear hK K
            refine norm_ (a' := ?_) ?_ ?_
            rotate_left
            · show Act.put _ (some 18) _ = _
              simp only [Act.put, List.setIfInBounds_toArray, List.set_cons_zero, List.set_cons_succ, i64_w, i32_w]
              rfl
            refine one_ (i := 3) (N := some 19) #[true, true, true, true, false, false, false] rfl rfl (by kernel_rfl) (by decide) (fun K hK => ?_)
            refine value_ (w1 := ?_) (v := ?_) (by rfl) rfl ?_ ?_
            rotate_left 2
            · go_simp
              constructor
              · rfl
              · rfl
            refine hK.out _ _ ((blk_cell (blk_alloc BK423.out _) 0).trans rfl) (fun hHeld => ?_)
            clear hK K
            refine norm_ (a' := ?_) ?_ ?_
            rotate_left
            · show Act.put _ (some 19) _ = _
              simp only [Act.put, List.setIfInBounds_toArray, List.set_cons_zero, List.set_cons_succ, i64_w, i32_w]
              rfl
            refine one_ (i := 4) (N := some 20) #[true, true, true, true, true, false, false] rfl rfl (by kernel_rfl) (by decide) (fun K hK => ?_)
            refine Kd.N_append_step k24 (w0 := w) w.heap.size (by rfl) (.tmp 17) (.tmp 19) 39 24 (.agg #[(.int .i64 0), (.slice none 0 0)]) 32 rfl Try.underlying39 info24 rfl (by decide) (by omega) u424000 x424000_1 (⟨t424, t425⟩ : S24) [.int .i64 t424, .slice Ao17 t425.length co17] (fun k_ => k_ ≠ gb423) (fun k_ => ((fun k_ => k_ ≠ gb423)) k_ ∧ some k_ ≠ (u424000 : Value).ownBlock) rfl rfl ?aP (fun _ hk => hk) ?aF ?aO ?aB ?aS ?aL ?_
            (case aP => exact (k24_mkF _ _ (⟨t424, t425⟩ : S24) (Kd.N_reads' (Kd.N_mono (ok' := (fun k_ => ((fun k_ => k_ ≠ gb423)) k_ ∧ some k_ ≠ (u424000 : Value).ownBlock)) (HO427.out) (fun k_ hk => ⟨hk.2, hk.1⟩))).2.1 (Kd.N_F (Kd.N_mono (ok' := (fun k_ => ((fun k_ => k_ ≠ gb423)) k_ ∧ some k_ ≠ (u424000 : Value).ownBlock)) (HO427.out) (fun k_ hk => ⟨hk.2, hk.1⟩)))))
            (case aB => exact (by repeat (first | (with_reducible first | exact HB.out | apply below_alloc | apply pw_below_drewN | apply below_drew1 | refine below_set ?_ GE423.out) | exact HB.out)))
            (case aF => exact (fun k_ hk => Kd.freshB (g := gb423) (o := .cells #[u424000] 41 (0, 0)) (by (with_reducible repeat (first | refine blk_drewN ?_ _ | refine blk_drew ?_ | refine blk_alloc ?_ _)); exact BK423.out) k_ hk))
            (case aO => exact (by (with_reducible repeat (first | apply Kd.N_alloc | apply Kd.N_drewN | apply Kd.N_drew)); exact Kd.N_mono HO_424000.out (fun _ hk => hk.1)))
            (case aS => exact (below_size (by repeat (first | (with_reducible first | exact HB.out | apply below_alloc | apply pw_below_drewN | apply below_drew1 | refine below_set ?_ GE423.out) | exact HB.out))))
            (case aL => have := LMc13.out; omega)
            intro v429 w16 ho hb hg hat
            rw [← Ny428.out] at ho
            have n0_ := Aside0.mk (blk_grown (g := gb423) (o := .cells #[u424000] 41 (0, 0)) (by (with_reducible repeat (first | refine blk_drewN ?_ _ | refine blk_drew ?_ | refine blk_alloc ?_ _)); exact BK423.out) hg (Kd.N_ne HO_424000.out BK423.out (by decide)))
            have n1_ := Aside0.mk (hb)
            have n2_ := Aside0.mk (ho)
            clear BK423
            clear HB
            clear HO_424000
            clear HO427
            have BK423 := n0_
            have HB := n1_
            have HO430 := n2_
            clear n0_ n1_ n2_
            clear ho hb hg hat
            obtain ⟨Ao18, co18, eo18⟩ := Kd.N_slice HO430.out
            (first | subst eo18 | (injection eo18 with f1_ f2_ f3_; have f4_ := f1_.symm; have f5_ := f3_.symm; clear f1_ f2_ f3_; subst f4_; subst f5_))
            refine hK.out _ _ ((blk_cell BK423.out 0).trans rfl) (fun hHeld => ?_)
            clear hK K
            refine norm_ (a' := ?_) ?_ ?_
            rotate_left
            · show Act.put _ (some 20) _ = _
              simp only [Act.put, List.setIfInBounds_toArray, List.set_cons_zero, List.set_cons_succ, i64_w, i32_w]
              rfl
            refine pure_ (i := 5) (N := some 21) (v := ?_) (a' := ?_) #[true, true, true, true, true, true, false] rfl rfl (by kernel_rfl) (fun _ _ _ h => h) (Or.inl ⟨by rfl, ?_⟩) ?_ ?_
            rotate_left
            · intro w'
              go_simp
              with_reducible rfl
            rotate_left
            · simp only [Act.put, List.setIfInBounds_toArray, List.set_cons_zero, List.set_cons_succ, i64_w, i32_w]
              rfl
            refine last_ (i := 6) (N := none) #[true, true, true, true, true, true, true] rfl rfl (by kernel_rfl) (by decide) (fun K hK => ?_)
            have hs19 : w16.cell? ⟨gb423, 0, none⟩ = some (u424000) := (blk_cell BK423.out 0).trans rfl
            have hfs19 := blk_frozen BK423.out 0
            refine skip_ (w1 := ?_) (by rfl) rfl ?_ ?_
            rotate_left
            · go_simp
              rfl
            refine hK.out _ _ ?_
            clear hK K
            refine done_ (by kernel_rfl) ?_
            try go_wp2
            go_roundg k1
            case measure => have := HK1.out; omega
            case rel => exact ⟨(wrap64 (x6_1 + 1)), (y428), (.slice Ao18 y428.length co18), (by first | rfl | (simp; done) | (simp [*]; done)), H', ⟨by have := HK1.out; omega⟩, ⟨by (with_reducible repeat (first | apply Kd.N_alloc | apply Kd.N_drewN | apply Kd.N_drew)); exact Kd.N_mono (Kd.N_far (p := ⟨gb423, 0, none⟩) (Kd.N_mono HO430.out (fun k_ hk => (⟨hk, hk⟩ : _ ∧ k_ ≠ gb423))) (fun _ hk => hk.2) (.slice Ao18 y428.length co18)) (fun _ hk => hk.1)⟩, ⟨by (with_reducible repeat (first | refine blk_drewN ?_ _ | refine blk_drew ?_ | refine blk_alloc ?_ _)); refine blk_put (cs := #[u424000]) ?_ 0 _ rfl; (with_reducible repeat (first | refine blk_drewN ?_ _ | refine blk_drew ?_ | refine blk_alloc ?_ _)); exact BK423.out⟩, ⟨by repeat (first | (with_reducible first | exact HB.out | apply below_alloc | apply pw_below_drewN | apply below_drew1 | refine below_set ?_ GE423.out) | exact HB.out)⟩⟩
          · rw [if_neg c13] at H
            exact absurd H (by simp)
        · rw [if_neg c11] at H
          have c11b0 : decide (x6_1 < (Go.bits .and .i64 a0 7)) = false := decide_eq_false c11
          clear c11
          by_cases c20 : a1 = true
          · subst c20
            have H1 : (if x424000_1.length < 4398046511104 then ((sleuthlaw0_Num.f 0).bind fun t434 => (if t434 = 0 then ((program_May.f (x424000_1 ++ [(⟨0, ([] : List (S33))⟩ : S24)])).bind fun t435 => (some (t435 == false))) else (none))) else (none)) = some r := by rw [if_pos rfl] at H; exact H
            clear H
            have H := H1
            clear H1
            by_cases c21 : x424000_1.length < 4398046511104
            · rw [if_pos c21] at H
              have LMc21 := Aside0.mk c21
              clear c21
              obtain ⟨y431, hy431⟩ : ∃ y_ : List (S24), y_ = (x424000_1 ++ [(⟨0, ([] : List (S33))⟩ : S24)]) := ⟨_, rfl⟩
              replace H : ((sleuthlaw0_Num.f 0).bind fun t434 => (if t434 = 0 then ((program_May.f y431).bind fun t435 => (some (t435 == false))) else (none))) = some r := by first | (rw [hy431]; with_reducible exact H) | (have H2_ := (Option.bind_some _ _).symm.trans H; rw [hy431]; with_reducible exact H2_) | (have H2_ := (Option.bind_some _ _).symm.trans H; with_reducible exact H2_) | with_reducible exact H | (rw [hy431]; exact H) | exact H
              have Ny431 := Aside0.mk hy431
              clear hy431
              replace H := Option.bind_eq_some_iff.mp H
              obtain ⟨t434, A220, H⟩ := H
              replace H : (if t434 = 0 then ((program_May.f y431).bind fun t435 => (some (t435 == false))) else (none)) = some r := H
              have A22 := Aside0.mk A220
              clear A220
              by_cases c23 : t434 = 0
              · rw [if_pos c23] at H
                have c23b0 : (t434 == 0) = true := beq_iff_eq.mpr c23
                have c23b1 : (t434 != 0) = false := bne_eq_false_iff_eq.mpr c23
                clear c23
                replace H := Option.bind_eq_some_iff.mp H
                obtain ⟨t435, A240, H⟩ := H
                replace H : (some (t435 == false)) = some r := H
                have A24 := Aside0.mk A240
                clear A240
                obtain rfl := Option.some.inj H
                have hcz25_0 : wr.cell? ⟨gb423, 0, none⟩ = some (u424000) := (blk_cell BK423.out 0).trans rfl
                have hfz25_0 := blk_frozen BK423.out 0
                go_wp2_with (first | ((with_reducible refine gate_builtin (b := .append) (xs := #[.tmp 24, .tmp 26]) rfl ?_); at_builtin; refine Kd.N_append k24 (w0 := w) w.heap.size rfl (.tmp 24) (.tmp 26) 39 24 (.agg #[(.int .i64 0), (.slice none 0 0)]) 32 rfl Try.underlying39 info24 rfl (by decide) (by omega) u424000 x424000_1 (⟨0, ([] : List (S33))⟩ : S24) [.int .i64 0, .slice none 0 0] (fun k_ => k_ ≠ gb423) (fun k_ => ((fun k_ => k_ ≠ gb423)) k_ ∧ some k_ ≠ (u424000 : Value).ownBlock) rfl rfl ?aP (fun _ hk => hk) ?aF ?aO ?aB ?aS ?aL ?_; (case aP => exact (k24_mkF _ _ (⟨0, ([] : List (S33))⟩ : S24) (Nat.le_refl _) (Kd.F_nil _ _ _))); (case aB => exact (by repeat (first | (with_reducible first | exact HB.out | apply below_alloc | apply pw_below_drewN | apply below_drew1 | refine below_set ?_ GE423.out) | exact HB.out))); (case aF => exact (fun k_ hk => Kd.freshB (g := gb423) (o := .cells #[u424000] 41 (0, 0)) (by (with_reducible repeat (first | refine blk_drewN ?_ _ | refine blk_drew ?_ | refine blk_alloc ?_ _)); exact BK423.out) k_ hk)); (case aO => exact (by (with_reducible repeat (first | apply Kd.N_alloc | apply Kd.N_drewN | apply Kd.N_drew)); exact HO_424000.out)); (case aS => exact (below_size (by repeat (first | (with_reducible first | exact HB.out | apply below_alloc | apply pw_below_drewN | apply below_drew1 | refine below_set ?_ GE423.out) | exact HB.out)))); (case aL => have := LMc21.out; omega); intro v432 w26 ho hb hg hat; rw [← Ny431.out] at ho; have n0_ := Aside0.mk (blk_grown (g := gb423) (o := .cells #[u424000] 41 (0, 0)) (by (with_reducible repeat (first | refine blk_drewN ?_ _ | refine blk_drew ?_ | refine blk_alloc ?_ _)); exact BK423.out) hg (Kd.N_ne HO_424000.out BK423.out (by decide))); have n1_ := Aside0.mk (hb); have n2_ := Aside0.mk (ho); clear BK423; clear HB; clear HO_424000; have BK423 := n0_; have HB := n1_; have HO433 := n2_; clear n0_ n1_ n2_; clear ho hb hg hat; obtain ⟨Ao27, co27, eo27⟩ := Kd.N_slice HO433.out; subst eo27; have hcz28_0 : w26.cell? ⟨gb423, 0, none⟩ = some (u424000) := (blk_cell BK423.out 0).trans rfl; have hfz28_0 := blk_frozen BK423.out 0) | ((with_reducible refine gate_callee (f := 18) rfl ?_); refine goesL_ (some 29) rfl rfl Try.func18 (by kernel_rfl) rfl #[.int .i64 0] rfl (by (try simp only [List.map_toArray, List.map_cons, List.map_nil]); first | done | rfl | (simp only [List.length_drop, List.length_take]; rfl)) ?_; (with_reducible refine (sleuthlaw0_Num.calls 0 t434 _ A22.out).mono ?_); rintro e w' ⟨rfl, ⟨nd, rfl⟩⟩; refine ⟨_, rfl, ?_⟩) | (go_at_call 20; (with_reducible refine (program_May.calls _ _ y431 t435 _ ?side1 ?side2 A24.out).mono ?_); (case side1 => refine (Kd.N_reads' (e := 24) (base := w.heap.size) (ok := fun k_ => k_ ≠ gb423) (n := y431.length) (c := co27) ?_).2.2; exact (by (with_reducible repeat (first | apply Kd.N_alloc | apply Kd.N_drewN | apply Kd.N_drew)); exact (Kd.N_mono (Kd.N_far (p := ⟨gb423, 0, none⟩) (Kd.N_mono HO433.out (fun k_ hk => (⟨hk, hk⟩ : _ ∧ k_ ≠ gb423))) (fun _ hk => hk.2) (.slice Ao27 y431.length co27)) (fun _ h_ => h_.1)))); (case side2 => exact (Kd.N_reads' HO433.out).2.1); rintro e w29 ⟨rfl, hb⟩; have n0_ := Aside0.mk (Kd.N_below (by (with_reducible repeat (first | apply Kd.N_alloc | apply Kd.N_drewN | apply Kd.N_drew)); exact (Kd.N_mono (Kd.N_far (p := ⟨gb423, 0, none⟩) (Kd.N_mono HO433.out (fun k_ hk => (⟨hk, hk⟩ : _ ∧ k_ ≠ gb423))) (fun _ hk => hk.2) (.slice Ao27 y431.length co27)) (fun _ h_ => h_.1))) hb); have n1_ := Aside0.mk (blk_below (g := gb423) (o := .cells #[.slice Ao27 y431.length co27] 41 (0, 0)) (by (with_reducible repeat (first | refine blk_drewN ?_ _ | refine blk_drew ?_ | refine blk_alloc ?_ _)); refine blk_put (cs := #[u424000]) ?_ 0 _ rfl; (with_reducible repeat (first | refine blk_drewN ?_ _ | refine blk_drew ?_ | refine blk_alloc ?_ _)); exact BK423.out) hb); have n2_ := Aside0.mk (below_step (by repeat (first | (with_reducible first | exact HB.out | apply below_alloc | apply pw_below_drewN | apply below_drew1 | refine below_set ?_ GE423.out) | exact HB.out)) hb); clear HO433; clear BK423; clear HB; have HO433 := n0_; have BK423 := n1_; have HB := n2_; clear n0_ n1_ n2_; (try clear hb); (try clear hb2); (try clear hk); (try clear hi)))
                go_ret
                exact ⟨by first | rfl | (simp [errW_none, errW_some] <;> rfl) | (simp [*, errW_none, errW_some] <;> rfl), by repeat (first | (with_reducible first | exact HB.out | apply below_alloc | apply pw_below_drewN | apply below_drew1 | refine below_set ?_ GE423.out) | exact HB.out)⟩
              · rw [if_neg c23] at H
                exact absurd H (by simp)
            · rw [if_neg c21] at H
              exact absurd H (by simp)
          · replace c20 := Bool.eq_false_iff.mpr c20
            subst c20
            have H1 : ((sleuthlaw0_Num.f 0).bind fun t436 => (if t436 = 0 then ((program_May.f x424000_1).bind fun t437 => (some (t437 == (decide ((wrap64 (2 + (Go.bits .and .i64 a0 7))) ≤ 8))))) else (none))) = some r := by rw [if_neg (show ¬ (false = true) by decide)] at H; exact H
            clear H
            have H := H1
            clear H1
            replace H := Option.bind_eq_some_iff.mp H
            obtain ⟨t436, A300, H⟩ := H
            replace H : (if t436 = 0 then ((program_May.f x424000_1).bind fun t437 => (some (t437 == (decide ((wrap64 (2 + (Go.bits .and .i64 a0 7))) ≤ 8))))) else (none)) = some r := H
            have A30 := Aside0.mk A300
            clear A300
            by_cases c31 : t436 = 0
            · rw [if_pos c31] at H
              have c31b0 : (t436 == 0) = true := beq_iff_eq.mpr c31
              have c31b1 : (t436 != 0) = false := bne_eq_false_iff_eq.mpr c31
              clear c31
              replace H := Option.bind_eq_some_iff.mp H
              obtain ⟨t437, A320, H⟩ := H
              replace H : (some (t437 == (decide ((wrap64 (2 + (Go.bits .and .i64 a0 7))) ≤ 8)))) = some r := H
              have A32 := Aside0.mk A320
              clear A320
              obtain rfl := Option.some.inj H
              go_wp2_with (first | ((with_reducible refine gate_callee (f := 18) rfl ?_); refine goesL_ (some 29) rfl rfl Try.func18 (by kernel_rfl) rfl #[.int .i64 0] rfl (by (try simp only [List.map_toArray, List.map_cons, List.map_nil]); first | done | rfl | (simp only [List.length_drop, List.length_take]; rfl)) ?_; (with_reducible refine (sleuthlaw0_Num.calls 0 t436 _ A30.out).mono ?_); rintro e w' ⟨rfl, ⟨nd, rfl⟩⟩; refine ⟨_, rfl, ?_⟩; have hcz33_0 : wr.cell? ⟨gb423, 0, none⟩ = some (u424000) := (blk_cell BK423.out 0).trans rfl; have hfz33_0 := blk_frozen BK423.out 0; obtain ⟨Ao34, co34, eo34⟩ := Kd.N_slice HO_424000.out; subst eo34) | (go_at_call 20; (with_reducible refine (program_May.calls _ _ x424000_1 t437 _ ?side1 ?side2 A32.out).mono ?_); (case side1 => repeat (first | exact (Kd.N_reads' HO_424000.out).2.2 | (with_reducible refine Kd.C_alloc ?_ _) | (with_reducible refine Kd.C_drewN ?_ _) | (with_reducible refine Kd.C_drew ?_))); (case side2 => exact (Kd.N_reads' HO_424000.out).2.1); rintro e w35 ⟨rfl, hb⟩; have n0_ := Aside0.mk (Kd.N_below (by (with_reducible repeat (first | apply Kd.N_alloc | apply Kd.N_drewN | apply Kd.N_drew)); exact HO_424000.out) hb); have n1_ := Aside0.mk (blk_below (g := gb423) (o := .cells #[.slice Ao34 x424000_1.length co34] 41 (0, 0)) (by (with_reducible repeat (first | refine blk_drewN ?_ _ | refine blk_drew ?_ | refine blk_alloc ?_ _)); exact BK423.out) hb); have n2_ := Aside0.mk (below_step (by repeat (first | (with_reducible first | exact HB.out | apply below_alloc | apply pw_below_drewN | apply below_drew1 | refine below_set ?_ GE423.out) | exact HB.out)) hb); clear HO_424000; clear BK423; clear HB; have HO_424000 := n0_; have BK423 := n1_; have HB := n2_; clear n0_ n1_ n2_; (try clear hb); (try clear hb2); (try clear hk); (try clear hi)))
              go_ret
              exact ⟨by first | rfl | (simp [errW_none, errW_some] <;> rfl) | (simp [*, errW_none, errW_some] <;> rfl), by repeat (first | (with_reducible first | exact HB.out | apply below_alloc | apply pw_below_drewN | apply below_drew1 | refine below_set ?_ GE423.out) | exact HB.out)⟩
            · rw [if_neg c31] at H
              exact absurd H (by simp)
  · replace c4 := Bool.eq_false_iff.mpr c4
    subst c4
    have H1 : (none) = some r := by rw [if_neg (show ¬ (false = true) by decide)] at H; exact H
    clear H
    have H := H1
    clear H1
    exact absurd H (by simp)

/-- THE ONE PURE STATEMENT of sleuthlaw6_ProgramMore: yours. -/
def sleuthlaw6_ProgramMore.Pure : Prop := ∀ (a0 : Int) (a1 : Bool), (Lit.int .i64 a0).wf = true → ∃ k, sleuthlaw6_ProgramMore.f k a0 a1 = some true
theorem sleuthlaw6_ProgramMore.walk (P : sleuthlaw6_ProgramMore.Pure) (a0 : Int) (a1 : Bool) (w : World) (w0 : (Lit.int .i64 a0).wf = true) :
    Calls Try.prog 10 #[.int .i64 a0, .bool a1] w fun e w' => e = .returned (.bool true) ∧ Below w.heap.size w w' := by
  obtain ⟨k, h⟩ := P a0 a1 w0
  refine (sleuthlaw6_ProgramMore.calls k a0 a1 true w h).mono ?_
  rintro e w' ⟨rfl, hd⟩
  exact ⟨rfl, hd⟩

-- NOT PRINTED: function 11 (sleuthlaw6_ProgramRow)


end Go.Proofs.Ytkpblifelpokfaa.PAll
