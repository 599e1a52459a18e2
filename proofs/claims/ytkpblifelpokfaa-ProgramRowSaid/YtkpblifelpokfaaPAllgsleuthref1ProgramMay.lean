/- Written by a program of this session (ownprint.py, over the print of the kit): what Go functions compute, each as a Lean function, and that they compute it; some functions by contracts of the session (texts of their own). No condition. -/
import Derived.Test.YtkpblifelpokfaaPAllx0
import Derived.Test.YtkpblifelpokfaaPAllgsleuthref1upTo
import Derived.Test.YtkpblifelpokfaaPAllgsleuthref1DefMay
namespace Go.Proofs.Ytkpblifelpokfaa.PAll
open Go.RowKit Go.Proofs.YtkpblifelpokfaaW.PrintWords Go.Proofs.YtkpblifelpokfaaW.PrintLast Go.Proofs.YtkpblifelpokfaaW.PrintMore
attribute [local go_sem] max2_int min2_int max_two min_two max_three min_three max_four min_four   -- for this text's walks alone
set_option linter.unusedVariables false
set_option linter.unusedSimpArgs false

/-! ### sleuthref1_ProgramMay: function 21 -/
mutual
def sleuthref1_ProgramMay.j0 : Nat → Bool → List (S24) → Option (Bool)
 | 0,_,_ => none
 | k + 1,x18,x331000 => if x18 = true then (some false) else (sleuthref1_ProgramMay.l0 k 0 x331000)
def sleuthref1_ProgramMay.l0 : Nat → Int → List (S24) → Option (Bool)
 | 0,_,_ => none
 | k + 1,x3,x331000 => if x3 < (x331000.length : Int) then (if 0 ≤ x3 then ((sleuthref1_DefMay.f k ((rd_T24 x331000 x3).f0) ((rd_T24 x331000 x3).f1)).bind fun t334 => (if t334 = true then (sleuthref1_ProgramMay.l1 k x3 0 x331000) else (some false))) else (none)) else (some true)
def sleuthref1_ProgramMay.l1 : Nat → Int → Int → List (S24) → Option (Bool)
 | 0,_,_,_ => none
 | k + 1,x3,x4,x331000 => if 0 ≤ x3 then (if x3 < (x331000.length : Int) then (if x4 < (((rd_T24 x331000 x3).f1).length : Int) then (if 0 ≤ x4 then (if ((rd_T33 ((rd_T24 x331000 x3).f1) x4).f0) = 2 then (if ((rd_T33 ((rd_T24 x331000 x3).f1) x4).f1) ≥ (x331000.length : Int) then (some false) else (if 0 ≤ ((rd_T33 ((rd_T24 x331000 x3).f1) x4).f1) then (if ((rd_T33 ((rd_T24 x331000 x3).f1) x4).f1) < (x331000.length : Int) then (if (((rd_T33 ((rd_T24 x331000 x3).f1) x4).f3).length : Int) = ((rd_T24 x331000 ((rd_T33 ((rd_T24 x331000 x3).f1) x4).f1)).f0) then (sleuthref1_ProgramMay.l1 k x3 (wrap64 (x4 + 1)) x331000) else (some false)) else (none)) else (none))) else (sleuthref1_ProgramMay.l1 k x3 (wrap64 (x4 + 1)) x331000)) else (none)) else (sleuthref1_ProgramMay.l0 k (wrap64 (x3 + 1)) x331000)) else (none)) else (none)
end
def sleuthref1_ProgramMay.f (k : Nat) (l0_0 : List (S24)) : Option (Bool) := (sleuthref1_upTo.f (l0_0.length : Int) 1 8).bind fun t331 => (if t331 = true then (if 0 < (l0_0.length : Int) then (sleuthref1_ProgramMay.j0 k (((rd_T24 l0_0 0).f0) != 0) l0_0) else (none)) else (sleuthref1_ProgramMay.j0 k true l0_0))
theorem sleuthref1_ProgramMay.mono_l : ∀ k,(∀ y0 y1,LeO (sleuthref1_ProgramMay.j0 k y0 y1) (sleuthref1_ProgramMay.j0 (k + 1) y0 y1)) ∧ (∀ y0 y1,LeO (sleuthref1_ProgramMay.l0 k y0 y1) (sleuthref1_ProgramMay.l0 (k + 1) y0 y1)) ∧ (∀ y0 y1 y2,LeO (sleuthref1_ProgramMay.l1 k y0 y1 y2) (sleuthref1_ProgramMay.l1 (k + 1) y0 y1 y2))
 | 0 => ⟨fun _ _ r h => by simp [sleuthref1_ProgramMay.j0] at h,fun _ _ r h => by simp [sleuthref1_ProgramMay.l0] at h,fun _ _ _ r h => by simp [sleuthref1_ProgramMay.l1] at h⟩
 | k + 1 => by
  obtain ⟨ih0,ih1,ih2⟩ := sleuthref1_ProgramMay.mono_l k
  refine ⟨?_,?_,?_⟩
  ·intro y0 y1
   unfold sleuthref1_ProgramMay.j0
   repeat' first
   | (with_reducible exact ih0 _ _)
   | (with_reducible exact ih1 _ _)
   | (with_reducible exact ih2 _ _ _)
   | (with_reducible exact sleuthref1_DefMay.mono _ _ _)
   | (with_reducible exact LeO.refl _)
   | (with_reducible exact LeO.none _)
   | (with_reducible refine LeO.ite ?_ ?_)
   | (with_reducible refine LeO.bind ?_ (fun _ => ?_))
   | exact ih0 _ _
   | exact ih1 _ _
   | exact ih2 _ _ _
   | exact sleuthref1_DefMay.mono _ _ _
   | exact LeO.none _
   | refine LeO.ite ?_ ?_
   | refine LeO.bind ?_ (fun _ => ?_)
  ·intro y0 y1
   unfold sleuthref1_ProgramMay.l0
   repeat' first
   | (with_reducible exact ih0 _ _)
   | (with_reducible exact ih1 _ _)
   | (with_reducible exact ih2 _ _ _)
   | (with_reducible exact sleuthref1_DefMay.mono _ _ _)
   | (with_reducible exact LeO.refl _)
   | (with_reducible exact LeO.none _)
   | (with_reducible refine LeO.ite ?_ ?_)
   | (with_reducible refine LeO.bind ?_ (fun _ => ?_))
   | exact ih0 _ _
   | exact ih1 _ _
   | exact ih2 _ _ _
   | exact sleuthref1_DefMay.mono _ _ _
   | exact LeO.none _
   | refine LeO.ite ?_ ?_
   | refine LeO.bind ?_ (fun _ => ?_)
  ·intro y0 y1 y2
   unfold sleuthref1_ProgramMay.l1
   repeat' first
   | (with_reducible exact ih0 _ _)
   | (with_reducible exact ih1 _ _)
   | (with_reducible exact ih2 _ _ _)
   | (with_reducible exact sleuthref1_DefMay.mono _ _ _)
   | (with_reducible exact LeO.refl _)
   | (with_reducible exact LeO.none _)
   | (with_reducible refine LeO.ite ?_ ?_)
   | (with_reducible refine LeO.bind ?_ (fun _ => ?_))
   | exact ih0 _ _
   | exact ih1 _ _
   | exact ih2 _ _ _
   | exact sleuthref1_DefMay.mono _ _ _
   | exact LeO.none _
   | refine LeO.ite ?_ ?_
   | refine LeO.bind ?_ (fun _ => ?_)
theorem sleuthref1_ProgramMay.mono : ∀ a0 k,LeO (sleuthref1_ProgramMay.f k a0) (sleuthref1_ProgramMay.f (k + 1) a0) := by
 intro a0 k
 obtain ⟨ih0,ih1,ih2⟩ := sleuthref1_ProgramMay.mono_l k
 unfold sleuthref1_ProgramMay.f
 repeat' first
   | (with_reducible exact ih0 _ _)
   | (with_reducible exact ih1 _ _)
   | (with_reducible exact ih2 _ _ _)
   | (with_reducible exact sleuthref1_DefMay.mono _ _ _)
   | (with_reducible exact LeO.refl _)
   | (with_reducible exact LeO.none _)
   | (with_reducible refine LeO.ite ?_ ?_)
   | (with_reducible refine LeO.bind ?_ (fun _ => ?_))
   | exact ih0 _ _
   | exact ih1 _ _
   | exact ih2 _ _ _
   | exact sleuthref1_DefMay.mono _ _ _
   | exact LeO.none _
   | refine LeO.ite ?_ ?_
   | refine LeO.bind ?_ (fun _ => ?_)
set_option maxHeartbeats 8000000 in
set_option maxRecDepth 100000 in
theorem sleuthref1_ProgramMay.calls (k : Nat) (A0_0 : Option Addr) (c0_0 : Nat) (l0_0 : List (S24)) (r : Bool) (w : World) (hr0_0 : Kd.C k24 w A0_0 l0_0.length l0_0) (hc0_0 : l0_0.length ≤ c0_0) (h : sleuthref1_ProgramMay.f k l0_0 = some r) :
  Calls Try.prog 21 #[.agg #[.slice A0_0 l0_0.length c0_0]] w fun e w' => e = .returned (.bool r) ∧ Below w.heap.size w w' := by
 have hu41 := Try.underlying41
 have hu24 := Try.underlying24
 have hu33 := Try.underlying33
 have HR0_0 := Aside0.mk hr0_0
 have HC0_0 := Aside0.mk hc0_0
 clear hr0_0 hc0_0
 have HB := Aside0.mk (Below.refl w.heap.size w)
 have H : ((sleuthref1_upTo.f (l0_0.length : Int) 1 8).bind fun t331 => (if t331 = true then (if 0 < (l0_0.length : Int) then (sleuthref1_ProgramMay.j0 k (((rd_T24 l0_0 0).f0) != 0) l0_0) else (none)) else (sleuthref1_ProgramMay.j0 k true l0_0))) = some r := h
 clear h
 have HC2 := Aside0.mk H
 clear H
 go_enter Try.func21,Try.ntmps21
 go_upto_region 1 with (first | ((with_reducible refine gate_dst (N := 1) rfl ?_); (try (refine gate_guard (by rfl) ?_; dsimp only)); refine box_event ?hg (N := 1) ?hd (cs := #[.slice A0_0 l0_0.length c0_0]) (t := 41) ?hr ?_; (case hd => rfl); (case hg => rfl); (case hr => first | (go_simp; done) | (go_simp; rfl)); intro gb330 hg w3 hbox hb; have n0_ := Aside0.mk (below_step (by repeat (first | (with_reducible first | exact HB.out | apply below_alloc | apply pw_below_drewN | apply below_drew1) | exact HB.out)) hb); have n1_ := Aside0.mk (hbox); have n2_ := Aside0.mk ((by rw [hg]; exact (below_size (by repeat (first | (with_reducible first | exact HB.out | apply below_alloc | apply pw_below_drewN | apply below_drew1) | exact HB.out))) : w.heap.size ≤ gb330)); have n3_ := Aside0.mk ((by rw [hg]; exact (below_size (by repeat (first | (with_reducible first | exact HB.out | apply below_alloc | apply pw_below_drewN | apply below_drew1) | exact HB.out))) : w.heap.size ≤ gb330)); clear HB; have HB := n0_; have BK330 := n1_; have GW330 := n2_; have GE330 := n3_; clear n0_ n1_ n2_ n3_; clear hb hbox hg))
 repeat (go_quiet (first | ((with_reducible refine gate_dst (N := 1) rfl ?_); (try (refine gate_guard (by rfl) ?_; dsimp only)); refine box_event ?hg (N := 1) ?hd (cs := #[.slice A0_0 l0_0.length c0_0]) (t := 41) ?hr ?_; (case hd => rfl); (case hg => rfl); (case hr => first | (go_simp; done) | (go_simp; rfl)); intro gb330 hg w3 hbox hb; have n0_ := Aside0.mk (below_step (by repeat (first | (with_reducible first | exact HB.out | apply below_alloc | apply pw_below_drewN | apply below_drew1) | exact HB.out)) hb); have n1_ := Aside0.mk (hbox); have n2_ := Aside0.mk ((by rw [hg]; exact (below_size (by repeat (first | (with_reducible first | exact HB.out | apply below_alloc | apply pw_below_drewN | apply below_drew1) | exact HB.out))) : w.heap.size ≤ gb330)); have n3_ := Aside0.mk ((by rw [hg]; exact (below_size (by repeat (first | (with_reducible first | exact HB.out | apply below_alloc | apply pw_below_drewN | apply below_drew1) | exact HB.out))) : w.heap.size ≤ gb330)); clear HB; have HB := n0_; have BK330 := n1_; have GW330 := n2_; have GE330 := n3_; clear n0_ n1_ n2_ n3_; clear hb hbox hg)); go_upto_region 1 with (first | ((with_reducible refine gate_dst (N := 1) rfl ?_); (try (refine gate_guard (by rfl) ?_; dsimp only)); refine box_event ?hg (N := 1) ?hd (cs := #[.slice A0_0 l0_0.length c0_0]) (t := 41) ?hr ?_; (case hd => rfl); (case hg => rfl); (case hr => first | (go_simp; done) | (go_simp; rfl)); intro gb330 hg w3 hbox hb; have n0_ := Aside0.mk (below_step (by repeat (first | (with_reducible first | exact HB.out | apply below_alloc | apply pw_below_drewN | apply below_drew1) | exact HB.out)) hb); have n1_ := Aside0.mk (hbox); have n2_ := Aside0.mk ((by rw [hg]; exact (below_size (by repeat (first | (with_reducible first | exact HB.out | apply below_alloc | apply pw_below_drewN | apply below_drew1) | exact HB.out))) : w.heap.size ≤ gb330)); have n3_ := Aside0.mk ((by rw [hg]; exact (below_size (by repeat (first | (with_reducible first | exact HB.out | apply below_alloc | apply pw_below_drewN | apply below_drew1) | exact HB.out))) : w.heap.size ≤ gb330)); clear HB; have HB := n0_; have BK330 := n1_; have GW330 := n2_; have GE330 := n3_; clear n0_ n1_ n2_ n3_; clear hb hbox hg)))
 (try simp only [Act.put,List.setIfInBounds_toArray,List.set_cons_zero,List.set_cons_succ])
 go_cut [18] (fun v18 wc => ∃ (kq : Nat) (x18_1 : Bool),v18 = .bool x18_1 ∧ Aside0 (sleuthref1_ProgramMay.j0 kq x18_1 l0_0 = some r) ∧ Aside0 (kq ≤ k) ∧ Aside0 (wc.heap[gb330]? = some (.cells #[(.slice A0_0 l0_0.length c0_0)] 41 (0,0))) ∧ Aside0 (Below w.heap.size w wc))
 case first =>
  have H := HC2.out
  clear HC2
  replace H := Option.bind_eq_some_iff.mp H
  obtain ⟨t331,A40,H⟩ := H
  replace H : (if t331 = true then (if 0 < (l0_0.length : Int) then (sleuthref1_ProgramMay.j0 k (((rd_T24 l0_0 0).f0) != 0) l0_0) else (none)) else (sleuthref1_ProgramMay.j0 k true l0_0)) = some r := H
  have A4 := Aside0.mk A40
  clear A40
  by_cases c5 : t331 = true
  ·subst c5
   have H1 : (if 0 < (l0_0.length : Int) then (sleuthref1_ProgramMay.j0 k (((rd_T24 l0_0 0).f0) != 0) l0_0) else (none)) = some r := by rw [if_pos rfl] at H; exact H
   clear H
   have H := H1
   clear H1
   by_cases c6 : 0 < (l0_0.length : Int)
   ·rw [if_pos c6] at H
    have c6b0 : decide (0 < (l0_0.length : Int)) = true := decide_eq_true c6
    have c6b1 : decide (0 < l0_0.length) = true := decide_eq_true (by omega)
    clear c6
    (first | rw [c6b0] | (simp only [i64_w,i32_w]; rw [c6b0]) | skip)
    have H' := Aside0.mk H
    clear H
    have hcz7_0 : w3.cell? ⟨gb330,0,none⟩ = some (.slice A0_0 l0_0.length c0_0) := (blk_cell BK330.out 0).trans rfl
    have hfz7_0 := blk_frozen BK330.out 0
    go_wp2_with (first | (go_at_call 29; (with_reducible refine (sleuthref1_upTo.calls (l0_0.length : Int) 1 8 true _ A4.out).mono ?_); rintro e w' ⟨rfl,⟨nd,rfl⟩⟩; (try first | exact ⟨rfl,_,World.drewN_drewN _ _ _⟩ | exact ⟨rfl,_,Eq.trans (World.drewN_drewN _ _ _) (congrArg (World.drewN _) (Nat.add_assoc _ _ _))⟩); have p332 : 0 ≤ (0 : Int) := (by omega); have q332 : 0 < (l0_0.length : Int) := of_decide_eq_true (by first | (with_reducible assumption) | assumption); obtain ⟨ad332,A332_1,c332_1,e332,hx332_0,hx332_1,hl332_1,hi332_1⟩ := at_T24 HR0_0.out 0 p332 q332; cases e332; have qi332 : (0 < l0_0.length) = True := eq_true (by omega); (try rw [show ((0 : Int)).toNat = 0 from rfl] at hx332_0); (try rw [show 0 * 2 = 0 from rfl] at hx332_0); (try rw [Addr.add_zero'] at hx332_0); (try rw [show ((0 : Int)).toNat = 0 from rfl] at hx332_1); (try rw [show 0 * 2 = 0 from rfl] at hx332_1); (try rw [Addr.add_zero'] at hx332_1); replace hx332_0 := (HB.out.cell (World.block_lt_of_cell? w _ hx332_0)).trans hx332_0; replace hx332_1 := (HB.out.cell (World.block_lt_of_cell? w _ hx332_1)).trans hx332_1; have HR332_1 := Aside0.mk hi332_1; have HC332_1 := Aside0.mk hl332_1; clear hi332_1 hl332_1; replace p332 := eq_true p332; replace q332 := eq_true q332))
    repeat (go_quiet (first | (go_at_call 29; (with_reducible refine (sleuthref1_upTo.calls (l0_0.length : Int) 1 8 true _ A4.out).mono ?_); rintro e w' ⟨rfl,⟨nd,rfl⟩⟩; (try first | exact ⟨rfl,_,World.drewN_drewN _ _ _⟩ | exact ⟨rfl,_,Eq.trans (World.drewN_drewN _ _ _) (congrArg (World.drewN _) (Nat.add_assoc _ _ _))⟩); have p332 : 0 ≤ (0 : Int) := (by omega); have q332 : 0 < (l0_0.length : Int) := of_decide_eq_true (by first | (with_reducible assumption) | assumption); obtain ⟨ad332,A332_1,c332_1,e332,hx332_0,hx332_1,hl332_1,hi332_1⟩ := at_T24 HR0_0.out 0 p332 q332; cases e332; have qi332 : (0 < l0_0.length) = True := eq_true (by omega); (try rw [show ((0 : Int)).toNat = 0 from rfl] at hx332_0); (try rw [show 0 * 2 = 0 from rfl] at hx332_0); (try rw [Addr.add_zero'] at hx332_0); (try rw [show ((0 : Int)).toNat = 0 from rfl] at hx332_1); (try rw [show 0 * 2 = 0 from rfl] at hx332_1); (try rw [Addr.add_zero'] at hx332_1); replace hx332_0 := (HB.out.cell (World.block_lt_of_cell? w _ hx332_0)).trans hx332_0; replace hx332_1 := (HB.out.cell (World.block_lt_of_cell? w _ hx332_1)).trans hx332_1; have HR332_1 := Aside0.mk hi332_1; have HC332_1 := Aside0.mk hl332_1; clear hi332_1 hl332_1; replace p332 := eq_true p332; replace q332 := eq_true q332)); try go_wp2_with (first | (go_at_call 29; (with_reducible refine (sleuthref1_upTo.calls (l0_0.length : Int) 1 8 true _ A4.out).mono ?_); rintro e w' ⟨rfl,⟨nd,rfl⟩⟩; (try first | exact ⟨rfl,_,World.drewN_drewN _ _ _⟩ | exact ⟨rfl,_,Eq.trans (World.drewN_drewN _ _ _) (congrArg (World.drewN _) (Nat.add_assoc _ _ _))⟩); have p332 : 0 ≤ (0 : Int) := (by omega); have q332 : 0 < (l0_0.length : Int) := of_decide_eq_true (by first | (with_reducible assumption) | assumption); obtain ⟨ad332,A332_1,c332_1,e332,hx332_0,hx332_1,hl332_1,hi332_1⟩ := at_T24 HR0_0.out 0 p332 q332; cases e332; have qi332 : (0 < l0_0.length) = True := eq_true (by omega); (try rw [show ((0 : Int)).toNat = 0 from rfl] at hx332_0); (try rw [show 0 * 2 = 0 from rfl] at hx332_0); (try rw [Addr.add_zero'] at hx332_0); (try rw [show ((0 : Int)).toNat = 0 from rfl] at hx332_1); (try rw [show 0 * 2 = 0 from rfl] at hx332_1); (try rw [Addr.add_zero'] at hx332_1); replace hx332_0 := (HB.out.cell (World.block_lt_of_cell? w _ hx332_0)).trans hx332_0; replace hx332_1 := (HB.out.cell (World.block_lt_of_cell? w _ hx332_1)).trans hx332_1; have HR332_1 := Aside0.mk hi332_1; have HC332_1 := Aside0.mk hl332_1; clear hi332_1 hl332_1; replace p332 := eq_true p332; replace q332 := eq_true q332)))
    go_meet
    case rel => exact ⟨_,((((rd_T24 l0_0 0).f0) != 0)),(by first | rfl | (simp; done) | (simp [*]; done)),H',⟨by first | omega | exact Nat.le_refl _⟩,⟨by (with_reducible repeat (first | refine blk_drewN ?_ _ | refine blk_drew ?_ | refine blk_alloc ?_ _)); exact BK330.out⟩,⟨by repeat (first | (with_reducible first | exact HB.out | apply below_alloc | apply pw_below_drewN | apply below_drew1 | refine below_set ?_ GE330.out) | exact HB.out)⟩⟩
   ·rw [if_neg c6] at H
    exact absurd H (by simp)
  ·replace c5 := Bool.eq_false_iff.mpr c5
   subst c5
   have H1 : (sleuthref1_ProgramMay.j0 k true l0_0) = some r := by rw [if_neg (show ¬ (false = true) by decide)] at H; exact H
   clear H
   have H := H1
   clear H1
   have H' := Aside0.mk H
   clear H
   have hcz8_0 : w3.cell? ⟨gb330,0,none⟩ = some (.slice A0_0 l0_0.length c0_0) := (blk_cell BK330.out 0).trans rfl
   have hfz8_0 := blk_frozen BK330.out 0
   go_wp2_with (first | (go_at_call 29; (with_reducible refine (sleuthref1_upTo.calls (l0_0.length : Int) 1 8 false _ A4.out).mono ?_); rintro e w' ⟨rfl,⟨nd,rfl⟩⟩; (try first | exact ⟨rfl,_,World.drewN_drewN _ _ _⟩ | exact ⟨rfl,_,Eq.trans (World.drewN_drewN _ _ _) (congrArg (World.drewN _) (Nat.add_assoc _ _ _))⟩)))
   repeat (go_quiet (first | (go_at_call 29; (with_reducible refine (sleuthref1_upTo.calls (l0_0.length : Int) 1 8 false _ A4.out).mono ?_); rintro e w' ⟨rfl,⟨nd,rfl⟩⟩; (try first | exact ⟨rfl,_,World.drewN_drewN _ _ _⟩ | exact ⟨rfl,_,Eq.trans (World.drewN_drewN _ _ _) (congrArg (World.drewN _) (Nat.add_assoc _ _ _))⟩))); try go_wp2_with (first | (go_at_call 29; (with_reducible refine (sleuthref1_upTo.calls (l0_0.length : Int) 1 8 false _ A4.out).mono ?_); rintro e w' ⟨rfl,⟨nd,rfl⟩⟩; (try first | exact ⟨rfl,_,World.drewN_drewN _ _ _⟩ | exact ⟨rfl,_,Eq.trans (World.drewN_drewN _ _ _) (congrArg (World.drewN _) (Nat.add_assoc _ _ _))⟩))))
   go_meet
   case rel => exact ⟨_,(true),(by first | rfl | (simp; done) | (simp [*]; done)),H',⟨by first | omega | exact Nat.le_refl _⟩,⟨by (with_reducible repeat (first | refine blk_drewN ?_ _ | refine blk_drew ?_ | refine blk_alloc ?_ _)); exact BK330.out⟩,⟨by repeat (first | (with_reducible first | exact HB.out | apply below_alloc | apply pw_below_drewN | apply below_drew1 | refine below_set ?_ GE330.out) | exact HB.out)⟩⟩
 case rest =>
  clear HC2
  try clear c2
  try clear p2
  try clear c3
  try clear p3
  try clear q3
  try clear hx3
  try clear qi3
  try clear c5
  try clear c6
  try clear c6b0
  try clear c6b1
  try clear hcz7_0
  try clear hcz8_0
  try clear hfz7_0
  try clear hfz8_0
  try clear hx332_0
  try clear hx332_1
  try clear p332
  try clear q332
  obtain ⟨kq,x18_1,rfl,HA,HJ1,BK330,HB⟩ := hcut
  cases kq with
  | zero => exact absurd HA.out (by simp [sleuthref1_ProgramMay.j0])
  | succ kj1 =>
   have H := HA.out
   clear HA
   simp only [sleuthref1_ProgramMay.j0] at H
   by_cases c9 : x18_1 = true
   ·subst c9
    have H1 : (some false) = some r := by rw [if_pos rfl] at H; exact H
    clear H
    have H := H1
    clear H1
    obtain rfl := Option.some.inj H
    go_wp2
    repeat (go_quiet (fail); try go_wp2)
    go_ret
    exact ⟨by first | rfl | (simp [errW_none,errW_some] <;> rfl) | (simp [*,errW_none,errW_some] <;> rfl),by repeat (first | (with_reducible first | exact HB.out | apply below_alloc | apply pw_below_drewN | apply below_drew1 | refine below_set ?_ GE330.out) | exact HB.out)⟩
   ·replace c9 := Bool.eq_false_iff.mpr c9
    subst c9
    have H1 : (sleuthref1_ProgramMay.l0 kj1 0 l0_0) = some r := by rw [if_neg (show ¬ (false = true) by decide)] at H; exact H
    clear H
    have H := H1
    clear H1
    have H' := Aside0.mk H
    clear H
    go_wp2
    repeat (go_quiet (fail); try go_wp2)
    go_loopg [3] kj1 (fun kq v3 w' => ∃ (x3_2 : Int),v3 = .int .i64 x3_2 ∧ Aside0 (sleuthref1_ProgramMay.l0 kq x3_2 l0_0 = some r) ∧ Aside0 (kq ≤ kj1) ∧ Aside0 (w'.heap[gb330]? = some (.cells #[(.slice A0_0 l0_0.length c0_0)] 41 (0,0))) ∧ Aside0 (Below w.heap.size w w'))
    case atStart => exact ⟨(0),(by first | rfl | (simp; done) | (simp [*]; done)),H',⟨Nat.le_refl _⟩,⟨by (with_reducible repeat (first | refine blk_drewN ?_ _ | refine blk_drew ?_ | refine blk_alloc ?_ _)); exact BK330.out⟩,⟨by repeat (first | (with_reducible first | exact HB.out | apply below_alloc | apply pw_below_drewN | apply below_drew1 | refine below_set ?_ GE330.out) | exact HB.out)⟩⟩
    case round =>
     clear H'
     try clear c2
     try clear p2
     try clear c3
     try clear p3
     try clear q3
     try clear hx3
     try clear qi3
     try clear c5
     try clear c6
     try clear c6b0
     try clear c6b1
     try clear c9
     try clear hcz7_0
     try clear hcz8_0
     try clear hfz7_0
     try clear hfz8_0
     try clear hx332_0
     try clear hx332_1
     try clear p2
     try clear p3
     try clear p332
     try clear q3
     try clear q332
     obtain ⟨x3_2,rfl,HA,HK2,BK330,HB⟩ := hrel
     cases gk with
     | zero => exact absurd HA.out (by simp [sleuthref1_ProgramMay.l0])
     | succ k2 =>
      have H := HA.out
      clear HA
      simp only [sleuthref1_ProgramMay.l0] at H
      by_cases c10 : x3_2 < (l0_0.length : Int)
      ·rw [if_pos c10] at H
       have c10b0 : decide (x3_2 < (l0_0.length : Int)) = true := decide_eq_true c10
       clear c10
       by_cases c11 : 0 ≤ x3_2
       ·rw [if_pos c11] at H
        have c11b0 : decide (0 ≤ x3_2) = true := decide_eq_true c11
        clear c11
        replace H := Option.bind_eq_some_iff.mp H
        obtain ⟨t334,A120,H⟩ := H
        replace H : (if t334 = true then (sleuthref1_ProgramMay.l1 k2 x3_2 0 l0_0) else (some false)) = some r := H
        have A12 := Aside0.mk A120
        clear A120
        by_cases c13 : t334 = true
        ·subst c13
         have H1 : (sleuthref1_ProgramMay.l1 k2 x3_2 0 l0_0) = some r := by rw [if_pos rfl] at H; exact H
         clear H
         have H := H1
         clear H1
         have H' := Aside0.mk H
         clear H
         have hcz14_0 : wr.cell? ⟨gb330,0,none⟩ = some (.slice A0_0 l0_0.length c0_0) := (blk_cell BK330.out 0).trans rfl
         have hfz14_0 := blk_frozen BK330.out 0
         have p333 : 0 ≤ (x3_2 : Int) := of_decide_eq_true (by first | (with_reducible assumption) | assumption)
         have q333 : x3_2 < (l0_0.length : Int) := of_decide_eq_true (by first | (with_reducible assumption) | assumption)
         obtain ⟨ad333,A333_1,c333_1,e333,hx333_0,hx333_1,hl333_1,hi333_1⟩ := at_T24 HR0_0.out x3_2 p333 q333
         cases e333
         replace hx333_0 := (HB.out.cell (World.block_lt_of_cell? w _ hx333_0)).trans hx333_0
         replace hx333_1 := (HB.out.cell (World.block_lt_of_cell? w _ hx333_1)).trans hx333_1
         have HR333_1 := Aside0.mk hi333_1
         have HC333_1 := Aside0.mk hl333_1
         clear hi333_1 hl333_1
         replace p333 := eq_true p333
         replace q333 := eq_true q333
         go_wp2_with (first | (go_at_call 14; (with_reducible refine (sleuthref1_DefMay.calls k2 ((rd_T24 l0_0 x3_2).f0) _ _ ((rd_T24 l0_0 x3_2).f1) true _ ?side1 ?side2 A12.out).mono ?_); (case side1 => repeat (first | exact (Kd.C_below HR333_1.out HB.out) | (with_reducible refine Kd.C_alloc ?_ _) | (with_reducible refine Kd.C_drewN ?_ _) | (with_reducible refine Kd.C_drew ?_))); (case side2 => exact HC333_1.out); rintro e w15 ⟨rfl,hb⟩; have n0_ := Aside0.mk (blk_below (g := gb330) (o := .cells #[.slice (some ad333) l0_0.length c0_0] 41 (0,0)) (by (with_reducible repeat (first | refine blk_drewN ?_ _ | refine blk_drew ?_ | refine blk_alloc ?_ _)); exact BK330.out) hb); have n1_ := Aside0.mk (below_step (by repeat (first | (with_reducible first | exact HB.out | apply below_alloc | apply pw_below_drewN | apply below_drew1 | refine below_set ?_ GE330.out) | exact HB.out)) hb); clear BK330; clear HB; have BK330 := n0_; have HB := n1_; clear n0_ n1_; (try clear hb); (try clear hb2); (try clear hk); (try clear hi)))
         repeat (go_quiet (first | (go_at_call 14; (with_reducible refine (sleuthref1_DefMay.calls k2 ((rd_T24 l0_0 x3_2).f0) _ _ ((rd_T24 l0_0 x3_2).f1) true _ ?side1 ?side2 A12.out).mono ?_); (case side1 => repeat (first | exact (Kd.C_below HR333_1.out HB.out) | (with_reducible refine Kd.C_alloc ?_ _) | (with_reducible refine Kd.C_drewN ?_ _) | (with_reducible refine Kd.C_drew ?_))); (case side2 => exact HC333_1.out); rintro e w15 ⟨rfl,hb⟩; have n0_ := Aside0.mk (blk_below (g := gb330) (o := .cells #[.slice (some ad333) l0_0.length c0_0] 41 (0,0)) (by (with_reducible repeat (first | refine blk_drewN ?_ _ | refine blk_drew ?_ | refine blk_alloc ?_ _)); exact BK330.out) hb); have n1_ := Aside0.mk (below_step (by repeat (first | (with_reducible first | exact HB.out | apply below_alloc | apply pw_below_drewN | apply below_drew1 | refine below_set ?_ GE330.out) | exact HB.out)) hb); clear BK330; clear HB; have BK330 := n0_; have HB := n1_; clear n0_ n1_; (try clear hb); (try clear hb2); (try clear hk); (try clear hi))); try go_wp2_with (first | (go_at_call 14; (with_reducible refine (sleuthref1_DefMay.calls k2 ((rd_T24 l0_0 x3_2).f0) _ _ ((rd_T24 l0_0 x3_2).f1) true _ ?side1 ?side2 A12.out).mono ?_); (case side1 => repeat (first | exact (Kd.C_below HR333_1.out HB.out) | (with_reducible refine Kd.C_alloc ?_ _) | (with_reducible refine Kd.C_drewN ?_ _) | (with_reducible refine Kd.C_drew ?_))); (case side2 => exact HC333_1.out); rintro e w15 ⟨rfl,hb⟩; have n0_ := Aside0.mk (blk_below (g := gb330) (o := .cells #[.slice (some ad333) l0_0.length c0_0] 41 (0,0)) (by (with_reducible repeat (first | refine blk_drewN ?_ _ | refine blk_drew ?_ | refine blk_alloc ?_ _)); exact BK330.out) hb); have n1_ := Aside0.mk (below_step (by repeat (first | (with_reducible first | exact HB.out | apply below_alloc | apply pw_below_drewN | apply below_drew1 | refine below_set ?_ GE330.out) | exact HB.out)) hb); clear BK330; clear HB; have BK330 := n0_; have HB := n1_; clear n0_ n1_; (try clear hb); (try clear hb2); (try clear hk); (try clear hi))))
         go_loopg [4] k2 (fun kq v4 w' => ∃ (x4_3 : Int),v4 = .int .i64 x4_3 ∧ Aside0 (sleuthref1_ProgramMay.l1 kq x3_2 x4_3 l0_0 = some r) ∧ Aside0 (kq ≤ k2) ∧ Aside0 (w'.heap[gb330]? = some (.cells #[(.slice (some ad333) l0_0.length c0_0)] 41 (0,0))) ∧ Aside0 (Below w.heap.size w w'))
         case atStart => exact ⟨(0),(by first | rfl | (simp; done) | (simp [*]; done)),H',⟨Nat.le_refl _⟩,⟨by (with_reducible repeat (first | refine blk_drewN ?_ _ | refine blk_drew ?_ | refine blk_alloc ?_ _)); exact BK330.out⟩,⟨by repeat (first | (with_reducible first | exact HB.out | apply below_alloc | apply pw_below_drewN | apply below_drew1 | refine below_set ?_ GE330.out) | exact HB.out)⟩⟩
         case round =>
          clear H'
          try clear c1
          try clear c2
          try clear p2
          try clear c3
          try clear p3
          try clear q3
          try clear hx3
          try clear qi3
          try clear c5
          try clear c6
          try clear c6b0
          try clear c6b1
          try clear c9
          try clear c10
          try clear c10b0
          try clear c11
          try clear c11b0
          try clear c13
          try clear hcz14_0
          try clear hcz7_0
          try clear hcz8_0
          try clear hfz14_0
          try clear hfz7_0
          try clear hfz8_0
          try clear hx332_0
          try clear hx332_1
          try clear hx333_0
          try clear hx333_1
          try clear p2
          try clear p3
          try clear p332
          try clear p333
          try clear q3
          try clear q332
          try clear q333
          obtain ⟨x4_3,rfl,HA,HK3,BK330,HB⟩ := hrel
          cases gk with
          | zero => exact absurd HA.out (by simp [sleuthref1_ProgramMay.l1])
          | succ k3 =>
           have H := HA.out
           clear HA
           simp only [sleuthref1_ProgramMay.l1] at H
           by_cases c16 : 0 ≤ x3_2
           ·rw [if_pos c16] at H
            have c16b0 : decide (0 ≤ x3_2) = true := decide_eq_true c16
            clear c16
            by_cases c17 : x3_2 < (l0_0.length : Int)
            ·rw [if_pos c17] at H
             have c17b0 : decide (x3_2 < (l0_0.length : Int)) = true := decide_eq_true c17
             clear c17
             by_cases c18 : x4_3 < (((rd_T24 l0_0 x3_2).f1).length : Int)
             ·rw [if_pos c18] at H
              have c18b0 : decide (x4_3 < (((rd_T24 l0_0 x3_2).f1).length : Int)) = true := decide_eq_true c18
              clear c18
              by_cases c19 : 0 ≤ x4_3
              ·rw [if_pos c19] at H
               have c19b0 : decide (0 ≤ x4_3) = true := decide_eq_true c19
               clear c19
               by_cases c20 : ((rd_T33 ((rd_T24 l0_0 x3_2).f1) x4_3).f0) = 2
               ·rw [if_pos c20] at H
                have c20b0 : (((rd_T33 ((rd_T24 l0_0 x3_2).f1) x4_3).f0) == 2) = true := beq_iff_eq.mpr c20
                have c20b1 : (((rd_T33 ((rd_T24 l0_0 x3_2).f1) x4_3).f0) != 2) = false := bne_eq_false_iff_eq.mpr c20
                clear c20
                by_cases c21 : ((rd_T33 ((rd_T24 l0_0 x3_2).f1) x4_3).f1) ≥ (l0_0.length : Int)
                ·rw [if_pos c21] at H
                 have c21b0 : decide ((l0_0.length : Int) ≤ ((rd_T33 ((rd_T24 l0_0 x3_2).f1) x4_3).f1)) = true := decide_eq_true c21
                 clear c21
                 obtain rfl := Option.some.inj H
                 have hcz22_0 : wr.cell? ⟨gb330,0,none⟩ = some (.slice (some ad333) l0_0.length c0_0) := (blk_cell BK330.out 0).trans rfl
                 have hfz22_0 := blk_frozen BK330.out 0
                 have p335 : 0 ≤ (x3_2 : Int) := of_decide_eq_true (by first | (with_reducible assumption) | assumption)
                 have q335 : x3_2 < (l0_0.length : Int) := of_decide_eq_true (by first | (with_reducible assumption) | assumption)
                 obtain ⟨ad335,A335_1,c335_1,e335,hx335_0,hx335_1,hl335_1,hi335_1⟩ := at_T24 HR0_0.out x3_2 p335 q335
                 obtain rfl : ad333 = ad335 := (by injection e335)
                 replace hx335_0 := (HB.out.cell (World.block_lt_of_cell? w _ hx335_0)).trans hx335_0
                 replace hx335_1 := (HB.out.cell (World.block_lt_of_cell? w _ hx335_1)).trans hx335_1
                 have HR335_1 := Aside0.mk hi335_1
                 have HC335_1 := Aside0.mk hl335_1
                 clear hi335_1 hl335_1
                 replace p335 := eq_true p335
                 replace q335 := eq_true q335
                 have p336 : 0 ≤ (x3_2 : Int) := of_decide_eq_true (by first | (with_reducible assumption) | assumption)
                 have q336 : x3_2 < (l0_0.length : Int) := of_decide_eq_true (by first | (with_reducible assumption) | assumption)
                 obtain ⟨ad336,A336_1,c336_1,e336,hx336_0,hx336_1,hl336_1,hi336_1⟩ := at_T24 HR0_0.out x3_2 p336 q336
                 obtain rfl : ad333 = ad336 := (by injection e336)
                 replace hx336_0 := (HB.out.cell (World.block_lt_of_cell? w _ hx336_0)).trans hx336_0
                 replace hx336_1 := (HB.out.cell (World.block_lt_of_cell? w _ hx336_1)).trans hx336_1
                 have HR336_1 := Aside0.mk hi336_1
                 have HC336_1 := Aside0.mk hl336_1
                 clear hi336_1 hl336_1
                 replace p336 := eq_true p336
                 replace q336 := eq_true q336
                 have ea_ := Option.some.inj (hx335_1.symm.trans hx336_1)
                 injection ea_ with ea_ en_ ec_
                 subst ea_
                 subst ec_
                 clear en_
                 have p337 : 0 ≤ (x4_3 : Int) := of_decide_eq_true (by first | (with_reducible assumption) | assumption)
                 have q337 : x4_3 < (((rd_T24 l0_0 x3_2).f1).length : Int) := of_decide_eq_true (by first | (with_reducible assumption) | assumption)
                 obtain ⟨ad337,A337_3,c337_3,e337,hx337_0,hx337_1,hx337_2,hx337_3,hl337_3,hi337_3⟩ := at_T33 HR336_1.out x4_3 p337 q337
                 cases e337
                 replace hx337_0 := (HB.out.cell (World.block_lt_of_cell? w _ hx337_0)).trans hx337_0
                 replace hx337_1 := (HB.out.cell (World.block_lt_of_cell? w _ hx337_1)).trans hx337_1
                 replace hx337_2 := (HB.out.cell (World.block_lt_of_cell? w _ hx337_2)).trans hx337_2
                 replace hx337_3 := (HB.out.cell (World.block_lt_of_cell? w _ hx337_3)).trans hx337_3
                 have HR337_3 := Aside0.mk hi337_3
                 have HC337_3 := Aside0.mk hl337_3
                 clear hi337_3 hl337_3
                 replace p337 := eq_true p337
                 replace q337 := eq_true q337
                 go_wp2_with (first | ((with_reducible refine gate_dst (N := 5) rfl ?_); (try (refine gate_guard (by rfl) ?_; dsimp only)); refine box_event ?hg (N := 5) ?hd (cs := #[.int .i64 0,.int .i64 0,.int .i64 0,.slice none 0 0]) (t := 33) ?hr ?_; (case hd => rfl); (case hg => rfl); (case hr => first | (go_simp; done) | (go_simp; rfl)); intro gb338 hg w23 hbox hb; have n0_ := Aside0.mk (blk_below (g := gb330) (o := .cells #[.slice (some ad333) l0_0.length c0_0] 41 (0,0)) (by (with_reducible repeat (first | refine blk_drewN ?_ _ | refine blk_drew ?_ | refine blk_alloc ?_ _)); exact BK330.out) hb); have n1_ := Aside0.mk (below_step (by repeat (first | (with_reducible first | exact HB.out | apply below_alloc | apply pw_below_drewN | apply below_drew1 | refine below_set ?_ GE330.out) | exact HB.out)) hb); have n2_ := Aside0.mk (hbox); have n3_ := Aside0.mk ((by rw [hg]; exact (below_size (by repeat (first | (with_reducible first | exact HB.out | apply below_alloc | apply pw_below_drewN | apply below_drew1 | refine below_set ?_ GE330.out) | exact HB.out))) : w.heap.size ≤ gb338)); have n4_ := Aside0.mk ((by rw [hg]; exact (below_size (by repeat (first | (with_reducible first | exact HB.out | apply below_alloc | apply pw_below_drewN | apply below_drew1 | refine below_set ?_ GE330.out) | exact HB.out))) : w.heap.size ≤ gb338)); have n5_ := Aside0.mk ((by rw [hg]; exact Nat.ne_of_lt (blk_lt (g := gb330) (o := .cells #[.slice (some ad333) l0_0.length c0_0] 41 (0,0)) (by (with_reducible repeat (first | refine blk_drewN ?_ _ | refine blk_drew ?_ | refine blk_alloc ?_ _)); exact BK330.out)) : gb330 ≠ gb338)); have n6_ := Aside0.mk ((by rw [hg]; exact Nat.ne_of_gt (blk_lt (g := gb330) (o := .cells #[.slice (some ad333) l0_0.length c0_0] 41 (0,0)) (by (with_reducible repeat (first | refine blk_drewN ?_ _ | refine blk_drew ?_ | refine blk_alloc ?_ _)); exact BK330.out)) : gb338 ≠ gb330)); clear BK330; clear HB; have BK330 := n0_; have HB := n1_; have BK338 := n2_; have GW338 := n3_; have GE338 := n4_; have NB330_338 := n5_; have NB338_330 := n6_; clear n0_ n1_ n2_ n3_ n4_ n5_ n6_; clear hb hbox hg; have hnb24 := NB338_330.out; have hnc24 := NB330_338.out; have hcz25_0 : w23.cell? ⟨gb338,0,none⟩ = some (.int .i64 0) := (blk_cell BK338.out 0).trans rfl; have hcz25_1 : w23.cell? ⟨gb338,1,none⟩ = some (.int .i64 0) := (blk_cell BK338.out 1).trans rfl; have hcz25_2 : w23.cell? ⟨gb338,2,none⟩ = some (.int .i64 0) := (blk_cell BK338.out 2).trans rfl; have hcz25_3 : w23.cell? ⟨gb338,3,none⟩ = some (.slice none 0 0) := (blk_cell BK338.out 3).trans rfl; have hfz25_0 := blk_frozen BK338.out 0; have hfz25_1 := blk_frozen BK338.out 1; have hfz25_2 := blk_frozen BK338.out 2; have hfz25_3 := blk_frozen BK338.out 3; have hcz26_0 : w23.cell? ⟨gb330,0,none⟩ = some (.slice (some ad333) l0_0.length c0_0) := (blk_cell BK330.out 0).trans rfl; have hfz26_0 := blk_frozen BK330.out 0))
                 repeat (go_quiet (first | ((with_reducible refine gate_dst (N := 5) rfl ?_); (try (refine gate_guard (by rfl) ?_; dsimp only)); refine box_event ?hg (N := 5) ?hd (cs := #[.int .i64 0,.int .i64 0,.int .i64 0,.slice none 0 0]) (t := 33) ?hr ?_; (case hd => rfl); (case hg => rfl); (case hr => first | (go_simp; done) | (go_simp; rfl)); intro gb338 hg w23 hbox hb; have n0_ := Aside0.mk (blk_below (g := gb330) (o := .cells #[.slice (some ad333) l0_0.length c0_0] 41 (0,0)) (by (with_reducible repeat (first | refine blk_drewN ?_ _ | refine blk_drew ?_ | refine blk_alloc ?_ _)); exact BK330.out) hb); have n1_ := Aside0.mk (below_step (by repeat (first | (with_reducible first | exact HB.out | apply below_alloc | apply pw_below_drewN | apply below_drew1 | refine below_set ?_ GE330.out) | exact HB.out)) hb); have n2_ := Aside0.mk (hbox); have n3_ := Aside0.mk ((by rw [hg]; exact (below_size (by repeat (first | (with_reducible first | exact HB.out | apply below_alloc | apply pw_below_drewN | apply below_drew1 | refine below_set ?_ GE330.out) | exact HB.out))) : w.heap.size ≤ gb338)); have n4_ := Aside0.mk ((by rw [hg]; exact (below_size (by repeat (first | (with_reducible first | exact HB.out | apply below_alloc | apply pw_below_drewN | apply below_drew1 | refine below_set ?_ GE330.out) | exact HB.out))) : w.heap.size ≤ gb338)); have n5_ := Aside0.mk ((by rw [hg]; exact Nat.ne_of_lt (blk_lt (g := gb330) (o := .cells #[.slice (some ad333) l0_0.length c0_0] 41 (0,0)) (by (with_reducible repeat (first | refine blk_drewN ?_ _ | refine blk_drew ?_ | refine blk_alloc ?_ _)); exact BK330.out)) : gb330 ≠ gb338)); have n6_ := Aside0.mk ((by rw [hg]; exact Nat.ne_of_gt (blk_lt (g := gb330) (o := .cells #[.slice (some ad333) l0_0.length c0_0] 41 (0,0)) (by (with_reducible repeat (first | refine blk_drewN ?_ _ | refine blk_drew ?_ | refine blk_alloc ?_ _)); exact BK330.out)) : gb338 ≠ gb330)); clear BK330; clear HB; have BK330 := n0_; have HB := n1_; have BK338 := n2_; have GW338 := n3_; have GE338 := n4_; have NB330_338 := n5_; have NB338_330 := n6_; clear n0_ n1_ n2_ n3_ n4_ n5_ n6_; clear hb hbox hg; have hnb24 := NB338_330.out; have hnc24 := NB330_338.out; have hcz25_0 : w23.cell? ⟨gb338,0,none⟩ = some (.int .i64 0) := (blk_cell BK338.out 0).trans rfl; have hcz25_1 : w23.cell? ⟨gb338,1,none⟩ = some (.int .i64 0) := (blk_cell BK338.out 1).trans rfl; have hcz25_2 : w23.cell? ⟨gb338,2,none⟩ = some (.int .i64 0) := (blk_cell BK338.out 2).trans rfl; have hcz25_3 : w23.cell? ⟨gb338,3,none⟩ = some (.slice none 0 0) := (blk_cell BK338.out 3).trans rfl; have hfz25_0 := blk_frozen BK338.out 0; have hfz25_1 := blk_frozen BK338.out 1; have hfz25_2 := blk_frozen BK338.out 2; have hfz25_3 := blk_frozen BK338.out 3; have hcz26_0 : w23.cell? ⟨gb330,0,none⟩ = some (.slice (some ad333) l0_0.length c0_0) := (blk_cell BK330.out 0).trans rfl; have hfz26_0 := blk_frozen BK330.out 0)); try go_wp2_with (first | ((with_reducible refine gate_dst (N := 5) rfl ?_); (try (refine gate_guard (by rfl) ?_; dsimp only)); refine box_event ?hg (N := 5) ?hd (cs := #[.int .i64 0,.int .i64 0,.int .i64 0,.slice none 0 0]) (t := 33) ?hr ?_; (case hd => rfl); (case hg => rfl); (case hr => first | (go_simp; done) | (go_simp; rfl)); intro gb338 hg w23 hbox hb; have n0_ := Aside0.mk (blk_below (g := gb330) (o := .cells #[.slice (some ad333) l0_0.length c0_0] 41 (0,0)) (by (with_reducible repeat (first | refine blk_drewN ?_ _ | refine blk_drew ?_ | refine blk_alloc ?_ _)); exact BK330.out) hb); have n1_ := Aside0.mk (below_step (by repeat (first | (with_reducible first | exact HB.out | apply below_alloc | apply pw_below_drewN | apply below_drew1 | refine below_set ?_ GE330.out) | exact HB.out)) hb); have n2_ := Aside0.mk (hbox); have n3_ := Aside0.mk ((by rw [hg]; exact (below_size (by repeat (first | (with_reducible first | exact HB.out | apply below_alloc | apply pw_below_drewN | apply below_drew1 | refine below_set ?_ GE330.out) | exact HB.out))) : w.heap.size ≤ gb338)); have n4_ := Aside0.mk ((by rw [hg]; exact (below_size (by repeat (first | (with_reducible first | exact HB.out | apply below_alloc | apply pw_below_drewN | apply below_drew1 | refine below_set ?_ GE330.out) | exact HB.out))) : w.heap.size ≤ gb338)); have n5_ := Aside0.mk ((by rw [hg]; exact Nat.ne_of_lt (blk_lt (g := gb330) (o := .cells #[.slice (some ad333) l0_0.length c0_0] 41 (0,0)) (by (with_reducible repeat (first | refine blk_drewN ?_ _ | refine blk_drew ?_ | refine blk_alloc ?_ _)); exact BK330.out)) : gb330 ≠ gb338)); have n6_ := Aside0.mk ((by rw [hg]; exact Nat.ne_of_gt (blk_lt (g := gb330) (o := .cells #[.slice (some ad333) l0_0.length c0_0] 41 (0,0)) (by (with_reducible repeat (first | refine blk_drewN ?_ _ | refine blk_drew ?_ | refine blk_alloc ?_ _)); exact BK330.out)) : gb338 ≠ gb330)); clear BK330; clear HB; have BK330 := n0_; have HB := n1_; have BK338 := n2_; have GW338 := n3_; have GE338 := n4_; have NB330_338 := n5_; have NB338_330 := n6_; clear n0_ n1_ n2_ n3_ n4_ n5_ n6_; clear hb hbox hg; have hnb24 := NB338_330.out; have hnc24 := NB330_338.out; have hcz25_0 : w23.cell? ⟨gb338,0,none⟩ = some (.int .i64 0) := (blk_cell BK338.out 0).trans rfl; have hcz25_1 : w23.cell? ⟨gb338,1,none⟩ = some (.int .i64 0) := (blk_cell BK338.out 1).trans rfl; have hcz25_2 : w23.cell? ⟨gb338,2,none⟩ = some (.int .i64 0) := (blk_cell BK338.out 2).trans rfl; have hcz25_3 : w23.cell? ⟨gb338,3,none⟩ = some (.slice none 0 0) := (blk_cell BK338.out 3).trans rfl; have hfz25_0 := blk_frozen BK338.out 0; have hfz25_1 := blk_frozen BK338.out 1; have hfz25_2 := blk_frozen BK338.out 2; have hfz25_3 := blk_frozen BK338.out 3; have hcz26_0 : w23.cell? ⟨gb330,0,none⟩ = some (.slice (some ad333) l0_0.length c0_0) := (blk_cell BK330.out 0).trans rfl; have hfz26_0 := blk_frozen BK330.out 0)))
                 go_ret
                 exact ⟨by first | rfl | (simp [errW_none,errW_some] <;> rfl) | (simp [*,errW_none,errW_some] <;> rfl),by repeat (first | (with_reducible first | exact HB.out | apply below_alloc | apply pw_below_drewN | apply below_drew1 | refine below_set ?_ GE330.out | refine below_set ?_ GE338.out) | exact HB.out)⟩
                ·rw [if_neg c21] at H
                 have c21b0 : decide ((l0_0.length : Int) ≤ ((rd_T33 ((rd_T24 l0_0 x3_2).f1) x4_3).f1)) = false := decide_eq_false c21
                 clear c21
                 by_cases c27 : 0 ≤ ((rd_T33 ((rd_T24 l0_0 x3_2).f1) x4_3).f1)
                 ·rw [if_pos c27] at H
                  have c27b0 : decide (0 ≤ ((rd_T33 ((rd_T24 l0_0 x3_2).f1) x4_3).f1)) = true := decide_eq_true c27
                  clear c27
                  by_cases c28 : ((rd_T33 ((rd_T24 l0_0 x3_2).f1) x4_3).f1) < (l0_0.length : Int)
                  ·rw [if_pos c28] at H
                   have c28b0 : decide (((rd_T33 ((rd_T24 l0_0 x3_2).f1) x4_3).f1) < (l0_0.length : Int)) = true := decide_eq_true c28
                   clear c28
                   by_cases c29 : (((rd_T33 ((rd_T24 l0_0 x3_2).f1) x4_3).f3).length : Int) = ((rd_T24 l0_0 ((rd_T33 ((rd_T24 l0_0 x3_2).f1) x4_3).f1)).f0)
                   ·rw [if_pos c29] at H
                    have c29b0 : ((((rd_T33 ((rd_T24 l0_0 x3_2).f1) x4_3).f3).length : Int) == ((rd_T24 l0_0 ((rd_T33 ((rd_T24 l0_0 x3_2).f1) x4_3).f1)).f0)) = true := beq_iff_eq.mpr c29
                    have c29b1 : ((((rd_T33 ((rd_T24 l0_0 x3_2).f1) x4_3).f3).length : Int) != ((rd_T24 l0_0 ((rd_T33 ((rd_T24 l0_0 x3_2).f1) x4_3).f1)).f0)) = false := bne_eq_false_iff_eq.mpr c29
                    clear c29
                    have H' := Aside0.mk H
                    clear H
                    have hcz30_0 : wr.cell? ⟨gb330,0,none⟩ = some (.slice (some ad333) l0_0.length c0_0) := (blk_cell BK330.out 0).trans rfl
                    have hfz30_0 := blk_frozen BK330.out 0
                    have p335 : 0 ≤ (x3_2 : Int) := of_decide_eq_true (by first | (with_reducible assumption) | assumption)
                    have q335 : x3_2 < (l0_0.length : Int) := of_decide_eq_true (by first | (with_reducible assumption) | assumption)
                    obtain ⟨ad335,A335_1,c335_1,e335,hx335_0,hx335_1,hl335_1,hi335_1⟩ := at_T24 HR0_0.out x3_2 p335 q335
                    obtain rfl : ad333 = ad335 := (by injection e335)
                    replace hx335_0 := (HB.out.cell (World.block_lt_of_cell? w _ hx335_0)).trans hx335_0
                    replace hx335_1 := (HB.out.cell (World.block_lt_of_cell? w _ hx335_1)).trans hx335_1
                    have HR335_1 := Aside0.mk hi335_1
                    have HC335_1 := Aside0.mk hl335_1
                    clear hi335_1 hl335_1
                    replace p335 := eq_true p335
                    replace q335 := eq_true q335
                    have p336 : 0 ≤ (x3_2 : Int) := of_decide_eq_true (by first | (with_reducible assumption) | assumption)
                    have q336 : x3_2 < (l0_0.length : Int) := of_decide_eq_true (by first | (with_reducible assumption) | assumption)
                    obtain ⟨ad336,A336_1,c336_1,e336,hx336_0,hx336_1,hl336_1,hi336_1⟩ := at_T24 HR0_0.out x3_2 p336 q336
                    obtain rfl : ad333 = ad336 := (by injection e336)
                    replace hx336_0 := (HB.out.cell (World.block_lt_of_cell? w _ hx336_0)).trans hx336_0
                    replace hx336_1 := (HB.out.cell (World.block_lt_of_cell? w _ hx336_1)).trans hx336_1
                    have HR336_1 := Aside0.mk hi336_1
                    have HC336_1 := Aside0.mk hl336_1
                    clear hi336_1 hl336_1
                    replace p336 := eq_true p336
                    replace q336 := eq_true q336
                    have ea_ := Option.some.inj (hx335_1.symm.trans hx336_1)
                    injection ea_ with ea_ en_ ec_
                    subst ea_
                    subst ec_
                    clear en_
                    have p337 : 0 ≤ (x4_3 : Int) := of_decide_eq_true (by first | (with_reducible assumption) | assumption)
                    have q337 : x4_3 < (((rd_T24 l0_0 x3_2).f1).length : Int) := of_decide_eq_true (by first | (with_reducible assumption) | assumption)
                    obtain ⟨ad337,A337_3,c337_3,e337,hx337_0,hx337_1,hx337_2,hx337_3,hl337_3,hi337_3⟩ := at_T33 HR336_1.out x4_3 p337 q337
                    cases e337
                    replace hx337_0 := (HB.out.cell (World.block_lt_of_cell? w _ hx337_0)).trans hx337_0
                    replace hx337_1 := (HB.out.cell (World.block_lt_of_cell? w _ hx337_1)).trans hx337_1
                    replace hx337_2 := (HB.out.cell (World.block_lt_of_cell? w _ hx337_2)).trans hx337_2
                    replace hx337_3 := (HB.out.cell (World.block_lt_of_cell? w _ hx337_3)).trans hx337_3
                    have HR337_3 := Aside0.mk hi337_3
                    have HC337_3 := Aside0.mk hl337_3
                    clear hi337_3 hl337_3
                    replace p337 := eq_true p337
                    replace q337 := eq_true q337
                    go_wp2_with (first | ((with_reducible refine gate_dst (N := 5) rfl ?_); (try (refine gate_guard (by rfl) ?_; dsimp only)); refine box_event ?hg (N := 5) ?hd (cs := #[.int .i64 0,.int .i64 0,.int .i64 0,.slice none 0 0]) (t := 33) ?hr ?_; (case hd => rfl); (case hg => rfl); (case hr => first | (go_simp; done) | (go_simp; rfl)); intro gb338 hg w31 hbox hb; have n0_ := Aside0.mk (blk_below (g := gb330) (o := .cells #[.slice (some ad333) l0_0.length c0_0] 41 (0,0)) (by (with_reducible repeat (first | refine blk_drewN ?_ _ | refine blk_drew ?_ | refine blk_alloc ?_ _)); exact BK330.out) hb); have n1_ := Aside0.mk (below_step (by repeat (first | (with_reducible first | exact HB.out | apply below_alloc | apply pw_below_drewN | apply below_drew1 | refine below_set ?_ GE330.out) | exact HB.out)) hb); have n2_ := Aside0.mk (hbox); have n3_ := Aside0.mk ((by rw [hg]; exact (below_size (by repeat (first | (with_reducible first | exact HB.out | apply below_alloc | apply pw_below_drewN | apply below_drew1 | refine below_set ?_ GE330.out) | exact HB.out))) : w.heap.size ≤ gb338)); have n4_ := Aside0.mk ((by rw [hg]; exact (below_size (by repeat (first | (with_reducible first | exact HB.out | apply below_alloc | apply pw_below_drewN | apply below_drew1 | refine below_set ?_ GE330.out) | exact HB.out))) : w.heap.size ≤ gb338)); have n5_ := Aside0.mk ((by rw [hg]; exact Nat.ne_of_lt (blk_lt (g := gb330) (o := .cells #[.slice (some ad333) l0_0.length c0_0] 41 (0,0)) (by (with_reducible repeat (first | refine blk_drewN ?_ _ | refine blk_drew ?_ | refine blk_alloc ?_ _)); exact BK330.out)) : gb330 ≠ gb338)); have n6_ := Aside0.mk ((by rw [hg]; exact Nat.ne_of_gt (blk_lt (g := gb330) (o := .cells #[.slice (some ad333) l0_0.length c0_0] 41 (0,0)) (by (with_reducible repeat (first | refine blk_drewN ?_ _ | refine blk_drew ?_ | refine blk_alloc ?_ _)); exact BK330.out)) : gb338 ≠ gb330)); clear BK330; clear HB; have BK330 := n0_; have HB := n1_; have BK338 := n2_; have GW338 := n3_; have GE338 := n4_; have NB330_338 := n5_; have NB338_330 := n6_; clear n0_ n1_ n2_ n3_ n4_ n5_ n6_; clear hb hbox hg; have hnb32 := NB338_330.out; have hnc32 := NB330_338.out; have hcz33_0 : w31.cell? ⟨gb338,0,none⟩ = some (.int .i64 0) := (blk_cell BK338.out 0).trans rfl; have hcz33_1 : w31.cell? ⟨gb338,1,none⟩ = some (.int .i64 0) := (blk_cell BK338.out 1).trans rfl; have hcz33_2 : w31.cell? ⟨gb338,2,none⟩ = some (.int .i64 0) := (blk_cell BK338.out 2).trans rfl; have hcz33_3 : w31.cell? ⟨gb338,3,none⟩ = some (.slice none 0 0) := (blk_cell BK338.out 3).trans rfl; have hfz33_0 := blk_frozen BK338.out 0; have hfz33_1 := blk_frozen BK338.out 1; have hfz33_2 := blk_frozen BK338.out 2; have hfz33_3 := blk_frozen BK338.out 3; have hcz34_0 : w31.cell? ⟨gb330,0,none⟩ = some (.slice (some ad333) l0_0.length c0_0) := (blk_cell BK330.out 0).trans rfl; have hfz34_0 := blk_frozen BK330.out 0; have p339 : 0 ≤ (((rd_T33 ((rd_T24 l0_0 x3_2).f1) x4_3).f1) : Int) := of_decide_eq_true (by first | (with_reducible assumption) | assumption); have q339 : ((rd_T33 ((rd_T24 l0_0 x3_2).f1) x4_3).f1) < (l0_0.length : Int) := of_decide_eq_true (by first | (with_reducible assumption) | assumption); obtain ⟨ad339,A339_1,c339_1,e339,hx339_0,hx339_1,hl339_1,hi339_1⟩ := at_T24 HR0_0.out ((rd_T33 ((rd_T24 l0_0 x3_2).f1) x4_3).f1) p339 q339; obtain rfl : ad333 = ad339 := (by injection e339); have hn339_0 : ad333.block ≠ gb338 := Nat.ne_of_lt (Nat.lt_of_lt_of_le (by have := World.block_lt_of_cell? _ _ hx339_0; first | rwa [add_block] at this | exact this) GW338.out); have hn339_1 : ad333.block ≠ gb338 := Nat.ne_of_lt (Nat.lt_of_lt_of_le (by have := World.block_lt_of_cell? _ _ hx339_0; first | rwa [add_block] at this | exact this) GW338.out); have hn339_2 : ad333.block ≠ gb338 := Nat.ne_of_lt (Nat.lt_of_lt_of_le (by have := World.block_lt_of_cell? _ _ hx339_0; first | rwa [add_block] at this | exact this) GW338.out); have hn339_3 : ad333.block ≠ gb338 := Nat.ne_of_lt (Nat.lt_of_lt_of_le (by have := World.block_lt_of_cell? _ _ hx339_0; first | rwa [add_block] at this | exact this) GW338.out); replace hx339_0 := (HB.out.cell (World.block_lt_of_cell? w _ hx339_0)).trans hx339_0; replace hx339_1 := (HB.out.cell (World.block_lt_of_cell? w _ hx339_1)).trans hx339_1; have HR339_1 := Aside0.mk hi339_1; have HC339_1 := Aside0.mk hl339_1; clear hi339_1 hl339_1; replace hx339_0 := (cell_far (p := ⟨gb338,0,none⟩) (by first | (rw [add_block]; exact hn339_0) | (show (Addr.add _ _).block ≠ _; rw [add_block]; exact hn339_0) | exact hn339_0) (.int .i64 ((rd_T33 ((rd_T24 l0_0 x3_2).f1) x4_3).f0))).trans hx339_0; replace hx339_1 := (cell_far (p := ⟨gb338,0,none⟩) (by first | (rw [add_block]; exact hn339_0) | (show (Addr.add _ _).block ≠ _; rw [add_block]; exact hn339_0) | exact hn339_0) (.int .i64 ((rd_T33 ((rd_T24 l0_0 x3_2).f1) x4_3).f0))).trans hx339_1; replace hx339_0 := (cell_far (p := ⟨gb338,1,none⟩) (by first | (rw [add_block]; exact hn339_1) | (show (Addr.add _ _).block ≠ _; rw [add_block]; exact hn339_1) | exact hn339_1) (.int .i64 ((rd_T33 ((rd_T24 l0_0 x3_2).f1) x4_3).f1))).trans hx339_0; replace hx339_1 := (cell_far (p := ⟨gb338,1,none⟩) (by first | (rw [add_block]; exact hn339_1) | (show (Addr.add _ _).block ≠ _; rw [add_block]; exact hn339_1) | exact hn339_1) (.int .i64 ((rd_T33 ((rd_T24 l0_0 x3_2).f1) x4_3).f1))).trans hx339_1; replace hx339_0 := (cell_far (p := ⟨gb338,2,none⟩) (by first | (rw [add_block]; exact hn339_2) | (show (Addr.add _ _).block ≠ _; rw [add_block]; exact hn339_2) | exact hn339_2) (.int .i64 ((rd_T33 ((rd_T24 l0_0 x3_2).f1) x4_3).f2))).trans hx339_0; replace hx339_1 := (cell_far (p := ⟨gb338,2,none⟩) (by first | (rw [add_block]; exact hn339_2) | (show (Addr.add _ _).block ≠ _; rw [add_block]; exact hn339_2) | exact hn339_2) (.int .i64 ((rd_T33 ((rd_T24 l0_0 x3_2).f1) x4_3).f2))).trans hx339_1; replace hx339_0 := (cell_far (p := ⟨gb338,3,none⟩) (by first | (rw [add_block]; exact hn339_3) | (show (Addr.add _ _).block ≠ _; rw [add_block]; exact hn339_3) | exact hn339_3) (.slice A337_3 ((rd_T33 ((rd_T24 l0_0 x3_2).f1) x4_3).f3).length c337_3)).trans hx339_0; replace hx339_1 := (cell_far (p := ⟨gb338,3,none⟩) (by first | (rw [add_block]; exact hn339_3) | (show (Addr.add _ _).block ≠ _; rw [add_block]; exact hn339_3) | exact hn339_3) (.slice A337_3 ((rd_T33 ((rd_T24 l0_0 x3_2).f1) x4_3).f3).length c337_3)).trans hx339_1; (try have hy339_0 := fun (n_ : Nat) => (show ((((((w31.drewN n_).setCell ⟨gb338,0,none⟩ (.int .i64 ((rd_T33 ((rd_T24 l0_0 x3_2).f1) x4_3).f0))).setCell ⟨gb338,1,none⟩ (.int .i64 ((rd_T33 ((rd_T24 l0_0 x3_2).f1) x4_3).f1))).setCell ⟨gb338,2,none⟩ (.int .i64 ((rd_T33 ((rd_T24 l0_0 x3_2).f1) x4_3).f2))).setCell ⟨gb338,3,none⟩ (.slice A337_3 ((rd_T33 ((rd_T24 l0_0 x3_2).f1) x4_3).f3).length c337_3))).cell? _ = some _ from hx339_0)); (try have hy339_1 := fun (n_ : Nat) => (show ((((((w31.drewN n_).setCell ⟨gb338,0,none⟩ (.int .i64 ((rd_T33 ((rd_T24 l0_0 x3_2).f1) x4_3).f0))).setCell ⟨gb338,1,none⟩ (.int .i64 ((rd_T33 ((rd_T24 l0_0 x3_2).f1) x4_3).f1))).setCell ⟨gb338,2,none⟩ (.int .i64 ((rd_T33 ((rd_T24 l0_0 x3_2).f1) x4_3).f2))).setCell ⟨gb338,3,none⟩ (.slice A337_3 ((rd_T33 ((rd_T24 l0_0 x3_2).f1) x4_3).f3).length c337_3))).cell? _ = some _ from hx339_1)); clear hn339_0; clear hn339_1; clear hn339_2; clear hn339_3; replace p339 := eq_true p339; replace q339 := eq_true q339))
                    repeat (go_quiet (first | ((with_reducible refine gate_dst (N := 5) rfl ?_); (try (refine gate_guard (by rfl) ?_; dsimp only)); refine box_event ?hg (N := 5) ?hd (cs := #[.int .i64 0,.int .i64 0,.int .i64 0,.slice none 0 0]) (t := 33) ?hr ?_; (case hd => rfl); (case hg => rfl); (case hr => first | (go_simp; done) | (go_simp; rfl)); intro gb338 hg w31 hbox hb; have n0_ := Aside0.mk (blk_below (g := gb330) (o := .cells #[.slice (some ad333) l0_0.length c0_0] 41 (0,0)) (by (with_reducible repeat (first | refine blk_drewN ?_ _ | refine blk_drew ?_ | refine blk_alloc ?_ _)); exact BK330.out) hb); have n1_ := Aside0.mk (below_step (by repeat (first | (with_reducible first | exact HB.out | apply below_alloc | apply pw_below_drewN | apply below_drew1 | refine below_set ?_ GE330.out) | exact HB.out)) hb); have n2_ := Aside0.mk (hbox); have n3_ := Aside0.mk ((by rw [hg]; exact (below_size (by repeat (first | (with_reducible first | exact HB.out | apply below_alloc | apply pw_below_drewN | apply below_drew1 | refine below_set ?_ GE330.out) | exact HB.out))) : w.heap.size ≤ gb338)); have n4_ := Aside0.mk ((by rw [hg]; exact (below_size (by repeat (first | (with_reducible first | exact HB.out | apply below_alloc | apply pw_below_drewN | apply below_drew1 | refine below_set ?_ GE330.out) | exact HB.out))) : w.heap.size ≤ gb338)); have n5_ := Aside0.mk ((by rw [hg]; exact Nat.ne_of_lt (blk_lt (g := gb330) (o := .cells #[.slice (some ad333) l0_0.length c0_0] 41 (0,0)) (by (with_reducible repeat (first | refine blk_drewN ?_ _ | refine blk_drew ?_ | refine blk_alloc ?_ _)); exact BK330.out)) : gb330 ≠ gb338)); have n6_ := Aside0.mk ((by rw [hg]; exact Nat.ne_of_gt (blk_lt (g := gb330) (o := .cells #[.slice (some ad333) l0_0.length c0_0] 41 (0,0)) (by (with_reducible repeat (first | refine blk_drewN ?_ _ | refine blk_drew ?_ | refine blk_alloc ?_ _)); exact BK330.out)) : gb338 ≠ gb330)); clear BK330; clear HB; have BK330 := n0_; have HB := n1_; have BK338 := n2_; have GW338 := n3_; have GE338 := n4_; have NB330_338 := n5_; have NB338_330 := n6_; clear n0_ n1_ n2_ n3_ n4_ n5_ n6_; clear hb hbox hg; have hnb32 := NB338_330.out; have hnc32 := NB330_338.out; have hcz33_0 : w31.cell? ⟨gb338,0,none⟩ = some (.int .i64 0) := (blk_cell BK338.out 0).trans rfl; have hcz33_1 : w31.cell? ⟨gb338,1,none⟩ = some (.int .i64 0) := (blk_cell BK338.out 1).trans rfl; have hcz33_2 : w31.cell? ⟨gb338,2,none⟩ = some (.int .i64 0) := (blk_cell BK338.out 2).trans rfl; have hcz33_3 : w31.cell? ⟨gb338,3,none⟩ = some (.slice none 0 0) := (blk_cell BK338.out 3).trans rfl; have hfz33_0 := blk_frozen BK338.out 0; have hfz33_1 := blk_frozen BK338.out 1; have hfz33_2 := blk_frozen BK338.out 2; have hfz33_3 := blk_frozen BK338.out 3; have hcz34_0 : w31.cell? ⟨gb330,0,none⟩ = some (.slice (some ad333) l0_0.length c0_0) := (blk_cell BK330.out 0).trans rfl; have hfz34_0 := blk_frozen BK330.out 0; have p339 : 0 ≤ (((rd_T33 ((rd_T24 l0_0 x3_2).f1) x4_3).f1) : Int) := of_decide_eq_true (by first | (with_reducible assumption) | assumption); have q339 : ((rd_T33 ((rd_T24 l0_0 x3_2).f1) x4_3).f1) < (l0_0.length : Int) := of_decide_eq_true (by first | (with_reducible assumption) | assumption); obtain ⟨ad339,A339_1,c339_1,e339,hx339_0,hx339_1,hl339_1,hi339_1⟩ := at_T24 HR0_0.out ((rd_T33 ((rd_T24 l0_0 x3_2).f1) x4_3).f1) p339 q339; obtain rfl : ad333 = ad339 := (by injection e339); have hn339_0 : ad333.block ≠ gb338 := Nat.ne_of_lt (Nat.lt_of_lt_of_le (by have := World.block_lt_of_cell? _ _ hx339_0; first | rwa [add_block] at this | exact this) GW338.out); have hn339_1 : ad333.block ≠ gb338 := Nat.ne_of_lt (Nat.lt_of_lt_of_le (by have := World.block_lt_of_cell? _ _ hx339_0; first | rwa [add_block] at this | exact this) GW338.out); have hn339_2 : ad333.block ≠ gb338 := Nat.ne_of_lt (Nat.lt_of_lt_of_le (by have := World.block_lt_of_cell? _ _ hx339_0; first | rwa [add_block] at this | exact this) GW338.out); have hn339_3 : ad333.block ≠ gb338 := Nat.ne_of_lt (Nat.lt_of_lt_of_le (by have := World.block_lt_of_cell? _ _ hx339_0; first | rwa [add_block] at this | exact this) GW338.out); replace hx339_0 := (HB.out.cell (World.block_lt_of_cell? w _ hx339_0)).trans hx339_0; replace hx339_1 := (HB.out.cell (World.block_lt_of_cell? w _ hx339_1)).trans hx339_1; have HR339_1 := Aside0.mk hi339_1; have HC339_1 := Aside0.mk hl339_1; clear hi339_1 hl339_1; replace hx339_0 := (cell_far (p := ⟨gb338,0,none⟩) (by first | (rw [add_block]; exact hn339_0) | (show (Addr.add _ _).block ≠ _; rw [add_block]; exact hn339_0) | exact hn339_0) (.int .i64 ((rd_T33 ((rd_T24 l0_0 x3_2).f1) x4_3).f0))).trans hx339_0; replace hx339_1 := (cell_far (p := ⟨gb338,0,none⟩) (by first | (rw [add_block]; exact hn339_0) | (show (Addr.add _ _).block ≠ _; rw [add_block]; exact hn339_0) | exact hn339_0) (.int .i64 ((rd_T33 ((rd_T24 l0_0 x3_2).f1) x4_3).f0))).trans hx339_1; replace hx339_0 := (cell_far (p := ⟨gb338,1,none⟩) (by first | (rw [add_block]; exact hn339_1) | (show (Addr.add _ _).block ≠ _; rw [add_block]; exact hn339_1) | exact hn339_1) (.int .i64 ((rd_T33 ((rd_T24 l0_0 x3_2).f1) x4_3).f1))).trans hx339_0; replace hx339_1 := (cell_far (p := ⟨gb338,1,none⟩) (by first | (rw [add_block]; exact hn339_1) | (show (Addr.add _ _).block ≠ _; rw [add_block]; exact hn339_1) | exact hn339_1) (.int .i64 ((rd_T33 ((rd_T24 l0_0 x3_2).f1) x4_3).f1))).trans hx339_1; replace hx339_0 := (cell_far (p := ⟨gb338,2,none⟩) (by first | (rw [add_block]; exact hn339_2) | (show (Addr.add _ _).block ≠ _; rw [add_block]; exact hn339_2) | exact hn339_2) (.int .i64 ((rd_T33 ((rd_T24 l0_0 x3_2).f1) x4_3).f2))).trans hx339_0; replace hx339_1 := (cell_far (p := ⟨gb338,2,none⟩) (by first | (rw [add_block]; exact hn339_2) | (show (Addr.add _ _).block ≠ _; rw [add_block]; exact hn339_2) | exact hn339_2) (.int .i64 ((rd_T33 ((rd_T24 l0_0 x3_2).f1) x4_3).f2))).trans hx339_1; replace hx339_0 := (cell_far (p := ⟨gb338,3,none⟩) (by first | (rw [add_block]; exact hn339_3) | (show (Addr.add _ _).block ≠ _; rw [add_block]; exact hn339_3) | exact hn339_3) (.slice A337_3 ((rd_T33 ((rd_T24 l0_0 x3_2).f1) x4_3).f3).length c337_3)).trans hx339_0; replace hx339_1 := (cell_far (p := ⟨gb338,3,none⟩) (by first | (rw [add_block]; exact hn339_3) | (show (Addr.add _ _).block ≠ _; rw [add_block]; exact hn339_3) | exact hn339_3) (.slice A337_3 ((rd_T33 ((rd_T24 l0_0 x3_2).f1) x4_3).f3).length c337_3)).trans hx339_1; (try have hy339_0 := fun (n_ : Nat) => (show ((((((w31.drewN n_).setCell ⟨gb338,0,none⟩ (.int .i64 ((rd_T33 ((rd_T24 l0_0 x3_2).f1) x4_3).f0))).setCell ⟨gb338,1,none⟩ (.int .i64 ((rd_T33 ((rd_T24 l0_0 x3_2).f1) x4_3).f1))).setCell ⟨gb338,2,none⟩ (.int .i64 ((rd_T33 ((rd_T24 l0_0 x3_2).f1) x4_3).f2))).setCell ⟨gb338,3,none⟩ (.slice A337_3 ((rd_T33 ((rd_T24 l0_0 x3_2).f1) x4_3).f3).length c337_3))).cell? _ = some _ from hx339_0)); (try have hy339_1 := fun (n_ : Nat) => (show ((((((w31.drewN n_).setCell ⟨gb338,0,none⟩ (.int .i64 ((rd_T33 ((rd_T24 l0_0 x3_2).f1) x4_3).f0))).setCell ⟨gb338,1,none⟩ (.int .i64 ((rd_T33 ((rd_T24 l0_0 x3_2).f1) x4_3).f1))).setCell ⟨gb338,2,none⟩ (.int .i64 ((rd_T33 ((rd_T24 l0_0 x3_2).f1) x4_3).f2))).setCell ⟨gb338,3,none⟩ (.slice A337_3 ((rd_T33 ((rd_T24 l0_0 x3_2).f1) x4_3).f3).length c337_3))).cell? _ = some _ from hx339_1)); clear hn339_0; clear hn339_1; clear hn339_2; clear hn339_3; replace p339 := eq_true p339; replace q339 := eq_true q339)); try go_wp2_with (first | ((with_reducible refine gate_dst (N := 5) rfl ?_); (try (refine gate_guard (by rfl) ?_; dsimp only)); refine box_event ?hg (N := 5) ?hd (cs := #[.int .i64 0,.int .i64 0,.int .i64 0,.slice none 0 0]) (t := 33) ?hr ?_; (case hd => rfl); (case hg => rfl); (case hr => first | (go_simp; done) | (go_simp; rfl)); intro gb338 hg w31 hbox hb; have n0_ := Aside0.mk (blk_below (g := gb330) (o := .cells #[.slice (some ad333) l0_0.length c0_0] 41 (0,0)) (by (with_reducible repeat (first | refine blk_drewN ?_ _ | refine blk_drew ?_ | refine blk_alloc ?_ _)); exact BK330.out) hb); have n1_ := Aside0.mk (below_step (by repeat (first | (with_reducible first | exact HB.out | apply below_alloc | apply pw_below_drewN | apply below_drew1 | refine below_set ?_ GE330.out) | exact HB.out)) hb); have n2_ := Aside0.mk (hbox); have n3_ := Aside0.mk ((by rw [hg]; exact (below_size (by repeat (first | (with_reducible first | exact HB.out | apply below_alloc | apply pw_below_drewN | apply below_drew1 | refine below_set ?_ GE330.out) | exact HB.out))) : w.heap.size ≤ gb338)); have n4_ := Aside0.mk ((by rw [hg]; exact (below_size (by repeat (first | (with_reducible first | exact HB.out | apply below_alloc | apply pw_below_drewN | apply below_drew1 | refine below_set ?_ GE330.out) | exact HB.out))) : w.heap.size ≤ gb338)); have n5_ := Aside0.mk ((by rw [hg]; exact Nat.ne_of_lt (blk_lt (g := gb330) (o := .cells #[.slice (some ad333) l0_0.length c0_0] 41 (0,0)) (by (with_reducible repeat (first | refine blk_drewN ?_ _ | refine blk_drew ?_ | refine blk_alloc ?_ _)); exact BK330.out)) : gb330 ≠ gb338)); have n6_ := Aside0.mk ((by rw [hg]; exact Nat.ne_of_gt (blk_lt (g := gb330) (o := .cells #[.slice (some ad333) l0_0.length c0_0] 41 (0,0)) (by (with_reducible repeat (first | refine blk_drewN ?_ _ | refine blk_drew ?_ | refine blk_alloc ?_ _)); exact BK330.out)) : gb338 ≠ gb330)); clear BK330; clear HB; have BK330 := n0_; have HB := n1_; have BK338 := n2_; have GW338 := n3_; have GE338 := n4_; have NB330_338 := n5_; have NB338_330 := n6_; clear n0_ n1_ n2_ n3_ n4_ n5_ n6_; clear hb hbox hg; have hnb32 := NB338_330.out; have hnc32 := NB330_338.out; have hcz33_0 : w31.cell? ⟨gb338,0,none⟩ = some (.int .i64 0) := (blk_cell BK338.out 0).trans rfl; have hcz33_1 : w31.cell? ⟨gb338,1,none⟩ = some (.int .i64 0) := (blk_cell BK338.out 1).trans rfl; have hcz33_2 : w31.cell? ⟨gb338,2,none⟩ = some (.int .i64 0) := (blk_cell BK338.out 2).trans rfl; have hcz33_3 : w31.cell? ⟨gb338,3,none⟩ = some (.slice none 0 0) := (blk_cell BK338.out 3).trans rfl; have hfz33_0 := blk_frozen BK338.out 0; have hfz33_1 := blk_frozen BK338.out 1; have hfz33_2 := blk_frozen BK338.out 2; have hfz33_3 := blk_frozen BK338.out 3; have hcz34_0 : w31.cell? ⟨gb330,0,none⟩ = some (.slice (some ad333) l0_0.length c0_0) := (blk_cell BK330.out 0).trans rfl; have hfz34_0 := blk_frozen BK330.out 0; have p339 : 0 ≤ (((rd_T33 ((rd_T24 l0_0 x3_2).f1) x4_3).f1) : Int) := of_decide_eq_true (by first | (with_reducible assumption) | assumption); have q339 : ((rd_T33 ((rd_T24 l0_0 x3_2).f1) x4_3).f1) < (l0_0.length : Int) := of_decide_eq_true (by first | (with_reducible assumption) | assumption); obtain ⟨ad339,A339_1,c339_1,e339,hx339_0,hx339_1,hl339_1,hi339_1⟩ := at_T24 HR0_0.out ((rd_T33 ((rd_T24 l0_0 x3_2).f1) x4_3).f1) p339 q339; obtain rfl : ad333 = ad339 := (by injection e339); have hn339_0 : ad333.block ≠ gb338 := Nat.ne_of_lt (Nat.lt_of_lt_of_le (by have := World.block_lt_of_cell? _ _ hx339_0; first | rwa [add_block] at this | exact this) GW338.out); have hn339_1 : ad333.block ≠ gb338 := Nat.ne_of_lt (Nat.lt_of_lt_of_le (by have := World.block_lt_of_cell? _ _ hx339_0; first | rwa [add_block] at this | exact this) GW338.out); have hn339_2 : ad333.block ≠ gb338 := Nat.ne_of_lt (Nat.lt_of_lt_of_le (by have := World.block_lt_of_cell? _ _ hx339_0; first | rwa [add_block] at this | exact this) GW338.out); have hn339_3 : ad333.block ≠ gb338 := Nat.ne_of_lt (Nat.lt_of_lt_of_le (by have := World.block_lt_of_cell? _ _ hx339_0; first | rwa [add_block] at this | exact this) GW338.out); replace hx339_0 := (HB.out.cell (World.block_lt_of_cell? w _ hx339_0)).trans hx339_0; replace hx339_1 := (HB.out.cell (World.block_lt_of_cell? w _ hx339_1)).trans hx339_1; have HR339_1 := Aside0.mk hi339_1; have HC339_1 := Aside0.mk hl339_1; clear hi339_1 hl339_1; replace hx339_0 := (cell_far (p := ⟨gb338,0,none⟩) (by first | (rw [add_block]; exact hn339_0) | (show (Addr.add _ _).block ≠ _; rw [add_block]; exact hn339_0) | exact hn339_0) (.int .i64 ((rd_T33 ((rd_T24 l0_0 x3_2).f1) x4_3).f0))).trans hx339_0; replace hx339_1 := (cell_far (p := ⟨gb338,0,none⟩) (by first | (rw [add_block]; exact hn339_0) | (show (Addr.add _ _).block ≠ _; rw [add_block]; exact hn339_0) | exact hn339_0) (.int .i64 ((rd_T33 ((rd_T24 l0_0 x3_2).f1) x4_3).f0))).trans hx339_1; replace hx339_0 := (cell_far (p := ⟨gb338,1,none⟩) (by first | (rw [add_block]; exact hn339_1) | (show (Addr.add _ _).block ≠ _; rw [add_block]; exact hn339_1) | exact hn339_1) (.int .i64 ((rd_T33 ((rd_T24 l0_0 x3_2).f1) x4_3).f1))).trans hx339_0; replace hx339_1 := (cell_far (p := ⟨gb338,1,none⟩) (by first | (rw [add_block]; exact hn339_1) | (show (Addr.add _ _).block ≠ _; rw [add_block]; exact hn339_1) | exact hn339_1) (.int .i64 ((rd_T33 ((rd_T24 l0_0 x3_2).f1) x4_3).f1))).trans hx339_1; replace hx339_0 := (cell_far (p := ⟨gb338,2,none⟩) (by first | (rw [add_block]; exact hn339_2) | (show (Addr.add _ _).block ≠ _; rw [add_block]; exact hn339_2) | exact hn339_2) (.int .i64 ((rd_T33 ((rd_T24 l0_0 x3_2).f1) x4_3).f2))).trans hx339_0; replace hx339_1 := (cell_far (p := ⟨gb338,2,none⟩) (by first | (rw [add_block]; exact hn339_2) | (show (Addr.add _ _).block ≠ _; rw [add_block]; exact hn339_2) | exact hn339_2) (.int .i64 ((rd_T33 ((rd_T24 l0_0 x3_2).f1) x4_3).f2))).trans hx339_1; replace hx339_0 := (cell_far (p := ⟨gb338,3,none⟩) (by first | (rw [add_block]; exact hn339_3) | (show (Addr.add _ _).block ≠ _; rw [add_block]; exact hn339_3) | exact hn339_3) (.slice A337_3 ((rd_T33 ((rd_T24 l0_0 x3_2).f1) x4_3).f3).length c337_3)).trans hx339_0; replace hx339_1 := (cell_far (p := ⟨gb338,3,none⟩) (by first | (rw [add_block]; exact hn339_3) | (show (Addr.add _ _).block ≠ _; rw [add_block]; exact hn339_3) | exact hn339_3) (.slice A337_3 ((rd_T33 ((rd_T24 l0_0 x3_2).f1) x4_3).f3).length c337_3)).trans hx339_1; (try have hy339_0 := fun (n_ : Nat) => (show ((((((w31.drewN n_).setCell ⟨gb338,0,none⟩ (.int .i64 ((rd_T33 ((rd_T24 l0_0 x3_2).f1) x4_3).f0))).setCell ⟨gb338,1,none⟩ (.int .i64 ((rd_T33 ((rd_T24 l0_0 x3_2).f1) x4_3).f1))).setCell ⟨gb338,2,none⟩ (.int .i64 ((rd_T33 ((rd_T24 l0_0 x3_2).f1) x4_3).f2))).setCell ⟨gb338,3,none⟩ (.slice A337_3 ((rd_T33 ((rd_T24 l0_0 x3_2).f1) x4_3).f3).length c337_3))).cell? _ = some _ from hx339_0)); (try have hy339_1 := fun (n_ : Nat) => (show ((((((w31.drewN n_).setCell ⟨gb338,0,none⟩ (.int .i64 ((rd_T33 ((rd_T24 l0_0 x3_2).f1) x4_3).f0))).setCell ⟨gb338,1,none⟩ (.int .i64 ((rd_T33 ((rd_T24 l0_0 x3_2).f1) x4_3).f1))).setCell ⟨gb338,2,none⟩ (.int .i64 ((rd_T33 ((rd_T24 l0_0 x3_2).f1) x4_3).f2))).setCell ⟨gb338,3,none⟩ (.slice A337_3 ((rd_T33 ((rd_T24 l0_0 x3_2).f1) x4_3).f3).length c337_3))).cell? _ = some _ from hx339_1)); clear hn339_0; clear hn339_1; clear hn339_2; clear hn339_3; replace p339 := eq_true p339; replace q339 := eq_true q339)))
                    go_roundg k3
                    case measure => have := HJ1.out; have := HK2.out; have := HK3.out; omega
                    case rel => exact ⟨(wrap64 (x4_3 + 1)),(by first | rfl | (simp; done) | (simp [*]; done)),H',⟨by have := HJ1.out; have := HK2.out; have := HK3.out; omega⟩,⟨by (with_reducible repeat (first | refine blk_drewN ?_ _ | refine blk_drew ?_ | refine blk_alloc ?_ _)); refine blk_far ?_ NB330_338.out _; (with_reducible repeat (first | refine blk_drewN ?_ _ | refine blk_drew ?_ | refine blk_alloc ?_ _)); refine blk_far ?_ NB330_338.out _; (with_reducible repeat (first | refine blk_drewN ?_ _ | refine blk_drew ?_ | refine blk_alloc ?_ _)); refine blk_far ?_ NB330_338.out _; (with_reducible repeat (first | refine blk_drewN ?_ _ | refine blk_drew ?_ | refine blk_alloc ?_ _)); refine blk_far ?_ NB330_338.out _; (with_reducible repeat (first | refine blk_drewN ?_ _ | refine blk_drew ?_ | refine blk_alloc ?_ _)); exact BK330.out⟩,⟨by repeat (first | (with_reducible first | exact HB.out | apply below_alloc | apply pw_below_drewN | apply below_drew1 | refine below_set ?_ GE330.out | refine below_set ?_ GE338.out) | exact HB.out)⟩⟩
                   ·rw [if_neg c29] at H
                    have c29b0 : ((((rd_T33 ((rd_T24 l0_0 x3_2).f1) x4_3).f3).length : Int) == ((rd_T24 l0_0 ((rd_T33 ((rd_T24 l0_0 x3_2).f1) x4_3).f1)).f0)) = false := beq_eq_false_iff_ne.mpr c29
                    have c29b1 : ((((rd_T33 ((rd_T24 l0_0 x3_2).f1) x4_3).f3).length : Int) != ((rd_T24 l0_0 ((rd_T33 ((rd_T24 l0_0 x3_2).f1) x4_3).f1)).f0)) = true := bne_iff_ne.mpr c29
                    obtain rfl := Option.some.inj H
                    have hcz35_0 : wr.cell? ⟨gb330,0,none⟩ = some (.slice (some ad333) l0_0.length c0_0) := (blk_cell BK330.out 0).trans rfl
                    have hfz35_0 := blk_frozen BK330.out 0
                    have p335 : 0 ≤ (x3_2 : Int) := of_decide_eq_true (by first | (with_reducible assumption) | assumption)
                    have q335 : x3_2 < (l0_0.length : Int) := of_decide_eq_true (by first | (with_reducible assumption) | assumption)
                    obtain ⟨ad335,A335_1,c335_1,e335,hx335_0,hx335_1,hl335_1,hi335_1⟩ := at_T24 HR0_0.out x3_2 p335 q335
                    obtain rfl : ad333 = ad335 := (by injection e335)
                    replace hx335_0 := (HB.out.cell (World.block_lt_of_cell? w _ hx335_0)).trans hx335_0
                    replace hx335_1 := (HB.out.cell (World.block_lt_of_cell? w _ hx335_1)).trans hx335_1
                    have HR335_1 := Aside0.mk hi335_1
                    have HC335_1 := Aside0.mk hl335_1
                    clear hi335_1 hl335_1
                    replace p335 := eq_true p335
                    replace q335 := eq_true q335
                    have p336 : 0 ≤ (x3_2 : Int) := of_decide_eq_true (by first | (with_reducible assumption) | assumption)
                    have q336 : x3_2 < (l0_0.length : Int) := of_decide_eq_true (by first | (with_reducible assumption) | assumption)
                    obtain ⟨ad336,A336_1,c336_1,e336,hx336_0,hx336_1,hl336_1,hi336_1⟩ := at_T24 HR0_0.out x3_2 p336 q336
                    obtain rfl : ad333 = ad336 := (by injection e336)
                    replace hx336_0 := (HB.out.cell (World.block_lt_of_cell? w _ hx336_0)).trans hx336_0
                    replace hx336_1 := (HB.out.cell (World.block_lt_of_cell? w _ hx336_1)).trans hx336_1
                    have HR336_1 := Aside0.mk hi336_1
                    have HC336_1 := Aside0.mk hl336_1
                    clear hi336_1 hl336_1
                    replace p336 := eq_true p336
                    replace q336 := eq_true q336
                    have ea_ := Option.some.inj (hx335_1.symm.trans hx336_1)
                    injection ea_ with ea_ en_ ec_
                    subst ea_
                    subst ec_
                    clear en_
                    have p337 : 0 ≤ (x4_3 : Int) := of_decide_eq_true (by first | (with_reducible assumption) | assumption)
                    have q337 : x4_3 < (((rd_T24 l0_0 x3_2).f1).length : Int) := of_decide_eq_true (by first | (with_reducible assumption) | assumption)
                    obtain ⟨ad337,A337_3,c337_3,e337,hx337_0,hx337_1,hx337_2,hx337_3,hl337_3,hi337_3⟩ := at_T33 HR336_1.out x4_3 p337 q337
                    cases e337
                    replace hx337_0 := (HB.out.cell (World.block_lt_of_cell? w _ hx337_0)).trans hx337_0
                    replace hx337_1 := (HB.out.cell (World.block_lt_of_cell? w _ hx337_1)).trans hx337_1
                    replace hx337_2 := (HB.out.cell (World.block_lt_of_cell? w _ hx337_2)).trans hx337_2
                    replace hx337_3 := (HB.out.cell (World.block_lt_of_cell? w _ hx337_3)).trans hx337_3
                    have HR337_3 := Aside0.mk hi337_3
                    have HC337_3 := Aside0.mk hl337_3
                    clear hi337_3 hl337_3
                    replace p337 := eq_true p337
                    replace q337 := eq_true q337
                    go_wp2_with (first | ((with_reducible refine gate_dst (N := 5) rfl ?_); (try (refine gate_guard (by rfl) ?_; dsimp only)); refine box_event ?hg (N := 5) ?hd (cs := #[.int .i64 0,.int .i64 0,.int .i64 0,.slice none 0 0]) (t := 33) ?hr ?_; (case hd => rfl); (case hg => rfl); (case hr => first | (go_simp; done) | (go_simp; rfl)); intro gb338 hg w36 hbox hb; have n0_ := Aside0.mk (blk_below (g := gb330) (o := .cells #[.slice (some ad333) l0_0.length c0_0] 41 (0,0)) (by (with_reducible repeat (first | refine blk_drewN ?_ _ | refine blk_drew ?_ | refine blk_alloc ?_ _)); exact BK330.out) hb); have n1_ := Aside0.mk (below_step (by repeat (first | (with_reducible first | exact HB.out | apply below_alloc | apply pw_below_drewN | apply below_drew1 | refine below_set ?_ GE330.out) | exact HB.out)) hb); have n2_ := Aside0.mk (hbox); have n3_ := Aside0.mk ((by rw [hg]; exact (below_size (by repeat (first | (with_reducible first | exact HB.out | apply below_alloc | apply pw_below_drewN | apply below_drew1 | refine below_set ?_ GE330.out) | exact HB.out))) : w.heap.size ≤ gb338)); have n4_ := Aside0.mk ((by rw [hg]; exact (below_size (by repeat (first | (with_reducible first | exact HB.out | apply below_alloc | apply pw_below_drewN | apply below_drew1 | refine below_set ?_ GE330.out) | exact HB.out))) : w.heap.size ≤ gb338)); have n5_ := Aside0.mk ((by rw [hg]; exact Nat.ne_of_lt (blk_lt (g := gb330) (o := .cells #[.slice (some ad333) l0_0.length c0_0] 41 (0,0)) (by (with_reducible repeat (first | refine blk_drewN ?_ _ | refine blk_drew ?_ | refine blk_alloc ?_ _)); exact BK330.out)) : gb330 ≠ gb338)); have n6_ := Aside0.mk ((by rw [hg]; exact Nat.ne_of_gt (blk_lt (g := gb330) (o := .cells #[.slice (some ad333) l0_0.length c0_0] 41 (0,0)) (by (with_reducible repeat (first | refine blk_drewN ?_ _ | refine blk_drew ?_ | refine blk_alloc ?_ _)); exact BK330.out)) : gb338 ≠ gb330)); clear BK330; clear HB; have BK330 := n0_; have HB := n1_; have BK338 := n2_; have GW338 := n3_; have GE338 := n4_; have NB330_338 := n5_; have NB338_330 := n6_; clear n0_ n1_ n2_ n3_ n4_ n5_ n6_; clear hb hbox hg; have hnb37 := NB338_330.out; have hnc37 := NB330_338.out; have hcz38_0 : w36.cell? ⟨gb338,0,none⟩ = some (.int .i64 0) := (blk_cell BK338.out 0).trans rfl; have hcz38_1 : w36.cell? ⟨gb338,1,none⟩ = some (.int .i64 0) := (blk_cell BK338.out 1).trans rfl; have hcz38_2 : w36.cell? ⟨gb338,2,none⟩ = some (.int .i64 0) := (blk_cell BK338.out 2).trans rfl; have hcz38_3 : w36.cell? ⟨gb338,3,none⟩ = some (.slice none 0 0) := (blk_cell BK338.out 3).trans rfl; have hfz38_0 := blk_frozen BK338.out 0; have hfz38_1 := blk_frozen BK338.out 1; have hfz38_2 := blk_frozen BK338.out 2; have hfz38_3 := blk_frozen BK338.out 3; have hcz39_0 : w36.cell? ⟨gb330,0,none⟩ = some (.slice (some ad333) l0_0.length c0_0) := (blk_cell BK330.out 0).trans rfl; have hfz39_0 := blk_frozen BK330.out 0; have p339 : 0 ≤ (((rd_T33 ((rd_T24 l0_0 x3_2).f1) x4_3).f1) : Int) := of_decide_eq_true (by first | (with_reducible assumption) | assumption); have q339 : ((rd_T33 ((rd_T24 l0_0 x3_2).f1) x4_3).f1) < (l0_0.length : Int) := of_decide_eq_true (by first | (with_reducible assumption) | assumption); obtain ⟨ad339,A339_1,c339_1,e339,hx339_0,hx339_1,hl339_1,hi339_1⟩ := at_T24 HR0_0.out ((rd_T33 ((rd_T24 l0_0 x3_2).f1) x4_3).f1) p339 q339; obtain rfl : ad333 = ad339 := (by injection e339); have hn339_0 : ad333.block ≠ gb338 := Nat.ne_of_lt (Nat.lt_of_lt_of_le (by have := World.block_lt_of_cell? _ _ hx339_0; first | rwa [add_block] at this | exact this) GW338.out); have hn339_1 : ad333.block ≠ gb338 := Nat.ne_of_lt (Nat.lt_of_lt_of_le (by have := World.block_lt_of_cell? _ _ hx339_0; first | rwa [add_block] at this | exact this) GW338.out); have hn339_2 : ad333.block ≠ gb338 := Nat.ne_of_lt (Nat.lt_of_lt_of_le (by have := World.block_lt_of_cell? _ _ hx339_0; first | rwa [add_block] at this | exact this) GW338.out); have hn339_3 : ad333.block ≠ gb338 := Nat.ne_of_lt (Nat.lt_of_lt_of_le (by have := World.block_lt_of_cell? _ _ hx339_0; first | rwa [add_block] at this | exact this) GW338.out); replace hx339_0 := (HB.out.cell (World.block_lt_of_cell? w _ hx339_0)).trans hx339_0; replace hx339_1 := (HB.out.cell (World.block_lt_of_cell? w _ hx339_1)).trans hx339_1; have HR339_1 := Aside0.mk hi339_1; have HC339_1 := Aside0.mk hl339_1; clear hi339_1 hl339_1; replace hx339_0 := (cell_far (p := ⟨gb338,0,none⟩) (by first | (rw [add_block]; exact hn339_0) | (show (Addr.add _ _).block ≠ _; rw [add_block]; exact hn339_0) | exact hn339_0) (.int .i64 ((rd_T33 ((rd_T24 l0_0 x3_2).f1) x4_3).f0))).trans hx339_0; replace hx339_1 := (cell_far (p := ⟨gb338,0,none⟩) (by first | (rw [add_block]; exact hn339_0) | (show (Addr.add _ _).block ≠ _; rw [add_block]; exact hn339_0) | exact hn339_0) (.int .i64 ((rd_T33 ((rd_T24 l0_0 x3_2).f1) x4_3).f0))).trans hx339_1; replace hx339_0 := (cell_far (p := ⟨gb338,1,none⟩) (by first | (rw [add_block]; exact hn339_1) | (show (Addr.add _ _).block ≠ _; rw [add_block]; exact hn339_1) | exact hn339_1) (.int .i64 ((rd_T33 ((rd_T24 l0_0 x3_2).f1) x4_3).f1))).trans hx339_0; replace hx339_1 := (cell_far (p := ⟨gb338,1,none⟩) (by first | (rw [add_block]; exact hn339_1) | (show (Addr.add _ _).block ≠ _; rw [add_block]; exact hn339_1) | exact hn339_1) (.int .i64 ((rd_T33 ((rd_T24 l0_0 x3_2).f1) x4_3).f1))).trans hx339_1; replace hx339_0 := (cell_far (p := ⟨gb338,2,none⟩) (by first | (rw [add_block]; exact hn339_2) | (show (Addr.add _ _).block ≠ _; rw [add_block]; exact hn339_2) | exact hn339_2) (.int .i64 ((rd_T33 ((rd_T24 l0_0 x3_2).f1) x4_3).f2))).trans hx339_0; replace hx339_1 := (cell_far (p := ⟨gb338,2,none⟩) (by first | (rw [add_block]; exact hn339_2) | (show (Addr.add _ _).block ≠ _; rw [add_block]; exact hn339_2) | exact hn339_2) (.int .i64 ((rd_T33 ((rd_T24 l0_0 x3_2).f1) x4_3).f2))).trans hx339_1; replace hx339_0 := (cell_far (p := ⟨gb338,3,none⟩) (by first | (rw [add_block]; exact hn339_3) | (show (Addr.add _ _).block ≠ _; rw [add_block]; exact hn339_3) | exact hn339_3) (.slice A337_3 ((rd_T33 ((rd_T24 l0_0 x3_2).f1) x4_3).f3).length c337_3)).trans hx339_0; replace hx339_1 := (cell_far (p := ⟨gb338,3,none⟩) (by first | (rw [add_block]; exact hn339_3) | (show (Addr.add _ _).block ≠ _; rw [add_block]; exact hn339_3) | exact hn339_3) (.slice A337_3 ((rd_T33 ((rd_T24 l0_0 x3_2).f1) x4_3).f3).length c337_3)).trans hx339_1; (try have hy339_0 := fun (n_ : Nat) => (show ((((((w36.drewN n_).setCell ⟨gb338,0,none⟩ (.int .i64 ((rd_T33 ((rd_T24 l0_0 x3_2).f1) x4_3).f0))).setCell ⟨gb338,1,none⟩ (.int .i64 ((rd_T33 ((rd_T24 l0_0 x3_2).f1) x4_3).f1))).setCell ⟨gb338,2,none⟩ (.int .i64 ((rd_T33 ((rd_T24 l0_0 x3_2).f1) x4_3).f2))).setCell ⟨gb338,3,none⟩ (.slice A337_3 ((rd_T33 ((rd_T24 l0_0 x3_2).f1) x4_3).f3).length c337_3))).cell? _ = some _ from hx339_0)); (try have hy339_1 := fun (n_ : Nat) => (show ((((((w36.drewN n_).setCell ⟨gb338,0,none⟩ (.int .i64 ((rd_T33 ((rd_T24 l0_0 x3_2).f1) x4_3).f0))).setCell ⟨gb338,1,none⟩ (.int .i64 ((rd_T33 ((rd_T24 l0_0 x3_2).f1) x4_3).f1))).setCell ⟨gb338,2,none⟩ (.int .i64 ((rd_T33 ((rd_T24 l0_0 x3_2).f1) x4_3).f2))).setCell ⟨gb338,3,none⟩ (.slice A337_3 ((rd_T33 ((rd_T24 l0_0 x3_2).f1) x4_3).f3).length c337_3))).cell? _ = some _ from hx339_1)); clear hn339_0; clear hn339_1; clear hn339_2; clear hn339_3; replace p339 := eq_true p339; replace q339 := eq_true q339))
                    repeat (go_quiet (first | ((with_reducible refine gate_dst (N := 5) rfl ?_); (try (refine gate_guard (by rfl) ?_; dsimp only)); refine box_event ?hg (N := 5) ?hd (cs := #[.int .i64 0,.int .i64 0,.int .i64 0,.slice none 0 0]) (t := 33) ?hr ?_; (case hd => rfl); (case hg => rfl); (case hr => first | (go_simp; done) | (go_simp; rfl)); intro gb338 hg w36 hbox hb; have n0_ := Aside0.mk (blk_below (g := gb330) (o := .cells #[.slice (some ad333) l0_0.length c0_0] 41 (0,0)) (by (with_reducible repeat (first | refine blk_drewN ?_ _ | refine blk_drew ?_ | refine blk_alloc ?_ _)); exact BK330.out) hb); have n1_ := Aside0.mk (below_step (by repeat (first | (with_reducible first | exact HB.out | apply below_alloc | apply pw_below_drewN | apply below_drew1 | refine below_set ?_ GE330.out) | exact HB.out)) hb); have n2_ := Aside0.mk (hbox); have n3_ := Aside0.mk ((by rw [hg]; exact (below_size (by repeat (first | (with_reducible first | exact HB.out | apply below_alloc | apply pw_below_drewN | apply below_drew1 | refine below_set ?_ GE330.out) | exact HB.out))) : w.heap.size ≤ gb338)); have n4_ := Aside0.mk ((by rw [hg]; exact (below_size (by repeat (first | (with_reducible first | exact HB.out | apply below_alloc | apply pw_below_drewN | apply below_drew1 | refine below_set ?_ GE330.out) | exact HB.out))) : w.heap.size ≤ gb338)); have n5_ := Aside0.mk ((by rw [hg]; exact Nat.ne_of_lt (blk_lt (g := gb330) (o := .cells #[.slice (some ad333) l0_0.length c0_0] 41 (0,0)) (by (with_reducible repeat (first | refine blk_drewN ?_ _ | refine blk_drew ?_ | refine blk_alloc ?_ _)); exact BK330.out)) : gb330 ≠ gb338)); have n6_ := Aside0.mk ((by rw [hg]; exact Nat.ne_of_gt (blk_lt (g := gb330) (o := .cells #[.slice (some ad333) l0_0.length c0_0] 41 (0,0)) (by (with_reducible repeat (first | refine blk_drewN ?_ _ | refine blk_drew ?_ | refine blk_alloc ?_ _)); exact BK330.out)) : gb338 ≠ gb330)); clear BK330; clear HB; have BK330 := n0_; have HB := n1_; have BK338 := n2_; have GW338 := n3_; have GE338 := n4_; have NB330_338 := n5_; have NB338_330 := n6_; clear n0_ n1_ n2_ n3_ n4_ n5_ n6_; clear hb hbox hg; have hnb37 := NB338_330.out; have hnc37 := NB330_338.out; have hcz38_0 : w36.cell? ⟨gb338,0,none⟩ = some (.int .i64 0) := (blk_cell BK338.out 0).trans rfl; have hcz38_1 : w36.cell? ⟨gb338,1,none⟩ = some (.int .i64 0) := (blk_cell BK338.out 1).trans rfl; have hcz38_2 : w36.cell? ⟨gb338,2,none⟩ = some (.int .i64 0) := (blk_cell BK338.out 2).trans rfl; have hcz38_3 : w36.cell? ⟨gb338,3,none⟩ = some (.slice none 0 0) := (blk_cell BK338.out 3).trans rfl; have hfz38_0 := blk_frozen BK338.out 0; have hfz38_1 := blk_frozen BK338.out 1; have hfz38_2 := blk_frozen BK338.out 2; have hfz38_3 := blk_frozen BK338.out 3; have hcz39_0 : w36.cell? ⟨gb330,0,none⟩ = some (.slice (some ad333) l0_0.length c0_0) := (blk_cell BK330.out 0).trans rfl; have hfz39_0 := blk_frozen BK330.out 0; have p339 : 0 ≤ (((rd_T33 ((rd_T24 l0_0 x3_2).f1) x4_3).f1) : Int) := of_decide_eq_true (by first | (with_reducible assumption) | assumption); have q339 : ((rd_T33 ((rd_T24 l0_0 x3_2).f1) x4_3).f1) < (l0_0.length : Int) := of_decide_eq_true (by first | (with_reducible assumption) | assumption); obtain ⟨ad339,A339_1,c339_1,e339,hx339_0,hx339_1,hl339_1,hi339_1⟩ := at_T24 HR0_0.out ((rd_T33 ((rd_T24 l0_0 x3_2).f1) x4_3).f1) p339 q339; obtain rfl : ad333 = ad339 := (by injection e339); have hn339_0 : ad333.block ≠ gb338 := Nat.ne_of_lt (Nat.lt_of_lt_of_le (by have := World.block_lt_of_cell? _ _ hx339_0; first | rwa [add_block] at this | exact this) GW338.out); have hn339_1 : ad333.block ≠ gb338 := Nat.ne_of_lt (Nat.lt_of_lt_of_le (by have := World.block_lt_of_cell? _ _ hx339_0; first | rwa [add_block] at this | exact this) GW338.out); have hn339_2 : ad333.block ≠ gb338 := Nat.ne_of_lt (Nat.lt_of_lt_of_le (by have := World.block_lt_of_cell? _ _ hx339_0; first | rwa [add_block] at this | exact this) GW338.out); have hn339_3 : ad333.block ≠ gb338 := Nat.ne_of_lt (Nat.lt_of_lt_of_le (by have := World.block_lt_of_cell? _ _ hx339_0; first | rwa [add_block] at this | exact this) GW338.out); replace hx339_0 := (HB.out.cell (World.block_lt_of_cell? w _ hx339_0)).trans hx339_0; replace hx339_1 := (HB.out.cell (World.block_lt_of_cell? w _ hx339_1)).trans hx339_1; have HR339_1 := Aside0.mk hi339_1; have HC339_1 := Aside0.mk hl339_1; clear hi339_1 hl339_1; replace hx339_0 := (cell_far (p := ⟨gb338,0,none⟩) (by first | (rw [add_block]; exact hn339_0) | (show (Addr.add _ _).block ≠ _; rw [add_block]; exact hn339_0) | exact hn339_0) (.int .i64 ((rd_T33 ((rd_T24 l0_0 x3_2).f1) x4_3).f0))).trans hx339_0; replace hx339_1 := (cell_far (p := ⟨gb338,0,none⟩) (by first | (rw [add_block]; exact hn339_0) | (show (Addr.add _ _).block ≠ _; rw [add_block]; exact hn339_0) | exact hn339_0) (.int .i64 ((rd_T33 ((rd_T24 l0_0 x3_2).f1) x4_3).f0))).trans hx339_1; replace hx339_0 := (cell_far (p := ⟨gb338,1,none⟩) (by first | (rw [add_block]; exact hn339_1) | (show (Addr.add _ _).block ≠ _; rw [add_block]; exact hn339_1) | exact hn339_1) (.int .i64 ((rd_T33 ((rd_T24 l0_0 x3_2).f1) x4_3).f1))).trans hx339_0; replace hx339_1 := (cell_far (p := ⟨gb338,1,none⟩) (by first | (rw [add_block]; exact hn339_1) | (show (Addr.add _ _).block ≠ _; rw [add_block]; exact hn339_1) | exact hn339_1) (.int .i64 ((rd_T33 ((rd_T24 l0_0 x3_2).f1) x4_3).f1))).trans hx339_1; replace hx339_0 := (cell_far (p := ⟨gb338,2,none⟩) (by first | (rw [add_block]; exact hn339_2) | (show (Addr.add _ _).block ≠ _; rw [add_block]; exact hn339_2) | exact hn339_2) (.int .i64 ((rd_T33 ((rd_T24 l0_0 x3_2).f1) x4_3).f2))).trans hx339_0; replace hx339_1 := (cell_far (p := ⟨gb338,2,none⟩) (by first | (rw [add_block]; exact hn339_2) | (show (Addr.add _ _).block ≠ _; rw [add_block]; exact hn339_2) | exact hn339_2) (.int .i64 ((rd_T33 ((rd_T24 l0_0 x3_2).f1) x4_3).f2))).trans hx339_1; replace hx339_0 := (cell_far (p := ⟨gb338,3,none⟩) (by first | (rw [add_block]; exact hn339_3) | (show (Addr.add _ _).block ≠ _; rw [add_block]; exact hn339_3) | exact hn339_3) (.slice A337_3 ((rd_T33 ((rd_T24 l0_0 x3_2).f1) x4_3).f3).length c337_3)).trans hx339_0; replace hx339_1 := (cell_far (p := ⟨gb338,3,none⟩) (by first | (rw [add_block]; exact hn339_3) | (show (Addr.add _ _).block ≠ _; rw [add_block]; exact hn339_3) | exact hn339_3) (.slice A337_3 ((rd_T33 ((rd_T24 l0_0 x3_2).f1) x4_3).f3).length c337_3)).trans hx339_1; (try have hy339_0 := fun (n_ : Nat) => (show ((((((w36.drewN n_).setCell ⟨gb338,0,none⟩ (.int .i64 ((rd_T33 ((rd_T24 l0_0 x3_2).f1) x4_3).f0))).setCell ⟨gb338,1,none⟩ (.int .i64 ((rd_T33 ((rd_T24 l0_0 x3_2).f1) x4_3).f1))).setCell ⟨gb338,2,none⟩ (.int .i64 ((rd_T33 ((rd_T24 l0_0 x3_2).f1) x4_3).f2))).setCell ⟨gb338,3,none⟩ (.slice A337_3 ((rd_T33 ((rd_T24 l0_0 x3_2).f1) x4_3).f3).length c337_3))).cell? _ = some _ from hx339_0)); (try have hy339_1 := fun (n_ : Nat) => (show ((((((w36.drewN n_).setCell ⟨gb338,0,none⟩ (.int .i64 ((rd_T33 ((rd_T24 l0_0 x3_2).f1) x4_3).f0))).setCell ⟨gb338,1,none⟩ (.int .i64 ((rd_T33 ((rd_T24 l0_0 x3_2).f1) x4_3).f1))).setCell ⟨gb338,2,none⟩ (.int .i64 ((rd_T33 ((rd_T24 l0_0 x3_2).f1) x4_3).f2))).setCell ⟨gb338,3,none⟩ (.slice A337_3 ((rd_T33 ((rd_T24 l0_0 x3_2).f1) x4_3).f3).length c337_3))).cell? _ = some _ from hx339_1)); clear hn339_0; clear hn339_1; clear hn339_2; clear hn339_3; replace p339 := eq_true p339; replace q339 := eq_true q339)); try go_wp2_with (first | ((with_reducible refine gate_dst (N := 5) rfl ?_); (try (refine gate_guard (by rfl) ?_; dsimp only)); refine box_event ?hg (N := 5) ?hd (cs := #[.int .i64 0,.int .i64 0,.int .i64 0,.slice none 0 0]) (t := 33) ?hr ?_; (case hd => rfl); (case hg => rfl); (case hr => first | (go_simp; done) | (go_simp; rfl)); intro gb338 hg w36 hbox hb; have n0_ := Aside0.mk (blk_below (g := gb330) (o := .cells #[.slice (some ad333) l0_0.length c0_0] 41 (0,0)) (by (with_reducible repeat (first | refine blk_drewN ?_ _ | refine blk_drew ?_ | refine blk_alloc ?_ _)); exact BK330.out) hb); have n1_ := Aside0.mk (below_step (by repeat (first | (with_reducible first | exact HB.out | apply below_alloc | apply pw_below_drewN | apply below_drew1 | refine below_set ?_ GE330.out) | exact HB.out)) hb); have n2_ := Aside0.mk (hbox); have n3_ := Aside0.mk ((by rw [hg]; exact (below_size (by repeat (first | (with_reducible first | exact HB.out | apply below_alloc | apply pw_below_drewN | apply below_drew1 | refine below_set ?_ GE330.out) | exact HB.out))) : w.heap.size ≤ gb338)); have n4_ := Aside0.mk ((by rw [hg]; exact (below_size (by repeat (first | (with_reducible first | exact HB.out | apply below_alloc | apply pw_below_drewN | apply below_drew1 | refine below_set ?_ GE330.out) | exact HB.out))) : w.heap.size ≤ gb338)); have n5_ := Aside0.mk ((by rw [hg]; exact Nat.ne_of_lt (blk_lt (g := gb330) (o := .cells #[.slice (some ad333) l0_0.length c0_0] 41 (0,0)) (by (with_reducible repeat (first | refine blk_drewN ?_ _ | refine blk_drew ?_ | refine blk_alloc ?_ _)); exact BK330.out)) : gb330 ≠ gb338)); have n6_ := Aside0.mk ((by rw [hg]; exact Nat.ne_of_gt (blk_lt (g := gb330) (o := .cells #[.slice (some ad333) l0_0.length c0_0] 41 (0,0)) (by (with_reducible repeat (first | refine blk_drewN ?_ _ | refine blk_drew ?_ | refine blk_alloc ?_ _)); exact BK330.out)) : gb338 ≠ gb330)); clear BK330; clear HB; have BK330 := n0_; have HB := n1_; have BK338 := n2_; have GW338 := n3_; have GE338 := n4_; have NB330_338 := n5_; have NB338_330 := n6_; clear n0_ n1_ n2_ n3_ n4_ n5_ n6_; clear hb hbox hg; have hnb37 := NB338_330.out; have hnc37 := NB330_338.out; have hcz38_0 : w36.cell? ⟨gb338,0,none⟩ = some (.int .i64 0) := (blk_cell BK338.out 0).trans rfl; have hcz38_1 : w36.cell? ⟨gb338,1,none⟩ = some (.int .i64 0) := (blk_cell BK338.out 1).trans rfl; have hcz38_2 : w36.cell? ⟨gb338,2,none⟩ = some (.int .i64 0) := (blk_cell BK338.out 2).trans rfl; have hcz38_3 : w36.cell? ⟨gb338,3,none⟩ = some (.slice none 0 0) := (blk_cell BK338.out 3).trans rfl; have hfz38_0 := blk_frozen BK338.out 0; have hfz38_1 := blk_frozen BK338.out 1; have hfz38_2 := blk_frozen BK338.out 2; have hfz38_3 := blk_frozen BK338.out 3; have hcz39_0 : w36.cell? ⟨gb330,0,none⟩ = some (.slice (some ad333) l0_0.length c0_0) := (blk_cell BK330.out 0).trans rfl; have hfz39_0 := blk_frozen BK330.out 0; have p339 : 0 ≤ (((rd_T33 ((rd_T24 l0_0 x3_2).f1) x4_3).f1) : Int) := of_decide_eq_true (by first | (with_reducible assumption) | assumption); have q339 : ((rd_T33 ((rd_T24 l0_0 x3_2).f1) x4_3).f1) < (l0_0.length : Int) := of_decide_eq_true (by first | (with_reducible assumption) | assumption); obtain ⟨ad339,A339_1,c339_1,e339,hx339_0,hx339_1,hl339_1,hi339_1⟩ := at_T24 HR0_0.out ((rd_T33 ((rd_T24 l0_0 x3_2).f1) x4_3).f1) p339 q339; obtain rfl : ad333 = ad339 := (by injection e339); have hn339_0 : ad333.block ≠ gb338 := Nat.ne_of_lt (Nat.lt_of_lt_of_le (by have := World.block_lt_of_cell? _ _ hx339_0; first | rwa [add_block] at this | exact this) GW338.out); have hn339_1 : ad333.block ≠ gb338 := Nat.ne_of_lt (Nat.lt_of_lt_of_le (by have := World.block_lt_of_cell? _ _ hx339_0; first | rwa [add_block] at this | exact this) GW338.out); have hn339_2 : ad333.block ≠ gb338 := Nat.ne_of_lt (Nat.lt_of_lt_of_le (by have := World.block_lt_of_cell? _ _ hx339_0; first | rwa [add_block] at this | exact this) GW338.out); have hn339_3 : ad333.block ≠ gb338 := Nat.ne_of_lt (Nat.lt_of_lt_of_le (by have := World.block_lt_of_cell? _ _ hx339_0; first | rwa [add_block] at this | exact this) GW338.out); replace hx339_0 := (HB.out.cell (World.block_lt_of_cell? w _ hx339_0)).trans hx339_0; replace hx339_1 := (HB.out.cell (World.block_lt_of_cell? w _ hx339_1)).trans hx339_1; have HR339_1 := Aside0.mk hi339_1; have HC339_1 := Aside0.mk hl339_1; clear hi339_1 hl339_1; replace hx339_0 := (cell_far (p := ⟨gb338,0,none⟩) (by first | (rw [add_block]; exact hn339_0) | (show (Addr.add _ _).block ≠ _; rw [add_block]; exact hn339_0) | exact hn339_0) (.int .i64 ((rd_T33 ((rd_T24 l0_0 x3_2).f1) x4_3).f0))).trans hx339_0; replace hx339_1 := (cell_far (p := ⟨gb338,0,none⟩) (by first | (rw [add_block]; exact hn339_0) | (show (Addr.add _ _).block ≠ _; rw [add_block]; exact hn339_0) | exact hn339_0) (.int .i64 ((rd_T33 ((rd_T24 l0_0 x3_2).f1) x4_3).f0))).trans hx339_1; replace hx339_0 := (cell_far (p := ⟨gb338,1,none⟩) (by first | (rw [add_block]; exact hn339_1) | (show (Addr.add _ _).block ≠ _; rw [add_block]; exact hn339_1) | exact hn339_1) (.int .i64 ((rd_T33 ((rd_T24 l0_0 x3_2).f1) x4_3).f1))).trans hx339_0; replace hx339_1 := (cell_far (p := ⟨gb338,1,none⟩) (by first | (rw [add_block]; exact hn339_1) | (show (Addr.add _ _).block ≠ _; rw [add_block]; exact hn339_1) | exact hn339_1) (.int .i64 ((rd_T33 ((rd_T24 l0_0 x3_2).f1) x4_3).f1))).trans hx339_1; replace hx339_0 := (cell_far (p := ⟨gb338,2,none⟩) (by first | (rw [add_block]; exact hn339_2) | (show (Addr.add _ _).block ≠ _; rw [add_block]; exact hn339_2) | exact hn339_2) (.int .i64 ((rd_T33 ((rd_T24 l0_0 x3_2).f1) x4_3).f2))).trans hx339_0; replace hx339_1 := (cell_far (p := ⟨gb338,2,none⟩) (by first | (rw [add_block]; exact hn339_2) | (show (Addr.add _ _).block ≠ _; rw [add_block]; exact hn339_2) | exact hn339_2) (.int .i64 ((rd_T33 ((rd_T24 l0_0 x3_2).f1) x4_3).f2))).trans hx339_1; replace hx339_0 := (cell_far (p := ⟨gb338,3,none⟩) (by first | (rw [add_block]; exact hn339_3) | (show (Addr.add _ _).block ≠ _; rw [add_block]; exact hn339_3) | exact hn339_3) (.slice A337_3 ((rd_T33 ((rd_T24 l0_0 x3_2).f1) x4_3).f3).length c337_3)).trans hx339_0; replace hx339_1 := (cell_far (p := ⟨gb338,3,none⟩) (by first | (rw [add_block]; exact hn339_3) | (show (Addr.add _ _).block ≠ _; rw [add_block]; exact hn339_3) | exact hn339_3) (.slice A337_3 ((rd_T33 ((rd_T24 l0_0 x3_2).f1) x4_3).f3).length c337_3)).trans hx339_1; (try have hy339_0 := fun (n_ : Nat) => (show ((((((w36.drewN n_).setCell ⟨gb338,0,none⟩ (.int .i64 ((rd_T33 ((rd_T24 l0_0 x3_2).f1) x4_3).f0))).setCell ⟨gb338,1,none⟩ (.int .i64 ((rd_T33 ((rd_T24 l0_0 x3_2).f1) x4_3).f1))).setCell ⟨gb338,2,none⟩ (.int .i64 ((rd_T33 ((rd_T24 l0_0 x3_2).f1) x4_3).f2))).setCell ⟨gb338,3,none⟩ (.slice A337_3 ((rd_T33 ((rd_T24 l0_0 x3_2).f1) x4_3).f3).length c337_3))).cell? _ = some _ from hx339_0)); (try have hy339_1 := fun (n_ : Nat) => (show ((((((w36.drewN n_).setCell ⟨gb338,0,none⟩ (.int .i64 ((rd_T33 ((rd_T24 l0_0 x3_2).f1) x4_3).f0))).setCell ⟨gb338,1,none⟩ (.int .i64 ((rd_T33 ((rd_T24 l0_0 x3_2).f1) x4_3).f1))).setCell ⟨gb338,2,none⟩ (.int .i64 ((rd_T33 ((rd_T24 l0_0 x3_2).f1) x4_3).f2))).setCell ⟨gb338,3,none⟩ (.slice A337_3 ((rd_T33 ((rd_T24 l0_0 x3_2).f1) x4_3).f3).length c337_3))).cell? _ = some _ from hx339_1)); clear hn339_0; clear hn339_1; clear hn339_2; clear hn339_3; replace p339 := eq_true p339; replace q339 := eq_true q339)))
                    go_ret
                    exact ⟨by first | rfl | (simp [errW_none,errW_some] <;> rfl) | (simp [*,errW_none,errW_some] <;> rfl),by repeat (first | (with_reducible first | exact HB.out | apply below_alloc | apply pw_below_drewN | apply below_drew1 | refine below_set ?_ GE330.out | refine below_set ?_ GE338.out) | exact HB.out)⟩
                  ·rw [if_neg c28] at H
                   exact absurd H (by simp)
                 ·rw [if_neg c27] at H
                  exact absurd H (by simp)
               ·rw [if_neg c20] at H
                have c20b0 : (((rd_T33 ((rd_T24 l0_0 x3_2).f1) x4_3).f0) == 2) = false := beq_eq_false_iff_ne.mpr c20
                have c20b1 : (((rd_T33 ((rd_T24 l0_0 x3_2).f1) x4_3).f0) != 2) = true := bne_iff_ne.mpr c20
                have H' := Aside0.mk H
                clear H
                have hcz40_0 : wr.cell? ⟨gb330,0,none⟩ = some (.slice (some ad333) l0_0.length c0_0) := (blk_cell BK330.out 0).trans rfl
                have hfz40_0 := blk_frozen BK330.out 0
                have p335 : 0 ≤ (x3_2 : Int) := of_decide_eq_true (by first | (with_reducible assumption) | assumption)
                have q335 : x3_2 < (l0_0.length : Int) := of_decide_eq_true (by first | (with_reducible assumption) | assumption)
                obtain ⟨ad335,A335_1,c335_1,e335,hx335_0,hx335_1,hl335_1,hi335_1⟩ := at_T24 HR0_0.out x3_2 p335 q335
                obtain rfl : ad333 = ad335 := (by injection e335)
                replace hx335_0 := (HB.out.cell (World.block_lt_of_cell? w _ hx335_0)).trans hx335_0
                replace hx335_1 := (HB.out.cell (World.block_lt_of_cell? w _ hx335_1)).trans hx335_1
                have HR335_1 := Aside0.mk hi335_1
                have HC335_1 := Aside0.mk hl335_1
                clear hi335_1 hl335_1
                replace p335 := eq_true p335
                replace q335 := eq_true q335
                have p336 : 0 ≤ (x3_2 : Int) := of_decide_eq_true (by first | (with_reducible assumption) | assumption)
                have q336 : x3_2 < (l0_0.length : Int) := of_decide_eq_true (by first | (with_reducible assumption) | assumption)
                obtain ⟨ad336,A336_1,c336_1,e336,hx336_0,hx336_1,hl336_1,hi336_1⟩ := at_T24 HR0_0.out x3_2 p336 q336
                obtain rfl : ad333 = ad336 := (by injection e336)
                replace hx336_0 := (HB.out.cell (World.block_lt_of_cell? w _ hx336_0)).trans hx336_0
                replace hx336_1 := (HB.out.cell (World.block_lt_of_cell? w _ hx336_1)).trans hx336_1
                have HR336_1 := Aside0.mk hi336_1
                have HC336_1 := Aside0.mk hl336_1
                clear hi336_1 hl336_1
                replace p336 := eq_true p336
                replace q336 := eq_true q336
                have ea_ := Option.some.inj (hx335_1.symm.trans hx336_1)
                injection ea_ with ea_ en_ ec_
                subst ea_
                subst ec_
                clear en_
                have p337 : 0 ≤ (x4_3 : Int) := of_decide_eq_true (by first | (with_reducible assumption) | assumption)
                have q337 : x4_3 < (((rd_T24 l0_0 x3_2).f1).length : Int) := of_decide_eq_true (by first | (with_reducible assumption) | assumption)
                obtain ⟨ad337,A337_3,c337_3,e337,hx337_0,hx337_1,hx337_2,hx337_3,hl337_3,hi337_3⟩ := at_T33 HR336_1.out x4_3 p337 q337
                cases e337
                replace hx337_0 := (HB.out.cell (World.block_lt_of_cell? w _ hx337_0)).trans hx337_0
                replace hx337_1 := (HB.out.cell (World.block_lt_of_cell? w _ hx337_1)).trans hx337_1
                replace hx337_2 := (HB.out.cell (World.block_lt_of_cell? w _ hx337_2)).trans hx337_2
                replace hx337_3 := (HB.out.cell (World.block_lt_of_cell? w _ hx337_3)).trans hx337_3
                have HR337_3 := Aside0.mk hi337_3
                have HC337_3 := Aside0.mk hl337_3
                clear hi337_3 hl337_3
                replace p337 := eq_true p337
                replace q337 := eq_true q337
                go_wp2_with (first | ((with_reducible refine gate_dst (N := 5) rfl ?_); (try (refine gate_guard (by rfl) ?_; dsimp only)); refine box_event ?hg (N := 5) ?hd (cs := #[.int .i64 0,.int .i64 0,.int .i64 0,.slice none 0 0]) (t := 33) ?hr ?_; (case hd => rfl); (case hg => rfl); (case hr => first | (go_simp; done) | (go_simp; rfl)); intro gb338 hg w41 hbox hb; have n0_ := Aside0.mk (blk_below (g := gb330) (o := .cells #[.slice (some ad333) l0_0.length c0_0] 41 (0,0)) (by (with_reducible repeat (first | refine blk_drewN ?_ _ | refine blk_drew ?_ | refine blk_alloc ?_ _)); exact BK330.out) hb); have n1_ := Aside0.mk (below_step (by repeat (first | (with_reducible first | exact HB.out | apply below_alloc | apply pw_below_drewN | apply below_drew1 | refine below_set ?_ GE330.out) | exact HB.out)) hb); have n2_ := Aside0.mk (hbox); have n3_ := Aside0.mk ((by rw [hg]; exact (below_size (by repeat (first | (with_reducible first | exact HB.out | apply below_alloc | apply pw_below_drewN | apply below_drew1 | refine below_set ?_ GE330.out) | exact HB.out))) : w.heap.size ≤ gb338)); have n4_ := Aside0.mk ((by rw [hg]; exact (below_size (by repeat (first | (with_reducible first | exact HB.out | apply below_alloc | apply pw_below_drewN | apply below_drew1 | refine below_set ?_ GE330.out) | exact HB.out))) : w.heap.size ≤ gb338)); have n5_ := Aside0.mk ((by rw [hg]; exact Nat.ne_of_lt (blk_lt (g := gb330) (o := .cells #[.slice (some ad333) l0_0.length c0_0] 41 (0,0)) (by (with_reducible repeat (first | refine blk_drewN ?_ _ | refine blk_drew ?_ | refine blk_alloc ?_ _)); exact BK330.out)) : gb330 ≠ gb338)); have n6_ := Aside0.mk ((by rw [hg]; exact Nat.ne_of_gt (blk_lt (g := gb330) (o := .cells #[.slice (some ad333) l0_0.length c0_0] 41 (0,0)) (by (with_reducible repeat (first | refine blk_drewN ?_ _ | refine blk_drew ?_ | refine blk_alloc ?_ _)); exact BK330.out)) : gb338 ≠ gb330)); clear BK330; clear HB; have BK330 := n0_; have HB := n1_; have BK338 := n2_; have GW338 := n3_; have GE338 := n4_; have NB330_338 := n5_; have NB338_330 := n6_; clear n0_ n1_ n2_ n3_ n4_ n5_ n6_; clear hb hbox hg; have hnb42 := NB338_330.out; have hnc42 := NB330_338.out; have hcz43_0 : w41.cell? ⟨gb338,0,none⟩ = some (.int .i64 0) := (blk_cell BK338.out 0).trans rfl; have hcz43_1 : w41.cell? ⟨gb338,1,none⟩ = some (.int .i64 0) := (blk_cell BK338.out 1).trans rfl; have hcz43_2 : w41.cell? ⟨gb338,2,none⟩ = some (.int .i64 0) := (blk_cell BK338.out 2).trans rfl; have hcz43_3 : w41.cell? ⟨gb338,3,none⟩ = some (.slice none 0 0) := (blk_cell BK338.out 3).trans rfl; have hfz43_0 := blk_frozen BK338.out 0; have hfz43_1 := blk_frozen BK338.out 1; have hfz43_2 := blk_frozen BK338.out 2; have hfz43_3 := blk_frozen BK338.out 3))
                repeat (go_quiet (first | ((with_reducible refine gate_dst (N := 5) rfl ?_); (try (refine gate_guard (by rfl) ?_; dsimp only)); refine box_event ?hg (N := 5) ?hd (cs := #[.int .i64 0,.int .i64 0,.int .i64 0,.slice none 0 0]) (t := 33) ?hr ?_; (case hd => rfl); (case hg => rfl); (case hr => first | (go_simp; done) | (go_simp; rfl)); intro gb338 hg w41 hbox hb; have n0_ := Aside0.mk (blk_below (g := gb330) (o := .cells #[.slice (some ad333) l0_0.length c0_0] 41 (0,0)) (by (with_reducible repeat (first | refine blk_drewN ?_ _ | refine blk_drew ?_ | refine blk_alloc ?_ _)); exact BK330.out) hb); have n1_ := Aside0.mk (below_step (by repeat (first | (with_reducible first | exact HB.out | apply below_alloc | apply pw_below_drewN | apply below_drew1 | refine below_set ?_ GE330.out) | exact HB.out)) hb); have n2_ := Aside0.mk (hbox); have n3_ := Aside0.mk ((by rw [hg]; exact (below_size (by repeat (first | (with_reducible first | exact HB.out | apply below_alloc | apply pw_below_drewN | apply below_drew1 | refine below_set ?_ GE330.out) | exact HB.out))) : w.heap.size ≤ gb338)); have n4_ := Aside0.mk ((by rw [hg]; exact (below_size (by repeat (first | (with_reducible first | exact HB.out | apply below_alloc | apply pw_below_drewN | apply below_drew1 | refine below_set ?_ GE330.out) | exact HB.out))) : w.heap.size ≤ gb338)); have n5_ := Aside0.mk ((by rw [hg]; exact Nat.ne_of_lt (blk_lt (g := gb330) (o := .cells #[.slice (some ad333) l0_0.length c0_0] 41 (0,0)) (by (with_reducible repeat (first | refine blk_drewN ?_ _ | refine blk_drew ?_ | refine blk_alloc ?_ _)); exact BK330.out)) : gb330 ≠ gb338)); have n6_ := Aside0.mk ((by rw [hg]; exact Nat.ne_of_gt (blk_lt (g := gb330) (o := .cells #[.slice (some ad333) l0_0.length c0_0] 41 (0,0)) (by (with_reducible repeat (first | refine blk_drewN ?_ _ | refine blk_drew ?_ | refine blk_alloc ?_ _)); exact BK330.out)) : gb338 ≠ gb330)); clear BK330; clear HB; have BK330 := n0_; have HB := n1_; have BK338 := n2_; have GW338 := n3_; have GE338 := n4_; have NB330_338 := n5_; have NB338_330 := n6_; clear n0_ n1_ n2_ n3_ n4_ n5_ n6_; clear hb hbox hg; have hnb42 := NB338_330.out; have hnc42 := NB330_338.out; have hcz43_0 : w41.cell? ⟨gb338,0,none⟩ = some (.int .i64 0) := (blk_cell BK338.out 0).trans rfl; have hcz43_1 : w41.cell? ⟨gb338,1,none⟩ = some (.int .i64 0) := (blk_cell BK338.out 1).trans rfl; have hcz43_2 : w41.cell? ⟨gb338,2,none⟩ = some (.int .i64 0) := (blk_cell BK338.out 2).trans rfl; have hcz43_3 : w41.cell? ⟨gb338,3,none⟩ = some (.slice none 0 0) := (blk_cell BK338.out 3).trans rfl; have hfz43_0 := blk_frozen BK338.out 0; have hfz43_1 := blk_frozen BK338.out 1; have hfz43_2 := blk_frozen BK338.out 2; have hfz43_3 := blk_frozen BK338.out 3)); try go_wp2_with (first | ((with_reducible refine gate_dst (N := 5) rfl ?_); (try (refine gate_guard (by rfl) ?_; dsimp only)); refine box_event ?hg (N := 5) ?hd (cs := #[.int .i64 0,.int .i64 0,.int .i64 0,.slice none 0 0]) (t := 33) ?hr ?_; (case hd => rfl); (case hg => rfl); (case hr => first | (go_simp; done) | (go_simp; rfl)); intro gb338 hg w41 hbox hb; have n0_ := Aside0.mk (blk_below (g := gb330) (o := .cells #[.slice (some ad333) l0_0.length c0_0] 41 (0,0)) (by (with_reducible repeat (first | refine blk_drewN ?_ _ | refine blk_drew ?_ | refine blk_alloc ?_ _)); exact BK330.out) hb); have n1_ := Aside0.mk (below_step (by repeat (first | (with_reducible first | exact HB.out | apply below_alloc | apply pw_below_drewN | apply below_drew1 | refine below_set ?_ GE330.out) | exact HB.out)) hb); have n2_ := Aside0.mk (hbox); have n3_ := Aside0.mk ((by rw [hg]; exact (below_size (by repeat (first | (with_reducible first | exact HB.out | apply below_alloc | apply pw_below_drewN | apply below_drew1 | refine below_set ?_ GE330.out) | exact HB.out))) : w.heap.size ≤ gb338)); have n4_ := Aside0.mk ((by rw [hg]; exact (below_size (by repeat (first | (with_reducible first | exact HB.out | apply below_alloc | apply pw_below_drewN | apply below_drew1 | refine below_set ?_ GE330.out) | exact HB.out))) : w.heap.size ≤ gb338)); have n5_ := Aside0.mk ((by rw [hg]; exact Nat.ne_of_lt (blk_lt (g := gb330) (o := .cells #[.slice (some ad333) l0_0.length c0_0] 41 (0,0)) (by (with_reducible repeat (first | refine blk_drewN ?_ _ | refine blk_drew ?_ | refine blk_alloc ?_ _)); exact BK330.out)) : gb330 ≠ gb338)); have n6_ := Aside0.mk ((by rw [hg]; exact Nat.ne_of_gt (blk_lt (g := gb330) (o := .cells #[.slice (some ad333) l0_0.length c0_0] 41 (0,0)) (by (with_reducible repeat (first | refine blk_drewN ?_ _ | refine blk_drew ?_ | refine blk_alloc ?_ _)); exact BK330.out)) : gb338 ≠ gb330)); clear BK330; clear HB; have BK330 := n0_; have HB := n1_; have BK338 := n2_; have GW338 := n3_; have GE338 := n4_; have NB330_338 := n5_; have NB338_330 := n6_; clear n0_ n1_ n2_ n3_ n4_ n5_ n6_; clear hb hbox hg; have hnb42 := NB338_330.out; have hnc42 := NB330_338.out; have hcz43_0 : w41.cell? ⟨gb338,0,none⟩ = some (.int .i64 0) := (blk_cell BK338.out 0).trans rfl; have hcz43_1 : w41.cell? ⟨gb338,1,none⟩ = some (.int .i64 0) := (blk_cell BK338.out 1).trans rfl; have hcz43_2 : w41.cell? ⟨gb338,2,none⟩ = some (.int .i64 0) := (blk_cell BK338.out 2).trans rfl; have hcz43_3 : w41.cell? ⟨gb338,3,none⟩ = some (.slice none 0 0) := (blk_cell BK338.out 3).trans rfl; have hfz43_0 := blk_frozen BK338.out 0; have hfz43_1 := blk_frozen BK338.out 1; have hfz43_2 := blk_frozen BK338.out 2; have hfz43_3 := blk_frozen BK338.out 3)))
                go_roundg k3
                case measure => have := HJ1.out; have := HK2.out; have := HK3.out; omega
                case rel => exact ⟨(wrap64 (x4_3 + 1)),(by first | rfl | (simp; done) | (simp [*]; done)),H',⟨by have := HJ1.out; have := HK2.out; have := HK3.out; omega⟩,⟨by (with_reducible repeat (first | refine blk_drewN ?_ _ | refine blk_drew ?_ | refine blk_alloc ?_ _)); refine blk_far ?_ NB330_338.out _; (with_reducible repeat (first | refine blk_drewN ?_ _ | refine blk_drew ?_ | refine blk_alloc ?_ _)); refine blk_far ?_ NB330_338.out _; (with_reducible repeat (first | refine blk_drewN ?_ _ | refine blk_drew ?_ | refine blk_alloc ?_ _)); refine blk_far ?_ NB330_338.out _; (with_reducible repeat (first | refine blk_drewN ?_ _ | refine blk_drew ?_ | refine blk_alloc ?_ _)); refine blk_far ?_ NB330_338.out _; (with_reducible repeat (first | refine blk_drewN ?_ _ | refine blk_drew ?_ | refine blk_alloc ?_ _)); exact BK330.out⟩,⟨by repeat (first | (with_reducible first | exact HB.out | apply below_alloc | apply pw_below_drewN | apply below_drew1 | refine below_set ?_ GE330.out | refine below_set ?_ GE338.out) | exact HB.out)⟩⟩
              ·rw [if_neg c19] at H
               exact absurd H (by simp)
             ·rw [if_neg c18] at H
              have c18b0 : decide (x4_3 < (((rd_T24 l0_0 x3_2).f1).length : Int)) = false := decide_eq_false c18
              clear c18
              have H' := Aside0.mk H
              clear H
              have hcz44_0 : wr.cell? ⟨gb330,0,none⟩ = some (.slice (some ad333) l0_0.length c0_0) := (blk_cell BK330.out 0).trans rfl
              have hfz44_0 := blk_frozen BK330.out 0
              have p335 : 0 ≤ (x3_2 : Int) := of_decide_eq_true (by first | (with_reducible assumption) | assumption)
              have q335 : x3_2 < (l0_0.length : Int) := of_decide_eq_true (by first | (with_reducible assumption) | assumption)
              obtain ⟨ad335,A335_1,c335_1,e335,hx335_0,hx335_1,hl335_1,hi335_1⟩ := at_T24 HR0_0.out x3_2 p335 q335
              obtain rfl : ad333 = ad335 := (by injection e335)
              replace hx335_0 := (HB.out.cell (World.block_lt_of_cell? w _ hx335_0)).trans hx335_0
              replace hx335_1 := (HB.out.cell (World.block_lt_of_cell? w _ hx335_1)).trans hx335_1
              have HR335_1 := Aside0.mk hi335_1
              have HC335_1 := Aside0.mk hl335_1
              clear hi335_1 hl335_1
              replace p335 := eq_true p335
              replace q335 := eq_true q335
              go_wp2
              repeat (go_quiet (fail); try go_wp2)
              go_roundg k3
              case measure => have := HJ1.out; have := HK2.out; have := HK3.out; omega
              case rel => exact ⟨(wrap64 (x3_2 + 1)),(by first | rfl | (simp; done) | (simp [*]; done)),H',⟨by have := HJ1.out; have := HK2.out; have := HK3.out; omega⟩,⟨by (with_reducible repeat (first | refine blk_drewN ?_ _ | refine blk_drew ?_ | refine blk_alloc ?_ _)); exact BK330.out⟩,⟨by repeat (first | (with_reducible first | exact HB.out | apply below_alloc | apply pw_below_drewN | apply below_drew1 | refine below_set ?_ GE330.out) | exact HB.out)⟩⟩
            ·rw [if_neg c17] at H
             exact absurd H (by simp)
           ·rw [if_neg c16] at H
            exact absurd H (by simp)
        ·replace c13 := Bool.eq_false_iff.mpr c13
         subst c13
         have H1 : (some false) = some r := by rw [if_neg (show ¬ (false = true) by decide)] at H; exact H
         clear H
         have H := H1
         clear H1
         obtain rfl := Option.some.inj H
         have hcz45_0 : wr.cell? ⟨gb330,0,none⟩ = some (.slice A0_0 l0_0.length c0_0) := (blk_cell BK330.out 0).trans rfl
         have hfz45_0 := blk_frozen BK330.out 0
         have p333 : 0 ≤ (x3_2 : Int) := of_decide_eq_true (by first | (with_reducible assumption) | assumption)
         have q333 : x3_2 < (l0_0.length : Int) := of_decide_eq_true (by first | (with_reducible assumption) | assumption)
         obtain ⟨ad333,A333_1,c333_1,e333,hx333_0,hx333_1,hl333_1,hi333_1⟩ := at_T24 HR0_0.out x3_2 p333 q333
         cases e333
         replace hx333_0 := (HB.out.cell (World.block_lt_of_cell? w _ hx333_0)).trans hx333_0
         replace hx333_1 := (HB.out.cell (World.block_lt_of_cell? w _ hx333_1)).trans hx333_1
         have HR333_1 := Aside0.mk hi333_1
         have HC333_1 := Aside0.mk hl333_1
         clear hi333_1 hl333_1
         replace p333 := eq_true p333
         replace q333 := eq_true q333
         go_wp2_with (first | (go_at_call 14; (with_reducible refine (sleuthref1_DefMay.calls k2 ((rd_T24 l0_0 x3_2).f0) _ _ ((rd_T24 l0_0 x3_2).f1) false _ ?side1 ?side2 A12.out).mono ?_); (case side1 => repeat (first | exact (Kd.C_below HR333_1.out HB.out) | (with_reducible refine Kd.C_alloc ?_ _) | (with_reducible refine Kd.C_drewN ?_ _) | (with_reducible refine Kd.C_drew ?_))); (case side2 => exact HC333_1.out); rintro e w46 ⟨rfl,hb⟩; have n0_ := Aside0.mk (blk_below (g := gb330) (o := .cells #[.slice (some ad333) l0_0.length c0_0] 41 (0,0)) (by (with_reducible repeat (first | refine blk_drewN ?_ _ | refine blk_drew ?_ | refine blk_alloc ?_ _)); exact BK330.out) hb); have n1_ := Aside0.mk (below_step (by repeat (first | (with_reducible first | exact HB.out | apply below_alloc | apply pw_below_drewN | apply below_drew1 | refine below_set ?_ GE330.out) | exact HB.out)) hb); clear BK330; clear HB; have BK330 := n0_; have HB := n1_; clear n0_ n1_; (try clear hb); (try clear hb2); (try clear hk); (try clear hi)))
         repeat (go_quiet (first | (go_at_call 14; (with_reducible refine (sleuthref1_DefMay.calls k2 ((rd_T24 l0_0 x3_2).f0) _ _ ((rd_T24 l0_0 x3_2).f1) false _ ?side1 ?side2 A12.out).mono ?_); (case side1 => repeat (first | exact (Kd.C_below HR333_1.out HB.out) | (with_reducible refine Kd.C_alloc ?_ _) | (with_reducible refine Kd.C_drewN ?_ _) | (with_reducible refine Kd.C_drew ?_))); (case side2 => exact HC333_1.out); rintro e w46 ⟨rfl,hb⟩; have n0_ := Aside0.mk (blk_below (g := gb330) (o := .cells #[.slice (some ad333) l0_0.length c0_0] 41 (0,0)) (by (with_reducible repeat (first | refine blk_drewN ?_ _ | refine blk_drew ?_ | refine blk_alloc ?_ _)); exact BK330.out) hb); have n1_ := Aside0.mk (below_step (by repeat (first | (with_reducible first | exact HB.out | apply below_alloc | apply pw_below_drewN | apply below_drew1 | refine below_set ?_ GE330.out) | exact HB.out)) hb); clear BK330; clear HB; have BK330 := n0_; have HB := n1_; clear n0_ n1_; (try clear hb); (try clear hb2); (try clear hk); (try clear hi))); try go_wp2_with (first | (go_at_call 14; (with_reducible refine (sleuthref1_DefMay.calls k2 ((rd_T24 l0_0 x3_2).f0) _ _ ((rd_T24 l0_0 x3_2).f1) false _ ?side1 ?side2 A12.out).mono ?_); (case side1 => repeat (first | exact (Kd.C_below HR333_1.out HB.out) | (with_reducible refine Kd.C_alloc ?_ _) | (with_reducible refine Kd.C_drewN ?_ _) | (with_reducible refine Kd.C_drew ?_))); (case side2 => exact HC333_1.out); rintro e w46 ⟨rfl,hb⟩; have n0_ := Aside0.mk (blk_below (g := gb330) (o := .cells #[.slice (some ad333) l0_0.length c0_0] 41 (0,0)) (by (with_reducible repeat (first | refine blk_drewN ?_ _ | refine blk_drew ?_ | refine blk_alloc ?_ _)); exact BK330.out) hb); have n1_ := Aside0.mk (below_step (by repeat (first | (with_reducible first | exact HB.out | apply below_alloc | apply pw_below_drewN | apply below_drew1 | refine below_set ?_ GE330.out) | exact HB.out)) hb); clear BK330; clear HB; have BK330 := n0_; have HB := n1_; clear n0_ n1_; (try clear hb); (try clear hb2); (try clear hk); (try clear hi))))
         go_ret
         exact ⟨by first | rfl | (simp [errW_none,errW_some] <;> rfl) | (simp [*,errW_none,errW_some] <;> rfl),by repeat (first | (with_reducible first | exact HB.out | apply below_alloc | apply pw_below_drewN | apply below_drew1 | refine below_set ?_ GE330.out) | exact HB.out)⟩
       ·rw [if_neg c11] at H
        exact absurd H (by simp)
      ·rw [if_neg c10] at H
       have c10b0 : decide (x3_2 < (l0_0.length : Int)) = false := decide_eq_false c10
       clear c10
       obtain rfl := Option.some.inj H
       have hcz47_0 : wr.cell? ⟨gb330,0,none⟩ = some (.slice A0_0 l0_0.length c0_0) := (blk_cell BK330.out 0).trans rfl
       have hfz47_0 := blk_frozen BK330.out 0
       go_wp2
       repeat (go_quiet (fail); try go_wp2)
       go_ret
       exact ⟨by first | rfl | (simp [errW_none,errW_some] <;> rfl) | (simp [*,errW_none,errW_some] <;> rfl),by repeat (first | (with_reducible first | exact HB.out | apply below_alloc | apply pw_below_drewN | apply below_drew1 | refine below_set ?_ GE330.out) | exact HB.out)⟩


end Go.Proofs.Ytkpblifelpokfaa.PAll
