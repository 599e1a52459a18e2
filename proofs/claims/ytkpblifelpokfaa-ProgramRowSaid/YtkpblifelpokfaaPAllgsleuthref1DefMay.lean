/- Written by a program of this session (ownprint.py, over the print of the kit): what Go functions compute, each as a Lean function, and that they compute it; some functions by contracts of the session (texts of their own). No condition. -/
import Derived.Test.YtkpblifelpokfaaPAllx0
import Derived.Test.YtkpblifelpokfaaPAllgsleuthref1upTo
import Derived.Test.YtkpblifelpokfaaPAllgsleuthref1kinds
import Derived.Test.YtkpblifelpokfaaPAllgsleuthref1deeper
namespace Go.Proofs.Ytkpblifelpokfaa.PAll
open Go.RowKit Go.Proofs.YtkpblifelpokfaaW.PrintWords Go.Proofs.YtkpblifelpokfaaW.PrintLast Go.Proofs.YtkpblifelpokfaaW.PrintMore
attribute [local go_sem] max2_int min2_int max_two min_two max_three min_three max_four min_four   -- for this text's walks alone
set_option linter.unusedVariables false
set_option linter.unusedSimpArgs false
section
abbrev PAllgsleuthref1DefMay.T : Bool := true
abbrev PAllgsleuthref1DefMay.F : Bool := false
open PAllgsleuthref1DefMay (T F)

/-! ### sleuthref1_DefMay: function 14 -/
mutual
def sleuthref1_DefMay.j0 : Nat → Bool → Int → List (S33) → Option (Bool)
 | 0,_,_,_ => none
 | k + 1,x18,x163000,x163001 => if x18 = true then (some false) else (if 0 ≤ (x163001.length : Int) then (if ((x163001.length : Int) : Int).toNat ≤ 35184372088832 then ((some (List.replicate ((x163001.length : Int) : Int).toNat 0 : List Int)).bind fun y165 => (if 0 ≤ (wrap64 ((y165.length : Int) - 1)) then (if (wrap64 ((y165.length : Int) - 1)) < (y165.length : Int) then (sleuthref1_DefMay.l0 k (y165.set ((wrap64 ((y165.length : Int) - 1)) : Int).toNat (wrap64 (x163000 + 1))) (wrap64 ((x163001.length : Int) - 1)) x163000 x163001) else (none)) else (none))) else (none)) else (none))
def sleuthref1_DefMay.l0 : Nat → List Int → Int → Int → List (S33) → Option (Bool)
 | 0,_,_,_,_ => none
 | k + 1,x3,x4,x163000,x163001 => if x4 ≥ 0 then (if 0 ≤ x4 then (if x4 < (x163001.length : Int) then (if x4 < (x3.length : Int) then (if (rd x3 x4) = 0 then (sleuthref1_DefMay.j2 k x3 x4 true x163000 x163001 ((rd_T33 x163001 x4).f0) ((rd_T33 x163001 x4).f1) ((rd_T33 x163001 x4).f2) ((rd_T33 x163001 x4).f3)) else (if (wrap64 ((rd x3 x4) - 1)) > 8 then (sleuthref1_DefMay.j2 k x3 x4 true x163000 x163001 ((rd_T33 x163001 x4).f0) ((rd_T33 x163001 x4).f1) ((rd_T33 x163001 x4).f2) ((rd_T33 x163001 x4).f3)) else ((sleuthref1_kinds.f ((rd_T33 x163001 x4).f0) ((rd_T33 x163001 x4).f1) ((rd_T33 x163001 x4).f2) ((rd_T33 x163001 x4).f3) (wrap64 ((rd x3 x4) - 1))).bind fun t174 => (sleuthref1_DefMay.j2 k x3 x4 (!t174) x163000 x163001 ((rd_T33 x163001 x4).f0) ((rd_T33 x163001 x4).f1) ((rd_T33 x163001 x4).f2) ((rd_T33 x163001 x4).f3))))) else (none)) else (none)) else (none)) else (some true)
def sleuthref1_DefMay.j2 : Nat → List Int → Int → Bool → Int → List (S33) → Int → Int → Int → List Int → Option (Bool)
 | 0,_,_,_,_,_,_,_,_,_ => none
 | k + 1,x3,x4,x66,x163000,x163001,x171000,x171001,x171002,x171003 => if x66 = true then (some false) else (sleuthref1_DefMay.l1 k x3 x4 0 x163000 x163001 x171000 x171001 x171002 x171003)
def sleuthref1_DefMay.l1 : Nat → List Int → Int → Int → Int → List (S33) → Int → Int → Int → List Int → Option (Bool)
 | 0,_,_,_,_,_,_,_,_,_ => none
 | k + 1,x3,x4,x6,x163000,x163001,x171000,x171001,x171002,x171003 => if x6 < (x171003.length : Int) then (if 0 ≤ x6 then ((sleuthref1_upTo.f (rd x171003 x6) 0 (wrap64 (x4 - 1))).bind fun t176 => (if t176 = true then (if 0 ≤ (rd x171003 x6) then (if (rd x171003 x6) < (x3.length : Int) then (if (rd x3 (rd x171003 x6)) = 0 then (if 0 ≤ x4 then (if x4 < (x3.length : Int) then ((sleuthref1_deeper.f k x171000 x171001 x171002 x171003 x6).bind fun t179 => (sleuthref1_DefMay.l1 k (x3.set ((rd x171003 x6) : Int).toNat (wrap64 ((rd x3 x4) + t179))) x4 (wrap64 (x6 + 1)) x163000 x163001 x171000 x171001 x171002 x171003)) else (none)) else (none)) else (some false)) else (none)) else (none)) else (some false))) else (none)) else (sleuthref1_DefMay.l0 k x3 (wrap64 (x4 - 1)) x163000 x163001)
end
def sleuthref1_DefMay.f (k : Nat) (a0_0 : Int) (l0_1 : List (S33)) : Option (Bool) := (sleuthref1_upTo.f a0_0 0 3).bind fun t163 => (if t163 = true then ((sleuthref1_upTo.f (l0_1.length : Int) 1 24).bind fun t164 => (sleuthref1_DefMay.j0 k (!t164) a0_0 l0_1)) else (sleuthref1_DefMay.j0 k true a0_0 l0_1))
theorem sleuthref1_DefMay.mono_l : ∀ k,(∀ y0 y1 y2,LeO (sleuthref1_DefMay.j0 k y0 y1 y2) (sleuthref1_DefMay.j0 (k + 1) y0 y1 y2)) ∧ (∀ y0 y1 y2 y3,LeO (sleuthref1_DefMay.l0 k y0 y1 y2 y3) (sleuthref1_DefMay.l0 (k + 1) y0 y1 y2 y3)) ∧ (∀ y0 y1 y2 y3 y4 y5 y6 y7 y8,LeO (sleuthref1_DefMay.j2 k y0 y1 y2 y3 y4 y5 y6 y7 y8) (sleuthref1_DefMay.j2 (k + 1) y0 y1 y2 y3 y4 y5 y6 y7 y8)) ∧ (∀ y0 y1 y2 y3 y4 y5 y6 y7 y8,LeO (sleuthref1_DefMay.l1 k y0 y1 y2 y3 y4 y5 y6 y7 y8) (sleuthref1_DefMay.l1 (k + 1) y0 y1 y2 y3 y4 y5 y6 y7 y8))
 | 0 => ⟨fun _ _ _ r h => by simp [sleuthref1_DefMay.j0] at h,fun _ _ _ _ r h => by simp [sleuthref1_DefMay.l0] at h,fun _ _ _ _ _ _ _ _ _ r h => by simp [sleuthref1_DefMay.j2] at h,fun _ _ _ _ _ _ _ _ _ r h => by simp [sleuthref1_DefMay.l1] at h⟩
 | k + 1 => by
  obtain ⟨ih0,ih1,ih2,ih3⟩ := sleuthref1_DefMay.mono_l k
  refine ⟨?_,?_,?_,?_⟩
  ·intro y0 y1 y2
   unfold sleuthref1_DefMay.j0
   repeat' first
   | (with_reducible exact ih0 _ _ _)
   | (with_reducible exact ih1 _ _ _ _)
   | (with_reducible exact ih2 _ _ _ _ _ _ _ _ _)
   | (with_reducible exact ih3 _ _ _ _ _ _ _ _ _)
   | (with_reducible exact sleuthref1_deeper.mono _ _ _ _ _ _)
   | (with_reducible exact LeO.refl _)
   | (with_reducible exact LeO.none _)
   | (with_reducible refine LeO.ite ?_ ?_)
   | (with_reducible refine LeO.bind ?_ (fun _ => ?_))
   | exact ih0 _ _ _
   | exact ih1 _ _ _ _
   | exact ih2 _ _ _ _ _ _ _ _ _
   | exact ih3 _ _ _ _ _ _ _ _ _
   | exact sleuthref1_deeper.mono _ _ _ _ _ _
   | exact LeO.none _
   | refine LeO.ite ?_ ?_
   | refine LeO.bind ?_ (fun _ => ?_)
  ·intro y0 y1 y2 y3
   unfold sleuthref1_DefMay.l0
   repeat' first
   | (with_reducible exact ih0 _ _ _)
   | (with_reducible exact ih1 _ _ _ _)
   | (with_reducible exact ih2 _ _ _ _ _ _ _ _ _)
   | (with_reducible exact ih3 _ _ _ _ _ _ _ _ _)
   | (with_reducible exact sleuthref1_deeper.mono _ _ _ _ _ _)
   | (with_reducible exact LeO.refl _)
   | (with_reducible exact LeO.none _)
   | (with_reducible refine LeO.ite ?_ ?_)
   | (with_reducible refine LeO.bind ?_ (fun _ => ?_))
   | exact ih0 _ _ _
   | exact ih1 _ _ _ _
   | exact ih2 _ _ _ _ _ _ _ _ _
   | exact ih3 _ _ _ _ _ _ _ _ _
   | exact sleuthref1_deeper.mono _ _ _ _ _ _
   | exact LeO.none _
   | refine LeO.ite ?_ ?_
   | refine LeO.bind ?_ (fun _ => ?_)
  ·intro y0 y1 y2 y3 y4 y5 y6 y7 y8
   unfold sleuthref1_DefMay.j2
   repeat' first
   | (with_reducible exact ih0 _ _ _)
   | (with_reducible exact ih1 _ _ _ _)
   | (with_reducible exact ih2 _ _ _ _ _ _ _ _ _)
   | (with_reducible exact ih3 _ _ _ _ _ _ _ _ _)
   | (with_reducible exact sleuthref1_deeper.mono _ _ _ _ _ _)
   | (with_reducible exact LeO.refl _)
   | (with_reducible exact LeO.none _)
   | (with_reducible refine LeO.ite ?_ ?_)
   | (with_reducible refine LeO.bind ?_ (fun _ => ?_))
   | exact ih0 _ _ _
   | exact ih1 _ _ _ _
   | exact ih2 _ _ _ _ _ _ _ _ _
   | exact ih3 _ _ _ _ _ _ _ _ _
   | exact sleuthref1_deeper.mono _ _ _ _ _ _
   | exact LeO.none _
   | refine LeO.ite ?_ ?_
   | refine LeO.bind ?_ (fun _ => ?_)
  ·intro y0 y1 y2 y3 y4 y5 y6 y7 y8
   unfold sleuthref1_DefMay.l1
   repeat' first
   | (with_reducible exact ih0 _ _ _)
   | (with_reducible exact ih1 _ _ _ _)
   | (with_reducible exact ih2 _ _ _ _ _ _ _ _ _)
   | (with_reducible exact ih3 _ _ _ _ _ _ _ _ _)
   | (with_reducible exact sleuthref1_deeper.mono _ _ _ _ _ _)
   | (with_reducible exact LeO.refl _)
   | (with_reducible exact LeO.none _)
   | (with_reducible refine LeO.ite ?_ ?_)
   | (with_reducible refine LeO.bind ?_ (fun _ => ?_))
   | exact ih0 _ _ _
   | exact ih1 _ _ _ _
   | exact ih2 _ _ _ _ _ _ _ _ _
   | exact ih3 _ _ _ _ _ _ _ _ _
   | exact sleuthref1_deeper.mono _ _ _ _ _ _
   | exact LeO.none _
   | refine LeO.ite ?_ ?_
   | refine LeO.bind ?_ (fun _ => ?_)
theorem sleuthref1_DefMay.mono : ∀ a0 a1 k,LeO (sleuthref1_DefMay.f k a0 a1) (sleuthref1_DefMay.f (k + 1) a0 a1) := by
 intro a0 a1 k
 obtain ⟨ih0,ih1,ih2,ih3⟩ := sleuthref1_DefMay.mono_l k
 unfold sleuthref1_DefMay.f
 repeat' first
   | (with_reducible exact ih0 _ _ _)
   | (with_reducible exact ih1 _ _ _ _)
   | (with_reducible exact ih2 _ _ _ _ _ _ _ _ _)
   | (with_reducible exact ih3 _ _ _ _ _ _ _ _ _)
   | (with_reducible exact sleuthref1_deeper.mono _ _ _ _ _ _)
   | (with_reducible exact LeO.refl _)
   | (with_reducible exact LeO.none _)
   | (with_reducible refine LeO.ite ?_ ?_)
   | (with_reducible refine LeO.bind ?_ (fun _ => ?_))
   | exact ih0 _ _ _
   | exact ih1 _ _ _ _
   | exact ih2 _ _ _ _ _ _ _ _ _
   | exact ih3 _ _ _ _ _ _ _ _ _
   | exact sleuthref1_deeper.mono _ _ _ _ _ _
   | exact LeO.none _
   | refine LeO.ite ?_ ?_
   | refine LeO.bind ?_ (fun _ => ?_)
def sleuthref1_DefMay.T9 : Bool × List (List Nat × List Nat) := (true,[([],[]),([],[]),([0,1],[0,1]),([2],[2]),([3],[3]),([4],[4]),([5],[5]),([5],[5]),([6,7,5],[5,6,7]),([8,5],[5,8]),([9,5],[5,9]),([10,5],[5,10]),([5,11],[5,11]),([12,5],[12]),([13],[13]),([13],[13]),([13],[13]),([15,16,13],[13,15,16]),([17,13],[13,17]),([18,13],[13,18]),([14,19,13,13],[13,14,19]),([20,13],[13,20]),([13,21],[13,21])])
def sleuthref1_DefMay.B9 : List Nat := [0,0,3,7,15,31,63,63,255,511,1023,2047,4095,8191,16383,16383,16383,114687,245759,507903,1048575,2097151,4194303]
theorem sleuthref1_DefMay.tab9 : rtab .any (opsOf Try.f14 9) = sleuthref1_DefMay.T9 := by kernel_rfl
theorem sleuthref1_DefMay.bits9 : waitsOk sleuthref1_DefMay.T9.2 sleuthref1_DefMay.B9 = true := by kernel_rfl
def sleuthref1_DefMay.T17 : Bool × List (List Nat × List Nat) := (true,[([],[]),([],[]),([],[]),([],[]),([2,3],[2,3]),([4],[4]),([],[]),([],[]),([6,7],[6,7]),([5,8],[5,8]),([0,1,0,1,2,3,4,5,6,7,8,9],[0,1]),([10,9,8,0,1,2,3,4,5,6,7,8,9],[9,10])])
def sleuthref1_DefMay.B17 : List Nat := [0,0,0,0,12,28,0,0,192,508,1023,2047]
theorem sleuthref1_DefMay.tab17 : rtab .any (opsOf Try.f14 17) = sleuthref1_DefMay.T17 := by kernel_rfl
theorem sleuthref1_DefMay.bits17 : waitsOk sleuthref1_DefMay.T17.2 sleuthref1_DefMay.B17 = true := by kernel_rfl
set_option maxHeartbeats 8000000 in
set_option maxRecDepth 100000 in
theorem sleuthref1_DefMay.calls (k : Nat) (a0_0 : Int) (A0_1 : Option Addr) (c0_1 : Nat) (l0_1 : List (S33)) (r : Bool) (w : World) (hr0_1 : Kd.C k33 w A0_1 l0_1.length l0_1) (hc0_1 : l0_1.length ≤ c0_1) (h : sleuthref1_DefMay.f k a0_0 l0_1 = some r) :
  Calls Try.prog 14 #[.agg #[.int .i64 a0_0,.slice A0_1 l0_1.length c0_1]] w fun e w' => e = .returned (.bool r) ∧ Below w.heap.size w w' := by
 have hu24 := Try.underlying24
 have hu33 := Try.underlying33
 have HR0_1 := Aside0.mk hr0_1
 have HC0_1 := Aside0.mk hc0_1
 clear hr0_1 hc0_1
 have HB := Aside0.mk (Below.refl w.heap.size w)
 have H : ((sleuthref1_upTo.f a0_0 0 3).bind fun t163 => (if t163 = true then ((sleuthref1_upTo.f (l0_1.length : Int) 1 24).bind fun t164 => (sleuthref1_DefMay.j0 k (!t164) a0_0 l0_1)) else (sleuthref1_DefMay.j0 k true a0_0 l0_1))) = some r := h
 clear h
 have HC2 := Aside0.mk H
 clear H
 go_enter Try.func14,Try.ntmps14
 go_upto_region 1 with (first | ((with_reducible refine gate_dst (N := 1) rfl ?_); (try (refine gate_guard (by rfl) ?_; dsimp only)); refine box_event ?hg (N := 1) ?hd (cs := #[.int .i64 a0_0,.slice A0_1 l0_1.length c0_1]) (t := 24) ?hr ?_; (case hd => rfl); (case hg => rfl); (case hr => first | (go_simp; done) | (go_simp; rfl)); intro gb162 hg w3 hbox hb; have n0_ := Aside0.mk (below_step (by repeat (first | (with_reducible first | exact HB.out | apply below_alloc | apply pw_below_drewN | apply below_drew1) | exact HB.out)) hb); have n1_ := Aside0.mk (hbox); have n2_ := Aside0.mk ((by rw [hg]; exact (below_size (by repeat (first | (with_reducible first | exact HB.out | apply below_alloc | apply pw_below_drewN | apply below_drew1) | exact HB.out))) : w.heap.size ≤ gb162)); have n3_ := Aside0.mk ((by rw [hg]; exact (below_size (by repeat (first | (with_reducible first | exact HB.out | apply below_alloc | apply pw_below_drewN | apply below_drew1) | exact HB.out))) : w.heap.size ≤ gb162)); clear HB; have HB := n0_; have BK162 := n1_; have GW162 := n2_; have GE162 := n3_; clear n0_ n1_ n2_ n3_; clear hb hbox hg))
 (try simp only [Act.put,List.setIfInBounds_toArray,List.set_cons_zero,List.set_cons_succ])
 go_cut [18] (fun v18 wc => ∃ (kq : Nat) (x18_1 : Bool),v18 = .bool x18_1 ∧ Aside0 (sleuthref1_DefMay.j0 kq x18_1 a0_0 l0_1 = some r) ∧ Aside0 (kq ≤ k) ∧ Aside0 (wc.heap[gb162]? = some (.cells #[.int .i64 a0_0,(.slice A0_1 l0_1.length c0_1)] 24 (0,0))) ∧ Aside0 (Below w.heap.size w wc))
 case first =>
  have H := HC2.out
  clear HC2
  replace H := Option.bind_eq_some_iff.mp H
  obtain ⟨t163,A40,H⟩ := H
  replace H : (if t163 = true then ((sleuthref1_upTo.f (l0_1.length : Int) 1 24).bind fun t164 => (sleuthref1_DefMay.j0 k (!t164) a0_0 l0_1)) else (sleuthref1_DefMay.j0 k true a0_0 l0_1)) = some r := H
  have A4 := Aside0.mk A40
  clear A40
  by_cases c5 : t163 = true
  ·subst c5
   have H1 : ((sleuthref1_upTo.f (l0_1.length : Int) 1 24).bind fun t164 => (sleuthref1_DefMay.j0 k (!t164) a0_0 l0_1)) = some r := by rw [if_pos rfl] at H; exact H
   clear H
   have H := H1
   clear H1
   replace H := Option.bind_eq_some_iff.mp H
   obtain ⟨t164,A60,H⟩ := H
   replace H : (sleuthref1_DefMay.j0 k (!t164) a0_0 l0_1) = some r := H
   have A6 := Aside0.mk A60
   clear A60
   have H' := Aside0.mk H
   clear H
   have hcz7_0 : w3.cell? ⟨gb162,0,none⟩ = some (.int .i64 a0_0) := (blk_cell BK162.out 0).trans rfl
   have hcz7_1 : w3.cell? ⟨gb162,1,none⟩ = some (.slice A0_1 l0_1.length c0_1) := (blk_cell BK162.out 1).trans rfl
   have hfz7_0 := blk_frozen BK162.out 0
   have hfz7_1 := blk_frozen BK162.out 1
   go_wp2_with (first | ((with_reducible refine gate_callee (f := 29) rfl ?_); refine goesL_ (some 10) rfl rfl Try.func29 (by kernel_rfl) rfl #[.int .i64 a0_0,.int .i64 0,.int .i64 3] rfl (by (try simp only [List.map_toArray,List.map_cons,List.map_nil]); first | done | rfl | (simp only [List.length_drop,List.length_take]; rfl)) ?_; (with_reducible refine (sleuthref1_upTo.calls a0_0 0 3 true _ A4.out).mono ?_); rintro e w' ⟨rfl,⟨nd,rfl⟩⟩; refine ⟨_,rfl,?_⟩) | (go_at_call 29; (with_reducible refine (sleuthref1_upTo.calls (l0_1.length : Int) 1 24 t164 _ A6.out).mono ?_); rintro e w' ⟨rfl,⟨nd,rfl⟩⟩))
   go_meet
   case rel => exact ⟨_,(!t164),(by first | rfl | (simp; done) | (simp [*]; done)),H',⟨by first | omega | exact Nat.le_refl _⟩,⟨by (with_reducible repeat (first | refine blk_drewN ?_ _ | refine blk_drew ?_ | refine blk_alloc ?_ _)); exact BK162.out⟩,⟨by repeat (first | (with_reducible first | exact HB.out | apply below_alloc | apply pw_below_drewN | apply below_drew1 | refine below_set ?_ GE162.out) | exact HB.out)⟩⟩
  ·replace c5 := Bool.eq_false_iff.mpr c5
   subst c5
   have H1 : (sleuthref1_DefMay.j0 k true a0_0 l0_1) = some r := by rw [if_neg (show ¬ (false = true) by decide)] at H; exact H
   clear H
   have H := H1
   clear H1
   have H' := Aside0.mk H
   clear H
   have hcz8_0 : w3.cell? ⟨gb162,0,none⟩ = some (.int .i64 a0_0) := (blk_cell BK162.out 0).trans rfl
   have hcz8_1 : w3.cell? ⟨gb162,1,none⟩ = some (.slice A0_1 l0_1.length c0_1) := (blk_cell BK162.out 1).trans rfl
   have hfz8_0 := blk_frozen BK162.out 0
   have hfz8_1 := blk_frozen BK162.out 1
   go_wp2_with (first | ((with_reducible refine gate_callee (f := 29) rfl ?_); refine goesL_ (some 10) rfl rfl Try.func29 (by kernel_rfl) rfl #[.int .i64 a0_0,.int .i64 0,.int .i64 3] rfl (by (try simp only [List.map_toArray,List.map_cons,List.map_nil]); first | done | rfl | (simp only [List.length_drop,List.length_take]; rfl)) ?_; (with_reducible refine (sleuthref1_upTo.calls a0_0 0 3 false _ A4.out).mono ?_); rintro e w' ⟨rfl,⟨nd,rfl⟩⟩; refine ⟨_,rfl,?_⟩))
   go_meet
   case rel => exact ⟨_,(true),(by first | rfl | (simp; done) | (simp [*]; done)),H',⟨by first | omega | exact Nat.le_refl _⟩,⟨by (with_reducible repeat (first | refine blk_drewN ?_ _ | refine blk_drew ?_ | refine blk_alloc ?_ _)); exact BK162.out⟩,⟨by repeat (first | (with_reducible first | exact HB.out | apply below_alloc | apply pw_below_drewN | apply below_drew1 | refine below_set ?_ GE162.out) | exact HB.out)⟩⟩
 case rest =>
  clear HC2
  try clear c1
  try clear c2
  try clear p2
  try clear c5
  try clear hcz7_0
  try clear hcz7_1
  try clear hcz8_0
  try clear hcz8_1
  try clear hfz7_0
  try clear hfz7_1
  try clear hfz8_0
  try clear hfz8_1
  obtain ⟨kq,x18_1,rfl,HA,HJ1,BK162,HB⟩ := hcut
  cases kq with
  | zero => exact absurd HA.out (by simp [sleuthref1_DefMay.j0])
  | succ kj1 =>
   have H := HA.out
   clear HA
   simp only [sleuthref1_DefMay.j0] at H
   by_cases c9 : x18_1 = true
   ·subst c9
    have H1 : (some false) = some r := by rw [if_pos rfl] at H; exact H
    clear H
    have H := H1
    clear H1
    obtain rfl := Option.some.inj H
    go_wp2
    go_ret
    exact ⟨by first | rfl | (simp [errW_none,errW_some] <;> rfl) | (simp [*,errW_none,errW_some] <;> rfl),by repeat (first | (with_reducible first | exact HB.out | apply below_alloc | apply pw_below_drewN | apply below_drew1 | refine below_set ?_ GE162.out) | exact HB.out)⟩
   ·replace c9 := Bool.eq_false_iff.mpr c9
    subst c9
    have H1 : (if 0 ≤ (l0_1.length : Int) then (if ((l0_1.length : Int) : Int).toNat ≤ 35184372088832 then ((some (List.replicate ((l0_1.length : Int) : Int).toNat 0 : List Int)).bind fun y165 => (if 0 ≤ (wrap64 ((y165.length : Int) - 1)) then (if (wrap64 ((y165.length : Int) - 1)) < (y165.length : Int) then (sleuthref1_DefMay.l0 kj1 (y165.set ((wrap64 ((y165.length : Int) - 1)) : Int).toNat (wrap64 (a0_0 + 1))) (wrap64 ((l0_1.length : Int) - 1)) a0_0 l0_1) else (none)) else (none))) else (none)) else (none)) = some r := by rw [if_neg (show ¬ (false = true) by decide)] at H; exact H
    clear H
    have H := H1
    clear H1
    by_cases c10 : 0 ≤ (l0_1.length : Int)
    ·rw [if_pos c10] at H
     have c10b0 := eq_true c10
     have c10b1 : decide (0 ≤ (l0_1.length : Int)) = true := decide_eq_true c10
     clear c10
     by_cases c11 : ((l0_1.length : Int) : Int).toNat ≤ 35184372088832
     ·rw [if_pos c11] at H
      have c11b0 := eq_true c11
      have c11b1 : decide (((l0_1.length : Int) : Int).toNat ≤ 35184372088832) = true := decide_eq_true c11
      clear c11
      obtain ⟨y165,hy165⟩ : ∃ y_ : List Int,y_ = (List.replicate ((l0_1.length : Int) : Int).toNat 0) := ⟨_,rfl⟩
      replace H : (if 0 ≤ (wrap64 ((y165.length : Int) - 1)) then (if (wrap64 ((y165.length : Int) - 1)) < (y165.length : Int) then (sleuthref1_DefMay.l0 kj1 (y165.set ((wrap64 ((y165.length : Int) - 1)) : Int).toNat (wrap64 (a0_0 + 1))) (wrap64 ((l0_1.length : Int) - 1)) a0_0 l0_1) else (none)) else (none)) = some r := by first | (rw [hy165]; with_reducible exact H) | (have H2_ := (Option.bind_some _ _).symm.trans H; rw [hy165]; with_reducible exact H2_) | (have H2_ := (Option.bind_some _ _).symm.trans H; with_reducible exact H2_) | with_reducible exact H | (rw [hy165]; exact H) | exact H
      have Ny165 := Aside0.mk hy165
      clear hy165
      obtain ⟨ji12,hji12⟩ : ∃ j_ : Int,(wrap64 ((y165.length : Int) - 1)) = j_ := ⟨_,rfl⟩
      replace H : (if 0 ≤ (ji12) then (if (ji12) < (y165.length : Int) then (sleuthref1_DefMay.l0 kj1 (y165.set ((ji12) : Int).toNat (wrap64 (a0_0 + 1))) (wrap64 ((l0_1.length : Int) - 1)) a0_0 l0_1) else (none)) else (none)) = some r := by first | (rw [hji12] at H; exact H) | (simp only [hji12] at H ⊢; exact H)
      have hji12w : (IntKind.i64.wrap ((y165.length : Int) - 1)) = ji12 := (i64_w _).trans hji12
      by_cases c13 : 0 ≤ (ji12)
      ·rw [if_pos c13] at H
       have c13b0 : decide (0 ≤ (ji12)) = true := decide_eq_true c13
       clear c13
       by_cases c14 : (ji12) < (y165.length : Int)
       ·rw [if_pos c14] at H
        have c14b0 : decide ((ji12) < (y165.length : Int)) = true := decide_eq_true c14
        clear c14
        obtain ⟨y168,hy168⟩ : ∃ y_ : List Int,y_ = (y165.set ((ji12) : Int).toNat (wrap64 (a0_0 + 1))) := ⟨_,rfl⟩
        replace H : (sleuthref1_DefMay.l0 kj1 y168 (wrap64 ((l0_1.length : Int) - 1)) a0_0 l0_1) = some r := by first | (rw [hy168]; with_reducible exact H) | (have H2_ := (Option.bind_some _ _).symm.trans H; rw [hy168]; with_reducible exact H2_) | (have H2_ := (Option.bind_some _ _).symm.trans H; with_reducible exact H2_) | with_reducible exact H | (rw [hy168]; exact H) | exact H
        have Ny168 := Aside0.mk hy168
        clear hy168
        have H' := Aside0.mk H
        clear H
        have hcz16_0 : wc.cell? ⟨gb162,0,none⟩ = some (.int .i64 a0_0) := (blk_cell BK162.out 0).trans rfl
        have hcz16_1 : wc.cell? ⟨gb162,1,none⟩ = some (.slice A0_1 l0_1.length c0_1) := (blk_cell BK162.out 1).trans rfl
        have hfz16_0 := blk_frozen BK162.out 0
        have hfz16_1 := blk_frozen BK162.out 1
        go_wp2_with (first | ((with_reducible refine gate_dst (N := 22) rfl ?_); (try (refine gate_guard (by rfl) ?_; dsimp only)); refine Kd.R_make (Kd.int .i64) _ 3 rfl (N := 22) rfl 31 _ _ rfl (l0_1.length : Int) rfl rfl Try.underlying31 (.int .i64 0) 8 info3 rfl (by decide) (by omega) 0 (ok := fun _ => True) (okp := fun _ => True) rfl (fun _ hk => hk) trivial (of_decide_eq_true (by first | (with_reducible assumption) | assumption)) (Nat.le_trans (Nat.mul_le_mul_right _ (of_decide_eq_true (by first | (with_reducible assumption) | assumption) : (l0_1.length : Int).toNat ≤ 35184372088832)) (by omega)) (Below.refl _ _) (Nat.le_refl _) ?_; intro v166 w17 ho18 hb hg_ hnew_; clear hg_ hnew_; (first | rw [← Ny165.out] at ho18 | (simp only [Int.reduceToNat] at ho18; rw [← Ny165.out] at ho18)); have n0_ := Aside0.mk (Kd.R_lower ho18 (below_size (by repeat (first | (with_reducible first | exact HB.out | apply below_alloc | apply pw_below_drewN | apply below_drew1 | refine below_set ?_ GE162.out) | exact HB.out)))); have n1_ := Aside0.mk (blk_below (g := gb162) (o := .cells #[.int .i64 a0_0,.slice A0_1 l0_1.length c0_1] 24 (0,0)) (by (with_reducible repeat (first | refine blk_drewN ?_ _ | refine blk_drew ?_ | refine blk_alloc ?_ _)); exact BK162.out) hb); have n2_ := Aside0.mk (below_step (by repeat (first | (with_reducible first | exact HB.out | apply below_alloc | apply pw_below_drewN | apply below_drew1 | refine below_set ?_ GE162.out) | exact HB.out)) hb); clear BK162; clear HB; have HO167 := n0_; have BK162 := n1_; have HB := n2_; clear n0_ n1_ n2_; clear hb ho18; obtain ⟨Ao19,co19,eo19⟩ := Kd.R_slice HO167.out; subst eo19; have hcz20_0 : w17.cell? ⟨gb162,0,none⟩ = some (.int .i64 a0_0) := (blk_cell BK162.out 0).trans rfl; have hcz20_1 : w17.cell? ⟨gb162,1,none⟩ = some (.slice A0_1 l0_1.length c0_1) := (blk_cell BK162.out 1).trans rfl; have hfz20_0 := blk_frozen BK162.out 0; have hfz20_1 := blk_frozen BK162.out 1; have p15 : 0 ≤ ((ji12) : Int) := of_decide_eq_true (by first | (with_reducible assumption) | assumption); have q15 : ((ji12) : Int) < ((y165.length : Int) : Int) := of_decide_eq_true (by first | (with_reducible assumption) | assumption); obtain ⟨go15,co15,eo15,gb15,gl15,cl15,HG15⟩ := Kd.R_form HO167.out (by omega); (first | cases eo15 | (injection eo15 with ea_ en_ ec_; (first | subst ea_ | (injection ea_ with ea_; subst ea_)); subst ec_; clear en_)); have GB15 := Aside0.mk gb15; have GG15 := Aside0.mk HG15; clear gb15 gl15 HG15; obtain ⟨hx15_0,hf15_0⟩ := Kd.R_celln 0 HO167.out ((ji12) : Int) p15 q15; replace p15 := eq_true p15; replace q15 := eq_true q15; obtain ⟨hy21_,hz21_⟩ := Kd.R_celln 0 HO167.out ((ji12) : Int) (of_decide_eq_true (by first | (with_reducible assumption) | assumption)) (of_decide_eq_true (by first | (with_reducible assumption) | assumption)); have HP21 := Kd.R_putg HO167.out ((ji12) : Int) (wrap64 (a0_0 + 1))) | ((with_reducible refine gate_store (t := 3) (p := 30) rfl ?_); refine store_event (t := 3) (p := 30) (v := ?vo_w22) (w1 := (w17.setCell ⟨go15,((ji12) : Int).toNat,none⟩ (.int .i64 (wrap64 (a0_0 + 1))))) ?hg ?ho ?hn ?hr ?_; (case ho => rfl); (case hg => rfl); (case hn => rfl); (case hr => first | (go_simp; done) | (go_simp; rfl)); intro w22 hw; have hg : w17.grownBy w22 (some go15) := (by rw [hw]; exact HP21.2); have hp_ : Kd.R (Kd.int .i64) 3 w22 w.heap.size (fun _ => True) (.slice (some ⟨go15,0,none⟩) y165.length co19) y168 := (by rw [hw,Ny168.out]; exact HP21.1); clear HP21; have n0_ := Aside0.mk (blk_grown (g := gb162) (o := .cells #[.int .i64 a0_0,.slice A0_1 l0_1.length c0_1] 24 (0,0)) (by (with_reducible repeat (first | refine blk_drewN ?_ _ | refine blk_drew ?_ | refine blk_alloc ?_ _)); exact BK162.out) hg (Kd.R_ne HO167.out BK162.out (by decide))); have n1_ := Aside0.mk (hp_); have n2_ := Aside0.mk ((by rw [hw]; exact below_set (HB.out) GB15.out : Below w.heap.size w w22)); clear BK162; clear HO167; clear HB; have BK162 := n0_; have HO167 := n1_; have HB := n2_; clear n0_ n1_ n2_; clear hg hw hp_; have hcz23_0 : w22.cell? ⟨gb162,0,none⟩ = some (.int .i64 a0_0) := (blk_cell BK162.out 0).trans rfl; have hcz23_1 : w22.cell? ⟨gb162,1,none⟩ = some (.slice A0_1 l0_1.length c0_1) := (blk_cell BK162.out 1).trans rfl; have hfz23_0 := blk_frozen BK162.out 0; have hfz23_1 := blk_frozen BK162.out 1))
        go_loopg [4] kj1 (fun kq v4 w' => ∃ (x3_2 : List Int) (x4_2 : Int),v4 = .int .i64 x4_2 ∧ Aside0 (sleuthref1_DefMay.l0 kq x3_2 x4_2 a0_0 l0_1 = some r) ∧ Aside0 (kq ≤ kj1) ∧ Aside0 (Kd.R (Kd.int .i64) 3 w' w.heap.size (fun _ => True) (.slice (some ⟨go15,0,none⟩) y165.length co19) x3_2) ∧ Aside0 (w'.heap[gb162]? = some (.cells #[.int .i64 a0_0,(.slice A0_1 l0_1.length c0_1)] 24 (0,0))) ∧ Aside0 (Below w.heap.size w w'))
        case atStart => exact ⟨(y168),(wrap64 ((l0_1.length : Int) - 1)),(by first | rfl | (simp; done) | (simp [*]; done)),H',⟨Nat.le_refl _⟩,⟨by (with_reducible repeat (first | apply Kd.R_alloc | apply Kd.R_drewN | apply Kd.R_drew)); exact HO167.out⟩,⟨by (with_reducible repeat (first | refine blk_drewN ?_ _ | refine blk_drew ?_ | refine blk_alloc ?_ _)); exact BK162.out⟩,⟨by repeat (first | (with_reducible first | exact HB.out | apply below_alloc | apply pw_below_drewN | apply below_drew1 | refine below_set ?_ GE162.out) | exact HB.out)⟩⟩
        case round =>
         clear H'
         try clear c1
         try clear p1
         try clear q1
         try clear hx1
         try clear hf1
         try clear c2
         try clear p2
         try clear c5
         try clear p6
         try clear c9
         try clear c10
         try clear c10b0
         try clear c10b1
         try clear c11
         try clear c11b0
         try clear c11b1
         try clear c13
         try clear c13b0
         try clear c14
         try clear c14b0
         try clear p15
         try clear q15
         try clear hx15
         try clear hf15
         try clear hcz16_0
         try clear hcz16_1
         try clear hcz20_0
         try clear hcz20_1
         try clear hcz23_0
         try clear hcz23_1
         try clear hcz7_0
         try clear hcz7_1
         try clear hcz8_0
         try clear hcz8_1
         try clear hfz16_0
         try clear hfz16_1
         try clear hfz20_0
         try clear hfz20_1
         try clear hfz23_0
         try clear hfz23_1
         try clear hfz7_0
         try clear hfz7_1
         try clear hfz8_0
         try clear hfz8_1
         try clear hx15_0
         try clear p15
         try clear p2
         try clear q15
         obtain ⟨x3_2,x4_2,rfl,HA,HK2,HO_3,BK162,HB⟩ := hrel
         have hl3_2 := (Kd.R_reads' HO_3.out).1
         rw [hl3_2] at HO_3
         (try simp only [hl3_2])
         (try simp only [hl3_2] at BK162)
         cases gk with
         | zero => exact absurd HA.out (by simp [sleuthref1_DefMay.l0])
         | succ k2 =>
          have H := HA.out
          clear HA
          simp only [sleuthref1_DefMay.l0] at H
          by_cases c24 : x4_2 ≥ 0
          ·rw [if_pos c24] at H
           have c24b0 : decide (0 ≤ x4_2) = true := decide_eq_true c24
           clear c24
           by_cases c25 : 0 ≤ x4_2
           ·rw [if_pos c25] at H
            have c25b0 : decide (0 ≤ x4_2) = true := decide_eq_true c25
            clear c25
            by_cases c26 : x4_2 < (l0_1.length : Int)
            ·rw [if_pos c26] at H
             have c26b0 : decide (x4_2 < (l0_1.length : Int)) = true := decide_eq_true c26
             clear c26
             have HC27 := Aside0.mk H
             clear H
             have hcz28_0 : wr.cell? ⟨gb162,0,none⟩ = some (.int .i64 a0_0) := (blk_cell BK162.out 0).trans rfl
             have hcz28_1 : wr.cell? ⟨gb162,1,none⟩ = some (.slice A0_1 l0_1.length c0_1) := (blk_cell BK162.out 1).trans rfl
             have hfz28_0 := blk_frozen BK162.out 0
             have hfz28_1 := blk_frozen BK162.out 1
             have p169 : 0 ≤ (x4_2 : Int) := of_decide_eq_true (by first | (with_reducible assumption) | assumption)
             have q169 : x4_2 < (l0_1.length : Int) := of_decide_eq_true (by first | (with_reducible assumption) | assumption)
             obtain ⟨ad169,A169_3,c169_3,e169,hx169_0,hx169_1,hx169_2,hx169_3,hl169_3,hi169_3⟩ := at_T33 HR0_1.out x4_2 p169 q169
             cases e169
             replace hx169_0 := (HB.out.cell (World.block_lt_of_cell? w _ hx169_0)).trans hx169_0
             replace hx169_1 := (HB.out.cell (World.block_lt_of_cell? w _ hx169_1)).trans hx169_1
             replace hx169_2 := (HB.out.cell (World.block_lt_of_cell? w _ hx169_2)).trans hx169_2
             replace hx169_3 := (HB.out.cell (World.block_lt_of_cell? w _ hx169_3)).trans hx169_3
             have HR169_3 := Aside0.mk hi169_3
             have HC169_3 := Aside0.mk hl169_3
             clear hi169_3 hl169_3
             replace p169 := eq_true p169
             replace q169 := eq_true q169
             go_upto_region 9 with (first | ((with_reducible refine gate_dst (N := 5) rfl ?_); (try (refine gate_guard (by rfl) ?_; dsimp only)); refine box_event ?hg (N := 5) ?hd (cs := #[.int .i64 0,.int .i64 0,.int .i64 0,.slice none 0 0]) (t := 33) ?hr ?_; (case hd => rfl); (case hg => rfl); (case hr => first | (go_simp; done) | (go_simp; rfl)); intro gb170 hg w29 hbox hb; have n0_ := Aside0.mk (Kd.R_below (by (with_reducible repeat (first | apply Kd.R_alloc | apply Kd.R_drewN | apply Kd.R_drew)); exact HO_3.out) hb); have n1_ := Aside0.mk (blk_below (g := gb162) (o := .cells #[.int .i64 a0_0,.slice (some ad169) l0_1.length c0_1] 24 (0,0)) (by (with_reducible repeat (first | refine blk_drewN ?_ _ | refine blk_drew ?_ | refine blk_alloc ?_ _)); exact BK162.out) hb); have n2_ := Aside0.mk (below_step (by repeat (first | (with_reducible first | exact HB.out | apply below_alloc | apply pw_below_drewN | apply below_drew1 | refine below_set ?_ GE162.out) | exact HB.out)) hb); have n3_ := Aside0.mk (hbox); have n4_ := Aside0.mk ((by rw [hg]; exact (below_size (by repeat (first | (with_reducible first | exact HB.out | apply below_alloc | apply pw_below_drewN | apply below_drew1 | refine below_set ?_ GE162.out) | exact HB.out))) : w.heap.size ≤ gb170)); have n5_ := Aside0.mk ((by rw [hg]; exact (below_size (by repeat (first | (with_reducible first | exact HB.out | apply below_alloc | apply pw_below_drewN | apply below_drew1 | refine below_set ?_ GE162.out) | exact HB.out))) : w.heap.size ≤ gb170)); have n6_ := Aside0.mk ((by rw [hg]; exact Nat.ne_of_lt (blk_lt (g := gb162) (o := .cells #[.int .i64 a0_0,.slice (some ad169) l0_1.length c0_1] 24 (0,0)) (by (with_reducible repeat (first | refine blk_drewN ?_ _ | refine blk_drew ?_ | refine blk_alloc ?_ _)); exact BK162.out)) : gb162 ≠ gb170)); have n7_ := Aside0.mk ((by rw [hg]; exact Nat.ne_of_gt (blk_lt (g := gb162) (o := .cells #[.int .i64 a0_0,.slice (some ad169) l0_1.length c0_1] 24 (0,0)) (by (with_reducible repeat (first | refine blk_drewN ?_ _ | refine blk_drew ?_ | refine blk_alloc ?_ _)); exact BK162.out)) : gb170 ≠ gb162)); clear HO_3; clear BK162; clear HB; have HO_3 := n0_; have BK162 := n1_; have HB := n2_; have BK170 := n3_; have GW170 := n4_; have GE170 := n5_; have NB162_170 := n6_; have NB170_162 := n7_; clear n0_ n1_ n2_ n3_ n4_ n5_ n6_ n7_; clear hb hbox hg; have hnb30 := NB170_162.out; have hnc30 := NB162_170.out; have hcz31_0 : w29.cell? ⟨gb170,0,none⟩ = some (.int .i64 0) := (blk_cell BK170.out 0).trans rfl; have hcz31_1 : w29.cell? ⟨gb170,1,none⟩ = some (.int .i64 0) := (blk_cell BK170.out 1).trans rfl; have hcz31_2 : w29.cell? ⟨gb170,2,none⟩ = some (.int .i64 0) := (blk_cell BK170.out 2).trans rfl; have hcz31_3 : w29.cell? ⟨gb170,3,none⟩ = some (.slice none 0 0) := (blk_cell BK170.out 3).trans rfl; have hfz31_0 := blk_frozen BK170.out 0; have hfz31_1 := blk_frozen BK170.out 1; have hfz31_2 := blk_frozen BK170.out 2; have hfz31_3 := blk_frozen BK170.out 3))
             (try simp only [Act.put,List.setIfInBounds_toArray,List.set_cons_zero,List.set_cons_succ])
             go_cut [66] (fun v66 wc => ∃ (kq : Nat) (x66_26 : Bool),v66 = .bool x66_26 ∧ Aside0 (sleuthref1_DefMay.j2 kq x3_2 x4_2 x66_26 a0_0 l0_1 ((rd_T33 l0_1 x4_2).f0) ((rd_T33 l0_1 x4_2).f1) ((rd_T33 l0_1 x4_2).f2) ((rd_T33 l0_1 x4_2).f3) = some r) ∧ Aside0 (kq ≤ k2) ∧ Aside0 (Kd.R (Kd.int .i64) 3 wc w.heap.size (fun _ => True) (.slice (some ⟨go15,0,none⟩) x3_2.length co19) x3_2) ∧ Aside0 (wc.heap[gb162]? = some (.cells #[.int .i64 a0_0,(.slice (some ad169) l0_1.length c0_1)] 24 (0,0))) ∧ Aside0 (wc.heap[gb170]? = some (.cells #[.int .i64 ((rd_T33 l0_1 x4_2).f0),.int .i64 ((rd_T33 l0_1 x4_2).f1),.int .i64 ((rd_T33 l0_1 x4_2).f2),(.slice A169_3 ((rd_T33 l0_1 x4_2).f3).length c169_3)] 33 (0,0))) ∧ Aside0 (Below w.heap.size w wc))
             case first =>
              have H := HC27.out
              clear HC27
              by_cases c32 : x4_2 < (x3_2.length : Int)
              ·rw [if_pos c32] at H
               have c32b0 : decide (x4_2 < (x3_2.length : Int)) = true := decide_eq_true c32
               clear c32
               (first | rw [c32b0] | (simp only [i64_w,i32_w]; rw [c32b0]) | skip)
               by_cases c33 : (rd x3_2 x4_2) = 0
               ·rw [if_pos c33] at H
                have c33b0 : ((rd x3_2 x4_2) == 0) = true := beq_iff_eq.mpr c33
                have c33b1 : ((rd x3_2 x4_2) != 0) = false := bne_eq_false_iff_eq.mpr c33
                clear c33
                have H' := Aside0.mk H
                clear H
                try go_wp2
                have n0_ : Aside0 (Kd.R (Kd.int .i64) 3 ((((w29.setCell ⟨gb170,0,none⟩ (.int .i64 ((rd_T33 l0_1 x4_2).f0))).setCell ⟨gb170,1,none⟩ (.int .i64 ((rd_T33 l0_1 x4_2).f1))).setCell ⟨gb170,2,none⟩ (.int .i64 ((rd_T33 l0_1 x4_2).f2))).setCell ⟨gb170,3,none⟩ (.slice A169_3 ((rd_T33 l0_1 x4_2).f3).length c169_3)) w.heap.size (fun _ => True) (.slice (some ⟨go15,0,none⟩) x3_2.length co19) x3_2) := ⟨by (with_reducible repeat (first | apply Kd.R_alloc | apply Kd.R_drewN | apply Kd.R_drew)); exact Kd.R_mono (Kd.R_far (p := ⟨gb170,3,none⟩) (Kd.R_far (p := ⟨gb170,2,none⟩) (Kd.R_far (p := ⟨gb170,1,none⟩) (Kd.R_far (p := ⟨gb170,0,none⟩) (Kd.R_types HO_3.out BK170.out (by decide)) (fun _ hk => hk.2) (.int .i64 ((rd_T33 l0_1 x4_2).f0))) (fun _ hk => hk.2) (.int .i64 ((rd_T33 l0_1 x4_2).f1))) (fun _ hk => hk.2) (.int .i64 ((rd_T33 l0_1 x4_2).f2))) (fun _ hk => hk.2) (.slice A169_3 ((rd_T33 l0_1 x4_2).f3).length c169_3)) (fun _ hk => trivial)⟩
                have n1_ : Aside0 (((((w29.setCell ⟨gb170,0,none⟩ (.int .i64 ((rd_T33 l0_1 x4_2).f0))).setCell ⟨gb170,1,none⟩ (.int .i64 ((rd_T33 l0_1 x4_2).f1))).setCell ⟨gb170,2,none⟩ (.int .i64 ((rd_T33 l0_1 x4_2).f2))).setCell ⟨gb170,3,none⟩ (.slice A169_3 ((rd_T33 l0_1 x4_2).f3).length c169_3)).heap[gb162]? = some (.cells #[.int .i64 a0_0,.slice (some ad169) l0_1.length c0_1] 24 (0,0))) := ⟨by (with_reducible repeat (first | refine blk_drewN ?_ _ | refine blk_drew ?_ | refine blk_alloc ?_ _)); refine blk_far ?_ NB162_170.out _; (with_reducible repeat (first | refine blk_drewN ?_ _ | refine blk_drew ?_ | refine blk_alloc ?_ _)); refine blk_far ?_ NB162_170.out _; (with_reducible repeat (first | refine blk_drewN ?_ _ | refine blk_drew ?_ | refine blk_alloc ?_ _)); refine blk_far ?_ NB162_170.out _; (with_reducible repeat (first | refine blk_drewN ?_ _ | refine blk_drew ?_ | refine blk_alloc ?_ _)); refine blk_far ?_ NB162_170.out _; (with_reducible repeat (first | refine blk_drewN ?_ _ | refine blk_drew ?_ | refine blk_alloc ?_ _)); exact BK162.out⟩
                have n2_ : Aside0 (((((w29.setCell ⟨gb170,0,none⟩ (.int .i64 ((rd_T33 l0_1 x4_2).f0))).setCell ⟨gb170,1,none⟩ (.int .i64 ((rd_T33 l0_1 x4_2).f1))).setCell ⟨gb170,2,none⟩ (.int .i64 ((rd_T33 l0_1 x4_2).f2))).setCell ⟨gb170,3,none⟩ (.slice A169_3 ((rd_T33 l0_1 x4_2).f3).length c169_3)).heap[gb170]? = some (.cells #[.int .i64 ((rd_T33 l0_1 x4_2).f0),.int .i64 ((rd_T33 l0_1 x4_2).f1),.int .i64 ((rd_T33 l0_1 x4_2).f2),.slice A169_3 ((rd_T33 l0_1 x4_2).f3).length c169_3] 33 (0,0))) := ⟨by (with_reducible repeat (first | refine blk_drewN ?_ _ | refine blk_drew ?_ | refine blk_alloc ?_ _)); refine blk_put (cs := #[.int .i64 ((rd_T33 l0_1 x4_2).f0),.int .i64 ((rd_T33 l0_1 x4_2).f1),.int .i64 ((rd_T33 l0_1 x4_2).f2),.slice none 0 0]) ?_ 3 _ rfl; (with_reducible repeat (first | refine blk_drewN ?_ _ | refine blk_drew ?_ | refine blk_alloc ?_ _)); refine blk_put (cs := #[.int .i64 ((rd_T33 l0_1 x4_2).f0),.int .i64 ((rd_T33 l0_1 x4_2).f1),.int .i64 0,.slice none 0 0]) ?_ 2 _ rfl; (with_reducible repeat (first | refine blk_drewN ?_ _ | refine blk_drew ?_ | refine blk_alloc ?_ _)); refine blk_put (cs := #[.int .i64 ((rd_T33 l0_1 x4_2).f0),.int .i64 0,.int .i64 0,.slice none 0 0]) ?_ 1 _ rfl; (with_reducible repeat (first | refine blk_drewN ?_ _ | refine blk_drew ?_ | refine blk_alloc ?_ _)); refine blk_put (cs := #[.int .i64 0,.int .i64 0,.int .i64 0,.slice none 0 0]) ?_ 0 _ rfl; (with_reducible repeat (first | refine blk_drewN ?_ _ | refine blk_drew ?_ | refine blk_alloc ?_ _)); exact BK170.out⟩
                have n3_ : Aside0 (Below w.heap.size w ((((w29.setCell ⟨gb170,0,none⟩ (.int .i64 ((rd_T33 l0_1 x4_2).f0))).setCell ⟨gb170,1,none⟩ (.int .i64 ((rd_T33 l0_1 x4_2).f1))).setCell ⟨gb170,2,none⟩ (.int .i64 ((rd_T33 l0_1 x4_2).f2))).setCell ⟨gb170,3,none⟩ (.slice A169_3 ((rd_T33 l0_1 x4_2).f3).length c169_3))) := ⟨by repeat (first | (with_reducible first | exact HB.out | apply below_alloc | apply pw_below_drewN | apply below_drew1 | refine below_set ?_ GE162.out | refine below_set ?_ GE170.out) | exact HB.out)⟩
                (try clear HO_3)
                (try clear BK162)
                (try clear BK170)
                (try clear HB)
                generalize ((((w29.setCell ⟨gb170,0,none⟩ (.int .i64 ((rd_T33 l0_1 x4_2).f0))).setCell ⟨gb170,1,none⟩ (.int .i64 ((rd_T33 l0_1 x4_2).f1))).setCell ⟨gb170,2,none⟩ (.int .i64 ((rd_T33 l0_1 x4_2).f2))).setCell ⟨gb170,3,none⟩ (.slice A169_3 ((rd_T33 l0_1 x4_2).f3).length c169_3)) = w34 at n0_ n1_ n2_ n3_ ⊢
                have HO_3 := n0_
                have BK162 := n1_
                have BK170 := n2_
                have HB := n3_
                clear n0_ n1_ n2_ n3_
                have n0_ := Aside0.mk (Kd.R_drew HO_3.out)
                have n1_ := Aside0.mk (blk_drew BK162.out)
                have n2_ := Aside0.mk (blk_drew BK170.out)
                have n3_ := Aside0.mk (below_drew1 HB.out)
                clear HO_3
                clear BK162
                clear BK170
                clear HB
                have HO_3 := n0_
                have BK162 := n1_
                have BK170 := n2_
                have HB := n3_
                clear n0_ n1_ n2_ n3_
                have p171 : 0 ≤ (x4_2 : Int) := of_decide_eq_true (by first | (with_reducible assumption) | assumption)
                have q171 : x4_2 < (x3_2.length : Int) := of_decide_eq_true (by first | (with_reducible assumption) | assumption)
                obtain ⟨ad171,e171,hx171_0⟩ := Kd.at_int (Kd.R_reads' HO_3.out).2.2 x4_2 p171 q171
                obtain rfl : (⟨go15,0,none⟩ : Addr) = ad171 := (by injection e171)
                (first | simp only [add_plain] at hx171_0 | simp only [add_at] at hx171_0 | simp only [Addr.add,Nat.zero_add] at hx171_0 | skip)
                replace p171 := eq_true p171
                replace q171 := eq_true q171
                refine start_ (n := 23) (S := fun w' => w'.cell? ⟨go15,(x4_2).toNat,none⟩ = some (.int .i64 (rd x3_2 x4_2))) (ds := []) #[F,F,F,F,F,F,F,F,F,F,F,F,F,F,F,F,F,F,F,F,F,F,F] (by kernel_rfl) rfl rfl (hx171_0) (fun hHeld => ?_); refine with_tabW sleuthref1_DefMay.tab9 sleuthref1_DefMay.bits9 (fun HT_ HW_ => ?_)
                generalize w34.drew = w35 at HO_3 BK162 BK170 HB hx171_0 hHeld ⊢
                refine pure_ (i := 0) (N := some 44) (v := ?_) (a' := ?_) #[T,F,F,F,F,F,F,F,F,F,F,F,F,F,F,F,F,F,F,F,F,F,F] rfl rfl (any_of HT_.out (by kernel_rfl)) (fun _ _ _ h => h) (Or.inl ⟨by rfl,?_⟩) ?_ ?_
                rotate_left
                ·intro w'
                 go_simp
                 with_reducible rfl
                rotate_left
                ·simp only [Act.put,List.setIfInBounds_toArray,List.set_cons_zero,List.set_cons_succ,i64_w,i32_w]
                 rfl
                refine pure_ (i := 1) (N := some 45) (v := ?_) (a' := ?_) #[T,T,F,F,F,F,F,F,F,F,F,F,F,F,F,F,F,F,F,F,F,F,F] rfl rfl (any_of HT_.out (by kernel_rfl)) (fun _ _ _ h => h) (Or.inl ⟨by rfl,?_⟩) ?_ ?_
                rotate_left
                ·intro w'
                 go_simp
                 with_reducible rfl
                rotate_left
                ·simp only [Act.put,List.setIfInBounds_toArray,List.set_cons_zero,List.set_cons_succ,i64_w,i32_w]
                 rfl
                refine pure_ (i := 2) (N := some 46) (v := ?_) (a' := ?_) #[T,T,T,F,F,F,F,F,F,F,F,F,F,F,F,F,F,F,F,F,F,F,F] rfl rfl (any_of HT_.out (by kernel_rfl)) (fun _ _ _ h => h) (Or.inl ⟨by rfl,?_⟩) ?_ ?_
                rotate_left
                ·intro w'
                 go_simp
                 with_reducible rfl
                rotate_left
                ·simp only [Act.put,List.setIfInBounds_toArray,List.set_cons_zero,List.set_cons_succ,i64_w,i32_w]
                 rfl
                refine take_ (i := 3) (N := some 47) (v := ?_) (a' := ?_) #[T,T,T,T,F,F,F,F,F,F,F,F,F,F,F,F,F,F,F,F,F,F,F] rfl rfl (take_ofW HT_.out HW_.out (by kernel_rfl)) (fun _ _ _ h => h) (Or.inl ⟨by rfl,?_⟩) hHeld ?_ ?_
                rotate_left
                ·intro w' s0
                 go_simp
                 with_reducible rfl
                rotate_left
                ·simp only [Act.put,List.setIfInBounds_toArray,List.set_cons_zero,List.set_cons_succ,i64_w,i32_w]
                 rfl
                refine pure_ (i := 4) (N := some 48) (v := ?_) (a' := ?_) #[T,T,T,T,T,F,F,F,F,F,F,F,F,F,F,F,F,F,F,F,F,F,F] rfl rfl (any_of HT_.out (by kernel_rfl)) (fun _ _ _ h => h) (Or.inl ⟨by rfl,?_⟩) ?_ ?_
                rotate_left
                ·intro w'
                 go_simp
                 with_reducible rfl
                rotate_left
                ·simp only [Act.put,List.setIfInBounds_toArray,List.set_cons_zero,List.set_cons_succ,i64_w,i32_w]
                 rfl
                refine pure_ (i := 5) (N := some 49) (v := ?_) (a' := ?_) #[T,T,T,T,T,T,F,F,F,F,F,F,F,F,F,F,F,F,F,F,F,F,F] rfl rfl (any_of HT_.out (by kernel_rfl)) (fun _ _ _ h => h) (Or.inl ⟨by rfl,?_⟩) ?_ ?_
                rotate_left
                ·intro w'
                 go_simp
                 with_reducible rfl
                rotate_left
                ·simp only [Act.put,List.setIfInBounds_toArray,List.set_cons_zero,List.set_cons_succ,i64_w,i32_w]
                 rfl
                refine pure_ (i := 6) (N := some 50) (v := undef) (a' := ?_) #[T,T,T,T,T,T,T,F,F,F,F,F,F,F,F,F,F,F,F,F,F,F,F] rfl rfl (any_of HT_.out (by kernel_rfl)) (fun _ _ _ h => h) (Or.inr ⟨by rfl,rfl⟩) ?_ ?_
                rotate_left
                ·simp only [Act.put,List.setIfInBounds_toArray,List.set_cons_zero,List.set_cons_succ,i64_w,i32_w]
                 rfl
                refine pure_ (i := 7) (N := some 51) (v := undef) (a' := ?_) #[T,T,T,T,T,T,T,T,F,F,F,F,F,F,F,F,F,F,F,F,F,F,F] rfl rfl (any_of HT_.out (by kernel_rfl)) (fun _ _ _ h => h) (Or.inr ⟨by rfl,rfl⟩) ?_ ?_
                rotate_left
                ·simp only [Act.put,List.setIfInBounds_toArray,List.set_cons_zero,List.set_cons_succ,i64_w,i32_w]
                 rfl
                refine pure_ (i := 8) (N := some 52) (v := undef) (a' := ?_) #[T,T,T,T,T,T,T,T,T,F,F,F,F,F,F,F,F,F,F,F,F,F,F] rfl rfl (any_of HT_.out (by kernel_rfl)) (fun _ _ _ h => h) (Or.inr ⟨by rfl,rfl⟩) ?_ ?_
                rotate_left
                ·simp only [Act.put,List.setIfInBounds_toArray,List.set_cons_zero,List.set_cons_succ,i64_w,i32_w]
                 rfl
                refine pure_ (i := 9) (N := some 53) (v := undef) (a' := ?_) #[T,T,T,T,T,T,T,T,T,T,F,F,F,F,F,F,F,F,F,F,F,F,F] rfl rfl (any_of HT_.out (by kernel_rfl)) (fun _ _ _ h => h) (Or.inr ⟨by rfl,rfl⟩) ?_ ?_
                rotate_left
                ·simp only [Act.put,List.setIfInBounds_toArray,List.set_cons_zero,List.set_cons_succ,i64_w,i32_w]
                 rfl
                refine pure_ (i := 10) (N := some 54) (v := undef) (a' := ?_) #[T,T,T,T,T,T,T,T,T,T,T,F,F,F,F,F,F,F,F,F,F,F,F] rfl rfl (any_of HT_.out (by kernel_rfl)) (fun _ _ _ h => h) (Or.inr ⟨by rfl,rfl⟩) ?_ ?_
                rotate_left
                ·simp only [Act.put,List.setIfInBounds_toArray,List.set_cons_zero,List.set_cons_succ,i64_w,i32_w]
                 rfl
                refine pure_ (i := 11) (N := some 55) (v := undef) (a' := ?_) #[T,T,T,T,T,T,T,T,T,T,T,T,F,F,F,F,F,F,F,F,F,F,F] rfl rfl (any_of HT_.out (by kernel_rfl)) (fun _ _ _ h => h) (Or.inr ⟨by rfl,rfl⟩) ?_ ?_
                rotate_left
                ·simp only [Act.put,List.setIfInBounds_toArray,List.set_cons_zero,List.set_cons_succ,i64_w,i32_w]
                 rfl
                refine pure_ (i := 12) (N := some 56) (v := ?_) (a' := ?_) #[T,T,T,T,T,T,T,T,T,T,T,T,T,F,F,F,F,F,F,F,F,F,F] rfl rfl (any_of HT_.out (by kernel_rfl)) (fun _ _ _ h => h) (Or.inl ⟨by rfl,?_⟩) ?_ ?_
                rotate_left
                ·intro w'
                 go_simp
                 with_reducible rfl
                rotate_left
                ·simp only [Act.put,List.setIfInBounds_toArray,List.set_cons_zero,List.set_cons_succ,i64_w,i32_w]
                 rfl
                refine pure_ (i := 13) (N := some 57) (v := ?_) (a' := ?_) #[T,T,T,T,T,T,T,T,T,T,T,T,T,T,F,F,F,F,F,F,F,F,F] rfl rfl (any_of HT_.out (by kernel_rfl)) (fun _ _ _ h => h) (Or.inl ⟨by rfl,?_⟩) ?_ ?_
                rotate_left
                ·intro w'
                 go_simp
                 with_reducible rfl
                rotate_left
                ·simp only [Act.put,List.setIfInBounds_toArray,List.set_cons_zero,List.set_cons_succ,i64_w,i32_w]
                 rfl
                refine pure_ (i := 14) (N := some 58) (v := undef) (a' := ?_) #[T,T,T,T,T,T,T,T,T,T,T,T,T,T,T,F,F,F,F,F,F,F,F] rfl rfl (any_of HT_.out (by kernel_rfl)) (fun _ _ _ h => h) (Or.inr ⟨by rfl,rfl⟩) ?_ ?_
                rotate_left
                ·simp only [Act.put,List.setIfInBounds_toArray,List.set_cons_zero,List.set_cons_succ,i64_w,i32_w]
                 rfl
                refine pure_ (i := 15) (N := some 59) (v := undef) (a' := ?_) #[T,T,T,T,T,T,T,T,T,T,T,T,T,T,T,T,F,F,F,F,F,F,F] rfl rfl (any_of HT_.out (by kernel_rfl)) (fun _ _ _ h => h) (Or.inr ⟨by rfl,rfl⟩) ?_ ?_
                rotate_left
                ·simp only [Act.put,List.setIfInBounds_toArray,List.set_cons_zero,List.set_cons_succ,i64_w,i32_w]
                 rfl
                refine pure_ (i := 16) (N := some 60) (v := undef) (a' := ?_) #[T,T,T,T,T,T,T,T,T,T,T,T,T,T,T,T,T,F,F,F,F,F,F] rfl rfl (any_of HT_.out (by kernel_rfl)) (fun _ _ _ h => h) (Or.inr ⟨by rfl,rfl⟩) ?_ ?_
                rotate_left
                ·simp only [Act.put,List.setIfInBounds_toArray,List.set_cons_zero,List.set_cons_succ,i64_w,i32_w]
                 rfl
                refine pure_ (i := 17) (N := some 61) (v := undef) (a' := ?_) #[T,T,T,T,T,T,T,T,T,T,T,T,T,T,T,T,T,T,F,F,F,F,F] rfl rfl (any_of HT_.out (by kernel_rfl)) (fun _ _ _ h => h) (Or.inr ⟨by rfl,rfl⟩) ?_ ?_
                rotate_left
                ·simp only [Act.put,List.setIfInBounds_toArray,List.set_cons_zero,List.set_cons_succ,i64_w,i32_w]
                 rfl
                refine pure_ (i := 18) (N := some 62) (v := undef) (a' := ?_) #[T,T,T,T,T,T,T,T,T,T,T,T,T,T,T,T,T,T,T,F,F,F,F] rfl rfl (any_of HT_.out (by kernel_rfl)) (fun _ _ _ h => h) (Or.inr ⟨by rfl,rfl⟩) ?_ ?_
                rotate_left
                ·simp only [Act.put,List.setIfInBounds_toArray,List.set_cons_zero,List.set_cons_succ,i64_w,i32_w]
                 rfl
                refine pure_ (i := 19) (N := some 63) (v := undef) (a' := ?_) #[T,T,T,T,T,T,T,T,T,T,T,T,T,T,T,T,T,T,T,T,F,F,F] rfl rfl (any_of HT_.out (by kernel_rfl)) (fun _ _ _ h => h) (Or.inr ⟨by rfl,rfl⟩) ?_ ?_
                rotate_left
                ·simp only [Act.put,List.setIfInBounds_toArray,List.set_cons_zero,List.set_cons_succ,i64_w,i32_w]
                 rfl
                refine pure_ (i := 20) (N := some 64) (v := undef) (a' := ?_) #[T,T,T,T,T,T,T,T,T,T,T,T,T,T,T,T,T,T,T,T,T,F,F] rfl rfl (any_of HT_.out (by kernel_rfl)) (fun _ _ _ h => h) (Or.inr ⟨by rfl,rfl⟩) ?_ ?_
                rotate_left
                ·simp only [Act.put,List.setIfInBounds_toArray,List.set_cons_zero,List.set_cons_succ,i64_w,i32_w]
                 rfl
                refine pure_ (i := 21) (N := some 65) (v := undef) (a' := ?_) #[T,T,T,T,T,T,T,T,T,T,T,T,T,T,T,T,T,T,T,T,T,T,F] rfl rfl (any_of HT_.out (by kernel_rfl)) (fun _ _ _ h => h) (Or.inr ⟨by rfl,rfl⟩) ?_ ?_
                rotate_left
                ·simp only [Act.put,List.setIfInBounds_toArray,List.set_cons_zero,List.set_cons_succ,i64_w,i32_w]
                 rfl
                refine pure_ (i := 22) (N := some 66) (v := ?_) (a' := ?_) #[T,T,T,T,T,T,T,T,T,T,T,T,T,T,T,T,T,T,T,T,T,T,T] rfl rfl (any_of HT_.out (by kernel_rfl)) (fun _ _ _ h => h) (Or.inl ⟨by rfl,?_⟩) ?_ ?_
                rotate_left
                ·intro w'
                 go_simp
                 with_reducible rfl
                rotate_left
                ·simp only [Act.put,List.setIfInBounds_toArray,List.set_cons_zero,List.set_cons_succ,i64_w,i32_w]
                 rfl
                refine done_ (done_of HT_.out (by kernel_rfl)) ?_
                try go_wp2
                go_meet
                case rel => exact ⟨_,(true),(by first | rfl | (simp; done) | (simp [*]; done)),H',⟨by have := HJ1.out; have := HK2.out; first | omega | exact Nat.le_refl _⟩,⟨by (try simp only [hl3_2]); (with_reducible repeat (first | apply Kd.R_alloc | apply Kd.R_drewN | apply Kd.R_drew)); exact HO_3.out⟩,⟨by (try simp only [hl3_2]); (with_reducible repeat (first | refine blk_drewN ?_ _ | refine blk_drew ?_ | refine blk_alloc ?_ _)); exact BK162.out⟩,⟨by (try simp only [hl3_2]); (with_reducible repeat (first | refine blk_drewN ?_ _ | refine blk_drew ?_ | refine blk_alloc ?_ _)); exact BK170.out⟩,⟨by repeat (first | (with_reducible first | exact HB.out | apply below_alloc | apply pw_below_drewN | apply below_drew1 | refine below_set ?_ GE162.out | refine below_set ?_ GE170.out) | exact HB.out)⟩⟩
               ·rw [if_neg c33] at H
                have c33b0 : ((rd x3_2 x4_2) == 0) = false := beq_eq_false_iff_ne.mpr c33
                have c33b1 : ((rd x3_2 x4_2) != 0) = true := bne_iff_ne.mpr c33
                by_cases c36 : (wrap64 ((rd x3_2 x4_2) - 1)) > 8
                ·rw [if_pos c36] at H
                 have c36b0 : decide (8 < (wrap64 ((rd x3_2 x4_2) - 1))) = true := decide_eq_true c36
                 clear c36
                 have H' := Aside0.mk H
                 clear H
                 try go_wp2
                 have n0_ : Aside0 (Kd.R (Kd.int .i64) 3 ((((w29.setCell ⟨gb170,0,none⟩ (.int .i64 ((rd_T33 l0_1 x4_2).f0))).setCell ⟨gb170,1,none⟩ (.int .i64 ((rd_T33 l0_1 x4_2).f1))).setCell ⟨gb170,2,none⟩ (.int .i64 ((rd_T33 l0_1 x4_2).f2))).setCell ⟨gb170,3,none⟩ (.slice A169_3 ((rd_T33 l0_1 x4_2).f3).length c169_3)) w.heap.size (fun _ => True) (.slice (some ⟨go15,0,none⟩) x3_2.length co19) x3_2) := ⟨by (with_reducible repeat (first | apply Kd.R_alloc | apply Kd.R_drewN | apply Kd.R_drew)); exact Kd.R_mono (Kd.R_far (p := ⟨gb170,3,none⟩) (Kd.R_far (p := ⟨gb170,2,none⟩) (Kd.R_far (p := ⟨gb170,1,none⟩) (Kd.R_far (p := ⟨gb170,0,none⟩) (Kd.R_types HO_3.out BK170.out (by decide)) (fun _ hk => hk.2) (.int .i64 ((rd_T33 l0_1 x4_2).f0))) (fun _ hk => hk.2) (.int .i64 ((rd_T33 l0_1 x4_2).f1))) (fun _ hk => hk.2) (.int .i64 ((rd_T33 l0_1 x4_2).f2))) (fun _ hk => hk.2) (.slice A169_3 ((rd_T33 l0_1 x4_2).f3).length c169_3)) (fun _ hk => trivial)⟩
                 have n1_ : Aside0 (((((w29.setCell ⟨gb170,0,none⟩ (.int .i64 ((rd_T33 l0_1 x4_2).f0))).setCell ⟨gb170,1,none⟩ (.int .i64 ((rd_T33 l0_1 x4_2).f1))).setCell ⟨gb170,2,none⟩ (.int .i64 ((rd_T33 l0_1 x4_2).f2))).setCell ⟨gb170,3,none⟩ (.slice A169_3 ((rd_T33 l0_1 x4_2).f3).length c169_3)).heap[gb162]? = some (.cells #[.int .i64 a0_0,.slice (some ad169) l0_1.length c0_1] 24 (0,0))) := ⟨by (with_reducible repeat (first | refine blk_drewN ?_ _ | refine blk_drew ?_ | refine blk_alloc ?_ _)); refine blk_far ?_ NB162_170.out _; (with_reducible repeat (first | refine blk_drewN ?_ _ | refine blk_drew ?_ | refine blk_alloc ?_ _)); refine blk_far ?_ NB162_170.out _; (with_reducible repeat (first | refine blk_drewN ?_ _ | refine blk_drew ?_ | refine blk_alloc ?_ _)); refine blk_far ?_ NB162_170.out _; (with_reducible repeat (first | refine blk_drewN ?_ _ | refine blk_drew ?_ | refine blk_alloc ?_ _)); refine blk_far ?_ NB162_170.out _; (with_reducible repeat (first | refine blk_drewN ?_ _ | refine blk_drew ?_ | refine blk_alloc ?_ _)); exact BK162.out⟩
                 have n2_ : Aside0 (((((w29.setCell ⟨gb170,0,none⟩ (.int .i64 ((rd_T33 l0_1 x4_2).f0))).setCell ⟨gb170,1,none⟩ (.int .i64 ((rd_T33 l0_1 x4_2).f1))).setCell ⟨gb170,2,none⟩ (.int .i64 ((rd_T33 l0_1 x4_2).f2))).setCell ⟨gb170,3,none⟩ (.slice A169_3 ((rd_T33 l0_1 x4_2).f3).length c169_3)).heap[gb170]? = some (.cells #[.int .i64 ((rd_T33 l0_1 x4_2).f0),.int .i64 ((rd_T33 l0_1 x4_2).f1),.int .i64 ((rd_T33 l0_1 x4_2).f2),.slice A169_3 ((rd_T33 l0_1 x4_2).f3).length c169_3] 33 (0,0))) := ⟨by (with_reducible repeat (first | refine blk_drewN ?_ _ | refine blk_drew ?_ | refine blk_alloc ?_ _)); refine blk_put (cs := #[.int .i64 ((rd_T33 l0_1 x4_2).f0),.int .i64 ((rd_T33 l0_1 x4_2).f1),.int .i64 ((rd_T33 l0_1 x4_2).f2),.slice none 0 0]) ?_ 3 _ rfl; (with_reducible repeat (first | refine blk_drewN ?_ _ | refine blk_drew ?_ | refine blk_alloc ?_ _)); refine blk_put (cs := #[.int .i64 ((rd_T33 l0_1 x4_2).f0),.int .i64 ((rd_T33 l0_1 x4_2).f1),.int .i64 0,.slice none 0 0]) ?_ 2 _ rfl; (with_reducible repeat (first | refine blk_drewN ?_ _ | refine blk_drew ?_ | refine blk_alloc ?_ _)); refine blk_put (cs := #[.int .i64 ((rd_T33 l0_1 x4_2).f0),.int .i64 0,.int .i64 0,.slice none 0 0]) ?_ 1 _ rfl; (with_reducible repeat (first | refine blk_drewN ?_ _ | refine blk_drew ?_ | refine blk_alloc ?_ _)); refine blk_put (cs := #[.int .i64 0,.int .i64 0,.int .i64 0,.slice none 0 0]) ?_ 0 _ rfl; (with_reducible repeat (first | refine blk_drewN ?_ _ | refine blk_drew ?_ | refine blk_alloc ?_ _)); exact BK170.out⟩
                 have n3_ : Aside0 (Below w.heap.size w ((((w29.setCell ⟨gb170,0,none⟩ (.int .i64 ((rd_T33 l0_1 x4_2).f0))).setCell ⟨gb170,1,none⟩ (.int .i64 ((rd_T33 l0_1 x4_2).f1))).setCell ⟨gb170,2,none⟩ (.int .i64 ((rd_T33 l0_1 x4_2).f2))).setCell ⟨gb170,3,none⟩ (.slice A169_3 ((rd_T33 l0_1 x4_2).f3).length c169_3))) := ⟨by repeat (first | (with_reducible first | exact HB.out | apply below_alloc | apply pw_below_drewN | apply below_drew1 | refine below_set ?_ GE162.out | refine below_set ?_ GE170.out) | exact HB.out)⟩
                 (try clear HO_3)
                 (try clear BK162)
                 (try clear BK170)
                 (try clear HB)
                 generalize ((((w29.setCell ⟨gb170,0,none⟩ (.int .i64 ((rd_T33 l0_1 x4_2).f0))).setCell ⟨gb170,1,none⟩ (.int .i64 ((rd_T33 l0_1 x4_2).f1))).setCell ⟨gb170,2,none⟩ (.int .i64 ((rd_T33 l0_1 x4_2).f2))).setCell ⟨gb170,3,none⟩ (.slice A169_3 ((rd_T33 l0_1 x4_2).f3).length c169_3)) = w37 at n0_ n1_ n2_ n3_ ⊢
                 have HO_3 := n0_
                 have BK162 := n1_
                 have BK170 := n2_
                 have HB := n3_
                 clear n0_ n1_ n2_ n3_
                 have n0_ := Aside0.mk (Kd.R_drew HO_3.out)
                 have n1_ := Aside0.mk (blk_drew BK162.out)
                 have n2_ := Aside0.mk (blk_drew BK170.out)
                 have n3_ := Aside0.mk (below_drew1 HB.out)
                 clear HO_3
                 clear BK162
                 clear BK170
                 clear HB
                 have HO_3 := n0_
                 have BK162 := n1_
                 have BK170 := n2_
                 have HB := n3_
                 clear n0_ n1_ n2_ n3_
                 have p171 : 0 ≤ (x4_2 : Int) := of_decide_eq_true (by first | (with_reducible assumption) | assumption)
                 have q171 : x4_2 < (x3_2.length : Int) := of_decide_eq_true (by first | (with_reducible assumption) | assumption)
                 obtain ⟨ad171,e171,hx171_0⟩ := Kd.at_int (Kd.R_reads' HO_3.out).2.2 x4_2 p171 q171
                 obtain rfl : (⟨go15,0,none⟩ : Addr) = ad171 := (by injection e171)
                 (first | simp only [add_plain] at hx171_0 | simp only [add_at] at hx171_0 | simp only [Addr.add,Nat.zero_add] at hx171_0 | skip)
                 replace p171 := eq_true p171
                 replace q171 := eq_true q171
                 have p172 : 0 ≤ (x4_2 : Int) := of_decide_eq_true (by first | (with_reducible assumption) | assumption)
                 have q172 : x4_2 < (x3_2.length : Int) := of_decide_eq_true (by first | (with_reducible assumption) | assumption)
                 obtain ⟨ad172,e172,hx172_0⟩ := Kd.at_int (Kd.R_reads' HO_3.out).2.2 x4_2 p172 q172
                 obtain rfl : (⟨go15,0,none⟩ : Addr) = ad172 := (by injection e172)
                 (first | simp only [add_plain] at hx172_0 | simp only [add_at] at hx172_0 | simp only [Addr.add,Nat.zero_add] at hx172_0 | skip)
                 replace p172 := eq_true p172
                 replace q172 := eq_true q172
                 refine start_ (n := 23) (S := fun w' => w'.cell? ⟨go15,(x4_2).toNat,none⟩ = some (.int .i64 (rd x3_2 x4_2)) ∧ w'.cell? ⟨go15,(x4_2).toNat,none⟩ = some (.int .i64 (rd x3_2 x4_2))) (ds := []) #[F,F,F,F,F,F,F,F,F,F,F,F,F,F,F,F,F,F,F,F,F,F,F] (by kernel_rfl) rfl rfl ⟨hx171_0,hx172_0⟩ (fun hHeld => ?_); refine with_tabW sleuthref1_DefMay.tab9 sleuthref1_DefMay.bits9 (fun HT_ HW_ => ?_)
                 generalize w37.drew = w38 at HO_3 BK162 BK170 HB hx171_0 hx172_0 hHeld ⊢
                 refine pure_ (i := 0) (N := some 44) (v := ?_) (a' := ?_) #[T,F,F,F,F,F,F,F,F,F,F,F,F,F,F,F,F,F,F,F,F,F,F] rfl rfl (any_of HT_.out (by kernel_rfl)) (fun _ _ _ h => h) (Or.inl ⟨by rfl,?_⟩) ?_ ?_
                 rotate_left
                 ·intro w'
                  go_simp
                  with_reducible rfl
                 rotate_left
                 ·simp only [Act.put,List.setIfInBounds_toArray,List.set_cons_zero,List.set_cons_succ,i64_w,i32_w]
                  rfl
                 refine pure_ (i := 1) (N := some 45) (v := ?_) (a' := ?_) #[T,T,F,F,F,F,F,F,F,F,F,F,F,F,F,F,F,F,F,F,F,F,F] rfl rfl (any_of HT_.out (by kernel_rfl)) (fun _ _ _ h => h) (Or.inl ⟨by rfl,?_⟩) ?_ ?_
                 rotate_left
                 ·intro w'
                  go_simp
                  with_reducible rfl
                 rotate_left
                 ·simp only [Act.put,List.setIfInBounds_toArray,List.set_cons_zero,List.set_cons_succ,i64_w,i32_w]
                  rfl
                 refine pure_ (i := 2) (N := some 46) (v := ?_) (a' := ?_) #[T,T,T,F,F,F,F,F,F,F,F,F,F,F,F,F,F,F,F,F,F,F,F] rfl rfl (any_of HT_.out (by kernel_rfl)) (fun _ _ _ h => h) (Or.inl ⟨by rfl,?_⟩) ?_ ?_
                 rotate_left
                 ·intro w'
                  go_simp
                  with_reducible rfl
                 rotate_left
                 ·simp only [Act.put,List.setIfInBounds_toArray,List.set_cons_zero,List.set_cons_succ,i64_w,i32_w]
                  rfl
                 refine take_ (i := 3) (N := some 47) (v := ?_) (a' := ?_) #[T,T,T,T,F,F,F,F,F,F,F,F,F,F,F,F,F,F,F,F,F,F,F] rfl rfl (take_ofW HT_.out HW_.out (by kernel_rfl)) (fun _ _ _ h => h) (Or.inl ⟨by rfl,?_⟩) hHeld ?_ ?_
                 rotate_left
                 ·rintro w' ⟨s0,s1⟩
                  go_simp
                  with_reducible rfl
                 rotate_left
                 ·simp only [Act.put,List.setIfInBounds_toArray,List.set_cons_zero,List.set_cons_succ,i64_w,i32_w]
                  rfl
                 refine pure_ (i := 4) (N := some 48) (v := ?_) (a' := ?_) #[T,T,T,T,T,F,F,F,F,F,F,F,F,F,F,F,F,F,F,F,F,F,F] rfl rfl (any_of HT_.out (by kernel_rfl)) (fun _ _ _ h => h) (Or.inl ⟨by rfl,?_⟩) ?_ ?_
                 rotate_left
                 ·intro w'
                  go_simp
                  with_reducible rfl
                 rotate_left
                 ·simp only [Act.put,List.setIfInBounds_toArray,List.set_cons_zero,List.set_cons_succ,i64_w,i32_w]
                  rfl
                 refine pure_ (i := 5) (N := some 49) (v := ?_) (a' := ?_) #[T,T,T,T,T,T,F,F,F,F,F,F,F,F,F,F,F,F,F,F,F,F,F] rfl rfl (any_of HT_.out (by kernel_rfl)) (fun _ _ _ h => h) (Or.inl ⟨by rfl,?_⟩) ?_ ?_
                 rotate_left
                 ·intro w'
                  go_simp
                  with_reducible rfl
                 rotate_left
                 ·simp only [Act.put,List.setIfInBounds_toArray,List.set_cons_zero,List.set_cons_succ,i64_w,i32_w]
                  rfl
                 refine pure_ (i := 6) (N := some 50) (v := ?_) (a' := ?_) #[T,T,T,T,T,T,T,F,F,F,F,F,F,F,F,F,F,F,F,F,F,F,F] rfl rfl (any_of HT_.out (by kernel_rfl)) (fun _ _ _ h => h) (Or.inl ⟨by rfl,?_⟩) ?_ ?_
                 rotate_left
                 ·intro w'
                  go_simp
                  with_reducible rfl
                 rotate_left
                 ·simp only [Act.put,List.setIfInBounds_toArray,List.set_cons_zero,List.set_cons_succ,i64_w,i32_w]
                  rfl
                 refine pure_ (i := 7) (N := some 51) (v := ?_) (a' := ?_) #[T,T,T,T,T,T,T,T,F,F,F,F,F,F,F,F,F,F,F,F,F,F,F] rfl rfl (any_of HT_.out (by kernel_rfl)) (fun _ _ _ h => h) (Or.inl ⟨by rfl,?_⟩) ?_ ?_
                 rotate_left
                 ·intro w'
                  go_simp
                  with_reducible rfl
                 rotate_left
                 ·simp only [Act.put,List.setIfInBounds_toArray,List.set_cons_zero,List.set_cons_succ,i64_w,i32_w]
                  rfl
                 refine pure_ (i := 8) (N := some 52) (v := ?_) (a' := ?_) #[T,T,T,T,T,T,T,T,T,F,F,F,F,F,F,F,F,F,F,F,F,F,F] rfl rfl (any_of HT_.out (by kernel_rfl)) (fun _ _ _ h => h) (Or.inl ⟨by rfl,?_⟩) ?_ ?_
                 rotate_left
                 ·intro w'
                  go_simp
                  with_reducible rfl
                 rotate_left
                 ·simp only [Act.put,List.setIfInBounds_toArray,List.set_cons_zero,List.set_cons_succ,i64_w,i32_w]
                  rfl
                 refine take_ (i := 9) (N := some 53) (v := ?_) (a' := ?_) #[T,T,T,T,T,T,T,T,T,T,F,F,F,F,F,F,F,F,F,F,F,F,F] rfl rfl (take_ofW HT_.out HW_.out (by kernel_rfl)) (fun _ _ _ h => h) (Or.inl ⟨by rfl,?_⟩) hHeld ?_ ?_
                 rotate_left
                 ·rintro w' ⟨s0,s1⟩
                  go_simp
                  with_reducible rfl
                 rotate_left
                 ·simp only [Act.put,List.setIfInBounds_toArray,List.set_cons_zero,List.set_cons_succ,i64_w,i32_w]
                  rfl
                 refine pure_ (i := 10) (N := some 54) (v := ?_) (a' := ?_) #[T,T,T,T,T,T,T,T,T,T,T,F,F,F,F,F,F,F,F,F,F,F,F] rfl rfl (any_of HT_.out (by kernel_rfl)) (fun _ _ _ h => h) (Or.inl ⟨by rfl,?_⟩) ?_ ?_
                 rotate_left
                 ·intro w'
                  go_simp
                  with_reducible rfl
                 rotate_left
                 ·simp only [Act.put,List.setIfInBounds_toArray,List.set_cons_zero,List.set_cons_succ,i64_w,i32_w]
                  rfl
                 refine pure_ (i := 11) (N := some 55) (v := ?_) (a' := ?_) #[T,T,T,T,T,T,T,T,T,T,T,T,F,F,F,F,F,F,F,F,F,F,F] rfl rfl (any_of HT_.out (by kernel_rfl)) (fun _ _ _ h => h) (Or.inl ⟨by rfl,?_⟩) ?_ ?_
                 rotate_left
                 ·intro w'
                  go_simp
                  with_reducible rfl
                 rotate_left
                 ·simp only [Act.put,List.setIfInBounds_toArray,List.set_cons_zero,List.set_cons_succ,i64_w,i32_w]
                  rfl
                 refine pure_ (i := 12) (N := some 56) (v := ?_) (a' := ?_) #[T,T,T,T,T,T,T,T,T,T,T,T,T,F,F,F,F,F,F,F,F,F,F] rfl rfl (any_of HT_.out (by kernel_rfl)) (fun _ _ _ h => h) (Or.inl ⟨by rfl,?_⟩) ?_ ?_
                 rotate_left
                 ·intro w'
                  go_simp
                  with_reducible rfl
                 rotate_left
                 ·simp only [Act.put,List.setIfInBounds_toArray,List.set_cons_zero,List.set_cons_succ,i64_w,i32_w]
                  rfl
                 refine pure_ (i := 13) (N := some 57) (v := ?_) (a' := ?_) #[T,T,T,T,T,T,T,T,T,T,T,T,T,T,F,F,F,F,F,F,F,F,F] rfl rfl (any_of HT_.out (by kernel_rfl)) (fun _ _ _ h => h) (Or.inl ⟨by rfl,?_⟩) ?_ ?_
                 rotate_left
                 ·intro w'
                  go_simp
                  with_reducible rfl
                 rotate_left
                 ·simp only [Act.put,List.setIfInBounds_toArray,List.set_cons_zero,List.set_cons_succ,i64_w,i32_w]
                  rfl
                 refine pure_ (i := 14) (N := some 58) (v := undef) (a' := ?_) #[T,T,T,T,T,T,T,T,T,T,T,T,T,T,T,F,F,F,F,F,F,F,F] rfl rfl (any_of HT_.out (by kernel_rfl)) (fun _ _ _ h => h) (Or.inr ⟨by rfl,rfl⟩) ?_ ?_
                 rotate_left
                 ·simp only [Act.put,List.setIfInBounds_toArray,List.set_cons_zero,List.set_cons_succ,i64_w,i32_w]
                  rfl
                 refine pure_ (i := 15) (N := some 59) (v := undef) (a' := ?_) #[T,T,T,T,T,T,T,T,T,T,T,T,T,T,T,T,F,F,F,F,F,F,F] rfl rfl (any_of HT_.out (by kernel_rfl)) (fun _ _ _ h => h) (Or.inr ⟨by rfl,rfl⟩) ?_ ?_
                 rotate_left
                 ·simp only [Act.put,List.setIfInBounds_toArray,List.set_cons_zero,List.set_cons_succ,i64_w,i32_w]
                  rfl
                 refine pure_ (i := 16) (N := some 60) (v := undef) (a' := ?_) #[T,T,T,T,T,T,T,T,T,T,T,T,T,T,T,T,T,F,F,F,F,F,F] rfl rfl (any_of HT_.out (by kernel_rfl)) (fun _ _ _ h => h) (Or.inr ⟨by rfl,rfl⟩) ?_ ?_
                 rotate_left
                 ·simp only [Act.put,List.setIfInBounds_toArray,List.set_cons_zero,List.set_cons_succ,i64_w,i32_w]
                  rfl
                 refine pure_ (i := 17) (N := some 61) (v := undef) (a' := ?_) #[T,T,T,T,T,T,T,T,T,T,T,T,T,T,T,T,T,T,F,F,F,F,F] rfl rfl (any_of HT_.out (by kernel_rfl)) (fun _ _ _ h => h) (Or.inr ⟨by rfl,rfl⟩) ?_ ?_
                 rotate_left
                 ·simp only [Act.put,List.setIfInBounds_toArray,List.set_cons_zero,List.set_cons_succ,i64_w,i32_w]
                  rfl
                 refine pure_ (i := 18) (N := some 62) (v := undef) (a' := ?_) #[T,T,T,T,T,T,T,T,T,T,T,T,T,T,T,T,T,T,T,F,F,F,F] rfl rfl (any_of HT_.out (by kernel_rfl)) (fun _ _ _ h => h) (Or.inr ⟨by rfl,rfl⟩) ?_ ?_
                 rotate_left
                 ·simp only [Act.put,List.setIfInBounds_toArray,List.set_cons_zero,List.set_cons_succ,i64_w,i32_w]
                  rfl
                 refine pure_ (i := 19) (N := some 63) (v := undef) (a' := ?_) #[T,T,T,T,T,T,T,T,T,T,T,T,T,T,T,T,T,T,T,T,F,F,F] rfl rfl (any_of HT_.out (by kernel_rfl)) (fun _ _ _ h => h) (Or.inr ⟨by rfl,rfl⟩) ?_ ?_
                 rotate_left
                 ·simp only [Act.put,List.setIfInBounds_toArray,List.set_cons_zero,List.set_cons_succ,i64_w,i32_w]
                  rfl
                 refine pure_ (i := 20) (N := some 64) (v := undef) (a' := ?_) #[T,T,T,T,T,T,T,T,T,T,T,T,T,T,T,T,T,T,T,T,T,F,F] rfl rfl (any_of HT_.out (by kernel_rfl)) (fun _ _ _ h => h) (Or.inr ⟨by rfl,rfl⟩) ?_ ?_
                 rotate_left
                 ·simp only [Act.put,List.setIfInBounds_toArray,List.set_cons_zero,List.set_cons_succ,i64_w,i32_w]
                  rfl
                 refine pure_ (i := 21) (N := some 65) (v := undef) (a' := ?_) #[T,T,T,T,T,T,T,T,T,T,T,T,T,T,T,T,T,T,T,T,T,T,F] rfl rfl (any_of HT_.out (by kernel_rfl)) (fun _ _ _ h => h) (Or.inr ⟨by rfl,rfl⟩) ?_ ?_
                 rotate_left
                 ·simp only [Act.put,List.setIfInBounds_toArray,List.set_cons_zero,List.set_cons_succ,i64_w,i32_w]
                  rfl
                 refine pure_ (i := 22) (N := some 66) (v := ?_) (a' := ?_) #[T,T,T,T,T,T,T,T,T,T,T,T,T,T,T,T,T,T,T,T,T,T,T] rfl rfl (any_of HT_.out (by kernel_rfl)) (fun _ _ _ h => h) (Or.inl ⟨by rfl,?_⟩) ?_ ?_
                 rotate_left
                 ·intro w'
                  go_simp
                  with_reducible rfl
                 rotate_left
                 ·simp only [Act.put,List.setIfInBounds_toArray,List.set_cons_zero,List.set_cons_succ,i64_w,i32_w]
                  rfl
                 refine done_ (done_of HT_.out (by kernel_rfl)) ?_
                 try go_wp2
                 go_meet
                 case rel => exact ⟨_,(true),(by first | rfl | (simp; done) | (simp [*]; done)),H',⟨by have := HJ1.out; have := HK2.out; first | omega | exact Nat.le_refl _⟩,⟨by (try simp only [hl3_2]); (with_reducible repeat (first | apply Kd.R_alloc | apply Kd.R_drewN | apply Kd.R_drew)); exact HO_3.out⟩,⟨by (try simp only [hl3_2]); (with_reducible repeat (first | refine blk_drewN ?_ _ | refine blk_drew ?_ | refine blk_alloc ?_ _)); exact BK162.out⟩,⟨by (try simp only [hl3_2]); (with_reducible repeat (first | refine blk_drewN ?_ _ | refine blk_drew ?_ | refine blk_alloc ?_ _)); exact BK170.out⟩,⟨by repeat (first | (with_reducible first | exact HB.out | apply below_alloc | apply pw_below_drewN | apply below_drew1 | refine below_set ?_ GE162.out | refine below_set ?_ GE170.out) | exact HB.out)⟩⟩
                ·rw [if_neg c36] at H
                 have c36b0 : decide (8 < (wrap64 ((rd x3_2 x4_2) - 1))) = false := decide_eq_false c36
                 clear c36
                 replace H := Option.bind_eq_some_iff.mp H
                 obtain ⟨t174,A390,H⟩ := H
                 replace H : (sleuthref1_DefMay.j2 k2 x3_2 x4_2 (!t174) a0_0 l0_1 ((rd_T33 l0_1 x4_2).f0) ((rd_T33 l0_1 x4_2).f1) ((rd_T33 l0_1 x4_2).f2) ((rd_T33 l0_1 x4_2).f3)) = some r := H
                 have A39 := Aside0.mk A390
                 clear A390
                 have H' := Aside0.mk H
                 clear H
                 try go_wp2
                 have n0_ : Aside0 (Kd.R (Kd.int .i64) 3 ((((w29.setCell ⟨gb170,0,none⟩ (.int .i64 ((rd_T33 l0_1 x4_2).f0))).setCell ⟨gb170,1,none⟩ (.int .i64 ((rd_T33 l0_1 x4_2).f1))).setCell ⟨gb170,2,none⟩ (.int .i64 ((rd_T33 l0_1 x4_2).f2))).setCell ⟨gb170,3,none⟩ (.slice A169_3 ((rd_T33 l0_1 x4_2).f3).length c169_3)) w.heap.size (fun _ => True) (.slice (some ⟨go15,0,none⟩) x3_2.length co19) x3_2) := ⟨by (with_reducible repeat (first | apply Kd.R_alloc | apply Kd.R_drewN | apply Kd.R_drew)); exact Kd.R_mono (Kd.R_far (p := ⟨gb170,3,none⟩) (Kd.R_far (p := ⟨gb170,2,none⟩) (Kd.R_far (p := ⟨gb170,1,none⟩) (Kd.R_far (p := ⟨gb170,0,none⟩) (Kd.R_types HO_3.out BK170.out (by decide)) (fun _ hk => hk.2) (.int .i64 ((rd_T33 l0_1 x4_2).f0))) (fun _ hk => hk.2) (.int .i64 ((rd_T33 l0_1 x4_2).f1))) (fun _ hk => hk.2) (.int .i64 ((rd_T33 l0_1 x4_2).f2))) (fun _ hk => hk.2) (.slice A169_3 ((rd_T33 l0_1 x4_2).f3).length c169_3)) (fun _ hk => trivial)⟩
                 have n1_ : Aside0 (((((w29.setCell ⟨gb170,0,none⟩ (.int .i64 ((rd_T33 l0_1 x4_2).f0))).setCell ⟨gb170,1,none⟩ (.int .i64 ((rd_T33 l0_1 x4_2).f1))).setCell ⟨gb170,2,none⟩ (.int .i64 ((rd_T33 l0_1 x4_2).f2))).setCell ⟨gb170,3,none⟩ (.slice A169_3 ((rd_T33 l0_1 x4_2).f3).length c169_3)).heap[gb162]? = some (.cells #[.int .i64 a0_0,.slice (some ad169) l0_1.length c0_1] 24 (0,0))) := ⟨by (with_reducible repeat (first | refine blk_drewN ?_ _ | refine blk_drew ?_ | refine blk_alloc ?_ _)); refine blk_far ?_ NB162_170.out _; (with_reducible repeat (first | refine blk_drewN ?_ _ | refine blk_drew ?_ | refine blk_alloc ?_ _)); refine blk_far ?_ NB162_170.out _; (with_reducible repeat (first | refine blk_drewN ?_ _ | refine blk_drew ?_ | refine blk_alloc ?_ _)); refine blk_far ?_ NB162_170.out _; (with_reducible repeat (first | refine blk_drewN ?_ _ | refine blk_drew ?_ | refine blk_alloc ?_ _)); refine blk_far ?_ NB162_170.out _; (with_reducible repeat (first | refine blk_drewN ?_ _ | refine blk_drew ?_ | refine blk_alloc ?_ _)); exact BK162.out⟩
                 have n2_ : Aside0 (((((w29.setCell ⟨gb170,0,none⟩ (.int .i64 ((rd_T33 l0_1 x4_2).f0))).setCell ⟨gb170,1,none⟩ (.int .i64 ((rd_T33 l0_1 x4_2).f1))).setCell ⟨gb170,2,none⟩ (.int .i64 ((rd_T33 l0_1 x4_2).f2))).setCell ⟨gb170,3,none⟩ (.slice A169_3 ((rd_T33 l0_1 x4_2).f3).length c169_3)).heap[gb170]? = some (.cells #[.int .i64 ((rd_T33 l0_1 x4_2).f0),.int .i64 ((rd_T33 l0_1 x4_2).f1),.int .i64 ((rd_T33 l0_1 x4_2).f2),.slice A169_3 ((rd_T33 l0_1 x4_2).f3).length c169_3] 33 (0,0))) := ⟨by (with_reducible repeat (first | refine blk_drewN ?_ _ | refine blk_drew ?_ | refine blk_alloc ?_ _)); refine blk_put (cs := #[.int .i64 ((rd_T33 l0_1 x4_2).f0),.int .i64 ((rd_T33 l0_1 x4_2).f1),.int .i64 ((rd_T33 l0_1 x4_2).f2),.slice none 0 0]) ?_ 3 _ rfl; (with_reducible repeat (first | refine blk_drewN ?_ _ | refine blk_drew ?_ | refine blk_alloc ?_ _)); refine blk_put (cs := #[.int .i64 ((rd_T33 l0_1 x4_2).f0),.int .i64 ((rd_T33 l0_1 x4_2).f1),.int .i64 0,.slice none 0 0]) ?_ 2 _ rfl; (with_reducible repeat (first | refine blk_drewN ?_ _ | refine blk_drew ?_ | refine blk_alloc ?_ _)); refine blk_put (cs := #[.int .i64 ((rd_T33 l0_1 x4_2).f0),.int .i64 0,.int .i64 0,.slice none 0 0]) ?_ 1 _ rfl; (with_reducible repeat (first | refine blk_drewN ?_ _ | refine blk_drew ?_ | refine blk_alloc ?_ _)); refine blk_put (cs := #[.int .i64 0,.int .i64 0,.int .i64 0,.slice none 0 0]) ?_ 0 _ rfl; (with_reducible repeat (first | refine blk_drewN ?_ _ | refine blk_drew ?_ | refine blk_alloc ?_ _)); exact BK170.out⟩
                 have n3_ : Aside0 (Below w.heap.size w ((((w29.setCell ⟨gb170,0,none⟩ (.int .i64 ((rd_T33 l0_1 x4_2).f0))).setCell ⟨gb170,1,none⟩ (.int .i64 ((rd_T33 l0_1 x4_2).f1))).setCell ⟨gb170,2,none⟩ (.int .i64 ((rd_T33 l0_1 x4_2).f2))).setCell ⟨gb170,3,none⟩ (.slice A169_3 ((rd_T33 l0_1 x4_2).f3).length c169_3))) := ⟨by repeat (first | (with_reducible first | exact HB.out | apply below_alloc | apply pw_below_drewN | apply below_drew1 | refine below_set ?_ GE162.out | refine below_set ?_ GE170.out) | exact HB.out)⟩
                 (try clear HO_3)
                 (try clear BK162)
                 (try clear BK170)
                 (try clear HB)
                 generalize ((((w29.setCell ⟨gb170,0,none⟩ (.int .i64 ((rd_T33 l0_1 x4_2).f0))).setCell ⟨gb170,1,none⟩ (.int .i64 ((rd_T33 l0_1 x4_2).f1))).setCell ⟨gb170,2,none⟩ (.int .i64 ((rd_T33 l0_1 x4_2).f2))).setCell ⟨gb170,3,none⟩ (.slice A169_3 ((rd_T33 l0_1 x4_2).f3).length c169_3)) = w40 at n0_ n1_ n2_ n3_ ⊢
                 have HO_3 := n0_
                 have BK162 := n1_
                 have BK170 := n2_
                 have HB := n3_
                 clear n0_ n1_ n2_ n3_
                 have n0_ := Aside0.mk (Kd.R_drew HO_3.out)
                 have n1_ := Aside0.mk (blk_drew BK162.out)
                 have n2_ := Aside0.mk (blk_drew BK170.out)
                 have n3_ := Aside0.mk (below_drew1 HB.out)
                 clear HO_3
                 clear BK162
                 clear BK170
                 clear HB
                 have HO_3 := n0_
                 have BK162 := n1_
                 have BK170 := n2_
                 have HB := n3_
                 clear n0_ n1_ n2_ n3_
                 have p171 : 0 ≤ (x4_2 : Int) := of_decide_eq_true (by first | (with_reducible assumption) | assumption)
                 have q171 : x4_2 < (x3_2.length : Int) := of_decide_eq_true (by first | (with_reducible assumption) | assumption)
                 obtain ⟨ad171,e171,hx171_0⟩ := Kd.at_int (Kd.R_reads' HO_3.out).2.2 x4_2 p171 q171
                 obtain rfl : (⟨go15,0,none⟩ : Addr) = ad171 := (by injection e171)
                 (first | simp only [add_plain] at hx171_0 | simp only [add_at] at hx171_0 | simp only [Addr.add,Nat.zero_add] at hx171_0 | skip)
                 replace p171 := eq_true p171
                 replace q171 := eq_true q171
                 have p172 : 0 ≤ (x4_2 : Int) := of_decide_eq_true (by first | (with_reducible assumption) | assumption)
                 have q172 : x4_2 < (x3_2.length : Int) := of_decide_eq_true (by first | (with_reducible assumption) | assumption)
                 obtain ⟨ad172,e172,hx172_0⟩ := Kd.at_int (Kd.R_reads' HO_3.out).2.2 x4_2 p172 q172
                 obtain rfl : (⟨go15,0,none⟩ : Addr) = ad172 := (by injection e172)
                 (first | simp only [add_plain] at hx172_0 | simp only [add_at] at hx172_0 | simp only [Addr.add,Nat.zero_add] at hx172_0 | skip)
                 replace p172 := eq_true p172
                 replace q172 := eq_true q172
                 have p173 : 0 ≤ (x4_2 : Int) := of_decide_eq_true (by first | (with_reducible assumption) | assumption)
                 have q173 : x4_2 < (x3_2.length : Int) := of_decide_eq_true (by first | (with_reducible assumption) | assumption)
                 obtain ⟨ad173,e173,hx173_0⟩ := Kd.at_int (Kd.R_reads' HO_3.out).2.2 x4_2 p173 q173
                 obtain rfl : (⟨go15,0,none⟩ : Addr) = ad173 := (by injection e173)
                 (first | simp only [add_plain] at hx173_0 | simp only [add_at] at hx173_0 | simp only [Addr.add,Nat.zero_add] at hx173_0 | skip)
                 replace p173 := eq_true p173
                 replace q173 := eq_true q173
                 refine start_ (n := 23) (S := fun w' => w'.cell? ⟨gb170,0,none⟩ = some (.int .i64 ((rd_T33 l0_1 x4_2).f0)) ∧ w'.cell? ⟨gb170,1,none⟩ = some (.int .i64 ((rd_T33 l0_1 x4_2).f1)) ∧ w'.cell? ⟨gb170,2,none⟩ = some (.int .i64 ((rd_T33 l0_1 x4_2).f2)) ∧ w'.cell? ⟨gb170,3,none⟩ = some (.slice A169_3 ((rd_T33 l0_1 x4_2).f3).length c169_3) ∧ w'.cell? ⟨go15,(x4_2).toNat,none⟩ = some (.int .i64 (rd x3_2 x4_2)) ∧ w'.cell? ⟨go15,(x4_2).toNat,none⟩ = some (.int .i64 (rd x3_2 x4_2)) ∧ w'.cell? ⟨go15,(x4_2).toNat,none⟩ = some (.int .i64 (rd x3_2 x4_2))) (ds := []) #[F,F,F,F,F,F,F,F,F,F,F,F,F,F,F,F,F,F,F,F,F,F,F] (by kernel_rfl) rfl rfl ⟨(blk_cell BK170.out 0).trans rfl,(blk_cell BK170.out 1).trans rfl,(blk_cell BK170.out 2).trans rfl,(blk_cell BK170.out 3).trans rfl,hx171_0,hx172_0,hx173_0⟩ (fun hHeld => ?_); refine with_tabW sleuthref1_DefMay.tab9 sleuthref1_DefMay.bits9 (fun HT_ HW_ => ?_)
                 generalize w40.drew = w41 at HO_3 BK162 BK170 HB hx171_0 hx172_0 hx173_0 hHeld ⊢
                 refine pure_ (i := 0) (N := some 44) (v := ?_) (a' := ?_) #[T,F,F,F,F,F,F,F,F,F,F,F,F,F,F,F,F,F,F,F,F,F,F] rfl rfl (any_of HT_.out (by kernel_rfl)) (fun _ _ _ h => h) (Or.inl ⟨by rfl,?_⟩) ?_ ?_
                 rotate_left
                 ·intro w'
                  go_simp
                  with_reducible rfl
                 rotate_left
                 ·simp only [Act.put,List.setIfInBounds_toArray,List.set_cons_zero,List.set_cons_succ,i64_w,i32_w]
                  rfl
                 refine pure_ (i := 1) (N := some 45) (v := ?_) (a' := ?_) #[T,T,F,F,F,F,F,F,F,F,F,F,F,F,F,F,F,F,F,F,F,F,F] rfl rfl (any_of HT_.out (by kernel_rfl)) (fun _ _ _ h => h) (Or.inl ⟨by rfl,?_⟩) ?_ ?_
                 rotate_left
                 ·intro w'
                  go_simp
                  with_reducible rfl
                 rotate_left
                 ·simp only [Act.put,List.setIfInBounds_toArray,List.set_cons_zero,List.set_cons_succ,i64_w,i32_w]
                  rfl
                 refine pure_ (i := 2) (N := some 46) (v := ?_) (a' := ?_) #[T,T,T,F,F,F,F,F,F,F,F,F,F,F,F,F,F,F,F,F,F,F,F] rfl rfl (any_of HT_.out (by kernel_rfl)) (fun _ _ _ h => h) (Or.inl ⟨by rfl,?_⟩) ?_ ?_
                 rotate_left
                 ·intro w'
                  go_simp
                  with_reducible rfl
                 rotate_left
                 ·simp only [Act.put,List.setIfInBounds_toArray,List.set_cons_zero,List.set_cons_succ,i64_w,i32_w]
                  rfl
                 refine take_ (i := 3) (N := some 47) (v := ?_) (a' := ?_) #[T,T,T,T,F,F,F,F,F,F,F,F,F,F,F,F,F,F,F,F,F,F,F] rfl rfl (take_ofW HT_.out HW_.out (by kernel_rfl)) (fun _ _ _ h => h) (Or.inl ⟨by rfl,?_⟩) hHeld ?_ ?_
                 rotate_left
                 ·rintro w' ⟨s0,s1,s2,s3,s4,s5,s6⟩
                  go_simp
                  with_reducible rfl
                 rotate_left
                 ·simp only [Act.put,List.setIfInBounds_toArray,List.set_cons_zero,List.set_cons_succ,i64_w,i32_w]
                  rfl
                 refine pure_ (i := 4) (N := some 48) (v := ?_) (a' := ?_) #[T,T,T,T,T,F,F,F,F,F,F,F,F,F,F,F,F,F,F,F,F,F,F] rfl rfl (any_of HT_.out (by kernel_rfl)) (fun _ _ _ h => h) (Or.inl ⟨by rfl,?_⟩) ?_ ?_
                 rotate_left
                 ·intro w'
                  go_simp
                  with_reducible rfl
                 rotate_left
                 ·simp only [Act.put,List.setIfInBounds_toArray,List.set_cons_zero,List.set_cons_succ,i64_w,i32_w]
                  rfl
                 refine pure_ (i := 5) (N := some 49) (v := ?_) (a' := ?_) #[T,T,T,T,T,T,F,F,F,F,F,F,F,F,F,F,F,F,F,F,F,F,F] rfl rfl (any_of HT_.out (by kernel_rfl)) (fun _ _ _ h => h) (Or.inl ⟨by rfl,?_⟩) ?_ ?_
                 rotate_left
                 ·intro w'
                  go_simp
                  with_reducible rfl
                 rotate_left
                 ·simp only [Act.put,List.setIfInBounds_toArray,List.set_cons_zero,List.set_cons_succ,i64_w,i32_w]
                  rfl
                 refine pure_ (i := 6) (N := some 50) (v := ?_) (a' := ?_) #[T,T,T,T,T,T,T,F,F,F,F,F,F,F,F,F,F,F,F,F,F,F,F] rfl rfl (any_of HT_.out (by kernel_rfl)) (fun _ _ _ h => h) (Or.inl ⟨by rfl,?_⟩) ?_ ?_
                 rotate_left
                 ·intro w'
                  go_simp
                  with_reducible rfl
                 rotate_left
                 ·simp only [Act.put,List.setIfInBounds_toArray,List.set_cons_zero,List.set_cons_succ,i64_w,i32_w]
                  rfl
                 refine pure_ (i := 7) (N := some 51) (v := ?_) (a' := ?_) #[T,T,T,T,T,T,T,T,F,F,F,F,F,F,F,F,F,F,F,F,F,F,F] rfl rfl (any_of HT_.out (by kernel_rfl)) (fun _ _ _ h => h) (Or.inl ⟨by rfl,?_⟩) ?_ ?_
                 rotate_left
                 ·intro w'
                  go_simp
                  with_reducible rfl
                 rotate_left
                 ·simp only [Act.put,List.setIfInBounds_toArray,List.set_cons_zero,List.set_cons_succ,i64_w,i32_w]
                  rfl
                 refine pure_ (i := 8) (N := some 52) (v := ?_) (a' := ?_) #[T,T,T,T,T,T,T,T,T,F,F,F,F,F,F,F,F,F,F,F,F,F,F] rfl rfl (any_of HT_.out (by kernel_rfl)) (fun _ _ _ h => h) (Or.inl ⟨by rfl,?_⟩) ?_ ?_
                 rotate_left
                 ·intro w'
                  go_simp
                  with_reducible rfl
                 rotate_left
                 ·simp only [Act.put,List.setIfInBounds_toArray,List.set_cons_zero,List.set_cons_succ,i64_w,i32_w]
                  rfl
                 refine take_ (i := 9) (N := some 53) (v := ?_) (a' := ?_) #[T,T,T,T,T,T,T,T,T,T,F,F,F,F,F,F,F,F,F,F,F,F,F] rfl rfl (take_ofW HT_.out HW_.out (by kernel_rfl)) (fun _ _ _ h => h) (Or.inl ⟨by rfl,?_⟩) hHeld ?_ ?_
                 rotate_left
                 ·rintro w' ⟨s0,s1,s2,s3,s4,s5,s6⟩
                  go_simp
                  with_reducible rfl
                 rotate_left
                 ·simp only [Act.put,List.setIfInBounds_toArray,List.set_cons_zero,List.set_cons_succ,i64_w,i32_w]
                  rfl
                 refine pure_ (i := 10) (N := some 54) (v := ?_) (a' := ?_) #[T,T,T,T,T,T,T,T,T,T,T,F,F,F,F,F,F,F,F,F,F,F,F] rfl rfl (any_of HT_.out (by kernel_rfl)) (fun _ _ _ h => h) (Or.inl ⟨by rfl,?_⟩) ?_ ?_
                 rotate_left
                 ·intro w'
                  go_simp
                  with_reducible rfl
                 rotate_left
                 ·simp only [Act.put,List.setIfInBounds_toArray,List.set_cons_zero,List.set_cons_succ,i64_w,i32_w]
                  rfl
                 refine pure_ (i := 11) (N := some 55) (v := ?_) (a' := ?_) #[T,T,T,T,T,T,T,T,T,T,T,T,F,F,F,F,F,F,F,F,F,F,F] rfl rfl (any_of HT_.out (by kernel_rfl)) (fun _ _ _ h => h) (Or.inl ⟨by rfl,?_⟩) ?_ ?_
                 rotate_left
                 ·intro w'
                  go_simp
                  with_reducible rfl
                 rotate_left
                 ·simp only [Act.put,List.setIfInBounds_toArray,List.set_cons_zero,List.set_cons_succ,i64_w,i32_w]
                  rfl
                 refine pure_ (i := 12) (N := some 56) (v := ?_) (a' := ?_) #[T,T,T,T,T,T,T,T,T,T,T,T,T,F,F,F,F,F,F,F,F,F,F] rfl rfl (any_of HT_.out (by kernel_rfl)) (fun _ _ _ h => h) (Or.inl ⟨by rfl,?_⟩) ?_ ?_
                 rotate_left
                 ·intro w'
                  go_simp
                  with_reducible rfl
                 rotate_left
                 ·simp only [Act.put,List.setIfInBounds_toArray,List.set_cons_zero,List.set_cons_succ,i64_w,i32_w]
                  rfl
                 refine pure_ (i := 13) (N := some 57) (v := ?_) (a' := ?_) #[T,T,T,T,T,T,T,T,T,T,T,T,T,T,F,F,F,F,F,F,F,F,F] rfl rfl (any_of HT_.out (by kernel_rfl)) (fun _ _ _ h => h) (Or.inl ⟨by rfl,?_⟩) ?_ ?_
                 rotate_left
                 ·intro w'
                  go_simp
                  with_reducible rfl
                 rotate_left
                 ·simp only [Act.put,List.setIfInBounds_toArray,List.set_cons_zero,List.set_cons_succ,i64_w,i32_w]
                  rfl
                 refine pure_ (i := 15) (N := some 59) (v := ?_) (a' := ?_) #[T,T,T,T,T,T,T,T,T,T,T,T,T,T,F,T,F,F,F,F,F,F,F] rfl rfl (any_of HT_.out (by kernel_rfl)) (fun _ _ _ h => h) (Or.inl ⟨by rfl,?_⟩) ?_ ?_
                 rotate_left
                 ·intro w'
                  go_simp
                  with_reducible rfl
                 rotate_left
                 ·simp only [Act.put,List.setIfInBounds_toArray,List.set_cons_zero,List.set_cons_succ,i64_w,i32_w]
                  rfl
                 refine pure_ (i := 16) (N := some 60) (v := ?_) (a' := ?_) #[T,T,T,T,T,T,T,T,T,T,T,T,T,T,F,T,T,F,F,F,F,F,F] rfl rfl (any_of HT_.out (by kernel_rfl)) (fun _ _ _ h => h) (Or.inl ⟨by rfl,?_⟩) ?_ ?_
                 rotate_left
                 ·intro w'
                  go_simp
                  with_reducible rfl
                 rotate_left
                 ·simp only [Act.put,List.setIfInBounds_toArray,List.set_cons_zero,List.set_cons_succ,i64_w,i32_w]
                  rfl
                 refine pure_ (i := 17) (N := some 61) (v := ?_) (a' := ?_) #[T,T,T,T,T,T,T,T,T,T,T,T,T,T,F,T,T,T,F,F,F,F,F] rfl rfl (any_of HT_.out (by kernel_rfl)) (fun _ _ _ h => h) (Or.inl ⟨by rfl,?_⟩) ?_ ?_
                 rotate_left
                 ·intro w'
                  go_simp
                  with_reducible rfl
                 rotate_left
                 ·simp only [Act.put,List.setIfInBounds_toArray,List.set_cons_zero,List.set_cons_succ,i64_w,i32_w]
                  rfl
                 refine take_ (i := 14) (N := some 58) (v := ?_) (a' := ?_) #[T,T,T,T,T,T,T,T,T,T,T,T,T,T,T,T,T,T,F,F,F,F,F] rfl rfl (take_ofW HT_.out HW_.out (by kernel_rfl)) (fun _ _ _ h => h) (Or.inl ⟨by rfl,?_⟩) hHeld ?_ ?_
                 rotate_left
                 ·rintro w' ⟨s0,s1,s2,s3,s4,s5,s6⟩
                  go_simp
                  with_reducible rfl
                 rotate_left
                 ·simp only [Act.put,List.setIfInBounds_toArray,List.set_cons_zero,List.set_cons_succ,i64_w,i32_w]
                  rfl
                 refine take_ (i := 18) (N := some 62) (v := ?_) (a' := ?_) #[T,T,T,T,T,T,T,T,T,T,T,T,T,T,T,T,T,T,T,F,F,F,F] rfl rfl (take_ofW HT_.out HW_.out (by kernel_rfl)) (fun _ _ _ h => h) (Or.inl ⟨by rfl,?_⟩) hHeld ?_ ?_
                 rotate_left
                 ·rintro w' ⟨s0,s1,s2,s3,s4,s5,s6⟩
                  go_simp
                  with_reducible rfl
                 rotate_left
                 ·simp only [Act.put,List.setIfInBounds_toArray,List.set_cons_zero,List.set_cons_succ,i64_w,i32_w]
                  rfl
                 refine pure_ (i := 19) (N := some 63) (v := ?_) (a' := ?_) #[T,T,T,T,T,T,T,T,T,T,T,T,T,T,T,T,T,T,T,T,F,F,F] rfl rfl (any_of HT_.out (by kernel_rfl)) (fun _ _ _ h => h) (Or.inl ⟨by rfl,?_⟩) ?_ ?_
                 rotate_left
                 ·intro w'
                  go_simp
                  with_reducible rfl
                 rotate_left
                 ·simp only [Act.put,List.setIfInBounds_toArray,List.set_cons_zero,List.set_cons_succ,i64_w,i32_w]
                  rfl
                 refine one_ (i := 20) (N := some 64) #[T,T,T,T,T,T,T,T,T,T,T,T,T,T,T,T,T,T,T,T,T,F,F] rfl rfl (one_of HT_.out (by kernel_rfl)) (by decide) (fun K hK => ?_)
                 refine goes_ Try.func30 (by kernel_rfl) rfl #[.agg #[.int .i64 ((rd_T33 l0_1 x4_2).f0),.int .i64 ((rd_T33 l0_1 x4_2).f1),.int .i64 ((rd_T33 l0_1 x4_2).f2),.slice A169_3 ((rd_T33 l0_1 x4_2).f3).length c169_3],.int .i64 (wrap64 ((rd x3_2 x4_2) - 1))] (by rfl) rfl rfl (by (try simp only [List.map_toArray,List.map_cons,List.map_nil]); first | done | rfl | (simp only [List.length_drop,List.length_take]; rfl)) ?_
                 with_reducible refine (sleuthref1_kinds.calls ((rd_T33 l0_1 x4_2).f0) ((rd_T33 l0_1 x4_2).f1) ((rd_T33 l0_1 x4_2).f2) _ _ ((rd_T33 l0_1 x4_2).f3) (wrap64 ((rd x3_2 x4_2) - 1)) t174 _ ?side1 ?side2 A39.out).mono ?_
                 (case side1 => repeat (first | exact (Kd.C_below HR169_3.out HB.out) | (with_reducible refine Kd.C_alloc ?_ _) | (with_reducible refine Kd.C_drewN ?_ _) | (with_reducible refine Kd.C_drew ?_)))
                 (case side2 => exact HC169_3.out)
                 rintro e w42 ⟨rfl,hb⟩
                 have HS4_ := (hb.cell (World.block_lt_of_cell? _ _ (hHeld.2.2.2.2.1))).trans (hHeld.2.2.2.2.1)
                 have HS5_ := (hb.cell (World.block_lt_of_cell? _ _ (hHeld.2.2.2.2.2.1))).trans (hHeld.2.2.2.2.2.1)
                 have HS6_ := (hb.cell (World.block_lt_of_cell? _ _ (hHeld.2.2.2.2.2.2))).trans (hHeld.2.2.2.2.2.2)
                 refine ⟨_,rfl,?_⟩
                 have n0_ := Aside0.mk (Kd.R_below (by (with_reducible repeat (first | apply Kd.R_alloc | apply Kd.R_drewN | apply Kd.R_drew)); exact HO_3.out) hb)
                 have n1_ := Aside0.mk (blk_below (g := gb162) (o := .cells #[.int .i64 a0_0,.slice (some ad169) l0_1.length c0_1] 24 (0,0)) (by (with_reducible repeat (first | refine blk_drewN ?_ _ | refine blk_drew ?_ | refine blk_alloc ?_ _)); exact BK162.out) hb)
                 have n2_ := Aside0.mk (blk_below (g := gb170) (o := .cells #[.int .i64 ((rd_T33 l0_1 x4_2).f0),.int .i64 ((rd_T33 l0_1 x4_2).f1),.int .i64 ((rd_T33 l0_1 x4_2).f2),.slice A169_3 ((rd_T33 l0_1 x4_2).f3).length c169_3] 33 (0,0)) (by (with_reducible repeat (first | refine blk_drewN ?_ _ | refine blk_drew ?_ | refine blk_alloc ?_ _)); exact BK170.out) hb)
                 have n3_ := Aside0.mk (below_step (by repeat (first | (with_reducible first | exact HB.out | apply below_alloc | apply pw_below_drewN | apply below_drew1 | refine below_set ?_ GE162.out | refine below_set ?_ GE170.out) | exact HB.out)) hb)
                 clear HO_3
                 clear BK162
                 clear BK170
                 clear HB
                 have HO_3 := n0_
                 have BK162 := n1_
                 have BK170 := n2_
                 have HB := n3_
                 clear n0_ n1_ n2_ n3_
                 (try clear hb)
                 (try clear hb2)
                 (try clear hk)
                 (try clear hi)
                 refine hK.out _ _ ⟨(blk_cell BK170.out 0).trans rfl,(blk_cell BK170.out 1).trans rfl,(blk_cell BK170.out 2).trans rfl,(blk_cell BK170.out 3).trans rfl,HS4_,HS5_,HS6_⟩ (fun hHeld => ?_)
                 clear hK K
                 refine norm_ (a' := ?_) ?_ ?_
                 rotate_left
                 ·show Act.put _ (some 64) _ = _
                  simp only [Act.put,List.setIfInBounds_toArray,List.set_cons_zero,List.set_cons_succ,i64_w,i32_w]
                  rfl
                 refine pure_ (i := 21) (N := some 65) (v := ?_) (a' := ?_) #[T,T,T,T,T,T,T,T,T,T,T,T,T,T,T,T,T,T,T,T,T,T,F] rfl rfl (any_of HT_.out (by kernel_rfl)) (fun _ _ _ h => h) (Or.inl ⟨by rfl,?_⟩) ?_ ?_
                 rotate_left
                 ·intro w'
                  go_simp
                  with_reducible rfl
                 rotate_left
                 ·simp only [Act.put,List.setIfInBounds_toArray,List.set_cons_zero,List.set_cons_succ,i64_w,i32_w]
                  rfl
                 refine pure_ (i := 22) (N := some 66) (v := ?_) (a' := ?_) #[T,T,T,T,T,T,T,T,T,T,T,T,T,T,T,T,T,T,T,T,T,T,T] rfl rfl (any_of HT_.out (by kernel_rfl)) (fun _ _ _ h => h) (Or.inl ⟨by rfl,?_⟩) ?_ ?_
                 rotate_left
                 ·intro w'
                  go_simp
                  with_reducible rfl
                 rotate_left
                 ·simp only [Act.put,List.setIfInBounds_toArray,List.set_cons_zero,List.set_cons_succ,i64_w,i32_w]
                  rfl
                 refine done_ (done_of HT_.out (by kernel_rfl)) ?_
                 try go_wp2
                 go_meet
                 case rel => exact ⟨_,(!t174),(by first | rfl | (simp; done) | (simp [*]; done)),H',⟨by have := HJ1.out; have := HK2.out; first | omega | exact Nat.le_refl _⟩,⟨by (try simp only [hl3_2]); (with_reducible repeat (first | apply Kd.R_alloc | apply Kd.R_drewN | apply Kd.R_drew)); exact HO_3.out⟩,⟨by (try simp only [hl3_2]); (with_reducible repeat (first | refine blk_drewN ?_ _ | refine blk_drew ?_ | refine blk_alloc ?_ _)); exact BK162.out⟩,⟨by (try simp only [hl3_2]); (with_reducible repeat (first | refine blk_drewN ?_ _ | refine blk_drew ?_ | refine blk_alloc ?_ _)); exact BK170.out⟩,⟨by repeat (first | (with_reducible first | exact HB.out | apply below_alloc | apply pw_below_drewN | apply below_drew1 | refine below_set ?_ GE162.out | refine below_set ?_ GE170.out) | exact HB.out)⟩⟩
              ·rw [if_neg c32] at H
               exact absurd H (by simp)
             case rest =>
              clear HC27
              try clear c1
              try clear p1
              try clear q1
              try clear hx1
              try clear p2
              try clear c3
              try clear p6
              try clear c16
              try clear p17
              try clear q17
              try clear hx17
              try clear c30
              try clear c32
              try clear c33
              try clear c33b0
              try clear c33b1
              try clear c36
              try clear c36b0
              try clear hx171_0
              try clear hx172_0
              try clear hx173_0
              try clear p171
              try clear p172
              try clear p173
              try clear q171
              try clear q172
              try clear q173
              obtain ⟨kq,x66_26,rfl,HA,HJ26,HO_3,BK162,BK170,HB⟩ := hcut
              cases kq with
              | zero => exact absurd HA.out (by simp [sleuthref1_DefMay.j2])
              | succ kj26 =>
               have H := HA.out
               clear HA
               simp only [sleuthref1_DefMay.j2] at H
               by_cases c43 : x66_26 = true
               ·subst c43
                have H1 : (some false) = some r := by rw [if_pos rfl] at H; exact H
                clear H
                have H := H1
                clear H1
                obtain rfl := Option.some.inj H
                go_wp2
                go_ret
                exact ⟨by first | rfl | (simp [errW_none,errW_some] <;> rfl) | (simp only [← hji12]; first | rfl | (simp [errW_none,errW_some] <;> rfl)) | (simp [*,errW_none,errW_some] <;> rfl),by repeat (first | (with_reducible first | exact HB.out | apply below_alloc | apply pw_below_drewN | apply below_drew1 | refine below_set ?_ GE162.out | refine below_set ?_ GE170.out) | exact HB.out)⟩
               ·replace c43 := Bool.eq_false_iff.mpr c43
                subst c43
                have H1 : (sleuthref1_DefMay.l1 kj26 x3_2 x4_2 0 a0_0 l0_1 ((rd_T33 l0_1 x4_2).f0) ((rd_T33 l0_1 x4_2).f1) ((rd_T33 l0_1 x4_2).f2) ((rd_T33 l0_1 x4_2).f3)) = some r := by rw [if_neg (show ¬ (false = true) by decide)] at H; exact H
                clear H
                have H := H1
                clear H1
                have H' := Aside0.mk H
                clear H
                go_wp2
                go_loopg [6] kj26 (fun kq v6 w' => ∃ (x3_4 : List Int) (x6_4 : Int),v6 = .int .i64 x6_4 ∧ Aside0 (sleuthref1_DefMay.l1 kq x3_4 x4_2 x6_4 a0_0 l0_1 ((rd_T33 l0_1 x4_2).f0) ((rd_T33 l0_1 x4_2).f1) ((rd_T33 l0_1 x4_2).f2) ((rd_T33 l0_1 x4_2).f3) = some r) ∧ Aside0 (kq ≤ kj26) ∧ Aside0 (Kd.R (Kd.int .i64) 3 w' w.heap.size (fun _ => True) (.slice (some ⟨go15,0,none⟩) x3_2.length co19) x3_4) ∧ Aside0 (w'.heap[gb162]? = some (.cells #[.int .i64 a0_0,(.slice (some ad169) l0_1.length c0_1)] 24 (0,0))) ∧ Aside0 (w'.heap[gb170]? = some (.cells #[.int .i64 ((rd_T33 l0_1 x4_2).f0),.int .i64 ((rd_T33 l0_1 x4_2).f1),.int .i64 ((rd_T33 l0_1 x4_2).f2),(.slice A169_3 ((rd_T33 l0_1 x4_2).f3).length c169_3)] 33 (0,0))) ∧ Aside0 (Below w.heap.size w w'))
                case atStart => exact ⟨(x3_2),(0),(by first | rfl | (simp; done) | (simp [*]; done)),H',⟨Nat.le_refl _⟩,⟨by (try simp only [hl3_2]); (with_reducible repeat (first | apply Kd.R_alloc | apply Kd.R_drewN | apply Kd.R_drew)); exact HO_3.out⟩,⟨by (try simp only [hl3_2]); (with_reducible repeat (first | refine blk_drewN ?_ _ | refine blk_drew ?_ | refine blk_alloc ?_ _)); exact BK162.out⟩,⟨by (try simp only [hl3_2]); (with_reducible repeat (first | refine blk_drewN ?_ _ | refine blk_drew ?_ | refine blk_alloc ?_ _)); exact BK170.out⟩,⟨by repeat (first | (with_reducible first | exact HB.out | apply below_alloc | apply pw_below_drewN | apply below_drew1 | refine below_set ?_ GE162.out | refine below_set ?_ GE170.out) | exact HB.out)⟩⟩
                case round =>
                 clear H'
                 try clear c1
                 try clear p1
                 try clear q1
                 try clear hx1
                 try clear p2
                 try clear c3
                 try clear c4
                 try clear p6
                 try clear c16
                 try clear p17
                 try clear q17
                 try clear hx17
                 try clear c30
                 try clear c32
                 try clear c33
                 try clear c33b0
                 try clear c33b1
                 try clear c36
                 try clear c36b0
                 try clear c43
                 try clear hx171_0
                 try clear hx172_0
                 try clear hx173_0
                 try clear p1
                 try clear p17
                 try clear p171
                 try clear p172
                 try clear p173
                 try clear p2
                 try clear p6
                 try clear q1
                 try clear q17
                 try clear q171
                 try clear q172
                 try clear q173
                 obtain ⟨x3_4,x6_4,rfl,HA,HK4,HO_3,BK162,BK170,HB⟩ := hrel
                 have hl3_4 := (Kd.R_reads' HO_3.out).1
                 rw [hl3_4] at HO_3
                 (try simp only [hl3_4])
                 (try simp only [hl3_4] at BK162)
                 (try simp only [hl3_4] at BK170)
                 cases gk with
                 | zero => exact absurd HA.out (by simp [sleuthref1_DefMay.l1])
                 | succ k4 =>
                  have H := HA.out
                  clear HA
                  simp only [sleuthref1_DefMay.l1] at H
                  by_cases c44 : x6_4 < (((rd_T33 l0_1 x4_2).f3).length : Int)
                  ·rw [if_pos c44] at H
                   have c44b0 : decide (x6_4 < (((rd_T33 l0_1 x4_2).f3).length : Int)) = true := decide_eq_true c44
                   clear c44
                   by_cases c45 : 0 ≤ x6_4
                   ·rw [if_pos c45] at H
                    have c45b0 : decide (0 ≤ x6_4) = true := decide_eq_true c45
                    clear c45
                    replace H := Option.bind_eq_some_iff.mp H
                    obtain ⟨t176,A460,H⟩ := H
                    replace H : (if t176 = true then (if 0 ≤ (rd ((rd_T33 l0_1 x4_2).f3) x6_4) then (if (rd ((rd_T33 l0_1 x4_2).f3) x6_4) < (x3_4.length : Int) then (if (rd x3_4 (rd ((rd_T33 l0_1 x4_2).f3) x6_4)) = 0 then (if 0 ≤ x4_2 then (if x4_2 < (x3_4.length : Int) then ((sleuthref1_deeper.f k4 ((rd_T33 l0_1 x4_2).f0) ((rd_T33 l0_1 x4_2).f1) ((rd_T33 l0_1 x4_2).f2) ((rd_T33 l0_1 x4_2).f3) x6_4).bind fun t179 => (sleuthref1_DefMay.l1 k4 (x3_4.set ((rd ((rd_T33 l0_1 x4_2).f3) x6_4) : Int).toNat (wrap64 ((rd x3_4 x4_2) + t179))) x4_2 (wrap64 (x6_4 + 1)) a0_0 l0_1 ((rd_T33 l0_1 x4_2).f0) ((rd_T33 l0_1 x4_2).f1) ((rd_T33 l0_1 x4_2).f2) ((rd_T33 l0_1 x4_2).f3))) else (none)) else (none)) else (some false)) else (none)) else (none)) else (some false)) = some r := H
                    have A46 := Aside0.mk A460
                    clear A460
                    by_cases c47 : t176 = true
                    ·subst c47
                     have H1 : (if 0 ≤ (rd ((rd_T33 l0_1 x4_2).f3) x6_4) then (if (rd ((rd_T33 l0_1 x4_2).f3) x6_4) < (x3_4.length : Int) then (if (rd x3_4 (rd ((rd_T33 l0_1 x4_2).f3) x6_4)) = 0 then (if 0 ≤ x4_2 then (if x4_2 < (x3_4.length : Int) then ((sleuthref1_deeper.f k4 ((rd_T33 l0_1 x4_2).f0) ((rd_T33 l0_1 x4_2).f1) ((rd_T33 l0_1 x4_2).f2) ((rd_T33 l0_1 x4_2).f3) x6_4).bind fun t179 => (sleuthref1_DefMay.l1 k4 (x3_4.set ((rd ((rd_T33 l0_1 x4_2).f3) x6_4) : Int).toNat (wrap64 ((rd x3_4 x4_2) + t179))) x4_2 (wrap64 (x6_4 + 1)) a0_0 l0_1 ((rd_T33 l0_1 x4_2).f0) ((rd_T33 l0_1 x4_2).f1) ((rd_T33 l0_1 x4_2).f2) ((rd_T33 l0_1 x4_2).f3))) else (none)) else (none)) else (some false)) else (none)) else (none)) = some r := by rw [if_pos rfl] at H; exact H
                     clear H
                     have H := H1
                     clear H1
                     by_cases c48 : 0 ≤ (rd ((rd_T33 l0_1 x4_2).f3) x6_4)
                     ·rw [if_pos c48] at H
                      have c48b0 : decide (0 ≤ (rd ((rd_T33 l0_1 x4_2).f3) x6_4)) = true := decide_eq_true c48
                      clear c48
                      by_cases c49 : (rd ((rd_T33 l0_1 x4_2).f3) x6_4) < (x3_4.length : Int)
                      ·rw [if_pos c49] at H
                       have c49b0 : decide ((rd ((rd_T33 l0_1 x4_2).f3) x6_4) < (x3_4.length : Int)) = true := decide_eq_true c49
                       clear c49
                       by_cases c50 : (rd x3_4 (rd ((rd_T33 l0_1 x4_2).f3) x6_4)) = 0
                       ·rw [if_pos c50] at H
                        have c50b0 : ((rd x3_4 (rd ((rd_T33 l0_1 x4_2).f3) x6_4)) == 0) = true := beq_iff_eq.mpr c50
                        have c50b1 : ((rd x3_4 (rd ((rd_T33 l0_1 x4_2).f3) x6_4)) != 0) = false := bne_eq_false_iff_eq.mpr c50
                        clear c50
                        by_cases c51 : 0 ≤ x4_2
                        ·rw [if_pos c51] at H
                         have c51b0 : decide (0 ≤ x4_2) = true := decide_eq_true c51
                         clear c51
                         by_cases c52 : x4_2 < (x3_4.length : Int)
                         ·rw [if_pos c52] at H
                          have c52b0 : decide (x4_2 < (x3_4.length : Int)) = true := decide_eq_true c52
                          clear c52
                          replace H := Option.bind_eq_some_iff.mp H
                          obtain ⟨t179,A530,H⟩ := H
                          replace H : (sleuthref1_DefMay.l1 k4 (x3_4.set ((rd ((rd_T33 l0_1 x4_2).f3) x6_4) : Int).toNat (wrap64 ((rd x3_4 x4_2) + t179))) x4_2 (wrap64 (x6_4 + 1)) a0_0 l0_1 ((rd_T33 l0_1 x4_2).f0) ((rd_T33 l0_1 x4_2).f1) ((rd_T33 l0_1 x4_2).f2) ((rd_T33 l0_1 x4_2).f3)) = some r := H
                          have A53 := Aside0.mk A530
                          clear A530
                          obtain ⟨y180,hy180⟩ : ∃ y_ : List Int,y_ = (x3_4.set ((rd ((rd_T33 l0_1 x4_2).f3) x6_4) : Int).toNat (wrap64 ((rd x3_4 x4_2) + t179))) := ⟨_,rfl⟩
                          replace H : (sleuthref1_DefMay.l1 k4 y180 x4_2 (wrap64 (x6_4 + 1)) a0_0 l0_1 ((rd_T33 l0_1 x4_2).f0) ((rd_T33 l0_1 x4_2).f1) ((rd_T33 l0_1 x4_2).f2) ((rd_T33 l0_1 x4_2).f3)) = some r := by first | (rw [hy180]; with_reducible exact H) | (have H2_ := (Option.bind_some _ _).symm.trans H; rw [hy180]; with_reducible exact H2_) | (have H2_ := (Option.bind_some _ _).symm.trans H; with_reducible exact H2_) | with_reducible exact H | (rw [hy180]; exact H) | exact H
                          have Ny180 := Aside0.mk hy180
                          clear hy180
                          have H' := Aside0.mk H
                          clear H
                          have hnb55 := NB170_162.out
                          have hnc55 := NB162_170.out
                          have hcz56_0 : wr.cell? ⟨gb170,0,none⟩ = some (.int .i64 ((rd_T33 l0_1 x4_2).f0)) := (blk_cell BK170.out 0).trans rfl
                          have hcz56_1 : wr.cell? ⟨gb170,1,none⟩ = some (.int .i64 ((rd_T33 l0_1 x4_2).f1)) := (blk_cell BK170.out 1).trans rfl
                          have hcz56_2 : wr.cell? ⟨gb170,2,none⟩ = some (.int .i64 ((rd_T33 l0_1 x4_2).f2)) := (blk_cell BK170.out 2).trans rfl
                          have hcz56_3 : wr.cell? ⟨gb170,3,none⟩ = some (.slice A169_3 ((rd_T33 l0_1 x4_2).f3).length c169_3) := (blk_cell BK170.out 3).trans rfl
                          have hfz56_0 := blk_frozen BK170.out 0
                          have hfz56_1 := blk_frozen BK170.out 1
                          have hfz56_2 := blk_frozen BK170.out 2
                          have hfz56_3 := blk_frozen BK170.out 3
                          have p175 : 0 ≤ (x6_4 : Int) := of_decide_eq_true (by first | (with_reducible assumption) | assumption)
                          have q175 : x6_4 < (((rd_T33 l0_1 x4_2).f3).length : Int) := of_decide_eq_true (by first | (with_reducible assumption) | assumption)
                          obtain ⟨ad175,e175,hx175_0⟩ := Kd.at_int HR169_3.out x6_4 p175 q175
                          cases e175
                          replace hx175_0 := (HB.out.cell (World.block_lt_of_cell? w _ hx175_0)).trans hx175_0
                          replace p175 := eq_true p175
                          replace q175 := eq_true q175
                          try go_wp2_with (first | ((with_reducible refine gate_callee (f := 29) rfl ?_); refine goesL_ (some 82) rfl rfl Try.func29 (by kernel_rfl) rfl #[.int .i64 (rd ((rd_T33 l0_1 x4_2).f3) x6_4),.int .i64 0,.int .i64 (wrap64 (x4_2 - 1))] rfl (by (try simp only [List.map_toArray,List.map_cons,List.map_nil]); first | done | rfl | (simp only [List.length_drop,List.length_take]; rfl)) ?_; (with_reducible refine (sleuthref1_upTo.calls (rd ((rd_T33 l0_1 x4_2).f3) x6_4) 0 (wrap64 (x4_2 - 1)) true _ A46.out).mono ?_); rintro e w' ⟨rfl,⟨nd,rfl⟩⟩; refine ⟨_,rfl,?_⟩; (try (rw [drewN_self wr]; generalize hq_ : World.drewN wr _ = wr; have n0_ : Aside0 (Kd.R (Kd.int .i64) 3 wr w.heap.size (fun _ => True) (.slice (some ⟨go15,0,none⟩) x3_4.length co19) x3_4) := ⟨by rw [← hq_]; exact (by (with_reducible repeat (first | apply Kd.R_alloc | apply Kd.R_drewN | apply Kd.R_drew)); exact HO_3.out)⟩; have n1_ : Aside0 (wr.heap[gb162]? = some (.cells #[.int .i64 a0_0,.slice (some ad169) l0_1.length c0_1] 24 (0,0))) := ⟨by rw [← hq_]; exact (by (with_reducible repeat (first | refine blk_drewN ?_ _ | refine blk_drew ?_ | refine blk_alloc ?_ _)); exact BK162.out)⟩; have n2_ : Aside0 (wr.heap[gb170]? = some (.cells #[.int .i64 ((rd_T33 l0_1 x4_2).f0),.int .i64 ((rd_T33 l0_1 x4_2).f1),.int .i64 ((rd_T33 l0_1 x4_2).f2),.slice (some ad175) ((rd_T33 l0_1 x4_2).f3).length c169_3] 33 (0,0))) := ⟨by rw [← hq_]; exact (by (with_reducible repeat (first | refine blk_drewN ?_ _ | refine blk_drew ?_ | refine blk_alloc ?_ _)); exact BK170.out)⟩; have n3_ : Aside0 (Below w.heap.size w wr) := ⟨by rw [← hq_]; exact (by repeat (first | (with_reducible first | exact HB.out | apply below_alloc | apply pw_below_drewN | apply below_drew1 | refine below_set ?_ GE162.out | refine below_set ?_ GE170.out) | exact HB.out))⟩; clear HO_3 BK162 BK170 HB hq_; have HO_3 := n0_; have BK162 := n1_; have BK170 := n2_; have HB := n3_; clear n0_ n1_ n2_ n3_)); have p177 : 0 ≤ ((rd ((rd_T33 l0_1 x4_2).f3) x6_4) : Int) := of_decide_eq_true (by first | (with_reducible assumption) | assumption); have q177 : (rd ((rd_T33 l0_1 x4_2).f3) x6_4) < (x3_4.length : Int) := of_decide_eq_true (by first | (with_reducible assumption) | assumption); obtain ⟨ad177,e177,hx177_0⟩ := Kd.at_int (Kd.R_reads' HO_3.out).2.2 (rd ((rd_T33 l0_1 x4_2).f3) x6_4) p177 q177; obtain rfl : (⟨go15,0,none⟩ : Addr) = ad177 := (by injection e177); (first | simp only [add_plain] at hx177_0 | simp only [add_at] at hx177_0 | simp only [Addr.add,Nat.zero_add] at hx177_0 | skip); replace p177 := eq_true p177; replace q177 := eq_true q177))
                          have n0_ := Aside0.mk (Kd.R_drew HO_3.out)
                          have n1_ := Aside0.mk (blk_drew BK162.out)
                          have n2_ := Aside0.mk (blk_drew BK170.out)
                          have n3_ := Aside0.mk (below_drew1 HB.out)
                          clear HO_3
                          clear BK162
                          clear BK170
                          clear HB
                          have HO_3 := n0_
                          have BK162 := n1_
                          have BK170 := n2_
                          have HB := n3_
                          clear n0_ n1_ n2_ n3_
                          have p178 : 0 ≤ (x4_2 : Int) := of_decide_eq_true (by first | (with_reducible assumption) | assumption)
                          have q178 : x4_2 < (x3_4.length : Int) := of_decide_eq_true (by first | (with_reducible assumption) | assumption)
                          obtain ⟨ad178,e178,hx178_0⟩ := Kd.at_int (Kd.R_reads' HO_3.out).2.2 x4_2 p178 q178
                          obtain rfl : (⟨go15,0,none⟩ : Addr) = ad178 := (by injection e178)
                          (first | simp only [add_plain] at hx178_0 | simp only [add_at] at hx178_0 | simp only [Addr.add,Nat.zero_add] at hx178_0 | skip)
                          replace p178 := eq_true p178
                          replace q178 := eq_true q178
                          refine start_ (n := 12) (S := fun w' => w'.cell? ⟨gb170,0,none⟩ = some (.int .i64 ((rd_T33 l0_1 x4_2).f0)) ∧ w'.cell? ⟨gb170,1,none⟩ = some (.int .i64 ((rd_T33 l0_1 x4_2).f1)) ∧ w'.cell? ⟨gb170,2,none⟩ = some (.int .i64 ((rd_T33 l0_1 x4_2).f2)) ∧ w'.cell? ⟨gb170,3,none⟩ = some (.slice (some ad175) ((rd_T33 l0_1 x4_2).f3).length c169_3) ∧ w'.cell? ⟨go15,(x4_2).toNat,none⟩ = some (.int .i64 (rd x3_4 x4_2))) (ds := [11]) #[F,F,F,F,F,F,F,F,F,F,F,F] (by kernel_rfl) rfl rfl ⟨(blk_cell BK170.out 0).trans rfl,(blk_cell BK170.out 1).trans rfl,(blk_cell BK170.out 2).trans rfl,(blk_cell BK170.out 3).trans rfl,hx178_0⟩ (fun hHeld => ?_); refine with_tabW sleuthref1_DefMay.tab17 sleuthref1_DefMay.bits17 (fun HT_ HW_ => ?_)
                          generalize wr.drew = w57 at HO_3 BK162 BK170 HB hx178_0 hHeld ⊢
                          refine pure_ (i := 0) (N := some 91) (v := ?_) (a' := ?_) #[T,F,F,F,F,F,F,F,F,F,F,F] rfl rfl (any_of HT_.out (by kernel_rfl)) (fun _ _ _ h => h) (Or.inl ⟨by rfl,?_⟩) ?_ ?_
                          rotate_left
                          ·intro w'
                           go_simp
                           with_reducible rfl
                          rotate_left
                          ·simp only [Act.put,List.setIfInBounds_toArray,List.set_cons_zero,List.set_cons_succ,i64_w,i32_w]
                           rfl
                          refine pure_ (i := 1) (N := some 92) (v := ?_) (a' := ?_) #[T,T,F,F,F,F,F,F,F,F,F,F] rfl rfl (any_of HT_.out (by kernel_rfl)) (fun _ _ _ h => h) (Or.inl ⟨by rfl,?_⟩) ?_ ?_
                          rotate_left
                          ·intro w'
                           go_simp
                           with_reducible rfl
                          rotate_left
                          ·simp only [Act.put,List.setIfInBounds_toArray,List.set_cons_zero,List.set_cons_succ,i64_w,i32_w]
                           rfl
                          refine pure_ (i := 2) (N := some 93) (v := ?_) (a' := ?_) #[T,T,T,F,F,F,F,F,F,F,F,F] rfl rfl (any_of HT_.out (by kernel_rfl)) (fun _ _ _ h => h) (Or.inl ⟨by rfl,?_⟩) ?_ ?_
                          rotate_left
                          ·intro w'
                           go_simp
                           with_reducible rfl
                          rotate_left
                          ·simp only [Act.put,List.setIfInBounds_toArray,List.set_cons_zero,List.set_cons_succ,i64_w,i32_w]
                           rfl
                          refine pure_ (i := 3) (N := some 94) (v := ?_) (a' := ?_) #[T,T,T,T,F,F,F,F,F,F,F,F] rfl rfl (any_of HT_.out (by kernel_rfl)) (fun _ _ _ h => h) (Or.inl ⟨by rfl,?_⟩) ?_ ?_
                          rotate_left
                          ·intro w'
                           go_simp
                           with_reducible rfl
                          rotate_left
                          ·simp only [Act.put,List.setIfInBounds_toArray,List.set_cons_zero,List.set_cons_succ,i64_w,i32_w]
                           rfl
                          refine pure_ (i := 4) (N := some 95) (v := ?_) (a' := ?_) #[T,T,T,T,T,F,F,F,F,F,F,F] rfl rfl (any_of HT_.out (by kernel_rfl)) (fun _ _ _ h => h) (Or.inl ⟨by rfl,?_⟩) ?_ ?_
                          rotate_left
                          ·intro w'
                           go_simp
                           with_reducible rfl
                          rotate_left
                          ·simp only [Act.put,List.setIfInBounds_toArray,List.set_cons_zero,List.set_cons_succ,i64_w,i32_w]
                           rfl
                          refine pure_ (i := 7) (N := some 98) (v := ?_) (a' := ?_) #[T,T,T,T,T,F,F,T,F,F,F,F] rfl rfl (any_of HT_.out (by kernel_rfl)) (fun _ _ _ h => h) (Or.inl ⟨by rfl,?_⟩) ?_ ?_
                          rotate_left
                          ·intro w'
                           go_simp
                           with_reducible rfl
                          rotate_left
                          ·simp only [Act.put,List.setIfInBounds_toArray,List.set_cons_zero,List.set_cons_succ,i64_w,i32_w]
                           rfl
                          refine take_ (i := 5) (N := some 96) (v := ?_) (a' := ?_) #[T,T,T,T,T,T,F,T,F,F,F,F] rfl rfl (take_ofW HT_.out HW_.out (by kernel_rfl)) (fun _ _ _ h => h) (Or.inl ⟨by rfl,?_⟩) hHeld ?_ ?_
                          rotate_left
                          ·rintro w' ⟨s0,s1,s2,s3,s4⟩
                           go_simp
                           with_reducible rfl
                          rotate_left
                          ·simp only [Act.put,List.setIfInBounds_toArray,List.set_cons_zero,List.set_cons_succ,i64_w,i32_w]
                           rfl
                          refine take_ (i := 6) (N := some 97) (v := ?_) (a' := ?_) #[T,T,T,T,T,T,T,T,F,F,F,F] rfl rfl (take_ofW HT_.out HW_.out (by kernel_rfl)) (fun _ _ _ h => h) (Or.inl ⟨by rfl,?_⟩) hHeld ?_ ?_
                          rotate_left
                          ·rintro w' ⟨s0,s1,s2,s3,s4⟩
                           go_simp
                           with_reducible rfl
                          rotate_left
                          ·simp only [Act.put,List.setIfInBounds_toArray,List.set_cons_zero,List.set_cons_succ,i64_w,i32_w]
                           rfl
                          refine one_ (i := 8) (N := some 99) #[T,T,T,T,T,T,T,T,T,F,F,F] rfl rfl (one_of HT_.out (by kernel_rfl)) (by decide) (fun K hK => ?_)
                          refine goes_ Try.func31 (by kernel_rfl) rfl #[.agg #[.int .i64 ((rd_T33 l0_1 x4_2).f0),.int .i64 ((rd_T33 l0_1 x4_2).f1),.int .i64 ((rd_T33 l0_1 x4_2).f2),.slice (some ad175) ((rd_T33 l0_1 x4_2).f3).length c169_3],.int .i64 x6_4] (by rfl) rfl rfl (by (try simp only [List.map_toArray,List.map_cons,List.map_nil]); first | done | rfl | (simp only [List.length_drop,List.length_take]; rfl)) ?_
                          with_reducible refine (sleuthref1_deeper.calls k4 ((rd_T33 l0_1 x4_2).f0) ((rd_T33 l0_1 x4_2).f1) ((rd_T33 l0_1 x4_2).f2) _ _ ((rd_T33 l0_1 x4_2).f3) x6_4 t179 _ ?side1 ?side2 A53.out).mono ?_
                          (case side1 => repeat (first | exact (Kd.C_below HR169_3.out HB.out) | (with_reducible refine Kd.C_alloc ?_ _) | (with_reducible refine Kd.C_drewN ?_ _) | (with_reducible refine Kd.C_drew ?_)))
                          (case side2 => exact HC169_3.out)
                          rintro e w58 ⟨rfl,hb⟩
                          have HS4_ := (hb.cell (World.block_lt_of_cell? _ _ (hHeld.2.2.2.2))).trans (hHeld.2.2.2.2)
                          refine ⟨_,rfl,?_⟩
                          have n0_ := Aside0.mk (Kd.R_below (by (with_reducible repeat (first | apply Kd.R_alloc | apply Kd.R_drewN | apply Kd.R_drew)); exact HO_3.out) hb)
                          have n1_ := Aside0.mk (blk_below (g := gb162) (o := .cells #[.int .i64 a0_0,.slice (some ad169) l0_1.length c0_1] 24 (0,0)) (by (with_reducible repeat (first | refine blk_drewN ?_ _ | refine blk_drew ?_ | refine blk_alloc ?_ _)); exact BK162.out) hb)
                          have n2_ := Aside0.mk (blk_below (g := gb170) (o := .cells #[.int .i64 ((rd_T33 l0_1 x4_2).f0),.int .i64 ((rd_T33 l0_1 x4_2).f1),.int .i64 ((rd_T33 l0_1 x4_2).f2),.slice (some ad175) ((rd_T33 l0_1 x4_2).f3).length c169_3] 33 (0,0)) (by (with_reducible repeat (first | refine blk_drewN ?_ _ | refine blk_drew ?_ | refine blk_alloc ?_ _)); exact BK170.out) hb)
                          have n3_ := Aside0.mk (below_step (by repeat (first | (with_reducible first | exact HB.out | apply below_alloc | apply pw_below_drewN | apply below_drew1 | refine below_set ?_ GE162.out | refine below_set ?_ GE170.out) | exact HB.out)) hb)
                          clear HO_3
                          clear BK162
                          clear BK170
                          clear HB
                          have HO_3 := n0_
                          have BK162 := n1_
                          have BK170 := n2_
                          have HB := n3_
                          clear n0_ n1_ n2_ n3_
                          (try clear hb)
                          (try clear hb2)
                          (try clear hk)
                          (try clear hi)
                          have p54 : 0 ≤ ((rd ((rd_T33 l0_1 x4_2).f3) x6_4) : Int) := of_decide_eq_true (by first | (with_reducible assumption) | assumption)
                          have q54 : ((rd ((rd_T33 l0_1 x4_2).f3) x6_4) : Int) < ((x3_4.length : Int) : Int) := of_decide_eq_true (by first | (with_reducible assumption) | assumption)
                          obtain ⟨hx54_0,hf54_0⟩ := Kd.R_celln 0 HO_3.out ((rd ((rd_T33 l0_1 x4_2).f3) x6_4) : Int) p54 q54
                          replace p54 := eq_true p54
                          replace q54 := eq_true q54
                          have HP59 := Kd.R_putn HO_3.out ((rd ((rd_T33 l0_1 x4_2).f3) x6_4) : Int) (wrap64 ((rd x3_4 x4_2) + t179))
                          rw [← Ny180.out] at HP59
                          have HQ59 := Aside0.mk HP59
                          clear HP59
                          refine hK.out _ _ ⟨(blk_cell BK170.out 0).trans rfl,(blk_cell BK170.out 1).trans rfl,(blk_cell BK170.out 2).trans rfl,(blk_cell BK170.out 3).trans rfl,HS4_⟩ (fun hHeld => ?_)
                          clear hK K
                          refine norm_ (a' := ?_) ?_ ?_
                          rotate_left
                          ·show Act.put _ (some 99) _ = _
                           simp only [Act.put,List.setIfInBounds_toArray,List.set_cons_zero,List.set_cons_succ,i64_w,i32_w]
                           rfl
                          refine pure_ (i := 9) (N := some 100) (v := ?_) (a' := ?_) #[T,T,T,T,T,T,T,T,T,T,F,F] rfl rfl (any_of HT_.out (by kernel_rfl)) (fun _ _ _ h => h) (Or.inl ⟨by rfl,?_⟩) ?_ ?_
                          rotate_left
                          ·intro w'
                           go_simp
                           with_reducible rfl
                          rotate_left
                          ·simp only [Act.put,List.setIfInBounds_toArray,List.set_cons_zero,List.set_cons_succ,i64_w,i32_w]
                           rfl
                          refine pure_ (i := 10) (N := some 101) (v := ?_) (a' := ?_) #[T,T,T,T,T,T,T,T,T,T,T,F] rfl rfl (any_of HT_.out (by kernel_rfl)) (fun _ _ _ h => h) (Or.inl ⟨by rfl,?_⟩) ?_ ?_
                          rotate_left
                          ·intro w'
                           go_simp
                           with_reducible rfl
                          rotate_left
                          ·simp only [Act.put,List.setIfInBounds_toArray,List.set_cons_zero,List.set_cons_succ,i64_w,i32_w]
                           rfl
                          refine last_ (i := 11) (N := none) #[T,T,T,T,T,T,T,T,T,T,T,T] rfl rfl (one_of HT_.out (by kernel_rfl)) (by decide) (fun K hK => ?_)
                          refine skip_ (w1 := ?_) (by rfl) rfl ?_ ?_
                          rotate_left
                          ·go_simp
                           rfl
                          refine hK.out _ _ ?_
                          clear hK K
                          refine done_ (done_of HT_.out (by kernel_rfl)) ?_
                          try go_wp2
                          (try simp only [← hl3_4])
                          go_roundg k4
                          case measure => have := HJ1.out; have := HK2.out; have := HJ26.out; have := HK4.out; omega
                          case rel => exact ⟨(y180),(wrap64 (x6_4 + 1)),(by first | rfl | (simp; done) | (simp [*]; done)),H',⟨by have := HJ1.out; have := HK2.out; have := HJ26.out; have := HK4.out; omega⟩,⟨by (try simp only [hl3_2]); (try simp only [hl3_4]); (with_reducible repeat (first | apply Kd.R_alloc | apply Kd.R_drewN | apply Kd.R_drew)); exact HQ59.out⟩,⟨by (try simp only [hl3_2]); (try simp only [hl3_4]); (with_reducible repeat (first | refine blk_drewN ?_ _ | refine blk_drew ?_ | refine blk_alloc ?_ _)); refine blk_far ?_ (by have h_ := Kd.R_ne HO_3.out BK162.out (by decide); intro e_; exact h_ (by rw [e_]; rfl)) _; (with_reducible repeat (first | refine blk_drewN ?_ _ | refine blk_drew ?_ | refine blk_alloc ?_ _)); exact BK162.out⟩,⟨by (try simp only [hl3_2]); (try simp only [hl3_4]); (with_reducible repeat (first | refine blk_drewN ?_ _ | refine blk_drew ?_ | refine blk_alloc ?_ _)); refine blk_far ?_ (by have h_ := Kd.R_ne HO_3.out BK170.out (by decide); intro e_; exact h_ (by rw [e_]; rfl)) _; (with_reducible repeat (first | refine blk_drewN ?_ _ | refine blk_drew ?_ | refine blk_alloc ?_ _)); exact BK170.out⟩,⟨by repeat (first | (with_reducible first | exact HB.out | apply below_alloc | apply pw_below_drewN | apply below_drew1 | refine below_set ?_ GB15.out | refine below_set ?_ GE162.out | refine below_set ?_ GE170.out) | exact HB.out)⟩⟩
                         ·rw [if_neg c52] at H
                          exact absurd H (by simp)
                        ·rw [if_neg c51] at H
                         exact absurd H (by simp)
                       ·rw [if_neg c50] at H
                        have c50b0 : ((rd x3_4 (rd ((rd_T33 l0_1 x4_2).f3) x6_4)) == 0) = false := beq_eq_false_iff_ne.mpr c50
                        have c50b1 : ((rd x3_4 (rd ((rd_T33 l0_1 x4_2).f3) x6_4)) != 0) = true := bne_iff_ne.mpr c50
                        obtain rfl := Option.some.inj H
                        have hnb60 := NB170_162.out
                        have hnc60 := NB162_170.out
                        have hcz61_0 : wr.cell? ⟨gb170,0,none⟩ = some (.int .i64 ((rd_T33 l0_1 x4_2).f0)) := (blk_cell BK170.out 0).trans rfl
                        have hcz61_1 : wr.cell? ⟨gb170,1,none⟩ = some (.int .i64 ((rd_T33 l0_1 x4_2).f1)) := (blk_cell BK170.out 1).trans rfl
                        have hcz61_2 : wr.cell? ⟨gb170,2,none⟩ = some (.int .i64 ((rd_T33 l0_1 x4_2).f2)) := (blk_cell BK170.out 2).trans rfl
                        have hcz61_3 : wr.cell? ⟨gb170,3,none⟩ = some (.slice A169_3 ((rd_T33 l0_1 x4_2).f3).length c169_3) := (blk_cell BK170.out 3).trans rfl
                        have hfz61_0 := blk_frozen BK170.out 0
                        have hfz61_1 := blk_frozen BK170.out 1
                        have hfz61_2 := blk_frozen BK170.out 2
                        have hfz61_3 := blk_frozen BK170.out 3
                        have p175 : 0 ≤ (x6_4 : Int) := of_decide_eq_true (by first | (with_reducible assumption) | assumption)
                        have q175 : x6_4 < (((rd_T33 l0_1 x4_2).f3).length : Int) := of_decide_eq_true (by first | (with_reducible assumption) | assumption)
                        obtain ⟨ad175,e175,hx175_0⟩ := Kd.at_int HR169_3.out x6_4 p175 q175
                        cases e175
                        replace hx175_0 := (HB.out.cell (World.block_lt_of_cell? w _ hx175_0)).trans hx175_0
                        replace p175 := eq_true p175
                        replace q175 := eq_true q175
                        go_wp2_with (first | ((with_reducible refine gate_callee (f := 29) rfl ?_); refine goesL_ (some 82) rfl rfl Try.func29 (by kernel_rfl) rfl #[.int .i64 (rd ((rd_T33 l0_1 x4_2).f3) x6_4),.int .i64 0,.int .i64 (wrap64 (x4_2 - 1))] rfl (by (try simp only [List.map_toArray,List.map_cons,List.map_nil]); first | done | rfl | (simp only [List.length_drop,List.length_take]; rfl)) ?_; (with_reducible refine (sleuthref1_upTo.calls (rd ((rd_T33 l0_1 x4_2).f3) x6_4) 0 (wrap64 (x4_2 - 1)) true _ A46.out).mono ?_); rintro e w' ⟨rfl,⟨nd,rfl⟩⟩; refine ⟨_,rfl,?_⟩; have p177 : 0 ≤ ((rd ((rd_T33 l0_1 x4_2).f3) x6_4) : Int) := of_decide_eq_true (by first | (with_reducible assumption) | assumption); have q177 : (rd ((rd_T33 l0_1 x4_2).f3) x6_4) < (x3_4.length : Int) := of_decide_eq_true (by first | (with_reducible assumption) | assumption); obtain ⟨ad177,e177,hx177_0⟩ := Kd.at_int (Kd.R_reads' HO_3.out).2.2 (rd ((rd_T33 l0_1 x4_2).f3) x6_4) p177 q177; obtain rfl : (⟨go15,0,none⟩ : Addr) = ad177 := (by injection e177); (first | simp only [add_plain] at hx177_0 | simp only [add_at] at hx177_0 | simp only [Addr.add,Nat.zero_add] at hx177_0 | skip); replace p177 := eq_true p177; replace q177 := eq_true q177))
                        go_ret
                        exact ⟨by first | rfl | (simp [errW_none,errW_some] <;> rfl) | (simp only [← hji12]; first | rfl | (simp [errW_none,errW_some] <;> rfl)) | (simp [*,errW_none,errW_some] <;> rfl),by repeat (first | (with_reducible first | exact HB.out | apply below_alloc | apply pw_below_drewN | apply below_drew1 | refine below_set ?_ GE162.out | refine below_set ?_ GE170.out) | exact HB.out)⟩
                      ·rw [if_neg c49] at H
                       exact absurd H (by simp)
                     ·rw [if_neg c48] at H
                      exact absurd H (by simp)
                    ·replace c47 := Bool.eq_false_iff.mpr c47
                     subst c47
                     have H1 : (some false) = some r := by rw [if_neg (show ¬ (false = true) by decide)] at H; exact H
                     clear H
                     have H := H1
                     clear H1
                     obtain rfl := Option.some.inj H
                     have hnb62 := NB170_162.out
                     have hnc62 := NB162_170.out
                     have hcz63_0 : wr.cell? ⟨gb170,0,none⟩ = some (.int .i64 ((rd_T33 l0_1 x4_2).f0)) := (blk_cell BK170.out 0).trans rfl
                     have hcz63_1 : wr.cell? ⟨gb170,1,none⟩ = some (.int .i64 ((rd_T33 l0_1 x4_2).f1)) := (blk_cell BK170.out 1).trans rfl
                     have hcz63_2 : wr.cell? ⟨gb170,2,none⟩ = some (.int .i64 ((rd_T33 l0_1 x4_2).f2)) := (blk_cell BK170.out 2).trans rfl
                     have hcz63_3 : wr.cell? ⟨gb170,3,none⟩ = some (.slice A169_3 ((rd_T33 l0_1 x4_2).f3).length c169_3) := (blk_cell BK170.out 3).trans rfl
                     have hfz63_0 := blk_frozen BK170.out 0
                     have hfz63_1 := blk_frozen BK170.out 1
                     have hfz63_2 := blk_frozen BK170.out 2
                     have hfz63_3 := blk_frozen BK170.out 3
                     have p175 : 0 ≤ (x6_4 : Int) := of_decide_eq_true (by first | (with_reducible assumption) | assumption)
                     have q175 : x6_4 < (((rd_T33 l0_1 x4_2).f3).length : Int) := of_decide_eq_true (by first | (with_reducible assumption) | assumption)
                     obtain ⟨ad175,e175,hx175_0⟩ := Kd.at_int HR169_3.out x6_4 p175 q175
                     cases e175
                     replace hx175_0 := (HB.out.cell (World.block_lt_of_cell? w _ hx175_0)).trans hx175_0
                     replace p175 := eq_true p175
                     replace q175 := eq_true q175
                     go_wp2_with (first | ((with_reducible refine gate_callee (f := 29) rfl ?_); refine goesL_ (some 82) rfl rfl Try.func29 (by kernel_rfl) rfl #[.int .i64 (rd ((rd_T33 l0_1 x4_2).f3) x6_4),.int .i64 0,.int .i64 (wrap64 (x4_2 - 1))] rfl (by (try simp only [List.map_toArray,List.map_cons,List.map_nil]); first | done | rfl | (simp only [List.length_drop,List.length_take]; rfl)) ?_; (with_reducible refine (sleuthref1_upTo.calls (rd ((rd_T33 l0_1 x4_2).f3) x6_4) 0 (wrap64 (x4_2 - 1)) false _ A46.out).mono ?_); rintro e w' ⟨rfl,⟨nd,rfl⟩⟩; refine ⟨_,rfl,?_⟩))
                     go_ret
                     exact ⟨by first | rfl | (simp [errW_none,errW_some] <;> rfl) | (simp only [← hji12]; first | rfl | (simp [errW_none,errW_some] <;> rfl)) | (simp [*,errW_none,errW_some] <;> rfl),by repeat (first | (with_reducible first | exact HB.out | apply below_alloc | apply pw_below_drewN | apply below_drew1 | refine below_set ?_ GE162.out | refine below_set ?_ GE170.out) | exact HB.out)⟩
                   ·rw [if_neg c45] at H
                    exact absurd H (by simp)
                  ·rw [if_neg c44] at H
                   have c44b0 : decide (x6_4 < (((rd_T33 l0_1 x4_2).f3).length : Int)) = false := decide_eq_false c44
                   clear c44
                   have H' := Aside0.mk H
                   clear H
                   have hnb64 := NB170_162.out
                   have hnc64 := NB162_170.out
                   have hcz65_0 : wr.cell? ⟨gb170,0,none⟩ = some (.int .i64 ((rd_T33 l0_1 x4_2).f0)) := (blk_cell BK170.out 0).trans rfl
                   have hcz65_1 : wr.cell? ⟨gb170,1,none⟩ = some (.int .i64 ((rd_T33 l0_1 x4_2).f1)) := (blk_cell BK170.out 1).trans rfl
                   have hcz65_2 : wr.cell? ⟨gb170,2,none⟩ = some (.int .i64 ((rd_T33 l0_1 x4_2).f2)) := (blk_cell BK170.out 2).trans rfl
                   have hcz65_3 : wr.cell? ⟨gb170,3,none⟩ = some (.slice A169_3 ((rd_T33 l0_1 x4_2).f3).length c169_3) := (blk_cell BK170.out 3).trans rfl
                   have hfz65_0 := blk_frozen BK170.out 0
                   have hfz65_1 := blk_frozen BK170.out 1
                   have hfz65_2 := blk_frozen BK170.out 2
                   have hfz65_3 := blk_frozen BK170.out 3
                   go_wp2
                   (try simp only [← hl3_2,← hl3_4])
                   go_roundg k4
                   case measure => have := HJ1.out; have := HK2.out; have := HJ26.out; have := HK4.out; omega
                   case rel => exact ⟨(x3_4),(wrap64 (x4_2 - 1)),(by first | rfl | (simp; done) | (simp [*]; done)),H',⟨by have := HJ1.out; have := HK2.out; have := HJ26.out; have := HK4.out; omega⟩,⟨by (try simp only [hl3_2]); (try simp only [hl3_4]); (with_reducible repeat (first | apply Kd.R_alloc | apply Kd.R_drewN | apply Kd.R_drew)); exact HO_3.out⟩,⟨by (try simp only [hl3_2]); (try simp only [hl3_4]); (with_reducible repeat (first | refine blk_drewN ?_ _ | refine blk_drew ?_ | refine blk_alloc ?_ _)); exact BK162.out⟩,⟨by repeat (first | (with_reducible first | exact HB.out | apply below_alloc | apply pw_below_drewN | apply below_drew1 | refine below_set ?_ GE162.out | refine below_set ?_ GE170.out) | exact HB.out)⟩⟩
            ·rw [if_neg c26] at H
             exact absurd H (by simp)
           ·rw [if_neg c25] at H
            exact absurd H (by simp)
          ·rw [if_neg c24] at H
           have c24b0 : decide (0 ≤ x4_2) = false := decide_eq_false c24
           clear c24
           obtain rfl := Option.some.inj H
           go_wp2
           go_ret
           exact ⟨by first | rfl | (simp [errW_none,errW_some] <;> rfl) | (simp only [← hji12]; first | rfl | (simp [errW_none,errW_some] <;> rfl)) | (simp [*,errW_none,errW_some] <;> rfl),by repeat (first | (with_reducible first | exact HB.out | apply below_alloc | apply pw_below_drewN | apply below_drew1 | refine below_set ?_ GE162.out) | exact HB.out)⟩
       ·rw [if_neg c14] at H
        exact absurd H (by simp)
      ·rw [if_neg c13] at H
       exact absurd H (by simp)
     ·rw [if_neg c11] at H
      exact absurd H (by simp)
    ·rw [if_neg c10] at H
     exact absurd H (by simp)


end
end Go.Proofs.Ytkpblifelpokfaa.PAll
