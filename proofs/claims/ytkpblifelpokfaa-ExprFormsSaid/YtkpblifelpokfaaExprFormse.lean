/- ExprForms, its cases: adds() with one thing changed may not be. No condition but the case. -/
import Derived.Test.YtkpblifelpokfaaExprMask
namespace Go.Proofs.Ytkpblifelpokfaa.PAll
open Go.RowKit Go.Proofs.YtkpblifelpokfaaW.PrintWords Go.Proofs.YtkpblifelpokfaaW.PrintLast Go.Proofs.YtkpblifelpokfaaW.PrintMore
set_option linter.unusedVariables false
set_option linter.unusedSimpArgs false

theorem may5_19 : ∀ m : Nat, m < 1024 → mayB 2 [⟨0, (32767 + ((m : Int) + 1)), 0, []⟩, ⟨1, 3, 0, []⟩, ⟨1, 1, 0, []⟩, ⟨4, 0, 0, [1, 2]⟩, ⟨1, 0, 0, []⟩, ⟨1, 1, 0, []⟩, ⟨4, 0, 0, [4, 5]⟩, ⟨5, 7, 2, [0, 3, 6]⟩] = false := by decide +kernel
set_option maxHeartbeats 4000000 in
set_option maxRecDepth 100000 in
theorem form5_19 (a x : Int) (w : World) (h : (IntKind.u64.wrap a).tmod 24 = 19) : Calls Try.prog 4 #[.int .i64 a, .int .i64 x] w fun e w' => e = .returned (.bool true) ∧ Below w.heap.size w w' := by
  have q0 : ((IntKind.u64.wrap a).tmod 24 == 0) = false := by rw [h]; rfl
  have q1 : ((IntKind.u64.wrap a).tmod 24 == 1) = false := by rw [h]; rfl
  have q2 : ((IntKind.u64.wrap a).tmod 24 == 2) = false := by rw [h]; rfl
  have q3 : ((IntKind.u64.wrap a).tmod 24 == 3) = false := by rw [h]; rfl
  have q4 : ((IntKind.u64.wrap a).tmod 24 == 4) = false := by rw [h]; rfl
  have q5 : ((IntKind.u64.wrap a).tmod 24 == 5) = false := by rw [h]; rfl
  have q6 : ((IntKind.u64.wrap a).tmod 24 == 6) = false := by rw [h]; rfl
  have q7 : ((IntKind.u64.wrap a).tmod 24 == 7) = false := by rw [h]; rfl
  have q8 : ((IntKind.u64.wrap a).tmod 24 == 8) = false := by rw [h]; rfl
  have q9 : ((IntKind.u64.wrap a).tmod 24 == 9) = false := by rw [h]; rfl
  have q10 : ((IntKind.u64.wrap a).tmod 24 == 10) = false := by rw [h]; rfl
  have q11 : ((IntKind.u64.wrap a).tmod 24 == 11) = false := by rw [h]; rfl
  have q12 : ((IntKind.u64.wrap a).tmod 24 == 12) = false := by rw [h]; rfl
  have q13 : ((IntKind.u64.wrap a).tmod 24 == 13) = false := by rw [h]; rfl
  have q14 : ((IntKind.u64.wrap a).tmod 24 == 14) = false := by rw [h]; rfl
  have q15 : ((IntKind.u64.wrap a).tmod 24 == 15) = false := by rw [h]; rfl
  have q16 : ((IntKind.u64.wrap a).tmod 24 == 16) = false := by rw [h]; rfl
  have q17 : ((IntKind.u64.wrap a).tmod 24 == 17) = false := by rw [h]; rfl
  have q18 : ((IntKind.u64.wrap a).tmod 24 == 18) = false := by rw [h]; rfl
  have q19 : ((IntKind.u64.wrap a).tmod 24 == 19) = true := by rw [h]; rfl
  go_enter Try.func4, Try.ntmps4
  go_wp2_with fail
  refine (awake5_runs _).mono ?_
  rintro e w1 ⟨rfl, hb1⟩
  have HB1 := Aside0.mk hb1
  clear hb1
  go_wp2_with fail
  refine (adds_calls _).mono ?_
  rintro e w2 ⟨g, g1, g2, g3, rfl, hA, hb2⟩
  have HA := Aside0.mk hA
  have HB := Aside0.mk (below_step HB1.out hb2)
  have HW : Aside0 (w.heap.size ≤ g ∧ w.heap.size ≤ w2.heap.size) := ⟨by have := HB1.out.size; have := hA.l; have := hb2.size; omega⟩
  clear hA hb2 HB1
  have lg : g < w2.heap.size := HA.out.lt.1
  have ng : g ≠ w2.heap.size := by omega
  have ng1 : g ≠ w2.heap.size + 1 := by omega
  have c0 : w2.cell? ⟨g, 0, none⟩ = some (.int .i64 1) := (blk_cell HA.out.b 0).trans rfl
  have f0 := blk_frozen HA.out.b 0
  have c1 : w2.cell? ⟨g, 1, none⟩ = some (.int .i64 0) := (blk_cell HA.out.b 1).trans rfl
  have f1 := blk_frozen HA.out.b 1
  have c2 : w2.cell? ⟨g, 2, none⟩ = some (.int .i64 0) := (blk_cell HA.out.b 2).trans rfl
  have f2 := blk_frozen HA.out.b 2
  have c3 : w2.cell? ⟨g, 3, none⟩ = some (.slice none 0 0) := (blk_cell HA.out.b 3).trans rfl
  have f3 := blk_frozen HA.out.b 3
  go_wp2_with fail
  have e : ∀ (W : World) (o : Obj) (n : Nat), n = W.heap.size → (W.alloc o).heap[n]? = some o := fun W o n h => by rw [h]; exact blk_new W o
  obtain ⟨W, hW⟩ : ∃ W : World, W = (((((w2.setCell ⟨g, 0, none⟩ (.int .i64 0)).setCell ⟨g, 1, none⟩ (.int .i64 (wrap64 (32767 + (wrap64 (1 + Go.bits .and .i64 x 1023)))))).setCell ⟨g, 2, none⟩ (.int .i64 0)).setCell ⟨g, 3, none⟩ (.slice none 0 0)).alloc (.cells #[.int .i64 2, .slice (some ⟨g, 0, none⟩) 8 8] 24)) := ⟨_, rfl⟩
  have YA := Aside0.mk (show W.heap[w2.heap.size]? = some (.cells #[.int .i64 2, .slice (some ⟨g, 0, none⟩) 8 8] 24 (0, 0)) from by rw [hW]; exact (e _ _ _ (by simp)))
  have GB : W.heap[g]? = some (.cells (((((addsCells g1 g2 g3).setIfInBounds 0 (.int .i64 0)).setIfInBounds 1 (.int .i64 (wrap64 (32767 + (wrap64 (1 + Go.bits .and .i64 x 1023)))))).setIfInBounds 2 (.int .i64 0)).setIfInBounds 3 (.slice none 0 0)) 33 (0, 0)) := by rw [hW]; exact (blk_alloc (blk_set (blk_set (blk_set (blk_set HA.out.b 0 _) 1 _) 2 _) 3 _) _)
  have K1 : W.heap[g1]? = some (.cells #[.int .i64 1, .int .i64 2] 3 (0, 0)) := by rw [hW]; exact (blk_alloc (blk_far (blk_far (blk_far (blk_far HA.out.b1 HA.out.ne.1 _) HA.out.ne.1 _) HA.out.ne.1 _) HA.out.ne.1 _) _)
  have K2 : W.heap[g2]? = some (.cells #[.int .i64 4, .int .i64 5] 3 (0, 0)) := by rw [hW]; exact (blk_alloc (blk_far (blk_far (blk_far (blk_far HA.out.b2 HA.out.ne.2.1 _) HA.out.ne.2.1 _) HA.out.ne.2.1 _) HA.out.ne.2.1 _) _)
  have K3 : W.heap[g3]? = some (.cells #[.int .i64 0, .int .i64 3, .int .i64 6] 3 (0, 0)) := by rw [hW]; exact (blk_alloc (blk_far (blk_far (blk_far (blk_far HA.out.b3 HA.out.ne.2.2 _) HA.out.ne.2.2 _) HA.out.ne.2.2 _) HA.out.ne.2.2 _) _)
  have HBW : Aside0 (Below w.heap.size w W) := ⟨by rw [hW]; exact (below_alloc (below_set (below_set (below_set (below_set HB.out HW.out.1) HW.out.1) HW.out.1) HW.out.1) _)⟩
  rw [← hW]
  clear hW
  obtain ⟨m, hm, hd⟩ : ∃ m : Nat, m < 1024 ∧ wrap64 (1 + Go.bits .and .i64 x 1023) = (m : Int) + 1 := by
    refine ⟨(x % 1024).toNat, by omega, ?_⟩
    rw [and1023, IntWalk.wrap64_in _ (by omega)]
    omega
  have e_ : wrap64 (32767 + (wrap64 (1 + Go.bits .and .i64 x 1023))) = (32767 + ((m : Int) + 1)) := by rw [hd, IntWalk.wrap64_in _ (by omega)]
  (try rw [e_] at YA)
  (try rw [e_] at GB)
  have HC := Aside0.mk (C_lit [⟨⟨0, (32767 + ((m : Int) + 1)), 0, []⟩, none, 0⟩, ⟨⟨1, 3, 0, []⟩, none, 0⟩, ⟨⟨1, 1, 0, []⟩, none, 0⟩, ⟨⟨4, 0, 0, [1, 2]⟩, some ⟨g1, 0, none⟩, 2⟩, ⟨⟨1, 0, 0, []⟩, none, 0⟩, ⟨⟨1, 1, 0, []⟩, none, 0⟩, ⟨⟨4, 0, 0, [4, 5]⟩, some ⟨g2, 0, none⟩, 2⟩, ⟨⟨5, 7, 2, [0, 3, 6]⟩, some ⟨g3, 0, none⟩, 3⟩] GB rfl (by simp) (all_cons (none_ok _ _ _ rfl) (all_cons (none_ok _ _ _ rfl) (all_cons (none_ok _ _ _ rfl) (all_cons (two_ok _ rfl K1) (all_cons (none_ok _ _ _ rfl) (all_cons (none_ok _ _ _ rfl) (all_cons (two_ok _ rfl K2) (all_cons (three_ok _ rfl K3) all_nil)))))))) 8 (by simp))
  clear GB K1 K2 K3 e HA HB HW lg ng ng1 c0 f0 c1 f1 c2 f2 c3 f3
  generalize w2.heap.size = X at *
  go_wp2_with fail
  refine (adds_calls _).mono ?_
  rintro e w6 ⟨h_, h1, h2, h3, rfl, hD, hb6⟩
  have HD := Aside0.mk (adds_C hD)
  have HT := Aside0.mk hb6
  have HBX := Aside0.mk (below_step HBW.out hb6)
  clear hD hb6 HBW
  go_wp2_with fail
  refine (expr_May.calls 2 _ _ addsL true _ (HD.out) (by decide) (by decide +kernel)).mono ?_
  rintro e w7 ⟨rfl, hb⟩
  have HBX1 := Aside0.mk (below_step HBX.out hb)
  have HT1 := Aside0.mk (below_step HT.out hb)
  clear HBX HT hb
  have y0 : w7.cell? ⟨X, 0, none⟩ = some (.int .i64 2) := (blk_cell (blk_below YA.out HT1.out) 0).trans rfl
  have y1 : w7.cell? ⟨X, 1, none⟩ = some (.slice (some ⟨g, 0, none⟩) 8 8) := (blk_cell (blk_below YA.out HT1.out) 1).trans rfl
  go_wp2_with fail
  refine (expr_May.calls 2 _ _ [⟨0, (32767 + ((m : Int) + 1)), 0, []⟩, ⟨1, 3, 0, []⟩, ⟨1, 1, 0, []⟩, ⟨4, 0, 0, [1, 2]⟩, ⟨1, 0, 0, []⟩, ⟨1, 1, 0, []⟩, ⟨4, 0, 0, [4, 5]⟩, ⟨5, 7, 2, [0, 3, 6]⟩] false _ (Kd.C_below HC.out HT1.out) (by simp) (congrArg some (may5_19 m hm))).mono ?_
  rintro e w8 ⟨rfl, hb⟩
  have HBX := Aside0.mk (below_step HBX1.out hb)
  clear hb HBX1 HT1 y0 y1 YA HC
  go_wp2_with fail
  refine (num_calls 0 _).mono ?_
  rintro e w9 ⟨rfl, rfl⟩
  go_wp2
  go_ret
  exact ⟨rfl, HBX.out⟩
theorem may5_20 : ∀ m : Nat, m < 1024 → mayB 2 [⟨7, ((m : Int) + 1), 0, []⟩, ⟨1, 3, 0, []⟩, ⟨1, 1, 0, []⟩, ⟨4, 0, 0, [1, 2]⟩, ⟨1, 0, 0, []⟩, ⟨1, 1, 0, []⟩, ⟨4, 0, 0, [4, 5]⟩, ⟨5, 7, 2, [0, 3, 6]⟩] = false := by decide +kernel
set_option maxHeartbeats 4000000 in
set_option maxRecDepth 100000 in
theorem form5_20 (a x : Int) (w : World) (h : (IntKind.u64.wrap a).tmod 24 = 20) : Calls Try.prog 4 #[.int .i64 a, .int .i64 x] w fun e w' => e = .returned (.bool true) ∧ Below w.heap.size w w' := by
  have q0 : ((IntKind.u64.wrap a).tmod 24 == 0) = false := by rw [h]; rfl
  have q1 : ((IntKind.u64.wrap a).tmod 24 == 1) = false := by rw [h]; rfl
  have q2 : ((IntKind.u64.wrap a).tmod 24 == 2) = false := by rw [h]; rfl
  have q3 : ((IntKind.u64.wrap a).tmod 24 == 3) = false := by rw [h]; rfl
  have q4 : ((IntKind.u64.wrap a).tmod 24 == 4) = false := by rw [h]; rfl
  have q5 : ((IntKind.u64.wrap a).tmod 24 == 5) = false := by rw [h]; rfl
  have q6 : ((IntKind.u64.wrap a).tmod 24 == 6) = false := by rw [h]; rfl
  have q7 : ((IntKind.u64.wrap a).tmod 24 == 7) = false := by rw [h]; rfl
  have q8 : ((IntKind.u64.wrap a).tmod 24 == 8) = false := by rw [h]; rfl
  have q9 : ((IntKind.u64.wrap a).tmod 24 == 9) = false := by rw [h]; rfl
  have q10 : ((IntKind.u64.wrap a).tmod 24 == 10) = false := by rw [h]; rfl
  have q11 : ((IntKind.u64.wrap a).tmod 24 == 11) = false := by rw [h]; rfl
  have q12 : ((IntKind.u64.wrap a).tmod 24 == 12) = false := by rw [h]; rfl
  have q13 : ((IntKind.u64.wrap a).tmod 24 == 13) = false := by rw [h]; rfl
  have q14 : ((IntKind.u64.wrap a).tmod 24 == 14) = false := by rw [h]; rfl
  have q15 : ((IntKind.u64.wrap a).tmod 24 == 15) = false := by rw [h]; rfl
  have q16 : ((IntKind.u64.wrap a).tmod 24 == 16) = false := by rw [h]; rfl
  have q17 : ((IntKind.u64.wrap a).tmod 24 == 17) = false := by rw [h]; rfl
  have q18 : ((IntKind.u64.wrap a).tmod 24 == 18) = false := by rw [h]; rfl
  have q19 : ((IntKind.u64.wrap a).tmod 24 == 19) = false := by rw [h]; rfl
  have q20 : ((IntKind.u64.wrap a).tmod 24 == 20) = true := by rw [h]; rfl
  go_enter Try.func4, Try.ntmps4
  go_wp2_with fail
  refine (awake5_runs _).mono ?_
  rintro e w1 ⟨rfl, hb1⟩
  have HB1 := Aside0.mk hb1
  clear hb1
  go_wp2_with fail
  refine (adds_calls _).mono ?_
  rintro e w2 ⟨g, g1, g2, g3, rfl, hA, hb2⟩
  have HA := Aside0.mk hA
  have HB := Aside0.mk (below_step HB1.out hb2)
  have HW : Aside0 (w.heap.size ≤ g ∧ w.heap.size ≤ w2.heap.size) := ⟨by have := HB1.out.size; have := hA.l; have := hb2.size; omega⟩
  clear hA hb2 HB1
  have lg : g < w2.heap.size := HA.out.lt.1
  have ng : g ≠ w2.heap.size := by omega
  have ng1 : g ≠ w2.heap.size + 1 := by omega
  have c0 : w2.cell? ⟨g, 0, none⟩ = some (.int .i64 1) := (blk_cell HA.out.b 0).trans rfl
  have f0 := blk_frozen HA.out.b 0
  have c1 : w2.cell? ⟨g, 1, none⟩ = some (.int .i64 0) := (blk_cell HA.out.b 1).trans rfl
  have f1 := blk_frozen HA.out.b 1
  have c2 : w2.cell? ⟨g, 2, none⟩ = some (.int .i64 0) := (blk_cell HA.out.b 2).trans rfl
  have f2 := blk_frozen HA.out.b 2
  have c3 : w2.cell? ⟨g, 3, none⟩ = some (.slice none 0 0) := (blk_cell HA.out.b 3).trans rfl
  have f3 := blk_frozen HA.out.b 3
  go_wp2_with fail
  have e : ∀ (W : World) (o : Obj) (n : Nat), n = W.heap.size → (W.alloc o).heap[n]? = some o := fun W o n h => by rw [h]; exact blk_new W o
  obtain ⟨W, hW⟩ : ∃ W : World, W = (((((w2.setCell ⟨g, 0, none⟩ (.int .i64 7)).setCell ⟨g, 1, none⟩ (.int .i64 (wrap64 (1 + Go.bits .and .i64 x 1023)))).setCell ⟨g, 2, none⟩ (.int .i64 0)).setCell ⟨g, 3, none⟩ (.slice none 0 0)).alloc (.cells #[.int .i64 2, .slice (some ⟨g, 0, none⟩) 8 8] 24)) := ⟨_, rfl⟩
  have YA := Aside0.mk (show W.heap[w2.heap.size]? = some (.cells #[.int .i64 2, .slice (some ⟨g, 0, none⟩) 8 8] 24 (0, 0)) from by rw [hW]; exact (e _ _ _ (by simp)))
  have GB : W.heap[g]? = some (.cells (((((addsCells g1 g2 g3).setIfInBounds 0 (.int .i64 7)).setIfInBounds 1 (.int .i64 (wrap64 (1 + Go.bits .and .i64 x 1023)))).setIfInBounds 2 (.int .i64 0)).setIfInBounds 3 (.slice none 0 0)) 33 (0, 0)) := by rw [hW]; exact (blk_alloc (blk_set (blk_set (blk_set (blk_set HA.out.b 0 _) 1 _) 2 _) 3 _) _)
  have K1 : W.heap[g1]? = some (.cells #[.int .i64 1, .int .i64 2] 3 (0, 0)) := by rw [hW]; exact (blk_alloc (blk_far (blk_far (blk_far (blk_far HA.out.b1 HA.out.ne.1 _) HA.out.ne.1 _) HA.out.ne.1 _) HA.out.ne.1 _) _)
  have K2 : W.heap[g2]? = some (.cells #[.int .i64 4, .int .i64 5] 3 (0, 0)) := by rw [hW]; exact (blk_alloc (blk_far (blk_far (blk_far (blk_far HA.out.b2 HA.out.ne.2.1 _) HA.out.ne.2.1 _) HA.out.ne.2.1 _) HA.out.ne.2.1 _) _)
  have K3 : W.heap[g3]? = some (.cells #[.int .i64 0, .int .i64 3, .int .i64 6] 3 (0, 0)) := by rw [hW]; exact (blk_alloc (blk_far (blk_far (blk_far (blk_far HA.out.b3 HA.out.ne.2.2 _) HA.out.ne.2.2 _) HA.out.ne.2.2 _) HA.out.ne.2.2 _) _)
  have HBW : Aside0 (Below w.heap.size w W) := ⟨by rw [hW]; exact (below_alloc (below_set (below_set (below_set (below_set HB.out HW.out.1) HW.out.1) HW.out.1) HW.out.1) _)⟩
  rw [← hW]
  clear hW
  obtain ⟨m, hm, hd⟩ : ∃ m : Nat, m < 1024 ∧ wrap64 (1 + Go.bits .and .i64 x 1023) = (m : Int) + 1 := by
    refine ⟨(x % 1024).toNat, by omega, ?_⟩
    rw [and1023, IntWalk.wrap64_in _ (by omega)]
    omega
  (try rw [hd] at YA)
  (try rw [hd] at GB)
  have HC := Aside0.mk (C_lit [⟨⟨7, ((m : Int) + 1), 0, []⟩, none, 0⟩, ⟨⟨1, 3, 0, []⟩, none, 0⟩, ⟨⟨1, 1, 0, []⟩, none, 0⟩, ⟨⟨4, 0, 0, [1, 2]⟩, some ⟨g1, 0, none⟩, 2⟩, ⟨⟨1, 0, 0, []⟩, none, 0⟩, ⟨⟨1, 1, 0, []⟩, none, 0⟩, ⟨⟨4, 0, 0, [4, 5]⟩, some ⟨g2, 0, none⟩, 2⟩, ⟨⟨5, 7, 2, [0, 3, 6]⟩, some ⟨g3, 0, none⟩, 3⟩] GB rfl (by simp) (all_cons (none_ok _ _ _ rfl) (all_cons (none_ok _ _ _ rfl) (all_cons (none_ok _ _ _ rfl) (all_cons (two_ok _ rfl K1) (all_cons (none_ok _ _ _ rfl) (all_cons (none_ok _ _ _ rfl) (all_cons (two_ok _ rfl K2) (all_cons (three_ok _ rfl K3) all_nil)))))))) 8 (by simp))
  clear GB K1 K2 K3 e HA HB HW lg ng ng1 c0 f0 c1 f1 c2 f2 c3 f3
  generalize w2.heap.size = X at *
  go_wp2_with fail
  refine (adds_calls _).mono ?_
  rintro e w6 ⟨h_, h1, h2, h3, rfl, hD, hb6⟩
  have HD := Aside0.mk (adds_C hD)
  have HT := Aside0.mk hb6
  have HBX := Aside0.mk (below_step HBW.out hb6)
  clear hD hb6 HBW
  go_wp2_with fail
  refine (expr_May.calls 2 _ _ addsL true _ (HD.out) (by decide) (by decide +kernel)).mono ?_
  rintro e w7 ⟨rfl, hb⟩
  have HBX1 := Aside0.mk (below_step HBX.out hb)
  have HT1 := Aside0.mk (below_step HT.out hb)
  clear HBX HT hb
  have y0 : w7.cell? ⟨X, 0, none⟩ = some (.int .i64 2) := (blk_cell (blk_below YA.out HT1.out) 0).trans rfl
  have y1 : w7.cell? ⟨X, 1, none⟩ = some (.slice (some ⟨g, 0, none⟩) 8 8) := (blk_cell (blk_below YA.out HT1.out) 1).trans rfl
  go_wp2_with fail
  refine (expr_May.calls 2 _ _ [⟨7, ((m : Int) + 1), 0, []⟩, ⟨1, 3, 0, []⟩, ⟨1, 1, 0, []⟩, ⟨4, 0, 0, [1, 2]⟩, ⟨1, 0, 0, []⟩, ⟨1, 1, 0, []⟩, ⟨4, 0, 0, [4, 5]⟩, ⟨5, 7, 2, [0, 3, 6]⟩] false _ (Kd.C_below HC.out HT1.out) (by simp) (congrArg some (may5_20 m hm))).mono ?_
  rintro e w8 ⟨rfl, hb⟩
  have HBX := Aside0.mk (below_step HBX1.out hb)
  clear hb HBX1 HT1 y0 y1 YA HC
  go_wp2_with fail
  refine (num_calls 0 _).mono ?_
  rintro e w9 ⟨rfl, rfl⟩
  go_wp2
  go_ret
  exact ⟨rfl, HBX.out⟩
theorem may5_21 : ∀ m : Nat, m < 1024 → mayB 2 [⟨3, (99 + ((m : Int) + 1)), 0, []⟩, ⟨1, 3, 0, []⟩, ⟨1, 1, 0, []⟩, ⟨4, 0, 0, [1, 2]⟩, ⟨1, 0, 0, []⟩, ⟨1, 1, 0, []⟩, ⟨4, 0, 0, [4, 5]⟩, ⟨5, 7, 2, [0, 3, 6]⟩] = false := by decide +kernel
set_option maxHeartbeats 4000000 in
set_option maxRecDepth 100000 in
theorem form5_21 (a x : Int) (w : World) (h : (IntKind.u64.wrap a).tmod 24 = 21) : Calls Try.prog 4 #[.int .i64 a, .int .i64 x] w fun e w' => e = .returned (.bool true) ∧ Below w.heap.size w w' := by
  have q0 : ((IntKind.u64.wrap a).tmod 24 == 0) = false := by rw [h]; rfl
  have q1 : ((IntKind.u64.wrap a).tmod 24 == 1) = false := by rw [h]; rfl
  have q2 : ((IntKind.u64.wrap a).tmod 24 == 2) = false := by rw [h]; rfl
  have q3 : ((IntKind.u64.wrap a).tmod 24 == 3) = false := by rw [h]; rfl
  have q4 : ((IntKind.u64.wrap a).tmod 24 == 4) = false := by rw [h]; rfl
  have q5 : ((IntKind.u64.wrap a).tmod 24 == 5) = false := by rw [h]; rfl
  have q6 : ((IntKind.u64.wrap a).tmod 24 == 6) = false := by rw [h]; rfl
  have q7 : ((IntKind.u64.wrap a).tmod 24 == 7) = false := by rw [h]; rfl
  have q8 : ((IntKind.u64.wrap a).tmod 24 == 8) = false := by rw [h]; rfl
  have q9 : ((IntKind.u64.wrap a).tmod 24 == 9) = false := by rw [h]; rfl
  have q10 : ((IntKind.u64.wrap a).tmod 24 == 10) = false := by rw [h]; rfl
  have q11 : ((IntKind.u64.wrap a).tmod 24 == 11) = false := by rw [h]; rfl
  have q12 : ((IntKind.u64.wrap a).tmod 24 == 12) = false := by rw [h]; rfl
  have q13 : ((IntKind.u64.wrap a).tmod 24 == 13) = false := by rw [h]; rfl
  have q14 : ((IntKind.u64.wrap a).tmod 24 == 14) = false := by rw [h]; rfl
  have q15 : ((IntKind.u64.wrap a).tmod 24 == 15) = false := by rw [h]; rfl
  have q16 : ((IntKind.u64.wrap a).tmod 24 == 16) = false := by rw [h]; rfl
  have q17 : ((IntKind.u64.wrap a).tmod 24 == 17) = false := by rw [h]; rfl
  have q18 : ((IntKind.u64.wrap a).tmod 24 == 18) = false := by rw [h]; rfl
  have q19 : ((IntKind.u64.wrap a).tmod 24 == 19) = false := by rw [h]; rfl
  have q20 : ((IntKind.u64.wrap a).tmod 24 == 20) = false := by rw [h]; rfl
  have q21 : ((IntKind.u64.wrap a).tmod 24 == 21) = true := by rw [h]; rfl
  go_enter Try.func4, Try.ntmps4
  go_wp2_with fail
  refine (awake5_runs _).mono ?_
  rintro e w1 ⟨rfl, hb1⟩
  have HB1 := Aside0.mk hb1
  clear hb1
  go_wp2_with fail
  refine (adds_calls _).mono ?_
  rintro e w2 ⟨g, g1, g2, g3, rfl, hA, hb2⟩
  have HA := Aside0.mk hA
  have HB := Aside0.mk (below_step HB1.out hb2)
  have HW : Aside0 (w.heap.size ≤ g ∧ w.heap.size ≤ w2.heap.size) := ⟨by have := HB1.out.size; have := hA.l; have := hb2.size; omega⟩
  clear hA hb2 HB1
  have lg : g < w2.heap.size := HA.out.lt.1
  have ng : g ≠ w2.heap.size := by omega
  have ng1 : g ≠ w2.heap.size + 1 := by omega
  have c0 : w2.cell? ⟨g, 0, none⟩ = some (.int .i64 1) := (blk_cell HA.out.b 0).trans rfl
  have f0 := blk_frozen HA.out.b 0
  have c1 : w2.cell? ⟨g, 1, none⟩ = some (.int .i64 0) := (blk_cell HA.out.b 1).trans rfl
  have f1 := blk_frozen HA.out.b 1
  have c2 : w2.cell? ⟨g, 2, none⟩ = some (.int .i64 0) := (blk_cell HA.out.b 2).trans rfl
  have f2 := blk_frozen HA.out.b 2
  have c3 : w2.cell? ⟨g, 3, none⟩ = some (.slice none 0 0) := (blk_cell HA.out.b 3).trans rfl
  have f3 := blk_frozen HA.out.b 3
  go_wp2_with fail
  have e : ∀ (W : World) (o : Obj) (n : Nat), n = W.heap.size → (W.alloc o).heap[n]? = some o := fun W o n h => by rw [h]; exact blk_new W o
  obtain ⟨W, hW⟩ : ∃ W : World, W = (((((w2.setCell ⟨g, 0, none⟩ (.int .i64 3)).setCell ⟨g, 1, none⟩ (.int .i64 (wrap64 (99 + (wrap64 (1 + Go.bits .and .i64 x 1023)))))).setCell ⟨g, 2, none⟩ (.int .i64 0)).setCell ⟨g, 3, none⟩ (.slice none 0 0)).alloc (.cells #[.int .i64 2, .slice (some ⟨g, 0, none⟩) 8 8] 24)) := ⟨_, rfl⟩
  have YA := Aside0.mk (show W.heap[w2.heap.size]? = some (.cells #[.int .i64 2, .slice (some ⟨g, 0, none⟩) 8 8] 24 (0, 0)) from by rw [hW]; exact (e _ _ _ (by simp)))
  have GB : W.heap[g]? = some (.cells (((((addsCells g1 g2 g3).setIfInBounds 0 (.int .i64 3)).setIfInBounds 1 (.int .i64 (wrap64 (99 + (wrap64 (1 + Go.bits .and .i64 x 1023)))))).setIfInBounds 2 (.int .i64 0)).setIfInBounds 3 (.slice none 0 0)) 33 (0, 0)) := by rw [hW]; exact (blk_alloc (blk_set (blk_set (blk_set (blk_set HA.out.b 0 _) 1 _) 2 _) 3 _) _)
  have K1 : W.heap[g1]? = some (.cells #[.int .i64 1, .int .i64 2] 3 (0, 0)) := by rw [hW]; exact (blk_alloc (blk_far (blk_far (blk_far (blk_far HA.out.b1 HA.out.ne.1 _) HA.out.ne.1 _) HA.out.ne.1 _) HA.out.ne.1 _) _)
  have K2 : W.heap[g2]? = some (.cells #[.int .i64 4, .int .i64 5] 3 (0, 0)) := by rw [hW]; exact (blk_alloc (blk_far (blk_far (blk_far (blk_far HA.out.b2 HA.out.ne.2.1 _) HA.out.ne.2.1 _) HA.out.ne.2.1 _) HA.out.ne.2.1 _) _)
  have K3 : W.heap[g3]? = some (.cells #[.int .i64 0, .int .i64 3, .int .i64 6] 3 (0, 0)) := by rw [hW]; exact (blk_alloc (blk_far (blk_far (blk_far (blk_far HA.out.b3 HA.out.ne.2.2 _) HA.out.ne.2.2 _) HA.out.ne.2.2 _) HA.out.ne.2.2 _) _)
  have HBW : Aside0 (Below w.heap.size w W) := ⟨by rw [hW]; exact (below_alloc (below_set (below_set (below_set (below_set HB.out HW.out.1) HW.out.1) HW.out.1) HW.out.1) _)⟩
  rw [← hW]
  clear hW
  obtain ⟨m, hm, hd⟩ : ∃ m : Nat, m < 1024 ∧ wrap64 (1 + Go.bits .and .i64 x 1023) = (m : Int) + 1 := by
    refine ⟨(x % 1024).toNat, by omega, ?_⟩
    rw [and1023, IntWalk.wrap64_in _ (by omega)]
    omega
  have e_ : wrap64 (99 + (wrap64 (1 + Go.bits .and .i64 x 1023))) = (99 + ((m : Int) + 1)) := by rw [hd, IntWalk.wrap64_in _ (by omega)]
  (try rw [e_] at YA)
  (try rw [e_] at GB)
  have HC := Aside0.mk (C_lit [⟨⟨3, (99 + ((m : Int) + 1)), 0, []⟩, none, 0⟩, ⟨⟨1, 3, 0, []⟩, none, 0⟩, ⟨⟨1, 1, 0, []⟩, none, 0⟩, ⟨⟨4, 0, 0, [1, 2]⟩, some ⟨g1, 0, none⟩, 2⟩, ⟨⟨1, 0, 0, []⟩, none, 0⟩, ⟨⟨1, 1, 0, []⟩, none, 0⟩, ⟨⟨4, 0, 0, [4, 5]⟩, some ⟨g2, 0, none⟩, 2⟩, ⟨⟨5, 7, 2, [0, 3, 6]⟩, some ⟨g3, 0, none⟩, 3⟩] GB rfl (by simp) (all_cons (none_ok _ _ _ rfl) (all_cons (none_ok _ _ _ rfl) (all_cons (none_ok _ _ _ rfl) (all_cons (two_ok _ rfl K1) (all_cons (none_ok _ _ _ rfl) (all_cons (none_ok _ _ _ rfl) (all_cons (two_ok _ rfl K2) (all_cons (three_ok _ rfl K3) all_nil)))))))) 8 (by simp))
  clear GB K1 K2 K3 e HA HB HW lg ng ng1 c0 f0 c1 f1 c2 f2 c3 f3
  generalize w2.heap.size = X at *
  go_wp2_with fail
  refine (adds_calls _).mono ?_
  rintro e w6 ⟨h_, h1, h2, h3, rfl, hD, hb6⟩
  have HD := Aside0.mk (adds_C hD)
  have HT := Aside0.mk hb6
  have HBX := Aside0.mk (below_step HBW.out hb6)
  clear hD hb6 HBW
  go_wp2_with fail
  refine (expr_May.calls 2 _ _ addsL true _ (HD.out) (by decide) (by decide +kernel)).mono ?_
  rintro e w7 ⟨rfl, hb⟩
  have HBX1 := Aside0.mk (below_step HBX.out hb)
  have HT1 := Aside0.mk (below_step HT.out hb)
  clear HBX HT hb
  have y0 : w7.cell? ⟨X, 0, none⟩ = some (.int .i64 2) := (blk_cell (blk_below YA.out HT1.out) 0).trans rfl
  have y1 : w7.cell? ⟨X, 1, none⟩ = some (.slice (some ⟨g, 0, none⟩) 8 8) := (blk_cell (blk_below YA.out HT1.out) 1).trans rfl
  go_wp2_with fail
  refine (expr_May.calls 2 _ _ [⟨3, (99 + ((m : Int) + 1)), 0, []⟩, ⟨1, 3, 0, []⟩, ⟨1, 1, 0, []⟩, ⟨4, 0, 0, [1, 2]⟩, ⟨1, 0, 0, []⟩, ⟨1, 1, 0, []⟩, ⟨4, 0, 0, [4, 5]⟩, ⟨5, 7, 2, [0, 3, 6]⟩] false _ (Kd.C_below HC.out HT1.out) (by simp) (congrArg some (may5_21 m hm))).mono ?_
  rintro e w8 ⟨rfl, hb⟩
  have HBX := Aside0.mk (below_step HBX1.out hb)
  clear hb HBX1 HT1 y0 y1 YA HC
  go_wp2_with fail
  refine (num_calls 0 _).mono ?_
  rintro e w9 ⟨rfl, rfl⟩
  go_wp2
  go_ret
  exact ⟨rfl, HBX.out⟩
end Go.Proofs.Ytkpblifelpokfaa.PAll
