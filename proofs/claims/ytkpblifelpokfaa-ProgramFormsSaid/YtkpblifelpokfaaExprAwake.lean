/- sleuthlaw5.awake answers true. No condition. -/
import Derived.Test.YtkpblifelpokfaaExprLit
import Derived.Outline
namespace Go.Proofs.Ytkpblifelpokfaa.PAll
open Go.RowKit Go.Proofs.YtkpblifelpokfaaW.PrintWords Go.Proofs.YtkpblifelpokfaaW.PrintLast Go.Proofs.YtkpblifelpokfaaW.PrintMore
set_option linter.unusedVariables false
set_option linter.unusedSimpArgs false

@[go_sem] theorem run_field24_1 (v0 v1 : Value) (w : World) : Sem.run Try.prog (Instr.field 24 (.agg #[v0, v1]) 1) w = .ok v1 w := by kernel_rfl
theorem num_calls (a : Int) (w : World) : Calls Try.prog 18 #[.int .i64 a] w fun e w' => e = .returned (.int .i64 a) ∧ w = w' := by
  go_enter Try.func18, Try.ntmps18
  go_wp2
  go_ret
  exact ⟨rfl, rfl⟩

set_option maxHeartbeats 4000000 in
set_option maxRecDepth 100000 in
theorem awake5_runs (w : World) : Calls Try.prog 16 #[] w fun e w' => e = .returned (.bool true) ∧ Below w.heap.size w w' := by
  go_enter Try.func16, Try.ntmps16
  go_wp2_with fail
  refine (adds_calls _).mono ?_
  rintro e w1 ⟨gA, gA1, gA2, gA3, rfl, hA, hb1⟩
  have HA1 := Aside0.mk hA
  have HB1 := Aside0.mk hb1
  clear hA hb1
  go_wp2_with fail
  refine (adds_calls _).mono ?_
  rintro e w2 ⟨gB, gB1, gB2, gB3, rfl, hB, hb2⟩
  have HA2 := Aside0.mk (HA1.out.below hb2)
  have HBB2 := Aside0.mk hB
  have HB2 := Aside0.mk hb2
  clear hB hb2
  go_wp2_with fail
  refine (adds_calls _).mono ?_
  rintro e w3 ⟨gC, gC1, gC2, gC3, rfl, hC, hb3⟩
  have HA := Aside0.mk (HA2.out.below hb3)
  have HBB := Aside0.mk (HBB2.out.below hb3)
  have HCC := Aside0.mk hC
  have HB := Aside0.mk (below_step (below_step HB1.out HB2.out) hb3)
  have HAB : Aside0 (gA ≠ gB ∧ gA ≠ gC ∧ gB ≠ gC) := ⟨by have := HA1.out.lt; have := HBB2.out.lt; have := HBB2.out.l; have := hC.l; have := HB2.out.size; omega⟩
  have HW : Aside0 (w.heap.size ≤ w1.heap.size ∧ w.heap.size ≤ w2.heap.size) := ⟨by have := HB1.out.size; have := HB2.out.size; omega⟩
  clear hC hb3 HA1 HA2 HBB2 HB1 HB2
  go_upto_region 2 with (fail)
  have HSZ : Aside0 (gA < w3.heap.size ∧ gB < w3.heap.size ∧ gC < w3.heap.size) := ⟨by have := HA.out.lt; have := HBB.out.lt; have := HCC.out.lt; omega⟩
  obtain ⟨w4, hw4⟩ : ∃ w4 : World, w4 = ((w3.alloc (.cells #[.int .i64 2, .slice (some ⟨gA, 0, none⟩) 8 8] 24)).alloc (.cells #[.int .i64 2, .slice (some ⟨gB, 0, none⟩) 8 8] 24)).alloc (.cells #[.int .i64 2, .slice (some ⟨gC, 0, none⟩) 8 8] 24) := ⟨_, rfl⟩
  have hb4 : Below w3.heap.size w3 w4 := by rw [hw4]; repeat (first | exact Below.refl _ _ | apply below_alloc)
  have e : ∀ (W : World) (o : Obj) (n : Nat), n = W.heap.size → (W.alloc o).heap[n]? = some o := fun W o n h => by rw [h]; exact blk_new W o
  have XA : Aside0 (w4.heap[w3.heap.size]? = some (.cells #[.int .i64 2, .slice (some ⟨gA, 0, none⟩) 8 8] 24 (0, 0))) := ⟨by rw [hw4]; exact blk_alloc (blk_alloc (e _ _ _ rfl) _) _⟩
  have XB : Aside0 (w4.heap[w3.heap.size + 1]? = some (.cells #[.int .i64 2, .slice (some ⟨gB, 0, none⟩) 8 8] 24 (0, 0))) := ⟨by rw [hw4]; exact blk_alloc (e _ _ _ (by simp)) _⟩
  have XC : Aside0 (w4.heap[w3.heap.size + 1 + 1]? = some (.cells #[.int .i64 2, .slice (some ⟨gC, 0, none⟩) 8 8] 24 (0, 0))) := ⟨by rw [hw4]; exact e _ _ _ (by simp)⟩
  rw [← hw4]
  clear hw4 e
  obtain ⟨x, hx⟩ : ∃ x, x = w3.heap.size := ⟨_, rfl⟩
  rw [← hx] at XA XB XC HSZ ⊢
  have HXW : Aside0 (w.heap.size ≤ x) := ⟨by rw [hx]; exact HB.out.size⟩
  have HA4 := Aside0.mk (HA.out.below hb4)
  have HB4 := Aside0.mk (HBB.out.below hb4)
  have HC4 := Aside0.mk (HCC.out.below hb4)
  have HBEL := Aside0.mk (below_step HB.out hb4)
  obtain ⟨nAB, nAC, nBC⟩ := HAB.out
  have nx : gA ≠ x ∧ gB ≠ x ∧ gC ≠ x ∧ gA ≠ x + 1 ∧ gB ≠ x + 1 ∧ gC ≠ x + 1 ∧ gA ≠ x + 1 + 1 ∧ gB ≠ x + 1 + 1 ∧ gC ≠ x + 1 + 1 := by have := HSZ.out; omega
  obtain ⟨m1, m2, m3, m4, m5, m6, m7, m8, m9⟩ := nx
  clear hb4 hx HA HBB HCC HB HAB
  have a5 : w4.cell? ⟨gA, 5, none⟩ = some (.int .i64 3) := (blk_cell HA4.out.b 5).trans rfl
  have b15 : w4.cell? ⟨gB, 15, none⟩ = some (.slice (some ⟨gB1, 0, none⟩) 2 2) := (blk_cell HB4.out.b 15).trans rfl
  have c30 : w4.cell? ⟨gC, 30, none⟩ = some (.int .i64 2) := (blk_cell HC4.out.b 30).trans rfl
  have fa := blk_frozen HA4.out.b 5
  have fb := blk_frozen HB4.out.b 15
  have fc := blk_frozen HC4.out.b 30
  have xa : w4.cell? ⟨x, 1, none⟩ = some (.slice (some ⟨gA, 0, none⟩) 8 8) := (blk_cell XA.out 1).trans rfl
  have xb : w4.cell? ⟨x + 1, 1, none⟩ = some (.slice (some ⟨gB, 0, none⟩) 8 8) := (blk_cell XB.out 1).trans rfl
  have xc : w4.cell? ⟨x + 1 + 1, 1, none⟩ = some (.slice (some ⟨gC, 0, none⟩) 8 8) := (blk_cell XC.out 1).trans rfl
  have lA : gA < w4.heap.size := HA4.out.lt.1
  have lB : gB < w4.heap.size := HB4.out.lt.1
  have lC : gC < w4.heap.size := HC4.out.lt.1
  have lx : x < w4.heap.size := blk_lt XA.out
  have lx1 : x + 1 < w4.heap.size := blk_lt XB.out
  have lx2 : x + 1 + 1 < w4.heap.size := blk_lt XC.out
  go_upto_region 5 with (fail)
  have cA0 : w4.cell? ⟨x, 0, none⟩ = some (.int .i64 2) := (blk_cell XA.out 0).trans rfl
  have cB0 : w4.cell? ⟨x + 1, 0, none⟩ = some (.int .i64 2) := (blk_cell XB.out 0).trans rfl
  have cC0 : w4.cell? ⟨x + 1 + 1, 0, none⟩ = some (.int .i64 2) := (blk_cell XC.out 0).trans rfl
  obtain ⟨w5, hw5⟩ : ∃ w5 : World, w5 = ((((w4.setCell ⟨gA, 5, none⟩ (.int .i64 4)).setCell ⟨gB, 15, none⟩ (.slice (some ⟨w4.heap.size, 0, none⟩) 2 2)).setCell ⟨gC, 30, none⟩ (.int .i64 1)).alloc (.cells #[.int .i64 1, .int .i64 1] 3)) := ⟨_, rfl⟩
  have sm : Sm (fun k => k = gA ∨ k = gB ∨ k = gC) w4 w5 := by
    rw [hw5]
    exact Sm.alloc (Sm.set (Sm.set (Sm.set (Sm.refl _ _) _ _ (.inl rfl)) _ _ (.inr (.inl rfl))) _ _ (.inr (.inr rfl))) _
  have bA : w5.heap[gA]? = some (.cells ((addsCells gA1 gA2 gA3).setIfInBounds 5 (.int .i64 4)) 33 (0, 0)) := by
    rw [hw5]; exact blk_alloc (blk_far (blk_far (blk_set HA4.out.b 5 _) nAB _) nAC _) _
  have bB : w5.heap[gB]? = some (.cells ((addsCells gB1 gB2 gB3).setIfInBounds 15 (.slice (some ⟨w4.heap.size, 0, none⟩) 2 2)) 33 (0, 0)) := by
    rw [hw5]; exact blk_alloc (blk_far (blk_set (blk_far HB4.out.b (Ne.symm nAB) _) 15 _) nBC _) _
  have bC : w5.heap[gC]? = some (.cells ((addsCells gC1 gC2 gC3).setIfInBounds 30 (.int .i64 1)) 33 (0, 0)) := by
    rw [hw5]; exact blk_alloc (blk_set (blk_far (blk_far HC4.out.b (Ne.symm nAC) _) (Ne.symm nBC) _) 30 _) _
  have bN : w5.heap[w4.heap.size]? = some (.cells #[.int .i64 1, .int .i64 1] 3 (0, 0)) := by
    rw [hw5]
    have e : ∀ (W : World) (o : Obj) (n : Nat), n = W.heap.size → (W.alloc o).heap[n]? = some o := fun W o n h => by rw [h]; exact blk_new W o
    exact e _ _ _ (by simp)
  have kid : ∀ k, k = gA1 ∨ k = gA2 ∨ k = gA3 ∨ k = gB1 ∨ k = gB2 ∨ k = gB3 ∨ k = gC1 ∨ k = gC2 ∨ k = gC3 → ¬ (k = gA ∨ k = gB ∨ k = gC) := by
    have n3 : ∀ (g k : Nat) cs cs', w4.heap[k]? = some (.cells cs 3 (0, 0)) → w4.heap[g]? = some (.cells cs' 33 (0, 0)) → k ≠ g := fun g k cs cs' h h' => blk_ne h h' (by decide)
    have q : ∀ k cs, w4.heap[k]? = some (.cells cs 3 (0, 0)) → ¬ (k = gA ∨ k = gB ∨ k = gC) := fun k cs h e => by
      rcases e with e | e | e
      · exact n3 _ _ _ _ h HA4.out.b e
      · exact n3 _ _ _ _ h HB4.out.b e
      · exact n3 _ _ _ _ h HC4.out.b e
    rintro k (rfl | rfl | rfl | rfl | rfl | rfl | rfl | rfl | rfl)
    · exact q _ _ HA4.out.b1
    · exact q _ _ HA4.out.b2
    · exact q _ _ HA4.out.b3
    · exact q _ _ HB4.out.b1
    · exact q _ _ HB4.out.b2
    · exact q _ _ HB4.out.b3
    · exact q _ _ HC4.out.b1
    · exact q _ _ HC4.out.b2
    · exact q _ _ HC4.out.b3
  have KA1 := sm.get HA4.out.b1 (kid _ (by simp))
  have KA2 := sm.get HA4.out.b2 (kid _ (by simp))
  have KA3 := sm.get HA4.out.b3 (kid _ (by simp))
  have KB1 := sm.get HB4.out.b1 (kid _ (by simp))
  have KB2 := sm.get HB4.out.b2 (kid _ (by simp))
  have KB3 := sm.get HB4.out.b3 (kid _ (by simp))
  have KC1 := sm.get HC4.out.b1 (kid _ (by simp))
  have KC2 := sm.get HC4.out.b2 (kid _ (by simp))
  have KC3 := sm.get HC4.out.b3 (kid _ (by simp))
  have HCA := Aside0.mk (C_lit [⟨⟨1, 0, 0, []⟩, none, 0⟩, ⟨⟨1, 4, 0, []⟩, none, 0⟩, ⟨⟨1, 1, 0, []⟩, none, 0⟩, ⟨⟨4, 0, 0, [1, 2]⟩, some ⟨gA1, 0, none⟩, 2⟩, ⟨⟨1, 0, 0, []⟩, none, 0⟩, ⟨⟨1, 1, 0, []⟩, none, 0⟩, ⟨⟨4, 0, 0, [4, 5]⟩, some ⟨gA2, 0, none⟩, 2⟩, ⟨⟨5, 7, 2, [0, 3, 6]⟩, some ⟨gA3, 0, none⟩, 3⟩] bA rfl (by simp) (all_cons (none_ok _ _ _ rfl) (all_cons (none_ok _ _ _ rfl) (all_cons (none_ok _ _ _ rfl) (all_cons (two_ok _ rfl KA1) (all_cons (none_ok _ _ _ rfl) (all_cons (none_ok _ _ _ rfl) (all_cons (two_ok _ rfl KA2) (all_cons (three_ok _ rfl KA3) all_nil)))))))) 8 (by simp))
  have HCB := Aside0.mk (C_lit [⟨⟨1, 0, 0, []⟩, none, 0⟩, ⟨⟨1, 3, 0, []⟩, none, 0⟩, ⟨⟨1, 1, 0, []⟩, none, 0⟩, ⟨⟨4, 0, 0, [1, 1]⟩, some ⟨w4.heap.size, 0, none⟩, 2⟩, ⟨⟨1, 0, 0, []⟩, none, 0⟩, ⟨⟨1, 1, 0, []⟩, none, 0⟩, ⟨⟨4, 0, 0, [4, 5]⟩, some ⟨gB2, 0, none⟩, 2⟩, ⟨⟨5, 7, 2, [0, 3, 6]⟩, some ⟨gB3, 0, none⟩, 3⟩] bB rfl (by simp) (all_cons (none_ok _ _ _ rfl) (all_cons (none_ok _ _ _ rfl) (all_cons (none_ok _ _ _ rfl) (all_cons (two_ok _ rfl bN) (all_cons (none_ok _ _ _ rfl) (all_cons (none_ok _ _ _ rfl) (all_cons (two_ok _ rfl KB2) (all_cons (three_ok _ rfl KB3) all_nil)))))))) 8 (by simp))
  have HCC := Aside0.mk (C_lit [⟨⟨1, 0, 0, []⟩, none, 0⟩, ⟨⟨1, 3, 0, []⟩, none, 0⟩, ⟨⟨1, 1, 0, []⟩, none, 0⟩, ⟨⟨4, 0, 0, [1, 2]⟩, some ⟨gC1, 0, none⟩, 2⟩, ⟨⟨1, 0, 0, []⟩, none, 0⟩, ⟨⟨1, 1, 0, []⟩, none, 0⟩, ⟨⟨4, 0, 0, [4, 5]⟩, some ⟨gC2, 0, none⟩, 2⟩, ⟨⟨5, 7, 1, [0, 3, 6]⟩, some ⟨gC3, 0, none⟩, 3⟩] bC rfl (by simp) (all_cons (none_ok _ _ _ rfl) (all_cons (none_ok _ _ _ rfl) (all_cons (none_ok _ _ _ rfl) (all_cons (two_ok _ rfl KC1) (all_cons (none_ok _ _ _ rfl) (all_cons (none_ok _ _ _ rfl) (all_cons (two_ok _ rfl KC2) (all_cons (three_ok _ rfl KC3) all_nil)))))))) 8 (by simp))
  have YA := Aside0.mk (sm.get XA.out (by omega))
  have YB := Aside0.mk (sm.get XB.out (by omega))
  have YC := Aside0.mk (sm.get XC.out (by omega))
  have HB5 : Aside0 (Below w.heap.size w w5) := ⟨by
    rw [hw5]
    have l1 := HA4.out.l
    have l2 := HB4.out.l
    have l3 := HC4.out.l
    have l4 := HW.out
    exact below_alloc (below_set (below_set (below_set HBEL.out (by omega)) (by omega)) (by omega)) _⟩
  rw [← hw5]
  clear hw5 sm bA bB bC bN kid KA1 KA2 KA3 KB1 KB2 KB3 KC1 KC2 KC3 XA XB XC HA4 HB4 HC4 HBEL cA0 cB0 cC0 a5 b15 c30 fa fb fc xa xb xc nAB nAC nBC m1 m2 m3 m4 m5 m6 m7 m8 m9 HSZ lA lB lC lx lx1 lx2
  go_wp2_with fail
  refine (adds_calls _).mono ?_
  rintro e w6 ⟨g, g1, g2, g3, rfl, hD, hb6⟩
  have HD := Aside0.mk (adds_C hD)
  have HT := Aside0.mk hb6
  have HBX := Aside0.mk (below_step HB5.out hb6)
  clear hD hb6 HB5
  go_wp2_with fail
  refine (expr_May.calls 2 _ _ addsL true _ (HD.out) (by decide) (by decide +kernel)).mono ?_
  rintro e w7 ⟨rfl, hb⟩
  have HBX1 := Aside0.mk (below_step HBX.out hb)
  have HT1 := Aside0.mk (below_step HT.out hb)
  clear HBX HT
  have HBX := HBX1
  have HT := HT1
  clear hb HBX1 HT1
  have y70 : w7.cell? ⟨x, 0, none⟩ = some (.int .i64 2) := (blk_cell (blk_below YA.out HT.out) 0).trans rfl
  have y71 : w7.cell? ⟨x, 1, none⟩ = some (.slice (some ⟨gA, 0, none⟩) 8 8) := (blk_cell (blk_below YA.out HT.out) 1).trans rfl
  go_wp2_with fail
  refine (expr_May.calls 2 _ _ [⟨1, 0, 0, []⟩, ⟨1, 4, 0, []⟩, ⟨1, 1, 0, []⟩, ⟨4, 0, 0, [1, 2]⟩, ⟨1, 0, 0, []⟩, ⟨1, 1, 0, []⟩, ⟨4, 0, 0, [4, 5]⟩, ⟨5, 7, 2, [0, 3, 6]⟩] false _ (Kd.C_below HCA.out HT.out) (by decide) (by decide +kernel)).mono ?_
  rintro e w8 ⟨rfl, hb⟩
  have HBX1 := Aside0.mk (below_step HBX.out hb)
  have HT1 := Aside0.mk (below_step HT.out hb)
  clear HBX HT
  have HBX := HBX1
  have HT := HT1
  clear hb HBX1 HT1
  have y80 : w8.cell? ⟨x + 1, 0, none⟩ = some (.int .i64 2) := (blk_cell (blk_below YB.out HT.out) 0).trans rfl
  have y81 : w8.cell? ⟨x + 1, 1, none⟩ = some (.slice (some ⟨gB, 0, none⟩) 8 8) := (blk_cell (blk_below YB.out HT.out) 1).trans rfl
  go_wp2_with fail
  refine (expr_May.calls 2 _ _ [⟨1, 0, 0, []⟩, ⟨1, 3, 0, []⟩, ⟨1, 1, 0, []⟩, ⟨4, 0, 0, [1, 1]⟩, ⟨1, 0, 0, []⟩, ⟨1, 1, 0, []⟩, ⟨4, 0, 0, [4, 5]⟩, ⟨5, 7, 2, [0, 3, 6]⟩] false _ (Kd.C_below HCB.out HT.out) (by decide) (by decide +kernel)).mono ?_
  rintro e w9 ⟨rfl, hb⟩
  have HBX1 := Aside0.mk (below_step HBX.out hb)
  have HT1 := Aside0.mk (below_step HT.out hb)
  clear HBX HT
  have HBX := HBX1
  have HT := HT1
  clear hb HBX1 HT1
  have y90 : w9.cell? ⟨x + 1 + 1, 0, none⟩ = some (.int .i64 2) := (blk_cell (blk_below YC.out HT.out) 0).trans rfl
  have y91 : w9.cell? ⟨x + 1 + 1, 1, none⟩ = some (.slice (some ⟨gC, 0, none⟩) 8 8) := (blk_cell (blk_below YC.out HT.out) 1).trans rfl
  go_wp2_with fail
  refine (expr_May.calls 2 _ _ [⟨1, 0, 0, []⟩, ⟨1, 3, 0, []⟩, ⟨1, 1, 0, []⟩, ⟨4, 0, 0, [1, 2]⟩, ⟨1, 0, 0, []⟩, ⟨1, 1, 0, []⟩, ⟨4, 0, 0, [4, 5]⟩, ⟨5, 7, 1, [0, 3, 6]⟩] false _ (Kd.C_below HCC.out HT.out) (by decide) (by decide +kernel)).mono ?_
  rintro e w10 ⟨rfl, hb⟩
  have HBX1 := Aside0.mk (below_step HBX.out hb)
  have HT1 := Aside0.mk (below_step HT.out hb)
  clear HBX HT
  have HBX := HBX1
  have HT := HT1
  clear hb HBX1 HT1
  go_wp2_with fail
  refine (expr_May.calls 0 _ _ [] false _ (Kd.C_nil _ _) (by decide) (by decide +kernel)).mono ?_
  rintro e w11 ⟨rfl, hb⟩
  have HBX1 := Aside0.mk (below_step HBX.out hb)
  have HT1 := Aside0.mk (below_step HT.out hb)
  clear HBX HT
  have HBX := HBX1
  have HT := HT1
  clear hb HBX1 HT1
  go_wp2_with fail
  refine (num_calls 0 _).mono ?_
  rintro e w12 ⟨rfl, rfl⟩
  go_wp2
  go_ret
  exact ⟨rfl, HBX.out⟩

/-- sleuthlaw5.awake, as the other texts take it. -/
def sleuthlaw5_awake.f : Option Bool := some true
theorem sleuthlaw5_awake.calls (r : Bool) (w : World) (h : sleuthlaw5_awake.f = some r) : Calls Try.prog 16 #[] w fun e w' => e = .returned (.bool r) ∧ Below w.heap.size w w' := by
  obtain rfl := Option.some.inj h
  exact awake5_runs w
end Go.Proofs.Ytkpblifelpokfaa.PAll
