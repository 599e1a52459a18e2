/- ProgramForms, its cases: small() with one thing changed may not be. No condition but the case. -/
import Derived.Test.YtkpblifelpokfaaPgmSmall
import Derived.Test.YtkpblifelpokfaaExprMask
import Derived.Test.YtkpblifelpokfaaPAllgsleuthlaw6awake
namespace Go.Proofs.Ytkpblifelpokfaa.PAll
open Go.RowKit Go.Proofs.YtkpblifelpokfaaW.PrintWords Go.Proofs.YtkpblifelpokfaaW.PrintLast Go.Proofs.YtkpblifelpokfaaW.PrintMore
set_option linter.unusedVariables false
set_option linter.unusedSimpArgs false

theorem lit2_ok {w : World} {x : S24} {A : Option Addr} {c : Nat} (h : x.f1.length ≤ c) (hc : k33.C w A x.f1.length x.f1) : (⟨x, A, c⟩ : Lit2).ok w := ⟨h, hc⟩
theorem main_Ca {w : World} {m k1 k2 : Nat} (n : Int) (bm : w.heap[m]? = some (.cells ((mainCells k1 k2).setIfInBounds 17 (.int .i64 n)) 33 (0, 0))) (b1 : w.heap[k1]? = some (.cells #[.int .i64 0, .int .i64 1] 3 (0, 0))) (b2 : w.heap[k2]? = some (.cells #[.int .i64 2, .int .i64 3] 3 (0, 0))) :
    Kd.C k33 w (some ⟨m, 0, none⟩) 5 [⟨7, 0, 0, []⟩, ⟨0, 4, 0, []⟩, ⟨3, 7, 0, [0, 1]⟩, ⟨0, 5, 0, []⟩, ⟨2, n, 0, [2, 3]⟩] :=
  C_lit [⟨⟨7, 0, 0, []⟩, none, 0⟩, ⟨⟨0, 4, 0, []⟩, none, 0⟩, ⟨⟨3, 7, 0, [0, 1]⟩, some ⟨k1, 0, none⟩, 2⟩, ⟨⟨0, 5, 0, []⟩, none, 0⟩, ⟨⟨2, n, 0, [2, 3]⟩, some ⟨k2, 0, none⟩, 2⟩] bm rfl (by simp) (all_cons (none_ok _ _ _ rfl) (all_cons (none_ok _ _ _ rfl) (all_cons (two_ok _ rfl b1) (all_cons (none_ok _ _ _ rfl) (all_cons (two_ok _ rfl b2) all_nil))))) 5 (by simp)
theorem small_Ca {w : World} {B d m k1 k2 g g1 g2 g3 : Nat} (h : SmallAt w B d m k1 k2 g g1 g2 g3) : Kd.C k24 w (some ⟨d, 0, none⟩) 2 [⟨0, mainL⟩, ⟨2, addsL⟩] :=
  C_lit2 [⟨⟨0, mainL⟩, some ⟨m, 0, none⟩, 5⟩, ⟨⟨2, addsL⟩, some ⟨g, 0, none⟩, 8⟩] h.bd rfl (by simp) (all2_cons (lit2_ok (by decide) (main_Ca 1 h.bm h.bk1 h.bk2)) (all2_cons (lit2_ok (by decide) (adds_C h.A)) all2_nil)) 2 (by simp)

theorem may6_0 : ∀ n : Nat, n < 1 → pmayB [] = false := by decide +kernel
set_option maxHeartbeats 4000000 in
set_option maxRecDepth 100000 in
theorem form6_0 (a x : Int) (w : World) (h : (IntKind.u64.wrap a).tmod 8 = 0) : Calls Try.prog 9 #[.int .i64 a, .int .i64 x] w fun e w' => e = .returned (.bool true) ∧ Below w.heap.size w w' := by
  have q0 : ((IntKind.u64.wrap a).tmod 8 == 0) = true := by rw [h]; rfl
  go_enter Try.func9, Try.ntmps9
  go_wp2_with fail
  refine (sleuthlaw6_awake.calls true _ (by decide +kernel)).mono ?_
  rintro e w1 ⟨rfl, hb1⟩
  have HB1 := Aside0.mk hb1
  clear hb1
  go_wp2_with fail
  refine (small6_calls _).mono ?_
  rintro e w2 ⟨d, m, k1, k2, g, g1, g2, g3, rfl, hA, hb2⟩
  have HA := Aside0.mk hA
  have HB := Aside0.mk (below_step HB1.out hb2)
  have HW : Aside0 (w.heap.size ≤ d ∧ w.heap.size ≤ m) := ⟨by have := HB1.out.size; have := hA.ld; have := hA.lm; omega⟩
  clear hA hb2 HB1
  have ld : d < w2.heap.size := blk_lt HA.out.bd
  have lm : m < w2.heap.size := blk_lt HA.out.bm
  have nd : d ≠ w2.heap.size := by omega
  have nm : m ≠ w2.heap.size := by omega
  have ndm : d ≠ m := blk_ne HA.out.bd HA.out.bm (by decide)
  have d0 : w2.cell? ⟨d, 0, none⟩ = some (.int .i64 0) := (blk_cell HA.out.bd 0).trans rfl
  have d1 : w2.cell? ⟨d, 1, none⟩ = some (.slice (some ⟨m, 0, none⟩) 5 5) := (blk_cell HA.out.bd 1).trans rfl
  have d2 : w2.cell? ⟨d, 2, none⟩ = some (.int .i64 2) := (blk_cell HA.out.bd 2).trans rfl
  have d3 : w2.cell? ⟨d, 3, none⟩ = some (.slice (some ⟨g, 0, none⟩) 8 8) := (blk_cell HA.out.bd 3).trans rfl
  have e0 := blk_frozen HA.out.bd 0
  have e1 := blk_frozen HA.out.bd 1
  have e2 := blk_frozen HA.out.bd 2
  have e3 := blk_frozen HA.out.bd 3
  have m17 : w2.cell? ⟨m, 17, none⟩ = some (.int .i64 1) := (blk_cell HA.out.bm 17).trans rfl
  have f17 := blk_frozen HA.out.bm 17
  go_wp2_with fail
  have e : ∀ (W : World) (o : Obj) (n : Nat), n = W.heap.size → (W.alloc o).heap[n]? = some o := fun W o n h => by rw [h]; exact blk_new W o
  obtain ⟨W, hW⟩ : ∃ W : World, W = (w2.alloc (.cells #[.slice none 0 0] 41)) := ⟨_, rfl⟩
  have YA := Aside0.mk (show W.heap[w2.heap.size]? = some (.cells #[.slice none 0 0] 41 (0, 0)) from by rw [hW]; exact (e _ _ _ (by simp)))
  have HBW : Aside0 (Below w.heap.size w W) := ⟨by rw [hW]; exact (below_alloc HB.out _)⟩
  rw [← hW]
  clear hW
  obtain ⟨n, hn⟩ : ∃ n : Nat, n < 1 := ⟨0, by decide⟩
  have HC := Aside0.mk (Kd.C_nil k24 W)
  clear e HA HB HW ld lm nd nm ndm d0 d1 d2 d3 e0 e1 e2 e3 m17 f17
  generalize w2.heap.size = X at *
  go_wp2_with fail
  refine (small6_calls _).mono ?_
  rintro e w6 ⟨d_, m_, k1_, k2_, h_, h1, h2, h3, rfl, hD, hb6⟩
  have HD := Aside0.mk (small_Ca hD)
  have HT := Aside0.mk hb6
  have HBX := Aside0.mk (below_step HBW.out hb6)
  clear hD hb6 HBW
  go_wp2_with fail
  refine (program_May.calls _ _ [⟨0, mainL⟩, ⟨2, addsL⟩] true _ (HD.out) (by decide) (by decide +kernel)).mono ?_
  rintro e w7 ⟨rfl, hb⟩
  have HBX1 := Aside0.mk (below_step HBX.out hb)
  have HT1 := Aside0.mk (below_step HT.out hb)
  clear HBX HT hb
  have y0 : w7.cell? ⟨X, 0, none⟩ = some (.slice none 0 0) := (blk_cell (blk_below YA.out HT1.out) 0).trans rfl
  go_wp2_with fail
  refine (program_May.calls _ _ [] false _ (Kd.C_below HC.out HT1.out) (by simp) (congrArg some (may6_0 n hn))).mono ?_
  rintro e w8 ⟨rfl, hb⟩
  have HBX := Aside0.mk (below_step HBX1.out hb)
  clear hb HBX1 HT1 y0 YA HC
  go_wp2_with fail
  refine (num_calls 0 _).mono ?_
  rintro e w9 ⟨rfl, rfl⟩
  go_wp2
  go_ret
  exact ⟨rfl, HBX.out⟩
theorem may6_3 : ∀ n : Nat, n < 4 → pmayB [⟨0, [⟨7, 0, 0, []⟩, ⟨0, 4, 0, []⟩, ⟨3, 7, 0, [0, 1]⟩, ⟨0, 5, 0, []⟩, ⟨2, (2 + (n : Int)), 0, [2, 3]⟩]⟩, ⟨2, addsL⟩] = false := by decide +kernel
set_option maxHeartbeats 4000000 in
set_option maxRecDepth 100000 in
theorem form6_3 (a x : Int) (w : World) (h : (IntKind.u64.wrap a).tmod 8 = 3) : Calls Try.prog 9 #[.int .i64 a, .int .i64 x] w fun e w' => e = .returned (.bool true) ∧ Below w.heap.size w w' := by
  have q0 : ((IntKind.u64.wrap a).tmod 8 == 0) = false := by rw [h]; rfl
  have q1 : ((IntKind.u64.wrap a).tmod 8 == 1) = false := by rw [h]; rfl
  have q2 : ((IntKind.u64.wrap a).tmod 8 == 2) = false := by rw [h]; rfl
  have q3 : ((IntKind.u64.wrap a).tmod 8 == 3) = true := by rw [h]; rfl
  go_enter Try.func9, Try.ntmps9
  go_wp2_with fail
  refine (sleuthlaw6_awake.calls true _ (by decide +kernel)).mono ?_
  rintro e w1 ⟨rfl, hb1⟩
  have HB1 := Aside0.mk hb1
  clear hb1
  go_wp2_with fail
  refine (small6_calls _).mono ?_
  rintro e w2 ⟨d, m, k1, k2, g, g1, g2, g3, rfl, hA, hb2⟩
  have HA := Aside0.mk hA
  have HB := Aside0.mk (below_step HB1.out hb2)
  have HW : Aside0 (w.heap.size ≤ d ∧ w.heap.size ≤ m) := ⟨by have := HB1.out.size; have := hA.ld; have := hA.lm; omega⟩
  clear hA hb2 HB1
  have ld : d < w2.heap.size := blk_lt HA.out.bd
  have lm : m < w2.heap.size := blk_lt HA.out.bm
  have nd : d ≠ w2.heap.size := by omega
  have nm : m ≠ w2.heap.size := by omega
  have ndm : d ≠ m := blk_ne HA.out.bd HA.out.bm (by decide)
  have d0 : w2.cell? ⟨d, 0, none⟩ = some (.int .i64 0) := (blk_cell HA.out.bd 0).trans rfl
  have d1 : w2.cell? ⟨d, 1, none⟩ = some (.slice (some ⟨m, 0, none⟩) 5 5) := (blk_cell HA.out.bd 1).trans rfl
  have d2 : w2.cell? ⟨d, 2, none⟩ = some (.int .i64 2) := (blk_cell HA.out.bd 2).trans rfl
  have d3 : w2.cell? ⟨d, 3, none⟩ = some (.slice (some ⟨g, 0, none⟩) 8 8) := (blk_cell HA.out.bd 3).trans rfl
  have e0 := blk_frozen HA.out.bd 0
  have e1 := blk_frozen HA.out.bd 1
  have e2 := blk_frozen HA.out.bd 2
  have e3 := blk_frozen HA.out.bd 3
  have m17 : w2.cell? ⟨m, 17, none⟩ = some (.int .i64 1) := (blk_cell HA.out.bm 17).trans rfl
  have f17 := blk_frozen HA.out.bm 17
  go_wp2_with fail
  have e : ∀ (W : World) (o : Obj) (n : Nat), n = W.heap.size → (W.alloc o).heap[n]? = some o := fun W o n h => by rw [h]; exact blk_new W o
  obtain ⟨W, hW⟩ : ∃ W : World, W = ((w2.setCell ⟨m, 17, none⟩ (.int .i64 (wrap64 (2 + Go.bits .and .i64 x 3)))).alloc (.cells #[.slice (some ⟨d, 0, none⟩) 2 2] 41)) := ⟨_, rfl⟩
  have YA := Aside0.mk (show W.heap[w2.heap.size]? = some (.cells #[.slice (some ⟨d, 0, none⟩) 2 2] 41 (0, 0)) from by rw [hW]; exact (e _ _ _ (by simp)))
  have F : ∀ k, k ≠ m → ∀ o, w2.heap[k]? = some o → W.heap[k]? = some o := fun k hk o h => by rw [hW]; exact blk_alloc ((Below.heap_setCell w2 ⟨m, 17, none⟩ _ k hk).trans h) _
  have HBW : Aside0 (Below w.heap.size w W) := ⟨by rw [hW]; exact (below_alloc (below_set HB.out HW.out.2) _)⟩
  have OWN : W.heap[m]? = some (.cells ((mainCells k1 k2).setIfInBounds 17 (.int .i64 (wrap64 (2 + Go.bits .and .i64 x 3)))) 33 (0, 0)) := by rw [hW]; exact blk_alloc (blk_set HA.out.bm 17 _) _
  have n3 : ∀ k cs, w2.heap[k]? = some (.cells cs 3 (0, 0)) → k ≠ m := fun k cs h => blk_ne h HA.out.bm (by decide)
  have AA : AddsAt W w1.heap.size g g1 g2 g3 := ⟨F _ (Ne.symm HA.out.mg) _ HA.out.A.b, F _ (n3 _ _ HA.out.A.b1) _ HA.out.A.b1, F _ (n3 _ _ HA.out.A.b2) _ HA.out.A.b2, F _ (n3 _ _ HA.out.A.b3) _ HA.out.A.b3, HA.out.A.l, HA.out.A.l1, HA.out.A.l2, HA.out.A.l3⟩
  have K1 := F _ (n3 _ _ HA.out.bk1) _ HA.out.bk1
  have K2 := F _ (n3 _ _ HA.out.bk2) _ HA.out.bk2
  have OTH := F _ ndm _ HA.out.bd
  rw [← hW]
  clear hW
  obtain ⟨n, hn, hd⟩ : ∃ n : Nat, n < 4 ∧ wrap64 (2 + Go.bits .and .i64 x 3) = (2 + (n : Int)) := by
    refine ⟨(x % 4).toNat, by omega, ?_⟩
    rw [and3, IntWalk.wrap64_in _ (by omega)]
    omega
  rw [hd] at OWN
  have HC := Aside0.mk (C_lit2 [⟨⟨0, [⟨7, 0, 0, []⟩, ⟨0, 4, 0, []⟩, ⟨3, 7, 0, [0, 1]⟩, ⟨0, 5, 0, []⟩, ⟨2, (2 + (n : Int)), 0, [2, 3]⟩]⟩, some ⟨m, 0, none⟩, 5⟩, ⟨⟨2, addsL⟩, some ⟨g, 0, none⟩, 8⟩] OTH rfl (by simp) (all2_cons (lit2_ok (by simp [mainL]) (main_Ca (2 + (n : Int)) OWN K1 K2)) (all2_cons (lit2_ok (by decide) (adds_C AA)) all2_nil)) 2 (by simp))
  clear OWN OTH AA K1 K2 F n3
  clear e HA HB HW ld lm nd nm ndm d0 d1 d2 d3 e0 e1 e2 e3 m17 f17
  generalize w2.heap.size = X at *
  go_wp2_with fail
  refine (small6_calls _).mono ?_
  rintro e w6 ⟨d_, m_, k1_, k2_, h_, h1, h2, h3, rfl, hD, hb6⟩
  have HD := Aside0.mk (small_Ca hD)
  have HT := Aside0.mk hb6
  have HBX := Aside0.mk (below_step HBW.out hb6)
  clear hD hb6 HBW
  go_wp2_with fail
  refine (program_May.calls _ _ [⟨0, mainL⟩, ⟨2, addsL⟩] true _ (HD.out) (by decide) (by decide +kernel)).mono ?_
  rintro e w7 ⟨rfl, hb⟩
  have HBX1 := Aside0.mk (below_step HBX.out hb)
  have HT1 := Aside0.mk (below_step HT.out hb)
  clear HBX HT hb
  have y0 : w7.cell? ⟨X, 0, none⟩ = some (.slice (some ⟨d, 0, none⟩) 2 2) := (blk_cell (blk_below YA.out HT1.out) 0).trans rfl
  go_wp2_with fail
  refine (program_May.calls _ _ [⟨0, [⟨7, 0, 0, []⟩, ⟨0, 4, 0, []⟩, ⟨3, 7, 0, [0, 1]⟩, ⟨0, 5, 0, []⟩, ⟨2, (2 + (n : Int)), 0, [2, 3]⟩]⟩, ⟨2, addsL⟩] false _ (Kd.C_below HC.out HT1.out) (by simp) (congrArg some (may6_3 n hn))).mono ?_
  rintro e w8 ⟨rfl, hb⟩
  have HBX := Aside0.mk (below_step HBX1.out hb)
  clear hb HBX1 HT1 y0 YA HC
  go_wp2_with fail
  refine (num_calls 0 _).mono ?_
  rintro e w9 ⟨rfl, rfl⟩
  go_wp2
  go_ret
  exact ⟨rfl, HBX.out⟩
end Go.Proofs.Ytkpblifelpokfaa.PAll
