/- ProgramForms, its cases: small() with one thing changed may not be. No condition but the case. -/
import Derived.Test.YtkpblifelpokfaaPgmSmall
import Derived.Test.YtkpblifelpokfaaExprMask
import Derived.Test.YtkpblifelpokfaaPAllgsleuthlaw6awake
namespace Go.Proofs.Ytkpblifelpokfaa.PAll
open Go.RowKit Go.Proofs.YtkpblifelpokfaaW.PrintWords Go.Proofs.YtkpblifelpokfaaW.PrintLast Go.Proofs.YtkpblifelpokfaaW.PrintMore
set_option linter.unusedVariables false
set_option linter.unusedSimpArgs false

theorem lit2_ok {w : World} {x : S24} {A : Option Addr} {c : Nat} (h : x.f1.length ≤ c) (hc : k33.C w A x.f1.length x.f1) : (⟨x, A, c⟩ : Lit2).ok w := ⟨h, hc⟩
theorem main_Cd {w : World} {m k1 k2 : Nat} (n : Int) (bm : w.heap[m]? = some (.cells ((mainCells k1 k2).setIfInBounds 17 (.int .i64 n)) 33 (0, 0))) (b1 : w.heap[k1]? = some (.cells #[.int .i64 0, .int .i64 1] 3 (0, 0))) (b2 : w.heap[k2]? = some (.cells #[.int .i64 2, .int .i64 3] 3 (0, 0))) :
    Kd.C k33 w (some ⟨m, 0, none⟩) 5 [⟨7, 0, 0, []⟩, ⟨0, 4, 0, []⟩, ⟨3, 7, 0, [0, 1]⟩, ⟨0, 5, 0, []⟩, ⟨2, n, 0, [2, 3]⟩] :=
  C_lit [⟨⟨7, 0, 0, []⟩, none, 0⟩, ⟨⟨0, 4, 0, []⟩, none, 0⟩, ⟨⟨3, 7, 0, [0, 1]⟩, some ⟨k1, 0, none⟩, 2⟩, ⟨⟨0, 5, 0, []⟩, none, 0⟩, ⟨⟨2, n, 0, [2, 3]⟩, some ⟨k2, 0, none⟩, 2⟩] bm rfl (by simp) (all_cons (none_ok _ _ _ rfl) (all_cons (none_ok _ _ _ rfl) (all_cons (two_ok _ rfl b1) (all_cons (none_ok _ _ _ rfl) (all_cons (two_ok _ rfl b2) all_nil))))) 5 (by simp)
theorem small_Cd {w : World} {B d m k1 k2 g g1 g2 g3 : Nat} (h : SmallAt w B d m k1 k2 g g1 g2 g3) : Kd.C k24 w (some ⟨d, 0, none⟩) 2 [⟨0, mainL⟩, ⟨2, addsL⟩] :=
  C_lit2 [⟨⟨0, mainL⟩, some ⟨m, 0, none⟩, 5⟩, ⟨⟨2, addsL⟩, some ⟨g, 0, none⟩, 8⟩] h.bd rfl (by simp) (all2_cons (lit2_ok (by decide) (main_Cd 1 h.bm h.bk1 h.bk2)) (all2_cons (lit2_ok (by decide) (adds_C h.A)) all2_nil)) 2 (by simp)

theorem may6_5 : ∀ n : Nat, n < 1 → pmayB [⟨0, mainL⟩, ⟨2, [⟨1, 3, 0, []⟩, ⟨1, 1, 0, []⟩, ⟨4, 0, 0, [1, 2]⟩, ⟨1, 0, 0, []⟩, ⟨1, 1, 0, []⟩, ⟨4, 0, 0, [4, 5]⟩, ⟨5, 7, 2, [0, 3, 6]⟩]⟩] = false := by decide +kernel
set_option maxHeartbeats 4000000 in
set_option maxRecDepth 100000 in
theorem form6_5 (a x : Int) (w : World) (h : (IntKind.u64.wrap a).tmod 8 = 5) : Calls Try.prog 9 #[.int .i64 a, .int .i64 x] w fun e w' => e = .returned (.bool true) ∧ Below w.heap.size w w' := by
  have q0 : ((IntKind.u64.wrap a).tmod 8 == 0) = false := by rw [h]; rfl
  have q1 : ((IntKind.u64.wrap a).tmod 8 == 1) = false := by rw [h]; rfl
  have q2 : ((IntKind.u64.wrap a).tmod 8 == 2) = false := by rw [h]; rfl
  have q3 : ((IntKind.u64.wrap a).tmod 8 == 3) = false := by rw [h]; rfl
  have q4 : ((IntKind.u64.wrap a).tmod 8 == 4) = false := by rw [h]; rfl
  have q5 : ((IntKind.u64.wrap a).tmod 8 == 5) = true := by rw [h]; rfl
  go_enter Try.func9, Try.ntmps9
  go_wp2_with fail
  refine (sleuthlaw6_awake.calls true _ (by decide +kernel)).mono ?_
  rintro e w1 ⟨rfl, hb1⟩
  have HB1 := Aside0.mk hb1
  clear hb1
  go_wp2_with fail
  refine (small6_calls _).mono ?_
  rintro e w2 ⟨d, m, k1, k2, g, g1, g2, g3, rfl, hA, hb2⟩
  have HA := Aside0.mk hA
  have HB := Aside0.mk (below_step HB1.out hb2)
  have HW : Aside0 (w.heap.size ≤ d ∧ w.heap.size ≤ m) := ⟨by have := HB1.out.size; have := hA.ld; have := hA.lm; omega⟩
  clear hA hb2 HB1
  have ld : d < w2.heap.size := blk_lt HA.out.bd
  have lm : m < w2.heap.size := blk_lt HA.out.bm
  have nd : d ≠ w2.heap.size := by omega
  have nm : m ≠ w2.heap.size := by omega
  have nd1 : d ≠ w2.heap.size + 1 := by omega
  have ld1 : d < w2.heap.size + 1 := by omega
  have ld2 : d < w2.heap.size + 1 + 1 := by omega
  have nd2 : d ≠ w2.heap.size + 1 + 1 := by omega
  have ndm : d ≠ m := blk_ne HA.out.bd HA.out.bm (by decide)
  have d0 : w2.cell? ⟨d, 0, none⟩ = some (.int .i64 0) := (blk_cell HA.out.bd 0).trans rfl
  have d1 : w2.cell? ⟨d, 1, none⟩ = some (.slice (some ⟨m, 0, none⟩) 5 5) := (blk_cell HA.out.bd 1).trans rfl
  have d2 : w2.cell? ⟨d, 2, none⟩ = some (.int .i64 2) := (blk_cell HA.out.bd 2).trans rfl
  have d3 : w2.cell? ⟨d, 3, none⟩ = some (.slice (some ⟨g, 0, none⟩) 8 8) := (blk_cell HA.out.bd 3).trans rfl
  have e0 := blk_frozen HA.out.bd 0
  have e1 := blk_frozen HA.out.bd 1
  have e2 := blk_frozen HA.out.bd 2
  have e3 := blk_frozen HA.out.bd 3
  have m17 : w2.cell? ⟨m, 17, none⟩ = some (.int .i64 1) := (blk_cell HA.out.bm 17).trans rfl
  have f17 := blk_frozen HA.out.bm 17
  go_wp2_with fail
  have s0 : (w2.alloc (.cells #[.slice (some ⟨d, 0, none⟩) 2 2] 41)).cell? ⟨w2.heap.size, 0, none⟩ = some (.slice (some ⟨d, 0, none⟩) 2 2) := (blk_cell (blk_new w2 (.cells #[.slice (some ⟨d, 0, none⟩) 2 2] 41)) 0).trans rfl
  have s3 : (w2.alloc (.cells #[.slice (some ⟨d, 0, none⟩) 2 2] 41)).cell? ⟨d, 3, none⟩ = some (.slice (some ⟨g, 0, none⟩) 8 8) := (blk_cell (blk_alloc HA.out.bd _) 3).trans rfl
  refine start_ (n := 11) (S := fun w' => w'.cell? ⟨w2.heap.size, 0, none⟩ = some (.slice (some ⟨d, 0, none⟩) 2 2) ∧ w'.cell? ⟨d, 3, none⟩ = some (.slice (some ⟨g, 0, none⟩) 8 8)) (ds := [10]) #[false, false, false, false, false, false, false, false, false, false, false] (by kernel_rfl) rfl rfl ⟨s0, s3⟩ (fun hHeld => ?_)
  refine pure_ (i := 0) (N := some 77) (v := ?_) (a' := ?_) #[true, false, false, false, false, false, false, false, false, false, false] rfl rfl (by kernel_rfl) (fun _ _ _ h => h) (Or.inl ⟨by rfl, ?_⟩) ?_ ?_
  rotate_left
  · intro w'
    go_simp
    with_reducible rfl
  rotate_left
  · simp only [Act.put, List.setIfInBounds_toArray, List.set_cons_zero, List.set_cons_succ, i64_w, i32_w]
    rfl
  refine take_ (i := 1) (N := some 78) (v := ?_) (a' := ?_) #[true, true, false, false, false, false, false, false, false, false, false] rfl rfl (by kernel_rfl) (fun _ _ _ h => h) (Or.inl ⟨by rfl, ?_⟩) hHeld ?_ ?_
  rotate_left
  · rintro w' ⟨t0, t3⟩
    go_simp
    with_reducible rfl
  rotate_left
  · simp only [Act.put, List.setIfInBounds_toArray, List.set_cons_zero, List.set_cons_succ, i64_w, i32_w]
    rfl
  refine pure_ (i := 2) (N := some 79) (v := ?_) (a' := ?_) #[true, true, true, false, false, false, false, false, false, false, false] rfl rfl (by kernel_rfl) (fun _ _ _ h => h) (Or.inl ⟨by rfl, ?_⟩) ?_ ?_
  rotate_left
  · intro w'
    go_simp
    with_reducible rfl
  rotate_left
  · simp only [Act.put, List.setIfInBounds_toArray, List.set_cons_zero, List.set_cons_succ, i64_w, i32_w]
    rfl
  refine take_ (i := 3) (N := some 80) (v := ?_) (a' := ?_) #[true, true, true, true, false, false, false, false, false, false, false] rfl rfl (by kernel_rfl) (fun _ _ _ h => h) (Or.inl ⟨by rfl, ?_⟩) hHeld ?_ ?_
  rotate_left
  · rintro w' ⟨t0, t3⟩
    go_simp
    with_reducible rfl
  rotate_left
  · simp only [Act.put, List.setIfInBounds_toArray, List.set_cons_zero, List.set_cons_succ, i64_w, i32_w]
    rfl
  refine pure_ (i := 4) (N := some 81) (v := ?_) (a' := ?_) #[true, true, true, true, true, false, false, false, false, false, false] rfl rfl (by kernel_rfl) (fun _ _ _ h => h) (Or.inl ⟨by rfl, ?_⟩) ?_ ?_
  rotate_left
  · intro w'
    go_simp
    with_reducible rfl
  rotate_left
  · simp only [Act.put, List.setIfInBounds_toArray, List.set_cons_zero, List.set_cons_succ, i64_w, i32_w]
    rfl
  refine pure_ (i := 5) (N := some 82) (v := ?_) (a' := ?_) #[true, true, true, true, true, true, false, false, false, false, false] rfl rfl (by kernel_rfl) (fun _ _ _ h => h) (Or.inl ⟨by rfl, ?_⟩) ?_ ?_
  rotate_left
  · intro w'
    go_simp
    with_reducible rfl
  rotate_left
  · simp only [Act.put, List.setIfInBounds_toArray, List.set_cons_zero, List.set_cons_succ, i64_w, i32_w]
    rfl
  refine take_ (i := 6) (N := some 83) (v := ?_) (a' := ?_) #[true, true, true, true, true, true, true, false, false, false, false] rfl rfl (by kernel_rfl) (fun _ _ _ h => h) (Or.inl ⟨by rfl, ?_⟩) hHeld ?_ ?_
  rotate_left
  · rintro w' ⟨t0, t3⟩
    go_simp
    with_reducible rfl
  rotate_left
  · simp only [Act.put, List.setIfInBounds_toArray, List.set_cons_zero, List.set_cons_succ, i64_w, i32_w]
    rfl
  refine pure_ (i := 7) (N := some 84) (v := ?_) (a' := ?_) #[true, true, true, true, true, true, true, true, false, false, false] rfl rfl (by kernel_rfl) (fun _ _ _ h => h) (Or.inl ⟨by rfl, ?_⟩) ?_ ?_
  rotate_left
  · intro w'
    go_simp
    with_reducible rfl
  rotate_left
  · simp only [Act.put, List.setIfInBounds_toArray, List.set_cons_zero, List.set_cons_succ, i64_w, i32_w]
    rfl
  refine pure_ (i := 8) (N := some 85) (v := ?_) (a' := ?_) #[true, true, true, true, true, true, true, true, true, false, false] rfl rfl (by kernel_rfl) (fun _ _ _ h => h) (Or.inl ⟨by rfl, ?_⟩) ?_ ?_
  rotate_left
  · intro w'
    go_simp
    with_reducible rfl
  rotate_left
  · simp only [Act.put, List.setIfInBounds_toArray, List.set_cons_zero, List.set_cons_succ, i64_w, i32_w]
    rfl
  refine pure_ (i := 9) (N := some 86) (v := ?_) (a' := ?_) #[true, true, true, true, true, true, true, true, true, true, false] rfl rfl (by kernel_rfl) (fun _ _ _ h => h) (Or.inl ⟨by rfl, ?_⟩) ?_ ?_
  rotate_left
  · intro w'
    go_simp
    with_reducible rfl
  rotate_left
  · simp only [Act.put, List.setIfInBounds_toArray, List.set_cons_zero, List.set_cons_succ, i64_w, i32_w]
    rfl
  refine last_ (i := 10) (N := none) #[true, true, true, true, true, true, true, true, true, true, true] rfl rfl (by kernel_rfl) (by decide) (fun K hK => ?_)
  refine skip_ (w1 := ?_) (by rfl) rfl ?_ ?_
  rotate_left
  · go_simp
    rfl
  refine hK.out _ _ ?_
  clear hK K
  refine done_ (by kernel_rfl) ?_
  go_wp2_with fail
  clear hHeld
  have e : ∀ (W : World) (o : Obj) (n : Nat), n = W.heap.size → (W.alloc o).heap[n]? = some o := fun W o n h => by rw [h]; exact blk_new W o
  obtain ⟨W, hW⟩ : ∃ W : World, W = ((w2.setCell ⟨d, 3, none⟩ (.slice (some ⟨g, 4, none⟩) 7 7)).alloc (.cells #[.slice (some ⟨d, 0, none⟩) 2 2] 41)).drew := ⟨_, rfl⟩
  have YA := Aside0.mk (show W.heap[w2.heap.size]? = some (.cells #[.slice (some ⟨d, 0, none⟩) 2 2] 41 (0, 0)) from by rw [hW]; exact blk_drew (e _ _ _ (by simp)))
  have F : ∀ k, k ≠ d → ∀ o, w2.heap[k]? = some o → W.heap[k]? = some o := fun k hk o h => by rw [hW]; exact blk_drew (blk_alloc ((Below.heap_setCell w2 ⟨d, 3, none⟩ _ k hk).trans h) _)
  have HBW : Aside0 (Below w.heap.size w W) := ⟨by rw [hW]; exact below_drew1 (below_alloc (below_set HB.out HW.out.1) _)⟩
  have OWN : W.heap[d]? = some (.cells (#[.int .i64 0, .slice (some ⟨m, 0, none⟩) 5 5, .int .i64 2, .slice (some ⟨g, 0, none⟩) 8 8].setIfInBounds 3 (.slice (some ⟨g, 4, none⟩) 7 7)) 24 (0, 0)) := by rw [hW]; exact blk_drew (blk_alloc (blk_set HA.out.bd 3 _) _)
  have n3 : ∀ k cs, w2.heap[k]? = some (.cells cs 3 (0, 0)) → k ≠ d := fun k cs h => blk_ne h HA.out.bd (by decide)
  have AA : AddsAt W w1.heap.size g g1 g2 g3 := ⟨F _ (blk_ne HA.out.A.b HA.out.bd (by decide)) _ HA.out.A.b, F _ (n3 _ _ HA.out.A.b1) _ HA.out.A.b1, F _ (n3 _ _ HA.out.A.b2) _ HA.out.A.b2, F _ (n3 _ _ HA.out.A.b3) _ HA.out.A.b3, HA.out.A.l, HA.out.A.l1, HA.out.A.l2, HA.out.A.l3⟩
  have K1 := F _ (n3 _ _ HA.out.bk1) _ HA.out.bk1
  have K2 := F _ (n3 _ _ HA.out.bk2) _ HA.out.bk2
  have OTH := F _ (Ne.symm ndm) _ HA.out.bm
  rw [← hW]
  clear hW
  obtain ⟨n, hn⟩ : ∃ n : Nat, n < 1 := ⟨0, by decide⟩
  have TL : Kd.C k33 W (some ⟨g, 4, none⟩) 7 [⟨1, 3, 0, []⟩, ⟨1, 1, 0, []⟩, ⟨4, 0, 0, [1, 2]⟩, ⟨1, 0, 0, []⟩, ⟨1, 1, 0, []⟩, ⟨4, 0, 0, [4, 5]⟩, ⟨5, 7, 2, [0, 3, 6]⟩] := Kd.C_drop (c := 8) (m := 1) (xs := addsL) (A := some ⟨g, 0, none⟩) (adds_C AA) (by decide) (by decide)
  have HC := Aside0.mk (C_lit2 [⟨⟨0, mainL⟩, some ⟨m, 0, none⟩, 5⟩, ⟨⟨2, [⟨1, 3, 0, []⟩, ⟨1, 1, 0, []⟩, ⟨4, 0, 0, [1, 2]⟩, ⟨1, 0, 0, []⟩, ⟨1, 1, 0, []⟩, ⟨4, 0, 0, [4, 5]⟩, ⟨5, 7, 2, [0, 3, 6]⟩]⟩, some ⟨g, 4, none⟩, 7⟩] OWN rfl (by simp) (all2_cons (lit2_ok (by simp [mainL]) (main_Cd 1 OTH K1 K2)) (all2_cons (lit2_ok (by simp) TL) all2_nil)) 2 (by simp))
  clear OWN OTH AA K1 K2 F n3 TL s0 s3
  clear e HA HB HW ld lm nd nm nd1 nd2 ld1 ld2 ndm d0 d1 d2 d3 e0 e1 e2 e3 m17 f17
  generalize w2.heap.size = X at *
  go_wp2_with fail
  refine (small6_calls _).mono ?_
  rintro e w6 ⟨d_, m_, k1_, k2_, h_, h1, h2, h3, rfl, hD, hb6⟩
  have HD := Aside0.mk (small_Cd hD)
  have HT := Aside0.mk hb6
  have HBX := Aside0.mk (below_step HBW.out hb6)
  clear hD hb6 HBW
  go_wp2_with fail
  refine (program_May.calls _ _ [⟨0, mainL⟩, ⟨2, addsL⟩] true _ (HD.out) (by decide) (by decide +kernel)).mono ?_
  rintro e w7 ⟨rfl, hb⟩
  have HBX1 := Aside0.mk (below_step HBX.out hb)
  have HT1 := Aside0.mk (below_step HT.out hb)
  clear HBX HT hb
  have y0 : w7.cell? ⟨X, 0, none⟩ = some (.slice (some ⟨d, 0, none⟩) 2 2) := (blk_cell (blk_below YA.out HT1.out) 0).trans rfl
  go_wp2_with fail
  refine (program_May.calls _ _ [⟨0, mainL⟩, ⟨2, [⟨1, 3, 0, []⟩, ⟨1, 1, 0, []⟩, ⟨4, 0, 0, [1, 2]⟩, ⟨1, 0, 0, []⟩, ⟨1, 1, 0, []⟩, ⟨4, 0, 0, [4, 5]⟩, ⟨5, 7, 2, [0, 3, 6]⟩]⟩] false _ (Kd.C_below HC.out HT1.out) (by simp) (congrArg some (may6_5 n hn))).mono ?_
  rintro e w8 ⟨rfl, hb⟩
  have HBX := Aside0.mk (below_step HBX1.out hb)
  clear hb HBX1 HT1 y0 YA HC
  go_wp2_with fail
  refine (num_calls 0 _).mono ?_
  rintro e w9 ⟨rfl, rfl⟩
  go_wp2
  go_ret
  exact ⟨rfl, HBX.out⟩
end Go.Proofs.Ytkpblifelpokfaa.PAll
