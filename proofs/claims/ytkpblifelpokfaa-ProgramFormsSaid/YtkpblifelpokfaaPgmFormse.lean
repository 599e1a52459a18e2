import Derived.Test.YtkpblifelpokfaaPgmFormsa
import Derived.Test.YtkpblifelpokfaaPgmMake
namespace Go.Proofs.Ytkpblifelpokfaa.PAll
open Go.RowKit Go.Proofs.YtkpblifelpokfaaW.PrintWords Go.Proofs.YtkpblifelpokfaaW.PrintLast Go.Proofs.YtkpblifelpokfaaW.PrintMore
set_option linter.unusedVariables false
set_option linter.unusedSimpArgs false
theorem program_May.callsN (A : Option Addr) (c : Nat) (l : List S24) (N : Nat) (hN : l.length = N) (r : Bool) (w : World) (hr : Kd.C k24 w A N l) (hc : N ≤ c) (h : pmayB l = r) :
    Calls Try.prog 20 #[.agg #[.slice A N c]] w fun e w' => e = .returned (.bool r) ∧ Below w.heap.size w w' := by
  subst hN
  exact program_May.calls A c l r w hr hc (congrArg some h)
set_option maxHeartbeats 4000000 in
set_option maxRecDepth 100000 in
theorem form6_1 (a x : Int) (w : World) (h : (IntKind.u64.wrap a).tmod 8 = 1) : Calls Try.prog 9 #[.int .i64 a, .int .i64 x] w fun e w' => e = .returned (.bool true) ∧ Below w.heap.size w w' := by
  have q0 : ((IntKind.u64.wrap a).tmod 8 == 0) = false := by rw [h]; rfl
  have q1 : ((IntKind.u64.wrap a).tmod 8 == 1) = true := by rw [h]; rfl
  go_enter Try.func9, Try.ntmps9
  go_wp2_with fail
  refine (sleuthlaw6_awake.calls true _ (by decide +kernel)).mono ?_
  rintro e w1 ⟨rfl, hb1⟩
  have HB1 := Aside0.mk hb1
  clear hb1
  go_wp2_with fail
  refine (small6_calls _).mono ?_
  rintro e w2 ⟨d, m, k1, k2, g, g1, g2, g3, rfl, hA, hb2⟩
  have HA := Aside0.mk hA
  have HB := Aside0.mk (below_step HB1.out hb2)
  clear hA hb2 HB1
  obtain ⟨n, hn, hd⟩ : ∃ n : Nat, n < 16 ∧ Go.bits .and .i64 x 15 = (n : Int) := ⟨(x % 16).toNat, by omega, by rw [and15]; omega⟩
  have mk := make24 n hn
  go_wp2_with fail
  clear mk
  have e : ∀ (W : World) (o : Obj) (n : Nat), n = W.heap.size → (W.alloc o).heap[n]? = some o := fun W o n h => by rw [h]; exact blk_new W o
  obtain ⟨W, hW⟩ : ∃ W : World, W = (w2.alloc (.cells #[.slice (some ⟨w2.heap.size + 1, 0, none⟩) (9 + n) (9 + n)] 41)).alloc (.cells (madeCells #[.int .i64 0, .slice none 0 0] ((9 + n) * 2)) 24) := ⟨_, rfl⟩
  have BX := Aside0.mk (show W.heap[w2.heap.size]? = some (.cells #[.slice (some ⟨w2.heap.size + 1, 0, none⟩) (9 + n) (9 + n)] 41 (0, 0)) from by rw [hW]; exact blk_alloc (e _ _ _ rfl) _)
  have MA := Aside0.mk (show Many W (w2.heap.size + 1) (9 + n) (madeCells #[.int .i64 0, .slice none 0 0] ((9 + n) * 2)) from made_many n hn (by rw [hW]; exact e _ _ _ (by simp)))
  have HBW := Aside0.mk (show Below w.heap.size w W from by rw [hW]; exact below_alloc (below_alloc HB.out _) _)
  have HG : Aside0 (w.heap.size ≤ w2.heap.size + 1) := ⟨by have := HB.out.size; omega⟩
  rw [← hW]
  clear hW e HA HB
  go_loopw [6] (fun v wr => ∃ k : Nat, k ≤ 9 + n ∧ v = .int .i64 (k : Int) ∧ Aside0 (Below w.heap.size w wr) ∧ Aside0 (wr.heap[w2.heap.size]? = some (.cells #[.slice (some ⟨w2.heap.size + 1, 0, none⟩) (9 + n) (9 + n)] 41 (0, 0))) ∧ Aside0 (∃ cs, Many wr (w2.heap.size + 1) (9 + n) cs)) (fun v _ => 9 + n - (intOf v).toNat)
  case atStart => exact ⟨0, Nat.zero_le _, rfl, HBW, BX, ⟨⟨_, MA.out⟩⟩⟩
  case round =>
    clear HBW BX MA
    obtain ⟨k, hk, rfl, HB, BX, HM⟩ := hrel
    have b0 : wr.cell? ⟨w2.heap.size, 0, none⟩ = some (.slice (some ⟨w2.heap.size + 1, 0, none⟩) (9 + n) (9 + n)) := (blk_cell BX.out 0).trans rfl
    obtain ⟨cs, hM0⟩ := HM.out
    have hM := Aside0.mk hM0
    clear HM hM0
    have lG := blk_lt hM.out.b
    have nG : w2.heap.size + 1 ≠ wr.heap.size := by omega
    by_cases hlt : k < 9 + n
    · obtain ⟨v0, hv, hs⟩ := hM.out.s k hlt
      have c1 : wr.cell? ⟨w2.heap.size + 1, k * 2 + 1, none⟩ = some v0 := (blk_cell hM.out.b _).trans hv
      have f1 := blk_frozen hM.out.b (k * 2 + 1)
      clear hv hs
      go_wp2_with fail
      go_roundw
      case rel => exact ⟨k + 1, by omega, by go_num, ⟨below_alloc (below_set HB.out HG.out) _⟩, ⟨blk_alloc (blk_far BX.out (by simp) _) _⟩, ⟨⟨_, Many.put_new hM.out k hlt⟩⟩⟩
      case measure => show 9 + n - (k + 1 : Int).toNat < 9 + n - (k : Int).toNat; omega
    · go_wp2_with fail
      refine (small6_calls _).mono ?_
      rintro e w6 ⟨d_, m_, k1_, k2_, h_, h1, h2, h3, rfl, hD, hb6⟩
      have HD := Aside0.mk (small_Ca hD)
      have HT := Aside0.mk hb6
      have HBX := Aside0.mk (below_step HB.out hb6)
      clear hD hb6 HB
      go_wp2_with fail
      refine (program_May.calls _ _ [⟨0, mainL⟩, ⟨2, addsL⟩] true _ (HD.out) (by decide) (by decide +kernel)).mono ?_
      rintro e w7 ⟨rfl, hb⟩
      have HBX1 := Aside0.mk (below_step HBX.out hb)
      have HT1 := Aside0.mk (below_step HT.out hb)
      clear HBX HT hb
      obtain ⟨ys, hl, hC⟩ := hM.out.C (by omega)
      have HC := Aside0.mk (Kd.C_below hC HT1.out)
      have y0 : w7.cell? ⟨w2.heap.size, 0, none⟩ = some (.slice (some ⟨w2.heap.size + 1, 0, none⟩) (9 + n) (9 + n)) := (blk_cell (blk_below BX.out HT1.out) 0).trans rfl
      clear hC
      have hp : pmayB ys = false := by unfold pmayB; rw [if_neg (by omega), if_pos (by omega)]
      go_wp2_with fail
      refine (program_May.callsN _ _ ys (9 + n) hl false _ HC.out (Nat.le_refl _) hp).mono ?_
      rintro e w8 ⟨rfl, hb⟩
      have HBX := Aside0.mk (below_step HBX1.out hb)
      clear hb HBX1 HT1 y0 HC
      go_wp2_with fail
      refine (num_calls 0 _).mono ?_
      rintro e w9 ⟨rfl, rfl⟩
      go_wp2
      go_ret
      exact ⟨rfl, HBX.out⟩
end Go.Proofs.Ytkpblifelpokfaa.PAll
