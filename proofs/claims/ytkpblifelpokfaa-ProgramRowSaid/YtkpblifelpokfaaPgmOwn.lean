/- A program of one's own in memory, its definitions' bodies apart: read, moved, two definitions exchanged, a number of a part written. No condition. -/
import Derived.Test.YtkpblifelpokfaaPgmRen
import Derived.Test.YtkpblifelpokfaaPgmCopy
namespace Go.Proofs.Ytkpblifelpokfaa.PAll
open Go.RowKit Go.Proofs.YtkpblifelpokfaaW.PrintWords Go.Proofs.YtkpblifelpokfaaW.PrintLast Go.Proofs.YtkpblifelpokfaaW.PrintMore
set_option linter.unusedVariables false
set_option linter.unusedSimpArgs false

structure Prow (W : World) (base G : Nat) (cs : Array Value) (f : Nat → Nat) (xs : List S24) : Prop where
  b : W.heap[G]? = some (.cells cs 24 (0, 0))
  ge : base ≤ G
  sz : xs.length * 2 ≤ cs.size
  el : ∀ i, i < xs.length → ∃ v, cs[i * 2]? = some (.int .i64 (xs.getD i z24).f0) ∧ cs[i * 2 + 1]? = some v ∧ k33.R 33 W base (fun k => k ≠ G ∧ f k = i) v (xs.getD i z24).f1

theorem Prow.of_S {W : World} {base : Nat} {v : Value} {xs : List S24} (h : Kd.S k24 24 W base (fun _ => True) v xs) (hp : 0 < xs.length) :
    ∃ G cap cs f, v = .slice (some ⟨G, 0, none⟩) xs.length cap ∧ xs.length ≤ cap ∧ Prow W base G cs f xs := by
  obtain ⟨G, cap, rfl, hb, hlt, cells, hblk⟩ := Kd.S_form h hp
  have hcap := (Kd.S_reads' h).2.1
  obtain ⟨f, hok0, inner, ho, hr⟩ := h
  have hgo : some G = (Value.slice (some ⟨G, 0, none⟩) xs.length cap).ownBlock := by simp [Value.ownBlock]
  have hlen : inner.length = xs.length * 2 := by have := hr.1; rw [List.length_zipIdx] at this; exact this
  have hcell : ∀ (j : Nat) (u : Value), inner[j]? = some u → cells[j]? = some u := fun j u hu => by
    have := ho.cells (g := G) hgo.symm j u hu
    rw [add_plain] at this
    rw [← blk_cell hblk j, ← this]
  refine ⟨G, cap, cells, f, rfl, hcap, hblk, hb, ?_, fun i hi => ?_⟩
  · rw [← hlen]
    rcases Nat.eq_zero_or_pos inner.length with h0 | h0
    · omega
    · have := hcell (inner.length - 1) _ (List.getElem?_eq_getElem (by omega))
      have := (Array.getElem?_eq_some_iff.1 this).1
      omega
  · have hM : k24.M W base (fun k => (True ∧ some k ≠ (Value.slice (some ⟨G, 0, none⟩) xs.length cap).ownBlock) ∧ f k = i) xs[i] ((inner.drop (i * 2)).take 2) := hr.2 i _ (Kd.zip_at (List.getElem?_eq_getElem hi))
    obtain ⟨v1, hc, hR⟩ := k24_openM hM
    have e : xs.getD i z24 = xs[i] := by rw [List.getD_eq_getElem?_getD, List.getElem?_eq_getElem hi]; rfl
    have hat : ∀ j u, ((inner.drop (i * 2)).take 2)[j]? = some u → inner[i * 2 + j]? = some u := fun j u hu => by
      rw [List.getElem?_take] at hu
      split at hu
      · rw [List.getElem?_drop] at hu; exact hu
      · cases hu
    refine ⟨v1, ?_, ?_, ?_⟩
    · rw [e]; exact hcell _ _ (hat 0 _ (by rw [hc]; rfl))
    · exact hcell _ _ (hat 1 _ (by rw [hc]; rfl))
    · rw [e]
      exact Kd.R_mono hR (fun k hk => ⟨fun h2 => hk.1.2 (by rw [h2]; exact hgo), hk.2⟩)
theorem Prow.C {W : World} {base G : Nat} {cs : Array Value} {f : Nat → Nat} {xs : List S24} (h : Prow W base G cs f xs) (hN : xs.length ≤ 9223372036854775807) : Kd.C k24 W (some ⟨G, 0, none⟩) xs.length xs := by
  refine ⟨rfl, hN, fun _ => ⟨_, rfl, fun j y hj => ?_⟩⟩
  have hl := (List.getElem?_eq_some_iff.1 hj).1
  have e : xs.getD j z24 = y := by rw [List.getD_eq_getElem?_getD, hj]; rfl
  obtain ⟨v, h0, h1, h2⟩ := h.el j hl
  rw [e] at h0 h2
  obtain ⟨A, c, rfl, hc, hC⟩ := Kd.R_reads h2
  refine ⟨[.int .i64 y.f0, .slice A y.f1.length c], rfl, k24_mk W y hc hC, fun i u hu => ?_⟩
  rw [add_plain]
  refine (blk_cell h.b _).trans ?_
  match i, hu with
  | 0, hu => simp at hu; subst hu; exact h0
  | 1, hu => simp at hu; subst hu; exact h1
  | i + 2, hu => simp at hu
theorem Prow.below {W W1 : World} {base G : Nat} {cs : Array Value} {f : Nat → Nat} {xs : List S24} (h : Prow W base G cs f xs) (hb : Below W.heap.size W W1) : Prow W1 base G cs f xs :=
  ⟨blk_below h.b hb, h.ge, h.sz, fun i hi => by obtain ⟨v, h0, h1, h2⟩ := h.el i hi; exact ⟨v, h0, h1, Kd.R_below h2 hb⟩⟩
/-- Another block is written, of a type that no row inside has. -/
theorem Prow.far {W : World} {base G g t : Nat} {cs cells : Array Value} {f : Nat → Nat} {xs : List S24} (h : Prow W base G cs f xs) (hb : W.heap[g]? = some (.cells cells t (0, 0))) (ht : ∀ q, q ∈ 33 :: k33.E → q ≠ t) (hg : g ≠ G) (j : Nat) (u : Value) :
    Prow (W.setCell ⟨g, j, none⟩ u) base G cs f xs :=
  ⟨blk_far h.b (Ne.symm hg) u, h.ge, h.sz, fun i hi => by obtain ⟨v, h0, h1, h2⟩ := h.el i hi; exact ⟨v, h0, h1, Kd.R_set h2 hb ht j u⟩⟩
/-- Element i, part m: where they lie. -/
theorem Prow.at_ {W : World} {base G : Nat} {cs : Array Value} {f : Nat → Nat} {xs : List S24} (h : Prow W base G cs f xs) (i : Nat) (hi : i < xs.length) (m : Nat) (hm : m < (xs.getD i z24).f1.length) :
    ∃ B c cb, W.cell? ⟨G, i * 2 + 1, none⟩ = some (.slice (some ⟨B, 0, none⟩) (xs.getD i z24).f1.length c) ∧ (xs.getD i z24).f1.length ≤ c ∧ base ≤ B ∧ B ≠ G ∧ W.heap[B]? = some (.cells cb 33 (0, 0)) ∧
      W.cell? ⟨B, m * 4, none⟩ = some (.int .i64 ((xs.getD i z24).f1.getD m z33).f0) ∧ W.cell? ⟨B, m * 4 + 1, none⟩ = some (.int .i64 ((xs.getD i z24).f1.getD m z33).f1) ∧
      ∀ y : Int, Prow (W.setCell ⟨B, m * 4 + 1, none⟩ (.int .i64 y)) base G cs f (xs.set i ⟨(xs.getD i z24).f0, (xs.getD i z24).f1.set m ⟨((xs.getD i z24).f1.getD m z33).f0, y, ((xs.getD i z24).f1.getD m z33).f2, ((xs.getD i z24).f1.getD m z33).f3⟩⟩) := by
  obtain ⟨v, h0, h1, h2⟩ := h.el i hi
  obtain ⟨x, hx⟩ : ∃ x, x = xs.getD i z24 := ⟨_, rfl⟩
  rw [← hx] at h0 h2 hm ⊢
  obtain ⟨B, c, rfl, hb, hlt, cb, hbl⟩ := Kd.R_form h2 (by omega)
  have hc := (Kd.R_reads' h2).2.1
  have hBG := h2.1 B (by simp [Value.ownBlock])
  obtain ⟨cc, hcl, hM, hcc, hfr⟩ := Kd.R_elem h2 z33 (m : Int) (by omega) (by omega)
  rw [show ((m : Int)).toNat = m from Int.toNat_natCast m] at hM hcc
  have hcc' : ∀ j u, cc[j]? = some u → W.cell? ⟨B, m * 4 + j, none⟩ = some u := hcc
  obtain ⟨e, he⟩ : ∃ e, e = x.f1.getD m z33 := ⟨_, rfl⟩
  rw [← he] at hM ⊢
  obtain ⟨v3, hcs, h3⟩ := k33_openM hM
  subst hcs
  refine ⟨B, c, cb, (blk_cell h.b _).trans h1, hc, hb, hBG.1, hbl, hcc' 0 _ rfl, hcc' 1 _ rfl, fun y => ?_⟩
  have hseg := Kd.R_seg h2 (m : Int) (by omega) (by omega) (c := [.int .i64 e.f0, .int .i64 e.f1, .int .i64 e.f2, v3]) (seg := [.int .i64 y]) (j := 1) (x' := (⟨e.f0, y, e.f2, e.f3⟩ : S33)) rfl (by rw [Int.toNat_natCast]; exact hcc) (show (2 : Nat) ≤ 4 by omega) (k33_mkM W base _ (⟨e.f0, y, e.f2, e.f3⟩ : S33) h3) (fun k hk => hk)
  rw [Int.toNat_natCast] at hseg
  have hR1 : k33.R 33 (W.setCell ⟨B, m * 4 + 1, none⟩ (.int .i64 y)) base (fun k => k ≠ G ∧ f k = i) (.slice (some ⟨B, 0, none⟩) x.f1.length c) (x.f1.set m ⟨e.f0, y, e.f2, e.f3⟩) := hseg.1
  refine ⟨blk_far h.b (Ne.symm hBG.1) _, h.ge, by rw [List.length_set]; exact h.sz, fun j hj => ?_⟩
  rw [List.length_set] at hj
  by_cases hij : i = j
  · subst hij
    rw [show ∀ q, (xs.set i q).getD i z24 = q from fun q => by rw [List.getD_eq_getElem?_getD, List.getElem?_set_self hi]; rfl]
    exact ⟨_, h0, h1, hR1⟩
  · rw [show ∀ q, (xs.set i q).getD j z24 = xs.getD j z24 from fun q => by rw [List.getD_eq_getElem?_getD, List.getElem?_set_ne hij, ← List.getD_eq_getElem?_getD]]
    obtain ⟨v', k0, k1, k2⟩ := h.el j hj
    exact ⟨v', k0, k1, Kd.R_far k2 (fun k hk hkB => hij (by have hk' : k = B := hkB; rw [← hBG.2, ← hk']; exact hk.2)) _⟩
/-- Two elements exchanged. W1: the world after it. -/
theorem Prow.swap {W W1 : World} {base G : Nat} {cs cs1 : Array Value} {f : Nat → Nat} {xs : List S24} (h : Prow W base G cs f xs) (i j : Nat) (hi : i < xs.length) (hj : j < xs.length)
    (hb : W1.heap[G]? = some (.cells cs1 24 (0, 0))) (hsz : cs1.size = cs.size) (hfar : ∀ k, k ≠ G → k < W.heap.size → W1.heap[k]? = W.heap[k]?)
    (hcs : ∀ k, k < xs.length → cs1[k * 2]? = cs[sw i j k * 2]? ∧ cs1[k * 2 + 1]? = cs[sw i j k * 2 + 1]?) :
    Prow W1 base G cs1 (fun k => sw i j (f k)) (swapL xs i j) := by
  refine ⟨hb, h.ge, by rw [swap_length, hsz]; exact h.sz, fun k hk => ?_⟩
  rw [swap_length] at hk
  rw [swap_getD xs i j hi hj]
  obtain ⟨v, h0, h1, h2⟩ := h.el (sw i j k) (sw_lt hi hj hk)
  refine ⟨v, (hcs k hk).1.trans h0, (hcs k hk).2.trans h1, ?_⟩
  exact Kd.R_mono (Kd.R_step h2 (fun q hq hlt => hfar q hq.1 hlt)) (fun q hq => ⟨hq.1, by show sw i j (f q) = k; rw [hq.2, sw_sw]⟩)
end Go.Proofs.Ytkpblifelpokfaa.PAll
