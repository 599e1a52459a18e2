/- A program while its parts are numbered anew one by one: the lists, and what lies in memory. No condition. -/
import Derived.Test.YtkpblifelpokfaaPgmOwn
namespace Go.Proofs.Ytkpblifelpokfaa.PAll
open Go.RowKit Go.Proofs.YtkpblifelpokfaaW.PrintWords Go.Proofs.YtkpblifelpokfaaW.PrintLast Go.Proofs.YtkpblifelpokfaaW.PrintMore
set_option linter.unusedVariables false
set_option linter.unusedSimpArgs false

def part (x y : Int) (b : List S33) (m : Nat) : List S33 := b.mapIdx (fun q e => if q < m then renE x y e else e)
theorem part_length (x y : Int) (b : List S33) (m : Nat) : (part x y b m).length = b.length := by simp [part]
theorem part_zero (x y : Int) (b : List S33) : part x y b 0 = b := List.ext_getElem (part_length x y b 0) (fun j h1 h2 => by simp [part])
theorem part_all (x y : Int) (b : List S33) : part x y b b.length = b.map (renE x y) := List.ext_getElem (by rw [part_length, List.length_map]) (fun j h1 h2 => by
  rw [part_length] at h1
  simp only [part, List.getElem_mapIdx, List.getElem_map]
  rw [if_pos h1])
theorem part_at (x y : Int) (b : List S33) (m : Nat) (hm : m < b.length) : (part x y b m).getD m z33 = b.getD m z33 := by
  rw [List.getD_eq_getElem?_getD, List.getD_eq_getElem?_getD, List.getElem?_eq_getElem (by rw [part_length]; exact hm), List.getElem?_eq_getElem hm]
  simp [part]
theorem part_set (x y : Int) (b : List S33) (m : Nat) (hm : m < b.length) : (part x y b m).set m (renE x y (b.getD m z33)) = part x y b (m + 1) := List.ext_getElem (by rw [List.length_set, part_length, part_length]) (fun j h1 h2 => by
  rw [List.getElem_set]
  simp only [part, List.getElem_mapIdx]
  by_cases h : m = j
  · subst h
    rw [if_pos rfl, if_pos (Nat.lt_succ_self m), List.getD_eq_getElem?_getD, List.getElem?_eq_getElem hm]
    rfl
  · rw [if_neg h]
    by_cases h3 : j < m
    · rw [if_pos h3, if_pos (by omega)]
    · rw [if_neg h3, if_neg (by omega)])
theorem part_same (x y : Int) (b : List S33) (m : Nat) (hm : m < b.length) (he : renE x y (b.getD m z33) = b.getD m z33) : part x y b m = part x y b (m + 1) := by
  rw [← part_set x y b m hm, he]
  refine List.ext_getElem (by rw [List.length_set]) (fun j h1 h2 => ?_)
  rw [List.getElem_set]
  by_cases h : m = j
  · subst h
    rw [if_pos rfl]
    have h3 := part_at x y b m hm
    rw [List.getD_eq_getElem?_getD, List.getElem?_eq_getElem h1] at h3
    exact h3
  · rw [if_neg h]

def stp (x y : Int) (l : List S24) (i m : Nat) : List S24 := l.mapIdx (fun j d => if j < i then renD x y d else if j = i then ⟨d.f0, part x y d.f1 m⟩ else d)
theorem stp_length (x y : Int) (l : List S24) (i m : Nat) : (stp x y l i m).length = l.length := by simp [stp]
theorem stp_getElem (x y : Int) (l : List S24) (i m j : Nat) (h : j < (stp x y l i m).length) (h2 : j < l.length) : (stp x y l i m)[j] = if j < i then renD x y l[j] else if j = i then ⟨l[j].f0, part x y l[j].f1 m⟩ else l[j] := by
  simp only [stp, List.getElem_mapIdx]
theorem stp_at (x y : Int) (l : List S24) (i m : Nat) (hi : i < l.length) : (stp x y l i m).getD i z24 = ⟨(l.getD i z24).f0, part x y (l.getD i z24).f1 m⟩ := by
  rw [List.getD_eq_getElem?_getD, List.getD_eq_getElem?_getD, List.getElem?_eq_getElem (by rw [stp_length]; exact hi), List.getElem?_eq_getElem hi]
  show (stp x y l i m)[i]'(by rw [stp_length]; exact hi) = _
  rw [stp_getElem x y l i m i _ hi, if_neg (Nat.lt_irrefl i), if_pos rfl]
  rfl
theorem stp_zero (x y : Int) (l : List S24) : stp x y l 0 0 = l := List.ext_getElem (stp_length x y l 0 0) (fun j h1 h2 => by
  rw [stp_getElem x y l 0 0 j h1 h2, if_neg (by omega), part_zero]
  split <;> rfl)
theorem stp_all (x y : Int) (l : List S24) : stp x y l l.length 0 = l.map (renD x y) := List.ext_getElem (by rw [stp_length, List.length_map]) (fun j h1 h2 => by
  rw [stp_length] at h1
  rw [stp_getElem x y l _ 0 j _ h1, if_pos h1, List.getElem_map])
theorem stp_next (x y : Int) (l : List S24) (i : Nat) (hi : i < l.length) : stp x y l i (l.getD i z24).f1.length = stp x y l (i + 1) 0 := List.ext_getElem (by rw [stp_length, stp_length]) (fun j h1 h2 => by
  have hj : j < l.length := by rw [stp_length] at h1; exact h1
  rw [stp_getElem x y l i _ j h1 hj, stp_getElem x y l (i + 1) 0 j h2 hj, part_zero]
  by_cases h : j < i
  · rw [if_pos h, if_pos (by omega)]
  · rw [if_neg h]
    by_cases h3 : j = i
    · subst h3
      have e : l.getD j z24 = l[j] := by rw [List.getD_eq_getElem?_getD, List.getElem?_eq_getElem hj]; rfl
      rw [if_pos rfl, if_pos (Nat.lt_succ_self j), e, part_all]
      rfl
    · rw [if_neg h3, if_neg (by omega)]
      split <;> rfl)
theorem stp_set (x y : Int) (l : List S24) (i m : Nat) (hi : i < l.length) (b : List S33) (hb : b = part x y (l.getD i z24).f1 (m + 1)) : (stp x y l i m).set i ⟨(l.getD i z24).f0, b⟩ = stp x y l i (m + 1) := List.ext_getElem (by rw [List.length_set, stp_length, stp_length]) (fun j h1 h2 => by
  have hj : j < l.length := by rw [stp_length] at h2; exact h2
  rw [List.getElem_set, stp_getElem x y l i (m + 1) j h2 hj]
  by_cases h : i = j
  · subst h
    have e : l.getD i z24 = l[i] := by rw [List.getD_eq_getElem?_getD, List.getElem?_eq_getElem hj]; rfl
    rw [if_pos rfl, if_neg (Nat.lt_irrefl i), if_pos rfl, hb, e]
  · rw [if_neg h, stp_getElem x y l i m j _ hj]
    by_cases h3 : j < i
    · rw [if_pos h3, if_pos h3]
    · rw [if_neg h3, if_neg h3, if_neg (by omega), if_neg (by omega)])
theorem stp_same (x y : Int) (l : List S24) (i m : Nat) (hi : i < l.length) (hm : m < (l.getD i z24).f1.length) (he : renE x y ((l.getD i z24).f1.getD m z33) = (l.getD i z24).f1.getD m z33) : stp x y l i m = stp x y l i (m + 1) := by
  rw [← stp_set x y l i m hi _ rfl, ← part_same x y _ m hm he, ← stp_at x y l i m hi]
  refine List.ext_getElem (by rw [List.length_set]) (fun j h1 h2 => ?_)
  rw [List.getElem_set]
  by_cases h : i = j
  · subst h
    rw [if_pos rfl, List.getD_eq_getElem?_getD, List.getElem?_eq_getElem h1]
    rfl
  · rw [if_neg h]

/-- What the inner loop finds and leaves. -/
theorem Prow.stepAt {W : World} {base G : Nat} {cs : Array Value} {f : Nat → Nat} {x y : Int} {l : List S24} {i m : Nat} (h : Prow W base G cs f (stp x y l i m)) (hi : i < l.length) (hm : m < (l.getD i z24).f1.length) :
    ∃ B c cb, W.cell? ⟨G, i * 2 + 1, none⟩ = some (.slice (some ⟨B, 0, none⟩) (l.getD i z24).f1.length c) ∧ (l.getD i z24).f1.length ≤ c ∧ base ≤ B ∧ B ≠ G ∧ W.heap[B]? = some (.cells cb 33 (0, 0)) ∧
      W.cell? ⟨B, m * 4, none⟩ = some (.int .i64 ((l.getD i z24).f1.getD m z33).f0) ∧ W.cell? ⟨B, m * 4 + 1, none⟩ = some (.int .i64 ((l.getD i z24).f1.getD m z33).f1) ∧
      ∀ z : Int, renE x y ((l.getD i z24).f1.getD m z33) = ⟨((l.getD i z24).f1.getD m z33).f0, z, ((l.getD i z24).f1.getD m z33).f2, ((l.getD i z24).f1.getD m z33).f3⟩ → Prow (W.setCell ⟨B, m * 4 + 1, none⟩ (.int .i64 z)) base G cs f (stp x y l i (m + 1)) := by
  have h2 := h.at_ i (by rw [stp_length]; exact hi) m (by rw [stp_at x y l i m hi]; show m < (part _ _ _ _).length; rw [part_length]; exact hm)
  rw [stp_at x y l i m hi] at h2
  simp only [part_length, part_at x y _ m hm] at h2
  obtain ⟨B, c, cb, p1, p2, p3, p4, p5, p6, p7, p8⟩ := h2
  refine ⟨B, c, cb, p1, p2, p3, p4, p5, p6, p7, fun z hz => ?_⟩
  have h3 := p8 z
  rw [← hz, part_set x y _ m hm, stp_set x y l i m hi _ rfl] at h3
  exact h3
theorem Prow.lenAt {W : World} {base G : Nat} {cs : Array Value} {f : Nat → Nat} {x y : Int} {l : List S24} {i m : Nat} (h : Prow W base G cs f (stp x y l i m)) (hi : i < l.length) :
    ∃ A c, W.cell? ⟨G, i * 2 + 1, none⟩ = some (.slice A (l.getD i z24).f1.length c) := by
  obtain ⟨v, h0, h1, h2⟩ := h.el i (by rw [stp_length]; exact hi)
  rw [stp_at x y l i m hi] at h2
  obtain ⟨A, c, rfl, _, _⟩ := Kd.R_reads h2
  refine ⟨A, c, (blk_cell h.b _).trans ?_⟩
  rw [h1]
  simp only [part_length]
end Go.Proofs.Ytkpblifelpokfaa.PAll
