/- Definitions behind main in another row, called by their new numbers: what program.May answers stays (P6.1). The condition: the two places lie behind main and inside the program. -/
import Derived.Test.YtkpblifelpokfaaPgmMay
namespace Go.Proofs.Ytkpblifelpokfaa.PAll
open Go.RowKit Go.Proofs.YtkpblifelpokfaaW.PrintWords Go.Proofs.YtkpblifelpokfaaW.PrintLast Go.Proofs.YtkpblifelpokfaaW.PrintMore
set_option linter.unusedVariables false
set_option linter.unusedSimpArgs false

def renE (x y : Int) (e : S33) : S33 := if e.f0 = 2 then (if e.f1 = x then ⟨e.f0, y, e.f2, e.f3⟩ else if e.f1 = y then ⟨e.f0, x, e.f2, e.f3⟩ else e) else e
def renD (x y : Int) (d : S24) : S24 := ⟨d.f0, d.f1.map (renE x y)⟩
def sw (i j k : Nat) : Nat := if k = j then i else if k = i then j else k
def swapL (l : List S24) (i j : Nat) : List S24 := (l.set i (l.getD j z24)).set j (l.getD i z24)
theorem sw_sw (i j k : Nat) : sw i j (sw i j k) = k := by
  unfold sw
  by_cases h1 : k = j
  · rw [if_pos h1]
    by_cases h3 : i = j
    · rw [if_pos h3]; omega
    · rw [if_neg h3, if_pos rfl]; omega
  · rw [if_neg h1]
    by_cases h2 : k = i
    · rw [if_pos h2, if_pos rfl]; omega
    · rw [if_neg h2, if_neg h1, if_neg h2]
theorem sw_lt {i j n k : Nat} (hi : i < n) (hj : j < n) (hk : k < n) : sw i j k < n := by
  unfold sw
  split
  · exact hi
  · split
    · exact hj
    · exact hk
theorem swap_length (l : List S24) (i j : Nat) : (swapL l i j).length = l.length := by unfold swapL; rw [List.length_set, List.length_set]
theorem swap_getD (l : List S24) (i j : Nat) (hi : i < l.length) (hj : j < l.length) (k : Nat) : (swapL l i j).getD k z24 = l.getD (sw i j k) z24 := by
  unfold swapL sw
  by_cases h1 : k = j
  · subst h1
    rw [if_pos rfl, List.getD_eq_getElem?_getD, List.getElem?_set_self (by rw [List.length_set]; exact hj)]
    rfl
  · rw [if_neg h1, List.getD_eq_getElem?_getD, List.getElem?_set_ne (Ne.symm h1)]
    by_cases h2 : k = i
    · subst h2
      rw [if_pos rfl, List.getElem?_set_self hi]
      rfl
    · rw [if_neg h2, List.getElem?_set_ne (Ne.symm h2), ← List.getD_eq_getElem?_getD]
theorem renE_f0 (x y : Int) (e : S33) : (renE x y e).f0 = e.f0 := by
  unfold renE
  split
  · split
    · rfl
    · split <;> rfl
  · rfl
theorem renE_f2 (x y : Int) (e : S33) : (renE x y e).f2 = e.f2 := by
  unfold renE
  split
  · split
    · rfl
    · split <;> rfl
  · rfl
theorem renE_f3 (x y : Int) (e : S33) : (renE x y e).f3 = e.f3 := by
  unfold renE
  split
  · split
    · rfl
    · split <;> rfl
  · rfl
theorem renE_other (x y : Int) (e : S33) (h : e.f0 ≠ 2) : renE x y e = e := by unfold renE; rw [if_neg h]
theorem withinB_iff (a m : Int) : withinB a m = true ↔ 0 ≤ a ∧ a ≤ m := by
  unfold withinB
  split
  · simp; omega
  · simp; omega
theorem partB_ren (x y : Int) (hx : 0 ≤ x ∧ x ≤ 7) (hy : 0 ≤ y ∧ y ≤ 7) (e : S33) (lv : Int) : partB (renE x y e) lv = partB e lv := by
  by_cases h : e.f0 = 2
  · have hp : plainB (renE x y e) 0 0 3 = plainB e 0 0 3 := by unfold plainB; rw [renE_f2, renE_f3]
    have hw : withinB (renE x y e).f1 7 = withinB e.f1 7 := by
      rw [Bool.eq_iff_iff, withinB_iff, withinB_iff]
      unfold renE
      rw [if_pos h]
      by_cases h1 : e.f1 = x
      · rw [if_pos h1]; show 0 ≤ y ∧ y ≤ 7 ↔ _; omega
      · rw [if_neg h1]
        by_cases h2 : e.f1 = y
        · rw [if_pos h2]; show 0 ≤ x ∧ x ≤ 7 ↔ _; omega
        · rw [if_neg h2]
    have h0 := renE_f0 x y e
    unfold partB
    rw [hp, hw, h0, if_neg (show ¬ e.f0 = 0 by omega), if_neg (show ¬ e.f0 = 1 by omega), if_pos h, if_neg (show ¬ e.f0 = 0 by omega), if_neg (show ¬ e.f0 = 1 by omega), if_pos h]
  · rw [renE_other x y e h]
theorem moreB_ren (x y : Int) (e : S33) (k : Int) : moreB (renE x y e) k = moreB e k := by unfold moreB; rw [renE_f0, renE_f2]
theorem kidsB_congr (n1 n2 : List Int → Bool) (e1 e2 : S33) (hm : ∀ k, moreB e1 k = moreB e2 k) (hn : ∀ ls, n1 ls = n2 ls) (i : Nat) : ∀ (ks : List Int) (k : Nat) (ls : List Int), kidsB n1 e1 i k ks ls = kidsB n2 e2 i k ks ls
  | [], _, ls => hn ls
  | kid :: r, k, ls => by
    simp only [kidsB]
    rw [hm, kidsB_congr n1 n2 e1 e2 hm hn i r]
theorem map_getD (f : S33 → S33) (l : List S33) (j : Nat) (hj : j < l.length) : (l.map f).getD j z33 = f (l.getD j z33) := by
  rw [List.getD_eq_getElem?_getD, List.getElem?_map, List.getD_eq_getElem?_getD, List.getElem?_eq_getElem hj]; rfl
theorem bodyB_ren (x y : Int) (hx : 0 ≤ x ∧ x ≤ 7) (hy : 0 ≤ y ∧ y ≤ 7) (body : List S33) : ∀ (j : Nat) (ls : List Int), j ≤ body.length → bodyB (body.map (renE x y)) j ls = bodyB body j ls
  | 0, _, _ => rfl
  | j + 1, ls, h => by
    simp only [bodyB]
    rw [map_getD _ _ _ (by omega), partB_ren x y hx hy, renE_f3, kidsB_congr (bodyB (body.map (renE x y)) j) (bodyB body j) (renE x y (body.getD j z33)) (body.getD j z33) (moreB_ren x y _) (fun ls => bodyB_ren x y hx hy body j ls (by omega))]
theorem mayB_ren (x y : Int) (hx : 0 ≤ x ∧ x ≤ 7) (hy : 0 ≤ y ∧ y ≤ 7) (p : Int) (body : List S33) : mayB p (body.map (renE x y)) = mayB p body := by
  unfold mayB
  rw [List.length_map, bodyB_ren x y hx hy body _ _ (Nat.le_refl _)]
theorem mapD_getD (x y : Int) (m : List S24) (k : Nat) (hk : k < m.length) : (m.map (renD x y)).getD k z24 = renD x y (m.getD k z24) := by
  rw [List.getD_eq_getElem?_getD, List.getElem?_map, List.getD_eq_getElem?_getD, List.getElem?_eq_getElem hk]; rfl
theorem mapD_f0 (x y : Int) (m : List S24) (k : Nat) : ((m.map (renD x y)).getD k z24).f0 = (m.getD k z24).f0 := by
  rw [List.getD_eq_getElem?_getD, List.getElem?_map, List.getD_eq_getElem?_getD]
  cases m[k]? <;> rfl
def goodB (defs : List S24) (d : S24) : Bool := mayB d.f0 d.f1 && !(d.f1.any (oddB defs))
theorem defsB_all (defs : List S24) : ∀ l : List S24, defsB defs l = l.all (goodB defs)
  | [] => rfl
  | d :: r => by
    simp only [defsB, List.all_cons]
    rw [defsB_all defs r]
    unfold goodB
    cases mayB d.f0 d.f1
    · simp
    · cases d.f1.any (oddB defs) <;> simp
theorem all_getD (l : List S24) (P : S24 → Bool) : l.all P = true ↔ ∀ k, k < l.length → P (l.getD k z24) = true := by
  rw [List.all_eq_true]
  constructor
  · intro h k hk
    rw [List.getD_eq_getElem?_getD, List.getElem?_eq_getElem hk]
    exact h _ (List.getElem_mem hk)
  · intro h d hd
    obtain ⟨k, hk, rfl⟩ := List.mem_iff_getElem.1 hd
    have := h k hk
    rw [List.getD_eq_getElem?_getD, List.getElem?_eq_getElem hk] at this
    exact this
theorem oddB_ren (l : List S24) (i j : Nat) (hi : i < l.length) (hj : j < l.length) (e : S33) (he : e.f0 = 2 → 0 ≤ e.f1) :
    oddB ((swapL l i j).map (renD i j)) (renE i j e) = oddB l e := by
  unfold oddB
  rw [renE_f0, renE_f3, List.length_map, swap_length]
  by_cases h : e.f0 = 2
  · rw [if_pos h, if_pos h, mapD_f0, swap_getD l i j hi hj]
    have h0 := he h
    unfold renE
    rw [if_pos h]
    by_cases h1 : e.f1 = i
    · rw [if_pos h1]
      show (if (l.length : Int) ≤ (j : Int) then _ else _) = _
      rw [if_neg (by omega), if_neg (by omega), h1]
      show ((e.f3.length : Int) != (l.getD (sw i j (j : Int).toNat) z24).f0) = _
      rw [show sw i j (j : Int).toNat = (i : Int).toNat from by unfold sw; rw [if_pos (by omega)]; omega]
    · rw [if_neg h1]
      by_cases h2 : e.f1 = j
      · rw [if_pos h2]
        show (if (l.length : Int) ≤ (i : Int) then _ else _) = _
        rw [if_neg (by omega), if_neg (by omega), h2]
        show ((e.f3.length : Int) != (l.getD (sw i j (i : Int).toNat) z24).f0) = _
        rw [show sw i j (i : Int).toNat = (j : Int).toNat from by unfold sw; rw [if_neg (by omega), if_pos (by omega)]; omega]
      · rw [if_neg h2]
        by_cases h3 : (l.length : Int) ≤ e.f1
        · rw [if_pos h3, if_pos h3]
        · rw [if_neg h3, if_neg h3, show sw i j e.f1.toNat = e.f1.toNat from by unfold sw; rw [if_neg (by omega), if_neg (by omega)]]
  · rw [if_neg h, if_neg h]
theorem good_ren (l : List S24) (i j : Nat) (hi : i < l.length) (hj : j < l.length) (hl : l.length ≤ 8) (d : S24) :
    goodB ((swapL l i j).map (renD i j)) (renD i j d) = goodB l d := by
  unfold goodB
  show (mayB d.f0 (d.f1.map (renE i j)) && !((d.f1.map (renE i j)).any (oddB _))) = _
  rw [mayB_ren i j (by omega) (by omega)]
  cases hm : mayB d.f0 d.f1
  · rfl
  · have hc := (may_calls _ _ hm).2
    rw [List.any_map]
    congr 2
    rw [Bool.eq_iff_iff, List.any_eq_true, List.any_eq_true]
    constructor
    · rintro ⟨e, h1, h2⟩
      exact ⟨e, h1, by rw [← oddB_ren l i j hi hj e (hc e h1)]; exact h2⟩
    · rintro ⟨e, h1, h2⟩
      exact ⟨e, h1, by show oddB _ (renE i j e) = true; rw [oddB_ren l i j hi hj e (hc e h1)]; exact h2⟩
/-- The plain law. -/
theorem pmayB_ren (l : List S24) (i j : Nat) (h0i : 1 ≤ i) (h0j : 1 ≤ j) (hi : i < l.length) (hj : j < l.length) :
    pmayB ((swapL l i j).map (renD i j)) = pmayB l := by
  unfold pmayB
  rw [List.length_map, swap_length]
  by_cases h1 : l.length = 0
  · rw [if_pos h1, if_pos h1]
  · rw [if_neg h1, if_neg h1]
    by_cases h2 : 8 < l.length
    · rw [if_pos h2, if_pos h2]
    · rw [if_neg h2, if_neg h2, mapD_f0, swap_getD l i j hi hj, show sw i j 0 = 0 from by unfold sw; rw [if_neg (by omega), if_neg (by omega)]]
      by_cases h3 : (l.getD 0 z24).f0 = 0
      · rw [if_pos h3, if_pos h3, defsB_all, defsB_all, Bool.eq_iff_iff, all_getD, all_getD, List.length_map, swap_length]
        have key : ∀ k, k < l.length → goodB ((swapL l i j).map (renD i j)) (((swapL l i j).map (renD i j)).getD k z24) = goodB l (l.getD (sw i j k) z24) := fun k hk => by
          rw [mapD_getD _ _ _ _ (by rw [swap_length]; exact hk), good_ren l i j hi hj (by omega), swap_getD l i j hi hj]
        constructor
        · intro h k hk
          have h4 := h (sw i j k) (sw_lt hi hj hk)
          rw [key _ (sw_lt hi hj hk), sw_sw] at h4
          exact h4
        · intro h k hk
          rw [key k hk]
          exact h _ (sw_lt hi hj hk)
      · rw [if_neg h3, if_neg h3]
end Go.Proofs.Ytkpblifelpokfaa.PAll
