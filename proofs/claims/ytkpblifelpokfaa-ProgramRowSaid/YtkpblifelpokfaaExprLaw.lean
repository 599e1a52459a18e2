/- The document's answer on a definition (sleuthref1.DefMay) is expr.May's: mayB. No condition. -/
import Derived.Test.YtkpblifelpokfaaExprMay
import Derived.Test.YtkpblifelpokfaaPAllgsleuthref1DefMay
namespace Go.Proofs.Ytkpblifelpokfaa.PAll
open Go.RowKit Go.Proofs.YtkpblifelpokfaaW.PrintWords Go.Proofs.YtkpblifelpokfaaW.PrintLast Go.Proofs.YtkpblifelpokfaaW.PrintMore
set_option linter.unusedVariables false
set_option linter.unusedSimpArgs false

theorem w64 (n : Int) (h : -9223372036854775808 ≤ n ∧ n ≤ 9223372036854775807) : wrap64 n = n := IntWalk.wrap64_in n h
theorem upTo_eq (a lo hi : Int) : sleuthref1_upTo.f a lo hi = some (decide (lo ≤ a ∧ a ≤ hi)) := by
  unfold sleuthref1_upTo.f
  by_cases h : a ≥ lo
  · rw [if_pos h]; simp [h]
  · rw [if_neg h]; simp [show ¬ lo ≤ a by omega]
theorem withinB_eq (a hi : Int) : withinB a hi = decide (0 ≤ a ∧ a ≤ hi) := by
  unfold withinB
  by_cases h : 0 ≤ a <;> simp [h]
theorem smallB_eq (a : Int) : smallB a = decide (-32768 ≤ a ∧ a ≤ 32767) := by
  unfold smallB
  by_cases h : -32768 ≤ a <;> simp [h]
theorem plainB_eq (x : S33) (b l m : Int) : plainB x b l m = decide (0 ≤ x.f2 ∧ x.f2 ≤ b ∧ l ≤ (x.f3.length : Int) ∧ (x.f3.length : Int) ≤ m) := by
  unfold plainB
  by_cases h : 0 ≤ x.f2
  · rw [if_pos h]
    by_cases h2 : x.f2 ≤ b
    · rw [if_pos h2]
      by_cases h3 : l ≤ (x.f3.length : Int) <;> simp [h, h2, h3]
    · rw [if_neg h2]; simp [h2]
  · rw [if_neg h]; simp [h]
theorem NumMay_eq (a : Int) : sleuthref1_NumMay.f a = some (decide (-32768 ≤ a ∧ a ≤ 32767)) := by
  unfold sleuthref1_NumMay.f; rw [upTo_eq]; rfl
theorem some_b {a b : Bool} (h : a = true ↔ b = true) : some a = some b := by rw [Bool.eq_iff_iff.mpr h]
theorem kinds_eq (x : S33) (lv : Int) (h : 0 ≤ lv ∧ lv ≤ 100) : sleuthref1_kinds.f x.f0 x.f1 x.f2 x.f3 lv = some (partB x lv) := by
  unfold sleuthref1_kinds.f partB
  simp only [smallB_eq, withinB_eq, plainB_eq, NumMay_eq, upTo_eq, Option.bind_some]
  rw [w64 (lv - 1) (by omega)]
  by_cases e0 : x.f0 = 0
  · rw [if_pos e0, if_pos e0]
    by_cases a : x.f2 = 0
    · rw [if_pos a]
      by_cases b : (x.f3.length : Int) = 0
      · rw [if_pos b]; refine some_b ?_; simp only [Bool.and_eq_true, decide_eq_true_eq, Bool.false_eq_true, beq_iff_eq]; first | omega | (constructor <;> (intro h; first | exact h.elim | omega))
      · rw [if_neg b]; refine some_b ?_; simp only [Bool.and_eq_true, decide_eq_true_eq, Bool.false_eq_true, beq_iff_eq]; first | omega | (constructor <;> (intro h; first | exact h.elim | omega))
    · rw [if_neg a]; refine some_b ?_; simp only [Bool.and_eq_true, decide_eq_true_eq, Bool.false_eq_true, beq_iff_eq]; first | omega | (constructor <;> (intro h; first | exact h.elim | omega))
  · rw [if_neg e0, if_neg e0]
    by_cases e1 : x.f0 = 1
    · rw [if_pos e1, if_pos e1]
      by_cases a : x.f2 = 0
      · rw [if_pos a]
        by_cases b : (x.f3.length : Int) = 0
        · rw [if_pos b]; refine some_b ?_; simp only [Bool.and_eq_true, decide_eq_true_eq, Bool.false_eq_true, beq_iff_eq]; first | omega | (constructor <;> (intro h; first | exact h.elim | omega))
        · rw [if_neg b]; refine some_b ?_; simp only [Bool.and_eq_true, decide_eq_true_eq, Bool.false_eq_true, beq_iff_eq]; first | omega | (constructor <;> (intro h; first | exact h.elim | omega))
      · rw [if_neg a]; refine some_b ?_; simp only [Bool.and_eq_true, decide_eq_true_eq, Bool.false_eq_true, beq_iff_eq]; first | omega | (constructor <;> (intro h; first | exact h.elim | omega))
    · rw [if_neg e1, if_neg e1]
      by_cases e2 : x.f0 = 2
      · rw [if_pos e2, if_pos e2]
        by_cases a : x.f2 = 0
        · rw [if_pos a]
          by_cases b : (x.f3.length : Int) ≤ 3
          · rw [if_pos b]; refine some_b ?_; simp only [Bool.and_eq_true, decide_eq_true_eq, Bool.false_eq_true, beq_iff_eq]; first | omega | (constructor <;> (intro h; first | exact h.elim | omega))
          · rw [if_neg b]; refine some_b ?_; simp only [Bool.and_eq_true, decide_eq_true_eq, Bool.false_eq_true, beq_iff_eq]; first | omega | (constructor <;> (intro h; first | exact h.elim | omega))
        · rw [if_neg a]; refine some_b ?_; simp only [Bool.and_eq_true, decide_eq_true_eq, Bool.false_eq_true, beq_iff_eq]; first | omega | (constructor <;> (intro h; first | exact h.elim | omega))
      · rw [if_neg e2, if_neg e2]
        by_cases e3 : x.f0 = 3
        · rw [if_pos e3, if_pos e3]
          by_cases a : x.f2 = 0
          · rw [if_pos a]
            by_cases b : (x.f3.length : Int) ≤ 3
            · rw [if_pos b]; refine some_b ?_; simp only [Bool.and_eq_true, decide_eq_true_eq, Bool.false_eq_true, beq_iff_eq]; first | omega | (constructor <;> (intro h; first | exact h.elim | omega))
            · rw [if_neg b]; refine some_b ?_; simp only [Bool.and_eq_true, decide_eq_true_eq, Bool.false_eq_true, beq_iff_eq]; first | omega | (constructor <;> (intro h; first | exact h.elim | omega))
          · rw [if_neg a]; refine some_b ?_; simp only [Bool.and_eq_true, decide_eq_true_eq, Bool.false_eq_true, beq_iff_eq]; first | omega | (constructor <;> (intro h; first | exact h.elim | omega))
        · rw [if_neg e3, if_neg e3]
          by_cases e4 : x.f0 = 4
          · rw [if_pos e4, if_pos e4]
            by_cases a : x.f2 = 0
            · rw [if_pos a]
              by_cases b : (x.f3.length : Int) = 2
              · rw [if_pos b]; refine some_b ?_; simp only [Bool.and_eq_true, decide_eq_true_eq, Bool.false_eq_true, beq_iff_eq]; first | omega | (constructor <;> (intro h; first | exact h.elim | omega))
              · rw [if_neg b]; refine some_b ?_; simp only [Bool.and_eq_true, decide_eq_true_eq, Bool.false_eq_true, beq_iff_eq]; first | omega | (constructor <;> (intro h; first | exact h.elim | omega))
            · rw [if_neg a]; refine some_b ?_; simp only [Bool.and_eq_true, decide_eq_true_eq, Bool.false_eq_true, beq_iff_eq]; first | omega | (constructor <;> (intro h; first | exact h.elim | omega))
          · rw [if_neg e4, if_neg e4]
            by_cases e5 : x.f0 = 5
            · rw [if_pos e5, if_pos e5]
              by_cases b : (x.f3.length : Int) = 3
              · rw [if_pos b]
                by_cases c : 0 ≤ x.f1 ∧ x.f1 ≤ 99
                · rw [if_pos (by simpa using c)]; refine some_b ?_; simp only [Bool.and_eq_true, decide_eq_true_eq, Bool.false_eq_true, beq_iff_eq]; first | omega | (constructor <;> (intro h; first | exact h.elim | omega))
                · rw [if_neg (by simpa using c)]; refine some_b ?_; simp only [Bool.and_eq_true, decide_eq_true_eq, Bool.false_eq_true, beq_iff_eq]; first | omega | (constructor <;> (intro h; first | exact h.elim | omega))
              · rw [if_neg b]; refine some_b ?_; simp only [Bool.and_eq_true, decide_eq_true_eq, Bool.false_eq_true, beq_iff_eq]; first | omega | (constructor <;> (intro h; first | exact h.elim | omega))
            · rw [if_neg e5, if_neg e5]
              by_cases e6 : x.f0 = 6
              · rw [if_pos e6, if_pos e6]
                by_cases a : x.f2 = 0
                · rw [if_pos a]
                  by_cases b : (x.f3.length : Int) = 2
                  · rw [if_pos b]
                    by_cases c : x.f1 = 0
                    · rw [if_pos c]; refine some_b ?_; simp only [Bool.and_eq_true, decide_eq_true_eq, Bool.false_eq_true, beq_iff_eq]; first | omega | (constructor <;> (intro h; first | exact h.elim | omega))
                    · rw [if_neg c]; refine some_b ?_; simp only [Bool.and_eq_true, decide_eq_true_eq, Bool.false_eq_true, beq_iff_eq]; first | omega | (constructor <;> (intro h; first | exact h.elim | omega))
                  · rw [if_neg b]
                    by_cases c : x.f1 = 0
                    · rw [if_pos c]; refine some_b ?_; simp only [Bool.and_eq_true, decide_eq_true_eq, Bool.false_eq_true, beq_iff_eq]; first | omega | (constructor <;> (intro h; first | exact h.elim | omega))
                    · rw [if_neg c]
                · rw [if_neg a]
                  by_cases c : x.f1 = 0
                  · rw [if_pos c]; refine some_b ?_; simp only [Bool.and_eq_true, decide_eq_true_eq, Bool.false_eq_true, beq_iff_eq]; first | omega | (constructor <;> (intro h; first | exact h.elim | omega))
                  · rw [if_neg c]
              · rw [if_neg e6, if_neg e6]
                by_cases e7 : x.f0 = 7
                · rw [if_pos e7, if_pos e7]
                  by_cases a : x.f2 = 0
                  · rw [if_pos a]
                    by_cases b : (x.f3.length : Int) = 0
                    · rw [if_pos b]
                      by_cases c : x.f1 = 0
                      · rw [if_pos c]; refine some_b ?_; simp only [Bool.and_eq_true, decide_eq_true_eq, Bool.false_eq_true, beq_iff_eq]; first | omega | (constructor <;> (intro h; first | exact h.elim | omega))
                      · rw [if_neg c]; refine some_b ?_; simp only [Bool.and_eq_true, decide_eq_true_eq, Bool.false_eq_true, beq_iff_eq]; first | omega | (constructor <;> (intro h; first | exact h.elim | omega))
                    · rw [if_neg b]
                      by_cases c : x.f1 = 0
                      · rw [if_pos c]; refine some_b ?_; simp only [Bool.and_eq_true, decide_eq_true_eq, Bool.false_eq_true, beq_iff_eq]; first | omega | (constructor <;> (intro h; first | exact h.elim | omega))
                      · rw [if_neg c]
                  · rw [if_neg a]
                    by_cases c : x.f1 = 0
                    · rw [if_pos c]; refine some_b ?_; simp only [Bool.and_eq_true, decide_eq_true_eq, Bool.false_eq_true, beq_iff_eq]; first | omega | (constructor <;> (intro h; first | exact h.elim | omega))
                    · rw [if_neg c]
                · rw [if_neg e7, if_neg e7]
theorem deeper_eq (x : S33) (kid : Int) (k : Nat) : sleuthref1_deeper.f (k + 1) x.f0 x.f1 x.f2 x.f3 kid = some (moreB x kid) := by
  unfold sleuthref1_deeper.f moreB
  by_cases h : kid = 1
  · rw [if_pos h, if_pos h]
    simp only [sleuthref1_deeper.j0]
    by_cases h5 : x.f0 = 5
    · rw [if_pos (by simp [h5]), if_pos h5]
    · rw [if_neg (by simp [h5]), if_neg h5, if_pos h]
      by_cases h6 : x.f0 = 6
      · rw [if_pos h6, if_pos h6]
      · rw [if_neg h6, if_neg h6]
  · rw [if_neg h, if_neg h]
    simp only [sleuthref1_deeper.j0]
    rw [if_neg (by decide), if_neg h]

/-- A level as the reference has it: one more. -/
def up (ls : List Int) : List Int := ls.map (· + 1)
theorem up_length (ls : List Int) : (up ls).length = ls.length := by simp [up]
theorem up_at (ls : List Int) (i : Int) (h0 : 0 ≤ i) (h1 : i < ls.length) : rd (up ls) i = ls.getD i.toNat 0 + 1 := by
  unfold rd up
  rw [List.getD_eq_getElem?_getD, List.getD_eq_getElem?_getD, List.getElem?_map, List.getElem?_eq_getElem (show i.toNat < ls.length by omega)]
  rfl
theorem up_set (ls : List Int) (i : Nat) (v : Int) : (up ls).set i (v + 1) = up (ls.set i v) := by
  simp [up, List.map_set]
theorem rd_at (body : List S33) (j : Nat) : rd_T33 body (j : Int) = body.getD j z33 := by unfold rd_T33; rw [Int.toNat_natCast]

/-- Levels that may come up. -/
def Fine (n : Nat) (ls : List Int) : Prop := ls.length = n ∧ ∀ x ∈ ls, -1 ≤ x ∧ x ≤ 20
theorem Fine.at_ {n : Nat} {ls : List Int} (h : Fine n ls) (i : Nat) (hi : i < n) : -1 ≤ ls.getD i 0 ∧ ls.getD i 0 ≤ 20 := by
  apply h.2
  rw [List.getD_eq_getElem?_getD, List.getElem?_eq_getElem (show i < ls.length by rw [h.1]; exact hi)]
  exact List.getElem_mem _
theorem Fine.set {n : Nat} {ls : List Int} (h : Fine n ls) (i : Nat) (v : Int) (hv : -1 ≤ v ∧ v ≤ 20) : Fine n (ls.set i v) := by
  refine ⟨by rw [List.length_set]; exact h.1, fun y hy => ?_⟩
  rcases List.mem_or_eq_of_mem_set hy with g | g
  · exact h.2 y g
  · rw [g]; exact hv

theorem l1_eq (p : Int) (body : List S33) (j : Nat) (hj : j < body.length) (hb : body.length ≤ 24) (x : S33) (hx : x = body.getD j z33) (hk : x.f3.length ≤ 3) (hm : ∀ k, 0 ≤ moreB x k ∧ moreB x k ≤ 3) (lv : Int) (hlv : 0 ≤ lv ∧ lv ≤ 8)
    (ih : ∀ ls, Fine body.length ls → ∀ K, 6 * j + 1 ≤ K → sleuthref1_DefMay.l0 K (up ls) ((j : Int) - 1) p body = some (bodyB body j ls)) :
    ∀ (r k : Nat), k + r = x.f3.length → ∀ ls, Fine body.length ls → ls.getD j 0 = lv → ∀ K, r + 1 + (6 * j + 1) ≤ K →
      sleuthref1_DefMay.l1 K (up ls) (j : Int) (k : Int) p body x.f0 x.f1 x.f2 x.f3 = some (kidsB (bodyB body j) x j k (x.f3.drop k) ls) := by
  intro r
  induction r with
  | zero =>
    intro k hkr ls hf hl K hK
    obtain ⟨K, rfl⟩ : ∃ m, K = m + 1 := ⟨K - 1, by omega⟩
    simp only [sleuthref1_DefMay.l1]
    rw [if_neg (by omega), w64 _ (by omega), ih ls hf K (by omega)]
    rw [show x.f3.drop k = [] by rw [List.drop_eq_nil_iff]; omega]
    rfl
  | succ r ihr =>
    intro k hkr ls hf hl K hK
    obtain ⟨K, rfl⟩ : ∃ m, K = m + 1 := ⟨K - 1, by omega⟩
    have hlt : k < x.f3.length := by omega
    simp only [sleuthref1_DefMay.l1]
    rw [if_pos (by omega), if_pos (by omega), w64 _ (by omega), upTo_eq]
    rw [show x.f3.drop k = x.f3.getD k 0 :: x.f3.drop (k + 1) from drop_getD _ _ hlt]
    simp only [Option.bind_some, kidsB]
    have e : rd x.f3 (k : Int) = x.f3.getD k 0 := by unfold rd; rw [Int.toNat_natCast]
    rw [e]
    generalize x.f3.getD k 0 = kid
    by_cases c1 : kid < 0
    · rw [if_pos c1, if_neg (by simp; omega)]
    · rw [if_neg c1]
      by_cases c2 : (j : Int) ≤ kid
      · rw [if_pos c2, if_neg (by simp; omega)]
      · rw [if_neg c2, if_pos (by simp; omega), if_pos (by omega), if_pos (by rw [up_length, hf.1]; omega), up_at ls kid (by omega) (by rw [hf.1]; omega)]
        by_cases c3 : ls.getD kid.toNat 0 = -1
        · rw [if_pos (by omega), if_pos c3, if_pos (by omega), if_pos (by rw [up_length, hf.1]; omega), up_at ls (j : Int) (by omega) (by rw [hf.1]; omega), Int.toNat_natCast, hl]
          obtain ⟨K, rfl⟩ : ∃ m, K = m + 1 := ⟨K - 1, by omega⟩
          rw [deeper_eq]
          have m := hm (k : Int)
          rw [Option.bind_some, w64 _ (by omega), w64 _ (by omega), show lv + 1 + moreB x (k : Int) = (lv + moreB x (k : Int)) + 1 by omega, up_set, show (k : Int) + 1 = ((k + 1 : Nat) : Int) by omega]
          refine ihr (k + 1) (by omega) _ (hf.set _ _ (by omega)) ?_ _ (by omega)
          rw [List.getD_eq_getElem?_getD, List.getElem?_set_ne (by omega), ← List.getD_eq_getElem?_getD]
          exact hl
        · rw [if_neg (by have := hf.at_ kid.toNat (by omega); omega), if_neg c3]

theorem l0_eq (p : Int) (body : List S33) (hb : body.length ≤ 24) : ∀ (j : Nat), j ≤ body.length → ∀ ls, Fine body.length ls → ∀ K, 6 * j + 1 ≤ K → sleuthref1_DefMay.l0 K (up ls) ((j : Int) - 1) p body = some (bodyB body j ls) := by
  intro j
  induction j with
  | zero =>
    intro _ ls hf K hK
    obtain ⟨K, rfl⟩ : ∃ m, K = m + 1 := ⟨K - 1, by omega⟩
    simp only [sleuthref1_DefMay.l0]
    rw [if_neg (by omega)]
    rfl
  | succ j ih =>
    intro hj ls hf K hK
    obtain ⟨K, rfl⟩ : ∃ m, K = m + 1 := ⟨K - 1, by omega⟩
    rw [show (((j + 1 : Nat) : Int) - 1) = (j : Int) by omega]
    simp only [sleuthref1_DefMay.l0, bodyB]
    rw [if_pos (by omega), if_pos (by omega), if_pos (by omega), if_pos (by rw [up_length, hf.1]; omega), up_at ls (j : Int) (by omega) (by rw [hf.1]; omega), Int.toNat_natCast, rd_at]
    obtain ⟨K, rfl⟩ : ∃ m, K = m + 1 := ⟨K - 1, by omega⟩
    have hr := hf.at_ j (by omega)
    obtain ⟨x, hx⟩ : ∃ x, x = body.getD j z33 := ⟨_, rfl⟩
    rw [← hx]
    obtain ⟨lv, hlv⟩ : ∃ lv, lv = ls.getD j 0 := ⟨_, rfl⟩
    rw [← hlv] at hr ⊢
    by_cases c1 : lv = -1
    · rw [if_pos (by omega), if_pos c1]
      simp only [sleuthref1_DefMay.j2]
      rw [if_pos trivial]
    · rw [if_neg (by omega), if_neg c1, w64 _ (by omega)]
      by_cases c2 : 8 < lv
      · rw [if_pos (by omega), if_pos c2]
        simp only [sleuthref1_DefMay.j2]
        rw [if_pos trivial]
      · rw [if_neg (by omega), if_neg c2, show lv + 1 - 1 = lv by omega, kinds_eq x lv (by omega)]
        simp only [Option.bind_some, sleuthref1_DefMay.j2]
        cases c3 : partB x lv
        · rw [if_pos (by decide), if_neg (by decide)]
        · rw [if_neg (by decide), if_pos rfl]
          have h := l1_eq p body j (by omega) hb x hx (part_kids x lv c3) (more_small x lv c3) lv (by omega) (fun ls hf K hK => ih (by omega) ls hf K hK) x.f3.length 0 (by omega) ls hf hlv.symm K (by have := part_kids x lv c3; omega)
          simpa using h

/-- The document's answer is expr.May's. -/
theorem DefMay_eq (p : Int) (body : List S33) (K : Nat) (hK : 200 ≤ K) : sleuthref1_DefMay.f K p body = some (mayB p body) := by
  obtain ⟨K, rfl⟩ : ∃ m, K = m + 1 := ⟨K - 1, by omega⟩
  unfold sleuthref1_DefMay.f mayB
  simp only [upTo_eq, withinB_eq, Option.bind_some]
  by_cases c1 : 0 ≤ p ∧ p ≤ 3
  · rw [if_pos (by simpa using c1), if_pos (by simpa using c1)]
    by_cases c2 : 1 ≤ (body.length : Int) ∧ (body.length : Int) ≤ 24
    · rw [if_pos (by simp; omega)]
      simp only [sleuthref1_DefMay.j0]
      rw [if_neg (by simp; omega), if_pos (by omega), Int.toNat_natCast, if_pos (by omega)]
      simp only [Option.bind_some, List.length_replicate]
      rw [w64 _ (by omega), if_pos (by omega), if_pos (by omega), w64 _ (by omega)]
      have e : (List.replicate body.length (0 : Int)).set ((body.length : Int) - 1).toNat (p + 1) = up ((List.replicate body.length (-1)).set (body.length - 1) p) := by
        rw [← up_set, show ((body.length : Int) - 1).toNat = body.length - 1 by omega]
        congr 1
        simp [up]
      rw [e]
      refine l0_eq p body (by omega) body.length (Nat.le_refl _) _ ⟨by simp, ?_⟩ K (by omega)
      intro y hy
      rcases List.mem_or_eq_of_mem_set hy with g | g
      · have := List.eq_of_mem_replicate g; omega
      · omega
    · rw [if_neg (by simp; omega)]
      simp only [sleuthref1_DefMay.j0]
      rw [if_pos (by simp; omega)]
  · rw [if_neg (by simpa using c1), if_neg (by simpa using c1)]
    simp only [sleuthref1_DefMay.j0]
    rw [if_pos trivial]
end Go.Proofs.Ytkpblifelpokfaa.PAll
