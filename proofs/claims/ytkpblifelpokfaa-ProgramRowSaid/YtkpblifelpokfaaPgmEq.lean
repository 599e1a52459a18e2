/- A copy of a program is that program; the document's answer (sleuthref1.ProgramMay) is program.May's: pmayB. No condition but sizes that memory can hold. (What ProgramRow uses of ExprSame and PgmSame.) -/
import Derived.Test.YtkpblifelpokfaaExprLaw
import Derived.Test.YtkpblifelpokfaaPgmMay
import Derived.Test.YtkpblifelpokfaaPAllgsleuthlaw0CopyProgram
import Derived.Test.YtkpblifelpokfaaPAllgsleuthref1ProgramMay
namespace Go.Proofs.Ytkpblifelpokfaa.PAll
open Go.RowKit Go.Proofs.YtkpblifelpokfaaW.PrintWords Go.Proofs.YtkpblifelpokfaaW.PrintLast Go.Proofs.YtkpblifelpokfaaW.PrintMore
set_option linter.unusedVariables false
set_option linter.unusedSimpArgs false

theorem rd_T33_at (l : List S33) (i : Nat) (h : i < l.length) : rd_T33 l (i : Int) = l[i] := by
  unfold rd_T33; rw [Int.toNat_natCast, List.getD_eq_getElem?_getD, List.getElem?_eq_getElem h]; rfl

theorem CopyDef_l0 (p : Int) (body : List S33) (h1 : body.length < 2932031007402) (h2 : ∀ x ∈ body, x.f3.length < 17592186044416) :
    ∀ (r i : Nat), i + r = body.length → ∀ K, r + 1 ≤ K → sleuthlaw0_CopyDef.l0 K (body.take i) (i : Int) p body = some (p, body) := by
  intro r
  induction r with
  | zero =>
    intro i hi K hK
    obtain ⟨K, rfl⟩ : ∃ m, K = m + 1 := ⟨K - 1, by omega⟩
    simp only [sleuthlaw0_CopyDef.l0]
    rw [if_neg (by omega), List.take_of_length_le (by omega)]
  | succ r ih =>
    intro i hi K hK
    obtain ⟨K, rfl⟩ : ∃ m, K = m + 1 := ⟨K - 1, by omega⟩
    have hlt : i < body.length := by omega
    simp only [sleuthlaw0_CopyDef.l0]
    rw [if_pos (by omega), if_pos (by omega), rd_T33_at _ _ hlt]
    simp only [Option.bind_some, List.nil_append, List.length_nil, Nat.zero_add]
    rw [if_pos (h2 _ (List.getElem_mem _)), if_pos (by simp; omega), w64 _ (by omega), show (i : Int) + 1 = ((i + 1 : Nat) : Int) by omega]
    have e : body.take i ++ [(⟨body[i].f0, body[i].f1, body[i].f2, body[i].f3⟩ : S33)] = body.take (i + 1) := by
      rw [List.take_succ_eq_append_getElem hlt]
    rw [e]
    exact ih (i + 1) (by omega) K (by omega)
theorem CopyDef_eq (p : Int) (body : List S33) (h1 : body.length < 2932031007402) (h2 : ∀ x ∈ body, x.f3.length < 17592186044416) (K : Nat) (hK : body.length + 1 ≤ K) : sleuthlaw0_CopyDef.f K p body = some (p, body) := by
  unfold sleuthlaw0_CopyDef.f
  have h := CopyDef_l0 p body h1 h2 body.length 0 (by omega) K hK
  simpa using h

theorem rd_T24_at (l : List S24) (i : Nat) (h : i < l.length) : rd_T24 l (i : Int) = l[i] := by
  unfold rd_T24; rw [Int.toNat_natCast, List.getD_eq_getElem?_getD, List.getElem?_eq_getElem h]; rfl

/-- What memory can hold of a program. -/
def Hold (l : List S24) : Prop := l.length < 4398046511104 ∧ ∀ d ∈ l, d.f1.length < 2932031007402 ∧ ∀ x ∈ d.f1, x.f3.length < 17592186044416

theorem CopyProgram_l0 (B : Nat) (hB : 30000000000000 ≤ B) (l : List S24) (hl : Hold l) :
    ∀ (r i : Nat), i + r = l.length → ∀ K, r + 1 + B ≤ K → sleuthlaw0_CopyProgram.l0 K (l.take i) (i : Int) l = some l := by
  intro r
  induction r with
  | zero =>
    intro i hi K hK
    obtain ⟨K, rfl⟩ : ∃ m, K = m + 1 := ⟨K - 1, by omega⟩
    simp only [sleuthlaw0_CopyProgram.l0]
    rw [if_neg (by omega), List.take_of_length_le (by omega)]
  | succ r ih =>
    intro i hi K hK
    obtain ⟨K, rfl⟩ : ∃ m, K = m + 1 := ⟨K - 1, by omega⟩
    have hlt : i < l.length := by omega
    obtain ⟨hL, hD⟩ := hl
    have hd := hD l[i] (List.getElem_mem _)
    simp only [sleuthlaw0_CopyProgram.l0]
    rw [if_pos (by omega), if_pos (by omega), rd_T24_at _ _ hlt, CopyDef_eq _ _ hd.1 hd.2 K (by omega)]
    simp only [Option.bind_some]
    rw [if_pos (by simp; omega), w64 _ (by omega), show (i : Int) + 1 = ((i + 1 : Nat) : Int) by omega]
    have e : l.take i ++ [(⟨l[i].f0, l[i].f1⟩ : S24)] = l.take (i + 1) := by
      rw [List.take_succ_eq_append_getElem hlt]
    rw [e]
    exact ih (i + 1) (by omega) K (by omega)
theorem CopyProgram_eq (B : Nat) (hB : 30000000000000 ≤ B) (l : List S24) (hl : Hold l) (K : Nat) (hK : l.length + 1 + B ≤ K) : sleuthlaw0_CopyProgram.f K l = some l := by
  unfold sleuthlaw0_CopyProgram.f
  have h := CopyProgram_l0 B hB l hl l.length 0 (by omega) K (by omega)
  simpa using h

theorem kidsB_next (next : List Int → Bool) (x : S33) (i : Nat) : ∀ (ks : List Int) (k : Nat) (ls : List Int), kidsB next x i k ks ls = true → ∃ ls', next ls' = true
  | [], k, ls, h => ⟨ls, by simpa [kidsB] using h⟩
  | kid :: rest, k, ls, h => by
    simp only [kidsB] at h
    split at h
    · simp at h
    · split at h
      · simp at h
      · split at h
        · exact kidsB_next next x i rest _ _ h
        · simp at h
/-- Of a body that may be, every part may be. -/
theorem bodyB_part (body : List S33) : ∀ (i : Nat) (ls : List Int), bodyB body i ls = true → ∀ j, j < i → ∃ lv, partB (body.getD j z33) lv = true := by
  intro i
  induction i with
  | zero => intro ls h j hj; omega
  | succ i ih =>
    intro ls h j hj
    simp only [bodyB] at h
    split at h
    · simp at h
    · split at h
      · simp at h
      · split at h
        · rename_i hp
          by_cases e : j = i
          · subst e; exact ⟨_, hp⟩
          · obtain ⟨ls', h'⟩ := kidsB_next _ _ _ _ _ _ h
            exact ih ls' h' j (by omega)
        · simp at h
theorem mayB_call {p : Int} {body : List S33} (h : mayB p body = true) (j : Nat) (hj : j < body.length) (hk : body[j].f0 = 2) : 0 ≤ body[j].f1 := by
  unfold mayB at h
  split at h
  · split at h
    · obtain ⟨lv, hl⟩ := bodyB_part body _ _ h j hj
      rw [List.getD_eq_getElem?_getD, List.getElem?_eq_getElem hj] at hl
      simp only [Option.getD_some, partB, hk] at hl
      simp only [withinB_eq, plainB_eq, Bool.and_eq_true, decide_eq_true_eq] at hl
      simp at hl
      omega
    · simp at h
  · simp at h

theorem pm_l1 (l : List S24) (i : Nat) (hi : i < l.length) (hL : l.length < 4398046511104) (hb : l[i].f1.length < 2932031007402) (hc : ∀ j, (hj : j < l[i].f1.length) → l[i].f1[j].f0 = 2 → 0 ≤ l[i].f1[j].f1) (K0 : Nat) (v : Bool) (cont : ∀ K, K0 ≤ K → sleuthref1_ProgramMay.l0 K ((i + 1 : Nat) : Int) l = some v) :
    ∀ (r m : Nat), m + r = l[i].f1.length → ∀ K, K0 + r + 1 ≤ K → sleuthref1_ProgramMay.l1 K (i : Int) (m : Int) l = some (if (l[i].f1.drop m).any (oddB l) = true then false else v) := by
  intro r
  induction r with
  | zero =>
    intro m hm K hK
    obtain ⟨K, rfl⟩ : ∃ m, K = m + 1 := ⟨K - 1, by omega⟩
    rw [sleuthref1_ProgramMay.l1, if_pos (by omega), if_pos (by omega), rd_T24_at _ _ hi, if_neg (by omega), w64 _ (by omega), show (i : Int) + 1 = ((i + 1 : Nat) : Int) by omega, cont K (by omega)]
    rw [List.drop_of_length_le (by omega)]
    simp
  | succ r ih =>
    intro m hm K hK
    obtain ⟨K, rfl⟩ : ∃ m, K = m + 1 := ⟨K - 1, by omega⟩
    have hlt : m < l[i].f1.length := by omega
    have hcall := hc m hlt
    have hnext := ih (m + 1) (by omega) K (by omega)
    rw [sleuthref1_ProgramMay.l1, if_pos (by omega), if_pos (by omega), rd_T24_at _ _ hi, if_pos (by omega), if_pos (by omega), rd_T33_at _ _ hlt, w64 _ (by omega), show (m : Int) + 1 = ((m + 1 : Nat) : Int) by omega, hnext]
    rw [List.drop_eq_getElem_cons hlt, List.any_cons]
    generalize l[i].f1[m] = x at *
    by_cases a : x.f0 = 2
    · rw [if_pos a]
      by_cases b : x.f1 ≥ (l.length : Int)
      · rw [if_pos b]
        have : oddB l x = true := by unfold oddB; rw [if_pos a, if_pos b]
        rw [this]; rfl
      · rw [if_neg b, if_pos (hcall a), if_pos (by omega)]
        have e : oddB l x = ((x.f3.length : Int) != (l.getD x.f1.toNat z24).f0) := by unfold oddB; rw [if_pos a, if_neg b]
        have e2 : (rd_T24 l x.f1) = l.getD x.f1.toNat z24 := rfl
        rw [e2]
        by_cases c : (x.f3.length : Int) = (l.getD x.f1.toNat z24).f0
        · rw [if_pos c, e, c]; simp
        · rw [if_neg c, e]
          have : ((x.f3.length : Int) != (l.getD x.f1.toNat z24).f0) = true := by simpa using c
          rw [this]; rfl
    · rw [if_neg a]
      have : oddB l x = false := by unfold oddB; rw [if_neg a]
      rw [this]; rfl

theorem pm_l0 (B : Nat) (hB : 30000000000000 ≤ B) (l : List S24) (hl : Hold l) :
    ∀ (r i : Nat), i + r = l.length → ∀ K, r * B + 201 ≤ K → sleuthref1_ProgramMay.l0 K (i : Int) l = some (defsB l (l.drop i)) := by
  intro r
  induction r with
  | zero =>
    intro i hi K hK
    obtain ⟨K, rfl⟩ : ∃ m, K = m + 1 := ⟨K - 1, by omega⟩
    rw [sleuthref1_ProgramMay.l0, if_neg (by omega), List.drop_of_length_le (by omega)]
    rfl
  | succ r ih =>
    intro i hi K hK
    obtain ⟨K, rfl⟩ : ∃ m, K = m + 1 := ⟨K - 1, by omega⟩
    have hlt : i < l.length := by omega
    have hd := hl.2 l[i] (List.getElem_mem _)
    rw [Nat.succ_mul] at hK
    rw [sleuthref1_ProgramMay.l0, if_pos (by omega), if_pos (by omega), rd_T24_at _ _ hlt, DefMay_eq _ _ K (by omega), Option.bind_some, List.drop_eq_getElem_cons hlt]
    have hcont := fun K hK => ih (i + 1) (by omega) K hK
    rw [defsB]
    by_cases a : mayB l[i].f0 l[i].f1 = true
    · have h := pm_l1 l i hlt hl.1 hd.1 (fun j hj e => mayB_call a j hj e) _ _ hcont l[i].f1.length 0 (by omega) K (by omega)
      rw [if_pos a, if_pos a]
      exact h
    · rw [if_neg a, if_neg a]

theorem ProgramMay_eq (B : Nat) (hB : 30000000000000 ≤ B) (l : List S24) (hl : Hold l) (K : Nat) (hK : 8 * B + 300 ≤ K) : sleuthref1_ProgramMay.f K l = some (pmayB l) := by
  unfold sleuthref1_ProgramMay.f
  obtain ⟨K, rfl⟩ : ∃ m, K = m + 1 := ⟨K - 1, by omega⟩
  have hL := hl.1
  rw [upTo_eq, Option.bind_some]
  by_cases a : 1 ≤ l.length ∧ l.length ≤ 8
  · rw [if_pos (by simp; omega), if_pos (by omega)]
    have e : rd_T24 l 0 = l.getD 0 z24 := rfl
    rw [e]
    unfold pmayB
    rw [if_neg (by omega), if_neg (by omega)]
    by_cases b : (l.getD 0 z24).f0 = 0
    · rw [if_pos b, b, sleuthref1_ProgramMay.j0, if_neg (by decide)]
      have := pm_l0 B hB l hl l.length 0 (by omega) K (by have := Nat.mul_le_mul_right B a.2; omega)
      exact this
    · rw [if_neg b, sleuthref1_ProgramMay.j0, if_pos (by simpa using b)]
  · rw [if_neg (by simp; omega), sleuthref1_ProgramMay.j0, if_pos rfl]
    unfold pmayB
    by_cases b : l.length = 0
    · rw [if_pos b]
    · rw [if_neg b, if_pos (by omega)]
end Go.Proofs.Ytkpblifelpokfaa.PAll
