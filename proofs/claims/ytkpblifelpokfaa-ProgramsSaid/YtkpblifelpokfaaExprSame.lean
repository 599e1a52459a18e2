/- What the statements of chapter 5 use: copies of a definition are that definition; the same are the same; awake is true. No condition but sizes that memory can hold. -/
import Derived.Test.YtkpblifelpokfaaExprMask
import Derived.Test.YtkpblifelpokfaaExprLaw
import Derived.Test.YtkpblifelpokfaaPAllgsleuthlaw0SameDef
import Derived.Test.YtkpblifelpokfaaPAllgsleuthlaw0CopyDef
namespace Go.Proofs.Ytkpblifelpokfaa.PAll
open Go.RowKit Go.Proofs.YtkpblifelpokfaaW.PrintWords Go.Proofs.YtkpblifelpokfaaW.PrintLast Go.Proofs.YtkpblifelpokfaaW.PrintMore
set_option linter.unusedVariables false
set_option linter.unusedSimpArgs false

theorem rd_T33_at (l : List S33) (i : Nat) (h : i < l.length) : rd_T33 l (i : Int) = l[i] := by
  unfold rd_T33; rw [Int.toNat_natCast, List.getD_eq_getElem?_getD, List.getElem?_eq_getElem h]; rfl

theorem CopyDef_l0 (p : Int) (body : List S33) (h1 : body.length < 2932031007402) (h2 : ∀ x ∈ body, x.f3.length < 17592186044416) :
    ∀ (r i : Nat), i + r = body.length → ∀ K, r + 1 ≤ K → sleuthlaw0_CopyDef.l0 K (body.take i) (i : Int) p body = some (p, body) := by
  intro r
  induction r with
  | zero =>
    intro i hi K hK
    obtain ⟨K, rfl⟩ : ∃ m, K = m + 1 := ⟨K - 1, by omega⟩
    simp only [sleuthlaw0_CopyDef.l0]
    rw [if_neg (by omega), List.take_of_length_le (by omega)]
  | succ r ih =>
    intro i hi K hK
    obtain ⟨K, rfl⟩ : ∃ m, K = m + 1 := ⟨K - 1, by omega⟩
    have hlt : i < body.length := by omega
    simp only [sleuthlaw0_CopyDef.l0]
    rw [if_pos (by omega), if_pos (by omega), rd_T33_at _ _ hlt]
    simp only [Option.bind_some, List.nil_append, List.length_nil, Nat.zero_add]
    rw [if_pos (h2 _ (List.getElem_mem _)), if_pos (by simp; omega), w64 _ (by omega), show (i : Int) + 1 = ((i + 1 : Nat) : Int) by omega]
    have e : body.take i ++ [(⟨body[i].f0, body[i].f1, body[i].f2, body[i].f3⟩ : S33)] = body.take (i + 1) := by
      rw [List.take_succ_eq_append_getElem hlt]
    rw [e]
    exact ih (i + 1) (by omega) K (by omega)
theorem CopyDef_eq (p : Int) (body : List S33) (h1 : body.length < 2932031007402) (h2 : ∀ x ∈ body, x.f3.length < 17592186044416) (K : Nat) (hK : body.length + 1 ≤ K) : sleuthlaw0_CopyDef.f K p body = some (p, body) := by
  unfold sleuthlaw0_CopyDef.f
  have h := CopyDef_l0 p body h1 h2 body.length 0 (by omega) K hK
  simpa using h

theorem SameInts_l0 (l : List Int) (hl : l.length < 9000000000000000000) : ∀ (r i : Nat), i + r = l.length → ∀ K, r + 1 ≤ K → sleuthlaw0_SameInts.l0 K l l (i : Int) = some true := by
  intro r
  induction r with
  | zero =>
    intro i hi K hK
    obtain ⟨K, rfl⟩ : ∃ m, K = m + 1 := ⟨K - 1, by omega⟩
    simp only [sleuthlaw0_SameInts.l0]
    rw [if_neg (by omega)]
  | succ r ih =>
    intro i hi K hK
    obtain ⟨K, rfl⟩ : ∃ m, K = m + 1 := ⟨K - 1, by omega⟩
    simp only [sleuthlaw0_SameInts.l0]
    rw [if_pos (by omega), if_pos (by omega), if_pos (by omega), if_pos trivial, w64 _ (by omega), show (i : Int) + 1 = ((i + 1 : Nat) : Int) by omega]
    exact ih (i + 1) (by omega) K (by omega)
theorem SameInts_eq (l : List Int) (hl : l.length < 9000000000000000000) (K : Nat) (hK : l.length + 1 ≤ K) : sleuthlaw0_SameInts.f K l l = some true := by
  unfold sleuthlaw0_SameInts.f
  rw [if_pos rfl]
  exact SameInts_l0 l hl l.length 0 (by omega) K hK
theorem SameExprs_l0 (l : List S33) (M : Nat) (hl : l.length < 9000000000000000000) (hM : ∀ x ∈ l, x.f3.length ≤ M) (hM2 : M < 9000000000000000000) : ∀ (r i : Nat), i + r = l.length → ∀ K, r + 1 + (M + 1) ≤ K → sleuthlaw0_SameExprs.l0 K l l (i : Int) = some true := by
  intro r
  induction r with
  | zero =>
    intro i hi K hK
    obtain ⟨K, rfl⟩ : ∃ m, K = m + 1 := ⟨K - 1, by omega⟩
    simp only [sleuthlaw0_SameExprs.l0]
    rw [if_neg (by omega)]
  | succ r ih =>
    intro i hi K hK
    obtain ⟨K, rfl⟩ : ∃ m, K = m + 1 := ⟨K - 1, by omega⟩
    have hlt : i < l.length := by omega
    have hm := hM l[i] (List.getElem_mem _)
    simp only [sleuthlaw0_SameExprs.l0]
    rw [if_pos (by omega), if_pos (by omega), if_pos (by omega), if_pos trivial, if_pos trivial, if_pos trivial, rd_T33_at _ _ hlt, SameInts_eq _ (by omega) K (by omega)]
    simp only [Option.bind_some]
    rw [if_pos trivial, w64 _ (by omega), show (i : Int) + 1 = ((i + 1 : Nat) : Int) by omega]
    exact ih (i + 1) (by omega) K (by omega)
theorem SameDef_eq (p : Int) (l : List S33) (M : Nat) (hl : l.length < 9000000000000000000) (hM : ∀ x ∈ l, x.f3.length ≤ M) (hM2 : M < 9000000000000000000) (K : Nat) (hK : l.length + M + 2 ≤ K) : sleuthlaw0_SameDef.f K p l p l = some true := by
  unfold sleuthlaw0_SameDef.f sleuthlaw0_SameExprs.f
  have h : sleuthlaw0_SameExprs.l0 K l l 0 = some true := SameExprs_l0 l M hl hM hM2 l.length 0 (by omega) K (by omega)
  rw [if_pos rfl, if_pos rfl, h]
  rfl
end Go.Proofs.Ytkpblifelpokfaa.PAll
