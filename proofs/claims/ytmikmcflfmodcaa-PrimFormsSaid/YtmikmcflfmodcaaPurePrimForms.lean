/- prim.Do refuses what is no operation and what is no number that may be, by ErrPrimForm; prim.May is false there. No condition. -/
import Derived.Test.YtmikmcflfmodcaaPPrimFormsx1
namespace Go.Proofs.Ytmikmcflfmodcaa.Pure
open Go.RowKit Go.Proofs.Ytmikmcflfmodcaa.PPrimForms Go.Proofs.YtmikmcflfmodcaaW.PrintWords Go.Proofs.YtmikmcflfmodcaaW.PrintLast

theorem mask (j : Nat) (hj : j ≤ 32) (x : Int) : Go.bits .and .i64 x ((2 ^ j - 1 : Nat) : Int) = x % ((2 ^ j : Nat) : Int) := by
  have hpos : 0 < 2 ^ j := Nat.two_pow_pos j
  have hle : 2 ^ j ≤ 4294967296 := Nat.pow_le_pow_right (n := 2) (by decide) hj
  have hdv : (2 ^ j) ∣ 18446744073709551616 := Nat.pow_dvd_pow 2 (n := 64) (by omega)
  have hx : (BitVec.ofInt 64 x).toNat = (x % 18446744073709551616).toNat := by rw [BitVec.toNat_ofInt]; rfl
  have hy : (BitVec.ofInt 64 ((2 ^ j - 1 : Nat) : Int)).toNat = 2 ^ j - 1 := by
    rw [BitVec.ofInt_natCast, BitVec.toNat_ofNat]; exact Nat.mod_eq_of_lt (by omega)
  show IntKind.i64.wrap ((BitVec.ofInt 64 x &&& BitVec.ofInt 64 ((2 ^ j - 1 : Nat) : Int)).toNat : Int) = _
  rw [BitVec.toNat_and, hx, hy, Nat.and_two_pow_sub_one_eq_mod]
  generalize 2 ^ j = m at *
  obtain ⟨n, hn⟩ := Int.eq_ofNat_of_zero_le (Int.emod_nonneg x (show (18446744073709551616 : Int) ≠ 0 by decide))
  have hd : ((m : Nat) : Int) ∣ 18446744073709551616 := Int.ofNat_dvd.2 hdv
  have e : ((n % m : Nat) : Int) = x % m := by
    have h1 : (x % 18446744073709551616) % (m : Int) = x % (m : Int) := Int.emod_emod_of_dvd x hd
    rw [hn] at h1
    rw [Int.natCast_emod, h1]
  rw [hn, Int.toNat_natCast, e]
  have h0 := Int.emod_nonneg x (show (m : Int) ≠ 0 by omega)
  have h1 := Int.emod_lt_of_pos x (show (0 : Int) < m by omega)
  rw [IntKind.wrap_i64]
  omega
theorem and16 (x : Int) : Go.bits .and .i64 x 65535 = x % 65536 := mask 16 (by decide) x
theorem and20 (x : Int) : Go.bits .and .i64 x 1048575 = x % 1048576 := mask 20 (by decide) x
theorem and1 (x : Int) : Go.bits .and .i64 x 1 = x % 2 := mask 1 (by decide) x
theorem and2 (x : Int) : Go.bits .and .i64 x 3 = x % 4 := mask 2 (by decide) x
theorem i16w (n : Int) : IntKind.i16.wrap n = (n + 32768) % 65536 - 32768 := by
  simp [IntKind.wrap, IntKind.bits, IntKind.signed]
  split <;> omega
theorem u16w (n : Int) : IntKind.u16.wrap n = n % 65536 := by simp [IntKind.wrap, IntKind.bits, IntKind.signed]
/-- A number brought into range. -/
def r16 (n : Int) : Int := (n + 32768) % 65536 - 32768
theorem r16_lo (n : Int) : -32768 ≤ r16 n := by unfold r16; omega
theorem r16_hi (n : Int) : r16 n ≤ 32767 := by unfold r16; omega
def Small (x : Int) : Prop := -32768 ≤ x ∧ x ≤ 32767
instance (x : Int) : Decidable (Small x) := by unfold Small; infer_instance
theorem May_yes {x : Int} (h : Small x) : prim_May.f x = some true := by
  obtain ⟨h1, h2⟩ := h
  unfold prim_May.f; rw [if_pos (by omega)]; simp [h2]
theorem May_no {x : Int} (h : ¬ Small x) : prim_May.f x = some false := by
  unfold prim_May.f
  by_cases h1 : x ≥ -32768
  · rw [if_pos h1]; simp; apply Classical.byContradiction; intro h2; exact h ⟨h1, by omega⟩
  · rw [if_neg h1]
theorem mul_bound {x y : Int} (hx : Small x) (hy : Small y) : -1073741824 ≤ x * y ∧ x * y ≤ 1073741824 := by
  obtain ⟨a, b⟩ := hx
  obtain ⟨c, d⟩ := hy
  have e1 : 0 ≤ (x + 32768) * (y + 32768) := Int.mul_nonneg (by omega) (by omega)
  have e2 : 0 ≤ (32768 - x) * (y + 32768) := Int.mul_nonneg (by omega) (by omega)
  have e3 : 0 ≤ (x + 32768) * (32768 - y) := Int.mul_nonneg (by omega) (by omega)
  have e4 : 0 ≤ (32768 - x) * (32768 - y) := Int.mul_nonneg (by omega) (by omega)
  simp only [Int.add_mul, Int.mul_add, Int.sub_mul, Int.mul_sub] at e1 e2 e3 e4
  constructor <;> omega
theorem w64_16 (n : Int) (h : -9000000000000000000 ≤ n ∧ n ≤ 9000000000000000000) : wrap64 (IntKind.i16.wrap (wrap64 n)) = r16 n := by
  rw [i16w]; unfold r16; unfold wrap64; omega
theorem w01 (n : Int) (h : 0 ≤ n ∧ n ≤ 1) : wrap64 (IntKind.i16.wrap n) = n := by
  rw [i16w]; unfold wrap64; omega
theorem truth_t : prim_truth.f true = some 1 := rfl
theorem truth_f : prim_truth.f false = some 0 := rfl
section
variable {x y : Int} (hx : Small x) (hy : Small y) (k : Nat)
include hx hy
theorem Do_add : prim_Do.f (k + 1) 0 x y = some (r16 (x + y), 0) := by
  unfold prim_Do.f; rw [May_yes hx, May_yes hy]; simp only [Option.bind_some, if_true, Bool.not_true, prim_Do.j0, Bool.false_eq_true, if_false]
  rw [w64_16 _ (by unfold Small at hx hy; omega)]
theorem Do_sub : prim_Do.f (k + 1) 1 x y = some (r16 (x - y), 0) := by
  unfold prim_Do.f; rw [May_yes hx, May_yes hy]; simp only [Option.bind_some, if_true, Bool.not_true, prim_Do.j0, Bool.false_eq_true, if_false]
  rw [if_neg (by decide), w64_16 _ (by unfold Small at hx hy; omega)]
theorem Do_mul : prim_Do.f (k + 1) 2 x y = some (r16 (x * y), 0) := by
  have := mul_bound hx hy
  unfold prim_Do.f; rw [May_yes hx, May_yes hy]; simp only [Option.bind_some, if_true, Bool.not_true, prim_Do.j0, Bool.false_eq_true, if_false]
  rw [if_neg (by decide), if_neg (by decide), w64_16 _ (by omega)]
theorem Do_eq : prim_Do.f (k + 1) 3 x y = some (if x = y then 1 else 0, 0) := by
  unfold prim_Do.f; rw [May_yes hx, May_yes hy]; simp only [Option.bind_some, if_true, Bool.not_true, prim_Do.j0, Bool.false_eq_true, if_false]
  rw [if_neg (by decide), if_neg (by decide), if_neg (by decide)]
  by_cases h : x = y
  · rw [if_pos h, show (x == y) = true by simp [h], truth_t]; simp only [Option.bind_some]; rw [w01 _ (by omega)]
  · rw [if_neg h, show (x == y) = false by simp [h], truth_f]; simp only [Option.bind_some]; rw [w01 _ (by omega)]
theorem Do_less : prim_Do.f (k + 1) 4 x y = some (if x < y then 1 else 0, 0) := by
  unfold prim_Do.f; rw [May_yes hx, May_yes hy]; simp only [Option.bind_some, if_true, Bool.not_true, prim_Do.j0, Bool.false_eq_true, if_false]
  rw [if_neg (by decide), if_neg (by decide), if_neg (by decide), if_neg (by decide)]
  by_cases h : x < y
  · rw [if_pos h, show decide (x < y) = true by simp [h], truth_t]; simp only [Option.bind_some]; rw [w01 _ (by omega)]
  · rw [if_neg h, show decide (x < y) = false by simp [h], truth_f]; simp only [Option.bind_some]; rw [w01 _ (by omega)]
end
theorem Do_bad_a {x : Int} (hx : ¬ Small x) (op y : Int) (k : Nat) : prim_Do.f (k + 1) op x y = some (0, 100) := by
  unfold prim_Do.f; rw [May_no hx]; simp only [Option.bind_some, Bool.false_eq_true, if_false, prim_Do.j0, if_true]
theorem Do_bad_b {x y : Int} (hx : Small x) (hy : ¬ Small y) (op : Int) (k : Nat) : prim_Do.f (k + 1) op x y = some (0, 100) := by
  unfold prim_Do.f; rw [May_yes hx, May_no hy]; simp only [Option.bind_some, if_true, Bool.not_false, prim_Do.j0]
theorem Do_bad_op {x y op : Int} (h : op < 0 ∨ 4 < op) (k : Nat) : prim_Do.f (k + 1) op x y = some (0, 100) := by
  by_cases hx : Small x
  · by_cases hy : Small y
    · unfold prim_Do.f; rw [May_yes hx, May_yes hy]; simp only [Option.bind_some, if_true, Bool.not_true, prim_Do.j0, Bool.false_eq_true, if_false]
      rw [if_neg (by omega), if_neg (by omega), if_neg (by omega), if_neg (by omega), if_neg (by omega)]
    · exact Do_bad_b hx hy op k
  · exact Do_bad_a hx op y k
theorem awake_yes (k : Nat) : sleuthlaw1_awake.f (k + 1) = some true := by
  unfold sleuthlaw1_awake.f
  rw [Do_add (by decide) (by decide), Do_mul (by decide) (by decide), Do_less (by decide) (by decide), Do_bad_op (by decide), Do_bad_a (by decide)]
  rfl
def in16 (a : Int) : Int := a % 65536 - 32768
theorem in16_small (a : Int) : Small (in16 a) := by unfold Small in16; omega
theorem in16_of (a : Int) : wrap64 (Go.bits .and .i64 a 65535 - 32768) = in16 a := by
  rw [and16]; unfold in16 wrap64; omega
theorem r16_small (n : Int) : Small (r16 n) := ⟨r16_lo n, r16_hi n⟩

theorem PrimForms : sleuthlaw1_PrimForms.Pure := by
  intro a b _ _
  refine ⟨1, ?_⟩
  unfold sleuthlaw1_PrimForms.f
  rw [awake_yes, and1, and20]
  simp only [Option.bind_some, if_true, and2]
  have hd : wrap64 (1 + b % 1048576) = 1 + b % 1048576 := by unfold wrap64; omega
  have d1 : 1 ≤ 1 + b % 1048576 ∧ 1 + b % 1048576 ≤ 1048576 := by omega
  rw [hd]
  generalize 1 + b % 1048576 = d at *
  have h0 : 0 ≤ a % 2 := by omega
  have hop : wrap64 (-d) < 0 ∧ 4 < wrap64 (4 + d) ∧ wrap64 (-32768 - d) < -32768 ∧ 32767 < wrap64 (32767 + d) := by unfold wrap64; omega
  rw [if_pos h0]
  have hlt : a % 2 < ([wrap64 (-32768 - d), wrap64 (32767 + d)].length : Int) := by simp; omega
  have hlt2 : a % 2 < ([wrap64 (-d), wrap64 (4 + d)].length : Int) := by simp; omega
  rw [if_pos hlt, if_pos hlt2]
  have h2 : a % 2 = 0 ∨ a % 2 = 1 := by omega
  have s1 : Small 1 := by decide
  rcases h2 with h2 | h2
  · rw [h2]
    have hb : ¬ Small (rd [wrap64 (-32768 - d), wrap64 (32767 + d)] 0) := by
      intro h; have := h.1; have e : rd [wrap64 (-32768 - d), wrap64 (32767 + d)] 0 = wrap64 (-32768 - d) := rfl
      rw [e] at this; omega
    have ho : rd [wrap64 (-d), wrap64 (4 + d)] 0 < 0 ∨ 4 < rd [wrap64 (-d), wrap64 (4 + d)] 0 := .inl hop.1
    rw [Do_bad_op ho, Do_bad_a hb, Do_bad_b s1 hb, May_no hb]
    rfl
  · rw [h2]
    have hb : ¬ Small (rd [wrap64 (-32768 - d), wrap64 (32767 + d)] 1) := by
      intro h; have := h.2; have e : rd [wrap64 (-32768 - d), wrap64 (32767 + d)] 1 = wrap64 (32767 + d) := rfl
      rw [e] at this; omega
    have ho : rd [wrap64 (-d), wrap64 (4 + d)] 1 < 0 ∨ 4 < rd [wrap64 (-d), wrap64 (4 + d)] 1 := .inr hop.2.1
    rw [Do_bad_op ho, Do_bad_a hb, Do_bad_b s1 hb, May_no hb]
    rfl

end Go.Proofs.Ytmikmcflfmodcaa.Pure
