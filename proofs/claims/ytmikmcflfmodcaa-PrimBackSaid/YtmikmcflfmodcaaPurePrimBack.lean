/- What prim.Do adds it takes away again; sums and products hang on no row of the two numbers. No condition. -/
import Derived.Test.YtmikmcflfmodcaaPPrimBackx1
namespace Go.Proofs.Ytmikmcflfmodcaa.Pure
open Go.RowKit Go.Proofs.Ytmikmcflfmodcaa.PPrimBack Go.Proofs.YtmikmcflfmodcaaW.PrintWords Go.Proofs.YtmikmcflfmodcaaW.PrintLast

theorem mask (j : Nat) (hj : j ≤ 32) (x : Int) : Go.bits .and .i64 x ((2 ^ j - 1 : Nat) : Int) = x % ((2 ^ j : Nat) : Int) := by
  have hpos : 0 < 2 ^ j := Nat.two_pow_pos j
  have hle : 2 ^ j ≤ 4294967296 := Nat.pow_le_pow_right (n := 2) (by decide) hj
  have hdv : (2 ^ j) ∣ 18446744073709551616 := Nat.pow_dvd_pow 2 (n := 64) (by omega)
  have hx : (BitVec.ofInt 64 x).toNat = (x % 18446744073709551616).toNat := by rw [BitVec.toNat_ofInt]; rfl
  have hy : (BitVec.ofInt 64 ((2 ^ j - 1 : Nat) : Int)).toNat = 2 ^ j - 1 := by
    rw [BitVec.ofInt_natCast, BitVec.toNat_ofNat]; exact Nat.mod_eq_of_lt (by omega)
  show IntKind.i64.wrap ((BitVec.ofInt 64 x &&& BitVec.ofInt 64 ((2 ^ j - 1 : Nat) : Int)).toNat : Int) = _
  rw [BitVec.toNat_and, hx, hy, Nat.and_two_pow_sub_one_eq_mod]
  generalize 2 ^ j = m at *
  obtain ⟨n, hn⟩ := Int.eq_ofNat_of_zero_le (Int.emod_nonneg x (show (18446744073709551616 : Int) ≠ 0 by decide))
  have hd : ((m : Nat) : Int) ∣ 18446744073709551616 := Int.ofNat_dvd.2 hdv
  have e : ((n % m : Nat) : Int) = x % m := by
    have h1 : (x % 18446744073709551616) % (m : Int) = x % (m : Int) := Int.emod_emod_of_dvd x hd
    rw [hn] at h1
    rw [Int.natCast_emod, h1]
  rw [hn, Int.toNat_natCast, e]
  have h0 := Int.emod_nonneg x (show (m : Int) ≠ 0 by omega)
  have h1 := Int.emod_lt_of_pos x (show (0 : Int) < m by omega)
  rw [IntKind.wrap_i64]
  omega
theorem and16 (x : Int) : Go.bits .and .i64 x 65535 = x % 65536 := mask 16 (by decide) x
theorem and20 (x : Int) : Go.bits .and .i64 x 1048575 = x % 1048576 := mask 20 (by decide) x
theorem and1 (x : Int) : Go.bits .and .i64 x 1 = x % 2 := mask 1 (by decide) x
theorem and2 (x : Int) : Go.bits .and .i64 x 3 = x % 4 := mask 2 (by decide) x
theorem i16w (n : Int) : IntKind.i16.wrap n = (n + 32768) % 65536 - 32768 := by
  simp [IntKind.wrap, IntKind.bits, IntKind.signed]
  split <;> omega
theorem u16w (n : Int) : IntKind.u16.wrap n = n % 65536 := by simp [IntKind.wrap, IntKind.bits, IntKind.signed]
/-- A number brought into range. -/
def r16 (n : Int) : Int := (n + 32768) % 65536 - 32768
theorem r16_lo (n : Int) : -32768 ≤ r16 n := by unfold r16; omega
theorem r16_hi (n : Int) : r16 n ≤ 32767 := by unfold r16; omega
def Small (x : Int) : Prop := -32768 ≤ x ∧ x ≤ 32767
instance (x : Int) : Decidable (Small x) := by unfold Small; infer_instance
theorem May_yes {x : Int} (h : Small x) : prim_May.f x = some true := by
  obtain ⟨h1, h2⟩ := h
  unfold prim_May.f; rw [if_pos (by omega)]; simp [h2]
theorem May_no {x : Int} (h : ¬ Small x) : prim_May.f x = some false := by
  unfold prim_May.f
  by_cases h1 : x ≥ -32768
  · rw [if_pos h1]; simp; apply Classical.byContradiction; intro h2; exact h ⟨h1, by omega⟩
  · rw [if_neg h1]
theorem mul_bound {x y : Int} (hx : Small x) (hy : Small y) : -1073741824 ≤ x * y ∧ x * y ≤ 1073741824 := by
  obtain ⟨a, b⟩ := hx
  obtain ⟨c, d⟩ := hy
  have e1 : 0 ≤ (x + 32768) * (y + 32768) := Int.mul_nonneg (by omega) (by omega)
  have e2 : 0 ≤ (32768 - x) * (y + 32768) := Int.mul_nonneg (by omega) (by omega)
  have e3 : 0 ≤ (x + 32768) * (32768 - y) := Int.mul_nonneg (by omega) (by omega)
  have e4 : 0 ≤ (32768 - x) * (32768 - y) := Int.mul_nonneg (by omega) (by omega)
  simp only [Int.add_mul, Int.mul_add, Int.sub_mul, Int.mul_sub] at e1 e2 e3 e4
  constructor <;> omega
theorem w64_16 (n : Int) (h : -9000000000000000000 ≤ n ∧ n ≤ 9000000000000000000) : wrap64 (IntKind.i16.wrap (wrap64 n)) = r16 n := by
  rw [i16w]; unfold r16; unfold wrap64; omega
theorem w01 (n : Int) (h : 0 ≤ n ∧ n ≤ 1) : wrap64 (IntKind.i16.wrap n) = n := by
  rw [i16w]; unfold wrap64; omega
theorem truth_t : prim_truth.f true = some 1 := rfl
theorem truth_f : prim_truth.f false = some 0 := rfl
section
variable {x y : Int} (hx : Small x) (hy : Small y) (k : Nat)
include hx hy
theorem Do_add : prim_Do.f (k + 1) 0 x y = some (r16 (x + y), 0) := by
  unfold prim_Do.f; rw [May_yes hx, May_yes hy]; simp only [Option.bind_some, if_true, Bool.not_true, prim_Do.j0, Bool.false_eq_true, if_false]
  rw [w64_16 _ (by unfold Small at hx hy; omega)]
theorem Do_sub : prim_Do.f (k + 1) 1 x y = some (r16 (x - y), 0) := by
  unfold prim_Do.f; rw [May_yes hx, May_yes hy]; simp only [Option.bind_some, if_true, Bool.not_true, prim_Do.j0, Bool.false_eq_true, if_false]
  rw [if_neg (by decide), w64_16 _ (by unfold Small at hx hy; omega)]
theorem Do_mul : prim_Do.f (k + 1) 2 x y = some (r16 (x * y), 0) := by
  have := mul_bound hx hy
  unfold prim_Do.f; rw [May_yes hx, May_yes hy]; simp only [Option.bind_some, if_true, Bool.not_true, prim_Do.j0, Bool.false_eq_true, if_false]
  rw [if_neg (by decide), if_neg (by decide), w64_16 _ (by omega)]
theorem Do_eq : prim_Do.f (k + 1) 3 x y = some (if x = y then 1 else 0, 0) := by
  unfold prim_Do.f; rw [May_yes hx, May_yes hy]; simp only [Option.bind_some, if_true, Bool.not_true, prim_Do.j0, Bool.false_eq_true, if_false]
  rw [if_neg (by decide), if_neg (by decide), if_neg (by decide)]
  by_cases h : x = y
  · rw [if_pos h, show (x == y) = true by simp [h], truth_t]; simp only [Option.bind_some]; rw [w01 _ (by omega)]
  · rw [if_neg h, show (x == y) = false by simp [h], truth_f]; simp only [Option.bind_some]; rw [w01 _ (by omega)]
theorem Do_less : prim_Do.f (k + 1) 4 x y = some (if x < y then 1 else 0, 0) := by
  unfold prim_Do.f; rw [May_yes hx, May_yes hy]; simp only [Option.bind_some, if_true, Bool.not_true, prim_Do.j0, Bool.false_eq_true, if_false]
  rw [if_neg (by decide), if_neg (by decide), if_neg (by decide), if_neg (by decide)]
  by_cases h : x < y
  · rw [if_pos h, show decide (x < y) = true by simp [h], truth_t]; simp only [Option.bind_some]; rw [w01 _ (by omega)]
  · rw [if_neg h, show decide (x < y) = false by simp [h], truth_f]; simp only [Option.bind_some]; rw [w01 _ (by omega)]
end
theorem Do_bad_a {x : Int} (hx : ¬ Small x) (op y : Int) (k : Nat) : prim_Do.f (k + 1) op x y = some (0, 100) := by
  unfold prim_Do.f; rw [May_no hx]; simp only [Option.bind_some, Bool.false_eq_true, if_false, prim_Do.j0, if_true]
theorem Do_bad_b {x y : Int} (hx : Small x) (hy : ¬ Small y) (op : Int) (k : Nat) : prim_Do.f (k + 1) op x y = some (0, 100) := by
  unfold prim_Do.f; rw [May_yes hx, May_no hy]; simp only [Option.bind_some, if_true, Bool.not_false, prim_Do.j0]
theorem Do_bad_op {x y op : Int} (h : op < 0 ∨ 4 < op) (k : Nat) : prim_Do.f (k + 1) op x y = some (0, 100) := by
  by_cases hx : Small x
  · by_cases hy : Small y
    · unfold prim_Do.f; rw [May_yes hx, May_yes hy]; simp only [Option.bind_some, if_true, Bool.not_true, prim_Do.j0, Bool.false_eq_true, if_false]
      rw [if_neg (by omega), if_neg (by omega), if_neg (by omega), if_neg (by omega), if_neg (by omega)]
    · exact Do_bad_b hx hy op k
  · exact Do_bad_a hx op y k
theorem awake_yes (k : Nat) : sleuthlaw1_awake.f (k + 1) = some true := by
  unfold sleuthlaw1_awake.f
  rw [Do_add (by decide) (by decide), Do_mul (by decide) (by decide), Do_less (by decide) (by decide), Do_bad_op (by decide), Do_bad_a (by decide)]
  rfl
def in16 (a : Int) : Int := a % 65536 - 32768
theorem in16_small (a : Int) : Small (in16 a) := by unfold Small in16; omega
theorem in16_of (a : Int) : wrap64 (Go.bits .and .i64 a 65535 - 32768) = in16 a := by
  rw [and16]; unfold in16 wrap64; omega
theorem r16_small (n : Int) : Small (r16 n) := ⟨r16_lo n, r16_hi n⟩

theorem NumMay_eq (x : Int) : sleuthref1_NumMay.f x = prim_May.f x := by
  unfold sleuthref1_NumMay.f sleuthref1_upTo.f prim_May.f
  by_cases h : x ≥ -32768
  · rw [if_pos h]; rfl
  · rw [if_neg h]; rfl
theorem PrimBack : sleuthlaw1_PrimBack.Pure := by
  intro a b _ _
  refine ⟨1, ?_⟩
  unfold sleuthlaw1_PrimBack.f
  rw [awake_yes, in16_of a, in16_of b]
  have hx := in16_small a
  have hy := in16_small b
  generalize in16 a = x at *
  generalize in16 b = y at *
  rw [Do_add hx hy, Do_add hy hx, Do_mul hx hy, Do_mul hy hx]
  simp only [Option.bind_some, if_true]
  rw [Do_sub (r16_small _) hy, Int.add_comm y x, Int.mul_comm y x, NumMay_eq, May_yes (r16_small _)]
  have e : r16 (r16 (x + y) - y) = x := by unfold Small at hx hy; unfold r16; omega
  rw [e]
  simp [sleuthlaw0_Num.f]

end Go.Proofs.Ytmikmcflfmodcaa.Pure
