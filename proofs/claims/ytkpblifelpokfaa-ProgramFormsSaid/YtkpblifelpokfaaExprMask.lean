/- Small facts: awake of chapter 5 is true; an and with a mask of ones is a remainder. No condition. -/
import Derived.Test.YtkpblifelpokfaaExprAwake
namespace Go.Proofs.Ytkpblifelpokfaa.PAll
open Go.RowKit Go.Proofs.YtkpblifelpokfaaW.PrintWords Go.Proofs.YtkpblifelpokfaaW.PrintLast Go.Proofs.YtkpblifelpokfaaW.PrintMore
set_option linter.unusedVariables false
set_option linter.unusedSimpArgs false

theorem awake5 : sleuthlaw5_awake.f = some true := by decide +kernel

theorem mask (j : Nat) (hj : j ≤ 32) (x : Int) : Go.bits .and .i64 x ((2 ^ j - 1 : Nat) : Int) = x % ((2 ^ j : Nat) : Int) := by
  have hpos : 0 < 2 ^ j := Nat.two_pow_pos j
  have hle : 2 ^ j ≤ 4294967296 := Nat.pow_le_pow_right (n := 2) (by decide) hj
  have hdv : (2 ^ j) ∣ 18446744073709551616 := Nat.pow_dvd_pow 2 (n := 64) (by omega)
  have hx : (BitVec.ofInt 64 x).toNat = (x % 18446744073709551616).toNat := by rw [BitVec.toNat_ofInt]; rfl
  have hy : (BitVec.ofInt 64 ((2 ^ j - 1 : Nat) : Int)).toNat = 2 ^ j - 1 := by
    rw [BitVec.ofInt_natCast, BitVec.toNat_ofNat]; exact Nat.mod_eq_of_lt (by omega)
  show IntKind.i64.wrap ((BitVec.ofInt 64 x &&& BitVec.ofInt 64 ((2 ^ j - 1 : Nat) : Int)).toNat : Int) = _
  rw [BitVec.toNat_and, hx, hy, Nat.and_two_pow_sub_one_eq_mod]
  generalize 2 ^ j = m at *
  obtain ⟨n, hn⟩ := Int.eq_ofNat_of_zero_le (Int.emod_nonneg x (show (18446744073709551616 : Int) ≠ 0 by decide))
  have hd : ((m : Nat) : Int) ∣ 18446744073709551616 := Int.ofNat_dvd.2 hdv
  have e : ((n % m : Nat) : Int) = x % m := by
    have h1 : (x % 18446744073709551616) % (m : Int) = x % (m : Int) := Int.emod_emod_of_dvd x hd
    rw [hn] at h1
    rw [Int.natCast_emod, h1]
  rw [hn, Int.toNat_natCast, e]
  have h0 := Int.emod_nonneg x (show (m : Int) ≠ 0 by omega)
  have h1 := Int.emod_lt_of_pos x (show (0 : Int) < m by omega)
  rw [IntKind.wrap_i64]
  omega
theorem and15 (x : Int) : Go.bits .and .i64 x 15 = x % 16 := mask 4 (by decide) x
theorem and3 (x : Int) : Go.bits .and .i64 x 3 = x % 4 := mask 2 (by decide) x
theorem and1 (x : Int) : Go.bits .and .i64 x 1 = x % 2 := mask 1 (by decide) x
theorem and7 (x : Int) : Go.bits .and .i64 x 7 = x % 8 := mask 3 (by decide) x
theorem and1023 (x : Int) : Go.bits .and .i64 x 1023 = x % 1024 := mask 10 (by decide) x

end Go.Proofs.Ytkpblifelpokfaa.PAll
