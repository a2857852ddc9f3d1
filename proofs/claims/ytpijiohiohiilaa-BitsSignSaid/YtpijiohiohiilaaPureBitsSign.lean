/- BitsSign, the plain law: Sign undoes cutting off, just if the number fits. No condition. -/
import Derived.Test.YtpijiohiohiilaaBBitsSign
import Derived.Test.YtpijiohiohiilaaBitF
import Derived.Test.YtpijiohiohiilaaWf
namespace Go.Proofs.Ytpijiohiohiilaa.Pure
set_option linter.unusedVariables false
open Go Go.RowKit Go.Proofs.Ytpijiohiohiilaa.B Go.Proofs.YtpijiohiohiilaaW.PrintWords Go.Proofs.YtpijiohiohiilaaW.PrintLast Go.Proofs.YtpijiohiohiilaaW.PrintMore Go.Proofs.Ytpijiohiohiilaa.BitL Go.Proofs.Ytpijiohiohiilaa.BitF
theorem alive_true1 : quoinlaw01_alive.f = some true := by decide +kernel
theorem sgn_iff {P M t : Nat} {x : Int} (hP : P = 2 * M) (hM : 0 < M) (ht : t < P) (hx : (t : Int) = x % (P : Int)) : (if t < M then (t : Int) else (t : Int) - (P : Int)) = x ↔ -(M : Int) ≤ x ∧ x < (M : Int) := by
  have m1 := Int.emod_lt_of_pos x (by omega : (0 : Int) < (P : Int))
  constructor
  · intro h
    by_cases hs : t < M
    · rw [if_pos hs] at h; omega
    · rw [if_neg hs] at h; omega
  · rintro ⟨ha, hb⟩
    by_cases h0 : 0 ≤ x
    · rw [Int.emod_eq_of_lt h0 (by omega)] at hx
      rw [if_pos (by omega)]; omega
    · rw [← Int.add_emod_right, Int.emod_eq_of_lt (by omega) (by omega)] at hx
      rw [if_neg (by omega)]; omega
theorem BitsSign : quoinlaw01_BitsSign.Pure := by
  intro x n0 w0 w1
  obtain ⟨b0, b0'⟩ := Wf.i64 w0
  refine ⟨1, ?_⟩
  unfold quoinlaw01_BitsSign.f
  rw [alive_true1, Option.bind_some]
  by_cases h1 : n0 < 1
  · rw [if_pos h1]; simp [quoinlaw01_BitsSign.j0]
  rw [if_neg h1]
  by_cases h2 : n0 > 32
  · rw [if_pos h2]; simp [quoinlaw01_BitsSign.j0]
  rw [if_neg h2]
  obtain ⟨n, rfl⟩ := Int.eq_ofNat_of_zero_le (by omega : 0 ≤ n0)
  simp only [quoinlaw01_BitsSign.j0, Bool.not_true]
  rw [if_neg (by decide), w64 (by omega) (by omega), if_pos (by omega)]
  obtain ⟨y, hy⟩ := Int.eq_ofNat_of_zero_le (by omega : 0 ≤ x % 4294967296)
  have hy32 : y < 4294967296 := by omega
  have e32 : 2 ^ n * 2 ^ (32 - n) = 4294967296 := by rw [← Nat.pow_add, show n + (32 - n) = 32 from by omega]
  have hp := Nat.two_pow_pos (32 - n)
  have hpn := Nat.two_pow_pos n
  -- the number, cut off
  have hcut : y * 2 ^ (32 - n) % 4294967296 / 2 ^ (32 - n) = y % 2 ^ n := by
    rw [← e32, Nat.mul_mod_mul_right, Nat.mul_div_cancel _ hp]
  have hlt : y % 2 ^ n < 2 ^ n := Nat.mod_lt _ hpn
  rw [hy, show (32 : Int) - n = ((32 - n : Nat) : Int) from by omega, shl_u32, shr_u32 _ _ (Nat.mod_lt _ (by decide)), hcut, sign_ok (by omega) (by omega) hlt, Option.bind_some, if_pos rfl,
    fits_ok b0 b0' (by omega) (by omega), Option.bind_some]
  congr 1
  rw [beq_iff_eq, Bool.eq_iff_iff, beq_iff_eq, decide_eq_true_eq]
  -- y mod 2^n is x mod 2^n
  have hx : ((y % 2 ^ n : Nat) : Int) = x % ((2 ^ n : Nat) : Int) := by
    rw [Int.natCast_emod, ← hy]
    refine Int.emod_emod_of_dvd x ?_
    exact ⟨((2 ^ (32 - n) : Nat) : Int), by rw [← Int.natCast_mul, e32]; rfl⟩
  have hpow : 2 ^ n = 2 * 2 ^ (n - 1) := by rw [← Nat.pow_succ', show (n - 1).succ = n from by omega]
  show sgn (y % 2 ^ n) n = x ↔ _
  unfold sgn
  rw [← cast_pow n]
  exact sgn_iff hpow (Nat.two_pow_pos _) hlt hx
end Go.Proofs.Ytpijiohiohiilaa.Pure
