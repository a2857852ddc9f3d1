/- What the reference quoinref01 computes, told in plain numbers: the same as the package bits. -/
import Derived.Test.YtpijiohiohiilaaDoorDQuoinref01
import Derived.Test.YtpijiohiohiilaaDoorBitF
namespace Go.Proofs.YtpijiohiohiilaaDoor.RefF
set_option linter.unusedVariables false
set_option linter.unusedSimpArgs false
open Go Go.RowKit Go.Proofs.YtpijiohiohiilaaDoor.D Go.Proofs.YtpijiohiohiilaaDoorW.PrintMore Go.Proofs.YtpijiohiohiilaaDoorW.PrintWords Go.Proofs.YtpijiohiohiilaaDoor.BitL Go.Proofs.YtpijiohiohiilaaDoor.BitF

theorem two_l0 (n : Nat) (hn : n ≤ 62) : ∀ (d i k : Nat), i + d = n → d < k → quoinref01_Two.l0 k (n : Int) ((2 ^ i : Nat) : Int) (i : Int) = some ((2 ^ n : Nat) : Int)
  | 0, i, k, hi, hk => by
    obtain ⟨k, rfl⟩ : ∃ m, k = m + 1 := ⟨k - 1, by omega⟩
    simp only [quoinref01_Two.l0]
    rw [if_neg (by omega), show i = n from by omega]
  | d + 1, i, k, hi, hk => by
    obtain ⟨k, rfl⟩ : ∃ m, k = m + 1 := ⟨k - 1, by omega⟩
    have hb : 2 ^ i * 2 ≤ 4611686018427387904 := by
      rw [← Nat.pow_succ]; exact Nat.pow_le_pow_right (n := 2) (by decide) (by omega : i + 1 ≤ 62)
    simp only [quoinref01_Two.l0]
    rw [if_pos (by omega), if_pos (by omega), w64 (by omega) (by omega), w64 (by omega) (by omega), show ((2 ^ i : Nat) : Int) * 2 = ((2 ^ (i + 1) : Nat) : Int) from by rw [Nat.pow_succ]; omega, show (i : Int) + 1 = ((i + 1 : Nat) : Int) from by omega]
    exact two_l0 n hn d (i + 1) k (by omega) (by omega)
theorem two_ok {n k : Nat} (hn : n ≤ 62) (hk : n < k) : quoinref01_Two.f k (n : Int) = some ((2 ^ n : Nat) : Int) := two_l0 n hn n 0 k (by omega) hk
theorem bits_ok {w a n k : Nat} (hw : w < 4294967296) (ha : a ≤ 62) (hn : n ≤ 62) (hk : a < k) (hk' : n < k) : quoinref01_Bits.f k (w : Int) (a : Int) (n : Int) = some ((takeN w a n : Nat) : Int) := by
  have p1 := Nat.two_pow_pos a
  have p2 := Nat.two_pow_pos n
  unfold quoinref01_Bits.f
  rw [two_ok ha hk, Option.bind_some, if_neg (by omega), two_ok hn hk', Option.bind_some, if_neg (by omega), w64 (x := (w : Int)) (by omega) (by omega), Int.tdiv_eq_ediv_of_nonneg (by omega), ← Int.natCast_ediv]
  have hq := Nat.div_le_self w (2 ^ a)
  unfold takeN
  generalize w / 2 ^ a = q at *
  have hm := Nat.mod_le q (2 ^ n)
  rw [w64 (x := (q : Int)) (by omega) (by omega), Int.tmod_eq_emod_of_nonneg (by omega), ← Int.natCast_emod]
  generalize q % 2 ^ n = m at *
  rw [Int.emod_eq_of_lt (by omega) (by omega)]

theorem rsigned_ok {v n k : Nat} (h1 : 1 ≤ n) (h2 : n ≤ 32) (hv : v < 2 ^ n) (hk : 32 < k) : quoinref01_Signed.f k (v : Int) (n : Int) = some (sgn v n) := by
  have hp := pow_le_32 h2
  unfold quoinref01_Signed.f
  rw [w64 (x := (n : Int) - 1) (by omega) (by omega), show (n : Int) - 1 = ((n - 1 : Nat) : Int) from by omega, two_ok (by omega) (by omega), Option.bind_some, w64 (x := (v : Int)) (by omega) (by omega)]
  unfold sgn
  rw [← cast_pow]
  by_cases h : v < 2 ^ (n - 1)
  · rw [if_neg (by omega), if_pos h]
  · rw [if_pos (by omega), if_neg h, two_ok (by omega) (by omega), Option.bind_some, w64 (by omega) (by omega)]
end Go.Proofs.YtpijiohiohiilaaDoor.RefF
