/- What the reference quoinref01 computes, told in plain numbers: the same as the package bits. -/
import Derived.Test.YtpijiohiohiilaaBQuoinref01
import Derived.Test.YtpijiohiohiilaaBitF
namespace Go.Proofs.Ytpijiohiohiilaa.RefF
set_option linter.unusedVariables false
set_option linter.unusedSimpArgs false
open Go Go.RowKit Go.Proofs.Ytpijiohiohiilaa.B Go.Proofs.YtpijiohiohiilaaW.PrintMore Go.Proofs.YtpijiohiohiilaaW.PrintWords Go.Proofs.Ytpijiohiohiilaa.BitL Go.Proofs.Ytpijiohiohiilaa.BitF

theorem two_l0 (n : Nat) (hn : n ≤ 62) : ∀ (d i k : Nat), i + d = n → d < k → quoinref01_Two.l0 k (n : Int) ((2 ^ i : Nat) : Int) (i : Int) = some ((2 ^ n : Nat) : Int)
  | 0, i, k, hi, hk => by
    obtain ⟨k, rfl⟩ : ∃ m, k = m + 1 := ⟨k - 1, by omega⟩
    simp only [quoinref01_Two.l0]
    rw [if_neg (by omega), show i = n from by omega]
  | d + 1, i, k, hi, hk => by
    obtain ⟨k, rfl⟩ : ∃ m, k = m + 1 := ⟨k - 1, by omega⟩
    have hb : 2 ^ i * 2 ≤ 4611686018427387904 := by
      rw [← Nat.pow_succ]; exact Nat.pow_le_pow_right (n := 2) (by decide) (by omega : i + 1 ≤ 62)
    simp only [quoinref01_Two.l0]
    rw [if_pos (by omega), if_pos (by omega), w64 (by omega) (by omega), w64 (by omega) (by omega), show ((2 ^ i : Nat) : Int) * 2 = ((2 ^ (i + 1) : Nat) : Int) from by rw [Nat.pow_succ]; omega, show (i : Int) + 1 = ((i + 1 : Nat) : Int) from by omega]
    exact two_l0 n hn d (i + 1) k (by omega) (by omega)
theorem two_ok {n k : Nat} (hn : n ≤ 62) (hk : n < k) : quoinref01_Two.f k (n : Int) = some ((2 ^ n : Nat) : Int) := two_l0 n hn n 0 k (by omega) hk
theorem bits_ok {w a n k : Nat} (hw : w < 4294967296) (ha : a ≤ 62) (hn : n ≤ 62) (hk : a < k) (hk' : n < k) : quoinref01_Bits.f k (w : Int) (a : Int) (n : Int) = some ((takeN w a n : Nat) : Int) := by
  have p1 := Nat.two_pow_pos a
  have p2 := Nat.two_pow_pos n
  unfold quoinref01_Bits.f
  rw [two_ok ha hk, Option.bind_some, if_neg (by omega), two_ok hn hk', Option.bind_some, if_neg (by omega), w64 (x := (w : Int)) (by omega) (by omega), Int.tdiv_eq_ediv_of_nonneg (by omega), ← Int.natCast_ediv]
  have hq := Nat.div_le_self w (2 ^ a)
  unfold takeN
  generalize w / 2 ^ a = q at *
  have hm := Nat.mod_le q (2 ^ n)
  rw [w64 (x := (q : Int)) (by omega) (by omega), Int.tmod_eq_emod_of_nonneg (by omega), ← Int.natCast_emod]
  generalize q % 2 ^ n = m at *
  rw [Int.emod_eq_of_lt (by omega) (by omega)]

theorem rfield_ok {a n : Nat} (h1 : 1 ≤ n) (h2 : a + n ≤ 32) : quoinref01_field.f (a : Int) (n : Int) = some true := by
  unfold quoinref01_field.f
  rw [if_pos (by omega), if_pos (by omega), if_pos (by omega), if_pos (by omega), w64 (by omega) (by omega)]
  congr 1; rw [decide_eq_true_eq]; omega
theorem rfield_no {a n : Int} (h : ¬(0 ≤ a ∧ a < 32 ∧ 1 ≤ n ∧ a + n ≤ 32)) : quoinref01_field.f a n = some false := by
  unfold quoinref01_field.f
  by_cases h0 : a ≥ 0
  · by_cases h1 : a ≤ 31
    · by_cases h2 : n ≥ 1
      · by_cases h3 : n ≤ 32
        · rw [if_pos h0, if_pos h1, if_pos h2, if_pos h3, w64 (by omega) (by omega)]
          congr 1; rw [decide_eq_false_iff_not]; omega
        · rw [if_pos h0, if_pos h1, if_pos h2, if_neg h3]
      · rw [if_pos h0, if_pos h1, if_neg h2]
    · rw [if_pos h0, if_neg h1]
  · rw [if_neg h0]
theorem rtake_ok {w a n k : Nat} (hw : w < 4294967296) (h1 : 1 ≤ n) (h2 : a + n ≤ 32) (hk : 32 < k) : quoinref01_Take.f k (w : Int) (a : Int) (n : Int) = some (((takeN w a n : Nat) : Int), 0) := by
  unfold quoinref01_Take.f
  rw [rfield_ok h1 h2, Option.bind_some, if_pos rfl, bits_ok hw (by omega) (by omega) (by omega) (by omega), Option.bind_some]
theorem rtake_no {w a n : Int} {k : Nat} (h : ¬(0 ≤ a ∧ a < 32 ∧ 1 ≤ n ∧ a + n ≤ 32)) : quoinref01_Take.f k w a n = some (0, 2) := by
  unfold quoinref01_Take.f; rw [rfield_no h, Option.bind_some, if_neg (by simp)]
theorem rput_ok {w a n v k : Nat} (hw : w < 4294967296) (hv : v < 2 ^ n) (h1 : 1 ≤ n) (h2 : a + n ≤ 32) (hk : 33 < k) : quoinref01_Put.f k (w : Int) (a : Int) (n : Int) (v : Int) = some (((putN w a n v : Nat) : Int), 0) := by
  have hv' : v < 4294967296 := Nat.lt_of_lt_of_le hv (pow_le_32 (by omega))
  unfold quoinref01_Put.f
  rw [rfield_ok h1 h2, Option.bind_some, if_pos rfl, two_ok (by omega) (by omega), Option.bind_some, w64 (x := (v : Int)) (by omega) (by omega)]
  have hd : decide ((v : Int) ≥ ((2 ^ n : Nat) : Int)) = false := by rw [decide_eq_false_iff_not]; omega
  obtain ⟨k, rfl⟩ : ∃ m, k = m + 1 := ⟨k - 1, by omega⟩
  rw [hd]
  simp only [quoinref01_Put.j0]
  rw [if_neg (by decide), bits_ok hw (by omega) (by omega) (by omega) (by omega), Option.bind_some, two_ok (by omega) (by omega), Option.bind_some, Option.bind_some]
  have hs := putN_sum hw h2 hv
  have hT : takeN w a n * 2 ^ a < 2 ^ n * 2 ^ a := Nat.mul_lt_mul_of_pos_right (takeN_lt w a n) (Nat.two_pow_pos a)
  have hV : v * 2 ^ a < 2 ^ n * 2 ^ a := Nat.mul_lt_mul_of_pos_right hv (Nat.two_pow_pos a)
  have hP : 2 ^ n * 2 ^ a ≤ 4294967296 := by rw [← Nat.pow_add]; exact pow_le_32 (by omega)
  have hN := putN_lt (a := a) (n := n) (v := v) hw
  have hTl := takeN_lt w a n
  have hA := pow_le_32 (n := a) (by omega)
  have hNn := pow_le_32 (n := n) (by omega)
  rw [w64 (x := (w : Int)) (by omega) (by omega), w64 (x := (v : Int)) (by omega) (by omega), w64 (x := ((takeN w a n : Nat) : Int)) (by omega) (by omega), ← Int.natCast_mul, ← Int.natCast_mul,
    w64 (x := ((takeN w a n * 2 ^ a : Nat) : Int)) (by omega) (by omega), w64 (x := ((v * 2 ^ a : Nat) : Int)) (by omega) (by omega), w64 (x := (w : Int) - _) (by omega) (by omega), w64 (by omega) (by omega)]
  have : ((w : Int) - ((takeN w a n * 2 ^ a : Nat) : Int) + ((v * 2 ^ a : Nat) : Int)) = ((putN w a n v : Nat) : Int) := by omega
  rw [this, Int.emod_eq_of_lt (by omega) (by omega)]
theorem rput_no {w a n v : Int} {k : Nat} (h : ¬(0 ≤ a ∧ a < 32 ∧ 1 ≤ n ∧ a + n ≤ 32)) (hk : 0 < k) : quoinref01_Put.f k w a n v = some (0, 2) := by
  obtain ⟨k, rfl⟩ : ∃ m, k = m + 1 := ⟨k - 1, by omega⟩
  unfold quoinref01_Put.f; rw [rfield_no h, Option.bind_some, if_neg (by simp)]; simp [quoinref01_Put.j0]
theorem rput_big {w : Int} {a n v k : Nat} (hv' : v < 4294967296) (hv : ¬ v < 2 ^ n) (h1 : 1 ≤ n) (h2 : a + n ≤ 32) (hk : 33 < k) : quoinref01_Put.f k w (a : Int) (n : Int) (v : Int) = some (0, 2) := by
  unfold quoinref01_Put.f
  rw [rfield_ok h1 h2, Option.bind_some, if_pos rfl, two_ok (by omega) (by omega), Option.bind_some, w64 (x := (v : Int)) (by omega) (by omega)]
  have hd : decide ((v : Int) ≥ ((2 ^ n : Nat) : Int)) = true := by rw [decide_eq_true_eq]; omega
  obtain ⟨k, rfl⟩ : ∃ m, k = m + 1 := ⟨k - 1, by omega⟩
  rw [hd]; simp [quoinref01_Put.j0]
theorem rsigned_ok {v n k : Nat} (h1 : 1 ≤ n) (h2 : n ≤ 32) (hv : v < 2 ^ n) (hk : 32 < k) : quoinref01_Signed.f k (v : Int) (n : Int) = some (sgn v n) := by
  have hp := pow_le_32 h2
  unfold quoinref01_Signed.f
  rw [w64 (x := (n : Int) - 1) (by omega) (by omega), show (n : Int) - 1 = ((n - 1 : Nat) : Int) from by omega, two_ok (by omega) (by omega), Option.bind_some, w64 (x := (v : Int)) (by omega) (by omega)]
  unfold sgn
  rw [← cast_pow]
  by_cases h : v < 2 ^ (n - 1)
  · rw [if_neg (by omega), if_pos h]
  · rw [if_pos (by omega), if_neg h, two_ok (by omega) (by omega), Option.bind_some, w64 (by omega) (by omega)]
theorem rsign_ok {v n k : Nat} (h1 : 1 ≤ n) (h2 : n ≤ 32) (hv : v < 2 ^ n) (hk : 32 < k) : quoinref01_Sign.f k (v : Int) (n : Int) = some (sgn v n, 0) := by
  have hp := pow_le_32 h2
  unfold quoinref01_Sign.f
  rw [if_neg (by omega), if_neg (by omega), two_ok (by omega) (by omega), Option.bind_some, w64 (x := (v : Int)) (by omega) (by omega), if_neg (by omega), rsigned_ok h1 h2 hv hk, Option.bind_some]
theorem rsign_no {v n : Int} {k : Nat} (h : ¬(1 ≤ n ∧ n ≤ 32)) : quoinref01_Sign.f k v n = some (0, 2) := by
  unfold quoinref01_Sign.f
  by_cases h1 : n < 1
  · rw [if_pos h1]
  · rw [if_neg h1, if_pos (by omega)]
theorem rsign_big {v n k : Nat} (h1 : 1 ≤ n) (h2 : n ≤ 32) (hv' : v < 4294967296) (hv : ¬ v < 2 ^ n) (hk : 32 < k) : quoinref01_Sign.f k (v : Int) (n : Int) = some (0, 2) := by
  unfold quoinref01_Sign.f
  rw [if_neg (by omega), if_neg (by omega), two_ok (by omega) (by omega), Option.bind_some, w64 (x := (v : Int)) (by omega) (by omega), if_pos (by omega)]
theorem rfits_ok {x : Int} {n k : Nat} (h1 : 1 ≤ n) (h2 : n ≤ 63) (hk : 63 < k) :
    quoinref01_Fits.f k x (n : Int) = some (decide (-((2 ^ (n - 1) : Nat) : Int) ≤ x ∧ x < ((2 ^ (n - 1) : Nat) : Int))) := by
  have hp0 := Nat.two_pow_pos (n - 1)
  have hp : 2 ^ (n - 1) ≤ 4611686018427387904 := Nat.pow_le_pow_right (n := 2) (by decide) (by omega : n - 1 ≤ 62)
  unfold quoinref01_Fits.f
  rw [if_pos (by omega), if_pos (by omega), w64 (x := (n : Int) - 1) (by omega) (by omega), show (n : Int) - 1 = ((n - 1 : Nat) : Int) from by omega, two_ok (by omega) (by omega), Option.bind_some, w64 (x := -_) (by omega) (by omega)]
  by_cases h : x ≥ -((2 ^ (n - 1) : Nat) : Int)
  · rw [if_pos h, Option.bind_some, w64 (by omega) (by omega)]
    congr 1; rw [Bool.eq_iff_iff, decide_eq_true_eq, decide_eq_true_eq]; omega
  · rw [if_neg h]
    congr 1; rw [eq_comm, decide_eq_false_iff_not]; omega
theorem rfits_no {x n : Int} {k : Nat} (h : ¬(1 ≤ n ∧ n ≤ 63)) : quoinref01_Fits.f k x n = some false := by
  unfold quoinref01_Fits.f
  by_cases h1 : n ≥ 1
  · rw [if_pos h1, if_neg (by omega)]
  · rw [if_neg h1]
end Go.Proofs.Ytpijiohiohiilaa.RefF
