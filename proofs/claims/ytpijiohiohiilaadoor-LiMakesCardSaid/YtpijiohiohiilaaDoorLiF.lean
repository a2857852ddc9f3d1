/- Numbers made by instructions, told in plain numbers: a number's parts, and what is left of the high part when its zeros at the end are cut off. -/
import Derived.Test.YtpijiohiohiilaaDoorGLi
import Derived.Test.YtpijiohiohiilaaDoorDQuoinref18
import Derived.Test.YtpijiohiohiilaaDoorBitF
namespace Go.Proofs.YtpijiohiohiilaaDoor.LiF
set_option linter.unusedVariables false
set_option linter.unusedSimpArgs false
set_option maxRecDepth 100000
open Go Go.RowKit Go.Proofs.YtpijiohiohiilaaDoor.D Go.Proofs.YtpijiohiohiilaaDoor.BitL Go.Proofs.YtpijiohiohiilaaDoor.BitF Go.Proofs.YtpijiohiohiilaaDoorW.PrintWords Go.Proofs.YtpijiohiohiilaaDoorW.PrintMore
def lo (n : Int) : Int := (n + 2048) % 4096 - 2048
def hi (n : Int) : Int := (n + 2048) / 4096
theorem parts_sum (n : Int) : 4096 * hi n + lo n = n := by unfold hi lo; omega
theorem lo_range (n : Int) : -2048 ≤ lo n ∧ lo n ≤ 2047 := by unfold lo; omega
theorem hi_range {n : Int} (h0 : -9223372036854775808 ≤ n) (h1 : n < 9223372036854775808) : -2251799813685248 ≤ hi n ∧ hi n ≤ 2251799813685248 := by unfold hi; omega
theorem parts_tells {n : Int} (h0 : -9223372036854775808 ≤ n) (h1 : n < 9223372036854775808) : li_Parts.f n = some (hi n, lo n) := by
  have e : wrap64 (n * 4503599627370496) / 4503599627370496 = lo n := by unfold wrap64 lo; omega
  unfold li_Parts.f
  rw [e]
  have hl := lo_range n
  have hs := parts_sum n
  have hh := hi_range h0 h1
  by_cases h : lo n < 0
  · rw [if_pos h, BitF.w64 (by omega) (by omega), show n / 4096 + 1 = hi n from by omega]
  · rw [if_neg h, show n / 4096 = hi n from by omega]
theorem tmod_cases (a : Int) {b : Int} (hb : 0 < b) : (0 ≤ a ∧ Int.tmod a b = a % b) ∨ (a < 0 ∧ Int.tmod a b = -((-a) % b)) := by
  by_cases h : 0 ≤ a
  · exact .inl ⟨h, Int.tmod_eq_emod_of_nonneg h⟩
  · refine .inr ⟨by omega, ?_⟩
    have := Int.neg_tmod (-a) b
    rw [Int.neg_neg] at this
    rw [this, Int.tmod_eq_emod_of_nonneg (by omega)]
theorem rparts_tells {n : Int} (h0 : -9223372036854775808 ≤ n) (h1 : n < 9223372036854775808) : quoinref18_Parts.f n = some (hi n, lo n) := by
  have hl := lo_range n
  have hs := parts_sum n
  have hh := hi_range h0 h1
  have key : ∀ l : Int, (l = n % 4096) → wrap64 (Int.tdiv (wrap64 (n - l)) 4096) = n / 4096 := by
    intro l hl
    rw [BitF.w64 (x := n - l) (by omega) (by omega), Int.tdiv_eq_ediv_of_dvd (by omega), BitF.w64 (by omega) (by omega)]
    omega
  have e64 : ∀ x : Int, -9223372036854775808 ≤ x → x < 9223372036854775808 → wrap64 x = x := fun x a b => BitF.w64 a b
  unfold quoinref18_Parts.f
  rcases tmod_cases n (by decide : (0 : Int) < 4096) with ⟨hn, ht⟩ | ⟨hn, ht⟩
  · rw [ht, if_neg (by omega)]
    by_cases h : n % 4096 ≥ 2048
    · rw [if_pos h, key _ rfl, e64 _ (by omega) (by omega), e64 _ (by omega) (by omega)]
      congr 2 <;> omega
    · rw [if_neg h, key _ rfl]
      congr 2 <;> omega
  · rw [ht]
    by_cases hz : (-n) % 4096 = 0
    · rw [hz, if_neg (by omega), if_neg (by omega), key _ (by omega)]
      congr 2 <;> omega
    · rw [if_pos (by omega), e64 (-((-n) % 4096) + 4096) (by omega) (by omega)]
      have e : -((-n) % 4096) + 4096 = n % 4096 := by omega
      rw [e, key _ rfl]
      by_cases h : n % 4096 ≥ 2048
      · rw [if_pos h, e64 _ (by omega) (by omega), e64 _ (by omega) (by omega)]
        congr 2 <;> omega
      · rw [if_neg h]
        congr 2 <;> omega
/-- Zeros at the end. -/
theorem tz : ∀ (f t0 : Nat), 0 < t0 → t0 < 2 ^ f → ∃ s t, t0 = t * 2 ^ s ∧ t % 2 = 1 ∧ s < f ∧ t < 2 ^ (f - s)
  | 0, t0, h, h1 => by simp at h1; omega
  | f + 1, t0, h, h1 => by
    by_cases ho : t0 % 2 = 1
    · exact ⟨0, t0, by simp, ho, by omega, by simpa using h1⟩
    · have h2 : 2 ^ (f + 1) = 2 * 2 ^ f := by rw [Nat.pow_succ]; omega
      obtain ⟨s, t, e, ht, hs, hlt⟩ := tz f (t0 / 2) (by omega) (by omega)
      refine ⟨s + 1, t, ?_, ht, by omega, by rw [show f + 1 - (s + 1) = f - s from by omega]; exact hlt⟩
      rw [Nat.pow_succ, ← Nat.mul_assoc, ← e]
      omega
theorem u64_and_one (x : Nat) (hx : x < 18446744073709551616) : Go.bits .and .u64 (x : Int) 1 = ((x % 2 : Nat) : Int) := by
  rw [show (1 : Int) = ((1 : Nat) : Int) from rfl, u64_and_nat x 1 hx (by decide), Nat.and_one_is_mod]
theorem top_tells : ∀ (s t c k : Nat), t % 2 = 1 → t * 2 ^ s < 18446744073709551616 → c + s < 1000 → s < k → li_top.l0 k ((t * 2 ^ s : Nat) : Int) (c : Int) = some ((t : Int), ((c + s : Nat) : Int))
  | 0, t, c, k, ht, hb, hc, hk => by
    obtain ⟨k, rfl⟩ : ∃ m, k = m + 1 := ⟨k - 1, by omega⟩
    simp only [li_top.l0, Nat.pow_zero, Nat.mul_one, Nat.add_zero]
    rw [u64_and_one t (by simpa using hb), ht, if_neg (by decide)]
  | s + 1, t, c, k, ht, hb, hc, hk => by
    obtain ⟨k, rfl⟩ : ∃ m, k = m + 1 := ⟨k - 1, by omega⟩
    have e : t * 2 ^ (s + 1) = 2 * (t * 2 ^ s) := by rw [Nat.pow_succ, ← Nat.mul_assoc, Nat.mul_comm]
    simp only [li_top.l0]
    rw [u64_and_one _ hb, e, if_pos (by omega), show ((2 * (t * 2 ^ s) : Nat) : Int) / 2 = ((t * 2 ^ s : Nat) : Int) from by omega, BitF.w64 (by omega) (by omega), show (c : Int) + 1 = ((c + 1 : Nat) : Int) from rfl,
      top_tells s t (c + 1) k ht (by omega) (by omega) (by omega), show c + 1 + s = c + (s + 1) from by omega]
theorem rtop_tells (rd l : Int) : ∀ (s t c k : Nat), t % 2 = 1 → t * 2 ^ s < 4503599627370496 → c + s < 52 →
    quoinref18_Made.l0 (k + s + 1) rd l ((t * 2 ^ s : Nat) : Int) (c : Int) (c : Int) = quoinref18_Made.j5 k rd l (t : Int) ((c + s : Nat) : Int)
  | 0, t, c, k, ht, hb, hc => by
    simp only [quoinref18_Made.l0, Nat.pow_zero, Nat.mul_one, Nat.add_zero]
    rw [if_pos (by omega), if_neg (by rw [Int.tmod_eq_emod_of_nonneg (by omega)]; omega)]
  | s + 1, t, c, k, ht, hb, hc => by
    have e : t * 2 ^ (s + 1) = 2 * (t * 2 ^ s) := by rw [Nat.pow_succ, ← Nat.mul_assoc, Nat.mul_comm]
    rw [show k + (s + 1) + 1 = (k + s + 1) + 1 from by omega]
    rw [quoinref18_Made.l0, e, if_pos (by omega), if_pos (by rw [Int.tmod_eq_emod_of_nonneg (by omega)]; omega), Int.tdiv_eq_ediv_of_nonneg (by omega), show ((2 * (t * 2 ^ s) : Nat) : Int) / 2 = ((t * 2 ^ s : Nat) : Int) from by omega,
      BitF.w64 (x := ((t * 2 ^ s : Nat) : Int)) (by omega) (by omega), BitF.w64 (x := (c : Int) + 1) (by omega) (by omega), show (c : Int) + 1 = ((c + 1 : Nat) : Int) from rfl,
      rtop_tells rd l s t (c + 1) k ht (by omega) (by omega), show c + 1 + s = c + (s + 1) from by omega]
theorem cut_sgn {t s : Nat} (hs : s < 52) (ht : t < 2 ^ (52 - s)) :
    shr .i64 (shl .i64 (wrap64 (t : Int)) (wrap64 (12 + (s : Int)))) (wrap64 (12 + (s : Int))) = sgn t (52 - s) := by
  have e64 : 2 ^ (52 - s) * 2 ^ (12 + s) = 18446744073709551616 := by rw [← Nat.pow_add, show 52 - s + (12 + s) = 64 from by omega]
  have e63 : 2 ^ (52 - s - 1) * 2 ^ (12 + s) = 9223372036854775808 := by rw [← Nat.pow_add, show 52 - s - 1 + (12 + s) = 63 from by omega]
  have hp := Nat.two_pow_pos (12 + s)
  have hpn := Nat.two_pow_pos (52 - s)
  have hpow : 2 ^ (52 - s) ≤ 4503599627370496 := Nat.pow_le_pow_right (n := 2) (by decide) (by omega : 52 - s ≤ 52)
  rw [BitF.w64 (x := (t : Int)) (by omega) (by omega), BitF.w64 (x := 12 + (s : Int)) (by omega) (by omega), show (12 : Int) + (s : Int) = ((12 + s : Nat) : Int) from by omega]
  have hlt : t * 2 ^ (12 + s) < 18446744073709551616 := by rw [← e64]; exact Nat.mul_lt_mul_of_pos_right ht hp
  unfold shl shr
  rw [Int.toNat_natCast, show min (12 + s) (IntKind.i64).bits = 12 + s from Nat.min_eq_left (by simp [IntKind.bits]; omega), Go.Proofs.YtpijiohiohiilaaDoorW.PrintLast.i64_w, ← cast_pow]
  unfold sgn
  rw [← cast_pow (52 - s)]
  generalize hM : 2 ^ (12 + s) = M at *
  by_cases h : t < 2 ^ (52 - s - 1)
  · rw [if_pos h]
    have : t * M < 9223372036854775808 := by rw [← e63]; exact Nat.mul_lt_mul_of_pos_right h hp
    have e : wrap64 ((t : Int) * (M : Int)) = (t : Int) * (M : Int) := by rw [← Int.natCast_mul]; exact BitF.w64 (by omega) (by omega)
    rw [e, Int.mul_ediv_cancel _ (by omega)]
  · rw [if_neg h]
    have : 9223372036854775808 ≤ t * M := by rw [← e63]; exact Nat.mul_le_mul_right _ (by omega)
    have e : wrap64 ((t : Int) * (M : Int)) = ((t : Int) - ((2 ^ (52 - s) : Nat) : Int)) * (M : Int) := by
      rw [Int.sub_mul, ← Int.natCast_mul, ← Int.natCast_mul, e64]; unfold wrap64; omega
    rw [e, Int.mul_ediv_cancel _ (by omega)]
end Go.Proofs.YtpijiohiohiilaaDoor.LiF
