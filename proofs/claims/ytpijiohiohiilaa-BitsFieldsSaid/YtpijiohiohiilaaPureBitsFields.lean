/- BitsFields, the plain law: bits of a word, a word with others, bits as a number, and whether a number fits, are the document's. No condition. -/
import Derived.Test.YtpijiohiohiilaaBBitsFields
import Derived.Test.YtpijiohiohiilaaRefF
import Derived.Test.YtpijiohiohiilaaWf
namespace Go.Proofs.Ytpijiohiohiilaa.Pure
set_option linter.unusedVariables false
open Go Go.RowKit Go.Proofs.Ytpijiohiohiilaa.B Go.Proofs.Ytpijiohiohiilaa.BitL Go.Proofs.Ytpijiohiohiilaa.BitF Go.Proofs.Ytpijiohiohiilaa.RefF
theorem put_same (w v : Nat) (a n : Int) (hw : w < 4294967296) (hv : v < 4294967296) : ∃ p, bits_Put.f (w : Int) a n (v : Int) = some p ∧ quoinref01_Put.f 70 (w : Int) a n (v : Int) = some p := by
  by_cases hf : 0 ≤ a ∧ a < 32 ∧ 1 ≤ n ∧ a + n ≤ 32
  · obtain ⟨a, n, rfl, rfl, h1, h2, h3⟩ := field_nat hf
    by_cases h : v < 2 ^ n
    · exact ⟨_, put_ok hw h h1 h2, rput_ok hw h h1 h2 (by decide)⟩
    · exact ⟨_, put_big hv h h1 h2, rput_big hv h h1 h2 (by decide)⟩
  · exact ⟨_, put_no hf, rput_no hf (by decide)⟩
theorem take_same (w : Nat) (a n : Int) (hw : w < 4294967296) : ∃ p, bits_Take.f (w : Int) a n = some p ∧ quoinref01_Take.f 70 (w : Int) a n = some p := by
  by_cases hf : 0 ≤ a ∧ a < 32 ∧ 1 ≤ n ∧ a + n ≤ 32
  · obtain ⟨a, n, rfl, rfl, h1, h2, h3⟩ := field_nat hf
    exact ⟨_, take_ok hw h1 h2, rtake_ok hw h1 h2 (by decide)⟩
  · exact ⟨_, take_no hf, rtake_no hf⟩
theorem sign_same (v : Nat) (n : Int) (hv : v < 4294967296) : ∃ p, bits_Sign.f (v : Int) n = some p ∧ quoinref01_Sign.f 70 (v : Int) n = some p := by
  by_cases hf : 1 ≤ n ∧ n ≤ 32
  · obtain ⟨n, rfl⟩ := Int.eq_ofNat_of_zero_le (by omega : 0 ≤ n)
    by_cases h : v < 2 ^ n
    · exact ⟨_, sign_ok (by omega) (by omega) h, rsign_ok (by omega) (by omega) h (by decide)⟩
    · exact ⟨_, sign_big (by omega) (by omega) hv h, rsign_big (by omega) (by omega) hv h (by decide)⟩
  · exact ⟨_, sign_no hf, rsign_no hf⟩
theorem fits_same (x n : Int) (hx : -9223372036854775808 ≤ x) (hx' : x < 9223372036854775808) : ∃ p, bits_Fits.f x n = some p ∧ quoinref01_Fits.f 70 x n = some p := by
  by_cases hf : 1 ≤ n ∧ n ≤ 63
  · obtain ⟨n, rfl⟩ := Int.eq_ofNat_of_zero_le (by omega : 0 ≤ n)
    exact ⟨_, fits_ok hx hx' (by omega) (by omega), rfits_ok (by omega) (by omega) (by decide)⟩
  · exact ⟨_, fits_no hf, rfits_no hf⟩
theorem BitsFields : quoinlaw01_BitsFields.Pure := by
  intro a0 a1 a2 a3 a4 w0 w1 w2 w3 w4
  obtain ⟨b0, b0'⟩ := Wf.u32 w0
  obtain ⟨b3, b3'⟩ := Wf.u32 w3
  obtain ⟨b4, b4'⟩ := Wf.i64 w4
  obtain ⟨w, rfl⟩ := Int.eq_ofNat_of_zero_le b0
  obtain ⟨v, rfl⟩ := Int.eq_ofNat_of_zero_le b3
  refine ⟨70, ?_⟩
  unfold quoinlaw01_BitsFields.f
  obtain ⟨p, hp, hp'⟩ := take_same w a1 a2 (by omega)
  obtain ⟨q, hq, hq'⟩ := put_same w v a1 a2 (by omega) (by omega)
  obtain ⟨r, hr, hr'⟩ := sign_same v a2 (by omega)
  obtain ⟨s, hs, hs'⟩ := fits_same a4 a2 b4 b4'
  rw [hp, hp', hq, hq', hr, hr', hs, hs']
  simp
end Go.Proofs.Ytpijiohiohiilaa.Pure
