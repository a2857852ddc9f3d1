/- BitsStay, the plain law: what was put is taken, and all other bits stay. No condition. -/
import Derived.Test.YtpijiohiohiilaaBBitsStay
import Derived.Test.YtpijiohiohiilaaBitF
import Derived.Test.YtpijiohiohiilaaWf
namespace Go.Proofs.Ytpijiohiohiilaa.Pure
set_option linter.unusedVariables false
open Go Go.RowKit Go.Proofs.Ytpijiohiohiilaa.B Go.Proofs.YtpijiohiohiilaaW.PrintWords Go.Proofs.YtpijiohiohiilaaW.PrintLast Go.Proofs.Ytpijiohiohiilaa.BitL Go.Proofs.Ytpijiohiohiilaa.BitF
theorem alive_true : quoinlaw01_alive.f = some true := by decide +kernel
theorem BitsStay : quoinlaw01_BitsStay.Pure := by
  intro a0 a1 a2 a3 a4 w0 w1 w2 w3 w4
  obtain ⟨b0, b0'⟩ := Wf.u32 w0
  obtain ⟨b3, b3'⟩ := Wf.u32 w3
  obtain ⟨w, rfl⟩ := Int.eq_ofNat_of_zero_le b0
  obtain ⟨v, rfl⟩ := Int.eq_ofNat_of_zero_le b3
  refine ⟨3, ?_⟩
  unfold quoinlaw01_BitsStay.f
  rw [alive_true, Option.bind_some]
  by_cases hf : 0 ≤ a1 ∧ a1 < 32 ∧ 1 ≤ a2 ∧ a1 + a2 ≤ 32
  · obtain ⟨a, n, rfl, rfl, h1, h2, h3⟩ := field_nat hf
    by_cases hv : v < 2 ^ n
    · have hw : w < 4294967296 := by omega
      rw [put_ok hw hv h1 h2, Option.bind_some, if_pos rfl]
      simp only [quoinlaw01_BitsStay.j0, Bool.not_true]
      rw [if_neg (by decide), take_ok (putN_lt hw) h1 h2, Option.bind_some, if_pos rfl, take_put hw h2 hv]
      simp only [quoinlaw01_BitsStay.j1, bne_self_eq_false]
      rw [if_neg (by decide)]
      by_cases ho : 0 ≤ a4 ∧ a4 < 32
      · obtain ⟨o, rfl⟩ := Int.eq_ofNat_of_zero_le ho.1
        have e1 : (1 : Int) = ((1 : Nat) : Int) := rfl
        rw [e1, take_ok hw (by omega) (by omega), Option.bind_some, take_ok (putN_lt hw) (by omega) (by omega), Option.bind_some]
        have hbit : ¬(a ≤ o ∧ o < a + n) → takeN w o 1 = takeN (putN w a n v) o 1 := by
          intro hno
          refine Nat.eq_of_testBit_eq fun i => ?_
          rw [takeN_bit, takeN_bit, putN_bit hw h2 hv]
          by_cases hi : i < 1
          · have : i = 0 := by omega
            subst this
            rw [Nat.zero_add, if_neg hno]
          · simp [hi]
        rw [w64 (by omega) (by omega)]
        by_cases hin : a ≤ o ∧ o < a + n
        · rw [if_pos (by omega), if_pos rfl, if_pos rfl, if_pos (by omega)]
        · rw [hbit hin]
          by_cases g : (o : Int) ≥ (a : Int)
          · rw [if_pos g, if_pos rfl, if_pos rfl, if_neg (by omega)]; simp
          · rw [if_neg g, if_pos rfl, if_pos rfl]; simp
      · rw [take_no (by omega), Option.bind_some, take_no (by omega), Option.bind_some]
        simp
    · rw [put_big (by omega) hv h1 h2, Option.bind_some, if_neg (by decide)]
      simp [quoinlaw01_BitsStay.j0]
  · rw [put_no hf, Option.bind_some, if_neg (by decide)]
    simp [quoinlaw01_BitsStay.j0]
end Go.Proofs.Ytpijiohiohiilaa.Pure
