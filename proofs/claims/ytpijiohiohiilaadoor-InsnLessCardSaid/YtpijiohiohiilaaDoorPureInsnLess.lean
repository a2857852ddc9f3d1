/- InsnLess, the plain law: an instruction that may be may be with the number 0, and with registers that are less. No condition. -/
import Derived.Test.YtpijiohiohiilaaDoorDInsnLess
import Derived.Test.YtpijiohiohiilaaDoorCheckF
import Derived.Test.YtpijiohiohiilaaDoorWf
namespace Go.Proofs.YtpijiohiohiilaaDoor.Pure
set_option linter.unusedVariables false
open Go Go.RowKit Go.Proofs.YtpijiohiohiilaaDoor.D Go.Proofs.YtpijiohiohiilaaDoor.InsnF Go.Proofs.YtpijiohiohiilaaDoor.CheckF Go.Proofs.YtpijiohiohiilaaDoorW.PrintWords Go.Proofs.YtpijiohiohiilaaDoorW.PrintMore
theorem aliveLess : quoinlaw02_alive.f 200 = some true := by decide +kernel
theorem okReg_less {has : Bool} {n m : Int} (h : okReg has n = true) (hm : 0 ≤ m) : okReg has (mn n m) = true := by
  unfold okReg at *
  rw [decide_eq_true_eq] at *
  unfold mn
  split
  · rcases h with h | ⟨h, h1, h2⟩
    · omega
    · by_cases hz : m = 0
      · exact .inl hz
      · exact .inr ⟨h, by omega, by omega⟩
  · exact h
theorem okNum_zero : ∀ c ∈ formsL, okNum c 0 = true := by decide +kernel
theorem InsnLess : ∀ (a0_0 a0_1 a0_2 a0_3 a0_4 : Int) (a1 : Int) (a2 : Int) (a3 : Int), (Lit.int .u8 a0_0).wf = true → (Lit.int .i64 a0_1).wf = true → (Lit.int .i64 a0_2).wf = true → (Lit.int .i64 a0_3).wf = true → (Lit.int .i64 a0_4).wf = true → (Lit.int .u8 a1).wf = true → (Lit.int .u8 a2).wf = true → (Lit.int .u8 a3).wf = true → ∃ k, quoinlaw02_InsnLess.f k a0_0 a0_1 a0_2 a0_3 a0_4 a1 a2 a3 = some true := by
  intro o rd r1 r2 imm d s t w0 _ _ _ w4 wd ws wt
  obtain ⟨b0, b0'⟩ := Wf.u8 w0
  obtain ⟨d0, d0'⟩ := Wf.i64 w4
  obtain ⟨e1, e1'⟩ := Wf.u8 wd
  obtain ⟨e2, e2'⟩ := Wf.u8 ws
  obtain ⟨e3, e3'⟩ := Wf.u8 wt
  obtain ⟨op, rfl⟩ := Int.eq_ofNat_of_zero_le b0
  have ho : op < 256 := by omega
  refine ⟨200, ?_⟩
  unfold quoinlaw02_InsnLess.f
  rw [aliveLess, Option.bind_some, check_tells ho _ _ _ _ d0 d0' (by decide), Option.bind_some]
  by_cases h : mayB op rd r1 r2 imm = true
  · rw [if_pos h, if_pos rfl]
    simp only [quoinlaw02_InsnLess.j0, Bool.not_true]
    unfold mayB at h
    simp only [Bool.and_eq_true] at h
    obtain ⟨h0, h1, h2, h3, h4⟩ := h
    have m1 : mayB op rd r1 r2 0 = true := by
      unfold mayB; rw [h0, h1, h2, h3, okNum_zero _ (form_in op ho)]; rfl
    have m2 : mayB op (mn rd d) (mn r1 s) (mn r2 t) imm = true := by
      unfold mayB; rw [h0, okReg_less h1 e1, okReg_less h2 e2, okReg_less h3 e3, h4]; rfl
    rw [if_neg (by decide), check_tells ho _ _ _ _ (by decide) (by decide) (by decide), Option.bind_some, m1, if_pos rfl, if_pos rfl, w64 (by omega) (by omega), w64 (by omega) (by omega), w64 (by omega) (by omega),
      check_tells ho _ _ _ _ d0 d0' (by decide), Option.bind_some, m2]
    rfl
  · rw [if_neg h, if_neg (by decide)]
    simp [quoinlaw02_InsnLess.j0]
end Go.Proofs.YtpijiohiohiilaaDoor.Pure
