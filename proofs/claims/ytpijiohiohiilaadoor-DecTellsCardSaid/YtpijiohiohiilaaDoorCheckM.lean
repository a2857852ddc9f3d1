/- Forms, and which instructions may be, as the reference has them: the same as the package insn. -/
import Derived.Test.YtpijiohiohiilaaDoorDQuoinref02
import Derived.Test.YtpijiohiohiilaaDoorCheckF
namespace Go.Proofs.YtpijiohiohiilaaDoor.CheckR
set_option linter.unusedVariables false
set_option linter.unusedSimpArgs false
open Go Go.RowKit Go.Proofs.YtpijiohiohiilaaDoor.D Go.Proofs.YtpijiohiohiilaaDoor.InsnF Go.Proofs.YtpijiohiohiilaaDoor.CheckF Go.Proofs.YtpijiohiohiilaaDoorW.PrintWords
theorem rform_tells : ∀ op : Nat, op < 256 → quoinref02_Form.f 200 (op : Int) = some ((formN op : Int), if 1 ≤ op ∧ op ≤ 94 then 0 else 2) := by decide +kernel
theorem shape_tells : ∀ c ∈ formsL, quoinref02_shape.f 20 (c : Int) = some ((regs c).1, (regs c).2.1, (regs c).2.2, (span c).1, (span c).2.1, (span c).2.2) := by
  intro c hc
  simp only [formsL, List.mem_cons, List.not_mem_nil, or_false] at hc
  rcases hc with rfl | rfl | rfl | rfl | rfl | rfl | rfl | rfl | rfl | rfl | rfl | rfl | rfl | rfl | rfl | rfl <;> rfl
theorem by_tells : ∀ c ∈ formsL, (span c).2.2 = 1 ∨ (span c).2.2 = 2 := by decide +kernel
theorem right_tells (has : Bool) (n : Int) : quoinref02_right.f has n = some (okReg has n) := by
  unfold quoinref02_right.f okReg
  by_cases h0 : n ≥ 0
  · rw [if_pos h0]
    by_cases h1 : n ≤ 31
    · rw [if_pos h1]
      cases has
      · rw [if_neg (by decide)]; congr 1; rw [Bool.eq_iff_iff]; simp
      · rw [if_pos rfl]; congr 1; rw [eq_comm, decide_eq_true_eq]
        by_cases hz : n = 0
        · exact .inl hz
        · exact .inr ⟨rfl, by omega, h1⟩
    · rw [if_neg h1]; congr 1; rw [eq_comm, decide_eq_false_iff_not]; rintro (h | h) <;> omega
  · rw [if_neg h0]; congr 1; rw [eq_comm, decide_eq_false_iff_not]; rintro (h | h) <;> omega
theorem rmay_tells {op : Nat} (ho : op < 256) (rd rs1 rs2 imm : Int) {k : Nat} (hk : 200 ≤ k) :
    quoinref02_May.f k (op : Int) rd rs1 rs2 imm = some (mayB op rd rs1 rs2 imm) := by
  have hf := up (quoinref02_Form.mono _) (rform_tells op ho) k hk
  have hs := up (quoinref02_shape.mono _) (shape_tells _ (form_in op ho)) k (by omega)
  have hb := by_tells _ (form_in op ho)
  unfold quoinref02_May.f mayB
  rw [hf, Option.bind_some]
  simp only []
  rw [hs, Option.bind_some]
  by_cases h : 1 ≤ op ∧ op ≤ 94
  · simp only [if_pos h, if_true, right_tells, Option.bind_some, decide_eq_true h, Bool.true_and]
    cases okReg (regs (formN op)).1 rd <;> cases okReg (regs (formN op)).2.1 rs1 <;> cases okReg (regs (formN op)).2.2 rs2 <;> first | rfl | skip
    simp only [if_true, Bool.true_and]
    unfold okNum
    by_cases h1 : imm ≥ (span (formN op)).1
    · rw [if_pos h1]
      by_cases h2 : imm ≤ (span (formN op)).2.1
      · rw [if_pos h2, if_neg (by omega)]
        congr 1
        rw [Bool.eq_iff_iff, beq_iff_eq, decide_eq_true_eq]
        rcases hb with e | e <;> rw [e]
        · constructor
          · intro _; exact ⟨h1, h2, by omega⟩
          · intro _; exact Int.tmod_one _
        · have := tmod_two imm
          rw [Bool.eq_iff_iff, beq_iff_eq, decide_eq_true_eq] at this
          constructor
          · intro q; exact ⟨h1, h2, this.1 q⟩
          · intro q; exact this.2 q.2.2
      · rw [if_neg h2]; congr 1; rw [eq_comm, decide_eq_false_iff_not]; intro q; exact h2 q.2.1
    · rw [if_neg h1]; congr 1; rw [eq_comm, decide_eq_false_iff_not]; intro q; exact h1 q.1
  · simp only [if_neg h, decide_eq_false h, Bool.false_and]
    rfl
end Go.Proofs.YtpijiohiohiilaaDoor.CheckR
