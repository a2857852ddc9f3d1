/- DecTells, the plain law: the instruction of a word, and a form's fixed bits, are the document's. No condition. -/
import Derived.Test.YtpijiohiohiilaaDoorDDecTells
import Derived.Test.YtpijiohiohiilaaDoorDecR
import Derived.Test.YtpijiohiohiilaaDoorWf
namespace Go.Proofs.YtpijiohiohiilaaDoor.Pure
set_option linter.unusedVariables false
open Go Go.RowKit Go.Proofs.YtpijiohiohiilaaDoor.D Go.Proofs.YtpijiohiohiilaaDoor.CheckF Go.Proofs.YtpijiohiohiilaaDoor.DecF Go.Proofs.YtpijiohiohiilaaDoor.DecR
theorem DecTells : ∀ (a0 : Int) (a1 : Int), (Lit.int .u32 a0).wf = true → (Lit.int .u8 a1).wf = true → ∃ k, quoinlaw04_DecTells.f k a0 a1 = some true := by
  intro a0 a1 w0 w1
  obtain ⟨c0, c0'⟩ := Wf.u32 w0
  obtain ⟨d0, d0'⟩ := Wf.u8 w1
  obtain ⟨w, rfl⟩ := Int.eq_ofNat_of_zero_le c0
  obtain ⟨c, rfl⟩ := Int.eq_ofNat_of_zero_le d0
  have hw : w < 4294967296 := by omega
  refine ⟨2000, ?_⟩
  have hf := fixed_same c (by omega)
  cases hp : dec_Fixed.f 80 (c : Int) with
  | none => rw [hp] at hf; cases hf
  | some p =>
    cases hq : quoinref04_Fixed.f 1200 (c : Int) with
    | none => rw [hp, hq] at hf; cases hf
    | some q =>
      rw [hp, hq] at hf
      simp only [beq_iff_eq] at hf
      subst hf
      have hp' := up (dec_Fixed.mono _) hp 2000 (by decide)
      have hq' := up (quoinref04_Fixed.mono _) hq 2000 (by decide)
      unfold quoinlaw04_DecTells.f
      rcases insn_cases w with ⟨o, h1, h2, hh⟩ | h
      · rw [insn_hit hw h1 h2 hh (by decide), Option.bind_some, rinsn_hit hw h1 h2 hh (by decide), Option.bind_some, hp', Option.bind_some, hq', Option.bind_some]
        simp
      · rw [insn_none hw h (by decide), Option.bind_some, rinsn_none hw h (by decide), Option.bind_some, hp', Option.bind_some, hq', Option.bind_some]
        simp
end Go.Proofs.YtpijiohiohiilaaDoor.Pure
