/- InsnAlone, the plain law: names and numbers are told by one another, and no two have one name. No condition. -/
import Derived.Test.YtpijiohiohiilaaDoorDInsnAlone
import Derived.Test.YtpijiohiohiilaaDoorInsnF
import Derived.Test.YtpijiohiohiilaaDoorWf
namespace Go.Proofs.YtpijiohiohiilaaDoor.Pure
set_option linter.unusedVariables false
open Go Go.RowKit Go.Proofs.YtpijiohiohiilaaDoor.D Go.Proofs.YtpijiohiohiilaaDoor.InsnF
theorem aliveA : quoinlaw02_alive.f 200 = some true := by decide +kernel
theorem names_apart : ∀ n, n < 94 → ∀ m, m < 94 → ((namesL.getD n ⟨#[]⟩).toList == (namesL.getD m ⟨#[]⟩).toList) = (n == m) := by decide +kernel
theorem empty_nil : (⟨#[]⟩ : ByteArray).toList = ([] : List UInt8) := by decide +kernel
set_option maxRecDepth 100000 in
theorem InsnAlone : ∀ (a0 : Int) (a1 : Int), (Lit.int .u8 a0).wf = true → (Lit.int .u8 a1).wf = true → ∃ k, quoinlaw02_InsnAlone.f k a0 a1 = some true := by
  intro a0 a1 w0 w1
  obtain ⟨b0, b0'⟩ := Wf.u8 w0
  obtain ⟨b1, b1'⟩ := Wf.u8 w1
  refine ⟨200, ?_⟩
  unfold quoinlaw02_InsnAlone.f
  rw [aliveA, Option.bind_some]
  by_cases h0 : 1 ≤ a0 ∧ a0 ≤ 94
  · obtain ⟨n, rfl⟩ : ∃ n : Nat, a0 = (n : Int) + 1 := ⟨(a0 - 1).toNat, by omega⟩
    have hn : n < 94 := by omega
    rw [name_ok hn, Option.bind_some]
    by_cases h1 : 1 ≤ a1 ∧ a1 ≤ 94
    · obtain ⟨m, rfl⟩ : ∃ m : Nat, a1 = (m : Int) + 1 := ⟨(a1 - 1).toNat, by omega⟩
      have hm : m < 94 := by omega
      rw [name_ok hm, Option.bind_some, if_pos rfl, if_pos rfl, of_names n hn, Option.bind_some, if_pos rfl, if_pos rfl, if_pos rfl, names_apart n hn m hm]
      congr 1
      rw [beq_iff_eq, Bool.eq_iff_iff, beq_iff_eq, beq_iff_eq]; omega
    · rw [name_no b1 b1' h1, Option.bind_some, if_pos rfl, if_pos rfl, of_names n hn, Option.bind_some, if_pos rfl, if_pos rfl, if_neg (by decide)]
  · rw [name_no b0 b0' h0, Option.bind_some]
    obtain ⟨p, hp⟩ : ∃ p, insn_Name.f a1 = some p := by
      by_cases h1 : 1 ≤ a1 ∧ a1 ≤ 94
      · obtain ⟨m, rfl⟩ : ∃ m : Nat, a1 = (m : Int) + 1 := ⟨(a1 - 1).toNat, by omega⟩
        exact ⟨_, name_ok (by omega)⟩
      · exact ⟨_, name_no b1 b1' h1⟩
    rw [hp, Option.bind_some, if_neg (by decide), if_pos rfl, if_pos empty_nil]
    by_cases hz : a0 = 0
    · rw [if_pos hz]
    · rw [if_neg hz]; congr 1; rw [decide_eq_true_eq]; omega
end Go.Proofs.YtpijiohiohiilaaDoor.Pure
