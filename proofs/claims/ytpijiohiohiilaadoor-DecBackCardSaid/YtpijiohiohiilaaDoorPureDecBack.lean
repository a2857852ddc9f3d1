/- DecBack, the plain law: what is encoded is decoded, and what is decoded is encoded. No condition. -/
import Derived.Test.YtpijiohiohiilaaDoorDDecBack
import Derived.Test.YtpijiohiohiilaaDoorDecG
import Derived.Test.YtpijiohiohiilaaDoorWf
namespace Go.Proofs.YtpijiohiohiilaaDoor.Pure
set_option linter.unusedVariables false
open Go Go.RowKit Go.Proofs.YtpijiohiohiilaaDoor.D Go.Proofs.YtpijiohiohiilaaDoor.InsnF Go.Proofs.YtpijiohiohiilaaDoor.CheckF Go.Proofs.YtpijiohiohiilaaDoor.EncF Go.Proofs.YtpijiohiohiilaaDoor.DecF
theorem alive4 : ∀ k, 300 ≤ k → quoinlaw04_alive.f k = some true := up quoinlaw04_alive.mono (by decide +kernel)
theorem DecBack : ∀ (a0_0 a0_1 a0_2 a0_3 a0_4 : Int) (a1 : Int), (Lit.int .u8 a0_0).wf = true → (Lit.int .i64 a0_1).wf = true → (Lit.int .i64 a0_2).wf = true → (Lit.int .i64 a0_3).wf = true → (Lit.int .i64 a0_4).wf = true → (Lit.int .u32 a1).wf = true → ∃ k, quoinlaw04_DecBack.f k a0_0 a0_1 a0_2 a0_3 a0_4 a1 = some true := by
  intro i0 i1 i2 i3 i4 a1 w0 _ _ _ w4 w5
  obtain ⟨c0, c0'⟩ := Wf.u8 w0
  obtain ⟨d0, d0'⟩ := Wf.i64 w4
  obtain ⟨e0, e0'⟩ := Wf.u32 w5
  obtain ⟨op, rfl⟩ := Int.eq_ofNat_of_zero_le c0
  obtain ⟨w, rfl⟩ := Int.eq_ofNat_of_zero_le e0
  have hw : w < 4294967296 := by omega
  refine ⟨500, ?_⟩
  have rest : quoinlaw04_DecBack.j0 500 (w : Int) true = some true := by
    simp only [quoinlaw04_DecBack.j0]
    rcases insn_cases w with ⟨o, h1, h2, hh⟩ | h
    · obtain ⟨m1, m2⟩ := enc_dec hw h1 h2 hh
      have hn : -9223372036854775808 ≤ numN (formN o) w ∧ numN (formN o) w < 9223372036854775808 := by
        have hin := form_in o (by omega)
        have hg := BitL.gath_lt w (placesN (formN o)) 0
        rw [Nat.zero_add] at hg
        have := sgn_range (by have := (places_ok _ hin).2.2; omega) hg
        have := BitL.pow_le_32 (n := (placesN (formN o)).length) (by have := (places_ok _ hin).2.2; omega)
        unfold numN numV
        split
        · omega
        · split <;> omega
      rw [insn_hit hw h1 h2 hh (by decide), Option.bind_some]
      unfold ansN
      simp only [Bool.not_true]
      rw [if_pos trivial]
      simp only [quoinlaw04_DecBack.j1]
      rw [if_neg (by decide), word_tells (by omega) _ _ _ _ hn.1 hn.2 (by decide), Option.bind_some, if_pos m1]
      simp only [Int.toNat_natCast, m2]
      rw [if_pos trivial, if_pos trivial, check_tells (by omega) _ _ _ _ hn.1 hn.2 (by decide), Option.bind_some, if_pos m1]
      rfl
    · rw [insn_none hw h (by decide), Option.bind_some]
      rfl
  unfold quoinlaw04_DecBack.f
  rw [alive4 500 (by decide), Option.bind_some, word_tells (by omega) _ _ _ _ d0 d0' (by decide), Option.bind_some]
  by_cases hm : mayB op i1 i2 i3 i4 = true
  · obtain ⟨m1, m2, m3⟩ := dec_enc hm
    obtain ⟨_, _, _, _, _, _, _, _, _, _, _, _, h1, h2, _⟩ := may_parts hm
    rw [if_pos hm]
    simp only []
    rw [if_pos trivial, insn_hit m1 h1 h2 m2 (by decide), Option.bind_some, m3]
    simp only [beq_self_eq_true, Bool.not_true, Bool.or_self]
    rw [if_pos trivial, if_neg (by decide)]
    exact rest
  · rw [if_neg hm]
    simp only []
    rw [if_neg (by decide)]
    exact rest
end Go.Proofs.YtpijiohiohiilaaDoor.Pure
