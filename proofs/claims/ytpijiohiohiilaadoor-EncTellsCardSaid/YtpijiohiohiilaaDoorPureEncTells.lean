/- EncTells, the plain law: words, bases and places are the document's. No condition. -/
import Derived.Test.YtpijiohiohiilaaDoorDEncTells
import Derived.Test.YtpijiohiohiilaaDoorEncR
import Derived.Test.YtpijiohiohiilaaDoorWf
namespace Go.Proofs.YtpijiohiohiilaaDoor.Pure
set_option linter.unusedVariables false
open Go Go.RowKit Go.Proofs.YtpijiohiohiilaaDoor.D Go.Proofs.YtpijiohiohiilaaDoor.InsnF Go.Proofs.YtpijiohiohiilaaDoor.CheckF Go.Proofs.YtpijiohiohiilaaDoor.EncF Go.Proofs.YtpijiohiohiilaaDoor.EncR Go.Proofs.YtpijiohiohiilaaDoor.RefG
theorem EncTells : ∀ (a0_0 a0_1 a0_2 a0_3 a0_4 : Int) (a1 : Int) (a2 : Int), (Lit.int .u8 a0_0).wf = true → (Lit.int .i64 a0_1).wf = true → (Lit.int .i64 a0_2).wf = true → (Lit.int .i64 a0_3).wf = true → (Lit.int .i64 a0_4).wf = true → (Lit.int .u8 a1).wf = true → (Lit.int .u8 a2).wf = true → ∃ k, quoinlaw03_EncTells.f k a0_0 a0_1 a0_2 a0_3 a0_4 a1 a2 = some true := by
  intro i0 i1 i2 i3 i4 a1 a2 w0 _ _ _ w4 w5 w6
  obtain ⟨c0, c0'⟩ := Wf.u8 w0
  obtain ⟨d0, d0'⟩ := Wf.i64 w4
  obtain ⟨e0, e0'⟩ := Wf.u8 w5
  obtain ⟨f0, f0'⟩ := Wf.u8 w6
  obtain ⟨op, rfl⟩ := Int.eq_ofNat_of_zero_le c0
  obtain ⟨oq, rfl⟩ := Int.eq_ofNat_of_zero_le e0
  obtain ⟨c, rfl⟩ := Int.eq_ofNat_of_zero_le f0
  refine ⟨1500, ?_⟩
  have hb := base_tells oq (by omega)
  have hb' := up (quoinref03_Base.mono _) ((rbase_same oq (by omega)).trans hb) 1500 (by decide)
  have hp := rplaces_same c (by omega)
  cases hq : enc_Places.f 60 (c : Int) with
  | none => rw [hq] at hp; cases hp
  | some p =>
    cases hr : quoinref03_Places.f 60 (c : Int) with
    | none => rw [hq, hr] at hp; cases hp
    | some q =>
      rw [hq, hr] at hp
      simp only [Bool.and_eq_true, beq_iff_eq, decide_eq_true_eq] at hp
      obtain ⟨rfl, hl⟩ := hp
      have hq' := up (enc_Places.mono _) hq 1500 (by decide)
      have hr' := up (quoinref03_Places.mono _) hr 1500 (by decide)
      unfold quoinlaw03_EncTells.f
      rw [word_tells (by omega) _ _ _ _ d0 d0' (by decide), Option.bind_some, rword_tells (by omega) _ _ _ _ (by decide), Option.bind_some, hb, Option.bind_some, hb', Option.bind_some, hq', Option.bind_some, hr', Option.bind_some,
        if_pos rfl, if_pos rfl, if_pos rfl, if_pos rfl, same_ok _ _ (by omega) (by omega), Option.bind_some, if_pos rfl]
      simp
end Go.Proofs.YtpijiohiohiilaaDoor.Pure
