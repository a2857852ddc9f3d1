/- InsnTells, the plain law: names, forms, the one of a name, and which instructions may be, are the document's. No condition. -/
import Derived.Test.YtpijiohiohiilaaDoorDInsnTells
import Derived.Test.YtpijiohiohiilaaDoorCheckR
import Derived.Test.YtpijiohiohiilaaDoorWf
namespace Go.Proofs.YtpijiohiohiilaaDoor.Pure
set_option linter.unusedVariables false
open Go Go.RowKit Go.Proofs.YtpijiohiohiilaaDoor.D Go.Proofs.YtpijiohiohiilaaDoor.InsnF Go.Proofs.YtpijiohiohiilaaDoor.CheckF Go.Proofs.YtpijiohiohiilaaDoor.CheckR Go.Proofs.YtpijiohiohiilaaDoorW.PrintWords
theorem InsnTells : ∀ (a0 : Int) (a1 : ByteArray) (a2_0 a2_1 a2_2 a2_3 a2_4 : Int), (Lit.int .u8 a0).wf = true → (Lit.int .u8 a2_0).wf = true → (Lit.int .i64 a2_1).wf = true → (Lit.int .i64 a2_2).wf = true → (Lit.int .i64 a2_3).wf = true → (Lit.int .i64 a2_4).wf = true → ∃ k, quoinlaw02_InsnTells.f k a0 a1 a2_0 a2_1 a2_2 a2_3 a2_4 = some true := by
  intro a0 s i0 i1 i2 i3 i4 w0 w1 _ _ _ w4
  obtain ⟨b0, b0'⟩ := Wf.u8 w0
  obtain ⟨c0, c0'⟩ := Wf.u8 w1
  obtain ⟨d0, d0'⟩ := Wf.i64 w4
  obtain ⟨op, rfl⟩ := Int.eq_ofNat_of_zero_le b0
  obtain ⟨oq, rfl⟩ := Int.eq_ofNat_of_zero_le c0
  refine ⟨500, ?_⟩
  unfold quoinlaw02_InsnTells.f
  by_cases hs : (s.size : Int) > 1000
  · rw [if_pos hs]
  rw [if_neg hs]
  have hn := rname_tells op (by omega)
  cases hp : insn_Name.f (op : Int) with
  | none => rw [hp] at hn; cases hq : quoinref02_Name.f 200 (op : Int) <;> rw [hq] at hn <;> cases hn
  | some p =>
    cases hq : quoinref02_Name.f 200 (op : Int) with
    | none => rw [hp, hq] at hn; cases hn
    | some q =>
      rw [hp, hq] at hn
      simp only [Bool.and_eq_true, beq_iff_eq] at hn
      have hq' := up (quoinref02_Name.mono _) hq 500 (by decide)
      have hf' := up (quoinref02_Form.mono _) (rform_tells op (by omega)) 500 (by decide)
      obtain ⟨hof, r, hr⟩ := of_same s (k := 500) (by decide)
      rw [Option.bind_some, hq', Option.bind_some, form_tells op (by omega), Option.bind_some, hf', Option.bind_some, ← hof, hr, Option.bind_some, Option.bind_some, if_pos hn.1, if_pos hn.2, if_pos rfl, if_pos rfl, if_pos rfl, if_pos rfl,
        check_tells (by omega) _ _ _ _ d0 d0' (by decide), Option.bind_some, rcheck_tells (by omega) _ _ _ _ (by decide), Option.bind_some]
      simp
end Go.Proofs.YtpijiohiohiilaaDoor.Pure
