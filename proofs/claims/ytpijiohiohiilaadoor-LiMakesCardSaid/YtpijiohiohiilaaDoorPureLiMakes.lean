/- LiMakes, the plain law: a number's parts, and the instructions that make it, are the document's. No condition. -/
import Derived.Test.YtpijiohiohiilaaDoorDLiMakes
import Derived.Test.YtpijiohiohiilaaDoorLiH
import Derived.Test.YtpijiohiohiilaaDoorWf
namespace Go.Proofs.YtpijiohiohiilaaDoor.Pure
set_option linter.unusedVariables false
open Go Go.RowKit Go.Proofs.YtpijiohiohiilaaDoor.D Go.Proofs.YtpijiohiohiilaaDoor.LiF
theorem same18_l0 (l : List S33) (hl : l.length < 1000) : ∀ m i k : Nat, i + m = l.length → m < k → quoinref18_Same.l0 k l l (i : Int) = some true
  | 0, i, k, h, hk => by
    obtain ⟨k, rfl⟩ : ∃ m, k = m + 1 := ⟨k - 1, by omega⟩
    simp only [quoinref18_Same.l0]
    rw [if_neg (by omega)]
  | m + 1, i, k, h, hk => by
    obtain ⟨k, rfl⟩ : ∃ m, k = m + 1 := ⟨k - 1, by omega⟩
    simp only [quoinref18_Same.l0]
    rw [if_pos (by omega), if_pos (by omega), if_pos (by omega), if_neg (by simp), BitF.w64 (by omega) (by omega)]
    exact same18_l0 l hl m (i + 1) k (by omega) (by omega)
theorem same18 (l : List S33) (hl : l.length < 1000) {k : Nat} (hk : l.length < k) : quoinref18_Same.f k l l = some true := by
  unfold quoinref18_Same.f
  rw [if_pos rfl]
  exact same18_l0 l hl l.length 0 k (by omega) hk
theorem LiMakes : ∀ (a0 : Int) (a1 : Int), (Lit.int .i64 a0).wf = true → (Lit.int .i64 a1).wf = true → ∃ k, quoinlaw18_LiMakes.f k a0 a1 = some true := by
  intro rd n w0 w1
  obtain ⟨h0, h1⟩ := Wf.i64 w1
  refine ⟨1000, ?_⟩
  unfold quoinlaw18_LiMakes.f li_Steps.f quoinref18_Steps.f
  rw [parts_tells h0 h1, Option.bind_some, rparts_tells h0 h1, Option.bind_some]
  by_cases r0 : rd < 0
  · rw [if_pos r0, if_pos r0, Option.bind_some, Option.bind_some]
    simp only []
    rw [if_pos trivial, if_pos trivial, same18 [] (by decide) (by decide)]
    rfl
  · rw [if_neg r0, if_neg r0]
    by_cases r1 : rd > 31
    · rw [if_pos r1, if_pos r1, Option.bind_some, Option.bind_some]
      simp only []
      rw [if_pos trivial, if_pos trivial, same18 [] (by decide) (by decide)]
      rfl
    · obtain ⟨l, a, b⟩ := all4 rd n (by omega) (by omega) h0 h1
      have hl := b.le
      rw [if_neg r1, if_neg r1, (a 1000 (by decide)).1, (a 1000 (by decide)).2]
      simp only [Option.bind_some]
      rw [if_pos trivial, if_pos trivial, same18 l (by omega) (by omega)]
      rfl
end Go.Proofs.YtpijiohiohiilaaDoor.Pure
