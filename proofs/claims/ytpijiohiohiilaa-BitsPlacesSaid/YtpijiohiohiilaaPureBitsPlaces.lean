/- BitsPlaces, the plain law: bits that are scattered and gathered, or the errors, are the document's. No condition. -/
import Derived.Test.YtpijiohiohiilaaBBitsPlaces
import Derived.Test.YtpijiohiohiilaaRefG
import Derived.Test.YtpijiohiohiilaaWf
namespace Go.Proofs.Ytpijiohiohiilaa.Pure
set_option linter.unusedVariables false
open Go Go.RowKit Go.Proofs.Ytpijiohiohiilaa.B Go.Proofs.Ytpijiohiohiilaa.BitL Go.Proofs.Ytpijiohiohiilaa.BitF Go.Proofs.Ytpijiohiohiilaa.RefF Go.Proofs.Ytpijiohiohiilaa.RefG
theorem scatter_same (v : Nat) (l : List Int) (hv : v < 4294967296) (hl : l.length ≤ 100) : ∃ p, bits_Scatter.f 1400 (v : Int) l = some p ∧ quoinref01_Scatter.f 1400 (v : Int) l = some p := by
  by_cases ho : l.length ≤ 32 ∧ OkPl l
  · obtain ⟨ns, rfl, hlt, hn⟩ := okpl_nat ho.2
    have hl : ns.length ≤ 32 := by have := ho.1; simpa using this
    by_cases h : v < 2 ^ ns.length
    · exact ⟨_, scatter_ok hlt hn hl h (by omega), rscatter_ok hlt hn hl h (by decide)⟩
    · exact ⟨_, scatter_big hlt hn hl hv h (by omega), rscatter_big hlt hn hl hv h (by decide)⟩
  · exact ⟨_, scatter_no ho (by omega), rscatter_no ho (by decide)⟩
theorem gather_same (v : Nat) (l : List Int) (hv : v < 4294967296) (hl : l.length ≤ 100) : ∃ p, bits_Gather.f 1400 (v : Int) l = some p ∧ quoinref01_Gather.f 1400 (v : Int) l = some p := by
  by_cases ho : l.length ≤ 32 ∧ OkPl l
  · obtain ⟨ns, rfl, hlt, hn⟩ := okpl_nat ho.2
    have hl : ns.length ≤ 32 := by have := ho.1; simpa using this
    exact ⟨_, gather_ok hlt hn hl hv (by omega), rgather_ok hlt hn hl hv (by decide)⟩
  · exact ⟨_, gather_no ho (by omega), rgather_no ho (by decide)⟩
theorem BitsPlaces : quoinlaw01_BitsPlaces.Pure := by
  intro a0 l w0 _ _ _
  obtain ⟨b0, b0'⟩ := Wf.u32 w0
  obtain ⟨w, rfl⟩ := Int.eq_ofNat_of_zero_le b0
  refine ⟨1400, ?_⟩
  unfold quoinlaw01_BitsPlaces.f
  by_cases hlen : (l.length : Int) > 100
  · rw [if_pos hlen]
  obtain ⟨p, hp, hp'⟩ := scatter_same w l (by omega) (by omega)
  obtain ⟨q, hq, hq'⟩ := gather_same w l (by omega) (by omega)
  rw [if_neg hlen, if_pos (by simp; omega), Option.bind_some, List.nil_append, hp, hp', hq, hq']
  simp only [Option.bind_some, if_true]
  rw [same_ok l 1400 (by omega) (by omega)]; rfl
end Go.Proofs.Ytpijiohiohiilaa.Pure
