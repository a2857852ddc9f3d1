/- LiParts, the plain law: 4096 times the high part, and the low part, are the number. No condition. -/
import Derived.Test.YtpijiohiohiilaaDoorDLiParts
import Derived.Test.YtpijiohiohiilaaDoorLiF
import Derived.Test.YtpijiohiohiilaaDoorCheckF
import Derived.Test.YtpijiohiohiilaaDoorWf
namespace Go.Proofs.YtpijiohiohiilaaDoor.Pure
open Go Go.RowKit Go.Proofs.YtpijiohiohiilaaDoor.D Go.Proofs.YtpijiohiohiilaaDoor.LiF
theorem alive18 : ∀ k, 200 ≤ k → quoinlaw18_alive.f k = some true := CheckF.up quoinlaw18_alive.mono (by decide +kernel)
theorem LiParts : ∀ (a0 : Int), (Lit.int .i64 a0).wf = true → ∃ k, quoinlaw18_LiParts.f k a0 = some true := by
  intro n w0
  obtain ⟨h0, h1⟩ := Wf.i64 w0
  have hl := lo_range n
  have hs := parts_sum n
  have hh := hi_range h0 h1
  refine ⟨200, ?_⟩
  unfold quoinlaw18_LiParts.f
  rw [parts_tells h0 h1, Option.bind_some, alive18 200 (by decide), Option.bind_some]
  simp only []
  rw [if_pos trivial, if_pos (by omega), if_pos (by omega), if_pos (by omega), if_pos (by omega)]
  simp only [IntKind.wrap_u64]
  congr 1
  rw [beq_iff_eq]
  omega
end Go.Proofs.YtpijiohiohiilaaDoor.Pure
