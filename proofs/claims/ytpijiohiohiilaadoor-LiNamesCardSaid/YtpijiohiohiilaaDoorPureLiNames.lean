/- LiNames, the plain law: the chapter's examples, reckoned. No condition. -/
import Derived.Test.YtpijiohiohiilaaDoorDLiNames
namespace Go.Proofs.YtpijiohiohiilaaDoor.Pure
open Go Go.RowKit Go.Proofs.YtpijiohiohiilaaDoor.D
theorem LiNames : ∃ k, quoinlaw18_LiNames.f k  = some true := ⟨200, by decide +kernel⟩
end Go.Proofs.YtpijiohiohiilaaDoor.Pure
