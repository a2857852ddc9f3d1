/- EncNames, the plain law: the chapter's examples, reckoned. No condition. -/
import Derived.Test.YtpijiohiohiilaaDoorDEncNames
namespace Go.Proofs.YtpijiohiohiilaaDoor.Pure
open Go Go.RowKit Go.Proofs.YtpijiohiohiilaaDoor.D
theorem EncNames : ∃ k, quoinlaw03_EncNames.f k  = some true := ⟨200, by decide +kernel⟩
end Go.Proofs.YtpijiohiohiilaaDoor.Pure
