/- DecNames, the plain law: the chapter's examples, reckoned. No condition. -/
import Derived.Test.YtpijiohiohiilaaDoorDDecNames
namespace Go.Proofs.YtpijiohiohiilaaDoor.Pure
open Go Go.RowKit Go.Proofs.YtpijiohiohiilaaDoor.D
theorem DecNames : ∃ k, quoinlaw04_DecNames.f k  = some true := ⟨200, by decide +kernel⟩
end Go.Proofs.YtpijiohiohiilaaDoor.Pure
