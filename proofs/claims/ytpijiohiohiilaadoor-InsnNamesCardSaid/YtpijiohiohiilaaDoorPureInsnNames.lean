/- InsnNames, the plain law: the chapter's examples, reckoned. No condition. -/
import Derived.Test.YtpijiohiohiilaaDoorDInsnNames
namespace Go.Proofs.YtpijiohiohiilaaDoor.Pure
open Go Go.RowKit Go.Proofs.YtpijiohiohiilaaDoor.D
theorem InsnNames : ∃ k, quoinlaw02_InsnNames.f k  = some true := ⟨200, by decide +kernel⟩
end Go.Proofs.YtpijiohiohiilaaDoor.Pure
