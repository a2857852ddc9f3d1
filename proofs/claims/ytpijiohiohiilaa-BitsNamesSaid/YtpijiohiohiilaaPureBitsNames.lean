/- BitsNames, the plain law: the chapter's examples. No condition. -/
import Derived.Test.YtpijiohiohiilaaBBitsNames
namespace Go.Proofs.Ytpijiohiohiilaa.Pure
open Go Go.RowKit Go.Proofs.Ytpijiohiohiilaa.B
theorem BitsNames : quoinlaw01_BitsNames.Pure := ⟨40, by decide +kernel⟩
end Go.Proofs.Ytpijiohiohiilaa.Pure
