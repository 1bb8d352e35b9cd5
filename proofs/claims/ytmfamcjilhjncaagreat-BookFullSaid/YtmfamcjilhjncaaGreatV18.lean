/- BookFull: a part of its run. -/
import Derived.Test.YtmfamcjilhjncaaGreatV12
set_option linter.all false
namespace Go.Vc.F
open Go Go.Vc Go.Proofs
set_option maxRecDepth 1000000
noncomputable section
theorem runD : isS (partD 0 200) = true := by decide +kernel
end
end Go.Vc.F
