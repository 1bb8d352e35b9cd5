/- The law ScriptReads: true. -/
import Derived.Test.YtpmpclbdnakniaaGreatDoorV40
import Derived.Test.YtpmpclbdnakniaaGreatDoorV39
set_option linter.all false
set_option maxHeartbeats 8000000
namespace Go.Vc.Z
open Go Go.Vc Go.Proofs Go.RowKit Go.Pl Go.Lib
noncomputable section
set_option maxRecDepth 100000
attribute [local irreducible] inK Utf8.decode Utf8.encode Lib.itoa Pl.worth Pl.allDig
attribute [local irreducible] Lib.join
end
end Go.Vc.Z
