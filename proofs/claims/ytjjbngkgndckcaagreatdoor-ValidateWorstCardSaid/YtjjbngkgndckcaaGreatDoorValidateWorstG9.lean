/- Names: what the reference's functions give. -/
import Derived.Test.YtjjbngkgndckcaaGreatDoorValidateWorstG7
import Derived.Test.YtjjbngkgndckcaaGreatDoorValidateWorstG8
set_option maxHeartbeats 1000000
set_option linter.defProp false
set_option linter.unusedVariables false
set_option linter.unusedSimpArgs false
namespace Go.X.G
open Go Go.X
set_option maxRecDepth 100000 in
def Uk:S aj 0 []=some [.b true]:=(Mh ext_mono).2 ⟨400,by kernel_rfl⟩
end Go.X.G
