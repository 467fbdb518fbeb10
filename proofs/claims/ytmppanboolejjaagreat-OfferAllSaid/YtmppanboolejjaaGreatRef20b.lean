/- Package cardamomref20: who is beside whom, as plain Lean. -/
import Derived.Test.YtmppanboolejjaaGreatRef1f
import Derived.Test.YtmppanboolejjaaGreatG3
namespace Go.Ab.Tryz
open Go
set_option maxRecDepth 100000
set_option maxHeartbeats 4000000
end Go.Ab.Tryz
