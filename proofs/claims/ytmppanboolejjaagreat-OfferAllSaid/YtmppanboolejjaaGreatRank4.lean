/- Package seen: heads with another one. -/
import Derived.Test.YtmppanboolejjaaGreatRank3
namespace Go.Ab.Tryz
open Go
set_option maxRecDepth 100000
set_option maxHeartbeats 4000000
end Go.Ab.Tryz
