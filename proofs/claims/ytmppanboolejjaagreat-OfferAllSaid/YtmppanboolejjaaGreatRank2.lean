/- Package repl: its own view, as plain Lean. -/
import Derived.Test.YtmppanboolejjaaGreatRank
namespace Go.Ab.Tryz
open Go
set_option maxRecDepth 100000
set_option maxHeartbeats 4000000
end Go.Ab.Tryz
