/- Package cardamomref1: rows with one more, as plain Lean. -/
import Derived.Test.YtodelhgblkhjgaaGreatDoorRef1d
import Derived.Test.YtodelhgblkhjgaaGreatDoorG3
namespace Go.Ab.Tryz
open Go
set_option maxRecDepth 100000
set_option maxHeartbeats 4000000
end Go.Ab.Tryz
