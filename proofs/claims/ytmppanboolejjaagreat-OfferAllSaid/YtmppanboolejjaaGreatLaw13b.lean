/- Package cardamomlaw13: begun. -/
import Derived.Test.YtmppanboolejjaaGreatHand
namespace Go.Ab.Tryz
open Go
set_option maxRecDepth 100000
set_option maxHeartbeats 4000000
theorem c25 : X.call 25 [] [] ⟨.bool true,[],[]⟩ := evT_ok Tryz.envOk (by kernel_rfl)
end Go.Ab.Tryz
