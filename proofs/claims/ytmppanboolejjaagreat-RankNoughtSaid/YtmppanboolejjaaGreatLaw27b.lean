/- Package cardamomlaw27: begun. -/
import Derived.Test.YtmppanboolejjaaGreatHand
namespace Go.Ab.Tryz
open Go
set_option maxRecDepth 100000
set_option maxHeartbeats 4000000
theorem c9 : X.call 9 [] [] ⟨.bool true,[],[]⟩ := evT_ok Tryz.envOk (by kernel_rfl)
end Go.Ab.Tryz
