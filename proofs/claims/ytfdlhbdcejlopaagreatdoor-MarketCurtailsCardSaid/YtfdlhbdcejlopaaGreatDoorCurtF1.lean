/- MarketCurtails: the law returns true at every input, and each argument reads behind the call as it read before (condition: the listed tables of Go's library hold what the program's text lays): closed facts of the translation. -/
import Derived.Test.YtfdlhbdcejlopaaGreatDoorRows
import Derived.JoinedOf
import GoSem.ClaimSeven
namespace Go.Proofs.YtfdlhbdcejlopaaGreatDoor.B
open Go
set_option maxRecDepth 100000
theorem kf_laid : laidOutB Tryz.pinned.checked.prog = true := by kernel_rfl
theorem kf_maps : mapsRowed Tryz.pinned.checked.prog = true := by kernel_rfl
theorem kf_heard : Tryz.pinned.checked.prog.stopsHeard = true := by kernel_rfl
theorem kf_enter : Tryz.pinned.checked.prog.mayEnter = true := by kernel_rfl
theorem kf_looks : false = Tryz.pinned.checked.prog.looks [] := by kernel_rfl
theorem kf_main : Tryz.pinned.checked.prog.mainIs = some (true, "79f366469f940c89362884395cc7173ec48ecff25fbd27ebfd1c884a9a1663df".toList) := by kernel_rfl
end Go.Proofs.YtfdlhbdcejlopaaGreatDoor.B
