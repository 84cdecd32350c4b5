/- The closed facts of the card of fnLock, one by one. Conditions: none. -/
import Derived.Test.YtbbkneenambchaaGreatDoorRows
import Derived.SevenTiedAt

namespace Go.Proofs.YtbbkneenambchaaGreatDoor
open Go
set_option maxRecDepth 100000
theorem ck1 : Rows.fnLockRow.wfByText (OpenSpec.ofChange Rows.fnLockSpec) = true := by kernel_rfl
theorem ck2 : Tryz.prog.mainIs = some (true, "1c469acbec412cb53c3e16d146bf8ddc2917c1bdbaf98684eeb732a9e418cd33".toList) := by kernel_rfl
theorem ck3 : false = Tryz.prog.looks [] := by kernel_rfl
theorem ck4 : false = Rows.fnLockRow.goesBy Tryz.prog := by kernel_rfl
theorem ck5 : Tryz.prog.funcNamed "loop.example/g03107/laws.FnLock" = some 3 := by kernel_rfl
theorem ck6 : Tryz.prog.wantsStandIn 22 = false := by kernel_rfl
end Go.Proofs.YtbbkneenambchaaGreatDoor
