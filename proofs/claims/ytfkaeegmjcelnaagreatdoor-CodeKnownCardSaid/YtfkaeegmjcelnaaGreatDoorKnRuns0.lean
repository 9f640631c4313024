/- Calls of Tryz that are known ahead: part 0: the machine's own runs. -/
import Derived.Test.YtfkaeegmjcelnaaGreatDoorKnData
import Derived.KernelRfl
import Derived.Test.YtfkaeegmjcelnaaGreatDoorProg
namespace Go.Proofs.YtfkaeegmjcelnaaGreatDoor.Kn
open Go Am
theorem r5 : entOk (envT Tryz.prog 372 312 kmask m5) 100000 e5 = true := by kernel_rfl
theorem r9 : entOk (envT Tryz.prog 372 312 kmask m9) 100000 e9 = true := by kernel_rfl
theorem r16 : entOk (envT Tryz.prog 372 312 kmask m16) 100000 e16 = true := by kernel_rfl
theorem r18 : entOk (envT Tryz.prog 372 312 kmask m18) 100000 e18 = true := by kernel_rfl
theorem r21 : entOk (envT Tryz.prog 372 312 kmask m21) 100000 e21 = true := by kernel_rfl
end Go.Proofs.YtfkaeegmjcelnaaGreatDoor.Kn
