/- Calls of Tryz that are known ahead: part 2: the machine's own runs. -/
import Derived.Test.YtfkaeegmjcelnaaGreatDoorKnData
import Derived.KernelRfl
import Derived.Test.YtfkaeegmjcelnaaGreatDoorProg
namespace Go.Proofs.YtfkaeegmjcelnaaGreatDoor.Kn
open Go Am
theorem r0 : entOk (envT Tryz.prog 372 312 kmask m0) 100000 e0 = true := by kernel_rfl
theorem r2 : entOk (envT Tryz.prog 372 312 kmask m2) 100000 e2 = true := by kernel_rfl
theorem r3 : entOk (envT Tryz.prog 372 312 kmask m3) 100000 e3 = true := by kernel_rfl
theorem r11 : entOk (envT Tryz.prog 372 312 kmask m11) 100000 e11 = true := by kernel_rfl
theorem r14 : entOk (envT Tryz.prog 372 312 kmask m14) 100000 e14 = true := by kernel_rfl
theorem r20 : entOk (envT Tryz.prog 372 312 kmask m20) 100000 e20 = true := by kernel_rfl
end Go.Proofs.YtfkaeegmjcelnaaGreatDoor.Kn
