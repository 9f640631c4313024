/- Calls of Tryz that are known ahead: part 1: the machine's own runs. -/
import Derived.Test.YtfkaeegmjcelnaaGreatDoorKnData
import Derived.KernelRfl
import Derived.Test.YtfkaeegmjcelnaaGreatDoorProg
namespace Go.Proofs.YtfkaeegmjcelnaaGreatDoor.Kn
open Go Am
theorem r6 : entOk (envT Tryz.prog 372 312 kmask m6) 100000 e6 = true := by kernel_rfl
theorem r8 : entOk (envT Tryz.prog 372 312 kmask m8) 100000 e8 = true := by kernel_rfl
theorem r12 : entOk (envT Tryz.prog 372 312 kmask m12) 100000 e12 = true := by kernel_rfl
theorem r15 : entOk (envT Tryz.prog 372 312 kmask m15) 100000 e15 = true := by kernel_rfl
theorem r17 : entOk (envT Tryz.prog 372 312 kmask m17) 100000 e17 = true := by kernel_rfl
end Go.Proofs.YtfkaeegmjcelnaaGreatDoor.Kn
