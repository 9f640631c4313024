/- Calls of Tryz that are known ahead: part 3: the machine's own runs. -/
import Derived.Test.YtfkaeegmjcelnaaGreatDoorKnData
import Derived.KernelRfl
import Derived.Test.YtfkaeegmjcelnaaGreatDoorProg
namespace Go.Proofs.YtfkaeegmjcelnaaGreatDoor.Kn
open Go Am
theorem r1 : entOk (envT Tryz.prog 372 312 kmask m1) 100000 e1 = true := by kernel_rfl
theorem r4 : entOk (envT Tryz.prog 372 312 kmask m4) 100000 e4 = true := by kernel_rfl
theorem r7 : entOk (envT Tryz.prog 372 312 kmask m7) 100000 e7 = true := by kernel_rfl
theorem r10 : entOk (envT Tryz.prog 372 312 kmask m10) 100000 e10 = true := by kernel_rfl
theorem r13 : entOk (envT Tryz.prog 372 312 kmask m13) 100000 e13 = true := by kernel_rfl
theorem r19 : entOk (envT Tryz.prog 372 312 kmask m19) 100000 e19 = true := by kernel_rfl
end Go.Proofs.YtfkaeegmjcelnaaGreatDoor.Kn
