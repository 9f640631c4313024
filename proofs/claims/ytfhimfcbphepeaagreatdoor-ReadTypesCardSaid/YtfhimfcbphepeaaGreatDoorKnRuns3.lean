/- Calls of Tryz that are known ahead: part 3: the machine's own runs. -/
import Derived.Test.YtfhimfcbphepeaaGreatDoorKnData
import Derived.KernelRfl
import Derived.Test.YtfhimfcbphepeaaGreatDoorProg
namespace Go.Proofs.YtfhimfcbphepeaaGreatDoor.Kn
open Go Am
theorem r0 : Xo (Y8 Tryz.prog 366 351 Ok m0) 100000 e0 = true := by kernel_rfl
theorem r6 : Xo (Y8 Tryz.prog 366 351 Ok m6) 100000 e6 = true := by kernel_rfl
theorem r8 : Xo (Y8 Tryz.prog 366 351 Ok m8) 100000 e8 = true := by kernel_rfl
theorem r12 : Xo (Y8 Tryz.prog 366 351 Ok m12) 100000 e12 = true := by kernel_rfl
theorem r17 : Xo (Y8 Tryz.prog 366 351 Ok m17) 100000 e17 = true := by kernel_rfl
theorem r23 : Xo (Y8 Tryz.prog 366 351 Ok m23) 100000 e23 = true := by kernel_rfl
end Go.Proofs.YtfhimfcbphepeaaGreatDoor.Kn
