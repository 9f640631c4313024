/- Calls of Tryz that are known ahead: part 3: the machine's own runs. -/
import Derived.Test.YtfhimfcbphepeaaGreatDoorKnData
import Derived.KernelRfl
import Derived.Test.YtfhimfcbphepeaaGreatDoorProg
namespace Go.Proofs.YtfhimfcbphepeaaGreatDoor.Kn
open Go Am
theorem r0 : ZL (bJ Tryz.prog 366 351 Yp m0) 100000 e0 = true := by kernel_rfl
theorem r6 : ZL (bJ Tryz.prog 366 351 Yp m6) 100000 e6 = true := by kernel_rfl
theorem r8 : ZL (bJ Tryz.prog 366 351 Yp m8) 100000 e8 = true := by kernel_rfl
theorem r12 : ZL (bJ Tryz.prog 366 351 Yp m12) 100000 e12 = true := by kernel_rfl
theorem r17 : ZL (bJ Tryz.prog 366 351 Yp m17) 100000 e17 = true := by kernel_rfl
theorem r23 : ZL (bJ Tryz.prog 366 351 Yp m23) 100000 e23 = true := by kernel_rfl
end Go.Proofs.YtfhimfcbphepeaaGreatDoor.Kn
