/- Calls of Tryz that are known ahead: part 1: the machine's own runs. -/
import Derived.Test.YtfhimfcbphepeaaGreatDoorKnData
import Derived.KernelRfl
import Derived.Test.YtfhimfcbphepeaaGreatDoorProg
namespace Go.Proofs.YtfhimfcbphepeaaGreatDoor.Kn
open Go Am
theorem r2 : ZL (bJ Tryz.prog 366 351 Yp m2) 100000 e2 = true := by kernel_rfl
theorem r3 : ZL (bJ Tryz.prog 366 351 Yp m3) 100000 e3 = true := by kernel_rfl
theorem r5 : ZL (bJ Tryz.prog 366 351 Yp m5) 100000 e5 = true := by kernel_rfl
theorem r15 : ZL (bJ Tryz.prog 366 351 Yp m15) 100000 e15 = true := by kernel_rfl
theorem r19 : ZL (bJ Tryz.prog 366 351 Yp m19) 100000 e19 = true := by kernel_rfl
theorem r20 : ZL (bJ Tryz.prog 366 351 Yp m20) 100000 e20 = true := by kernel_rfl
theorem r21 : ZL (bJ Tryz.prog 366 351 Yp m21) 100000 e21 = true := by kernel_rfl
end Go.Proofs.YtfhimfcbphepeaaGreatDoor.Kn
