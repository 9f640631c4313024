/- Calls of Tryz that are known ahead: part 0: the machine's own runs. -/
import Derived.Test.YtfhimfcbphepeaaGreatDoorKnData
import Derived.KernelRfl
import Derived.Test.YtfhimfcbphepeaaGreatDoorProg
namespace Go.Proofs.YtfhimfcbphepeaaGreatDoor.Kn
open Go Am
theorem r1 : ZL (bJ Tryz.prog 366 351 Yp m1) 100000 e1 = true := by kernel_rfl
theorem r4 : ZL (bJ Tryz.prog 366 351 Yp m4) 100000 e4 = true := by kernel_rfl
theorem r7 : ZL (bJ Tryz.prog 366 351 Yp m7) 100000 e7 = true := by kernel_rfl
theorem r10 : ZL (bJ Tryz.prog 366 351 Yp m10) 100000 e10 = true := by kernel_rfl
theorem r14 : ZL (bJ Tryz.prog 366 351 Yp m14) 100000 e14 = true := by kernel_rfl
theorem r16 : ZL (bJ Tryz.prog 366 351 Yp m16) 100000 e16 = true := by kernel_rfl
theorem r25 : ZL (bJ Tryz.prog 366 351 Yp m25) 100000 e25 = true := by kernel_rfl
end Go.Proofs.YtfhimfcbphepeaaGreatDoor.Kn
