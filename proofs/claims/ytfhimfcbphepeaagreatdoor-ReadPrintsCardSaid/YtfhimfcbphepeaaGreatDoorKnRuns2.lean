/- Calls of Tryz that are known ahead: part 2: the machine's own runs. -/
import Derived.Test.YtfhimfcbphepeaaGreatDoorKnData
import Derived.KernelRfl
import Derived.Test.YtfhimfcbphepeaaGreatDoorProg
namespace Go.Proofs.YtfhimfcbphepeaaGreatDoor.Kn
open Go Am
theorem r9 : ZL (bJ Tryz.prog 366 351 Yp m9) 100000 e9 = true := by kernel_rfl
theorem r11 : ZL (bJ Tryz.prog 366 351 Yp m11) 100000 e11 = true := by kernel_rfl
theorem r13 : ZL (bJ Tryz.prog 366 351 Yp m13) 100000 e13 = true := by kernel_rfl
theorem r18 : ZL (bJ Tryz.prog 366 351 Yp m18) 100000 e18 = true := by kernel_rfl
theorem r22 : ZL (bJ Tryz.prog 366 351 Yp m22) 100000 e22 = true := by kernel_rfl
theorem r24 : ZL (bJ Tryz.prog 366 351 Yp m24) 100000 e24 = true := by kernel_rfl
end Go.Proofs.YtfhimfcbphepeaaGreatDoor.Kn
