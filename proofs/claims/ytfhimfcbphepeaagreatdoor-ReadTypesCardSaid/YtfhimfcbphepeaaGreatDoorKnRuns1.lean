/- Calls of Tryz that are known ahead: part 1: the machine's own runs. -/
import Derived.Test.YtfhimfcbphepeaaGreatDoorKnData
import Derived.KernelRfl
import Derived.Test.YtfhimfcbphepeaaGreatDoorProg
namespace Go.Proofs.YtfhimfcbphepeaaGreatDoor.Kn
open Go Am
theorem r2 : Xo (Y8 Tryz.prog 366 351 Ok m2) 100000 e2 = true := by kernel_rfl
theorem r3 : Xo (Y8 Tryz.prog 366 351 Ok m3) 100000 e3 = true := by kernel_rfl
theorem r5 : Xo (Y8 Tryz.prog 366 351 Ok m5) 100000 e5 = true := by kernel_rfl
theorem r15 : Xo (Y8 Tryz.prog 366 351 Ok m15) 100000 e15 = true := by kernel_rfl
theorem r19 : Xo (Y8 Tryz.prog 366 351 Ok m19) 100000 e19 = true := by kernel_rfl
theorem r20 : Xo (Y8 Tryz.prog 366 351 Ok m20) 100000 e20 = true := by kernel_rfl
theorem r21 : Xo (Y8 Tryz.prog 366 351 Ok m21) 100000 e21 = true := by kernel_rfl
end Go.Proofs.YtfhimfcbphepeaaGreatDoor.Kn
