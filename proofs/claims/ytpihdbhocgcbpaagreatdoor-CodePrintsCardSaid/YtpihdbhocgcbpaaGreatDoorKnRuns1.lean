/- Calls of Tryz that are known ahead: part 1: the machine's own runs. -/
import Derived.Test.YtpihdbhocgcbpaaGreatDoorKnData
import Derived.KernelRfl
import Derived.Test.YtpihdbhocgcbpaaGreatDoorProg
namespace Go.Proofs.YtpihdbhocgcbpaaGreatDoor.Kn
open Go Am
theorem r0 : X1 (Y3 Tryz.prog 406 357 Wv m0) 100000 e0 = true := by kernel_rfl
theorem r1 : X1 (Y3 Tryz.prog 406 357 Wv m1) 100000 e1 = true := by kernel_rfl
theorem r8 : X1 (Y3 Tryz.prog 406 357 Wv m8) 100000 e8 = true := by kernel_rfl
theorem r11 : X1 (Y3 Tryz.prog 406 357 Wv m11) 100000 e11 = true := by kernel_rfl
end Go.Proofs.YtpihdbhocgcbpaaGreatDoor.Kn
