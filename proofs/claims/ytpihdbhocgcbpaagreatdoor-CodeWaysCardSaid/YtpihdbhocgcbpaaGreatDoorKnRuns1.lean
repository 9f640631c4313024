/- Calls of Tryz that are known ahead: part 1: the machine's own runs. -/
import Derived.Test.YtpihdbhocgcbpaaGreatDoorKnData
import Derived.KernelRfl
import Derived.Test.YtpihdbhocgcbpaaGreatDoorProg
namespace Go.Proofs.YtpihdbhocgcbpaaGreatDoor.Kn
open Go Am
theorem r0 : YN (aB Tryz.prog 406 357 WY m0) 100000 e0 = true := by kernel_rfl
theorem r1 : YN (aB Tryz.prog 406 357 WY m1) 100000 e1 = true := by kernel_rfl
theorem r8 : YN (aB Tryz.prog 406 357 WY m8) 100000 e8 = true := by kernel_rfl
theorem r11 : YN (aB Tryz.prog 406 357 WY m11) 100000 e11 = true := by kernel_rfl
end Go.Proofs.YtpihdbhocgcbpaaGreatDoor.Kn
