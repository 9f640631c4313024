/- Calls of Tryz that are known ahead: part 3: the machine's own runs. -/
import Derived.Test.YtpihdbhocgcbpaaGreatDoorKnData
import Derived.KernelRfl
import Derived.Test.YtpihdbhocgcbpaaGreatDoorProg
namespace Go.Proofs.YtpihdbhocgcbpaaGreatDoor.Kn
open Go Am
theorem r6 : YN (aB Tryz.prog 406 357 WY m6) 100000 e6 = true := by kernel_rfl
theorem r10 : YN (aB Tryz.prog 406 357 WY m10) 100000 e10 = true := by kernel_rfl
theorem r13 : YN (aB Tryz.prog 406 357 WY m13) 100000 e13 = true := by kernel_rfl
theorem r14 : YN (aB Tryz.prog 406 357 WY m14) 100000 e14 = true := by kernel_rfl
theorem r16 : YN (aB Tryz.prog 406 357 WY m16) 100000 e16 = true := by kernel_rfl
end Go.Proofs.YtpihdbhocgcbpaaGreatDoor.Kn
