/- Calls of Tryz that are known ahead: part 0: the machine's own runs. -/
import Derived.Test.YtpihdbhocgcbpaaGreatDoorKnData
import Derived.KernelRfl
import Derived.Test.YtpihdbhocgcbpaaGreatDoorProg
namespace Go.Proofs.YtpihdbhocgcbpaaGreatDoor.Kn
open Go Am
theorem r5 : YN (aB Tryz.prog 406 357 WY m5) 100000 e5 = true := by kernel_rfl
theorem r9 : YN (aB Tryz.prog 406 357 WY m9) 100000 e9 = true := by kernel_rfl
theorem r12 : YN (aB Tryz.prog 406 357 WY m12) 100000 e12 = true := by kernel_rfl
theorem r17 : YN (aB Tryz.prog 406 357 WY m17) 100000 e17 = true := by kernel_rfl
end Go.Proofs.YtpihdbhocgcbpaaGreatDoor.Kn
