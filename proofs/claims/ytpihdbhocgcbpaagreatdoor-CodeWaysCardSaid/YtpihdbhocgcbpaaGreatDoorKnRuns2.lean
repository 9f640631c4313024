/- Calls of Tryz that are known ahead: part 2: the machine's own runs. -/
import Derived.Test.YtpihdbhocgcbpaaGreatDoorKnData
import Derived.KernelRfl
import Derived.Test.YtpihdbhocgcbpaaGreatDoorProg
namespace Go.Proofs.YtpihdbhocgcbpaaGreatDoor.Kn
open Go Am
theorem r2 : YN (aB Tryz.prog 406 357 WY m2) 100000 e2 = true := by kernel_rfl
theorem r3 : YN (aB Tryz.prog 406 357 WY m3) 100000 e3 = true := by kernel_rfl
theorem r4 : YN (aB Tryz.prog 406 357 WY m4) 100000 e4 = true := by kernel_rfl
theorem r7 : YN (aB Tryz.prog 406 357 WY m7) 100000 e7 = true := by kernel_rfl
theorem r15 : YN (aB Tryz.prog 406 357 WY m15) 100000 e15 = true := by kernel_rfl
end Go.Proofs.YtpihdbhocgcbpaaGreatDoor.Kn
