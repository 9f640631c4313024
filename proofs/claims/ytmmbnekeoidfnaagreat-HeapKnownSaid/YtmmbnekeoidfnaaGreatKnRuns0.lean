/- Calls of Tryz that are known ahead: part 0: the machine's own runs. -/
import Derived.Test.YtmmbnekeoidfnaaGreatKnData
import Derived.KernelRfl
import Derived.Test.YtmmbnekeoidfnaaGreatProg
namespace Go.Proofs.YtmmbnekeoidfnaaGreat.Kn
open Go Am
theorem r8 : entOk (envT Tryz.prog 504 544 kmask m8) 100000 e8 = true := by kernel_rfl
theorem r10 : entOk (envT Tryz.prog 504 544 kmask m10) 100000 e10 = true := by kernel_rfl
theorem r13 : entOk (envT Tryz.prog 504 544 kmask m13) 100000 e13 = true := by kernel_rfl
theorem r21 : entOk (envT Tryz.prog 504 544 kmask m21) 100000 e21 = true := by kernel_rfl
theorem r22 : entOk (envT Tryz.prog 504 544 kmask m22) 100000 e22 = true := by kernel_rfl
theorem r23 : entOk (envT Tryz.prog 504 544 kmask m23) 100000 e23 = true := by kernel_rfl
theorem r24 : entOk (envT Tryz.prog 504 544 kmask m24) 100000 e24 = true := by kernel_rfl
theorem r29 : entOk (envT Tryz.prog 504 544 kmask m29) 100000 e29 = true := by kernel_rfl
theorem r31 : entOk (envT Tryz.prog 504 544 kmask m31) 100000 e31 = true := by kernel_rfl
theorem r32 : entOk (envT Tryz.prog 504 544 kmask m32) 100000 e32 = true := by kernel_rfl
theorem r34 : entOk (envT Tryz.prog 504 544 kmask m34) 100000 e34 = true := by kernel_rfl
theorem r40 : entOk (envT Tryz.prog 504 544 kmask m40) 100000 e40 = true := by kernel_rfl
theorem r43 : entOk (envT Tryz.prog 504 544 kmask m43) 100000 e43 = true := by kernel_rfl
theorem r44 : entOk (envT Tryz.prog 504 544 kmask m44) 100000 e44 = true := by kernel_rfl
theorem r46 : entOk (envT Tryz.prog 504 544 kmask m46) 100000 e46 = true := by kernel_rfl
theorem r49 : entOk (envT Tryz.prog 504 544 kmask m49) 100000 e49 = true := by kernel_rfl
theorem r54 : entOk (envT Tryz.prog 504 544 kmask m54) 100000 e54 = true := by kernel_rfl
theorem r72 : entOk (envT Tryz.prog 504 544 kmask m72) 100000 e72 = true := by kernel_rfl
theorem r76 : entOk (envT Tryz.prog 504 544 kmask m76) 100000 e76 = true := by kernel_rfl
theorem r77 : entOk (envT Tryz.prog 504 544 kmask m77) 100000 e77 = true := by kernel_rfl
end Go.Proofs.YtmmbnekeoidfnaaGreat.Kn
