/- Calls of Tryz that are known ahead: part 2: the machine's own runs. -/
import Derived.Test.YtmcjglkpjfnfcaaGreatKnData
import Derived.KernelRfl
import Derived.Test.YtmcjglkpjfnfcaaGreatProg
namespace Go.Proofs.YtmcjglkpjfnfcaaGreat.Kn
open Go Am
theorem r1 : entOk (envT Tryz.prog 615 528 kmask m1) 100000 e1 = true := by kernel_rfl
theorem r6 : entOk (envT Tryz.prog 615 528 kmask m6) 100000 e6 = true := by kernel_rfl
theorem r8 : entOk (envT Tryz.prog 615 528 kmask m8) 100000 e8 = true := by kernel_rfl
theorem r12 : entOk (envT Tryz.prog 615 528 kmask m12) 100000 e12 = true := by kernel_rfl
theorem r20 : entOk (envT Tryz.prog 615 528 kmask m20) 100000 e20 = true := by kernel_rfl
theorem r22 : entOk (envT Tryz.prog 615 528 kmask m22) 100000 e22 = true := by kernel_rfl
theorem r24 : entOk (envT Tryz.prog 615 528 kmask m24) 100000 e24 = true := by kernel_rfl
theorem r26 : entOk (envT Tryz.prog 615 528 kmask m26) 100000 e26 = true := by kernel_rfl
theorem r29 : entOk (envT Tryz.prog 615 528 kmask m29) 100000 e29 = true := by kernel_rfl
theorem r32 : entOk (envT Tryz.prog 615 528 kmask m32) 100000 e32 = true := by kernel_rfl
theorem r33 : entOk (envT Tryz.prog 615 528 kmask m33) 100000 e33 = true := by kernel_rfl
theorem r40 : entOk (envT Tryz.prog 615 528 kmask m40) 100000 e40 = true := by kernel_rfl
theorem r41 : entOk (envT Tryz.prog 615 528 kmask m41) 100000 e41 = true := by kernel_rfl
theorem r62 : entOk (envT Tryz.prog 615 528 kmask m62) 100000 e62 = true := by kernel_rfl
theorem r64 : entOk (envT Tryz.prog 615 528 kmask m64) 100000 e64 = true := by kernel_rfl
theorem r65 : entOk (envT Tryz.prog 615 528 kmask m65) 100000 e65 = true := by kernel_rfl
theorem r69 : entOk (envT Tryz.prog 615 528 kmask m69) 100000 e69 = true := by kernel_rfl
theorem r70 : entOk (envT Tryz.prog 615 528 kmask m70) 100000 e70 = true := by kernel_rfl
end Go.Proofs.YtmcjglkpjfnfcaaGreat.Kn
