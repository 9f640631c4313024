/- Calls of Tryz that are known ahead: part 3: the machine's own runs. -/
import Derived.Test.YtmmbnekeoidfnaaGreatKnData
import Derived.KernelRfl
import Derived.Test.YtmmbnekeoidfnaaGreatProg
namespace Go.Proofs.YtmmbnekeoidfnaaGreat.Kn
open Go Am
theorem r0 : entOk (envT Tryz.prog 504 544 kmask m0) 100000 e0 = true := by kernel_rfl
theorem r1 : entOk (envT Tryz.prog 504 544 kmask m1) 100000 e1 = true := by kernel_rfl
theorem r3 : entOk (envT Tryz.prog 504 544 kmask m3) 100000 e3 = true := by kernel_rfl
theorem r6 : entOk (envT Tryz.prog 504 544 kmask m6) 100000 e6 = true := by kernel_rfl
theorem r11 : entOk (envT Tryz.prog 504 544 kmask m11) 100000 e11 = true := by kernel_rfl
theorem r15 : entOk (envT Tryz.prog 504 544 kmask m15) 100000 e15 = true := by kernel_rfl
theorem r18 : entOk (envT Tryz.prog 504 544 kmask m18) 100000 e18 = true := by kernel_rfl
theorem r25 : entOk (envT Tryz.prog 504 544 kmask m25) 100000 e25 = true := by kernel_rfl
theorem r26 : entOk (envT Tryz.prog 504 544 kmask m26) 100000 e26 = true := by kernel_rfl
theorem r33 : entOk (envT Tryz.prog 504 544 kmask m33) 100000 e33 = true := by kernel_rfl
theorem r55 : entOk (envT Tryz.prog 504 544 kmask m55) 100000 e55 = true := by kernel_rfl
theorem r56 : entOk (envT Tryz.prog 504 544 kmask m56) 100000 e56 = true := by kernel_rfl
theorem r58 : entOk (envT Tryz.prog 504 544 kmask m58) 100000 e58 = true := by kernel_rfl
theorem r61 : entOk (envT Tryz.prog 504 544 kmask m61) 100000 e61 = true := by kernel_rfl
theorem r62 : entOk (envT Tryz.prog 504 544 kmask m62) 100000 e62 = true := by kernel_rfl
theorem r65 : entOk (envT Tryz.prog 504 544 kmask m65) 100000 e65 = true := by kernel_rfl
theorem r66 : entOk (envT Tryz.prog 504 544 kmask m66) 100000 e66 = true := by kernel_rfl
theorem r70 : entOk (envT Tryz.prog 504 544 kmask m70) 100000 e70 = true := by kernel_rfl
theorem r75 : entOk (envT Tryz.prog 504 544 kmask m75) 100000 e75 = true := by kernel_rfl
end Go.Proofs.YtmmbnekeoidfnaaGreat.Kn
