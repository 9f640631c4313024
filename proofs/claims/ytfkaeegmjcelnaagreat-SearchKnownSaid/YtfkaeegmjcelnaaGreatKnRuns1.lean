/- Calls of Tryz that are known ahead: part 1: the machine's own runs. -/
import Derived.Test.YtfkaeegmjcelnaaGreatKnData
import Derived.KernelRfl
import Derived.Test.YtfkaeegmjcelnaaGreatProg
namespace Go.Proofs.YtfkaeegmjcelnaaGreat.Kn
open Go Am
theorem r0 : entOk (envT Tryz.prog 485 415 kmask m0) 100000 e0 = true := by kernel_rfl
theorem r7 : entOk (envT Tryz.prog 485 415 kmask m7) 100000 e7 = true := by kernel_rfl
theorem r9 : entOk (envT Tryz.prog 485 415 kmask m9) 100000 e9 = true := by kernel_rfl
theorem r13 : entOk (envT Tryz.prog 485 415 kmask m13) 100000 e13 = true := by kernel_rfl
theorem r15 : entOk (envT Tryz.prog 485 415 kmask m15) 100000 e15 = true := by kernel_rfl
theorem r17 : entOk (envT Tryz.prog 485 415 kmask m17) 100000 e17 = true := by kernel_rfl
theorem r20 : entOk (envT Tryz.prog 485 415 kmask m20) 100000 e20 = true := by kernel_rfl
theorem r24 : entOk (envT Tryz.prog 485 415 kmask m24) 100000 e24 = true := by kernel_rfl
theorem r29 : entOk (envT Tryz.prog 485 415 kmask m29) 100000 e29 = true := by kernel_rfl
theorem r30 : entOk (envT Tryz.prog 485 415 kmask m30) 100000 e30 = true := by kernel_rfl
theorem r33 : entOk (envT Tryz.prog 485 415 kmask m33) 100000 e33 = true := by kernel_rfl
theorem r39 : entOk (envT Tryz.prog 485 415 kmask m39) 100000 e39 = true := by kernel_rfl
theorem r41 : entOk (envT Tryz.prog 485 415 kmask m41) 100000 e41 = true := by kernel_rfl
theorem r43 : entOk (envT Tryz.prog 485 415 kmask m43) 100000 e43 = true := by kernel_rfl
theorem r54 : entOk (envT Tryz.prog 485 415 kmask m54) 100000 e54 = true := by kernel_rfl
theorem r57 : entOk (envT Tryz.prog 485 415 kmask m57) 100000 e57 = true := by kernel_rfl
theorem r61 : entOk (envT Tryz.prog 485 415 kmask m61) 100000 e61 = true := by kernel_rfl
theorem r67 : entOk (envT Tryz.prog 485 415 kmask m67) 100000 e67 = true := by kernel_rfl
theorem r69 : entOk (envT Tryz.prog 485 415 kmask m69) 100000 e69 = true := by kernel_rfl
theorem r73 : entOk (envT Tryz.prog 485 415 kmask m73) 100000 e73 = true := by kernel_rfl
theorem r76 : entOk (envT Tryz.prog 485 415 kmask m76) 100000 e76 = true := by kernel_rfl
theorem r77 : entOk (envT Tryz.prog 485 415 kmask m77) 100000 e77 = true := by kernel_rfl
theorem r78 : entOk (envT Tryz.prog 485 415 kmask m78) 100000 e78 = true := by kernel_rfl
theorem r79 : entOk (envT Tryz.prog 485 415 kmask m79) 100000 e79 = true := by kernel_rfl
theorem r85 : entOk (envT Tryz.prog 485 415 kmask m85) 100000 e85 = true := by kernel_rfl
theorem r92 : entOk (envT Tryz.prog 485 415 kmask m92) 100000 e92 = true := by kernel_rfl
theorem r93 : entOk (envT Tryz.prog 485 415 kmask m93) 100000 e93 = true := by kernel_rfl
theorem r101 : entOk (envT Tryz.prog 485 415 kmask m101) 100000 e101 = true := by kernel_rfl
theorem r102 : entOk (envT Tryz.prog 485 415 kmask m102) 100000 e102 = true := by kernel_rfl
theorem r104 : entOk (envT Tryz.prog 485 415 kmask m104) 100000 e104 = true := by kernel_rfl
theorem r123 : entOk (envT Tryz.prog 485 415 kmask m123) 100000 e123 = true := by kernel_rfl
theorem r125 : entOk (envT Tryz.prog 485 415 kmask m125) 100000 e125 = true := by kernel_rfl
theorem r128 : entOk (envT Tryz.prog 485 415 kmask m128) 100000 e128 = true := by kernel_rfl
theorem r130 : entOk (envT Tryz.prog 485 415 kmask m130) 100000 e130 = true := by kernel_rfl
theorem r131 : entOk (envT Tryz.prog 485 415 kmask m131) 100000 e131 = true := by kernel_rfl
theorem r134 : entOk (envT Tryz.prog 485 415 kmask m134) 100000 e134 = true := by kernel_rfl
theorem r144 : entOk (envT Tryz.prog 485 415 kmask m144) 100000 e144 = true := by kernel_rfl
theorem r147 : entOk (envT Tryz.prog 485 415 kmask m147) 100000 e147 = true := by kernel_rfl
theorem r152 : entOk (envT Tryz.prog 485 415 kmask m152) 100000 e152 = true := by kernel_rfl
theorem r153 : entOk (envT Tryz.prog 485 415 kmask m153) 100000 e153 = true := by kernel_rfl
theorem r159 : entOk (envT Tryz.prog 485 415 kmask m159) 100000 e159 = true := by kernel_rfl
theorem r165 : entOk (envT Tryz.prog 485 415 kmask m165) 100000 e165 = true := by kernel_rfl
theorem r166 : entOk (envT Tryz.prog 485 415 kmask m166) 100000 e166 = true := by kernel_rfl
end Go.Proofs.YtfkaeegmjcelnaaGreat.Kn
