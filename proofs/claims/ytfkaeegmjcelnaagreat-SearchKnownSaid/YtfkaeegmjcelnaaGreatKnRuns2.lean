/- Calls of Tryz that are known ahead: part 2: the machine's own runs. -/
import Derived.Test.YtfkaeegmjcelnaaGreatKnData
import Derived.KernelRfl
import Derived.Test.YtfkaeegmjcelnaaGreatProg
namespace Go.Proofs.YtfkaeegmjcelnaaGreat.Kn
open Go Am
theorem r3 : entOk (envT Tryz.prog 485 415 kmask m3) 100000 e3 = true := by kernel_rfl
theorem r5 : entOk (envT Tryz.prog 485 415 kmask m5) 100000 e5 = true := by kernel_rfl
theorem r8 : entOk (envT Tryz.prog 485 415 kmask m8) 100000 e8 = true := by kernel_rfl
theorem r14 : entOk (envT Tryz.prog 485 415 kmask m14) 100000 e14 = true := by kernel_rfl
theorem r16 : entOk (envT Tryz.prog 485 415 kmask m16) 100000 e16 = true := by kernel_rfl
theorem r22 : entOk (envT Tryz.prog 485 415 kmask m22) 100000 e22 = true := by kernel_rfl
theorem r27 : entOk (envT Tryz.prog 485 415 kmask m27) 100000 e27 = true := by kernel_rfl
theorem r31 : entOk (envT Tryz.prog 485 415 kmask m31) 100000 e31 = true := by kernel_rfl
theorem r36 : entOk (envT Tryz.prog 485 415 kmask m36) 100000 e36 = true := by kernel_rfl
theorem r38 : entOk (envT Tryz.prog 485 415 kmask m38) 100000 e38 = true := by kernel_rfl
theorem r40 : entOk (envT Tryz.prog 485 415 kmask m40) 100000 e40 = true := by kernel_rfl
theorem r46 : entOk (envT Tryz.prog 485 415 kmask m46) 100000 e46 = true := by kernel_rfl
theorem r50 : entOk (envT Tryz.prog 485 415 kmask m50) 100000 e50 = true := by kernel_rfl
theorem r52 : entOk (envT Tryz.prog 485 415 kmask m52) 100000 e52 = true := by kernel_rfl
theorem r58 : entOk (envT Tryz.prog 485 415 kmask m58) 100000 e58 = true := by kernel_rfl
theorem r63 : entOk (envT Tryz.prog 485 415 kmask m63) 100000 e63 = true := by kernel_rfl
theorem r64 : entOk (envT Tryz.prog 485 415 kmask m64) 100000 e64 = true := by kernel_rfl
theorem r65 : entOk (envT Tryz.prog 485 415 kmask m65) 100000 e65 = true := by kernel_rfl
theorem r66 : entOk (envT Tryz.prog 485 415 kmask m66) 100000 e66 = true := by kernel_rfl
theorem r70 : entOk (envT Tryz.prog 485 415 kmask m70) 100000 e70 = true := by kernel_rfl
theorem r71 : entOk (envT Tryz.prog 485 415 kmask m71) 100000 e71 = true := by kernel_rfl
theorem r72 : entOk (envT Tryz.prog 485 415 kmask m72) 100000 e72 = true := by kernel_rfl
theorem r81 : entOk (envT Tryz.prog 485 415 kmask m81) 100000 e81 = true := by kernel_rfl
theorem r83 : entOk (envT Tryz.prog 485 415 kmask m83) 100000 e83 = true := by kernel_rfl
theorem r86 : entOk (envT Tryz.prog 485 415 kmask m86) 100000 e86 = true := by kernel_rfl
theorem r89 : entOk (envT Tryz.prog 485 415 kmask m89) 100000 e89 = true := by kernel_rfl
theorem r91 : entOk (envT Tryz.prog 485 415 kmask m91) 100000 e91 = true := by kernel_rfl
theorem r94 : entOk (envT Tryz.prog 485 415 kmask m94) 100000 e94 = true := by kernel_rfl
theorem r96 : entOk (envT Tryz.prog 485 415 kmask m96) 100000 e96 = true := by kernel_rfl
theorem r100 : entOk (envT Tryz.prog 485 415 kmask m100) 100000 e100 = true := by kernel_rfl
theorem r106 : entOk (envT Tryz.prog 485 415 kmask m106) 100000 e106 = true := by kernel_rfl
theorem r110 : entOk (envT Tryz.prog 485 415 kmask m110) 100000 e110 = true := by kernel_rfl
theorem r111 : entOk (envT Tryz.prog 485 415 kmask m111) 100000 e111 = true := by kernel_rfl
theorem r115 : entOk (envT Tryz.prog 485 415 kmask m115) 100000 e115 = true := by kernel_rfl
theorem r117 : entOk (envT Tryz.prog 485 415 kmask m117) 100000 e117 = true := by kernel_rfl
theorem r122 : entOk (envT Tryz.prog 485 415 kmask m122) 100000 e122 = true := by kernel_rfl
theorem r142 : entOk (envT Tryz.prog 485 415 kmask m142) 100000 e142 = true := by kernel_rfl
theorem r149 : entOk (envT Tryz.prog 485 415 kmask m149) 100000 e149 = true := by kernel_rfl
theorem r150 : entOk (envT Tryz.prog 485 415 kmask m150) 100000 e150 = true := by kernel_rfl
theorem r160 : entOk (envT Tryz.prog 485 415 kmask m160) 100000 e160 = true := by kernel_rfl
theorem r164 : entOk (envT Tryz.prog 485 415 kmask m164) 100000 e164 = true := by kernel_rfl
theorem r167 : entOk (envT Tryz.prog 485 415 kmask m167) 100000 e167 = true := by kernel_rfl
end Go.Proofs.YtfkaeegmjcelnaaGreat.Kn
