/- Calls of Tryz that are known ahead: part 3: the machine's own runs. -/
import Derived.Test.YtfkaeegmjcelnaaGreatKtData
import Derived.KernelRfl
import Derived.Test.YtfkaeegmjcelnaaGreatProg
namespace Go.Proofs.YtfkaeegmjcelnaaGreat.Kt
open Go Am
theorem r4 : entOk (envT Tryz.prog 485 415 kmask m4) 100000 e4 = true := by kernel_rfl
theorem r8 : entOk (envT Tryz.prog 485 415 kmask m8) 100000 e8 = true := by kernel_rfl
theorem r14 : entOk (envT Tryz.prog 485 415 kmask m14) 100000 e14 = true := by kernel_rfl
theorem r20 : entOk (envT Tryz.prog 485 415 kmask m20) 100000 e20 = true := by kernel_rfl
theorem r21 : entOk (envT Tryz.prog 485 415 kmask m21) 100000 e21 = true := by kernel_rfl
theorem r22 : entOk (envT Tryz.prog 485 415 kmask m22) 100000 e22 = true := by kernel_rfl
theorem r23 : entOk (envT Tryz.prog 485 415 kmask m23) 100000 e23 = true := by kernel_rfl
theorem r38 : entOk (envT Tryz.prog 485 415 kmask m38) 100000 e38 = true := by kernel_rfl
theorem r39 : entOk (envT Tryz.prog 485 415 kmask m39) 100000 e39 = true := by kernel_rfl
theorem r40 : entOk (envT Tryz.prog 485 415 kmask m40) 100000 e40 = true := by kernel_rfl
theorem r43 : entOk (envT Tryz.prog 485 415 kmask m43) 100000 e43 = true := by kernel_rfl
theorem r44 : entOk (envT Tryz.prog 485 415 kmask m44) 100000 e44 = true := by kernel_rfl
theorem r45 : entOk (envT Tryz.prog 485 415 kmask m45) 100000 e45 = true := by kernel_rfl
theorem r48 : entOk (envT Tryz.prog 485 415 kmask m48) 100000 e48 = true := by kernel_rfl
theorem r50 : entOk (envT Tryz.prog 485 415 kmask m50) 100000 e50 = true := by kernel_rfl
end Go.Proofs.YtfkaeegmjcelnaaGreat.Kt
