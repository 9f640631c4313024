/- Calls of Tryz that are known ahead: part 2: the machine's own runs. -/
import Derived.Test.YtfkaeegmjcelnaaGreatKtData
import Derived.KernelRfl
import Derived.Test.YtfkaeegmjcelnaaGreatProg
namespace Go.Proofs.YtfkaeegmjcelnaaGreat.Kt
open Go Am
theorem r2 : entOk (envT Tryz.prog 485 415 kmask m2) 100000 e2 = true := by kernel_rfl
theorem r3 : entOk (envT Tryz.prog 485 415 kmask m3) 100000 e3 = true := by kernel_rfl
theorem r5 : entOk (envT Tryz.prog 485 415 kmask m5) 100000 e5 = true := by kernel_rfl
theorem r12 : entOk (envT Tryz.prog 485 415 kmask m12) 100000 e12 = true := by kernel_rfl
theorem r13 : entOk (envT Tryz.prog 485 415 kmask m13) 100000 e13 = true := by kernel_rfl
theorem r17 : entOk (envT Tryz.prog 485 415 kmask m17) 100000 e17 = true := by kernel_rfl
theorem r24 : entOk (envT Tryz.prog 485 415 kmask m24) 100000 e24 = true := by kernel_rfl
theorem r26 : entOk (envT Tryz.prog 485 415 kmask m26) 100000 e26 = true := by kernel_rfl
theorem r27 : entOk (envT Tryz.prog 485 415 kmask m27) 100000 e27 = true := by kernel_rfl
theorem r28 : entOk (envT Tryz.prog 485 415 kmask m28) 100000 e28 = true := by kernel_rfl
theorem r32 : entOk (envT Tryz.prog 485 415 kmask m32) 100000 e32 = true := by kernel_rfl
theorem r37 : entOk (envT Tryz.prog 485 415 kmask m37) 100000 e37 = true := by kernel_rfl
theorem r41 : entOk (envT Tryz.prog 485 415 kmask m41) 100000 e41 = true := by kernel_rfl
theorem r51 : entOk (envT Tryz.prog 485 415 kmask m51) 100000 e51 = true := by kernel_rfl
theorem r54 : entOk (envT Tryz.prog 485 415 kmask m54) 100000 e54 = true := by kernel_rfl
theorem r55 : entOk (envT Tryz.prog 485 415 kmask m55) 100000 e55 = true := by kernel_rfl
end Go.Proofs.YtfkaeegmjcelnaaGreat.Kt
