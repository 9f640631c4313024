/- Calls of Tryz that are known ahead: part 0: the machine's own runs. -/
import Derived.Test.YtfkaeegmjcelnaaGreatKtData
import Derived.KernelRfl
import Derived.Test.YtfkaeegmjcelnaaGreatProg
namespace Go.Proofs.YtfkaeegmjcelnaaGreat.Kt
open Go Am
theorem r0 : entOk (envT Tryz.prog 485 415 kmask m0) 100000 e0 = true := by kernel_rfl
theorem r7 : entOk (envT Tryz.prog 485 415 kmask m7) 100000 e7 = true := by kernel_rfl
theorem r10 : entOk (envT Tryz.prog 485 415 kmask m10) 100000 e10 = true := by kernel_rfl
theorem r18 : entOk (envT Tryz.prog 485 415 kmask m18) 100000 e18 = true := by kernel_rfl
theorem r19 : entOk (envT Tryz.prog 485 415 kmask m19) 100000 e19 = true := by kernel_rfl
theorem r25 : entOk (envT Tryz.prog 485 415 kmask m25) 100000 e25 = true := by kernel_rfl
theorem r30 : entOk (envT Tryz.prog 485 415 kmask m30) 100000 e30 = true := by kernel_rfl
theorem r33 : entOk (envT Tryz.prog 485 415 kmask m33) 100000 e33 = true := by kernel_rfl
theorem r35 : entOk (envT Tryz.prog 485 415 kmask m35) 100000 e35 = true := by kernel_rfl
theorem r42 : entOk (envT Tryz.prog 485 415 kmask m42) 100000 e42 = true := by kernel_rfl
theorem r49 : entOk (envT Tryz.prog 485 415 kmask m49) 100000 e49 = true := by kernel_rfl
theorem r53 : entOk (envT Tryz.prog 485 415 kmask m53) 100000 e53 = true := by kernel_rfl
theorem r57 : entOk (envT Tryz.prog 485 415 kmask m57) 100000 e57 = true := by kernel_rfl
theorem r58 : entOk (envT Tryz.prog 485 415 kmask m58) 100000 e58 = true := by kernel_rfl
theorem r61 : entOk (envT Tryz.prog 485 415 kmask m61) 100000 e61 = true := by kernel_rfl
end Go.Proofs.YtfkaeegmjcelnaaGreat.Kt
