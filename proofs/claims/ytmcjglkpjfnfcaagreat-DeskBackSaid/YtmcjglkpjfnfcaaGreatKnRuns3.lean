/- Calls of Tryz that are known ahead: part 3: the machine's own runs. -/
import Derived.Test.YtmcjglkpjfnfcaaGreatKnData
import Derived.KernelRfl
import Derived.Test.YtmcjglkpjfnfcaaGreatProg
namespace Go.Proofs.YtmcjglkpjfnfcaaGreat.Kn
open Go Am
theorem r2 : entOk (envT Tryz.prog 615 528 kmask m2) 100000 e2 = true := by kernel_rfl
theorem r4 : entOk (envT Tryz.prog 615 528 kmask m4) 100000 e4 = true := by kernel_rfl
theorem r10 : entOk (envT Tryz.prog 615 528 kmask m10) 100000 e10 = true := by kernel_rfl
theorem r15 : entOk (envT Tryz.prog 615 528 kmask m15) 100000 e15 = true := by kernel_rfl
theorem r21 : entOk (envT Tryz.prog 615 528 kmask m21) 100000 e21 = true := by kernel_rfl
theorem r25 : entOk (envT Tryz.prog 615 528 kmask m25) 100000 e25 = true := by kernel_rfl
theorem r27 : entOk (envT Tryz.prog 615 528 kmask m27) 100000 e27 = true := by kernel_rfl
theorem r28 : entOk (envT Tryz.prog 615 528 kmask m28) 100000 e28 = true := by kernel_rfl
theorem r31 : entOk (envT Tryz.prog 615 528 kmask m31) 100000 e31 = true := by kernel_rfl
theorem r35 : entOk (envT Tryz.prog 615 528 kmask m35) 100000 e35 = true := by kernel_rfl
theorem r36 : entOk (envT Tryz.prog 615 528 kmask m36) 100000 e36 = true := by kernel_rfl
theorem r46 : entOk (envT Tryz.prog 615 528 kmask m46) 100000 e46 = true := by kernel_rfl
theorem r52 : entOk (envT Tryz.prog 615 528 kmask m52) 100000 e52 = true := by kernel_rfl
theorem r57 : entOk (envT Tryz.prog 615 528 kmask m57) 100000 e57 = true := by kernel_rfl
theorem r59 : entOk (envT Tryz.prog 615 528 kmask m59) 100000 e59 = true := by kernel_rfl
theorem r61 : entOk (envT Tryz.prog 615 528 kmask m61) 100000 e61 = true := by kernel_rfl
theorem r66 : entOk (envT Tryz.prog 615 528 kmask m66) 100000 e66 = true := by kernel_rfl
theorem r68 : entOk (envT Tryz.prog 615 528 kmask m68) 100000 e68 = true := by kernel_rfl
theorem r72 : entOk (envT Tryz.prog 615 528 kmask m72) 100000 e72 = true := by kernel_rfl
end Go.Proofs.YtmcjglkpjfnfcaaGreat.Kn
