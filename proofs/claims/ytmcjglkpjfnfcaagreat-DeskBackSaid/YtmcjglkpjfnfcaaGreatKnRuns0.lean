/- Calls of Tryz that are known ahead: part 0: the machine's own runs. -/
import Derived.Test.YtmcjglkpjfnfcaaGreatKnData
import Derived.KernelRfl
import Derived.Test.YtmcjglkpjfnfcaaGreatProg
namespace Go.Proofs.YtmcjglkpjfnfcaaGreat.Kn
open Go Am
theorem r3 : entOk (envT Tryz.prog 615 528 kmask m3) 100000 e3 = true := by kernel_rfl
theorem r5 : entOk (envT Tryz.prog 615 528 kmask m5) 100000 e5 = true := by kernel_rfl
theorem r7 : entOk (envT Tryz.prog 615 528 kmask m7) 100000 e7 = true := by kernel_rfl
theorem r9 : entOk (envT Tryz.prog 615 528 kmask m9) 100000 e9 = true := by kernel_rfl
theorem r11 : entOk (envT Tryz.prog 615 528 kmask m11) 100000 e11 = true := by kernel_rfl
theorem r13 : entOk (envT Tryz.prog 615 528 kmask m13) 100000 e13 = true := by kernel_rfl
theorem r14 : entOk (envT Tryz.prog 615 528 kmask m14) 100000 e14 = true := by kernel_rfl
theorem r19 : entOk (envT Tryz.prog 615 528 kmask m19) 100000 e19 = true := by kernel_rfl
theorem r34 : entOk (envT Tryz.prog 615 528 kmask m34) 100000 e34 = true := by kernel_rfl
theorem r38 : entOk (envT Tryz.prog 615 528 kmask m38) 100000 e38 = true := by kernel_rfl
theorem r39 : entOk (envT Tryz.prog 615 528 kmask m39) 100000 e39 = true := by kernel_rfl
theorem r45 : entOk (envT Tryz.prog 615 528 kmask m45) 100000 e45 = true := by kernel_rfl
theorem r47 : entOk (envT Tryz.prog 615 528 kmask m47) 100000 e47 = true := by kernel_rfl
theorem r48 : entOk (envT Tryz.prog 615 528 kmask m48) 100000 e48 = true := by kernel_rfl
theorem r50 : entOk (envT Tryz.prog 615 528 kmask m50) 100000 e50 = true := by kernel_rfl
theorem r53 : entOk (envT Tryz.prog 615 528 kmask m53) 100000 e53 = true := by kernel_rfl
theorem r54 : entOk (envT Tryz.prog 615 528 kmask m54) 100000 e54 = true := by kernel_rfl
theorem r55 : entOk (envT Tryz.prog 615 528 kmask m55) 100000 e55 = true := by kernel_rfl
theorem r58 : entOk (envT Tryz.prog 615 528 kmask m58) 100000 e58 = true := by kernel_rfl
end Go.Proofs.YtmcjglkpjfnfcaaGreat.Kn
