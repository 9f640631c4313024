/- Calls of Tryz that are known ahead: part 1: the machine's own runs. -/
import Derived.Test.YtmcjglkpjfnfcaaGreatKnData
import Derived.KernelRfl
import Derived.Test.YtmcjglkpjfnfcaaGreatProg
namespace Go.Proofs.YtmcjglkpjfnfcaaGreat.Kn
open Go Am
theorem r0 : entOk (envT Tryz.prog 615 528 kmask m0) 100000 e0 = true := by kernel_rfl
theorem r16 : entOk (envT Tryz.prog 615 528 kmask m16) 100000 e16 = true := by kernel_rfl
theorem r17 : entOk (envT Tryz.prog 615 528 kmask m17) 100000 e17 = true := by kernel_rfl
theorem r18 : entOk (envT Tryz.prog 615 528 kmask m18) 100000 e18 = true := by kernel_rfl
theorem r23 : entOk (envT Tryz.prog 615 528 kmask m23) 100000 e23 = true := by kernel_rfl
theorem r30 : entOk (envT Tryz.prog 615 528 kmask m30) 100000 e30 = true := by kernel_rfl
theorem r37 : entOk (envT Tryz.prog 615 528 kmask m37) 100000 e37 = true := by kernel_rfl
theorem r42 : entOk (envT Tryz.prog 615 528 kmask m42) 100000 e42 = true := by kernel_rfl
theorem r43 : entOk (envT Tryz.prog 615 528 kmask m43) 100000 e43 = true := by kernel_rfl
theorem r44 : entOk (envT Tryz.prog 615 528 kmask m44) 100000 e44 = true := by kernel_rfl
theorem r49 : entOk (envT Tryz.prog 615 528 kmask m49) 100000 e49 = true := by kernel_rfl
theorem r51 : entOk (envT Tryz.prog 615 528 kmask m51) 100000 e51 = true := by kernel_rfl
theorem r56 : entOk (envT Tryz.prog 615 528 kmask m56) 100000 e56 = true := by kernel_rfl
theorem r60 : entOk (envT Tryz.prog 615 528 kmask m60) 100000 e60 = true := by kernel_rfl
theorem r63 : entOk (envT Tryz.prog 615 528 kmask m63) 100000 e63 = true := by kernel_rfl
theorem r67 : entOk (envT Tryz.prog 615 528 kmask m67) 100000 e67 = true := by kernel_rfl
theorem r71 : entOk (envT Tryz.prog 615 528 kmask m71) 100000 e71 = true := by kernel_rfl
theorem r73 : entOk (envT Tryz.prog 615 528 kmask m73) 100000 e73 = true := by kernel_rfl
theorem r74 : entOk (envT Tryz.prog 615 528 kmask m74) 100000 e74 = true := by kernel_rfl
end Go.Proofs.YtmcjglkpjfnfcaaGreat.Kn
