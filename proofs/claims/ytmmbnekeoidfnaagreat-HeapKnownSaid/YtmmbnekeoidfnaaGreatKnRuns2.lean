/- Calls of Tryz that are known ahead: part 2: the machine's own runs. -/
import Derived.Test.YtmmbnekeoidfnaaGreatKnData
import Derived.KernelRfl
import Derived.Test.YtmmbnekeoidfnaaGreatProg
namespace Go.Proofs.YtmmbnekeoidfnaaGreat.Kn
open Go Am
theorem r2 : entOk (envT Tryz.prog 504 544 kmask m2) 100000 e2 = true := by kernel_rfl
theorem r4 : entOk (envT Tryz.prog 504 544 kmask m4) 100000 e4 = true := by kernel_rfl
theorem r5 : entOk (envT Tryz.prog 504 544 kmask m5) 100000 e5 = true := by kernel_rfl
theorem r9 : entOk (envT Tryz.prog 504 544 kmask m9) 100000 e9 = true := by kernel_rfl
theorem r12 : entOk (envT Tryz.prog 504 544 kmask m12) 100000 e12 = true := by kernel_rfl
theorem r20 : entOk (envT Tryz.prog 504 544 kmask m20) 100000 e20 = true := by kernel_rfl
theorem r27 : entOk (envT Tryz.prog 504 544 kmask m27) 100000 e27 = true := by kernel_rfl
theorem r30 : entOk (envT Tryz.prog 504 544 kmask m30) 100000 e30 = true := by kernel_rfl
theorem r35 : entOk (envT Tryz.prog 504 544 kmask m35) 100000 e35 = true := by kernel_rfl
theorem r37 : entOk (envT Tryz.prog 504 544 kmask m37) 100000 e37 = true := by kernel_rfl
theorem r39 : entOk (envT Tryz.prog 504 544 kmask m39) 100000 e39 = true := by kernel_rfl
theorem r41 : entOk (envT Tryz.prog 504 544 kmask m41) 100000 e41 = true := by kernel_rfl
theorem r45 : entOk (envT Tryz.prog 504 544 kmask m45) 100000 e45 = true := by kernel_rfl
theorem r50 : entOk (envT Tryz.prog 504 544 kmask m50) 100000 e50 = true := by kernel_rfl
theorem r57 : entOk (envT Tryz.prog 504 544 kmask m57) 100000 e57 = true := by kernel_rfl
theorem r63 : entOk (envT Tryz.prog 504 544 kmask m63) 100000 e63 = true := by kernel_rfl
theorem r64 : entOk (envT Tryz.prog 504 544 kmask m64) 100000 e64 = true := by kernel_rfl
theorem r67 : entOk (envT Tryz.prog 504 544 kmask m67) 100000 e67 = true := by kernel_rfl
theorem r71 : entOk (envT Tryz.prog 504 544 kmask m71) 100000 e71 = true := by kernel_rfl
theorem r73 : entOk (envT Tryz.prog 504 544 kmask m73) 100000 e73 = true := by kernel_rfl
end Go.Proofs.YtmmbnekeoidfnaaGreat.Kn
