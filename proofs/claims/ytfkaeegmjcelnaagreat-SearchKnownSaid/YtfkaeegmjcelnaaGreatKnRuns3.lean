/- Calls of Tryz that are known ahead: part 3: the machine's own runs. -/
import Derived.Test.YtfkaeegmjcelnaaGreatKnData
import Derived.KernelRfl
import Derived.Test.YtfkaeegmjcelnaaGreatProg
namespace Go.Proofs.YtfkaeegmjcelnaaGreat.Kn
open Go Am
theorem r2 : entOk (envT Tryz.prog 485 415 kmask m2) 100000 e2 = true := by kernel_rfl
theorem r6 : entOk (envT Tryz.prog 485 415 kmask m6) 100000 e6 = true := by kernel_rfl
theorem r10 : entOk (envT Tryz.prog 485 415 kmask m10) 100000 e10 = true := by kernel_rfl
theorem r12 : entOk (envT Tryz.prog 485 415 kmask m12) 100000 e12 = true := by kernel_rfl
theorem r19 : entOk (envT Tryz.prog 485 415 kmask m19) 100000 e19 = true := by kernel_rfl
theorem r21 : entOk (envT Tryz.prog 485 415 kmask m21) 100000 e21 = true := by kernel_rfl
theorem r26 : entOk (envT Tryz.prog 485 415 kmask m26) 100000 e26 = true := by kernel_rfl
theorem r32 : entOk (envT Tryz.prog 485 415 kmask m32) 100000 e32 = true := by kernel_rfl
theorem r35 : entOk (envT Tryz.prog 485 415 kmask m35) 100000 e35 = true := by kernel_rfl
theorem r37 : entOk (envT Tryz.prog 485 415 kmask m37) 100000 e37 = true := by kernel_rfl
theorem r44 : entOk (envT Tryz.prog 485 415 kmask m44) 100000 e44 = true := by kernel_rfl
theorem r45 : entOk (envT Tryz.prog 485 415 kmask m45) 100000 e45 = true := by kernel_rfl
theorem r49 : entOk (envT Tryz.prog 485 415 kmask m49) 100000 e49 = true := by kernel_rfl
theorem r51 : entOk (envT Tryz.prog 485 415 kmask m51) 100000 e51 = true := by kernel_rfl
theorem r56 : entOk (envT Tryz.prog 485 415 kmask m56) 100000 e56 = true := by kernel_rfl
theorem r68 : entOk (envT Tryz.prog 485 415 kmask m68) 100000 e68 = true := by kernel_rfl
theorem r82 : entOk (envT Tryz.prog 485 415 kmask m82) 100000 e82 = true := by kernel_rfl
theorem r84 : entOk (envT Tryz.prog 485 415 kmask m84) 100000 e84 = true := by kernel_rfl
theorem r87 : entOk (envT Tryz.prog 485 415 kmask m87) 100000 e87 = true := by kernel_rfl
theorem r88 : entOk (envT Tryz.prog 485 415 kmask m88) 100000 e88 = true := by kernel_rfl
theorem r97 : entOk (envT Tryz.prog 485 415 kmask m97) 100000 e97 = true := by kernel_rfl
theorem r98 : entOk (envT Tryz.prog 485 415 kmask m98) 100000 e98 = true := by kernel_rfl
theorem r99 : entOk (envT Tryz.prog 485 415 kmask m99) 100000 e99 = true := by kernel_rfl
theorem r105 : entOk (envT Tryz.prog 485 415 kmask m105) 100000 e105 = true := by kernel_rfl
theorem r107 : entOk (envT Tryz.prog 485 415 kmask m107) 100000 e107 = true := by kernel_rfl
theorem r108 : entOk (envT Tryz.prog 485 415 kmask m108) 100000 e108 = true := by kernel_rfl
theorem r112 : entOk (envT Tryz.prog 485 415 kmask m112) 100000 e112 = true := by kernel_rfl
theorem r113 : entOk (envT Tryz.prog 485 415 kmask m113) 100000 e113 = true := by kernel_rfl
theorem r116 : entOk (envT Tryz.prog 485 415 kmask m116) 100000 e116 = true := by kernel_rfl
theorem r119 : entOk (envT Tryz.prog 485 415 kmask m119) 100000 e119 = true := by kernel_rfl
theorem r126 : entOk (envT Tryz.prog 485 415 kmask m126) 100000 e126 = true := by kernel_rfl
theorem r133 : entOk (envT Tryz.prog 485 415 kmask m133) 100000 e133 = true := by kernel_rfl
theorem r136 : entOk (envT Tryz.prog 485 415 kmask m136) 100000 e136 = true := by kernel_rfl
theorem r137 : entOk (envT Tryz.prog 485 415 kmask m137) 100000 e137 = true := by kernel_rfl
theorem r139 : entOk (envT Tryz.prog 485 415 kmask m139) 100000 e139 = true := by kernel_rfl
theorem r140 : entOk (envT Tryz.prog 485 415 kmask m140) 100000 e140 = true := by kernel_rfl
theorem r146 : entOk (envT Tryz.prog 485 415 kmask m146) 100000 e146 = true := by kernel_rfl
theorem r148 : entOk (envT Tryz.prog 485 415 kmask m148) 100000 e148 = true := by kernel_rfl
theorem r157 : entOk (envT Tryz.prog 485 415 kmask m157) 100000 e157 = true := by kernel_rfl
theorem r158 : entOk (envT Tryz.prog 485 415 kmask m158) 100000 e158 = true := by kernel_rfl
theorem r161 : entOk (envT Tryz.prog 485 415 kmask m161) 100000 e161 = true := by kernel_rfl
theorem r162 : entOk (envT Tryz.prog 485 415 kmask m162) 100000 e162 = true := by kernel_rfl
end Go.Proofs.YtfkaeegmjcelnaaGreat.Kn
