/- Calls of Tryz that are known ahead: part 1: the machine's own runs. -/
import Derived.Test.YtmmbnekeoidfnaaGreatKnData
import Derived.KernelRfl
import Derived.Test.YtmmbnekeoidfnaaGreatProg
namespace Go.Proofs.YtmmbnekeoidfnaaGreat.Kn
open Go Am
theorem r7 : entOk (envT Tryz.prog 504 544 kmask m7) 100000 e7 = true := by kernel_rfl
theorem r14 : entOk (envT Tryz.prog 504 544 kmask m14) 100000 e14 = true := by kernel_rfl
theorem r16 : entOk (envT Tryz.prog 504 544 kmask m16) 100000 e16 = true := by kernel_rfl
theorem r17 : entOk (envT Tryz.prog 504 544 kmask m17) 100000 e17 = true := by kernel_rfl
theorem r19 : entOk (envT Tryz.prog 504 544 kmask m19) 100000 e19 = true := by kernel_rfl
theorem r28 : entOk (envT Tryz.prog 504 544 kmask m28) 100000 e28 = true := by kernel_rfl
theorem r36 : entOk (envT Tryz.prog 504 544 kmask m36) 100000 e36 = true := by kernel_rfl
theorem r38 : entOk (envT Tryz.prog 504 544 kmask m38) 100000 e38 = true := by kernel_rfl
theorem r42 : entOk (envT Tryz.prog 504 544 kmask m42) 100000 e42 = true := by kernel_rfl
theorem r47 : entOk (envT Tryz.prog 504 544 kmask m47) 100000 e47 = true := by kernel_rfl
theorem r48 : entOk (envT Tryz.prog 504 544 kmask m48) 100000 e48 = true := by kernel_rfl
theorem r51 : entOk (envT Tryz.prog 504 544 kmask m51) 100000 e51 = true := by kernel_rfl
theorem r52 : entOk (envT Tryz.prog 504 544 kmask m52) 100000 e52 = true := by kernel_rfl
theorem r53 : entOk (envT Tryz.prog 504 544 kmask m53) 100000 e53 = true := by kernel_rfl
theorem r59 : entOk (envT Tryz.prog 504 544 kmask m59) 100000 e59 = true := by kernel_rfl
theorem r60 : entOk (envT Tryz.prog 504 544 kmask m60) 100000 e60 = true := by kernel_rfl
theorem r68 : entOk (envT Tryz.prog 504 544 kmask m68) 100000 e68 = true := by kernel_rfl
theorem r69 : entOk (envT Tryz.prog 504 544 kmask m69) 100000 e69 = true := by kernel_rfl
theorem r74 : entOk (envT Tryz.prog 504 544 kmask m74) 100000 e74 = true := by kernel_rfl
end Go.Proofs.YtmmbnekeoidfnaaGreat.Kn
