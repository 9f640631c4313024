/- Calls of Tryz that are known ahead: part 0: the machine's own runs. -/
import Derived.Test.YtlclpmbeaofohaaGreatKnData
import Derived.KernelRfl
import Derived.Test.YtlclpmbeaofohaaGreatProg
namespace Go.Proofs.YtlclpmbeaofohaaGreat.Kn
open Go Am
theorem r7 : entOk (envT Tryz.prog 392 344 kmask m7) 100000 e7 = true := by kernel_rfl
theorem r15 : entOk (envT Tryz.prog 392 344 kmask m15) 100000 e15 = true := by kernel_rfl
theorem r16 : entOk (envT Tryz.prog 392 344 kmask m16) 100000 e16 = true := by kernel_rfl
theorem r19 : entOk (envT Tryz.prog 392 344 kmask m19) 100000 e19 = true := by kernel_rfl
theorem r21 : entOk (envT Tryz.prog 392 344 kmask m21) 100000 e21 = true := by kernel_rfl
theorem r36 : entOk (envT Tryz.prog 392 344 kmask m36) 100000 e36 = true := by kernel_rfl
theorem r38 : entOk (envT Tryz.prog 392 344 kmask m38) 100000 e38 = true := by kernel_rfl
theorem r40 : entOk (envT Tryz.prog 392 344 kmask m40) 100000 e40 = true := by kernel_rfl
theorem r45 : entOk (envT Tryz.prog 392 344 kmask m45) 100000 e45 = true := by kernel_rfl
theorem r46 : entOk (envT Tryz.prog 392 344 kmask m46) 100000 e46 = true := by kernel_rfl
theorem r52 : entOk (envT Tryz.prog 392 344 kmask m52) 100000 e52 = true := by kernel_rfl
theorem r54 : entOk (envT Tryz.prog 392 344 kmask m54) 100000 e54 = true := by kernel_rfl
theorem r56 : entOk (envT Tryz.prog 392 344 kmask m56) 100000 e56 = true := by kernel_rfl
theorem r57 : entOk (envT Tryz.prog 392 344 kmask m57) 100000 e57 = true := by kernel_rfl
theorem r58 : entOk (envT Tryz.prog 392 344 kmask m58) 100000 e58 = true := by kernel_rfl
theorem r60 : entOk (envT Tryz.prog 392 344 kmask m60) 100000 e60 = true := by kernel_rfl
theorem r67 : entOk (envT Tryz.prog 392 344 kmask m67) 100000 e67 = true := by kernel_rfl
theorem r70 : entOk (envT Tryz.prog 392 344 kmask m70) 100000 e70 = true := by kernel_rfl
end Go.Proofs.YtlclpmbeaofohaaGreat.Kn
