/- Calls of Tryz that are known ahead: part 1: the machine's own runs. -/
import Derived.Test.YtlclpmbeaofohaaGreatKnData
import Derived.KernelRfl
import Derived.Test.YtlclpmbeaofohaaGreatProg
namespace Go.Proofs.YtlclpmbeaofohaaGreat.Kn
open Go Am
theorem r8 : entOk (envT Tryz.prog 392 344 kmask m8) 100000 e8 = true := by kernel_rfl
theorem r9 : entOk (envT Tryz.prog 392 344 kmask m9) 100000 e9 = true := by kernel_rfl
theorem r17 : entOk (envT Tryz.prog 392 344 kmask m17) 100000 e17 = true := by kernel_rfl
theorem r18 : entOk (envT Tryz.prog 392 344 kmask m18) 100000 e18 = true := by kernel_rfl
theorem r20 : entOk (envT Tryz.prog 392 344 kmask m20) 100000 e20 = true := by kernel_rfl
theorem r24 : entOk (envT Tryz.prog 392 344 kmask m24) 100000 e24 = true := by kernel_rfl
theorem r25 : entOk (envT Tryz.prog 392 344 kmask m25) 100000 e25 = true := by kernel_rfl
theorem r26 : entOk (envT Tryz.prog 392 344 kmask m26) 100000 e26 = true := by kernel_rfl
theorem r30 : entOk (envT Tryz.prog 392 344 kmask m30) 100000 e30 = true := by kernel_rfl
theorem r31 : entOk (envT Tryz.prog 392 344 kmask m31) 100000 e31 = true := by kernel_rfl
theorem r35 : entOk (envT Tryz.prog 392 344 kmask m35) 100000 e35 = true := by kernel_rfl
theorem r44 : entOk (envT Tryz.prog 392 344 kmask m44) 100000 e44 = true := by kernel_rfl
theorem r49 : entOk (envT Tryz.prog 392 344 kmask m49) 100000 e49 = true := by kernel_rfl
theorem r53 : entOk (envT Tryz.prog 392 344 kmask m53) 100000 e53 = true := by kernel_rfl
theorem r55 : entOk (envT Tryz.prog 392 344 kmask m55) 100000 e55 = true := by kernel_rfl
theorem r64 : entOk (envT Tryz.prog 392 344 kmask m64) 100000 e64 = true := by kernel_rfl
theorem r66 : entOk (envT Tryz.prog 392 344 kmask m66) 100000 e66 = true := by kernel_rfl
theorem r72 : entOk (envT Tryz.prog 392 344 kmask m72) 100000 e72 = true := by kernel_rfl
end Go.Proofs.YtlclpmbeaofohaaGreat.Kn
