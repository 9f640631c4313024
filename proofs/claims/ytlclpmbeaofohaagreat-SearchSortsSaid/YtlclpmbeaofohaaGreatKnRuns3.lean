/- Calls of Tryz that are known ahead: part 3: the machine's own runs. -/
import Derived.Test.YtlclpmbeaofohaaGreatKnData
import Derived.KernelRfl
import Derived.Test.YtlclpmbeaofohaaGreatProg
namespace Go.Proofs.YtlclpmbeaofohaaGreat.Kn
open Go Am
theorem r2 : entOk (envT Tryz.prog 392 344 kmask m2) 100000 e2 = true := by kernel_rfl
theorem r4 : entOk (envT Tryz.prog 392 344 kmask m4) 100000 e4 = true := by kernel_rfl
theorem r5 : entOk (envT Tryz.prog 392 344 kmask m5) 100000 e5 = true := by kernel_rfl
theorem r12 : entOk (envT Tryz.prog 392 344 kmask m12) 100000 e12 = true := by kernel_rfl
theorem r14 : entOk (envT Tryz.prog 392 344 kmask m14) 100000 e14 = true := by kernel_rfl
theorem r22 : entOk (envT Tryz.prog 392 344 kmask m22) 100000 e22 = true := by kernel_rfl
theorem r27 : entOk (envT Tryz.prog 392 344 kmask m27) 100000 e27 = true := by kernel_rfl
theorem r28 : entOk (envT Tryz.prog 392 344 kmask m28) 100000 e28 = true := by kernel_rfl
theorem r29 : entOk (envT Tryz.prog 392 344 kmask m29) 100000 e29 = true := by kernel_rfl
theorem r34 : entOk (envT Tryz.prog 392 344 kmask m34) 100000 e34 = true := by kernel_rfl
theorem r41 : entOk (envT Tryz.prog 392 344 kmask m41) 100000 e41 = true := by kernel_rfl
theorem r43 : entOk (envT Tryz.prog 392 344 kmask m43) 100000 e43 = true := by kernel_rfl
theorem r48 : entOk (envT Tryz.prog 392 344 kmask m48) 100000 e48 = true := by kernel_rfl
theorem r50 : entOk (envT Tryz.prog 392 344 kmask m50) 100000 e50 = true := by kernel_rfl
theorem r59 : entOk (envT Tryz.prog 392 344 kmask m59) 100000 e59 = true := by kernel_rfl
theorem r61 : entOk (envT Tryz.prog 392 344 kmask m61) 100000 e61 = true := by kernel_rfl
theorem r63 : entOk (envT Tryz.prog 392 344 kmask m63) 100000 e63 = true := by kernel_rfl
theorem r65 : entOk (envT Tryz.prog 392 344 kmask m65) 100000 e65 = true := by kernel_rfl
theorem r68 : entOk (envT Tryz.prog 392 344 kmask m68) 100000 e68 = true := by kernel_rfl
end Go.Proofs.YtlclpmbeaofohaaGreat.Kn
