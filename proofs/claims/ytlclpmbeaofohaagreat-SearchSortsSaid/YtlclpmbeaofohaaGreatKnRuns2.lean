/- Calls of Tryz that are known ahead: part 2: the machine's own runs. -/
import Derived.Test.YtlclpmbeaofohaaGreatKnData
import Derived.KernelRfl
import Derived.Test.YtlclpmbeaofohaaGreatProg
namespace Go.Proofs.YtlclpmbeaofohaaGreat.Kn
open Go Am
theorem r0 : entOk (envT Tryz.prog 392 344 kmask m0) 100000 e0 = true := by kernel_rfl
theorem r1 : entOk (envT Tryz.prog 392 344 kmask m1) 100000 e1 = true := by kernel_rfl
theorem r3 : entOk (envT Tryz.prog 392 344 kmask m3) 100000 e3 = true := by kernel_rfl
theorem r6 : entOk (envT Tryz.prog 392 344 kmask m6) 100000 e6 = true := by kernel_rfl
theorem r10 : entOk (envT Tryz.prog 392 344 kmask m10) 100000 e10 = true := by kernel_rfl
theorem r11 : entOk (envT Tryz.prog 392 344 kmask m11) 100000 e11 = true := by kernel_rfl
theorem r13 : entOk (envT Tryz.prog 392 344 kmask m13) 100000 e13 = true := by kernel_rfl
theorem r23 : entOk (envT Tryz.prog 392 344 kmask m23) 100000 e23 = true := by kernel_rfl
theorem r32 : entOk (envT Tryz.prog 392 344 kmask m32) 100000 e32 = true := by kernel_rfl
theorem r33 : entOk (envT Tryz.prog 392 344 kmask m33) 100000 e33 = true := by kernel_rfl
theorem r37 : entOk (envT Tryz.prog 392 344 kmask m37) 100000 e37 = true := by kernel_rfl
theorem r39 : entOk (envT Tryz.prog 392 344 kmask m39) 100000 e39 = true := by kernel_rfl
theorem r42 : entOk (envT Tryz.prog 392 344 kmask m42) 100000 e42 = true := by kernel_rfl
theorem r47 : entOk (envT Tryz.prog 392 344 kmask m47) 100000 e47 = true := by kernel_rfl
theorem r51 : entOk (envT Tryz.prog 392 344 kmask m51) 100000 e51 = true := by kernel_rfl
theorem r62 : entOk (envT Tryz.prog 392 344 kmask m62) 100000 e62 = true := by kernel_rfl
theorem r69 : entOk (envT Tryz.prog 392 344 kmask m69) 100000 e69 = true := by kernel_rfl
theorem r71 : entOk (envT Tryz.prog 392 344 kmask m71) 100000 e71 = true := by kernel_rfl
end Go.Proofs.YtlclpmbeaofohaaGreat.Kn
