/- Calls of Tryz that are known ahead: part 1: the machine's own runs. -/
import Derived.Test.YtfkaeegmjcelnaaGreatKtData
import Derived.KernelRfl
import Derived.Test.YtfkaeegmjcelnaaGreatProg
namespace Go.Proofs.YtfkaeegmjcelnaaGreat.Kt
open Go Am
theorem r1 : entOk (envT Tryz.prog 485 415 kmask m1) 100000 e1 = true := by kernel_rfl
theorem r6 : entOk (envT Tryz.prog 485 415 kmask m6) 100000 e6 = true := by kernel_rfl
theorem r9 : entOk (envT Tryz.prog 485 415 kmask m9) 100000 e9 = true := by kernel_rfl
theorem r11 : entOk (envT Tryz.prog 485 415 kmask m11) 100000 e11 = true := by kernel_rfl
theorem r15 : entOk (envT Tryz.prog 485 415 kmask m15) 100000 e15 = true := by kernel_rfl
theorem r16 : entOk (envT Tryz.prog 485 415 kmask m16) 100000 e16 = true := by kernel_rfl
theorem r29 : entOk (envT Tryz.prog 485 415 kmask m29) 100000 e29 = true := by kernel_rfl
theorem r31 : entOk (envT Tryz.prog 485 415 kmask m31) 100000 e31 = true := by kernel_rfl
theorem r34 : entOk (envT Tryz.prog 485 415 kmask m34) 100000 e34 = true := by kernel_rfl
theorem r36 : entOk (envT Tryz.prog 485 415 kmask m36) 100000 e36 = true := by kernel_rfl
theorem r46 : entOk (envT Tryz.prog 485 415 kmask m46) 100000 e46 = true := by kernel_rfl
theorem r47 : entOk (envT Tryz.prog 485 415 kmask m47) 100000 e47 = true := by kernel_rfl
theorem r52 : entOk (envT Tryz.prog 485 415 kmask m52) 100000 e52 = true := by kernel_rfl
theorem r56 : entOk (envT Tryz.prog 485 415 kmask m56) 100000 e56 = true := by kernel_rfl
theorem r59 : entOk (envT Tryz.prog 485 415 kmask m59) 100000 e59 = true := by kernel_rfl
theorem r60 : entOk (envT Tryz.prog 485 415 kmask m60) 100000 e60 = true := by kernel_rfl
end Go.Proofs.YtfkaeegmjcelnaaGreat.Kt
