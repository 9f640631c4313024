/- Calls of Tryz that are known ahead: part 1: the machine's own runs. -/
import Derived.Test.YtmgijfdekpfecaaGreatDoorKnData
import Derived.KernelRfl
import Derived.Test.YtmgijfdekpfecaaGreatDoorProg
namespace Go.Proofs.YtmgijfdekpfecaaGreatDoor.Kn
open Go Am
theorem r5 : entOk (envT Tryz.prog 335 308 kmask m5) 100000 e5 = true := by kernel_rfl
theorem r6 : entOk (envT Tryz.prog 335 308 kmask m6) 100000 e6 = true := by kernel_rfl
theorem r7 : entOk (envT Tryz.prog 335 308 kmask m7) 100000 e7 = true := by kernel_rfl
theorem r11 : entOk (envT Tryz.prog 335 308 kmask m11) 100000 e11 = true := by kernel_rfl
theorem r23 : entOk (envT Tryz.prog 335 308 kmask m23) 100000 e23 = true := by kernel_rfl
theorem r24 : entOk (envT Tryz.prog 335 308 kmask m24) 100000 e24 = true := by kernel_rfl
theorem r29 : entOk (envT Tryz.prog 335 308 kmask m29) 100000 e29 = true := by kernel_rfl
theorem r30 : entOk (envT Tryz.prog 335 308 kmask m30) 100000 e30 = true := by kernel_rfl
theorem r32 : entOk (envT Tryz.prog 335 308 kmask m32) 100000 e32 = true := by kernel_rfl
theorem r37 : entOk (envT Tryz.prog 335 308 kmask m37) 100000 e37 = true := by kernel_rfl
end Go.Proofs.YtmgijfdekpfecaaGreatDoor.Kn
