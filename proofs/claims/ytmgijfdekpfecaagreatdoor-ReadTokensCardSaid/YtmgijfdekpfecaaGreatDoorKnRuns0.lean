/- Calls of Tryz that are known ahead: part 0: the machine's own runs. -/
import Derived.Test.YtmgijfdekpfecaaGreatDoorKnData
import Derived.KernelRfl
import Derived.Test.YtmgijfdekpfecaaGreatDoorProg
namespace Go.Proofs.YtmgijfdekpfecaaGreatDoor.Kn
open Go Am
theorem r1 : entOk (envT Tryz.prog 335 308 kmask m1) 100000 e1 = true := by kernel_rfl
theorem r2 : entOk (envT Tryz.prog 335 308 kmask m2) 100000 e2 = true := by kernel_rfl
theorem r8 : entOk (envT Tryz.prog 335 308 kmask m8) 100000 e8 = true := by kernel_rfl
theorem r9 : entOk (envT Tryz.prog 335 308 kmask m9) 100000 e9 = true := by kernel_rfl
theorem r15 : entOk (envT Tryz.prog 335 308 kmask m15) 100000 e15 = true := by kernel_rfl
theorem r18 : entOk (envT Tryz.prog 335 308 kmask m18) 100000 e18 = true := by kernel_rfl
theorem r22 : entOk (envT Tryz.prog 335 308 kmask m22) 100000 e22 = true := by kernel_rfl
theorem r25 : entOk (envT Tryz.prog 335 308 kmask m25) 100000 e25 = true := by kernel_rfl
theorem r26 : entOk (envT Tryz.prog 335 308 kmask m26) 100000 e26 = true := by kernel_rfl
theorem r36 : entOk (envT Tryz.prog 335 308 kmask m36) 100000 e36 = true := by kernel_rfl
end Go.Proofs.YtmgijfdekpfecaaGreatDoor.Kn
