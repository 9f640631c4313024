/- Calls of Tryz that are known ahead: part 3: the machine's own runs. -/
import Derived.Test.YtmgijfdekpfecaaGreatDoorKnData
import Derived.KernelRfl
import Derived.Test.YtmgijfdekpfecaaGreatDoorProg
namespace Go.Proofs.YtmgijfdekpfecaaGreatDoor.Kn
open Go Am
theorem r0 : entOk (envT Tryz.prog 335 308 kmask m0) 100000 e0 = true := by kernel_rfl
theorem r4 : entOk (envT Tryz.prog 335 308 kmask m4) 100000 e4 = true := by kernel_rfl
theorem r10 : entOk (envT Tryz.prog 335 308 kmask m10) 100000 e10 = true := by kernel_rfl
theorem r13 : entOk (envT Tryz.prog 335 308 kmask m13) 100000 e13 = true := by kernel_rfl
theorem r14 : entOk (envT Tryz.prog 335 308 kmask m14) 100000 e14 = true := by kernel_rfl
theorem r16 : entOk (envT Tryz.prog 335 308 kmask m16) 100000 e16 = true := by kernel_rfl
theorem r20 : entOk (envT Tryz.prog 335 308 kmask m20) 100000 e20 = true := by kernel_rfl
theorem r27 : entOk (envT Tryz.prog 335 308 kmask m27) 100000 e27 = true := by kernel_rfl
theorem r31 : entOk (envT Tryz.prog 335 308 kmask m31) 100000 e31 = true := by kernel_rfl
theorem r34 : entOk (envT Tryz.prog 335 308 kmask m34) 100000 e34 = true := by kernel_rfl
end Go.Proofs.YtmgijfdekpfecaaGreatDoor.Kn
