/- Calls of Tryz that are known ahead: part 2: the machine's own runs. -/
import Derived.Test.YtmgijfdekpfecaaGreatDoorKnData
import Derived.KernelRfl
import Derived.Test.YtmgijfdekpfecaaGreatDoorProg
namespace Go.Proofs.YtmgijfdekpfecaaGreatDoor.Kn
open Go Am
theorem r3 : entOk (envT Tryz.prog 335 308 kmask m3) 100000 e3 = true := by kernel_rfl
theorem r12 : entOk (envT Tryz.prog 335 308 kmask m12) 100000 e12 = true := by kernel_rfl
theorem r17 : entOk (envT Tryz.prog 335 308 kmask m17) 100000 e17 = true := by kernel_rfl
theorem r19 : entOk (envT Tryz.prog 335 308 kmask m19) 100000 e19 = true := by kernel_rfl
theorem r21 : entOk (envT Tryz.prog 335 308 kmask m21) 100000 e21 = true := by kernel_rfl
theorem r28 : entOk (envT Tryz.prog 335 308 kmask m28) 100000 e28 = true := by kernel_rfl
theorem r33 : entOk (envT Tryz.prog 335 308 kmask m33) 100000 e33 = true := by kernel_rfl
theorem r35 : entOk (envT Tryz.prog 335 308 kmask m35) 100000 e35 = true := by kernel_rfl
theorem r38 : entOk (envT Tryz.prog 335 308 kmask m38) 100000 e38 = true := by kernel_rfl
theorem r39 : entOk (envT Tryz.prog 335 308 kmask m39) 100000 e39 = true := by kernel_rfl
end Go.Proofs.YtmgijfdekpfecaaGreatDoor.Kn
