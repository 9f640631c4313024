/- Calls of Tryz that are known ahead: part 0: the machine's own runs. -/
import Derived.Test.YtfkaeegmjcelnaaGreatKnData
import Derived.KernelRfl
import Derived.Test.YtfkaeegmjcelnaaGreatProg
namespace Go.Proofs.YtfkaeegmjcelnaaGreat.Kn
open Go Am
theorem r1 : entOk (envT Tryz.prog 485 415 kmask m1) 100000 e1 = true := by kernel_rfl
theorem r4 : entOk (envT Tryz.prog 485 415 kmask m4) 100000 e4 = true := by kernel_rfl
theorem r11 : entOk (envT Tryz.prog 485 415 kmask m11) 100000 e11 = true := by kernel_rfl
theorem r18 : entOk (envT Tryz.prog 485 415 kmask m18) 100000 e18 = true := by kernel_rfl
theorem r23 : entOk (envT Tryz.prog 485 415 kmask m23) 100000 e23 = true := by kernel_rfl
theorem r25 : entOk (envT Tryz.prog 485 415 kmask m25) 100000 e25 = true := by kernel_rfl
theorem r28 : entOk (envT Tryz.prog 485 415 kmask m28) 100000 e28 = true := by kernel_rfl
theorem r34 : entOk (envT Tryz.prog 485 415 kmask m34) 100000 e34 = true := by kernel_rfl
theorem r42 : entOk (envT Tryz.prog 485 415 kmask m42) 100000 e42 = true := by kernel_rfl
theorem r47 : entOk (envT Tryz.prog 485 415 kmask m47) 100000 e47 = true := by kernel_rfl
theorem r48 : entOk (envT Tryz.prog 485 415 kmask m48) 100000 e48 = true := by kernel_rfl
theorem r53 : entOk (envT Tryz.prog 485 415 kmask m53) 100000 e53 = true := by kernel_rfl
theorem r55 : entOk (envT Tryz.prog 485 415 kmask m55) 100000 e55 = true := by kernel_rfl
theorem r59 : entOk (envT Tryz.prog 485 415 kmask m59) 100000 e59 = true := by kernel_rfl
theorem r60 : entOk (envT Tryz.prog 485 415 kmask m60) 100000 e60 = true := by kernel_rfl
theorem r62 : entOk (envT Tryz.prog 485 415 kmask m62) 100000 e62 = true := by kernel_rfl
theorem r74 : entOk (envT Tryz.prog 485 415 kmask m74) 100000 e74 = true := by kernel_rfl
theorem r75 : entOk (envT Tryz.prog 485 415 kmask m75) 100000 e75 = true := by kernel_rfl
theorem r80 : entOk (envT Tryz.prog 485 415 kmask m80) 100000 e80 = true := by kernel_rfl
theorem r90 : entOk (envT Tryz.prog 485 415 kmask m90) 100000 e90 = true := by kernel_rfl
theorem r95 : entOk (envT Tryz.prog 485 415 kmask m95) 100000 e95 = true := by kernel_rfl
theorem r103 : entOk (envT Tryz.prog 485 415 kmask m103) 100000 e103 = true := by kernel_rfl
theorem r109 : entOk (envT Tryz.prog 485 415 kmask m109) 100000 e109 = true := by kernel_rfl
theorem r114 : entOk (envT Tryz.prog 485 415 kmask m114) 100000 e114 = true := by kernel_rfl
theorem r118 : entOk (envT Tryz.prog 485 415 kmask m118) 100000 e118 = true := by kernel_rfl
theorem r120 : entOk (envT Tryz.prog 485 415 kmask m120) 100000 e120 = true := by kernel_rfl
theorem r121 : entOk (envT Tryz.prog 485 415 kmask m121) 100000 e121 = true := by kernel_rfl
theorem r124 : entOk (envT Tryz.prog 485 415 kmask m124) 100000 e124 = true := by kernel_rfl
theorem r127 : entOk (envT Tryz.prog 485 415 kmask m127) 100000 e127 = true := by kernel_rfl
theorem r129 : entOk (envT Tryz.prog 485 415 kmask m129) 100000 e129 = true := by kernel_rfl
theorem r132 : entOk (envT Tryz.prog 485 415 kmask m132) 100000 e132 = true := by kernel_rfl
theorem r135 : entOk (envT Tryz.prog 485 415 kmask m135) 100000 e135 = true := by kernel_rfl
theorem r138 : entOk (envT Tryz.prog 485 415 kmask m138) 100000 e138 = true := by kernel_rfl
theorem r141 : entOk (envT Tryz.prog 485 415 kmask m141) 100000 e141 = true := by kernel_rfl
theorem r143 : entOk (envT Tryz.prog 485 415 kmask m143) 100000 e143 = true := by kernel_rfl
theorem r145 : entOk (envT Tryz.prog 485 415 kmask m145) 100000 e145 = true := by kernel_rfl
theorem r151 : entOk (envT Tryz.prog 485 415 kmask m151) 100000 e151 = true := by kernel_rfl
theorem r154 : entOk (envT Tryz.prog 485 415 kmask m154) 100000 e154 = true := by kernel_rfl
theorem r155 : entOk (envT Tryz.prog 485 415 kmask m155) 100000 e155 = true := by kernel_rfl
theorem r156 : entOk (envT Tryz.prog 485 415 kmask m156) 100000 e156 = true := by kernel_rfl
theorem r163 : entOk (envT Tryz.prog 485 415 kmask m163) 100000 e163 = true := by kernel_rfl
theorem r168 : entOk (envT Tryz.prog 485 415 kmask m168) 100000 e168 = true := by kernel_rfl
end Go.Proofs.YtfkaeegmjcelnaaGreat.Kn
