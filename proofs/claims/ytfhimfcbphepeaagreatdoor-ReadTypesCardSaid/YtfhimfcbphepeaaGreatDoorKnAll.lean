/- Calls of Tryz that are known ahead: they are so. -/
import Derived.Test.YtfhimfcbphepeaaGreatDoorKnRuns0
import Derived.Test.YtfhimfcbphepeaaGreatDoorKnRuns1
import Derived.Test.YtfhimfcbphepeaaGreatDoorKnRuns2
import Derived.Test.YtfhimfcbphepeaaGreatDoorKnRuns3
import Derived.Test.YtfhimfcbphepeaaGreatDoorAmF
namespace Go.Proofs.YtfhimfcbphepeaaGreatDoor.Kn
open Go Am
theorem xW {P : Program} {nt nf mask : Nat} {e : OK} (h : Wx P nt nf mask e) : Wq P e.f e.args e.v := fun C S w xs c cs hv hS => h [] C S w xs c cs (fun g cs hg => by cases hg) hv hS
theorem Ax : Z6 Tryz.prog 366 351 := ⟨of_decide_eq_true (by kernel_rfl), of_decide_eq_true (by kernel_rfl), by kernel_rfl, by kernel_rfl⟩
theorem k0 : ∀ e ∈ m0, Wx Tryz.prog 366 351 Ok e := fun _ h => (by cases h)
theorem k1 : ∀ e ∈ m1, Wx Tryz.prog 366 351 Ok e := fun e h => (Qk.1 h).elim (fun h => h ▸ Bf Ax k0 r0) (k0 e)
theorem k2 : ∀ e ∈ m2, Wx Tryz.prog 366 351 Ok e := fun e h => (Qk.1 h).elim (fun h => h ▸ Bf Ax k1 r1) (k1 e)
theorem k3 : ∀ e ∈ m3, Wx Tryz.prog 366 351 Ok e := fun e h => (Qk.1 h).elim (fun h => h ▸ Bf Ax k2 r2) (k2 e)
theorem k4 : ∀ e ∈ m4, Wx Tryz.prog 366 351 Ok e := fun e h => (Qk.1 h).elim (fun h => h ▸ Bf Ax k3 r3) (k3 e)
theorem k5 : ∀ e ∈ m5, Wx Tryz.prog 366 351 Ok e := fun e h => (Qk.1 h).elim (fun h => h ▸ Bf Ax k4 r4) (k4 e)
theorem k6 : ∀ e ∈ m6, Wx Tryz.prog 366 351 Ok e := fun e h => (Qk.1 h).elim (fun h => h ▸ Bf Ax k5 r5) (k5 e)
theorem k7 : ∀ e ∈ m7, Wx Tryz.prog 366 351 Ok e := fun e h => (Qk.1 h).elim (fun h => h ▸ Bf Ax k6 r6) (k6 e)
theorem k8 : ∀ e ∈ m8, Wx Tryz.prog 366 351 Ok e := fun e h => (Qk.1 h).elim (fun h => h ▸ Bf Ax k7 r7) (k7 e)
theorem k9 : ∀ e ∈ m9, Wx Tryz.prog 366 351 Ok e := fun e h => (Qk.1 h).elim (fun h => h ▸ Bf Ax k8 r8) (k8 e)
theorem k10 : ∀ e ∈ m10, Wx Tryz.prog 366 351 Ok e := fun e h => (Qk.1 h).elim (fun h => h ▸ Bf Ax k9 r9) (k9 e)
theorem k11 : ∀ e ∈ m11, Wx Tryz.prog 366 351 Ok e := fun e h => (Qk.1 h).elim (fun h => h ▸ Bf Ax k10 r10) (k10 e)
theorem k12 : ∀ e ∈ m12, Wx Tryz.prog 366 351 Ok e := fun e h => (Qk.1 h).elim (fun h => h ▸ Bf Ax k11 r11) (k11 e)
theorem k13 : ∀ e ∈ m13, Wx Tryz.prog 366 351 Ok e := fun e h => (Qk.1 h).elim (fun h => h ▸ Bf Ax k12 r12) (k12 e)
theorem k14 : ∀ e ∈ m14, Wx Tryz.prog 366 351 Ok e := fun e h => (Qk.1 h).elim (fun h => h ▸ Bf Ax k13 r13) (k13 e)
theorem k15 : ∀ e ∈ m15, Wx Tryz.prog 366 351 Ok e := fun e h => (Qk.1 h).elim (fun h => h ▸ Bf Ax k14 r14) (k14 e)
theorem k16 : ∀ e ∈ m16, Wx Tryz.prog 366 351 Ok e := fun e h => (Qk.1 h).elim (fun h => h ▸ Bf Ax k15 r15) (k15 e)
theorem k17 : ∀ e ∈ m17, Wx Tryz.prog 366 351 Ok e := fun e h => (Qk.1 h).elim (fun h => h ▸ Bf Ax k16 r16) (k16 e)
theorem k18 : ∀ e ∈ m18, Wx Tryz.prog 366 351 Ok e := fun e h => (Qk.1 h).elim (fun h => h ▸ Bf Ax k17 r17) (k17 e)
theorem k19 : ∀ e ∈ m19, Wx Tryz.prog 366 351 Ok e := fun e h => (Qk.1 h).elim (fun h => h ▸ Bf Ax k18 r18) (k18 e)
theorem k20 : ∀ e ∈ m20, Wx Tryz.prog 366 351 Ok e := fun e h => (Qk.1 h).elim (fun h => h ▸ Bf Ax k19 r19) (k19 e)
theorem k21 : ∀ e ∈ m21, Wx Tryz.prog 366 351 Ok e := fun e h => (Qk.1 h).elim (fun h => h ▸ Bf Ax k20 r20) (k20 e)
theorem k22 : ∀ e ∈ m22, Wx Tryz.prog 366 351 Ok e := fun e h => (Qk.1 h).elim (fun h => h ▸ Bf Ax k21 r21) (k21 e)
theorem k23 : ∀ e ∈ m23, Wx Tryz.prog 366 351 Ok e := fun e h => (Qk.1 h).elim (fun h => h ▸ Bf Ax k22 r22) (k22 e)
theorem k24 : ∀ e ∈ m24, Wx Tryz.prog 366 351 Ok e := fun e h => (Qk.1 h).elim (fun h => h ▸ Bf Ax k23 r23) (k23 e)
theorem k25 : ∀ e ∈ m25, Wx Tryz.prog 366 351 Ok e := fun e h => (Qk.1 h).elim (fun h => h ▸ Bf Ax k24 r24) (k24 e)
theorem k26 : ∀ e ∈ m26, Wx Tryz.prog 366 351 Ok e := fun e h => (Qk.1 h).elim (fun h => h ▸ Bf Ax k25 r25) (k25 e)
theorem said : Xo (Y8 Tryz.prog 366 351 Ok m26) 100000 ⟨8, [], .bool true⟩ = true := by kernel_rfl
theorem known : Wq Tryz.prog 8 [] (.bool true) := xW (e := ⟨8, [], .bool true⟩) (Bf Ax k26 said)
end Go.Proofs.YtfhimfcbphepeaaGreatDoor.Kn
