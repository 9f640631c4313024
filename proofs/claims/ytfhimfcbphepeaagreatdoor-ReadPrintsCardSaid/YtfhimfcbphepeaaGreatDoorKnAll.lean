/- Calls of Tryz that are known ahead: they are so. -/
import Derived.Test.YtfhimfcbphepeaaGreatDoorKnRuns0
import Derived.Test.YtfhimfcbphepeaaGreatDoorKnRuns1
import Derived.Test.YtfhimfcbphepeaaGreatDoorKnRuns2
import Derived.Test.YtfhimfcbphepeaaGreatDoorKnRuns3
import Derived.Test.YtfhimfcbphepeaaGreatDoorAmF
namespace Go.Proofs.YtfhimfcbphepeaaGreatDoor.Kn
open Go Am
theorem knownC_F {P : Program} {nt nf mask : Nat} {e : Yq} (h : YP P nt nf mask e) : CM P e.f e.args e.v := fun C S w xs c cs hv hS => h [] C S w xs c cs (fun g cs hg => by cases hg) hv hS
theorem Bm : jI Tryz.prog 366 351 := ⟨of_decide_eq_true (by kernel_rfl), of_decide_eq_true (by kernel_rfl), by kernel_rfl, by kernel_rfl⟩
theorem k0 : ∀ e ∈ m0, YP Tryz.prog 366 351 Yp e := fun _ h => (by cases h)
theorem k1 : ∀ e ∈ m1, YP Tryz.prog 366 351 Yp e := fun e h => (Qk.1 h).elim (fun h => h ▸ Bw Bm k0 r0) (k0 e)
theorem k2 : ∀ e ∈ m2, YP Tryz.prog 366 351 Yp e := fun e h => (Qk.1 h).elim (fun h => h ▸ Bw Bm k1 r1) (k1 e)
theorem k3 : ∀ e ∈ m3, YP Tryz.prog 366 351 Yp e := fun e h => (Qk.1 h).elim (fun h => h ▸ Bw Bm k2 r2) (k2 e)
theorem k4 : ∀ e ∈ m4, YP Tryz.prog 366 351 Yp e := fun e h => (Qk.1 h).elim (fun h => h ▸ Bw Bm k3 r3) (k3 e)
theorem k5 : ∀ e ∈ m5, YP Tryz.prog 366 351 Yp e := fun e h => (Qk.1 h).elim (fun h => h ▸ Bw Bm k4 r4) (k4 e)
theorem k6 : ∀ e ∈ m6, YP Tryz.prog 366 351 Yp e := fun e h => (Qk.1 h).elim (fun h => h ▸ Bw Bm k5 r5) (k5 e)
theorem k7 : ∀ e ∈ m7, YP Tryz.prog 366 351 Yp e := fun e h => (Qk.1 h).elim (fun h => h ▸ Bw Bm k6 r6) (k6 e)
theorem k8 : ∀ e ∈ m8, YP Tryz.prog 366 351 Yp e := fun e h => (Qk.1 h).elim (fun h => h ▸ Bw Bm k7 r7) (k7 e)
theorem k9 : ∀ e ∈ m9, YP Tryz.prog 366 351 Yp e := fun e h => (Qk.1 h).elim (fun h => h ▸ Bw Bm k8 r8) (k8 e)
theorem k10 : ∀ e ∈ m10, YP Tryz.prog 366 351 Yp e := fun e h => (Qk.1 h).elim (fun h => h ▸ Bw Bm k9 r9) (k9 e)
theorem k11 : ∀ e ∈ m11, YP Tryz.prog 366 351 Yp e := fun e h => (Qk.1 h).elim (fun h => h ▸ Bw Bm k10 r10) (k10 e)
theorem k12 : ∀ e ∈ m12, YP Tryz.prog 366 351 Yp e := fun e h => (Qk.1 h).elim (fun h => h ▸ Bw Bm k11 r11) (k11 e)
theorem k13 : ∀ e ∈ m13, YP Tryz.prog 366 351 Yp e := fun e h => (Qk.1 h).elim (fun h => h ▸ Bw Bm k12 r12) (k12 e)
theorem k14 : ∀ e ∈ m14, YP Tryz.prog 366 351 Yp e := fun e h => (Qk.1 h).elim (fun h => h ▸ Bw Bm k13 r13) (k13 e)
theorem k15 : ∀ e ∈ m15, YP Tryz.prog 366 351 Yp e := fun e h => (Qk.1 h).elim (fun h => h ▸ Bw Bm k14 r14) (k14 e)
theorem k16 : ∀ e ∈ m16, YP Tryz.prog 366 351 Yp e := fun e h => (Qk.1 h).elim (fun h => h ▸ Bw Bm k15 r15) (k15 e)
theorem k17 : ∀ e ∈ m17, YP Tryz.prog 366 351 Yp e := fun e h => (Qk.1 h).elim (fun h => h ▸ Bw Bm k16 r16) (k16 e)
theorem k18 : ∀ e ∈ m18, YP Tryz.prog 366 351 Yp e := fun e h => (Qk.1 h).elim (fun h => h ▸ Bw Bm k17 r17) (k17 e)
theorem k19 : ∀ e ∈ m19, YP Tryz.prog 366 351 Yp e := fun e h => (Qk.1 h).elim (fun h => h ▸ Bw Bm k18 r18) (k18 e)
theorem k20 : ∀ e ∈ m20, YP Tryz.prog 366 351 Yp e := fun e h => (Qk.1 h).elim (fun h => h ▸ Bw Bm k19 r19) (k19 e)
theorem k21 : ∀ e ∈ m21, YP Tryz.prog 366 351 Yp e := fun e h => (Qk.1 h).elim (fun h => h ▸ Bw Bm k20 r20) (k20 e)
theorem k22 : ∀ e ∈ m22, YP Tryz.prog 366 351 Yp e := fun e h => (Qk.1 h).elim (fun h => h ▸ Bw Bm k21 r21) (k21 e)
theorem k23 : ∀ e ∈ m23, YP Tryz.prog 366 351 Yp e := fun e h => (Qk.1 h).elim (fun h => h ▸ Bw Bm k22 r22) (k22 e)
theorem k24 : ∀ e ∈ m24, YP Tryz.prog 366 351 Yp e := fun e h => (Qk.1 h).elim (fun h => h ▸ Bw Bm k23 r23) (k23 e)
theorem k25 : ∀ e ∈ m25, YP Tryz.prog 366 351 Yp e := fun e h => (Qk.1 h).elim (fun h => h ▸ Bw Bm k24 r24) (k24 e)
theorem k26 : ∀ e ∈ m26, YP Tryz.prog 366 351 Yp e := fun e h => (Qk.1 h).elim (fun h => h ▸ Bw Bm k25 r25) (k25 e)
theorem said : ZL (bJ Tryz.prog 366 351 Yp m26) 100000 ⟨8, [], .bool true⟩ = true := by kernel_rfl
theorem known : CM Tryz.prog 8 [] (.bool true) := knownC_F (e := ⟨8, [], .bool true⟩) (Bw Bm k26 said)
end Go.Proofs.YtfhimfcbphepeaaGreatDoor.Kn
