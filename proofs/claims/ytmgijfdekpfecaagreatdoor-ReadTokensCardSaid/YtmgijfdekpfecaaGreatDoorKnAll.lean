/- Calls of Tryz that are known ahead: they are so. -/
import Derived.Test.YtmgijfdekpfecaaGreatDoorKnRuns0
import Derived.Test.YtmgijfdekpfecaaGreatDoorKnRuns1
import Derived.Test.YtmgijfdekpfecaaGreatDoorKnRuns2
import Derived.Test.YtmgijfdekpfecaaGreatDoorKnRuns3
import Derived.Test.YtmgijfdekpfecaaGreatDoorAmF
namespace Go.Proofs.YtmgijfdekpfecaaGreatDoor.Kn
open Go Am
theorem knownC_F {P : Program} {nt nf mask : Nat} {e : MEnt} (h : KnownC P nt nf mask e) : KnownF P e.f e.args e.v := fun C S w xs c cs hv hS => h [] C S w xs c cs (fun g cs hg => by cases hg) hv hS
theorem progOk : ProgOk Tryz.prog 335 308 := ⟨of_decide_eq_true (by kernel_rfl), of_decide_eq_true (by kernel_rfl), by kernel_rfl, by kernel_rfl⟩
theorem k0 : ∀ e ∈ m0, KnownC Tryz.prog 335 308 kmask e := fun _ h => (by cases h)
theorem k1 : ∀ e ∈ m1, KnownC Tryz.prog 335 308 kmask e := fun e h => (List.mem_cons.1 h).elim (fun h => h ▸ knownC progOk k0 r0) (k0 e)
theorem k2 : ∀ e ∈ m2, KnownC Tryz.prog 335 308 kmask e := fun e h => (List.mem_cons.1 h).elim (fun h => h ▸ knownC progOk k1 r1) (k1 e)
theorem k3 : ∀ e ∈ m3, KnownC Tryz.prog 335 308 kmask e := fun e h => (List.mem_cons.1 h).elim (fun h => h ▸ knownC progOk k2 r2) (k2 e)
theorem k4 : ∀ e ∈ m4, KnownC Tryz.prog 335 308 kmask e := fun e h => (List.mem_cons.1 h).elim (fun h => h ▸ knownC progOk k3 r3) (k3 e)
theorem k5 : ∀ e ∈ m5, KnownC Tryz.prog 335 308 kmask e := fun e h => (List.mem_cons.1 h).elim (fun h => h ▸ knownC progOk k4 r4) (k4 e)
theorem k6 : ∀ e ∈ m6, KnownC Tryz.prog 335 308 kmask e := fun e h => (List.mem_cons.1 h).elim (fun h => h ▸ knownC progOk k5 r5) (k5 e)
theorem k7 : ∀ e ∈ m7, KnownC Tryz.prog 335 308 kmask e := fun e h => (List.mem_cons.1 h).elim (fun h => h ▸ knownC progOk k6 r6) (k6 e)
theorem k8 : ∀ e ∈ m8, KnownC Tryz.prog 335 308 kmask e := fun e h => (List.mem_cons.1 h).elim (fun h => h ▸ knownC progOk k7 r7) (k7 e)
theorem k9 : ∀ e ∈ m9, KnownC Tryz.prog 335 308 kmask e := fun e h => (List.mem_cons.1 h).elim (fun h => h ▸ knownC progOk k8 r8) (k8 e)
theorem k10 : ∀ e ∈ m10, KnownC Tryz.prog 335 308 kmask e := fun e h => (List.mem_cons.1 h).elim (fun h => h ▸ knownC progOk k9 r9) (k9 e)
theorem k11 : ∀ e ∈ m11, KnownC Tryz.prog 335 308 kmask e := fun e h => (List.mem_cons.1 h).elim (fun h => h ▸ knownC progOk k10 r10) (k10 e)
theorem k12 : ∀ e ∈ m12, KnownC Tryz.prog 335 308 kmask e := fun e h => (List.mem_cons.1 h).elim (fun h => h ▸ knownC progOk k11 r11) (k11 e)
theorem k13 : ∀ e ∈ m13, KnownC Tryz.prog 335 308 kmask e := fun e h => (List.mem_cons.1 h).elim (fun h => h ▸ knownC progOk k12 r12) (k12 e)
theorem k14 : ∀ e ∈ m14, KnownC Tryz.prog 335 308 kmask e := fun e h => (List.mem_cons.1 h).elim (fun h => h ▸ knownC progOk k13 r13) (k13 e)
theorem k15 : ∀ e ∈ m15, KnownC Tryz.prog 335 308 kmask e := fun e h => (List.mem_cons.1 h).elim (fun h => h ▸ knownC progOk k14 r14) (k14 e)
theorem k16 : ∀ e ∈ m16, KnownC Tryz.prog 335 308 kmask e := fun e h => (List.mem_cons.1 h).elim (fun h => h ▸ knownC progOk k15 r15) (k15 e)
theorem k17 : ∀ e ∈ m17, KnownC Tryz.prog 335 308 kmask e := fun e h => (List.mem_cons.1 h).elim (fun h => h ▸ knownC progOk k16 r16) (k16 e)
theorem k18 : ∀ e ∈ m18, KnownC Tryz.prog 335 308 kmask e := fun e h => (List.mem_cons.1 h).elim (fun h => h ▸ knownC progOk k17 r17) (k17 e)
theorem k19 : ∀ e ∈ m19, KnownC Tryz.prog 335 308 kmask e := fun e h => (List.mem_cons.1 h).elim (fun h => h ▸ knownC progOk k18 r18) (k18 e)
theorem k20 : ∀ e ∈ m20, KnownC Tryz.prog 335 308 kmask e := fun e h => (List.mem_cons.1 h).elim (fun h => h ▸ knownC progOk k19 r19) (k19 e)
theorem k21 : ∀ e ∈ m21, KnownC Tryz.prog 335 308 kmask e := fun e h => (List.mem_cons.1 h).elim (fun h => h ▸ knownC progOk k20 r20) (k20 e)
theorem k22 : ∀ e ∈ m22, KnownC Tryz.prog 335 308 kmask e := fun e h => (List.mem_cons.1 h).elim (fun h => h ▸ knownC progOk k21 r21) (k21 e)
theorem k23 : ∀ e ∈ m23, KnownC Tryz.prog 335 308 kmask e := fun e h => (List.mem_cons.1 h).elim (fun h => h ▸ knownC progOk k22 r22) (k22 e)
theorem k24 : ∀ e ∈ m24, KnownC Tryz.prog 335 308 kmask e := fun e h => (List.mem_cons.1 h).elim (fun h => h ▸ knownC progOk k23 r23) (k23 e)
theorem k25 : ∀ e ∈ m25, KnownC Tryz.prog 335 308 kmask e := fun e h => (List.mem_cons.1 h).elim (fun h => h ▸ knownC progOk k24 r24) (k24 e)
theorem k26 : ∀ e ∈ m26, KnownC Tryz.prog 335 308 kmask e := fun e h => (List.mem_cons.1 h).elim (fun h => h ▸ knownC progOk k25 r25) (k25 e)
theorem k27 : ∀ e ∈ m27, KnownC Tryz.prog 335 308 kmask e := fun e h => (List.mem_cons.1 h).elim (fun h => h ▸ knownC progOk k26 r26) (k26 e)
theorem k28 : ∀ e ∈ m28, KnownC Tryz.prog 335 308 kmask e := fun e h => (List.mem_cons.1 h).elim (fun h => h ▸ knownC progOk k27 r27) (k27 e)
theorem k29 : ∀ e ∈ m29, KnownC Tryz.prog 335 308 kmask e := fun e h => (List.mem_cons.1 h).elim (fun h => h ▸ knownC progOk k28 r28) (k28 e)
theorem k30 : ∀ e ∈ m30, KnownC Tryz.prog 335 308 kmask e := fun e h => (List.mem_cons.1 h).elim (fun h => h ▸ knownC progOk k29 r29) (k29 e)
theorem k31 : ∀ e ∈ m31, KnownC Tryz.prog 335 308 kmask e := fun e h => (List.mem_cons.1 h).elim (fun h => h ▸ knownC progOk k30 r30) (k30 e)
theorem k32 : ∀ e ∈ m32, KnownC Tryz.prog 335 308 kmask e := fun e h => (List.mem_cons.1 h).elim (fun h => h ▸ knownC progOk k31 r31) (k31 e)
theorem k33 : ∀ e ∈ m33, KnownC Tryz.prog 335 308 kmask e := fun e h => (List.mem_cons.1 h).elim (fun h => h ▸ knownC progOk k32 r32) (k32 e)
theorem k34 : ∀ e ∈ m34, KnownC Tryz.prog 335 308 kmask e := fun e h => (List.mem_cons.1 h).elim (fun h => h ▸ knownC progOk k33 r33) (k33 e)
theorem k35 : ∀ e ∈ m35, KnownC Tryz.prog 335 308 kmask e := fun e h => (List.mem_cons.1 h).elim (fun h => h ▸ knownC progOk k34 r34) (k34 e)
theorem k36 : ∀ e ∈ m36, KnownC Tryz.prog 335 308 kmask e := fun e h => (List.mem_cons.1 h).elim (fun h => h ▸ knownC progOk k35 r35) (k35 e)
theorem k37 : ∀ e ∈ m37, KnownC Tryz.prog 335 308 kmask e := fun e h => (List.mem_cons.1 h).elim (fun h => h ▸ knownC progOk k36 r36) (k36 e)
theorem k38 : ∀ e ∈ m38, KnownC Tryz.prog 335 308 kmask e := fun e h => (List.mem_cons.1 h).elim (fun h => h ▸ knownC progOk k37 r37) (k37 e)
theorem k39 : ∀ e ∈ m39, KnownC Tryz.prog 335 308 kmask e := fun e h => (List.mem_cons.1 h).elim (fun h => h ▸ knownC progOk k38 r38) (k38 e)
theorem k40 : ∀ e ∈ m40, KnownC Tryz.prog 335 308 kmask e := fun e h => (List.mem_cons.1 h).elim (fun h => h ▸ knownC progOk k39 r39) (k39 e)
theorem said : entOk (envT Tryz.prog 335 308 kmask m40) 100000 ⟨5, [], .bool true⟩ = true := by kernel_rfl
theorem known : KnownF Tryz.prog 5 [] (.bool true) := knownC_F (e := ⟨5, [], .bool true⟩) (knownC progOk k40 said)
end Go.Proofs.YtmgijfdekpfecaaGreatDoor.Kn
