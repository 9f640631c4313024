/- Calls of Tryz that are known ahead: they are so. -/
import Derived.Test.YtfkaeegmjcelnaaGreatDoorKnRuns0
import Derived.Test.YtfkaeegmjcelnaaGreatDoorKnRuns1
import Derived.Test.YtfkaeegmjcelnaaGreatDoorKnRuns2
import Derived.Test.YtfkaeegmjcelnaaGreatDoorKnRuns3
namespace Go.Proofs.YtfkaeegmjcelnaaGreatDoor.Kn
open Go Am
theorem progOk : ProgOk Tryz.prog 372 312 := ⟨of_decide_eq_true (by kernel_rfl), of_decide_eq_true (by kernel_rfl), by kernel_rfl, by kernel_rfl⟩
theorem k0 : ∀ e ∈ m0, KnownC Tryz.prog 372 312 kmask e := fun _ h => (by cases h)
theorem k1 : ∀ e ∈ m1, KnownC Tryz.prog 372 312 kmask e := fun e h => (List.mem_cons.1 h).elim (fun h => h ▸ knownC progOk k0 r0) (k0 e)
theorem k2 : ∀ e ∈ m2, KnownC Tryz.prog 372 312 kmask e := fun e h => (List.mem_cons.1 h).elim (fun h => h ▸ knownC progOk k1 r1) (k1 e)
theorem k3 : ∀ e ∈ m3, KnownC Tryz.prog 372 312 kmask e := fun e h => (List.mem_cons.1 h).elim (fun h => h ▸ knownC progOk k2 r2) (k2 e)
theorem k4 : ∀ e ∈ m4, KnownC Tryz.prog 372 312 kmask e := fun e h => (List.mem_cons.1 h).elim (fun h => h ▸ knownC progOk k3 r3) (k3 e)
theorem k5 : ∀ e ∈ m5, KnownC Tryz.prog 372 312 kmask e := fun e h => (List.mem_cons.1 h).elim (fun h => h ▸ knownC progOk k4 r4) (k4 e)
theorem k6 : ∀ e ∈ m6, KnownC Tryz.prog 372 312 kmask e := fun e h => (List.mem_cons.1 h).elim (fun h => h ▸ knownC progOk k5 r5) (k5 e)
theorem k7 : ∀ e ∈ m7, KnownC Tryz.prog 372 312 kmask e := fun e h => (List.mem_cons.1 h).elim (fun h => h ▸ knownC progOk k6 r6) (k6 e)
theorem k8 : ∀ e ∈ m8, KnownC Tryz.prog 372 312 kmask e := fun e h => (List.mem_cons.1 h).elim (fun h => h ▸ knownC progOk k7 r7) (k7 e)
theorem k9 : ∀ e ∈ m9, KnownC Tryz.prog 372 312 kmask e := fun e h => (List.mem_cons.1 h).elim (fun h => h ▸ knownC progOk k8 r8) (k8 e)
theorem k10 : ∀ e ∈ m10, KnownC Tryz.prog 372 312 kmask e := fun e h => (List.mem_cons.1 h).elim (fun h => h ▸ knownC progOk k9 r9) (k9 e)
theorem k11 : ∀ e ∈ m11, KnownC Tryz.prog 372 312 kmask e := fun e h => (List.mem_cons.1 h).elim (fun h => h ▸ knownC progOk k10 r10) (k10 e)
theorem k12 : ∀ e ∈ m12, KnownC Tryz.prog 372 312 kmask e := fun e h => (List.mem_cons.1 h).elim (fun h => h ▸ knownC progOk k11 r11) (k11 e)
theorem k13 : ∀ e ∈ m13, KnownC Tryz.prog 372 312 kmask e := fun e h => (List.mem_cons.1 h).elim (fun h => h ▸ knownC progOk k12 r12) (k12 e)
theorem k14 : ∀ e ∈ m14, KnownC Tryz.prog 372 312 kmask e := fun e h => (List.mem_cons.1 h).elim (fun h => h ▸ knownC progOk k13 r13) (k13 e)
theorem k15 : ∀ e ∈ m15, KnownC Tryz.prog 372 312 kmask e := fun e h => (List.mem_cons.1 h).elim (fun h => h ▸ knownC progOk k14 r14) (k14 e)
theorem k16 : ∀ e ∈ m16, KnownC Tryz.prog 372 312 kmask e := fun e h => (List.mem_cons.1 h).elim (fun h => h ▸ knownC progOk k15 r15) (k15 e)
theorem k17 : ∀ e ∈ m17, KnownC Tryz.prog 372 312 kmask e := fun e h => (List.mem_cons.1 h).elim (fun h => h ▸ knownC progOk k16 r16) (k16 e)
theorem k18 : ∀ e ∈ m18, KnownC Tryz.prog 372 312 kmask e := fun e h => (List.mem_cons.1 h).elim (fun h => h ▸ knownC progOk k17 r17) (k17 e)
theorem k19 : ∀ e ∈ m19, KnownC Tryz.prog 372 312 kmask e := fun e h => (List.mem_cons.1 h).elim (fun h => h ▸ knownC progOk k18 r18) (k18 e)
theorem k20 : ∀ e ∈ m20, KnownC Tryz.prog 372 312 kmask e := fun e h => (List.mem_cons.1 h).elim (fun h => h ▸ knownC progOk k19 r19) (k19 e)
theorem k21 : ∀ e ∈ m21, KnownC Tryz.prog 372 312 kmask e := fun e h => (List.mem_cons.1 h).elim (fun h => h ▸ knownC progOk k20 r20) (k20 e)
theorem k22 : ∀ e ∈ m22, KnownC Tryz.prog 372 312 kmask e := fun e h => (List.mem_cons.1 h).elim (fun h => h ▸ knownC progOk k21 r21) (k21 e)
theorem said : saysTrue (envT Tryz.prog 372 312 kmask m22) 100000 3 = true := by kernel_rfl
theorem calls (w : World) : Calls Tryz.prog 3 #[] w fun e w' => e = .returned (.bool true) ∧ Go.RowKit.Below w.heap.size w w' := saysTrue_ok progOk k22 said w
end Go.Proofs.YtfkaeegmjcelnaaGreatDoor.Kn
