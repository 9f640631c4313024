/- Calls of Tryz that are known ahead: they are so. -/
import Derived.Test.YtpihdbhocgcbpaaGreatDoorKnRuns0
import Derived.Test.YtpihdbhocgcbpaaGreatDoorKnRuns1
import Derived.Test.YtpihdbhocgcbpaaGreatDoorKnRuns2
import Derived.Test.YtpihdbhocgcbpaaGreatDoorKnRuns3
import Derived.Test.YtpihdbhocgcbpaaGreatDoorAmF
namespace Go.Proofs.YtpihdbhocgcbpaaGreatDoor.Kn
open Go Am
theorem knownC_F {P : Program} {nt nf mask : Nat} {e : MEnt} (h : KnownC P nt nf mask e) : KnownF P e.f e.args e.v := fun C S w xs c cs hv hS => h [] C S w xs c cs (fun g cs hg => by cases hg) hv hS
theorem AB : ProgOk Tryz.prog 406 357 := ⟨of_decide_eq_true (by kernel_rfl), of_decide_eq_true (by kernel_rfl), by kernel_rfl, by kernel_rfl⟩
theorem k0 : ∀ e ∈ m0, KnownC Tryz.prog 406 357 kmask e := fun _ h => (by cases h)
theorem k1 : ∀ e ∈ m1, KnownC Tryz.prog 406 357 kmask e := fun e h => (Qk.1 h).elim (fun h => h ▸ D1 AB k0 r0) (k0 e)
theorem k2 : ∀ e ∈ m2, KnownC Tryz.prog 406 357 kmask e := fun e h => (Qk.1 h).elim (fun h => h ▸ D1 AB k1 r1) (k1 e)
theorem k3 : ∀ e ∈ m3, KnownC Tryz.prog 406 357 kmask e := fun e h => (Qk.1 h).elim (fun h => h ▸ D1 AB k2 r2) (k2 e)
theorem k4 : ∀ e ∈ m4, KnownC Tryz.prog 406 357 kmask e := fun e h => (Qk.1 h).elim (fun h => h ▸ D1 AB k3 r3) (k3 e)
theorem k5 : ∀ e ∈ m5, KnownC Tryz.prog 406 357 kmask e := fun e h => (Qk.1 h).elim (fun h => h ▸ D1 AB k4 r4) (k4 e)
theorem k6 : ∀ e ∈ m6, KnownC Tryz.prog 406 357 kmask e := fun e h => (Qk.1 h).elim (fun h => h ▸ D1 AB k5 r5) (k5 e)
theorem k7 : ∀ e ∈ m7, KnownC Tryz.prog 406 357 kmask e := fun e h => (Qk.1 h).elim (fun h => h ▸ D1 AB k6 r6) (k6 e)
theorem k8 : ∀ e ∈ m8, KnownC Tryz.prog 406 357 kmask e := fun e h => (Qk.1 h).elim (fun h => h ▸ D1 AB k7 r7) (k7 e)
theorem k9 : ∀ e ∈ m9, KnownC Tryz.prog 406 357 kmask e := fun e h => (Qk.1 h).elim (fun h => h ▸ D1 AB k8 r8) (k8 e)
theorem k10 : ∀ e ∈ m10, KnownC Tryz.prog 406 357 kmask e := fun e h => (Qk.1 h).elim (fun h => h ▸ D1 AB k9 r9) (k9 e)
theorem k11 : ∀ e ∈ m11, KnownC Tryz.prog 406 357 kmask e := fun e h => (Qk.1 h).elim (fun h => h ▸ D1 AB k10 r10) (k10 e)
theorem k12 : ∀ e ∈ m12, KnownC Tryz.prog 406 357 kmask e := fun e h => (Qk.1 h).elim (fun h => h ▸ D1 AB k11 r11) (k11 e)
theorem k13 : ∀ e ∈ m13, KnownC Tryz.prog 406 357 kmask e := fun e h => (Qk.1 h).elim (fun h => h ▸ D1 AB k12 r12) (k12 e)
theorem k14 : ∀ e ∈ m14, KnownC Tryz.prog 406 357 kmask e := fun e h => (Qk.1 h).elim (fun h => h ▸ D1 AB k13 r13) (k13 e)
theorem k15 : ∀ e ∈ m15, KnownC Tryz.prog 406 357 kmask e := fun e h => (Qk.1 h).elim (fun h => h ▸ D1 AB k14 r14) (k14 e)
theorem k16 : ∀ e ∈ m16, KnownC Tryz.prog 406 357 kmask e := fun e h => (Qk.1 h).elim (fun h => h ▸ D1 AB k15 r15) (k15 e)
theorem k17 : ∀ e ∈ m17, KnownC Tryz.prog 406 357 kmask e := fun e h => (Qk.1 h).elim (fun h => h ▸ D1 AB k16 r16) (k16 e)
theorem k18 : ∀ e ∈ m18, KnownC Tryz.prog 406 357 kmask e := fun e h => (Qk.1 h).elim (fun h => h ▸ D1 AB k17 r17) (k17 e)
theorem said : entOk (envT Tryz.prog 406 357 kmask m18) 100000 ⟨10, [], .bool true⟩ = true := by kernel_rfl
theorem known : KnownF Tryz.prog 10 [] (.bool true) := knownC_F (e := ⟨10, [], .bool true⟩) (D1 AB k18 said)
end Go.Proofs.YtpihdbhocgcbpaaGreatDoor.Kn
