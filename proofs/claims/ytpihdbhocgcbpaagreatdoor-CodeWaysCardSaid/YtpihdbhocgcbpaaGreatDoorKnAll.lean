/- Calls of Tryz that are known ahead: they are so. -/
import Derived.Test.YtpihdbhocgcbpaaGreatDoorKnRuns0
import Derived.Test.YtpihdbhocgcbpaaGreatDoorKnRuns1
import Derived.Test.YtpihdbhocgcbpaaGreatDoorKnRuns2
import Derived.Test.YtpihdbhocgcbpaaGreatDoorKnRuns3
import Derived.Test.YtpihdbhocgcbpaaGreatDoorAmF
namespace Go.Proofs.YtpihdbhocgcbpaaGreatDoor.Kn
open Go Am
theorem z8 {P : Program} {nt nf mask : Nat} {e : W8} (h : XH P nt nf mask e) : Wh P e.f e.args e.v := fun C S w xs c cs hv hS => h [] C S w xs c cs (fun g cs hg => by cases hg) hv hS
theorem Au : Zd Tryz.prog 406 357 := ⟨of_decide_eq_true (by kernel_rfl), of_decide_eq_true (by kernel_rfl), by kernel_rfl, by kernel_rfl⟩
theorem k0 : ∀ e ∈ m0, XH Tryz.prog 406 357 WY e := fun _ h => (by cases h)
theorem k1 : ∀ e ∈ m1, XH Tryz.prog 406 357 WY e := fun e h => (Qk.1 h).elim (fun h => h ▸ Da Au k0 r0) (k0 e)
theorem k2 : ∀ e ∈ m2, XH Tryz.prog 406 357 WY e := fun e h => (Qk.1 h).elim (fun h => h ▸ Da Au k1 r1) (k1 e)
theorem k3 : ∀ e ∈ m3, XH Tryz.prog 406 357 WY e := fun e h => (Qk.1 h).elim (fun h => h ▸ Da Au k2 r2) (k2 e)
theorem k4 : ∀ e ∈ m4, XH Tryz.prog 406 357 WY e := fun e h => (Qk.1 h).elim (fun h => h ▸ Da Au k3 r3) (k3 e)
theorem k5 : ∀ e ∈ m5, XH Tryz.prog 406 357 WY e := fun e h => (Qk.1 h).elim (fun h => h ▸ Da Au k4 r4) (k4 e)
theorem k6 : ∀ e ∈ m6, XH Tryz.prog 406 357 WY e := fun e h => (Qk.1 h).elim (fun h => h ▸ Da Au k5 r5) (k5 e)
theorem k7 : ∀ e ∈ m7, XH Tryz.prog 406 357 WY e := fun e h => (Qk.1 h).elim (fun h => h ▸ Da Au k6 r6) (k6 e)
theorem k8 : ∀ e ∈ m8, XH Tryz.prog 406 357 WY e := fun e h => (Qk.1 h).elim (fun h => h ▸ Da Au k7 r7) (k7 e)
theorem k9 : ∀ e ∈ m9, XH Tryz.prog 406 357 WY e := fun e h => (Qk.1 h).elim (fun h => h ▸ Da Au k8 r8) (k8 e)
theorem k10 : ∀ e ∈ m10, XH Tryz.prog 406 357 WY e := fun e h => (Qk.1 h).elim (fun h => h ▸ Da Au k9 r9) (k9 e)
theorem k11 : ∀ e ∈ m11, XH Tryz.prog 406 357 WY e := fun e h => (Qk.1 h).elim (fun h => h ▸ Da Au k10 r10) (k10 e)
theorem k12 : ∀ e ∈ m12, XH Tryz.prog 406 357 WY e := fun e h => (Qk.1 h).elim (fun h => h ▸ Da Au k11 r11) (k11 e)
theorem k13 : ∀ e ∈ m13, XH Tryz.prog 406 357 WY e := fun e h => (Qk.1 h).elim (fun h => h ▸ Da Au k12 r12) (k12 e)
theorem k14 : ∀ e ∈ m14, XH Tryz.prog 406 357 WY e := fun e h => (Qk.1 h).elim (fun h => h ▸ Da Au k13 r13) (k13 e)
theorem k15 : ∀ e ∈ m15, XH Tryz.prog 406 357 WY e := fun e h => (Qk.1 h).elim (fun h => h ▸ Da Au k14 r14) (k14 e)
theorem k16 : ∀ e ∈ m16, XH Tryz.prog 406 357 WY e := fun e h => (Qk.1 h).elim (fun h => h ▸ Da Au k15 r15) (k15 e)
theorem k17 : ∀ e ∈ m17, XH Tryz.prog 406 357 WY e := fun e h => (Qk.1 h).elim (fun h => h ▸ Da Au k16 r16) (k16 e)
theorem k18 : ∀ e ∈ m18, XH Tryz.prog 406 357 WY e := fun e h => (Qk.1 h).elim (fun h => h ▸ Da Au k17 r17) (k17 e)
theorem said : YN (aB Tryz.prog 406 357 WY m18) 100000 ⟨10, [], .bool true⟩ = true := by kernel_rfl
theorem known : Wh Tryz.prog 10 [] (.bool true) := z8 (e := ⟨10, [], .bool true⟩) (Da Au k18 said)
end Go.Proofs.YtpihdbhocgcbpaaGreatDoor.Kn
