/- Code: the types; strings, names, registers. -/
import Derived.Test.YtpihdbhocgcbpaaGreatDoorAmG
import Derived.Test.YtpihdbhocgcbpaaGreatDoorProg
import Derived.KernelRfl
set_option linter.unusedSectionVars false
set_option linter.unusedVariables false
set_option linter.unusedSimpArgs false
open Go Am
namespace Go.Proofs.YtpihdbhocgcbpaaGreatDoor
noncomputable abbrev EKm (m : Nat) (K : FuncId → List AV → Option AV) : Env := envK Tryz.prog 1200 1200 m K
noncomputable abbrev EK (K : FuncId → List AV → Option AV) : Env := EKm 0 K
section
variable {K : FuncId → List AV → Option AV} {m : Nat}
theorem u_2 : und (EKm m K) 2 = some (.int .i64) := by kernel_rfl
theorem u_3 : und (EKm m K) 3 = some (.int .i64) := by kernel_rfl
theorem AY : Am.sizeOf (EKm m K) 3 = some 1 := by kernel_rfl
theorem Bj : Am.isAgg (EKm m K) 3 = some false := by kernel_rfl
theorem z_3 : Am.zeroOf (EKm m K) 3 = some (.int .i64 0) := by kernel_rfl
theorem u_4 : und (EKm m K) 4 = some .bool := by kernel_rfl
theorem z_4 : Am.zeroOf (EKm m K) 4 = some (.bool false) := by kernel_rfl
theorem u_5 : und (EKm m K) 5 = some (.int .u8) := by kernel_rfl
theorem Bh : Am.sizeOf (EKm m K) 5 = some 1 := by kernel_rfl
theorem z_5 : Am.zeroOf (EKm m K) 5 = some (.int .u8 0) := by kernel_rfl
theorem by_5 : bytesOf (EKm m K) 5 = some 1 := by kernel_rfl
theorem ib_5 : isByte (EKm m K) 5 = true := by kernel_rfl
theorem u_9 : und (EKm m K) 9 = some .string := by kernel_rfl
theorem sz_9 : Am.sizeOf (EKm m K) 9 = some 1 := by kernel_rfl
theorem ag_9 : Am.isAgg (EKm m K) 9 = some false := by kernel_rfl
theorem z_9 : Am.zeroOf (EKm m K) 9 = some (.str []) := by kernel_rfl
theorem by_9 : bytesOf (EKm m K) 9 = some 16 := by kernel_rfl
theorem kd_9 : kdOf (EKm m K) 9 = some (.one .string) := by kernel_rfl
theorem u_21 : und (EKm m K) 21 = some (.int .i32) := by kernel_rfl
theorem DF : und (EKm m K) 22 = some (.slice 54) := by kernel_rfl
theorem Bo : Am.sizeOf (EKm m K) 22 = some 1 := by kernel_rfl
theorem Bp : Am.isAgg (EKm m K) 22 = some false := by kernel_rfl
theorem BU : fieldOf (EKm m K) 24 0 = some (0,1,false) := by kernel_rfl
theorem BT : fieldOf (EKm m K) 24 1 = some (1,1,false) := by kernel_rfl
theorem sz_24 : Am.sizeOf (EKm m K) 24 = some 2 := by kernel_rfl
theorem ag_24 : Am.isAgg (EKm m K) 24 = some true := by kernel_rfl
theorem u_25 : und (EKm m K) 25 = some (.slice 58) := by kernel_rfl
theorem BV : Am.sizeOf (EKm m K) 25 = some 1 := by kernel_rfl
theorem BW : Am.isAgg (EKm m K) 25 = some false := by kernel_rfl
theorem DO : und (EKm m K) 26 = some (.slice 3) := by kernel_rfl
theorem BJ : Am.sizeOf (EKm m K) 26 = some 1 := by kernel_rfl
theorem BK : Am.isAgg (EKm m K) 26 = some false := by kernel_rfl
theorem Ep : fieldOf (EKm m K) 28 0 = some (0,2,true) := by kernel_rfl
theorem Bd : fieldOf (EKm m K) 28 1 = some (2,1,false) := by kernel_rfl
theorem f_28_2 : fieldOf (EKm m K) 28 2 = some (3,1,false) := by kernel_rfl
theorem E1 : Am.sizeOf (EKm m K) 28 = some 4 := by kernel_rfl
theorem E5 : Am.isAgg (EKm m K) 28 = some true := by kernel_rfl
theorem u_31 : und (EKm m K) 31 = some (.int .i64) := by kernel_rfl
theorem u_37 : und (EKm m K) 37 = some (.int .i64) := by kernel_rfl
theorem sz_37 : Am.sizeOf (EKm m K) 37 = some 1 := by kernel_rfl
theorem ag_37 : Am.isAgg (EKm m K) 37 = some false := by kernel_rfl
theorem Dt : und (EKm m K) 52 = some (.slice 5) := by kernel_rfl
theorem sz_52 : Am.sizeOf (EKm m K) 52 = some 1 := by kernel_rfl
theorem ag_52 : Am.isAgg (EKm m K) 52 = some false := by kernel_rfl
theorem st_54 : isStructT (EKm m K) 54 = true := by kernel_rfl
theorem f_54_0 : fieldOf (EKm m K) 54 0 = some (0,1,false) := by kernel_rfl
theorem f_54_1 : fieldOf (EKm m K) 54 1 = some (1,1,false) := by kernel_rfl
theorem BI : Am.sizeOf (EKm m K) 54 = some 2 := by kernel_rfl
theorem ag_54 : Am.isAgg (EKm m K) 54 = some true := by kernel_rfl
theorem z_54 : Am.zeroOf (EKm m K) 54 = some (.agg [.str [],.int .i64 0]) := by kernel_rfl
theorem kd_54 : kdOf (EKm m K) 54 = some (.flat [.string,.int .i64]) := by kernel_rfl
theorem pl_54 : Am.buildPlan (EKm m K) 54 = some ([.str [],.int .i64 0],nth [(0,1),(1,1)]) := by kernel_rfl
theorem u_55 : und (EKm m K) 55 = some (.int .i64) := by kernel_rfl
theorem sz_55 : Am.sizeOf (EKm m K) 55 = some 1 := by kernel_rfl
theorem ag_55 : Am.isAgg (EKm m K) 55 = some false := by kernel_rfl
theorem u_56 : und (EKm m K) 56 = some (.slice 60) := by kernel_rfl
theorem EO : Am.sizeOf (EKm m K) 56 = some 1 := by kernel_rfl
theorem Fh : Am.isAgg (EKm m K) 56 = some false := by kernel_rfl
theorem f_58_0 : fieldOf (EKm m K) 58 0 = some (0,1,false) := by kernel_rfl
theorem f_58_1 : fieldOf (EKm m K) 58 1 = some (1,1,false) := by kernel_rfl
theorem DG : fieldOf (EKm m K) 58 2 = some (2,1,false) := by kernel_rfl
theorem f_58_3 : fieldOf (EKm m K) 58 3 = some (3,1,false) := by kernel_rfl
theorem f_58_4 : fieldOf (EKm m K) 58 4 = some (4,1,false) := by kernel_rfl
theorem BS : fieldOf (EKm m K) 58 5 = some (5,1,false) := by kernel_rfl
theorem f_58_6 : fieldOf (EKm m K) 58 6 = some (6,1,false) := by kernel_rfl
theorem BX : Am.sizeOf (EKm m K) 58 = some 7 := by kernel_rfl
theorem ag_58 : Am.isAgg (EKm m K) 58 = some true := by kernel_rfl
theorem z_58 : Am.zeroOf (EKm m K) 58 = some (.agg [.int .i64 0,.int .i64 0,.nilslice,.nilslice,.int .i64 0,.int .i64 0,.nilslice]) := by kernel_rfl
theorem st_60 : isStructT (EKm m K) 60 = true := by kernel_rfl
theorem f_60_0 : fieldOf (EKm m K) 60 0 = some (0,1,false) := by kernel_rfl
theorem f_60_1 : fieldOf (EKm m K) 60 1 = some (1,1,false) := by kernel_rfl
theorem sz_60 : Am.sizeOf (EKm m K) 60 = some 2 := by kernel_rfl
theorem ag_60 : Am.isAgg (EKm m K) 60 = some true := by kernel_rfl
theorem z_60 : Am.zeroOf (EKm m K) 60 = some (.agg [.int .i64 0,.int .i64 0]) := by kernel_rfl
theorem kd_60 : kdOf (EKm m K) 60 = some (.flat [.int .i64,.int .i64]) := by kernel_rfl
theorem u_100 : und (EKm m K) 100 = some (.pointer 102) := by kernel_rfl
theorem sz_100 : Am.sizeOf (EKm m K) 100 = some 1 := by kernel_rfl
theorem ag_100 : Am.isAgg (EKm m K) 100 = some false := by kernel_rfl
theorem f_102_0 : fieldOf (EKm m K) 102 0 = some (0,1,false) := by kernel_rfl
theorem D0 : fieldOf (EKm m K) 102 1 = some (1,1,false) := by kernel_rfl
theorem sz_102 : Am.sizeOf (EKm m K) 102 = some 2 := by kernel_rfl
theorem z_102 : Am.zeroOf (EKm m K) 102 = some (.agg [.nilptr,.nilslice]) := by kernel_rfl
theorem f_104_0 : fieldOf (EKm m K) 104 0 = some (0,2,true) := by kernel_rfl
theorem z_104 : Am.zeroOf (EKm m K) 104 = some (.agg [.nilptr,.nilslice]) := by kernel_rfl
theorem D7 : und (EKm m K) 106 = some (.slice 9) := by kernel_rfl
theorem u_108 : und (EKm m K) 108 = some (.array 7 9) := by kernel_rfl
theorem if_111 : isIfaceT (EKm m K) 111 = some true := by kernel_rfl
theorem f_114_0 : fieldOf (EKm m K) 114 0 = some (0,1,false) := by kernel_rfl
theorem f_114_1 : fieldOf (EKm m K) 114 1 = some (1,1,false) := by kernel_rfl
theorem sz_114 : Am.sizeOf (EKm m K) 114 = some 2 := by kernel_rfl
theorem z_114 : Am.zeroOf (EKm m K) 114 = some (.agg [.int .i64 0,.nilslice]) := by kernel_rfl
theorem Eo : isIfaceT (EKm m K) 114 = some false := by kernel_rfl
theorem pl_114 : Am.buildPlan (EKm m K) 114 = some ([.int .i64 0,.nilslice],nth [(0,1),(1,1)]) := by kernel_rfl
theorem f_117_0 : fieldOf (EKm m K) 117 0 = some (0,1,false) := by kernel_rfl
theorem sz_117 : Am.sizeOf (EKm m K) 117 = some 1 := by kernel_rfl
theorem z_117 : Am.zeroOf (EKm m K) 117 = some (.agg [.nilslice]) := by kernel_rfl
theorem if_117 : isIfaceT (EKm m K) 117 = some false := by kernel_rfl
theorem pl_117 : Am.buildPlan (EKm m K) 117 = some ([.nilslice],nth [(0,1)]) := by kernel_rfl
theorem f_119_0 : fieldOf (EKm m K) 119 0 = some (0,1,false) := by kernel_rfl
theorem BE : fieldOf (EKm m K) 119 1 = some (1,1,false) := by kernel_rfl
theorem f_119_2 : fieldOf (EKm m K) 119 2 = some (2,1,false) := by kernel_rfl
theorem sz_119 : Am.sizeOf (EKm m K) 119 = some 3 := by kernel_rfl
theorem ag_119 : Am.isAgg (EKm m K) 119 = some true := by kernel_rfl
theorem z_119 : Am.zeroOf (EKm m K) 119 = some (.agg [.int .i64 0,.int .i64 0,.nilslice]) := by kernel_rfl
theorem if_119 : isIfaceT (EKm m K) 119 = some false := by kernel_rfl
theorem pl_119 : Am.buildPlan (EKm m K) 119 = some ([.int .i64 0,.int .i64 0,.nilslice],nth [(0,1),(1,1),(2,1)]) := by kernel_rfl
theorem f_121_0 : fieldOf (EKm m K) 121 0 = some (0,1,false) := by kernel_rfl
theorem sz_121 : Am.sizeOf (EKm m K) 121 = some 1 := by kernel_rfl
theorem z_121 : Am.zeroOf (EKm m K) 121 = some (.agg [.int .i64 0]) := by kernel_rfl
theorem if_121 : isIfaceT (EKm m K) 121 = some false := by kernel_rfl
theorem pl_121 : Am.buildPlan (EKm m K) 121 = some ([.int .i64 0],nth [(0,1)]) := by kernel_rfl
theorem sz_146 : Am.sizeOf (EKm m K) 146 = some 1 := by kernel_rfl
theorem ag_146 : Am.isAgg (EKm m K) 146 = some false := by kernel_rfl
theorem z_146 : Am.zeroOf (EKm m K) 146 = some .nilfunc := by kernel_rfl
theorem u_155 : und (EKm m K) 155 = some (.map 9 4) := by kernel_rfl
theorem sz_155 : Am.sizeOf (EKm m K) 155 = some 1 := by kernel_rfl
theorem ag_155 : Am.isAgg (EKm m K) 155 = some false := by kernel_rfl
theorem z_155 : Am.zeroOf (EKm m K) 155 = some .nilmap := by kernel_rfl
theorem if_166 : isIfaceT (EKm m K) 166 = some false := by kernel_rfl
theorem pl_166 : Am.buildPlan (EKm m K) 166 = some ([],nth []) := by kernel_rfl
theorem if_167 : isIfaceT (EKm m K) 167 = some false := by kernel_rfl
theorem pl_167 : Am.buildPlan (EKm m K) 167 = some ([],nth []) := by kernel_rfl
theorem AR : und (EKm m K) 250 = some (.int .u32) := by kernel_rfl
theorem E0 : und (EKm m K) 253 = some (.int .u64) := by kernel_rfl
theorem sz_253 : Am.sizeOf (EKm m K) 253 = some 1 := by kernel_rfl
theorem ag_253 : Am.isAgg (EKm m K) 253 = some false := by kernel_rfl
theorem u_257 : und (EKm m K) 257 = some .unsafePointer := by kernel_rfl
theorem Dv : und (EKm m K) 259 = some (.array 24 5) := by kernel_rfl
theorem z_259 : Am.zeroOf (EKm m K) 259 = some (.agg [.int .u8 0,.int .u8 0,.int .u8 0,.int .u8 0,.int .u8 0,.int .u8 0,.int .u8 0,.int .u8 0,.int .u8 0,.int .u8 0,.int .u8 0,.int .u8 0,.int .u8 0,.int .u8 0,.int .u8 0,.int .u8 0,.int .u8 0,.int .u8 0,.int .u8 0,.int .u8 0,.int .u8 0,.int .u8 0,.int .u8 0,.int .u8 0]) := by kernel_rfl
theorem u_305 : und (EKm m K) 305 = some (.array 20 253) := by kernel_rfl
theorem m_114_registers : methodOf (EKm m K) 114 "swingle/code.registers" = some (341, .mk none none) := by kernel_rfl
theorem m_117_registers : methodOf (EKm m K) 117 "swingle/code.registers" = some (342, .mk none none) := by kernel_rfl
theorem m_119_registers : methodOf (EKm m K) 119 "swingle/code.registers" = some (343, .mk none none) := by kernel_rfl
theorem m_121_registers : methodOf (EKm m K) 121 "swingle/code.registers" = some (344, .mk none none) := by kernel_rfl
theorem m_166_registers : methodOf (EKm m K) 166 "swingle/code.registers" = some (345, .mk none none) := by kernel_rfl
theorem m_167_registers : methodOf (EKm m K) 167 "swingle/code.registers" = some (346, .mk none none) := by kernel_rfl
end
def K0 : FuncId → List AV → Option AV := fun f args => match f with
 | 10 => match args with
  | [] => some (.bool true)
  | _ => none
 | _ => none
theorem AE : ProgOk Tryz.prog 1200 1200 := ⟨dT (by kernel_rfl),dT (by kernel_rfl),by kernel_rfl,by kernel_rfl⟩
theorem K0_known (h : KnownF Tryz.prog 10 [] (.bool true)) : KnownAll Tryz.prog K0 := by
 intro f args v hv
 unfold K0 at hv
 split at hv
 ·split at hv
  ·cases hv; exact h
  ·cases hv
 ·cases hv
def inV (n a b : Int) : Bool := decide (a ≤ n) && decide (n ≤ b)
section
variable {K : FuncId → List AV → Option AV} (n a b : Int)
theorem in0_to (hK : K 76 = fun _ => none) : CallTo (EK K) 76 [.int .i64 n, .int .i64 a, .int .i64 b] S0 (.bool (inV n a b)) := by
 refine Ax (fn := Tryz.f76) rfl (by show K 76 _ = none; rw [hK]) (by kernel_rfl) rfl rfl rfl rfl ?_
 focus
  refine Es <| qa rfl <| Ld <| Es ?_
  iterate 2 refine qm rfl ?_
  refine Lq (o2 u_3 rfl rfl) rfl <| qm rfl ?_
  refine Lb rfl (fun g1 => ?_) (fun g1 => ?_)
  have h1 := dT g1
  iterate 2 refine Lh rfl ‹_› (om rfl) ?_
  refine Lh rfl ‹_› (o2 u_3 rfl rfl) <| Lq (oT rfl ‹_› rfl) rfl <| qa rfl <| Ld ?_
  refine Aa (Er rfl ?_)
  refine Ad ?_
  rotate_left
  have h1 := dF g1
  iterate 3 refine Lk rfl ‹_› ?_
  refine Lq (oF rfl ‹_› rfl) rfl <| qa rfl <| Ld ?_
  refine Aa (Er rfl ?_)
  refine Ad ?_
  rotate_left
 all_goals (unfold inV; rw [g1]; rfl)
theorem in1_to (hK : K 43 = fun _ => none) : CallTo (EK K) 43 [.int .i64 n, .int .i64 a, .int .i64 b] S0 (.bool (inV n a b)) := by
 refine Ax (fn := Tryz.f43) rfl (by show K 43 _ = none; rw [hK]) (by kernel_rfl) rfl rfl rfl rfl ?_
 focus
  refine Es <| qa rfl <| Ld <| Es ?_
  iterate 2 refine qm rfl ?_
  refine Lq (o2 u_3 rfl rfl) rfl <| qm rfl ?_
  refine Lb rfl (fun g1 => ?_) (fun g1 => ?_)
  have h1 := dT g1
  iterate 2 refine Lh rfl ‹_› (om rfl) ?_
  refine Lh rfl ‹_› (o2 u_3 rfl rfl) <| Lq (oT rfl ‹_› rfl) rfl <| qa rfl <| Ld ?_
  refine Aa (Er rfl ?_)
  refine Ad ?_
  rotate_left
  have h1 := dF g1
  iterate 3 refine Lk rfl ‹_› ?_
  refine Lq (oF rfl ‹_› rfl) rfl <| qa rfl <| Ld ?_
  refine Aa (Er rfl ?_)
  refine Ad ?_
  rotate_left
 all_goals (unfold inV; rw [g1]; rfl)
theorem in2_to (hK : K 104 = fun _ => none) : CallTo (EK K) 104 [.int .i64 n, .int .i64 a, .int .i64 b] S0 (.bool (inV n a b)) := by
 refine Ax (fn := Tryz.f104) rfl (by show K 104 _ = none; rw [hK]) (by kernel_rfl) rfl rfl rfl rfl ?_
 focus
  refine Es <| qa rfl <| Ld <| Es ?_
  iterate 2 refine qm rfl ?_
  refine Lq (o2 u_3 rfl rfl) rfl <| qm rfl ?_
  refine Lb rfl (fun g1 => ?_) (fun g1 => ?_)
  have h1 := dT g1
  iterate 2 refine Lh rfl ‹_› (om rfl) ?_
  refine Lh rfl ‹_› (o2 u_3 rfl rfl) <| Lq (oT rfl ‹_› rfl) rfl <| qa rfl <| Ld ?_
  refine Aa (Er rfl ?_)
  refine Ad ?_
  rotate_left
  have h1 := dF g1
  iterate 3 refine Lk rfl ‹_› ?_
  refine Lq (oF rfl ‹_› rfl) rfl <| qa rfl <| Ld ?_
  refine Aa (Er rfl ?_)
  refine Ad ?_
  rotate_left
 all_goals (unfold inV; rw [g1]; rfl)
theorem in3_to (hK : K 37 = fun _ => none) : CallTo (EK K) 37 [.int .i64 n, .int .i64 a, .int .i64 b] S0 (.bool (inV n a b)) := by
 refine Ax (fn := Tryz.f37) rfl (by show K 37 _ = none; rw [hK]) (by kernel_rfl) rfl rfl rfl rfl ?_
 focus
  refine Es <| qa rfl <| Ld <| Es ?_
  iterate 2 refine qm rfl ?_
  refine Lq (o2 u_3 rfl rfl) rfl <| qm rfl ?_
  refine Lb rfl (fun g1 => ?_) (fun g1 => ?_)
  have h1 := dT g1
  iterate 2 refine Lh rfl ‹_› (om rfl) ?_
  refine Lh rfl ‹_› (o2 u_3 rfl rfl) <| Lq (oT rfl ‹_› rfl) rfl <| qa rfl <| Ld ?_
  refine Aa (Er rfl ?_)
  refine Ad ?_
  rotate_left
  have h1 := dF g1
  iterate 3 refine Lk rfl ‹_› ?_
  refine Lq (oF rfl ‹_› rfl) rfl <| qa rfl <| Ld ?_
  refine Aa (Er rfl ?_)
  refine Ad ?_
  rotate_left
 all_goals (unfold inV; rw [g1]; rfl)
end
noncomputable def K1a := addC K0 76 (fun p : Int × Int × Int=>[.int .i64 p.1,.int .i64 p.2.1,.int .i64 p.2.2]) (fun p=>.bool (inV p.1 p.2.1 p.2.2))
noncomputable def K1b := addC K1a 43 (fun p : Int × Int × Int=>[.int .i64 p.1,.int .i64 p.2.1,.int .i64 p.2.2]) (fun p=>.bool (inV p.1 p.2.1 p.2.2))
noncomputable def K1c := addC K1b 104 (fun p : Int × Int × Int=>[.int .i64 p.1,.int .i64 p.2.1,.int .i64 p.2.2]) (fun p=>.bool (inV p.1 p.2.1 p.2.2))
noncomputable def K1 := addC K1c 37 (fun p : Int × Int × Int=>[.int .i64 p.1,.int .i64 p.2.1,.int .i64 p.2.2]) (fun p=>.bool (inV p.1 p.2.1 p.2.2))
section
variable {n a b : Int}
theorem hit_76 : K1a 76 [.int .i64 n,.int .i64 a,.int .i64 b] = some (.bool (inV n a b)) := AD (f := 76) (enc := fun p : Int × Int × Int=>[.int .i64 p.1,.int .i64 p.2.1,.int .i64 p.2.2]) (res := fun p=>.bool (inV p.1 p.2.1 p.2.2)) (by rintro ⟨a,b,c⟩ ⟨d,e,f⟩ h; cases h; rfl) (n,a,b)
theorem hit_43 : K1b 43 [.int .i64 n,.int .i64 a,.int .i64 b] = some (.bool (inV n a b)) := AD (f := 43) (enc := fun p : Int × Int × Int=>[.int .i64 p.1,.int .i64 p.2.1,.int .i64 p.2.2]) (res := fun p=>.bool (inV p.1 p.2.1 p.2.2)) (by rintro ⟨a,b,c⟩ ⟨d,e,f⟩ h; cases h; rfl) (n,a,b)
theorem hit_104 : K1c 104 [.int .i64 n,.int .i64 a,.int .i64 b] = some (.bool (inV n a b)) := AD (f := 104) (enc := fun p : Int × Int × Int=>[.int .i64 p.1,.int .i64 p.2.1,.int .i64 p.2.2]) (res := fun p=>.bool (inV p.1 p.2.1 p.2.2)) (by rintro ⟨a,b,c⟩ ⟨d,e,f⟩ h; cases h; rfl) (n,a,b)
theorem hit_37 : K1 37 [.int .i64 n,.int .i64 a,.int .i64 b] = some (.bool (inV n a b)) := AD (f := 37) (enc := fun p : Int × Int × Int=>[.int .i64 p.1,.int .i64 p.2.1,.int .i64 p.2.2]) (res := fun p=>.bool (inV p.1 p.2.1 p.2.2)) (by rintro ⟨a,b,c⟩ ⟨d,e,f⟩ h; cases h; rfl) (n,a,b)
end
theorem all1 (h : KnownF Tryz.prog 10 [] (.bool true)) : KnownAll Tryz.prog K1 := by
 have a0 := K0_known h
 have a1 : KnownAll Tryz.prog K1a := Bw a0 fun p => Dp AE a0 (in0_to p.1 p.2.1 p.2.2 rfl) rfl rfl
 have a2 : KnownAll Tryz.prog K1b := Bw a1 fun p => Dp AE a1 (in1_to p.1 p.2.1 p.2.2 rfl) rfl rfl
 have a3 : KnownAll Tryz.prog K1c := Bw a2 fun p => Dp AE a2 (in2_to p.1 p.2.1 p.2.2 rfl) rfl rfl
 exact Bw a3 fun p => Dp AE a3 (in3_to p.1 p.2.1 p.2.2 rfl) rfl rfl
def letterV (n : Int) : Bool := (decide (97 ≤ n) && decide (n ≤ 122)) || (decide (65 ≤ n) && decide (n ≤ 90))
def nameV (w : List UInt8) : Bool := decide (tw letterV w = w.length) && inV w.length 1 8
theorem nameV_short {w : List UInt8} (h : tw letterV w < w.length) : nameV w = false := by
 unfold nameV
 rw [decide_eq_false (by omega)]; rfl
theorem DW {w : List UInt8} {i : Nat} (hi : i ≤ tw letterV w) (h : i < w.length) (hn : letterV (w.getD i 0).toNat = false) : nameV w = false :=
 nameV_short (by
  have := (tw_step hi h).2
  have : ¬ i < tw letterV w := fun hlt => by rw [this hlt] at hn; cases hn
  omega)
theorem letter_yes {w : List UInt8} {i : Nat} (hi : i ≤ tw letterV w) (h : i < w.length) (hn : letterV (w.getD i 0).toNat = true) : i + 1 ≤ tw letterV w := (tw_step hi h).1 hn
theorem letter_iff (n : Int) : letterV n = true ↔ (97 ≤ n ∧ n ≤ 122) ∨ (65 ≤ n ∧ n ≤ 90) := by
 unfold letterV
 simp only [Bool.or_eq_true, Qf, decide_eq_true_eq]
theorem letter_of {n : Int} (h : (97 ≤ n ∧ n ≤ 122) ∨ (65 ≤ n ∧ n ≤ 90)) : letterV n = true := (letter_iff n).2 h
theorem Dy {n : Int} (h : ¬ ((97 ≤ n ∧ n ≤ 122) ∨ (65 ≤ n ∧ n ≤ 90))) : letterV n = false := by
 cases hb : letterV n with
 | false => rfl
 | true => exact absurd ((letter_iff n).1 hb) h
theorem name_to (w : List UInt8) (hw : w.length ≤ 4000) : CallTo (EK K1) 140 [.str w] S0 (.bool (nameV w)) := by
 refine Ax (fn := Tryz.f140) rfl rfl (by kernel_rfl) rfl rfl rfl rfl ?_
 have hle := tw_le letterV w
 refine Es <| qa rfl <| Ld <| Ab <| Es <| qa rfl <| Ld <| Ai ?_
 refine Aw (fun i : Nat => ([(3, .int .i64 (i : Nat)), (0, .str w)], mkS 0 0 [] [])) (fun i => w.length - i) (fun i => i ≤ tw letterV w) 0 (Qo _) rfl (by (refine Am.Ap ?_; repeat (first | exact trivial | refine ⟨rfl, ?_⟩))) fun i hi => ?_
 focus
  refine Ab <| Es ?_
  iterate 2 refine qm rfl ?_
  refine Lq (By rfl rfl rfl rfl u_9 rfl) rfl <| Lq (o2 u_3 rfl rfl) rfl <| Ld ?_
  refine Ec rfl (fun g1 => ?_) (fun g1 => ?_)
  have h1 := dT g1
  refine Ac <| Ab <| Ai <| Es ?_
  iterate 2 refine qm rfl ?_
  refine Lq (Dm rfl u_9 rfl rfl (by first | assumption | omega | (simp only [LL]; omega))) rfl ?_
  refine Lq (o2 u_5 rfl rfl) rfl <| qm rfl ?_
  refine Lb rfl (fun g2 => ?_) (fun g2 => ?_)
  have h2 := dT g2
  iterate 4 refine Lk rfl ‹_› ?_
  refine Lq (oT rfl ‹_› rfl) rfl <| qm rfl ?_
  iterate 2 refine Lh rfl rfl (om rfl) ?_
  refine Lh rfl rfl (Dm rfl u_9 rfl rfl (by first | assumption | omega | (simp only [LL]; omega))) ?_
  refine Lh rfl rfl (o2 u_5 rfl rfl) <| Lh rfl rfl (om rfl) ?_
  refine Lb rfl (fun g3 => ?_) (fun g3 => ?_)
  have h3 := dT g3
  iterate 4 refine Lk rfl ‹_› ?_
  refine Lh rfl rfl (oT rfl ‹_› rfl) <| Lq (oT rfl rfl rfl) rfl <| Ld <| Ah rfl rfl <| Es <| qa rfl <| Ld ?_
  refine Aa (Er rfl ?_)
  refine Ad ?_
  rotate_left
  have h3 := dF g3
  iterate 2 refine Lh rfl ‹_› (om rfl) ?_
  refine Lh rfl ‹_› (Dm rfl u_9 rfl rfl (by first | assumption | omega | (simp only [LL]; omega))) ?_
  refine Lh rfl ‹_› (o2 u_5 rfl rfl) <| Lh rfl rfl (oF rfl ‹_› rfl) <| Lq (oT rfl rfl rfl) rfl <| Ld ?_
  refine Ec rfl (fun g4 => ?_) (fun g4 => ?_)
  have h4 := dT g4
  refine Es <| qa rfl <| Ld ?_
  refine Aa (Er rfl ?_)
  refine Ad ?_
  rotate_left
  have h4 := dF g4
  refine Ac <| Ao <| qm rfl ?_
  refine Lq (At (b := 1) rfl u_3 rfl rfl (by first | assumption | omega | (simp only [LL]; omega))) rfl ?_
  refine qa rfl <| Ld ?_
  rotate_left
  have h2 := dF g2
  iterate 2 refine Lh rfl ‹_› (om rfl) ?_
  refine Lh rfl ‹_› (Dm rfl u_9 rfl rfl (by first | assumption | omega | (simp only [LL]; omega))) ?_
  refine Lh rfl ‹_› (o2 u_5 rfl rfl) <| Lq (oF rfl ‹_› rfl) rfl <| qm rfl ?_
  refine Lb rfl (fun g5 => ?_) (fun g5 => ?_)
  have h5 := dT g5
  iterate 2 refine Lh rfl ‹_› (om rfl) ?_
  refine Lh rfl ‹_› (Dm rfl u_9 rfl rfl (by first | assumption | omega | (simp only [LL]; omega))) ?_
  refine Lh rfl ‹_› (o2 u_5 rfl rfl) <| Lh rfl ‹_› (om rfl) ?_
  refine Lb rfl (fun g6 => ?_) (fun g6 => ?_)
  have h6 := dT g6
  exact absurd h6 (by omega)
  have h6 := dF g6
  iterate 2 refine Lh rfl ‹_› (om rfl) ?_
  refine Lh rfl ‹_› (Dm rfl u_9 rfl rfl (by first | assumption | omega | (simp only [LL]; omega))) ?_
  refine Lh rfl ‹_› (o2 u_5 rfl rfl) <| Lh rfl ‹_› (oF rfl ‹_› rfl) <| Lq (oT rfl ‹_› rfl) rfl <| Ld ?_
  refine Ec rfl (fun g7 => ?_) (fun g7 => ?_)
  have h7 := dT g7
  refine Es <| qa rfl <| Ld ?_
  refine Aa (Er rfl ?_)
  refine Ad ?_
  rotate_left
  have h7 := dF g7
  exact absurd h7 (by omega)
  have h5 := dF g5
  iterate 5 refine Lk rfl ‹_› ?_
  iterate 4 refine RegL.skipT rfl rfl rfl rfl rfl rfl ?_
  refine Lk rfl ‹_› <| Lq (oF rfl ‹_› rfl) rfl <| Ld <| An rfl rfl <| Ac <| Ao <| qm rfl ?_
  refine Lq (At (b := 1) rfl u_3 rfl rfl (by first | assumption | omega | (simp only [LL]; omega))) rfl ?_
  refine qa rfl <| Ld ?_
  rotate_left
  have h1 := dF g1
  refine A5 <| AX rfl <| Es <| qm rfl <| Lq (By rfl rfl rfl rfl u_9 rfl) rfl ?_
  refine Lo (Ag rfl rfl (by kernel_rfl) rfl (Ae (hit_104))) rfl <| qa rfl <| Ld ?_
  refine Aa (Er rfl ?_)
  refine Ad ?_
  rotate_left
 ·exact (DW hi (by omega) (Dy (by omega))).symm
 ·exact (DW hi (by omega) (Dy (by omega))).symm
 ·exact ⟨i + 1, letter_yes hi (by omega) (letter_of (by omega)), by show w.length - (i + 1) < w.length - i; omega, rfl, rfl, by (refine Am.Ap ?_; repeat (first | exact trivial | refine ⟨rfl, ?_⟩))⟩
 ·exact (DW hi (by omega) (Dy (by omega))).symm
 ·exact ⟨i + 1, letter_yes hi (by omega) (letter_of (by omega)), by show w.length - (i + 1) < w.length - i; omega, rfl, rfl, by (refine Am.Ap ?_; repeat (first | exact trivial | refine ⟨rfl, ?_⟩))⟩
 ·have e : tw letterV w = w.length := by omega
  unfold nameV
  rw [decide_eq_true e]; rfl
noncomputable def K1n := addC K1 140 (fun w : { w : List UInt8 // w.length ≤ 4000 }=>[.str w.1]) (fun w=>.bool (nameV w.1))
theorem hit_140 {w : List UInt8} (hw : w.length ≤ 4000) : K1n 140 [.str w] = some (.bool (nameV w)) :=
 AD (f := 140) (enc := fun w : { w : List UInt8 // w.length ≤ 4000 } => [.str w.1]) (res := fun w => .bool (nameV w.1)) (by rintro ⟨a, _⟩ ⟨b, _⟩ h; cases h; rfl) ⟨w, hw⟩
theorem spelled_to (w : List UInt8) (hw : w.length ≤ 4000) : CallTo (EK K1n) 75 [.str w] S0 (.bool (nameV w)) := by
 refine Ax (fn := Tryz.f75) rfl rfl (by kernel_rfl) rfl rfl rfl rfl ?_
 have hle := tw_le letterV w
 refine Es <| qa rfl <| Ld <| Ab <| Es <| qm rfl <| Lo (OpL.rangeStrS 1 rfl u_9 rfl rfl) rfl <| Ld ?_
 refine Ai ?_
 refine Aw (fun x : Nat × St => ([(6, .ptr 0 0), (0, .str w)], x.2)) (fun x => w.length - x.1) (fun x => x.1 ≤ tw letterV w ∧ x.2.bound = 0 ∧ x.2.log = [] ∧ x.2.heap.get 0 = some (.siter w x.1)) (0, mkS 1 0 [] [(0, some (.siter w 0))]) ⟨Qo _, rfl, rfl, Dq 0⟩ rfl (by (refine Am.Ap ?_; repeat (first | exact trivial | refine ⟨rfl, ?_⟩))) ?_
 rintro ⟨i, st⟩ ⟨hi, hbd, hlg, hg⟩
 dsimp only at hi hbd hlg hg ⊢
 refine Es ?_
 rcases Nat.lt_or_ge i w.length with h | h
 ·by_cases hc : (w.getD i 0).toNat < 128
  ·refine Lo (OpL.nextOne rfl rfl hg h hc) rfl ?_
   focus
    refine Lq (oe rfl) rfl <| Ld <| Ab <| Ah rfl rfl <| Ac <| Ai <| Es <| Lq (oe rfl) rfl ?_
    refine qa rfl <| Ld <| Es <| qm rfl <| Lq (o2 u_21 rfl rfl) rfl <| qm rfl ?_
    refine Lb rfl (fun g1 => ?_) (fun g1 => ?_)
    have h1 := dT g1
    refine Lh rfl ‹_› (om rfl) <| Lh rfl ‹_› (o2 u_21 rfl rfl) <| Lq (oT rfl ‹_› rfl) rfl <| qm rfl ?_
    refine Lb rfl (fun g2 => ?_) (fun g2 => ?_)
    have h2 := dT g2
    iterate 3 refine Lk rfl ‹_› ?_
    iterate 2 refine RegL.skipT rfl rfl rfl rfl rfl rfl ?_
    refine Lk rfl ‹_› <| Lq (oT rfl ‹_› rfl) rfl <| Lq (on rfl) rfl <| Ld <| An rfl rfl <| Ac ?_
    rotate_left
    have h2 := dF g2
    refine Lh rfl ‹_› (om rfl) <| Lh rfl ‹_› (o2 u_21 rfl rfl) <| Lh rfl ‹_› (om rfl) ?_
    refine Lb rfl (fun g3 => ?_) (fun g3 => ?_)
    have h3 := dT g3
    refine Lh rfl ‹_› (om rfl) <| Lh rfl ‹_› (o2 u_21 rfl rfl) <| Lh rfl ‹_› (oT rfl ‹_› rfl) <| Lq (oF rfl ‹_› rfl) rfl <| Lq (on rfl) rfl <| Ld ?_
    refine Ec rfl (fun g4 => ?_) (fun g4 => ?_)
    have h4 := nT g4
    refine Es <| qa rfl <| Ld ?_
    rotate_left
    have h4 := nF g4
    exact absurd h4 (by omega)
    have h3 := dF g3
    exact absurd h3 (by omega)
    have h1 := dF g1
    iterate 2 refine Lk rfl ‹_› ?_
    refine Lq (oF rfl ‹_› rfl) rfl <| qm rfl <| Lh rfl rfl (om rfl) <| Lh rfl rfl (o2 u_21 rfl rfl) <| Lh rfl rfl (om rfl) ?_
    refine Lb rfl (fun g5 => ?_) (fun g5 => ?_)
    have h5 := dT g5
    refine Lh rfl ‹_› (om rfl) <| Lh rfl ‹_› (o2 u_21 rfl rfl) <| Lh rfl rfl (oT rfl ‹_› rfl) <| Lq (oF rfl rfl rfl) rfl <| Lq (on rfl) rfl <| Ld ?_
    refine Ec rfl (fun g6 => ?_) (fun g6 => ?_)
    have h6 := nT g6
    refine Es <| qa rfl <| Ld ?_
    rotate_left
    have h6 := nF g6
    refine Ac ?_
    rotate_left
    have h5 := dF g5
    iterate 2 refine Lk rfl ‹_› ?_
    refine Lh rfl rfl (oF rfl ‹_› rfl) <| Lq (oF rfl rfl rfl) rfl <| Lq (on rfl) rfl <| Ld <| Ah rfl rfl <| Es <| qa rfl <| Ld ?_
    rotate_left
   ·exact ⟨(i + 1, st.put 0 (some (.siter w (i + 1)))), ⟨letter_yes hi h (letter_of (by omega)), hbd, (put_low hbd).trans hlg, by rw [AS, if_pos rfl]⟩, by show w.length - (i + 1) < w.length - i; omega, rfl, rfl, by (refine Am.Ap ?_; repeat (first | exact trivial | refine ⟨rfl, ?_⟩))⟩
   ·try refine Aa ⟨.inl rfl, rfl, (put_low hbd).trans hlg, hbd, _, _, _, (As rfl rfl), rfl, rfl, ?_⟩
    rw [DW hi h (Dy (by omega))]; rfl
   ·try refine Aa ⟨.inl rfl, rfl, (put_low hbd).trans hlg, hbd, _, _, _, (As rfl rfl), rfl, rfl, ?_⟩
    rw [DW hi h (Dy (by omega))]; rfl
   ·exact ⟨(i + 1, st.put 0 (some (.siter w (i + 1)))), ⟨letter_yes hi h (letter_of (by omega)), hbd, (put_low hbd).trans hlg, by rw [AS, if_pos rfl]⟩, by show w.length - (i + 1) < w.length - i; omega, rfl, rfl, by (refine Am.Ap ?_; repeat (first | exact trivial | refine ⟨rfl, ?_⟩))⟩
   ·try refine Aa ⟨.inl rfl, rfl, (put_low hbd).trans hlg, hbd, _, _, _, (As rfl rfl), rfl, rfl, ?_⟩
    rw [DW hi h (Dy (by omega))]; rfl
  ·obtain ⟨r, d, hr, ho⟩ := OpL.nextWide hg h hc
   refine Lo (ho rfl rfl) rfl ?_
   focus
    refine Lq (oe rfl) rfl <| Ld <| Ab <| Ah rfl rfl <| Ac <| Ai <| Es <| Lq (oe rfl) rfl ?_
    refine qa rfl <| Ld <| Es <| qm rfl <| Lq (o2 u_21 rfl rfl) rfl <| qm rfl ?_
    refine Lb rfl (fun g1 => ?_) (fun g1 => ?_)
    have h1 := dT g1
    refine Lh rfl ‹_› (om rfl) <| Lh rfl ‹_› (o2 u_21 rfl rfl) <| Lq (oT rfl ‹_› rfl) rfl <| qm rfl ?_
    refine Lb rfl (fun g2 => ?_) (fun g2 => ?_)
    have h2 := dT g2
    exact absurd h2 (by omega)
    have h2 := dF g2
    refine Lh rfl ‹_› (om rfl) <| Lh rfl ‹_› (o2 u_21 rfl rfl) <| Lh rfl ‹_› (om rfl) ?_
    refine Lb rfl (fun g3 => ?_) (fun g3 => ?_)
    have h3 := dT g3
    refine Lh rfl ‹_› (om rfl) <| Lh rfl ‹_› (o2 u_21 rfl rfl) <| Lh rfl ‹_› (oT rfl ‹_› rfl) <| Lq (oF rfl ‹_› rfl) rfl <| Lq (on rfl) rfl <| Ld ?_
    refine Ec rfl (fun g4 => ?_) (fun g4 => ?_)
    have h4 := nT g4
    refine Es <| qa rfl <| Ld ?_
    rotate_left
    have h4 := nF g4
    exact absurd h4 (by omega)
    have h3 := dF g3
    exact absurd h3 (by omega)
    have h1 := dF g1
    exact absurd h1 (by omega)
   ·try refine Aa ⟨.inl rfl, rfl, (put_low hbd).trans hlg, hbd, _, _, _, (As rfl rfl), rfl, rfl, ?_⟩
    rw [DW hi h (Dy (by omega))]; rfl
 ·refine Lo (OpL.nextEnd rfl rfl hg (by omega)) rfl ?_
  refine Lq (oe rfl) rfl <| Ld <| Ab <| An rfl rfl <| A5 <| AX rfl <| Es <| qm rfl ?_
  refine Lq (By rfl rfl rfl rfl u_9 rfl) rfl ?_
  refine Lo (Ag rfl rfl (by kernel_rfl) rfl (Ae (hit_76))) rfl <| qa rfl <| Ld ?_
  refine Aa ⟨.inl rfl, rfl, ‹_›, ‹_›, _, _, _, (As rfl rfl), rfl, rfl, ?_⟩
  refine Ad ?_
  try refine Aa ⟨.inl rfl, rfl, hlg, hbd, _, _, _, (As rfl rfl), rfl, rfl, ?_⟩
  have e : tw letterV w = w.length := by omega
  unfold nameV
  rw [decide_eq_true e]; rfl
noncomputable def K1s := addC K1n 75 (fun w : { w : List UInt8 // w.length ≤ 4000 }=>[.str w.1]) (fun w=>.bool (nameV w.1))
theorem hit_75 {w : List UInt8} (hw : w.length ≤ 4000) : K1s 75 [.str w] = some (.bool (nameV w)) :=
 AD (f := 75) (enc := fun w : { w : List UInt8 // w.length ≤ 4000 } => [.str w.1]) (res := fun w => .bool (nameV w.1)) (by rintro ⟨a, _⟩ ⟨b, _⟩ h; cases h; rfl) ⟨w, hw⟩
theorem all1s (h : KnownF Tryz.prog 10 [] (.bool true)) : KnownAll Tryz.prog K1s := by
 have a1 : KnownAll Tryz.prog K1n := Bw (all1 h) fun p => Dp AE (all1 h) (name_to p.1 p.2) rfl rfl
 exact Bw a1 fun p => Dp AE a1 (spelled_to p.1 p.2) rfl rfl
theorem flat_inj {α : Type} {enc : α → List AV} {k : Nat} (hi : ∀ a b, enc a = enc b → a = b) (hl : ∀ a, (enc a).length = k + 1) : ∀ {l m : List α}, l.flatMap enc = m.flatMap enc → l = m
 | [], [], _ => rfl
 | [], b :: m, h => by
  have := congrArg List.length h
  rw [List.flatMap_cons, Qm, hl b, List.flatMap_nil, List.length_nil] at this
  omega
 | a :: l, [], h => by
  have := congrArg List.length h
  rw [List.flatMap_cons, Qm, hl a, List.flatMap_nil, List.length_nil] at this
  omega
 | a :: l, b :: m, h => by
  rw [List.flatMap_cons, List.flatMap_cons] at h
  obtain ⟨h1, h2⟩ := List.append_inj h ((hl a).trans (hl b).symm)
  rw [hi a b h1, flat_inj hi hl h2]
theorem AT {α : Type} {enc : α → List AV} {k : Nat} (hi : ∀ a b, enc a = enc b → a = b) (hl : ∀ a, (enc a).length = k + 1) {l m : List α} (h : recs enc (k + 1) l = recs enc (k + 1) m) : l = m := by
 unfold recs at h
 exact flat_inj hi hl (AV.islice.inj h).1
abbrev NameT := List UInt8 × Int
def encN (p : NameT) : List AV := [.str p.1,.int .i64 p.2]
theorem AH (p : NameT) : (encN p).length = 1 + 1 := rfl
theorem B6 (a b : NameT) (h : encN a = encN b) : a = b := by
 obtain ⟨a1, a2⟩ := a
 obtain ⟨b1, b2⟩ := b
 cases h; rfl
def shortV (l : List NameT) (i : Nat) : Bool := (l.take i).all fun p=>decide (p.1.length ≤ 30)
theorem short_succ {l : List NameT} {i : Nat} (h : i < l.length) : shortV l (i + 1) = (shortV l i && decide (l[i].1.length ≤ 30)) := by
 unfold shortV
 rw [List.take_add_one, Qi h, Option.toList_some, List.all_append]; simp
theorem short_all {l : List NameT} {i : Nat} (h : shortV l l.length = true) (hi : i ≤ l.length) : shortV l i = true := by
 unfold shortV at h ⊢
 rw [List.take_length] at h
 exact List.all_eq_true.2 fun x hx => List.all_eq_true.1 h x (List.mem_of_mem_take hx)
theorem short_no {l : List NameT} {i : Nat} (h : i < l.length) (hn : ¬ l[i].1.length ≤ 30) : shortV l l.length = false := by
 cases hb : shortV l l.length with
 | false => rfl
 | true =>
  have := short_all hb h
  rw [short_succ h, decide_eq_false hn, Bool.and_false] at this; cases this
def smallSigV (c f : List NameT) : Bool := !(decide (16 < (c.length : Int)) || decide (12 < (f.length : Int))) && (shortV c c.length && shortV f f.length)
theorem smallSig_to (c f : List NameT) : CallTo (EK K1s) 25 [.agg [recs encN 2 c, recs encN 2 f]] S0 (.bool (smallSigV c f)) := by
 refine Ax (fn := Tryz.f25) rfl rfl (by kernel_rfl) rfl rfl rfl rfl ?_
 focus
  refine Es <| Lo (Az 1 rfl rfl rfl rfl) rfl <| qa rfl <| Ld <| Ab <| Es <| Lq (of BU rfl) rfl <| Lo (l1 Bp Bo rfl) rfl ?_
  refine Lq (ol DF rfl) rfl <| Lq (o2 u_3 rfl rfl) rfl <| qm rfl ?_
  refine Lb rfl (fun g1 => ?_) (fun g1 => ?_)
  have h1 := dT g1
  iterate 4 refine Lk rfl ‹_› ?_
  refine Lq (oT rfl ‹_› rfl) rfl <| Ld <| Ah rfl rfl <| Es <| qa rfl <| Ld ?_
  refine Aa (Er rfl ?_)
  refine Ad ?_
  rotate_left
  have h1 := dF g1
  refine Lh rfl ‹_› (of BT rfl) <| Lg rfl ‹_› (l1 Bp Bo rfl) <| Lh rfl ‹_› (ol DF rfl) <| Lh rfl ‹_› (o2 u_3 rfl rfl) <| Lq (oF rfl ‹_› rfl) rfl <| Ld ?_
  refine Ec rfl (fun g2 => ?_) (fun g2 => ?_)
  have h2 := dT g2
  refine Es <| qa rfl <| Ld ?_
  refine Aa (Er rfl ?_)
  refine Ad ?_
  rotate_left
  have h2 := dF g2
  refine Ac <| Ab <| Es <| qa rfl <| Ld <| Ai ?_
  rotate_left
 ·unfold smallSigV; rw [g1]; rfl
 ·unfold smallSigV; rw [g1, g2]; rfl
 refine Aw (fun i : Nat => ([(3, .int .i64 (i : Nat)), (1, .ptr 0 0)], mkS 1 0 [] [(0, some (.cells [recs encN 2 c, recs encN 2 f] 24 false))])) (fun i => c.length - i) (fun i => i ≤ c.length ∧ shortV c i = true) 0 ⟨Qo _, rfl⟩ rfl (by (refine Am.Ap ?_; repeat (first | exact trivial | refine ⟨rfl, ?_⟩))) ?_
 rintro i ⟨hi, hs⟩
 dsimp only at hi hs ⊢
 by_cases h : i < c.length
 ·have hp := A1 AH h
  focus
   refine Ab <| Es <| qm rfl <| Lq (of BU rfl) rfl <| Lo (l1 Bp Bo rfl) rfl <| Lq (ol DF rfl) rfl <| Lq (o2 u_3 rfl rfl) rfl <| Ld ?_
   refine Ec rfl (fun g3 => ?_) (fun g3 => ?_)
   have h3 := dT g3
   refine Ac <| Ab <| Ai <| Es <| Lq (of BU rfl) rfl <| Lo (l1 Bp Bo rfl) rfl <| qm rfl <| Lq (Af rfl DF BI rfl rfl ‹_›) rfl ?_
   refine Lq (A0 rfl f_54_0 rfl (Qc rfl)) rfl <| Lq (A3 rfl rfl ag_9 sz_9) rfl <| Lq (By rfl rfl rfl rfl u_9 rfl) rfl <| Lq (o2 u_3 rfl rfl) rfl <| Ld ?_
   refine Ec rfl (fun g4 => ?_) (fun g4 => ?_)
   have h4 := dT g4
   refine Es <| qa rfl <| Ld ?_
   refine Aa (Er rfl ?_)
   refine Ad ?_
   rotate_left
   have h4 := dF g4
   refine Ac <| Ao <| qm rfl ?_
   refine Lq (At (b := 1) rfl u_3 rfl rfl (by first | assumption | omega | (simp only [LL]; omega))) rfl ?_
   refine qa rfl <| Ld ?_
   rotate_left
   have h3 := dF g3
   exact absurd h3 (by omega)
  ·have hc : shortV c c.length = false := short_no h (by omega)
   unfold smallSigV
   rw [hc, Bool.false_and, Bool.and_false]
  ·exact ⟨i + 1, ⟨h, by rw [short_succ h, hs, decide_eq_true (show c[i].1.length ≤ 30 by omega)]; rfl⟩, by show c.length - (i + 1) < c.length - i; omega, rfl, rfl, by (refine Am.Ap ?_; repeat (first | exact trivial | refine ⟨rfl, ?_⟩))⟩
 ·focus
   refine Ab <| Es <| qm rfl <| Lq (of BU rfl) rfl <| Lo (l1 Bp Bo rfl) rfl <| Lq (ol DF rfl) rfl <| Lq (o2 u_3 rfl rfl) rfl <| Ld ?_
   refine Ec rfl (fun g3 => ?_) (fun g3 => ?_)
   have h3 := dT g3
   exact absurd h3 (by omega)
   have h3 := dF g3
   refine A5 <| AX rfl <| Ab <| Es <| qa rfl <| Ld <| Ai ?_
   rotate_left
  obtain rfl : i = c.length := by omega
  refine Aw (fun i : Nat => ([(4, .int .i64 (i : Nat)), (1, .ptr 0 0)], mkS 1 0 [] [(0, some (.cells [recs encN 2 c, recs encN 2 f] 24 false))])) (fun i => f.length - i) (fun i => i ≤ f.length ∧ shortV f i = true) 0 ⟨Qo _, rfl⟩ rfl (by (refine Am.Ap ?_; repeat (first | exact trivial | refine ⟨rfl, ?_⟩))) ?_
  rintro j ⟨hj, hs2⟩
  dsimp only at hj hs2 ⊢
  by_cases h2 : j < f.length
  ·have hp := A1 AH h2
   focus
    refine Ab <| Es <| qm rfl <| Lq (of BT rfl) rfl <| Lo (l1 Bp Bo rfl) rfl <| Lq (ol DF rfl) rfl <| Lq (o2 u_3 rfl rfl) rfl <| Ld ?_
    refine Ec rfl (fun g4 => ?_) (fun g4 => ?_)
    have h4 := dT g4
    refine Ac <| Ab <| Ai <| Es <| Lq (of BT rfl) rfl <| Lo (l1 Bp Bo rfl) rfl <| qm rfl <| Lq (Af rfl DF BI rfl rfl ‹_›) rfl ?_
    refine Lq (A0 rfl f_54_0 rfl (Qc rfl)) rfl <| Lq (A3 rfl rfl ag_9 sz_9) rfl <| Lq (By rfl rfl rfl rfl u_9 rfl) rfl <| Lq (o2 u_3 rfl rfl) rfl <| Ld ?_
    refine Ec rfl (fun g5 => ?_) (fun g5 => ?_)
    have h5 := dT g5
    refine Es <| qa rfl <| Ld ?_
    refine Aa (Er rfl ?_)
    refine Ad ?_
    rotate_left
    have h5 := dF g5
    refine Ac <| Ao <| qm rfl ?_
    refine Lq (At (b := 1) rfl u_3 rfl rfl (by first | assumption | omega | (simp only [LL]; omega))) rfl ?_
    refine qa rfl <| Ld ?_
    rotate_left
    have h4 := dF g4
    exact absurd h4 (by omega)
   ·have hc : shortV f f.length = false := short_no h2 (by omega)
    unfold smallSigV
    rw [hc, Bool.and_false, Bool.and_false]
   ·exact ⟨j + 1, ⟨h2, by rw [short_succ h2, hs2, decide_eq_true (show f[j].1.length ≤ 30 by omega)]; rfl⟩, by show f.length - (j + 1) < f.length - j; omega, rfl, rfl, by (refine Am.Ap ?_; repeat (first | exact trivial | refine ⟨rfl, ?_⟩))⟩
  ·focus
    refine Ab <| Es <| qm rfl <| Lq (of BT rfl) rfl <| Lo (l1 Bp Bo rfl) rfl <| Lq (ol DF rfl) rfl <| Lq (o2 u_3 rfl rfl) rfl <| Ld ?_
    refine Ec rfl (fun g4 => ?_) (fun g4 => ?_)
    have h4 := dT g4
    exact absurd h4 (by omega)
    have h4 := dF g4
    refine A5 <| AX rfl <| Es <| qa rfl <| Ld ?_
    refine Aa (Er rfl ?_)
    refine Ad ?_
    rotate_left
   obtain rfl : j = f.length := by omega
   unfold smallSigV
   rw [g1, g2, hs, hs2]; rfl
noncomputable def K2 := addC K1s 25 (fun p : List NameT × List NameT=>[.agg [recs encN 2 p.1,recs encN 2 p.2]]) (fun p=>.bool (smallSigV p.1 p.2))
theorem encS_inj {p q : List NameT × List NameT} (h : ([.agg [recs encN 2 p.1, recs encN 2 p.2]] : List AV) = [.agg [recs encN 2 q.1, recs encN 2 q.2]]) : p = q := by
 simp only [List.cons.injEq, AV.agg.injEq, and_true] at h
 exact Prod.ext (AT B6 AH h.1) (AT B6 AH h.2)
theorem hit_25 {c f : List NameT} : K2 25 [.agg [recs encN 2 c, recs encN 2 f]] = some (.bool (smallSigV c f)) :=
 AD (f := 25) (enc := fun p : List NameT × List NameT => [.agg [recs encN 2 p.1, recs encN 2 p.2]]) (res := fun p => .bool (smallSigV p.1 p.2)) (fun p q h => by rw [encS_inj h]) (c, f)
theorem all2 (h : KnownF Tryz.prog 10 [] (.bool true)) : KnownAll Tryz.prog K2 := BH AE (all1s h) (fun p=>smallSig_to p.1 p.2) (fun _=>rfl) (fun _=>rfl)
def okN (before : List (List UInt8)) (p : NameT) : Bool := !(before.contains p.1) && (nameV p.1 && inV p.2 0 4)
def namesV : List (List UInt8) → List NameT → Option (List (List UInt8))
 | bs, [] => some bs
 | bs, p :: l => if okN bs p then namesV (bs ++ [p.1]) l else none
def strsV : List (List UInt8) → AV
 | [] => .nilslice
 | a :: l => .islice ((a :: l).map .str) (a :: l).length 1 true
theorem strsV_ne {l : List (List UInt8)} (h : l ≠ []) : strsV l = .islice (l.map .str) l.length 1 true := by
 cases l with
 | nil => exact absurd rfl h
 | cons a l => rfl
theorem strs_closed (l : List (List UInt8)) : (l.map AV.str).all (closedV 40) = true := by
 rw [List.all_map]; exact List.all_eq_true.2 fun _ _ => rfl
theorem strs_plain (l : List (List UInt8)) : (l.map AV.str).all plainV = true := by
 rw [List.all_map]; exact List.all_eq_true.2 fun _ _ => rfl
theorem StrsR.frz {s : St} {v : AV} {l : List (List UInt8)} (h : StrsR s v l) (hn : l = [] → v = .nilslice) (m : Nat) : ∃ ks, frzV s 0 (m + 2) v [] = some (strsV l, ks) := by
 rcases h with ⟨rfl, rfl⟩ | ⟨cl, rfl⟩ | ⟨b, off, cap, cs, e, part, rfl, hb, hg, h1, h2, h3⟩
 ·exact ⟨[], rfl⟩
 ·have hne : l ≠ [] := fun e => by have := hn e; cases this
  rw [strsV_ne hne]
  cases cl with
  | true => exact ⟨[], rfl⟩
  | false =>
   refine ⟨[], ?_⟩
   show (frzV.many (frzV s 0 (m + 1)) (l.map .str) []).bind _ = _
   rw [frz_many (strs_plain l)]
   show some (AV.islice _ _ _ ((l.map AV.str).all (closedV 40)), _) = _
   rw [strs_closed]
 ·have hne : l ≠ [] := fun e => by have := hn e; cases this
  rw [strsV_ne hne]
  refine ⟨[b], ?_⟩
  show (cellsOf? (s.heap.get b)).bind _ = _
  rw [hg]
  show (cut cs off (l.length * 1)).bind _ = _
  have hc : cut cs off (l.length * 1) = some (l.map .str) := by
   rw [Nat.mul_one]
   rw [cut_eq h1, h2]
  rw [hc]
  show (frzV.many (frzV s 0 (m + 1)) (l.map .str) []).bind _ = _
  rw [frz_many (strs_plain l)]
  show some (AV.islice _ _ _ ((l.map AV.str).all (closedV 40)), _) = _
  rw [strs_closed]
def namesR : Option (List (List UInt8)) → AV
 | some bs => .tuple [strsV bs, .bool true]
 | none => .tuple [.nilslice, .bool false]
theorem has_at {cs : List (List UInt8)} {j : Nat} {w : List UInt8} (h : j < cs.length) (e : cs[j] = w) : cs.contains w = true := by
 rw [← e]; simp
theorem has_no {cs : List (List UInt8)} {j : Nat} {w : List UInt8} (h : j < cs.length) (hno : (cs.take j).contains w = false) (e : cs[j] ≠ w) : (cs.take (j + 1)).contains w = false := by
 rw [List.take_add_one, Qi h, Option.toList_some]
 simp only [List.contains_eq_mem, List.mem_append, Qp, decide_eq_false_iff_not] at hno ⊢
 rintro (h1 | h1)
 ·exact hno h1
 ·exact e h1.symm
theorem names_to (l : List NameT) (bs : List (List UInt8)) (hl : ∀ p ∈ l, p.1.length ≤ 4000) (hn : l.length ≤ 4000 ∧ bs.length ≤ 4000) :
  CallTo (EK K2) 105 [recs encN 2 l, strsV bs] S0 (namesR (namesV bs l)) := by
 refine Ax (fn := Tryz.f105) rfl rfl (by kernel_rfl) rfl rfl rfl rfl <| Es ?_
 iterate 2 refine qa rfl ?_
 refine Ld <| Ab <| Es <| qa rfl <| Ld <| Ai ?_
 refine Aw (fun x : Nat × AV × List (List UInt8) × St => ([(6, .int .i64 (x.1 : Nat)), (0, recs encN 2 l), (1, x.2.1)], x.2.2.2)) (fun x => l.length - x.1)
  (fun x => x.1 ≤ l.length ∧ x.2.2.2.bound = 0 ∧ x.2.2.2.log = [] ∧ StrsR x.2.2.2 x.2.1 x.2.2.1 ∧ namesV bs l = namesV x.2.2.1 (l.drop x.1) ∧ x.2.2.1.length = bs.length + x.1 ∧ (x.2.2.1 = [] → x.2.1 = .nilslice)) (0, strsV bs, bs, mkS 0 0 [] []) ⟨Qo _, rfl, rfl, ?_, rfl, rfl, ?_⟩ rfl (by (refine Am.Ap ?_; repeat (first | exact trivial | refine ⟨rfl, ?_⟩))) ?_
 ·cases bs with
  | nil => exact .inl ⟨rfl, rfl⟩
  | cons a t => exact .inr (.inl ⟨true, rfl⟩)
 ·rintro rfl; rfl
 rintro ⟨i, v, cs, st⟩ ⟨hi, hbd, hlg, hst, hnv, hcl, hnn⟩
 dsimp only at hi hbd hlg hst hnv hcl hnn ⊢
 by_cases h : i < l.length
 ·have hp := A1 AH h
  have hpl := hl _ (Ql h)
  have hno0 : okN cs l[i] = false → namesV bs l = none := fun hb => by
   rw [hnv, List.drop_eq_getElem_cons h]
   show (if okN cs l[i] then _ else none) = none
   rw [hb]; rfl
  focus
   refine Ab <| Es ?_
   iterate 2 refine qm rfl ?_
   refine Lq (ol DF rfl) rfl <| Lq (o2 u_3 rfl rfl) rfl <| Ld ?_
   refine Ec rfl (fun g1 => ?_) (fun g1 => ?_)
   have h1 := dT g1
   refine Ac <| Ab <| Ai <| Ab <| Es <| qa rfl <| Ld <| Ai ?_
   rotate_left
   have h1 := dF g1
   exact absurd h1 (by omega)
  refine Aw (fun j : Nat => ([(7, .int .i64 (j : Nat)), (6, .int .i64 (i : Nat)), (0, recs encN 2 l), (1, v)], st)) (fun j => cs.length - j) (fun j => j ≤ cs.length ∧ (cs.take j).contains l[i].1 = false) 0 ⟨Qo _, rfl⟩ rfl (by (refine Am.Ap ?_; repeat (first | exact trivial | refine ⟨rfl, ?_⟩))) ?_
  rintro j ⟨hj, hno⟩
  dsimp only at hj hno ⊢
  have hlen := hst.len
  by_cases h2' : j < cs.length
  ·rcases hst.at2 (E := EK K2) h2' ag_9 sz_9 with ⟨rest, hp2⟩ | ⟨b, off, hp2, hld⟩
   ·focus
     refine Ab <| Es ?_
     iterate 2 refine qm rfl ?_
     refine Lq (D5 rfl rfl rfl rfl D7 rfl ‹_›) rfl <| Lq (o2 u_3 rfl rfl) rfl <| Ld ?_
     refine Ec rfl (fun g2 => ?_) (fun g2 => ?_)
     have h2 := dT g2
     refine Ac <| Ab <| Ai <| Av (by kernel_rfl) ?_
     iterate 2 refine Nq (om rfl) rfl ?_
     refine Nq (Af rfl D7 sz_9 rfl rfl ‹_›) rfl <| Nq (A3 rfl rfl ag_9 sz_9) rfl ?_
     iterate 2 refine Nq (om rfl) rfl ?_
     refine Nq (Af rfl DF BI rfl rfl ‹_›) rfl <| Nq (A0 rfl f_54_0 rfl (Qc rfl)) rfl <| Nq (A3 rfl rfl ag_9 sz_9) rfl <| Nq (OpQ.str2 rfl u_9 rfl rfl rfl rfl) rfl <| Ay ?_
     refine Ec rfl (fun g3 => ?_) (fun g3 => ?_)
     have h3 := bT g3
     refine Es ?_
     iterate 2 refine qa rfl ?_
     refine Ld ?_
     refine Aa ⟨.inl rfl, rfl, ‹_›, ‹_›, _, _, _, (As rfl (As rfl rfl)), rfl, rfl, ?_⟩
     rotate_left
     have h3 := bF g3
     refine Ac <| Ao <| qm rfl ?_
     refine Lq (At (b := 1) rfl u_3 rfl rfl (by first | assumption | omega | (simp only [LL]; omega))) rfl ?_
     refine qa rfl <| Ld ?_
     rotate_left
     have h2 := dF g2
     exact absurd h2 (by omega)
    ·try refine Aa ⟨.inl rfl, rfl, hlg, hbd, _, _, _, (As rfl (As rfl rfl)), rfl, rfl, ?_⟩
     rw [hno0 (by unfold okN; rw [has_at h2' h3]; rfl)]; rfl
    ·exact ⟨j + 1, ⟨h2', has_no h2' hno h3⟩, by show cs.length - (j + 1) < cs.length - j; omega, rfl, rfl, by (refine Am.Ap ?_; repeat (first | exact trivial | refine ⟨rfl, ?_⟩))⟩
   ·focus
     refine Ab <| Es ?_
     iterate 2 refine qm rfl ?_
     refine Lq (D5 rfl rfl rfl rfl D7 rfl ‹_›) rfl <| Lq (o2 u_3 rfl rfl) rfl <| Ld ?_
     refine Ec rfl (fun g2 => ?_) (fun g2 => ?_)
     have h2 := dT g2
     refine Ac <| Ab <| Ai <| Av (by kernel_rfl) ?_
     iterate 2 refine Nq (om rfl) rfl ?_
     refine Nq (Af rfl D7 sz_9 rfl rfl ‹_›) rfl <| AL rfl rfl ‹_› rfl (.inl rfl) rfl rfl ?_
     iterate 2 refine Nq (om rfl) rfl ?_
     refine Nq (Af rfl DF BI rfl rfl ‹_›) rfl <| Nq (A0 rfl f_54_0 rfl (Qc rfl)) rfl <| Nq (A3 rfl rfl ag_9 sz_9) rfl <| Nq (OpQ.str2 rfl u_9 rfl rfl rfl rfl) rfl <| Ay ?_
     refine Ec rfl (fun g3 => ?_) (fun g3 => ?_)
     have h3 := bT g3
     refine Es ?_
     iterate 2 refine qa rfl ?_
     refine Ld ?_
     refine Aa ⟨.inl rfl, rfl, ‹_›, ‹_›, _, _, _, (As rfl (As rfl rfl)), rfl, rfl, ?_⟩
     rotate_left
     have h3 := bF g3
     refine Ac <| Ao <| qm rfl ?_
     refine Lq (At (b := 1) rfl u_3 rfl rfl (by first | assumption | omega | (simp only [LL]; omega))) rfl ?_
     refine qa rfl <| Ld ?_
     rotate_left
     have h2 := dF g2
     exact absurd h2 (by omega)
    ·try refine Aa ⟨.inl rfl, rfl, hlg, hbd, _, _, _, (As rfl (As rfl rfl)), rfl, rfl, ?_⟩
     rw [hno0 (by unfold okN; rw [has_at h2' h3]; rfl)]; rfl
    ·exact ⟨j + 1, ⟨h2', has_no h2' hno h3⟩, by show cs.length - (j + 1) < cs.length - j; omega, rfl, rfl, by (refine Am.Ap ?_; repeat (first | exact trivial | refine ⟨rfl, ?_⟩))⟩
  ·obtain rfl : j = cs.length := by omega
   rw [List.take_length] at hno
   focus
    refine Ab <| Es ?_
    iterate 2 refine qm rfl ?_
    refine Lq (D5 rfl rfl rfl rfl D7 rfl ‹_›) rfl <| Lq (o2 u_3 rfl rfl) rfl <| Ld ?_
    refine Ec rfl (fun g2 => ?_) (fun g2 => ?_)
    have h2 := dT g2
    exact absurd h2 (by omega)
    have h2 := dF g2
    refine A5 <| AX rfl <| Ab <| Es ?_
    iterate 2 refine qm rfl ?_
    refine Lq (Af rfl DF BI rfl rfl ‹_›) rfl <| Lq (A0 rfl f_54_0 rfl (Qc rfl)) rfl <| Lq (A3 rfl rfl ag_9 sz_9) rfl ?_
    refine Lo (Ag rfl rfl (by kernel_rfl) rfl (Ae (hit_140 (by first | assumption | omega | (simp only [LL]; omega))))) rfl ?_
    refine Lq (on rfl) rfl <| qm rfl ?_
    refine Lb rfl (fun g3 => ?_) (fun g3 => ?_)
    have h3 := DK g3
    iterate 7 refine Lk rfl ‹_› ?_
    refine Lq (oT rfl ‹_› rfl) rfl <| Ld <| Ah rfl rfl <| Es ?_
    iterate 2 refine qa rfl ?_
    refine Ld ?_
    refine Aa ⟨.inl rfl, rfl, ‹_›, ‹_›, _, _, _, (As rfl (As rfl rfl)), rfl, rfl, ?_⟩
    rotate_left
    have h3 := DL g3
    iterate 2 refine Lh rfl ‹_› (om rfl) ?_
    refine Lh rfl ‹_› (Af rfl DF BI rfl rfl ‹_›) <| Lh rfl ‹_› (A0 rfl f_54_1 rfl (Qc rfl)) <| Lh rfl ‹_› (A3 rfl rfl Bj AY) ?_
    refine Lg rfl ‹_› (Ag rfl rfl (by kernel_rfl) rfl (Ae (hit_104))) <| Lh rfl ‹_› (on rfl) <| Lq (oF rfl ‹_› rfl) rfl <| Ld ?_
    refine Ec rfl (fun g4 => ?_) (fun g4 => ?_)
    have h4 := DK g4
    refine Es ?_
    iterate 2 refine qa rfl ?_
    refine Ld ?_
    refine Aa ⟨.inl rfl, rfl, ‹_›, ‹_›, _, _, _, (As rfl (As rfl rfl)), rfl, rfl, ?_⟩
    rotate_left
    have h4 := DL g4
    refine Ac <| EN (by kernel_rfl) <| Nq (om rfl) rfl ?_
    rotate_left
   ·try refine Aa ⟨.inl rfl, rfl, hlg, hbd, _, _, _, (As rfl (As rfl rfl)), rfl, rfl, ?_⟩
    rw [hno0 (by unfold okN; rw [h3, Bool.false_and, Bool.and_false])]; rfl
   ·try refine Aa ⟨.inl rfl, rfl, hlg, hbd, _, _, _, (As rfl (As rfl rfl)), rfl, rfl, ?_⟩
    rw [hno0 (by unfold okN; rw [h4, Bool.and_false, Bool.and_false])]; rfl
   have hok : okN cs l[i] = true := by unfold okN; rw [hno, h3, h4]; rfl
   have hsm : small (cs.map AV.str).length 16 = true := by
    rw [Qn]
    exact small_ok (by omega) (by decide)
   obtain ⟨v1, s2, ha1, hn1, hn2, hl1, hG1, ho1, hk1, hml1, hmb1⟩ := fresh_append (st := st) (e := 9) (by_ := 16) (new := cs.map .str) hsm hbd
   refine RegN.append rfl rfl rfl rfl D7 sz_9 by_9 z_9 rfl rfl rfl rfl (StrsR.appended (hst.keep (Qj _) fun _ _ => rfl)) (by rw [Qn] at ha1; exact ha1) hn1 (by rw [hl1]; intro b hb; cases hb) (by kernel_rfl) rfl (.inl rfl) rfl rfl ?_
   rw [hl1]
   iterate 2 refine Nq (om rfl) rfl ?_
   refine Nq (Af rfl DF BI rfl rfl ‹_›) rfl <| Nq (A0 rfl f_54_0 rfl (Qc rfl)) rfl <| Nq (A3 rfl rfl ag_9 sz_9) rfl <| Bx rfl D7 sz_9 z_9 rfl rfl rfl (.inl rfl) rfl rfl ?_
   generalize hst1 : st.merged s2 = st1 at *
   have hG2 : Grown (st1.alloc (.cells [.str l[i].1] 9 false)) 9 1 v1 (cs.map .str) (cs.map AV.str).length := hG1.keep (Nat.le_succ _) fun c hc => by
    have := ho1 c hc
    have hlt : c ≠ st1.next := by
     intro e
     rcases hG1 with ⟨rfl, _⟩ | ⟨b, rfl, hb, _⟩
     ·cases hc
     ·have := Qb hc; omega
    show (st1.heap.set st1.next _).get c = _
    rw [AC, if_neg hlt]
   have hs2 : small ((cs.map AV.str).length + 1) 16 = true := by
    rw [Qn]
    exact small_ok (by omega) (by decide)
   obtain ⟨v2, s3, ha2, hn3, hl3, hG3, ho3, hk3, hlg3⟩ := hG2.appendM (by_ := 16) (new := [.str l[i].1]) rfl (by decide) rfl hs2
   refine RegN.append rfl rfl rfl rfl D7 sz_9 by_9 z_9 rfl rfl rfl rfl (n := 1) (new := [.str l[i].1]) ?_ ha2 (by rw [hn3]; exact Nat.le_succ _) (fun b hb => ⟨hl3 b hb, ?_⟩) (by kernel_rfl) ?_ (.inl rfl) rfl rfl ?_
   ·show (cellsOf? ((st1.heap.set st1.next _).get st1.next)).bind _ = _
    rw [AC, if_pos rfl]; rfl
   ·exact clear_all (cons_all (by kernel_rfl) (tag_all (by kernel_rfl) (tag_all (by kernel_rfl) rfl _) _))
   ·exact cons_all (by kernel_rfl) (tag_all (by kernel_rfl) (tag_all (by kernel_rfl) rfl _) _)
   refine Nq (oa rfl) rfl <| Ay <| Ao <| qm rfl ?_
   refine Lq (At (b := 1) rfl u_3 rfl rfl (by first | assumption | omega | (simp only [LL]; omega))) rfl ?_
   refine qa rfl <| Ld ?_
   have hbd2 : (st1.alloc (.cells [.str l[i].1] 9 false)).bound = 0 := hmb1
   refine ⟨(i + 1, v2, cs ++ [l[i].1], (st1.alloc (.cells [.str l[i].1] 9 false)).merged s3), ⟨h, hbd2, (hlg3 hbd2).trans (hml1.trans hlg), Grown.strs (n := (cs.map AV.str).length + 1) (by rw [List.map_append]; exact hG3) (by simp), ?_, by simp; omega, fun e => by simp at e⟩, by show l.length - (i + 1) < l.length - i; omega, rfl, rfl, by (refine Am.Ap ?_; repeat (first | exact trivial | refine ⟨rfl, ?_⟩))⟩
   rw [hnv, List.drop_eq_getElem_cons h]
   show (if okN cs l[i] then _ else none) = _
   rw [hok]; rfl
 ·focus
   refine Ab <| Es ?_
   iterate 2 refine qm rfl ?_
   refine Lq (ol DF rfl) rfl <| Lq (o2 u_3 rfl rfl) rfl <| Ld ?_
   refine Ec rfl (fun g1 => ?_) (fun g1 => ?_)
   have h1 := dT g1
   exact absurd h1 (by omega)
   have h1 := dF g1
   refine A5 <| AX rfl <| Es <| qm rfl ?_
   iterate 2 refine qa rfl ?_
   refine Ld ?_
   rotate_left
  obtain rfl : i = l.length := by omega
  rw [List.drop_length] at hnv
  have hr : namesV bs l = some cs := hnv
  rw [hr]
  obtain ⟨ks, hf⟩ := StrsR.frz hst hnn 37
  refine Aa ⟨.inl rfl, rfl, hlg, hbd, _, .tuple [strsV cs, .bool true], ks, (As rfl (As rfl rfl)), ?_, ?_, rfl⟩
  ·show (frzV.many (frzV st 0 39) [v, .bool true] []).bind _ = _
   unfold frzV.many frzV.many frzV.many
   rw [hf]; rfl
  ·cases cs with
   | nil => rfl
   | cons a t => rfl
theorem strsV_inj {a b : List (List UInt8)} (h : strsV a = strsV b) : a = b := by
 have hm : ∀ {x y : List (List UInt8)}, x.map AV.str = y.map AV.str → x = y := fun {x y} h => List.map_inj_right (fun _ _ h => AV.str.inj h) |>.1 h
 cases a with
 | nil => cases b with
  | nil => rfl
  | cons x y => cases h
 | cons x y => cases b with
  | nil => cases h
  | cons z w => exact hm (AV.islice.inj h).1
abbrev NamesA := { p : List NameT × List (List UInt8) // (∀ q ∈ p.1,q.1.length ≤ 4000) ∧ p.1.length ≤ 4000 ∧ p.2.length ≤ 4000 }
noncomputable def K4 := addC K2 105 (fun p : NamesA=>[recs encN 2 p.1.1,strsV p.1.2]) (fun p=>namesR (namesV p.1.2 p.1.1))
theorem hit_105 {l : List NameT} {bs : List (List UInt8)} (h1 : ∀ q ∈ l, q.1.length ≤ 4000) (h2 : l.length ≤ 4000) (h3 : bs.length ≤ 4000) : K4 105 [recs encN 2 l, strsV bs] = some (namesR (namesV bs l)) :=
 AD (f := 105) (enc := fun p : NamesA => [recs encN 2 p.1.1, strsV p.1.2]) (res := fun p => namesR (namesV p.1.2 p.1.1)) (by
  rintro ⟨⟨a, b⟩, _⟩ ⟨⟨c, d⟩, _⟩ h
  simp only [List.cons.injEq, and_true] at h
  obtain rfl := AT B6 AH h.1
  obtain rfl := strsV_inj h.2
  rfl) ⟨(l, bs), h1, h2, h3⟩
theorem namesR_closed (o : Option (List (List UInt8))) : closedV 40 (namesR o) = true := by
 rcases o with _ | _ | ⟨a, l⟩ <;> rfl
theorem inV_iff {n a b : Int} : inV n a b = true ↔ a ≤ n ∧ n ≤ b := by
 unfold inV; simp only [Qf, decide_eq_true_eq]
theorem all4 (h : KnownF Tryz.prog 10 [] (.bool true)) : KnownAll Tryz.prog K4 := BH AE (all2 h) (fun p : NamesA=>names_to p.1.1 p.1.2 p.2.1 p.2.2) (fun p=>by obtain ⟨⟨a,_ | ⟨b,c⟩⟩,_⟩ := p <;> rfl) (fun _=>namesR_closed _)
theorem eqN (a b : NameT) : boolV true (eqKd (.flat [.string, .int .i64]) (.agg (encN a)) (.agg (encN b))) = some (.bool (!(decide (a = b)))) := by
 obtain ⟨a1, a2⟩ := a
 obtain ⟨b1, b2⟩ := b
 show boolV true ((some (bytesEq a1 b1)).bind fun r => bif r then (some (decide (a2 = b2))).bind (fun r => bif r then some true else some false) else some false) = _
 by_cases h1 : a1 = b1
 ·subst h1
  rw [Bc, decide_eq_true rfl]
  by_cases h2 : a2 = b2
  ·subst h2; simp [boolV]
  ·simp [boolV, h2]
 ·rw [Bc, decide_eq_false h1]
  simp [boolV, h1]
def nFalse : NameT := ([70,97,108,115,101],0)
def nTrue : NameT := ([84,114,117,101],0)
def sigV (c f : List NameT) : Bool := (inV c.length 2 12 && decide ((f.length : Int) ≤ 8) && decide (c[0]? = some nFalse) && decide (c[1]? = some nTrue)) &&
 match namesV [] c with
 | some l => (namesV l f).isSome
 | none => false
theorem namesV_len {l : List NameT} {bs cs : List (List UInt8)} (h : namesV bs l = some cs) : cs.length = bs.length + l.length := by
 induction l generalizing bs with
 | nil => cases h; rfl
 | cons p l ih =>
  unfold namesV at h
  split at h
  ·rw [ih h, Qm]
   show bs.length + 1 + l.length = bs.length + (l.length + 1)
   omega
  ·cases h
theorem sig_to (c f : List NameT) (hc : ∀ p ∈ c, p.1.length ≤ 4000) (hf : ∀ p ∈ f, p.1.length ≤ 4000) : CallTo (EK K4) 59 [.agg [recs encN 2 c, recs encN 2 f]] S0 (.bool (sigV c f)) := by
 refine Ax (fn := Tryz.f59) rfl rfl (by kernel_rfl) rfl rfl rfl rfl ?_
 focus
  refine Es <| Lo (Az 1 rfl rfl rfl rfl) rfl <| qa rfl <| Ld <| Ab <| Es <| Lq (of BU rfl) rfl <| Lo (l1 Bp Bo rfl) rfl ?_
  refine Lq (ol DF rfl) rfl ?_
  refine Lo (Ag rfl rfl (by kernel_rfl) rfl (Ae (hit_104))) rfl <| Lq (on rfl) rfl <| qm rfl ?_
  refine Lb rfl (fun g1 => ?_) (fun g1 => ?_)
  have h1 := DK g1
  iterate 4 refine Lk rfl ‹_› ?_
  refine Lq (oT rfl ‹_› rfl) rfl <| qm rfl ?_
  iterate 6 refine Lk rfl rfl ?_
  refine Lq (oT rfl rfl rfl) rfl <| qm rfl ?_
  iterate 6 refine Lk rfl rfl ?_
  refine Lq (oT rfl rfl rfl) rfl <| Ld <| Ah rfl rfl <| Es <| qa rfl <| Ld ?_
  refine Aa (Er rfl ?_)
  refine Ad ?_
  rotate_left
  have h1 := DL g1
  refine Lh rfl ‹_› (of BT rfl) <| Lg rfl ‹_› (l1 Bp Bo rfl) <| Lh rfl ‹_› (ol DF rfl) <| Lh rfl ‹_› (o2 u_3 rfl rfl) <| Lq (oF rfl ‹_› rfl) rfl <| qm rfl ?_
  refine Lb rfl (fun g2 => ?_) (fun g2 => ?_)
  have h2 := dT g2
  iterate 6 refine Lk rfl ‹_› ?_
  refine Lq (oT rfl ‹_› rfl) rfl <| qm rfl ?_
  iterate 6 refine Lk rfl rfl ?_
  refine Lq (oT rfl rfl rfl) rfl <| Ld <| Ah rfl rfl <| Es <| qa rfl <| Ld ?_
  refine Aa (Er rfl ?_)
  refine Ad ?_
  rotate_left
  have h2 := dF g2
  refine Lh rfl ‹_› (of BU rfl) <| Lg rfl ‹_› (l1 Bp Bo rfl) ?_
  rotate_left
 ·unfold sigV; rw [h1]; rfl
 ·unfold sigV; rw [decide_eq_false (by omega : ¬ ((f.length : Nat) : Int) ≤ 8), Bool.and_false]; rfl
 have h0 := inV_iff.1 h1
 have hp0 := A1 AH (l := c) (i := 0) (by omega)
 have hp1 := A1 AH (l := c) (i := 1) (by omega)
 have he0 := eqN c[0] nFalse
 have he1 := eqN c[1] nTrue
 focus
  refine Lh rfl ‹_› (Af (k := 0) rfl DF BI rfl rfl ‹_›) <| Lh rfl ‹_› (AM rfl rfl ag_54 BI (Qc rfl)) <| Lh rfl ‹_› (Dc rfl pl_54 rfl rfl) <| Lh rfl ‹_› (Dn (neg := true) rfl st_54 kd_54 rfl rfl ‹_›) <| Lq (oF rfl ‹_› rfl) rfl <| qm rfl ?_
  refine Lb rfl (fun g3 => ?_) (fun g3 => ?_)
  have h3 := nT g3
  iterate 6 refine Lk rfl ‹_› ?_
  refine Lq (oT rfl ‹_› rfl) rfl <| Ld <| Ah rfl rfl <| Es <| qa rfl <| Ld ?_
  refine Aa (Er rfl ?_)
  refine Ad ?_
  rotate_left
  have h3 := nF g3
  refine Lh rfl ‹_› (of BU rfl) <| Lg rfl ‹_› (l1 Bp Bo rfl) <| Lh rfl ‹_› (Af (k := 1) rfl DF BI rfl rfl ‹_›) <| Lh rfl ‹_› (AM rfl rfl ag_54 BI (Qc rfl)) <| Lh rfl ‹_› (Dc rfl pl_54 rfl rfl) <| Lh rfl ‹_› (Dn (neg := true) rfl st_54 kd_54 rfl rfl ‹_›) <| Lq (oF rfl ‹_› rfl) rfl <| Ld ?_
  refine Ec rfl (fun g4 => ?_) (fun g4 => ?_)
  have h4 := nT g4
  refine Es <| qa rfl <| Ld ?_
  refine Aa (Er rfl ?_)
  refine Ad ?_
  rotate_left
  have h4 := nF g4
  refine Ac <| Es <| Lq (of BU rfl) rfl <| Lo (l1 Bp Bo rfl) rfl ?_
  rotate_left
 ·unfold sigV; rw [Qi (by omega), decide_eq_false (by intro h; exact h3 (Option.some.inj h) : ¬ some c[0] = some nFalse), Bool.and_false, Bool.false_and]; rfl
 ·unfold sigV; rw [Qi (i := 1) (by omega), decide_eq_false (by intro h; exact h4 (Option.some.inj h) : ¬ some c[1] = some nTrue), Bool.and_false]; rfl
 have hpre : (inV c.length 2 12 && decide ((f.length : Int) ≤ 8) && decide (c[0]? = some nFalse) && decide (c[1]? = some nTrue)) = true := by
  rw [h1, decide_eq_true (by omega : ((f.length : Nat) : Int) ≤ 8), Qi (i := 0) (by omega), Qi (i := 1) (by omega), h3, h4]; simp
 refine Lo (Ag rfl rfl (by kernel_rfl) rfl (Ae (hit_105 (l := c) (bs := []) hc (by omega) (Qo _)))) rfl ?_
 rcases hn : namesV [] c with _ | l
 ·refine qm rfl ?_
  iterate 2 refine Lq (oe rfl) rfl ?_
  iterate 2 refine qa rfl ?_
  refine Ld <| Ab <| Es <| qm rfl <| Lq (on rfl) rfl <| Ld <| Ah rfl rfl <| Es ?_
  refine qa rfl <| Ld ?_
  refine Aa (Er rfl ?_)
  refine Ad ?_
  unfold sigV; rw [hpre, hn]; rfl
 ·have hl := namesV_len hn
  refine qm rfl ?_
  iterate 2 refine Lq (oe rfl) rfl ?_
  iterate 2 refine qa rfl ?_
  refine Ld <| Ab <| Es <| qm rfl <| Lq (on rfl) rfl <| Ld <| An rfl rfl <| Ac ?_
  refine Es <| Lq (of BT rfl) rfl <| Lo (l1 Bp Bo rfl) rfl <| qm rfl ?_
  refine Lo (Ag rfl rfl (by kernel_rfl) rfl (Ae (hit_105 (l := f) (bs := l) hf (by omega) (by simp at hl; omega)))) rfl ?_
  rcases hn2 : namesV l f with _ | m
  ·refine qm rfl ?_
   iterate 2 refine Lq (oe rfl) rfl ?_
   refine qa rfl <| Ld <| Es <| qm rfl <| qa rfl <| Ld ?_
   refine Aa (Er rfl ?_)
   refine Ad ?_
   unfold sigV; rw [hpre, hn]
   show false = (true && (namesV l f).isSome)
   rw [hn2]; rfl
  ·refine qm rfl ?_
   iterate 2 refine Lq (oe rfl) rfl ?_
   refine qa rfl <| Ld <| Es <| qm rfl <| qa rfl <| Ld ?_
   refine Aa (Er rfl ?_)
   refine Ad ?_
   unfold sigV; rw [hpre, hn]
   show true = (true && (namesV l f).isSome)
   rw [hn2]; rfl
abbrev SigA := { p : List NameT × List NameT // (∀ q ∈ p.1,q.1.length ≤ 4000) ∧ (∀ q ∈ p.2,q.1.length ≤ 4000) }
noncomputable def K5 := addC K4 59 (fun p : SigA=>[.agg [recs encN 2 p.1.1,recs encN 2 p.1.2]]) (fun p=>.bool (sigV p.1.1 p.1.2))
theorem hit_59 {c f : List NameT} (hc : ∀ p ∈ c, p.1.length ≤ 4000) (hf : ∀ p ∈ f, p.1.length ≤ 4000) : K5 59 [.agg [recs encN 2 c, recs encN 2 f]] = some (.bool (sigV c f)) :=
 AD (f := 59) (enc := fun p : SigA => [.agg [recs encN 2 p.1.1, recs encN 2 p.1.2]]) (res := fun p => .bool (sigV p.1.1 p.1.2)) (by
  rintro ⟨p, _⟩ ⟨q, _⟩ h
  obtain rfl := encS_inj h; rfl) ⟨(c, f), hc, hf⟩
theorem all5 (h : KnownF Tryz.prog 10 [] (.bool true)) : KnownAll Tryz.prog K5 := BH AE (all4 h) (fun p : SigA=>sig_to p.1.1 p.1.2 p.2.1 p.2.2) (fun _=>rfl) (fun _=>rfl)
def Met (st : St) (cs : List (List UInt8)) : Prop := st.heap.get 2 = some (.cells [.map 1] 155 false) ∧ st.heap.get 1 = some (.map (entsN 0 cs) cs.length) ∧ 2 < st.next
theorem fits_run {st : St} {cs : List (List UInt8)} (hm : Met st cs) (p : NameT) (hw : p.1.length ≤ 4000) {R : AV → St → Prop}
  (hR : ∀ st', Chg st st' (fun c => c = 1) → (okN cs p = true → Met st' (cs ++ [p.1])) → (1 < st.bound → st'.log ≠ []) → R (.bool (okN cs p)) st') : RunsV (EK K5) 74 [.agg [.str p.1, .int .i64 p.2], .ptr 2 0] st R := by
 obtain ⟨hg2, hg1, hn⟩ := hm
 refine RunsV.gen (fn := Tryz.f74) rfl (by kernel_rfl) rfl rfl rfl rfl ?_
 have ha0 : (st.enter.alloc (.cells [.str p.1, .int .i64 p.2] 54 false)).heap.get st.enter.next = some (.cells [.str p.1, .int .i64 p.2] 54 false) := DX
 have ha1 : (st.enter.alloc (.cells [.str p.1, .int .i64 p.2] 54 false)).heap.get 1 = some (.map (entsN 0 cs) cs.length) := (Bk (by show 1 < st.next; omega)).trans hg1
 have ha2 : (st.enter.alloc (.cells [.str p.1, .int .i64 p.2] 54 false)).heap.get 2 = some (.cells [.map 1] 155 false) := (Bk (by show 2 < st.next; omega)).trans hg2
 have hl := entsN_lookup (w := p.1) ha1
 obtain ⟨ob, hput, hob⟩ := entsN_put (w := p.1) ha1
 have ha3 : ((st.enter.alloc (.cells [.str p.1, .int .i64 p.2] 54 false)).put 1 (some ob)).heap.get st.enter.next = some (.cells [.str p.1, .int .i64 p.2] 54 false) := by
  rw [AS, if_neg (by show st.next ≠ 1; omega)]; exact ha0
 have hlog : ((st.enter.alloc (.cells [.str p.1, .int .i64 p.2] 54 false)).put 1 (some ob)).log ≠ [] := EA (by show 1 < st.next; omega)
 have hch : Chg st (st.back ((st.enter.alloc (.cells [.str p.1, .int .i64 p.2] 54 false)).put 1 (some ob))) (fun c => c = 1) :=
  (Chg.trans (s := st.enter) Chg.alloc (Chg.put (b := 1) (o := some ob)) (own := fun c => c = 1) (o1 := fun c => c = 1) (fun _ h => h) (fun _ h => .inl h) (Qj _)).back
 have hmet : cs.contains p.1 = false → Met (st.back ((st.enter.alloc (.cells [.str p.1, .int .i64 p.2] 54 false)).put 1 (some ob))) (cs ++ [p.1]) := fun h => ⟨by
  show ((st.enter.alloc (.cells [.str p.1, .int .i64 p.2] 54 false)).put 1 (some ob)).heap.get 2 = _
  rw [AS, if_neg (by decide)]; exact ha2, by
  show ((st.enter.alloc (.cells [.str p.1, .int .i64 p.2] 54 false)).put 1 (some ob)).heap.get 1 = _
  rw [AS, if_pos rfl, hob h], by show 2 < st.next + 1; omega⟩
 have hend : ∀ b, b = okN cs p → R (.bool b) (st.back ((st.enter.alloc (.cells [.str p.1, .int .i64 p.2] 54 false)).put 1 (some ob))) := fun b h => by
  rw [h]
  exact hR _ hch (fun h => hmet (by
   unfold okN at h
   cases hc : cs.contains p.1 with
   | false => rfl
   | true => rw [hc] at h; cases h)) fun h => back_ne (DA (by show 1 < st.next; omega)) h
 focus
  refine Es <| Lo (OpL.box rfl rfl rfl) rfl <| qa rfl <| Ld <| Es <| Lo (A8 rfl rfl (Al ag_155 sz_155 ‹_› rfl)) rfl <| Lq (of f_54_0 rfl) rfl <| Lo (A8 rfl rfl (Al ag_9 sz_9 ‹_› rfl)) rfl ?_
  refine Lo (OpL.lookup rfl u_155 z_4 kd_9 rfl rfl ‹_›) rfl <| qa rfl <| Ld <| Es <| Lo (A8 rfl rfl (Al ag_155 sz_155 ‹_› rfl)) rfl <| Lq (of f_54_0 rfl) rfl <| Lo (A8 rfl rfl (Al ag_9 sz_9 ‹_› rfl)) rfl <| AB (OpL.mapSet (.inl rfl) u_155 kd_9 rfl rfl rfl ‹_›) rfl rfl ?_
  refine Ld <| Es <| qm rfl <| Lq (on rfl) rfl <| qm rfl ?_
  refine Lb rfl (fun g1 => ?_) (fun g1 => ?_)
  have h1 := DK g1
  refine Lh rfl ‹_› (of f_54_0 rfl) <| Lg rfl ‹_› (A8 rfl rfl (Al ag_9 sz_9 ‹_› rfl)) ?_
  refine Lg rfl ‹_› (Ag rfl rfl (by kernel_rfl) rfl (Ae (hit_75 (by first | assumption | omega | (simp only [LL]; omega))))) ?_
  refine Lq (oT rfl ‹_› rfl) rfl <| qm rfl ?_
  refine Lb rfl (fun g2 => ?_) (fun g2 => ?_)
  refine Lh rfl ‹_› (of f_54_1 rfl) <| Lg rfl ‹_› (A8 rfl rfl (Al Bj AY ‹_› rfl)) ?_
  refine Lg rfl ‹_› (Ag rfl rfl (by kernel_rfl) rfl (Ae (hit_76))) <| Lq (oT rfl ‹_› rfl) rfl <| qa rfl <| Ld ?_
  rotate_left
  iterate 3 refine Lk rfl ‹_› ?_
  refine Lq (oF rfl ‹_› rfl) rfl <| qa rfl <| Ld ?_
  rotate_left
  have h1 := DL g1
  iterate 3 refine Lk rfl ‹_› ?_
  refine Lq (oF rfl ‹_› rfl) rfl <| qm rfl ?_
  iterate 3 refine Lk rfl rfl ?_
  refine Lq (oF rfl rfl rfl) rfl <| qa rfl <| Ld ?_
  rotate_left
 ·refine Aa ?_
  refine ⟨.inl rfl, _, rfl, _, As rfl rfl, _, EC rfl hlog, hend _ ?_⟩
  unfold okN; rw [h1, g2]; rfl
 ·refine Aa ?_
  refine ⟨.inl rfl, _, rfl, _, As rfl rfl, _, EC rfl hlog, hend _ ?_⟩
  unfold okN; rw [h1, g2]; rfl
 ·refine Aa ?_
  refine ⟨.inl rfl, _, rfl, _, As rfl rfl, _, EC rfl hlog, hend _ ?_⟩
  unfold okN; rw [h1]; rfl
theorem every_run {st : St} {cs : List (List UInt8)} (hm : Met st cs) (l : List NameT) (hl : ∀ p ∈ l, p.1.length ≤ 4000) (hn : l.length ≤ 4000) {R : AV → St → Prop}
  (hR : ∀ st', Chg st st' (fun c => c = 1) → (∀ ds, namesV cs l = some ds → Met st' ds) → R (.bool (namesV cs l).isSome) st') : RunsV (EK K5) 77 [recs encN 2 l, .func (.func 74) [] [.ptr 2 0]] st R := by
 refine RunsV.gen (fn := Tryz.f77) rfl (by kernel_rfl) rfl rfl rfl rfl <| Es <| qa rfl <| Ld <| Ab <| Es <| qm rfl <| Lq (ol DF rfl) rfl ?_
 refine qm rfl <| Ld <| Ai ?_
 refine Aw (fun x : Nat × List (List UInt8) × St => ([(9, .int .i64 (x.1 : Nat)), (8, .int .i64 (l.length : Nat)), (7, recs encN 2 l), (1, .func (.func 74) [] [.ptr 2 0])], x.2.2)) (fun x => l.length - x.1)
  (fun x => x.1 ≤ l.length ∧ Met x.2.2 x.2.1 ∧ namesV cs l = namesV x.2.1 (l.drop x.1) ∧ Chg st.enter x.2.2 (fun c => c = 1) ∧ (x.1 = 0 ∧ x.2.1 = cs ∨ x.2.2.log ≠ [])) (0, cs, st.enter) ⟨Qo _, hm, rfl, Chg.refl, .inl ⟨rfl, rfl⟩⟩ rfl (by (refine Am.Ap ?_; repeat (first | exact trivial | refine ⟨rfl, ?_⟩))) ?_
 rintro ⟨i, ds, s1⟩ ⟨hi, hmt, hnv, hch, hlg⟩
 dsimp only at hi hmt hnv hch hlg ⊢
 by_cases h : i < l.length
 ·have hp := A1 AH h
  have ha0 : (s1.alloc (.cells [.str [], .int .i64 0] 54 false)).heap.get s1.next = some (.cells [.str [], .int .i64 0] 54 false) := DX
  have ha1 : ((s1.alloc (.cells [.str [], .int .i64 0] 54 false)).put s1.next (some (.cells [.str l[i].1, .int .i64 l[i].2] 54 false))).heap.get s1.next = some (.cells [.str l[i].1, .int .i64 l[i].2] 54 false) := by rw [AS, if_pos rfl]
  have hch1 : Chg st.enter ((s1.alloc (.cells [.str [], .int .i64 0] 54 false)).put s1.next (some (.cells [.str l[i].1, .int .i64 l[i].2] 54 false))) (fun c => c = 1) :=
   (hch.trans Chg.alloc (o2 := fun _ => False) (own := fun c => c = 1) (fun _ h => h) (fun _ h => h.elim) (Qj _)).trans Chg.put (own := fun c => c = 1) (fun _ h => h) (fun c h => .inr (by rw [h]; exact hch.next)) (Qj _)
  have hmt1 : Met ((s1.alloc (.cells [.str [], .int .i64 0] 54 false)).put s1.next (some (.cells [.str l[i].1, .int .i64 l[i].2] 54 false))) ds := by
   obtain ⟨h2, h1, hn⟩ := hmt
   refine ⟨?_, ?_, ?_⟩
   ·rw [AS, if_neg (by omega), Bk hn]; exact h2
   ·rw [AS, if_neg (by omega), Bk (by omega)]; exact h1
   ·show 2 < s1.next + 1; omega
  focus
   refine Es <| Lq (o2 u_3 rfl rfl) rfl <| Ld <| Ab ?_
   refine Ec rfl (fun g1 => ?_) (fun g1 => ?_)
   have h1 := dT g1
   refine Ac <| Ab <| Ai <| Es <| Lq (Af rfl DF BI rfl rfl ‹_›) rfl <| Lq (AM rfl rfl ag_54 BI (Qc rfl)) rfl <| Lo (Bz rfl z_54) rfl <| AB (Ba rfl BI rfl rfl (AZ ‹_› rfl rfl rfl)) rfl rfl ?_
   refine Ld <| Es <| qm rfl <| Lo (A8 rfl rfl (loadAgg_at ag_54 BI ‹_› (Qc rfl))) rfl ?_
   rotate_left
   have h1 := dF g1
   exact absurd h1 (by omega)
  refine RegL.callVal (by kernel_rfl) rfl rfl rfl rfl rfl rfl rfl rfl (fits_run hmt1 l[i] (hl _ (Ql h)) ?_)
  intro s2 hc2 hm2 hlg2
  have hch2 : Chg st.enter s2 (fun c => c = 1) := hch1.trans hc2 (own := fun c => c = 1) (fun _ h => h) (fun _ h => .inl h) (Qj _)
  focus
   refine Lq (on rfl) rfl <| Ld ?_
   refine Ec rfl (fun g2 => ?_) (fun g2 => ?_)
   have h2 := DK g2
   refine Es <| qa rfl <| Ld ?_
   rotate_left
   have h2 := DL g2
   refine Ac <| Ao ?_
   refine Lq (At (b := 1) rfl u_3 rfl rfl (by first | assumption | omega | (simp only [LL]; omega))) rfl ?_
   refine qm rfl <| Ld ?_
   rotate_left
  ·refine Aa ?_
   have hr : namesV cs l = none := by
    rw [hnv, List.drop_eq_getElem_cons h]
    show (if okN ds l[i] then _ else none) = none
    rw [h2]; rfl
   have hfin : ∀ st', Chg st st' (fun c => c = 1) → R (.bool false) st' := fun st' hc => by
    have := hR st' hc (fun ds hd => by rw [hr] at hd; cases hd)
    rw [hr] at this; exact this
   exact ⟨.inl rfl, _, rfl, _, As rfl rfl, Do (R := R) rfl (fun _ _ => rfl) (fun _ => rfl) (fun _ => hfin st Chg.refl) fun _ => hfin _ hch2.back⟩
  ·refine ⟨(i + 1, ds ++ [l[i].1], s2), ⟨h, hm2 h2, ?_, hch2, .inr (hlg2 ?_)⟩, by show l.length - (i + 1) < l.length - i; omega, rfl, rfl, by (refine Am.Ap ?_; repeat (first | exact trivial | refine ⟨rfl, ?_⟩))⟩
   ·rw [hnv, List.drop_eq_getElem_cons h]
    show (if okN ds l[i] then _ else none) = _
    rw [h2]; rfl
   ·have : st.enter.bound = st.next := rfl
    rw [hch1.bound, this]; exact Nat.lt_of_succ_lt hm.2.2
 ·focus
   refine Es <| Lq (o2 u_3 rfl rfl) rfl <| Ld <| Ab ?_
   refine Ec rfl (fun g1 => ?_) (fun g1 => ?_)
   have h1 := dT g1
   exact absurd h1 (by omega)
   have h1 := dF g1
   refine A5 <| AX rfl <| Es <| qa rfl <| Ld ?_
   rotate_left
  obtain rfl : i = l.length := by omega
  rw [List.drop_length] at hnv
  have hr : namesV cs l = some ds := hnv
  refine Aa ?_
  have hfin : ∀ st', Chg st st' (fun c => c = 1) → Met st' ds → R (.bool true) st' := fun st' hc hm => by
   have := hR st' hc (fun ds hd => by rw [hr] at hd; cases hd; exact hm)
   rw [hr] at this; exact this
  refine ⟨.inl rfl, _, rfl, _, As rfl rfl, Do (R := R) rfl (fun _ _ => rfl) (fun _ => rfl) (fun h => hfin st Chg.refl ?_) fun _ => hfin _ hch.back hmt⟩
  rcases hlg with ⟨_, rfl⟩ | hlg
  ·exact hm
  ·exact absurd h hlg
theorem checkSig_to (c f : List NameT) (hc : ∀ p ∈ c, p.1.length ≤ 4000) (hf : ∀ p ∈ f, p.1.length ≤ 4000) : CallTo (EK K5) 36 [.agg [recs encN 2 c, recs encN 2 f]] S0 (.int .i64 (if sigV c f then 0 else 2)) := by
 refine Ax (fn := Tryz.f36) rfl rfl (by kernel_rfl) rfl rfl rfl rfl ?_
 have hno : ∀ b : Bool, (inV c.length 2 12 && decide ((f.length : Int) ≤ 8) && decide (c[0]? = some nFalse) && decide (c[1]? = some nTrue)) = false → sigV c f = false := fun b h => by unfold sigV; rw [h]; rfl
 focus
  refine Es <| Lo (Az 1 rfl rfl rfl rfl) rfl <| qa rfl <| Ld <| Es <| Lo (OpL.makeMapS 2 rfl u_155 rfl) rfl <| Lo (Bf 3 rfl z_155 rfl) rfl <| AB (AK rfl sz_155 rfl rfl rfl rfl rfl rfl) rfl rfl ?_
  refine Ld <| Es <| Lq (B4 rfl rfl rfl) rfl <| qa rfl <| Ld <| Ab <| Es <| Lq (of BU rfl) rfl ?_
  refine Lo (l1 Bp Bo rfl) rfl <| Lq (ol DF rfl) rfl ?_
  refine Lo (Ag rfl rfl (by kernel_rfl) rfl (Ae (hit_76))) rfl <| Lq (on rfl) rfl <| qm rfl ?_
  refine Lb rfl (fun g1 => ?_) (fun g1 => ?_)
  have h1 := DK g1
  iterate 4 refine Lk rfl ‹_› ?_
  refine Lq (oT rfl ‹_› rfl) rfl <| qm rfl ?_
  iterate 5 refine Lk rfl rfl ?_
  refine Lq (oT rfl rfl rfl) rfl <| qm rfl ?_
  iterate 5 refine Lk rfl rfl ?_
  refine Lq (oT rfl rfl rfl) rfl <| Ld <| Ah rfl rfl <| Es <| qa rfl <| Ld ?_
  refine Aa (Er rfl ?_)
  rotate_left
  have h1 := DL g1
  refine Lh rfl ‹_› (of BT rfl) <| Lg rfl ‹_› (l1 Bp Bo rfl) <| Lh rfl ‹_› (ol DF rfl) <| Lh rfl ‹_› (o2 u_3 rfl rfl) <| Lq (oF rfl ‹_› rfl) rfl <| qm rfl ?_
  refine Lb rfl (fun g2 => ?_) (fun g2 => ?_)
  have h2 := dT g2
  iterate 5 refine Lk rfl ‹_› ?_
  refine Lq (oT rfl ‹_› rfl) rfl <| qm rfl ?_
  iterate 5 refine Lk rfl rfl ?_
  refine Lq (oT rfl rfl rfl) rfl <| Ld <| Ah rfl rfl <| Es <| qa rfl <| Ld ?_
  refine Aa (Er rfl ?_)
  rotate_left
  have h2 := dF g2
  refine Lh rfl ‹_› (of BU rfl) <| Lg rfl ‹_› (l1 Bp Bo rfl) <| Lh rfl ‹_› (om rfl) ?_
  rotate_left
 ·rw [hno true (by rw [h1]; rfl)]; rfl
 ·rw [hno true (by rw [decide_eq_false (by omega : ¬ ((f.length : Nat) : Int) ≤ 8), Bool.and_false]; rfl)]; rfl
 have h0 := inV_iff.1 h1
 have hp0 := A1 AH (l := c) (i := 0) (by omega)
 have hp1 := A1 AH (l := c) (i := 1) (by omega)
 have he0 := eqN c[0] nFalse
 have he1 := eqN c[1] nTrue
 have hpre : (inV c.length 2 12 && decide ((f.length : Int) ≤ 8)) = true := by
  rw [h1, decide_eq_true (by omega : ((f.length : Nat) : Int) ≤ 8)]; rfl
 have nolog : ∀ {s s1 : St} {own : Nat → Prop}, Chg s s1 own → s.bound = 0 → s.log = [] → s1.bound = 0 ∧ s1.log = [] := fun {s s1 own} hc hb hl => ⟨hc.bound.trans hb, List.eq_nil_iff_forall_not_mem.2 fun x hx => by
  rcases hc.log x hx with h | ⟨h, _⟩
  ·rw [hl] at h; cases h
  ·rw [hb] at h; omega⟩
 refine Fj rfl rfl rfl rfl g2 ?_
 refine AJ rfl rfl (by kernel_rfl) rfl rfl rfl rfl (every_run (cs := []) ⟨rfl, rfl, Nat.lt_succ_self 2⟩ c hc (by omega) ?_)
 intro s1 hc1 hm1
 have hg0 : s1.heap.get 0 = some (.cells [recs encN 2 c, recs encN 2 f] 24 false) := (hc1.heap 0 (Nat.succ_pos 2) (by decide)).trans (Dq 0)
 obtain ⟨hb1, hl1⟩ := nolog hc1 rfl rfl
 have hx1 : 3 ≤ s1.next := hc1.next
 rcases hn : namesV [] c with _ | ds
 ·refine Lh rfl ‹_› (on rfl) ?_
  refine Lq (oF rfl ‹_› rfl) rfl <| qm rfl ?_
  iterate 5 refine Lk rfl rfl ?_
  refine Lq (oT rfl rfl rfl) rfl <| Ld <| Ah rfl rfl <| Es <| qa rfl <| Ld ?_
  refine Aa ⟨.inl rfl, rfl, ‹_›, ‹_›, _, _, _, (As rfl rfl), rfl, rfl, ?_⟩
  try refine Aa ⟨.inl rfl, rfl, hl1, hb1, _, _, _, (As rfl rfl), rfl, rfl, ?_⟩
  have : sigV c f = false := by unfold sigV; rw [hn, Bool.and_false]
  rw [this]; rfl
 ·have hlen := namesV_len hn
  refine Lh rfl ‹_› (on rfl) <| Lq (oF rfl ‹_› rfl) rfl <| qm rfl <| Lh rfl rfl (of BT rfl) <| Lg rfl rfl (A8 rfl rfl (Al Bp Bo ‹_› rfl)) <| Lh rfl rfl (om rfl) <| Fj rfl rfl rfl rfl rfl ?_
  refine AJ rfl rfl (by kernel_rfl) rfl rfl rfl rfl (every_run (hm1 ds hn) f hf (by omega) ?_)
  intro s2 hc2 hm2
  have hg1 : s2.heap.get 0 = some (.cells [recs encN 2 c, recs encN 2 f] 24 false) := (hc2.heap 0 (by omega) (by decide)).trans hg0
  obtain ⟨hb2, hl2⟩ := nolog hc2 hb1 hl1
  rcases hn2 : namesV ds f with _ | es
  ·refine Lh rfl rfl (on rfl) ?_
   refine Lq (oF rfl rfl rfl) rfl <| Ld <| Ah rfl rfl <| Es <| qa rfl <| Ld ?_
   refine Aa ⟨.inl rfl, rfl, ‹_›, ‹_›, _, _, _, (As rfl rfl), rfl, rfl, ?_⟩
   try refine Aa ⟨.inl rfl, rfl, hl2, hb2, _, _, _, (As rfl rfl), rfl, rfl, ?_⟩
   have : sigV c f = false := by
    unfold sigV; rw [hn]
    show (_ && (namesV ds f).isSome) = false
    rw [hn2]; simp
   rw [this]; rfl
  ·focus
    refine Lh rfl rfl (on rfl) <| Lq (oF rfl rfl rfl) rfl <| Ld <| An rfl rfl <| Ac <| Ab <| Es <| Lq (of BU rfl) rfl ?_
    refine Lo (A8 rfl rfl (Al Bp Bo ‹_› rfl)) rfl <| Lq (Af (k := 0) rfl DF BI rfl rfl ‹_›) rfl <| Lq (AM rfl rfl ag_54 BI (Qc rfl)) rfl <| Lq (Dc rfl pl_54 rfl rfl) rfl <| Lq (Dn (neg := true) rfl st_54 kd_54 rfl rfl ‹_›) rfl <| qm rfl ?_
    refine Lb rfl (fun g3 => ?_) (fun g3 => ?_)
    have h3 := nT g3
    iterate 6 refine Lk rfl ‹_› ?_
    refine Lq (oT rfl ‹_› rfl) rfl <| Ld <| Ah rfl rfl <| Es <| qa rfl <| Ld ?_
    refine Aa ⟨.inl rfl, rfl, ‹_›, ‹_›, _, _, _, (As rfl rfl), rfl, rfl, ?_⟩
    rotate_left
    have h3 := nF g3
    refine Lh rfl ‹_› (of BU rfl) <| Lg rfl ‹_› (A8 rfl rfl (Al Bp Bo ‹_› rfl)) <| Lh rfl ‹_› (Af (k := 1) rfl DF BI rfl rfl ‹_›) <| Lh rfl ‹_› (AM rfl rfl ag_54 BI (Qc rfl)) <| Lh rfl ‹_› (Dc rfl pl_54 rfl rfl) <| Lh rfl ‹_› (Dn (neg := true) rfl st_54 kd_54 rfl rfl ‹_›) <| Lq (oF rfl ‹_› rfl) rfl <| Ld ?_
    refine Ec rfl (fun g4 => ?_) (fun g4 => ?_)
    have h4 := nT g4
    refine Es <| qa rfl <| Ld ?_
    refine Aa ⟨.inl rfl, rfl, ‹_›, ‹_›, _, _, _, (As rfl rfl), rfl, rfl, ?_⟩
    rotate_left
    have h4 := nF g4
    refine Ac <| Es <| qa rfl <| Ld ?_
    refine Aa ⟨.inl rfl, rfl, ‹_›, ‹_›, _, _, _, (As rfl rfl), rfl, rfl, ?_⟩
    rotate_left
   ·try refine Aa ⟨.inl rfl, rfl, hl2, hb2, _, _, _, (As rfl rfl), rfl, rfl, ?_⟩
    rw [hno true (by rw [Qi (i := 0) (by omega), decide_eq_false (by intro h; exact h3 (Option.some.inj h) : ¬ some c[0] = some nFalse), Bool.and_false, Bool.false_and])]; rfl
   ·try refine Aa ⟨.inl rfl, rfl, hl2, hb2, _, _, _, (As rfl rfl), rfl, rfl, ?_⟩
    rw [hno true (by rw [Qi (i := 1) (by omega), decide_eq_false (by intro h; exact h4 (Option.some.inj h) : ¬ some c[1] = some nTrue), Bool.and_false])]; rfl
   ·try refine Aa ⟨.inl rfl, rfl, hl2, hb2, _, _, _, (As rfl rfl), rfl, rfl, ?_⟩
    have : sigV c f = true := by
     unfold sigV
     rw [hpre, Qi (i := 0) (by omega), Qi (i := 1) (by omega), h3, h4, hn]
     show (_ && (namesV ds f).isSome) = true
     rw [hn2]; simp
    rw [this]; rfl
noncomputable def K6 := addC K5 36 (fun p : SigA=>[.agg [recs encN 2 p.1.1,recs encN 2 p.1.2]]) (fun p=>.int .i64 (if sigV p.1.1 p.1.2 then 0 else 2))
theorem hit_36 {c f : List NameT} (hc : ∀ p ∈ c, p.1.length ≤ 4000) (hf : ∀ p ∈ f, p.1.length ≤ 4000) : K6 36 [.agg [recs encN 2 c, recs encN 2 f]] = some (.int .i64 (if sigV c f then 0 else 2)) :=
 AD (f := 36) (enc := fun p : SigA => [.agg [recs encN 2 p.1.1, recs encN 2 p.1.2]]) (res := fun p => .int .i64 (if sigV p.1.1 p.1.2 then 0 else 2)) (by
  rintro ⟨p, _⟩ ⟨q, _⟩ h
  obtain rfl := encS_inj h; rfl) ⟨(c, f), hc, hf⟩
theorem all6 (h : KnownF Tryz.prog 10 [] (.bool true)) : KnownAll Tryz.prog K6 := BH AE (all5 h) (fun p : SigA=>checkSig_to p.1.1 p.1.2 p.2.1 p.2.2) (fun _=>rfl) (fun _=>rfl)
theorem DT {f : Nat → Bool} {i : Nat} (h : (List.range i).all f = true) (hf : f i = true) : (List.range (i + 1)).all f = true := by
 rw [List.range_succ, List.all_append, h, List.all_cons, hf]; rfl
theorem ra_no {f : Nat → Bool} {n i : Nat} (h : i < n) (hf : f i = false) : (List.range n).all f = false := by
 cases hb : (List.range n).all f with
 | false => rfl
 | true =>
  have := List.all_eq_true.1 hb i (List.mem_range.2 h)
  rw [hf] at this; cases this
theorem ra_at {f : Nat → Bool} {n i : Nat} (h : (List.range n).all f = true) (hi : i < n) : f i = true := List.all_eq_true.1 h i (List.mem_range.2 hi)
def encZ (n : Int) : List AV := [.int .i64 n]
theorem B5 (n : Int) : (encZ n).length = 0 + 1 := rfl
theorem Fb (a b : Int) (h : encZ a = encZ b) : a = b := by cases h; rfl
abbrev AltT := Int × Int
def encA (p : AltT) : List AV := [.int .i64 p.1,.int .i64 p.2]
theorem Et (p : AltT) : (encA p).length = 1 + 1 := rfl
theorem encA_inj (a b : AltT) (h : encA a = encA b) : a = b := by
 obtain ⟨a1, a2⟩ := a
 obtain ⟨b1, b2⟩ := b
 cases h; rfl
structure InsT where
 op : Int
 a : Int
 alts : List AltT
 to : List Int
 term : Int
 n : Int
 args : List Int
def encI (x : InsT) : List AV := [.int .i64 x.op,.int .i64 x.a,recs encA 2 x.alts,recs encZ 1 x.to,.int .i64 x.term,.int .i64 x.n,recs encZ 1 x.args]
theorem B7 (x : InsT) : (encI x).length = 6 + 1 := rfl
theorem encI_inj (x y : InsT) (h : encI x = encI y) : x = y := by
 obtain ⟨a, b, c, d, e, f, g⟩ := x
 obtain ⟨a', b', c', d', e', f', g'⟩ := y
 simp only [encI, List.cons.injEq, AV.int.injEq, and_true, true_and] at h
 obtain ⟨rfl, rfl, h3, h4, rfl, rfl, h7⟩ := h
 rw [AT encA_inj Et h3, AT Fb B5 h4, AT Fb B5 h7]
structure CodeT where
 cons : List NameT
 funs : List NameT
 ins : List InsT
 starts : List Int
def encC (c : CodeT) : List AV := [recs encN 2 c.cons,recs encN 2 c.funs,recs encI 7 c.ins,recs encZ 1 c.starts]
theorem encC_inj {x y : CodeT} (h : (AV.agg (encC x)) = AV.agg (encC y)) : x = y := by
 obtain ⟨a, b, c, d⟩ := x
 obtain ⟨a', b', c', d'⟩ := y
 simp only [encC, AV.agg.injEq, List.cons.injEq, and_true] at h
 rw [AT B6 AH h.1, AT B6 AH h.2.1, AT encI_inj B7 h.2.2.1, AT Fb B5 h.2.2.2]
def smallI (x : InsT) : Bool := !(decide (20 < (x.alts.length : Int)) || (decide (40 < (x.to.length : Int)) || decide (10 < (x.args.length : Int))))
def iAt (c : CodeT) (i : Nat) : InsT := c.ins.getD i ⟨0,0,[],[],0,0,[]⟩
theorem iAt_eq {c : CodeT} {i : Nat} (h : i < c.ins.length) : iAt c i = c.ins[i] := by unfold iAt; rw [List.getD_eq_getElem?_getD,Qi h]; rfl
def smallCodeV (c : CodeT) : Bool := (smallSigV c.cons c.funs && !(decide (1020 < (c.ins.length : Int)) || decide (20 < (c.starts.length : Int)))) && (List.range c.ins.length).all fun i=>smallI (iAt c i)
structure Copied (st s1 s2 : St) (z cs : List AV) (T : TypeId) : Prop where
 new : s1.heap.get st.next = some (.cells z T false)
 put : s2.heap.get st.next = some (.cells cs T false)
 old1 : ∀ c, c < st.next → s1.heap.get c = st.heap.get c
 old : ∀ c, c < st.next → s2.heap.get c = st.heap.get c
 bound : s2.bound = st.bound
 log : st.bound ≤ st.next → s2.log = st.log
 next : s2.next = st.next + 1
theorem copied {st : St} {z cs : List AV} {T : TypeId} : Copied st (st.alloc (.cells z T false)) ((st.alloc (.cells z T false)).put st.next (some (.cells cs T false))) z cs T :=
 ⟨DX, by rw [AS, if_pos rfl], fun _ h => Bk h, fun c h => by rw [AS, if_neg (Nat.ne_of_lt h), Bk h], rfl, fun h => by
  show (bif Nat.blt st.next st.bound then _ else st.log) = st.log
  cases hb : Nat.blt st.next st.bound with
  | false => rfl
  | true =>
   have : st.next < st.bound := Qc hb
   omega, rfl⟩
theorem smallCode_to (c : CodeT) : CallTo (EK K6) 9 [.agg (encC c)] S0 (.bool (smallCodeV c)) := by
 refine Ax (fn := Tryz.f9) rfl rfl (by kernel_rfl) rfl rfl rfl rfl ?_
 have hno : (smallSigV c.cons c.funs && !(decide (1020 < (c.ins.length : Int)) || decide (20 < (c.starts.length : Int)))) = false → smallCodeV c = false := fun h => by unfold smallCodeV; rw [h]; rfl
 focus
  refine Es <| Lo (Az 1 rfl rfl rfl rfl) rfl <| qa rfl <| Ld <| Ab <| Es <| Lq (of Ep rfl) rfl <| Lo (A7 rfl ag_24 sz_24 rfl rfl (Qc rfl)) rfl ?_
  refine Lo (Ag rfl rfl (by kernel_rfl) rfl (Ae (hit_25))) rfl <| Lq (on rfl) rfl <| qm rfl ?_
  refine Lb rfl (fun g1 => ?_) (fun g1 => ?_)
  have h1 := DK g1
  iterate 4 refine Lk rfl ‹_› ?_
  refine Lq (oT rfl ‹_› rfl) rfl <| qm rfl ?_
  iterate 4 refine Lk rfl rfl ?_
  refine Lq (oT rfl rfl rfl) rfl <| Ld <| Ah rfl rfl <| Es <| qa rfl <| Ld ?_
  refine Aa (Er rfl ?_)
  refine Ad ?_
  rotate_left
  have h1 := DL g1
  refine Lh rfl ‹_› (of Bd rfl) <| Lg rfl ‹_› (l1 BW BV rfl) <| Lh rfl ‹_› (ol u_25 rfl) <| Lh rfl ‹_› (o2 u_3 rfl rfl) <| Lq (oF rfl ‹_› rfl) rfl <| qm rfl ?_
  refine Lb rfl (fun g2 => ?_) (fun g2 => ?_)
  have h2 := dT g2
  iterate 4 refine Lk rfl ‹_› ?_
  refine Lq (oT rfl ‹_› rfl) rfl <| Ld <| Ah rfl rfl <| Es <| qa rfl <| Ld ?_
  refine Aa (Er rfl ?_)
  refine Ad ?_
  rotate_left
  have h2 := dF g2
  refine Lh rfl ‹_› (of f_28_2 rfl) <| Lg rfl ‹_› (l1 BK BJ rfl) <| Lh rfl ‹_› (ol DO rfl) <| Lh rfl ‹_› (o2 u_3 rfl rfl) <| Lq (oF rfl ‹_› rfl) rfl <| Ld ?_
  refine Ec rfl (fun g3 => ?_) (fun g3 => ?_)
  have h3 := dT g3
  refine Es <| qa rfl <| Ld ?_
  refine Aa (Er rfl ?_)
  refine Ad ?_
  rotate_left
  have h3 := dF g3
  refine Ac <| Ab <| Es <| qa rfl <| Ld <| Ai ?_
  rotate_left
 ·rw [hno (by rw [h1]; rfl)]
 ·rw [hno (by rw [g2]; simp)]
 ·rw [hno (by rw [g3]; simp)]
 refine Aw (fun x : Nat × St => ([(3, .int .i64 (x.1 : Nat)), (1, .ptr 0 0)], x.2)) (fun x => c.ins.length - x.1)
  (fun x => x.1 ≤ c.ins.length ∧ (List.range x.1).all (fun i => smallI (iAt c i)) = true ∧ x.2.heap.get 0 = some (.cells (encC c) 28 false) ∧ 0 < x.2.next ∧ x.2.bound = 0 ∧ x.2.log = []) (0, mkS 1 0 [] [(0, some (.cells (encC c) 28 false))]) ⟨Qo _, rfl, rfl, Nat.one_pos, rfl, rfl⟩ rfl (by (refine Am.Ap ?_; repeat (first | exact trivial | refine ⟨rfl, ?_⟩))) ?_
 rintro ⟨i, st⟩ ⟨hi, hs, hg, hn, hb, hl⟩
 dsimp only at hi hs hg hn hb hl ⊢
 by_cases h : i < c.ins.length
 ·have hp := A1 B7 h
  obtain ⟨hc1, hc2, hc3, hc4, hc5, hc6, hc7⟩ := copied (st := st) (z := [.int .i64 0, .int .i64 0, .nilslice, .nilslice, .int .i64 0, .int .i64 0, .nilslice]) (cs := encI c.ins[i]) (T := 58)
  have hlog := (hc6 (by omega)).trans hl
  have hbd := hc5.trans hb
  have hg2 := (hc4 0 hn).trans hg
  have hno2 : smallI c.ins[i] = false → false = smallCodeV c := fun h2 => by
   unfold smallCodeV
   rw [ra_no (i := i) h (by rw [iAt_eq h]; exact h2), Bool.and_false]
  focus
   refine Ab <| Es <| qm rfl <| Lq (of Bd rfl) rfl <| Lo (A8 rfl rfl (Al BW BV ‹_› rfl)) rfl <| Lq (ol u_25 rfl) rfl <| Lq (o2 u_3 rfl rfl) rfl <| Ld ?_
   refine Ec rfl (fun g4 => ?_) (fun g4 => ?_)
   have h4 := dT g4
   refine Ac <| Ab <| Ai <| Es <| Lq (of Bd rfl) rfl <| Lo (A8 rfl rfl (Al BW BV ‹_› rfl)) rfl <| qm rfl <| Lq (Af rfl u_25 BX rfl rfl ‹_›) rfl ?_
   refine Lq (AM rfl rfl ag_58 BX (Qc rfl)) rfl <| Lo (Bz rfl z_58) rfl <| AB (Ba rfl BX rfl rfl (AZ ‹_› rfl rfl rfl)) rfl rfl <| Ld <| Es <| Lq (of DG rfl) rfl <| Lo (A8 rfl rfl (Al Fh EO ‹_› rfl)) rfl <| Lq (ol u_56 rfl) rfl ?_
   refine Lq (o2 u_3 rfl rfl) rfl <| qm rfl ?_
   refine Lb rfl (fun g5 => ?_) (fun g5 => ?_)
   have h5 := dT g5
   iterate 4 refine Lk rfl ‹_› ?_
   refine Lq (oT rfl ‹_› rfl) rfl <| qm rfl ?_
   iterate 4 refine Lk rfl rfl ?_
   refine Lq (oT rfl rfl rfl) rfl <| Ld <| Ah rfl rfl <| Es <| qa rfl <| Ld ?_
   refine Aa ⟨.inl rfl, rfl, ‹_›, ‹_›, _, _, _, (As rfl rfl), rfl, rfl, ?_⟩
   refine Ad ?_
   rotate_left
   have h5 := dF g5
   refine Lh rfl ‹_› (of f_58_3 rfl) <| Lg rfl ‹_› (A8 rfl rfl (Al BK BJ ‹_› rfl)) <| Lh rfl ‹_› (ol DO rfl) <| Lh rfl ‹_› (o2 u_3 rfl rfl) <| Lq (oF rfl ‹_› rfl) rfl <| qm rfl ?_
   refine Lb rfl (fun g6 => ?_) (fun g6 => ?_)
   have h6 := dT g6
   iterate 4 refine Lk rfl ‹_› ?_
   refine Lq (oT rfl ‹_› rfl) rfl <| Ld <| Ah rfl rfl <| Es <| qa rfl <| Ld ?_
   refine Aa ⟨.inl rfl, rfl, ‹_›, ‹_›, _, _, _, (As rfl rfl), rfl, rfl, ?_⟩
   refine Ad ?_
   rotate_left
   have h6 := dF g6
   refine Lh rfl ‹_› (of f_58_6 rfl) <| Lg rfl ‹_› (A8 rfl rfl (Al BK BJ ‹_› rfl)) <| Lh rfl ‹_› (ol DO rfl) <| Lh rfl ‹_› (o2 u_3 rfl rfl) <| Lq (oF rfl ‹_› rfl) rfl <| Ld ?_
   refine Ec rfl (fun g7 => ?_) (fun g7 => ?_)
   have h7 := dT g7
   refine Es <| qa rfl <| Ld ?_
   refine Aa ⟨.inl rfl, rfl, ‹_›, ‹_›, _, _, _, (As rfl rfl), rfl, rfl, ?_⟩
   refine Ad ?_
   rotate_left
   have h7 := dF g7
   refine Ac <| Ao <| qm rfl ?_
   refine Lq (At (b := 1) rfl u_3 rfl rfl (by first | assumption | omega | (simp only [LL]; omega))) rfl ?_
   refine qa rfl <| Ld ?_
   rotate_left
   have h4 := dF g4
   exact absurd h4 (by omega)
  ·exact hno2 (by unfold smallI; rw [g5]; rfl)
  ·exact hno2 (by unfold smallI; rw [g6]; simp)
  ·exact hno2 (by unfold smallI; rw [g7]; simp)
  ·refine ⟨(i + 1, _), ⟨h, DT hs (by rw [iAt_eq h]; unfold smallI; rw [g5, g6, g7]; rfl), hg2, Nat.succ_pos _, hc5.trans hb, hlog⟩, by show c.ins.length - (i + 1) < c.ins.length - i; omega, rfl, rfl, by (refine Am.Ap ?_; repeat (first | exact trivial | refine ⟨rfl, ?_⟩))⟩
 ·focus
   refine Ab <| Es <| qm rfl <| Lq (of Bd rfl) rfl <| Lo (A8 rfl rfl (Al BW BV ‹_› rfl)) rfl <| Lq (ol u_25 rfl) rfl <| Lq (o2 u_3 rfl rfl) rfl <| Ld ?_
   refine Ec rfl (fun g4 => ?_) (fun g4 => ?_)
   have h4 := dT g4
   exact absurd h4 (by omega)
   have h4 := dF g4
   refine A5 <| AX rfl <| Es <| qa rfl <| Ld ?_
   refine Aa ⟨.inl rfl, rfl, ‹_›, ‹_›, _, _, _, (As rfl rfl), rfl, rfl, ?_⟩
   refine Ad ?_
   rotate_left
  obtain rfl : i = c.ins.length := by omega
  unfold smallCodeV; rw [hs, h1, g2, g3]; rfl
noncomputable def K7 := addC K6 9 (fun c : CodeT=>[.agg (encC c)]) (fun c=>.bool (smallCodeV c))
theorem hit_9 {c : CodeT} : K7 9 [.agg (encC c)] = some (.bool (smallCodeV c)) :=
 AD (f := 9) (enc := fun c : CodeT => [.agg (encC c)]) (res := fun c => .bool (smallCodeV c)) (fun a b h => by rw [encC_inj (List.cons.inj h).1]) c
theorem all7 (h : KnownF Tryz.prog 10 [] (.bool true)) : KnownAll Tryz.prog K7 := BH AE (all6 h) (fun c=>smallCode_to c) (fun _=>rfl) (fun _=>rfl)
def regsV (l : List Int) : Bool := (List.range l.length).all fun i=>inV (l.getD i 0) 0 59
theorem BD {α : Type} {l : List α} {i : Nat} {d : α} (h : i < l.length) : l.getD i d = l[i] := by rw [List.getD_eq_getElem?_getD,Qi h]; rfl
structure Fits (c : CodeT) : Prop where
 cons : c.cons.length ≤ 4000
 funs : c.funs.length ≤ 4000
 ins : c.ins.length ≤ 4000
 starts : c.starts.length ≤ 4000
 alts : ∀ x ∈ c.ins, x.alts.length ≤ 4000
 to : ∀ x ∈ c.ins, x.to.length ≤ 4000
 args : ∀ x ∈ c.ins, x.args.length ≤ 4000
 cnames : ∀ p ∈ c.cons, p.1.length ≤ 4000
 fnames : ∀ p ∈ c.funs, p.1.length ≤ 4000
abbrev AtT := { p : CodeT × Nat // Fits p.1 ∧ p.2 < p.1.ins.length }
def AtT.x (p : AtT) : InsT := p.1.1.ins[p.1.2]'p.2.2
theorem encAt_inj {p q : AtT} (h : ([.agg (encC p.1.1), .int .i64 (p.1.2 : Nat)] : List AV) = [.agg (encC q.1.1), .int .i64 (q.1.2 : Nat)]) : p = q := by
 obtain ⟨⟨a, b⟩, _⟩ := p
 obtain ⟨⟨c, d⟩, _⟩ := q
 simp only [List.cons.injEq, and_true, AV.int.injEq, true_and] at h
 obtain rfl := encC_inj h.1
 obtain rfl : b = d := by omega
 rfl
abbrev IntsT := { l : List Int // l.length ≤ 4000 }
abbrev MadeT := { p : List NameT × List NameT × InsT // p.1.length ≤ 4000 ∧ p.2.1.length ≤ 4000 }
theorem regs_to (l : List Int) (hn : l.length ≤ 4000) : CallTo (EK K7) 108 [recs encZ 1 l] S0 (.bool (regsV l)) := by
 refine Ax (fn := Tryz.f108) rfl rfl (by kernel_rfl) rfl rfl rfl rfl <| Es <| qa rfl <| Ld <| Ab <| Es <| qa rfl <| Ld ?_
 refine Ai ?_
 refine Aw (fun i : Nat => ([(3, .int .i64 (i : Nat)), (0, recs encZ 1 l)], mkS 0 0 [] [])) (fun i => l.length - i) (fun i => i ≤ l.length ∧ (List.range i).all (fun i => inV (l.getD i 0) 0 59) = true) 0 ⟨Qo _, rfl⟩ rfl (by (refine Am.Ap ?_; repeat (first | exact trivial | refine ⟨rfl, ?_⟩))) ?_
 rintro i ⟨hi, hs⟩
 dsimp only at hi hs ⊢
 by_cases h : i < l.length
 ·have hp := A1 B5 h
  focus
   refine Ab <| Es ?_
   iterate 2 refine qm rfl ?_
   refine Lq (ol DO rfl) rfl <| Lq (o2 u_3 rfl rfl) rfl <| Ld ?_
   refine Ec rfl (fun g1 => ?_) (fun g1 => ?_)
   have h1 := dT g1
   refine Ac <| Ab <| Ai <| Es ?_
   iterate 2 refine qm rfl ?_
   refine Lq (Af rfl DO AY rfl rfl ‹_›) rfl <| Lq (A3 rfl rfl Bj AY) rfl ?_
   refine Lo (Ag rfl rfl (by kernel_rfl) rfl (Ae (hit_43))) rfl <| Lq (on rfl) rfl <| Ld ?_
   refine Ec rfl (fun g2 => ?_) (fun g2 => ?_)
   have h2 := DK g2
   refine Es <| qa rfl <| Ld ?_
   refine Aa (Er rfl ?_)
   refine Ad ?_
   rotate_left
   have h2 := DL g2
   refine Ac <| Ao <| qm rfl ?_
   refine Lq (At (b := 1) rfl u_3 rfl rfl (by first | assumption | omega | (simp only [LL]; omega))) rfl ?_
   refine qa rfl <| Ld ?_
   rotate_left
   have h1 := dF g1
   exact absurd h1 (by omega)
  ·unfold regsV; rw [ra_no (i := i) h (by rw [BD h]; assumption)]
  ·exact ⟨i + 1, ⟨h, DT hs (by rw [BD h]; assumption)⟩, by show l.length - (i + 1) < l.length - i; omega, rfl, rfl, by (refine Am.Ap ?_; repeat (first | exact trivial | refine ⟨rfl, ?_⟩))⟩
 ·focus
   refine Ab <| Es ?_
   iterate 2 refine qm rfl ?_
   refine Lq (ol DO rfl) rfl <| Lq (o2 u_3 rfl rfl) rfl <| Ld ?_
   refine Ec rfl (fun g1 => ?_) (fun g1 => ?_)
   have h1 := dT g1
   exact absurd h1 (by omega)
   have h1 := dF g1
   refine A5 <| AX rfl <| Es <| qa rfl <| Ld ?_
   refine Aa (Er rfl ?_)
   refine Ad ?_
   rotate_left
  obtain rfl : i = l.length := by omega
  exact hs.symm
noncomputable def K8a := addC K7 108 (fun l : IntsT=>[recs encZ 1 l.1]) (fun l=>.bool (regsV l.1))
theorem hit_108 {l : List Int} (h : l.length ≤ 4000) : K8a 108 [recs encZ 1 l] = some (.bool (regsV l)) :=
 AD (f := 108) (enc := fun l : IntsT => [recs encZ 1 l.1]) (res := fun l => .bool (regsV l.1)) (by
  rintro ⟨a, _⟩ ⟨b, _⟩ h
  obtain rfl := AT Fb B5 (List.cons.inj h).1
  rfl) ⟨l, h⟩
def arity (l : List NameT) (n : Int) : Int := (l.getD n.toNat ([],0)).2
def madeV (cons funs : List NameT) (term n : Int) (k : Nat) : Bool :=
 if term = 2 then decide ((k : Int) = 0) && inV n (-1000000) 1000000
 else if term = 3 then inV n 0 (cons.length - 1) && decide ((k : Int) = arity cons n)
 else if term = 4 then inV n 0 (funs.length - 1) && decide ((k : Int) = arity funs n)
 else if term = 5 then inV n 0 (funs.length - 1) && decide ((k : Int) < arity funs n)
 else if term = 6 ∨ term = 7 ∨ 9 ≤ term ∧ term ≤ 15 then decide (n = 0) && decide ((k : Int) = 2)
 else false
def madeI (cons funs : List NameT) (x : InsT) : Bool := madeV cons funs x.term x.n x.args.length
theorem made_pair {cons funs : List NameT} {x : InsT} (ht : x.term = 6 ∨ x.term = 7 ∨ 9 ≤ x.term ∧ x.term ≤ 15) : madeI cons funs x = (decide (x.n = 0) && decide ((x.args.length : Int) = 2)) := by
 unfold madeI madeV
 rw [if_neg (by omega), if_neg (by omega), if_neg (by omega), if_neg (by omega), if_pos ht]
theorem made_pairT {cons funs : List NameT} {x : InsT} (ht : x.term = 6 ∨ x.term = 7 ∨ 9 ≤ x.term ∧ x.term ≤ 15) (hn : x.n = 0) : decide ((x.args.length : Int) = 2) = madeI cons funs x := by rw [made_pair ht,decide_eq_true hn]; rfl
theorem made_pairF {cons funs : List NameT} {x : InsT} (ht : x.term = 6 ∨ x.term = 7 ∨ 9 ≤ x.term ∧ x.term ≤ 15) (hn : ¬ x.n = 0) : false = madeI cons funs x := by rw [made_pair ht,decide_eq_false hn]; rfl
theorem made_none {cons funs : List NameT} {x : InsT} (ht : ¬ (x.term = 2 ∨ x.term = 3 ∨ x.term = 4 ∨ x.term = 5 ∨ x.term = 6 ∨ x.term = 7 ∨ 9 ≤ x.term ∧ x.term ≤ 15)) : false = madeI cons funs x := by
 unfold madeI madeV
 rw [if_neg (by omega), if_neg (by omega), if_neg (by omega), if_neg (by omega), if_neg (by omega)]
theorem made_to (cons funs : List NameT) (x : InsT) (hc : cons.length ≤ 4000) (hf : funs.length ≤ 4000) : CallTo (EK K8a) 109 [.agg [recs encN 2 cons, recs encN 2 funs], .agg (encI x)] S0 (.bool (madeI cons funs x)) := by
 refine Ax (fn := Tryz.f109) rfl rfl (by kernel_rfl) rfl rfl rfl rfl ?_
 focus
  refine Es <| Lo (Az 1 rfl rfl rfl rfl) rfl <| Lo (Az 2 rfl rfl rfl rfl) rfl <| qa rfl <| Ld <| Es <| Lq (of f_58_6 rfl) rfl <| Lo (l1 BK BJ rfl) rfl ?_
  refine Lq (ol DO rfl) rfl <| qa rfl <| Ld <| Ab <| Es <| Lq (of f_58_4 rfl) rfl <| Lo (l1 ag_37 sz_37 rfl) rfl <| Ld ?_
  refine Ai <| Es <| Lq (o2 u_37 rfl rfl) rfl <| qa rfl <| Ld ?_
  refine Ec rfl (fun g1 => ?_) (fun g1 => ?_)
  have h1 := dT g1
  refine Es <| qm rfl <| Lq (o2 u_3 rfl rfl) rfl <| qm rfl ?_
  refine Lb rfl (fun g2 => ?_) (fun g2 => ?_)
  have h2 := dT g2
  refine Lh rfl ‹_› (of BS rfl) <| Lg rfl ‹_› (l1 Bj AY rfl) ?_
  refine Lg rfl ‹_› (Ag rfl rfl (by kernel_rfl) rfl (Ae (hit_43))) <| Lq (oT rfl ‹_› rfl) rfl <| qa rfl <| Ld ?_
  refine Aa (Er rfl ?_)
  refine Ad ?_
  rotate_left
  have h2 := dF g2
  iterate 3 refine Lk rfl ‹_› ?_
  refine Lq (oF rfl ‹_› rfl) rfl <| qa rfl <| Ld ?_
  refine Aa (Er rfl ?_)
  refine Ad ?_
  rotate_left
  have h1 := dF g1
  refine Es <| Lq (o2 u_37 rfl rfl) rfl <| qa rfl <| Ld ?_
  refine Ec rfl (fun g3 => ?_) (fun g3 => ?_)
  have h3 := dT g3
  refine Es <| Lq (of BS rfl) rfl <| Lo (l1 Bj AY rfl) rfl <| Lq (of BU rfl) rfl <| Lo (l1 Bp Bo rfl) rfl <| Lq (ol DF rfl) rfl <| Lq (Ef rfl u_3 rfl rfl (by omega)) rfl ?_
  refine Lo (Ag rfl rfl (by kernel_rfl) rfl (Ae (hit_43))) rfl <| qm rfl ?_
  refine Lb rfl (fun g4 => ?_) (fun g4 => ?_)
  refine Lh rfl ‹_› (om rfl) <| Lh rfl ‹_› (of BU rfl) <| Lg rfl ‹_› (l1 Bp Bo rfl) <| Lh rfl ‹_› (of BS rfl) <| Lg rfl ‹_› (l1 Bj AY rfl) ?_
  rotate_left
  iterate 9 refine Lk rfl ‹_› ?_
  refine Lq (oF rfl ‹_› rfl) rfl <| qa rfl <| Ld ?_
  refine Aa (Er rfl ?_)
  refine Ad ?_
  rotate_left
  have h3 := dF g3
  refine Es <| Lq (o2 u_37 rfl rfl) rfl <| qa rfl <| Ld ?_
  refine Ec rfl (fun g5 => ?_) (fun g5 => ?_)
  have h5 := dT g5
  refine Es <| Lq (of BS rfl) rfl <| Lo (l1 Bj AY rfl) rfl <| Lq (of BT rfl) rfl <| Lo (l1 Bp Bo rfl) rfl <| Lq (ol DF rfl) rfl <| Lq (Ef rfl u_3 rfl rfl (by omega)) rfl ?_
  refine Lo (Ag rfl rfl (by kernel_rfl) rfl (Ae (hit_43))) rfl <| qm rfl ?_
  refine Lb rfl (fun g6 => ?_) (fun g6 => ?_)
  refine Lh rfl ‹_› (om rfl) <| Lh rfl ‹_› (of BT rfl) <| Lg rfl ‹_› (l1 Bp Bo rfl) <| Lh rfl ‹_› (of BS rfl) <| Lg rfl ‹_› (l1 Bj AY rfl) ?_
  rotate_left
  iterate 9 refine Lk rfl ‹_› ?_
  refine Lq (oF rfl ‹_› rfl) rfl <| qa rfl <| Ld ?_
  refine Aa (Er rfl ?_)
  refine Ad ?_
  rotate_left
  have h5 := dF g5
  refine Es <| Lq (o2 u_37 rfl rfl) rfl <| qa rfl <| Ld ?_
  refine Ec rfl (fun g7 => ?_) (fun g7 => ?_)
  have h7 := dT g7
  refine Es <| Lq (of BS rfl) rfl <| Lo (l1 Bj AY rfl) rfl <| Lq (of BT rfl) rfl <| Lo (l1 Bp Bo rfl) rfl <| Lq (ol DF rfl) rfl <| Lq (Ef rfl u_3 rfl rfl (by omega)) rfl ?_
  refine Lo (Ag rfl rfl (by kernel_rfl) rfl (Ae (hit_43))) rfl <| qm rfl ?_
  refine Lb rfl (fun g8 => ?_) (fun g8 => ?_)
  refine Lh rfl ‹_› (om rfl) <| Lh rfl ‹_› (of BT rfl) <| Lg rfl ‹_› (l1 Bp Bo rfl) <| Lh rfl ‹_› (of BS rfl) <| Lg rfl ‹_› (l1 Bj AY rfl) ?_
  rotate_left
  iterate 9 refine Lk rfl ‹_› ?_
  refine Lq (oF rfl ‹_› rfl) rfl <| qa rfl <| Ld ?_
  refine Aa (Er rfl ?_)
  refine Ad ?_
  rotate_left
  have h7 := dF g7
  refine Ab <| Es <| Lq (o2 u_37 rfl rfl) rfl <| qa rfl <| Ld ?_
  refine Ec rfl (fun g9 => ?_) (fun g9 => ?_)
  have h9 := dT g9
  refine Ac <| Ah rfl ‹_› <| Es <| Lq (of BS rfl) rfl <| Lo (l1 Bj AY rfl) rfl <| Lq (o2 u_3 rfl rfl) rfl <| qm rfl ?_
  refine Lb rfl (fun g10 => ?_) (fun g10 => ?_)
  have h10 := dT g10
  refine Lh rfl ‹_› (om rfl) <| Lh rfl ‹_› (o2 u_3 rfl rfl) <| Lq (oT rfl ‹_› rfl) rfl <| qa rfl <| Ld ?_
  refine Aa (Er rfl ?_)
  refine Ad ?_
  rotate_left
  have h10 := dF g10
  iterate 2 refine Lk rfl ‹_› ?_
  refine Lq (oF rfl ‹_› rfl) rfl <| qa rfl <| Ld ?_
  refine Aa (Er rfl ?_)
  refine Ad ?_
  rotate_left
  have h9 := dF g9
  refine Es <| Lq (o2 u_37 rfl rfl) rfl <| qa rfl <| Ld ?_
  refine Ec rfl (fun g11 => ?_) (fun g11 => ?_)
  have h11 := dT g11
  refine Ac <| Ah rfl ‹_› <| Es <| Lq (of BS rfl) rfl <| Lo (l1 Bj AY rfl) rfl <| Lq (o2 u_3 rfl rfl) rfl <| qm rfl ?_
  refine Lb rfl (fun g12 => ?_) (fun g12 => ?_)
  have h12 := dT g12
  refine Lh rfl ‹_› (om rfl) <| Lh rfl ‹_› (o2 u_3 rfl rfl) <| Lq (oT rfl ‹_› rfl) rfl <| qa rfl <| Ld ?_
  refine Aa (Er rfl ?_)
  refine Ad ?_
  rotate_left
  have h12 := dF g12
  iterate 2 refine Lk rfl ‹_› ?_
  refine Lq (oF rfl ‹_› rfl) rfl <| qa rfl <| Ld ?_
  refine Aa (Er rfl ?_)
  refine Ad ?_
  rotate_left
  have h11 := dF g11
  refine Es <| Lq (o2 u_37 rfl rfl) rfl <| qa rfl <| Ld ?_
  refine Ec rfl (fun g13 => ?_) (fun g13 => ?_)
  have h13 := dT g13
  refine Ac <| Ah rfl ‹_› <| Es <| Lq (of BS rfl) rfl <| Lo (l1 Bj AY rfl) rfl <| Lq (o2 u_3 rfl rfl) rfl <| qm rfl ?_
  refine Lb rfl (fun g14 => ?_) (fun g14 => ?_)
  have h14 := dT g14
  refine Lh rfl ‹_› (om rfl) <| Lh rfl ‹_› (o2 u_3 rfl rfl) <| Lq (oT rfl ‹_› rfl) rfl <| qa rfl <| Ld ?_
  refine Aa (Er rfl ?_)
  refine Ad ?_
  rotate_left
  have h14 := dF g14
  iterate 2 refine Lk rfl ‹_› ?_
  refine Lq (oF rfl ‹_› rfl) rfl <| qa rfl <| Ld ?_
  refine Aa (Er rfl ?_)
  refine Ad ?_
  rotate_left
  have h13 := dF g13
  refine Es <| Lq (o2 u_37 rfl rfl) rfl <| qa rfl <| Ld ?_
  refine Ec rfl (fun g15 => ?_) (fun g15 => ?_)
  have h15 := dT g15
  refine Ac <| Ah rfl ‹_› <| Es <| Lq (of BS rfl) rfl <| Lo (l1 Bj AY rfl) rfl <| Lq (o2 u_3 rfl rfl) rfl <| qm rfl ?_
  refine Lb rfl (fun g16 => ?_) (fun g16 => ?_)
  have h16 := dT g16
  refine Lh rfl ‹_› (om rfl) <| Lh rfl ‹_› (o2 u_3 rfl rfl) <| Lq (oT rfl ‹_› rfl) rfl <| qa rfl <| Ld ?_
  refine Aa (Er rfl ?_)
  refine Ad ?_
  rotate_left
  have h16 := dF g16
  iterate 2 refine Lk rfl ‹_› ?_
  refine Lq (oF rfl ‹_› rfl) rfl <| qa rfl <| Ld ?_
  refine Aa (Er rfl ?_)
  refine Ad ?_
  rotate_left
  have h15 := dF g15
  refine Es <| Lq (o2 u_37 rfl rfl) rfl <| qa rfl <| Ld ?_
  refine Ec rfl (fun g17 => ?_) (fun g17 => ?_)
  have h17 := dT g17
  refine Ac <| Ah rfl ‹_› <| Es <| Lq (of BS rfl) rfl <| Lo (l1 Bj AY rfl) rfl <| Lq (o2 u_3 rfl rfl) rfl <| qm rfl ?_
  refine Lb rfl (fun g18 => ?_) (fun g18 => ?_)
  have h18 := dT g18
  refine Lh rfl ‹_› (om rfl) <| Lh rfl ‹_› (o2 u_3 rfl rfl) <| Lq (oT rfl ‹_› rfl) rfl <| qa rfl <| Ld ?_
  refine Aa (Er rfl ?_)
  refine Ad ?_
  rotate_left
  have h18 := dF g18
  iterate 2 refine Lk rfl ‹_› ?_
  refine Lq (oF rfl ‹_› rfl) rfl <| qa rfl <| Ld ?_
  refine Aa (Er rfl ?_)
  refine Ad ?_
  rotate_left
  have h17 := dF g17
  refine Es <| Lq (o2 u_37 rfl rfl) rfl <| qa rfl <| Ld ?_
  refine Ec rfl (fun g19 => ?_) (fun g19 => ?_)
  have h19 := dT g19
  refine Ac <| Ah rfl ‹_› <| Es <| Lq (of BS rfl) rfl <| Lo (l1 Bj AY rfl) rfl <| Lq (o2 u_3 rfl rfl) rfl <| qm rfl ?_
  refine Lb rfl (fun g20 => ?_) (fun g20 => ?_)
  have h20 := dT g20
  refine Lh rfl ‹_› (om rfl) <| Lh rfl ‹_› (o2 u_3 rfl rfl) <| Lq (oT rfl ‹_› rfl) rfl <| qa rfl <| Ld ?_
  refine Aa (Er rfl ?_)
  refine Ad ?_
  rotate_left
  have h20 := dF g20
  iterate 2 refine Lk rfl ‹_› ?_
  refine Lq (oF rfl ‹_› rfl) rfl <| qa rfl <| Ld ?_
  refine Aa (Er rfl ?_)
  refine Ad ?_
  rotate_left
  have h19 := dF g19
  refine Es <| Lq (o2 u_37 rfl rfl) rfl <| qa rfl <| Ld ?_
  refine Ec rfl (fun g21 => ?_) (fun g21 => ?_)
  have h21 := dT g21
  refine Ac <| Ah rfl ‹_› <| Es <| Lq (of BS rfl) rfl <| Lo (l1 Bj AY rfl) rfl <| Lq (o2 u_3 rfl rfl) rfl <| qm rfl ?_
  refine Lb rfl (fun g22 => ?_) (fun g22 => ?_)
  have h22 := dT g22
  refine Lh rfl ‹_› (om rfl) <| Lh rfl ‹_› (o2 u_3 rfl rfl) <| Lq (oT rfl ‹_› rfl) rfl <| qa rfl <| Ld ?_
  refine Aa (Er rfl ?_)
  refine Ad ?_
  rotate_left
  have h22 := dF g22
  iterate 2 refine Lk rfl ‹_› ?_
  refine Lq (oF rfl ‹_› rfl) rfl <| qa rfl <| Ld ?_
  refine Aa (Er rfl ?_)
  refine Ad ?_
  rotate_left
  have h21 := dF g21
  refine Es <| Lq (o2 u_37 rfl rfl) rfl <| qa rfl <| Ld ?_
  refine Ec rfl (fun g23 => ?_) (fun g23 => ?_)
  have h23 := dT g23
  refine Ac <| Ah rfl ‹_› <| Es <| Lq (of BS rfl) rfl <| Lo (l1 Bj AY rfl) rfl <| Lq (o2 u_3 rfl rfl) rfl <| qm rfl ?_
  refine Lb rfl (fun g24 => ?_) (fun g24 => ?_)
  have h24 := dT g24
  refine Lh rfl ‹_› (om rfl) <| Lh rfl ‹_› (o2 u_3 rfl rfl) <| Lq (oT rfl ‹_› rfl) rfl <| qa rfl <| Ld ?_
  refine Aa (Er rfl ?_)
  refine Ad ?_
  rotate_left
  have h24 := dF g24
  iterate 2 refine Lk rfl ‹_› ?_
  refine Lq (oF rfl ‹_› rfl) rfl <| qa rfl <| Ld ?_
  refine Aa (Er rfl ?_)
  refine Ad ?_
  rotate_left
  have h23 := dF g23
  refine Ao <| Lq (o2 u_37 rfl rfl) rfl <| qa rfl <| Ld ?_
  refine Ec rfl (fun g25 => ?_) (fun g25 => ?_)
  have h25 := dT g25
  refine Es <| Lq (of BS rfl) rfl <| Lo (l1 Bj AY rfl) rfl <| Lq (o2 u_3 rfl rfl) rfl <| qm rfl ?_
  refine Lb rfl (fun g26 => ?_) (fun g26 => ?_)
  have h26 := dT g26
  refine Lh rfl ‹_› (om rfl) <| Lh rfl ‹_› (o2 u_3 rfl rfl) <| Lq (oT rfl ‹_› rfl) rfl <| qa rfl <| Ld ?_
  refine Aa (Er rfl ?_)
  refine Ad ?_
  rotate_left
  have h26 := dF g26
  iterate 2 refine Lk rfl ‹_› ?_
  refine Lq (oF rfl ‹_› rfl) rfl <| qa rfl <| Ld ?_
  refine Aa (Er rfl ?_)
  refine Ad ?_
  rotate_left
  have h25 := dF g25
  refine Ac <| Es <| qa rfl <| Ld ?_
  refine Aa (Er rfl ?_)
  refine Ad ?_
  rotate_left
 ·simp only [madeI, madeV, h1, if_true, decide_eq_true h2, Bool.true_and]
 ·simp only [madeI, madeV, h1, if_true, decide_eq_false h2, Bool.false_and]
 ·obtain ⟨hz, hlt⟩ := inV_iff.1 g4
  have hp := A1 AH (l := cons) (i := x.n.toNat) (by omega)
  refine Lh rfl ‹_› (BB rfl DF BI rfl rfl (by first | assumption | omega) ‹_›) <| Lh rfl ‹_› (A0 rfl f_54_1 rfl (Qc rfl)) <| Lh rfl ‹_› (A3 rfl rfl Bj AY) <| Lh rfl ‹_› (o2 u_3 rfl rfl) <| Lq (oT rfl ‹_› rfl) rfl <| qa rfl <| Ld ?_
  refine Aa (Er rfl ?_)
  refine Ad ?_
  simp only [madeI, madeV, h3, g4, arity, BD (l := cons) (i := x.n.toNat) (d := ([], 0)) (by omega)]; rfl
 ·simp only [madeI, madeV, h3, g4]; rfl
 ·obtain ⟨hz, hlt⟩ := inV_iff.1 g6
  have hp := A1 AH (l := funs) (i := x.n.toNat) (by omega)
  refine Lh rfl ‹_› (BB rfl DF BI rfl rfl (by first | assumption | omega) ‹_›) <| Lh rfl ‹_› (A0 rfl f_54_1 rfl (Qc rfl)) <| Lh rfl ‹_› (A3 rfl rfl Bj AY) <| Lh rfl ‹_› (o2 u_3 rfl rfl) <| Lq (oT rfl ‹_› rfl) rfl <| qa rfl <| Ld ?_
  refine Aa (Er rfl ?_)
  refine Ad ?_
  simp only [madeI, madeV, h5, g6, arity, BD (l := funs) (i := x.n.toNat) (d := ([], 0)) (by omega)]; rfl
 ·simp only [madeI, madeV, h5, g6]; rfl
 ·obtain ⟨hz, hlt⟩ := inV_iff.1 g8
  have hp := A1 AH (l := funs) (i := x.n.toNat) (by omega)
  refine Lh rfl ‹_› (BB rfl DF BI rfl rfl (by first | assumption | omega) ‹_›) <| Lh rfl ‹_› (A0 rfl f_54_1 rfl (Qc rfl)) <| Lh rfl ‹_› (A3 rfl rfl Bj AY) <| Lh rfl ‹_› (o2 u_3 rfl rfl) <| Lq (oT rfl ‹_› rfl) rfl <| qa rfl <| Ld ?_
  refine Aa (Er rfl ?_)
  refine Ad ?_
  simp only [madeI, madeV, h7, g8, arity, BD (l := funs) (i := x.n.toNat) (d := ([], 0)) (by omega)]; rfl
 ·simp only [madeI, madeV, h7, g8]; rfl
 all_goals first | exact made_pairT (by omega) ‹_› | exact made_pairF (by omega) ‹_› | exact made_none (by omega)
noncomputable def K8b := addC K8a 109 (fun p : MadeT=>[.agg [recs encN 2 p.1.1,recs encN 2 p.1.2.1],.agg (encI p.1.2.2)]) (fun p=>.bool (madeI p.1.1 p.1.2.1 p.1.2.2))
theorem hit_109 {cons funs : List NameT} {x : InsT} (h1 : cons.length ≤ 4000) (h2 : funs.length ≤ 4000) : K8b 109 [.agg [recs encN 2 cons, recs encN 2 funs], .agg (encI x)] = some (.bool (madeI cons funs x)) :=
 AD (f := 109) (enc := fun p : MadeT => [.agg [recs encN 2 p.1.1, recs encN 2 p.1.2.1], .agg (encI p.1.2.2)]) (res := fun p => .bool (madeI p.1.1 p.1.2.1 p.1.2.2)) (by
  rintro ⟨⟨a, b, c⟩, _⟩ ⟨⟨d, e, f⟩, _⟩ h
  simp only [List.cons.injEq, and_true, AV.agg.injEq] at h
  obtain rfl := AT B6 AH h.1.1
  obtain rfl := AT B6 AH h.1.2
  obtain rfl := encI_inj _ _ h.2
  rfl) ⟨(cons, funs, x), h1, h2⟩
def altAt (nc ni k : Nat) (l : List AltT) (i : Nat) : Bool :=
 (inV (l.getD i (0, 0)).1 0 (nc - 1) && !(decide (0 < (i : Int)) && decide ((l.getD i (0, 0)).1 ≤ (l.getD (i - 1) (0, 0)).1))) && inV (l.getD i (0, 0)).2 ((k + 1 : Nat) : Int) ((ni - 1 : Nat) : Int)
def altsV (nc ni k : Nat) (l : List AltT) : Bool := (List.range l.length).all (altAt nc ni k l)
theorem alts_to (c : CodeT) (k : Nat) (hk : k < c.ins.length) (h1 : c.cons.length ≤ 4000) (h2 : c.ins.length ≤ 4000) (h3 : c.ins[k].alts.length ≤ 4000) : CallTo (EK K8b) 106 [.agg (encC c), .int .i64 (k : Nat)] S0 (.bool (altsV c.cons.length c.ins.length k c.ins[k].alts)) := by
 refine Ax (fn := Tryz.f106) rfl rfl (by kernel_rfl) rfl rfl rfl rfl ?_
 have hp0 := A1 B7 hk
 refine Es <| Lo (Az 1 rfl rfl rfl rfl) rfl <| qa rfl <| Ld <| Es <| Lq (of Bd rfl) rfl <| Lo (l1 BW BV rfl) rfl <| qm rfl ?_
 refine Lq (Af rfl u_25 BX rfl rfl ‹_›) rfl <| Lq (A0 rfl DG rfl (Qc rfl)) rfl <| Lq (A3 rfl rfl Fh EO) rfl <| qa rfl <| Ld <| Ab <| Es <| qa rfl ?_
 refine Ld <| Ai ?_
 generalize hl : c.ins[k].alts = l at *
 refine Aw (fun i : Nat => ([(6, .int .i64 (i : Nat)), (5, recs encA 2 l), (2, .ptr 0 0), (1, .int .i64 (k : Nat))], mkS 1 0 [] [(0, some (.cells (encC c) 28 false))])) (fun i => l.length - i) (fun i => i ≤ l.length ∧ (List.range i).all (altAt c.cons.length c.ins.length k l) = true) 0 ⟨Qo _, rfl⟩ rfl (by (refine Am.Ap ?_; repeat (first | exact trivial | refine ⟨rfl, ?_⟩))) ?_
 rintro i ⟨hi, hs⟩
 dsimp only at hi hs ⊢
 by_cases h : i < l.length
 ·have hp := A1 Et h
  have hp1 := A1 Et (l := l) (i := i - 1) (by omega)
  have hat : altAt c.cons.length c.ins.length k l i = ((inV l[i].1 0 (c.cons.length - 1) && !(decide (0 < (i : Int)) && decide (l[i].1 ≤ l[i - 1].1))) && inV l[i].2 ((k + 1 : Nat) : Int) ((c.ins.length - 1 : Nat) : Int)) := by
   unfold altAt
   rw [BD h, BD (by omega)]
  have hno : altAt c.cons.length c.ins.length k l i = false → false = altsV c.cons.length c.ins.length k l := fun hf => (ra_no h hf).symm
  focus
   refine Ab <| Es ?_
   iterate 2 refine qm rfl ?_
   refine Lq (ol u_56 rfl) rfl <| Lq (o2 u_3 rfl rfl) rfl <| Ld ?_
   refine Ec rfl (fun g1 => ?_) (fun g1 => ?_)
   have h1 := dT g1
   refine Ac <| Ab <| Ai <| Av (by kernel_rfl) ?_
   iterate 2 refine Nq (om rfl) rfl ?_
   refine Nq (Af rfl u_56 sz_60 rfl rfl ‹_›) rfl <| Nq (A0 rfl f_60_0 rfl (Qc rfl)) rfl <| Nq (A3 rfl rfl Bj AY) rfl <| Nq (of Ep rfl) rfl <| Nq (of BU rfl) rfl <| AP rfl Bp Bo rfl rfl rfl (by kernel_rfl) (.inl rfl) rfl rfl <| Nq (ol DF rfl) rfl <| Nq (Ef rfl u_3 rfl rfl (by omega)) rfl ?_
   refine E6 (BC rfl rfl (by kernel_rfl) rfl (hit_43)) (.inl rfl) rfl rfl <| Nq (on rfl) rfl <| Nq (om rfl) rfl ?_
   refine DC rfl rfl rfl rfl (fun g2 => ?_) (fun g2 => ?_)
   have h2 := DK g2
   iterate 3 refine Nk rfl ‹_› ?_
   iterate 12 refine Nt rfl ?_
   refine Nk rfl ‹_› <| Nq (oT rfl ‹_› rfl) rfl <| Nq (om rfl) rfl ?_
   iterate 13 refine Nk rfl rfl ?_
   refine Nq (oT rfl rfl rfl) rfl <| Ay <| Ah rfl rfl <| Es <| qa rfl <| Ld ?_
   refine Aa (Er rfl ?_)
   refine Ad ?_
   rotate_left
   have h2 := DL g2
   refine Ng rfl ‹_› (om rfl) <| Ng rfl ‹_› (o2 u_3 rfl rfl) <| Ng rfl ‹_› (om rfl) ?_
   refine DC rfl rfl rfl rfl (fun g3 => ?_) (fun g3 => ?_)
   have h3 := dT g3
   iterate 2 refine Ng rfl ‹_› (om rfl) ?_
   refine Ng rfl ‹_› (Af rfl u_56 sz_60 rfl rfl ‹_›) <| Ng rfl ‹_› (A0 rfl f_60_0 rfl (Qc rfl)) <| Ng rfl ‹_› (A3 rfl rfl Bj AY) ?_
   iterate 2 refine Ng rfl ‹_› (om rfl) ?_
   refine Ng rfl ‹_› (A6 (b := 1) rfl u_3 rfl rfl (by omega)) <| Ng rfl ‹_› (Af rfl u_56 sz_60 rfl rfl ‹_›) <| Ng rfl ‹_› (A0 rfl f_60_0 rfl (Qc rfl)) <| Ng rfl ‹_› (A3 rfl rfl Bj AY) <| Ng rfl ‹_› (o2 u_3 rfl rfl) <| Ng rfl ‹_› (oT rfl ‹_› rfl) <| Nq (oF rfl ‹_› rfl) rfl <| Nq (om rfl) rfl ?_
   refine DC rfl rfl rfl rfl (fun g4 => ?_) (fun g4 => ?_)
   have h4 := dT g4
   iterate 13 refine Nk rfl ‹_› ?_
   refine Nq (oT rfl ‹_› rfl) rfl <| Ay <| Ah rfl rfl <| Es <| qa rfl <| Ld ?_
   refine Aa (Er rfl ?_)
   refine Ad ?_
   rotate_left
   have h4 := dF g4
   iterate 2 refine Ng rfl ‹_› (om rfl) ?_
   refine Ng rfl ‹_› (Af rfl u_56 sz_60 rfl rfl ‹_›) <| Ng rfl ‹_› (A0 rfl f_60_1 rfl (Qc rfl)) <| Ng rfl ‹_› (A3 rfl rfl Bj AY) <| Ng rfl ‹_› (om rfl) ?_
   refine Ng rfl ‹_› (At (b := 1) rfl u_3 rfl rfl (by first | assumption | omega | (simp only [LL]; omega))) ?_
   refine Ng rfl ‹_› (of Bd rfl) <| AP rfl BW BV rfl rfl rfl (by kernel_rfl) (AW rfl rfl rfl rfl ‹_›) rfl rfl <| Ng rfl ‹_› (ol u_25 rfl) <| Ng rfl ‹_› (A6 (b := 1) rfl u_3 rfl rfl (by omega)) ?_
   refine E6 (BC rfl rfl (by kernel_rfl) rfl (hit_43)) (AW rfl rfl rfl rfl ‹_›) rfl rfl <| Ng rfl ‹_› (on rfl) <| Nq (oF rfl ‹_› rfl) rfl <| Ay ?_
   refine Ec rfl (fun g5 => ?_) (fun g5 => ?_)
   have h5 := DK g5
   refine Es <| qa rfl <| Ld ?_
   refine Aa (Er rfl ?_)
   refine Ad ?_
   rotate_left
   have h5 := DL g5
   refine Ac <| Ao <| qm rfl ?_
   refine Lq (At (b := 1) rfl u_3 rfl rfl (by first | assumption | omega | (simp only [LL]; omega))) rfl ?_
   refine qa rfl <| Ld ?_
   rotate_left
   have h3 := dF g3
   iterate 12 refine Nk rfl ‹_› ?_
   refine Ng rfl ‹_› (oF rfl ‹_› rfl) <| Nq (oF rfl ‹_› rfl) rfl <| Nq (om rfl) rfl ?_
   iterate 2 refine Ng rfl rfl (om rfl) ?_
   refine Ng rfl rfl (Af rfl u_56 sz_60 rfl rfl ‹_›) <| Ng rfl rfl (A0 rfl f_60_1 rfl (Qc rfl)) <| Ng rfl rfl (A3 rfl rfl Bj AY) <| Ng rfl rfl (om rfl) ?_
   refine Ng rfl rfl (At (b := 1) rfl u_3 rfl rfl (by first | assumption | omega | (simp only [LL]; omega))) ?_
   refine Ng rfl rfl (of Bd rfl) <| AP rfl BW BV rfl rfl rfl (by kernel_rfl) (AW rfl rfl rfl rfl rfl) rfl rfl <| Ng rfl rfl (ol u_25 rfl) <| Ng rfl rfl (A6 (b := 1) rfl u_3 rfl rfl (by omega)) ?_
   refine E6 (BC rfl rfl (by kernel_rfl) rfl (hit_43)) (AW rfl rfl rfl rfl rfl) rfl rfl <| Ng rfl rfl (on rfl) <| Nq (oF rfl rfl rfl) rfl <| Ay ?_
   refine Ec rfl (fun g6 => ?_) (fun g6 => ?_)
   have h6 := DK g6
   refine Es <| qa rfl <| Ld ?_
   refine Aa (Er rfl ?_)
   refine Ad ?_
   rotate_left
   have h6 := DL g6
   refine Ac <| Ao <| qm rfl ?_
   refine Lq (At (b := 1) rfl u_3 rfl rfl (by first | assumption | omega | (simp only [LL]; omega))) rfl ?_
   refine qa rfl <| Ld ?_
   rotate_left
   have h1 := dF g1
   exact absurd h1 (by omega)
  ·exact hno (by rw [hat, h2]; rfl)
  ·exact hno (by rw [hat, h2, g3, g4]; rfl)
  ·exact hno (by rw [hat, h5, Bool.and_false])
  ·exact ⟨i + 1, ⟨h, DT hs (by rw [hat, h2, g3, g4, h5]; rfl)⟩, by show l.length - (i + 1) < l.length - i; omega, rfl, rfl, by (refine Am.Ap ?_; repeat (first | exact trivial | refine ⟨rfl, ?_⟩))⟩
  ·exact hno (by rw [hat, h6, Bool.and_false])
  ·exact ⟨i + 1, ⟨h, DT hs (by rw [hat, h2, g3, h6]; rfl)⟩, by show l.length - (i + 1) < l.length - i; omega, rfl, rfl, by (refine Am.Ap ?_; repeat (first | exact trivial | refine ⟨rfl, ?_⟩))⟩
 ·focus
   refine Ab <| Es ?_
   iterate 2 refine qm rfl ?_
   refine Lq (ol u_56 rfl) rfl <| Lq (o2 u_3 rfl rfl) rfl <| Ld ?_
   refine Ec rfl (fun g1 => ?_) (fun g1 => ?_)
   have h1 := dT g1
   exact absurd h1 (by omega)
   have h1 := dF g1
   refine A5 <| AX rfl <| Es <| qa rfl <| Ld ?_
   refine Aa (Er rfl ?_)
   refine Ad ?_
   rotate_left
  obtain rfl : i = l.length := by omega
  exact hs.symm
noncomputable def K8c := addC K8b 106 (fun p : AtT=>[.agg (encC p.1.1),.int .i64 (p.1.2 : Nat)]) (fun p=>.bool (altsV p.1.1.cons.length p.1.1.ins.length p.1.2 p.x.alts))
theorem hit_106 {c : CodeT} {k : Nat} (h : Fits c) (hk : k < c.ins.length) : K8c 106 [.agg (encC c), .int .i64 (k : Nat)] = some (.bool (altsV c.cons.length c.ins.length k c.ins[k].alts)) :=
 AD (f := 106) (enc := fun p : AtT => [.agg (encC p.1.1), .int .i64 (p.1.2 : Nat)]) (res := fun p => .bool (altsV p.1.1.cons.length p.1.1.ins.length p.1.2 p.x.alts)) (fun p q h => by rw [encAt_inj h]) ⟨(c, k), h, hk⟩
def targetAt (ni k : Nat) (l : List Int) (i : Nat) : Bool := inV (l.getD i 0) ((k + 1 : Nat) : Int) ((ni - 1 : Nat) : Int)
def targetsV (ni k : Nat) (l : List Int) : Bool := (List.range l.length).all (targetAt ni k l) && decide (2 ≤ (l.length : Int))
theorem targets_to (c : CodeT) (k : Nat) (hk : k < c.ins.length) (h2 : c.ins.length ≤ 4000) (h3 : c.ins[k].to.length ≤ 4000) : CallTo (EK K8c) 107 [.agg (encC c), .int .i64 (k : Nat)] S0 (.bool (targetsV c.ins.length k c.ins[k].to)) := by
 refine Ax (fn := Tryz.f107) rfl rfl (by kernel_rfl) rfl rfl rfl rfl ?_
 have hp0 := A1 B7 hk
 refine Es <| Lo (Az 1 rfl rfl rfl rfl) rfl <| qa rfl <| Ld <| Es <| Lq (of Bd rfl) rfl <| Lo (l1 BW BV rfl) rfl <| qm rfl ?_
 refine Lq (Af rfl u_25 BX rfl rfl ‹_›) rfl <| Lq (A0 rfl f_58_3 rfl (Qc rfl)) rfl <| Lq (A3 rfl rfl BK BJ) rfl <| qa rfl <| Ld <| Ab <| Es <| qa rfl ?_
 refine Ld <| Ai ?_
 generalize hl : c.ins[k].to = l at *
 refine Aw (fun i : Nat => ([(6, .int .i64 (i : Nat)), (5, recs encZ 1 l), (2, .ptr 0 0), (1, .int .i64 (k : Nat))], mkS 1 0 [] [(0, some (.cells (encC c) 28 false))])) (fun i => l.length - i) (fun i => i ≤ l.length ∧ (List.range i).all (targetAt c.ins.length k l) = true) 0 ⟨Qo _, rfl⟩ rfl (by (refine Am.Ap ?_; repeat (first | exact trivial | refine ⟨rfl, ?_⟩))) ?_
 rintro i ⟨hi, hs⟩
 dsimp only at hi hs ⊢
 by_cases h : i < l.length
 ·have hp := A1 B5 h
  have hat : targetAt c.ins.length k l i = inV l[i] ((k + 1 : Nat) : Int) ((c.ins.length - 1 : Nat) : Int) := by
   unfold targetAt
   rw [BD h]
  focus
   refine Ab <| Es ?_
   iterate 2 refine qm rfl ?_
   refine Lq (ol DO rfl) rfl <| Lq (o2 u_3 rfl rfl) rfl <| Ld ?_
   refine Ec rfl (fun g1 => ?_) (fun g1 => ?_)
   have h1 := dT g1
   refine Ac <| Ab <| Ai <| Av (by kernel_rfl) ?_
   iterate 2 refine Nq (om rfl) rfl ?_
   refine Nq (Af rfl DO AY rfl rfl ‹_›) rfl <| Nq (A3 rfl rfl Bj AY) rfl <| Nq (om rfl) rfl ?_
   refine Nq (At (b := 1) rfl u_3 rfl rfl (by first | assumption | omega | (simp only [LL]; omega))) rfl ?_
   refine Nq (of Bd rfl) rfl <| AP rfl BW BV rfl rfl rfl (by kernel_rfl) (.inl rfl) rfl rfl <| Nq (ol u_25 rfl) rfl <| Nq (A6 (b := 1) rfl u_3 rfl rfl (by omega)) rfl ?_
   refine E6 (BC rfl rfl (by kernel_rfl) rfl (hit_43)) (.inl rfl) rfl rfl <| Nq (on rfl) rfl <| Ay ?_
   refine Ec rfl (fun g2 => ?_) (fun g2 => ?_)
   have h2 := DK g2
   refine Es <| qa rfl <| Ld ?_
   refine Aa (Er rfl ?_)
   refine Ad ?_
   rotate_left
   have h2 := DL g2
   refine Ac <| Ao <| qm rfl ?_
   refine Lq (At (b := 1) rfl u_3 rfl rfl (by first | assumption | omega | (simp only [LL]; omega))) rfl ?_
   refine qa rfl <| Ld ?_
   rotate_left
   have h1 := dF g1
   exact absurd h1 (by omega)
  ·unfold targetsV; rw [ra_no h (hat.trans h2)]; rfl
  ·exact ⟨i + 1, ⟨h, DT hs (hat.trans h2)⟩, by show l.length - (i + 1) < l.length - i; omega, rfl, rfl, by (refine Am.Ap ?_; repeat (first | exact trivial | refine ⟨rfl, ?_⟩))⟩
 ·focus
   refine Ab <| Es ?_
   iterate 2 refine qm rfl ?_
   refine Lq (ol DO rfl) rfl <| Lq (o2 u_3 rfl rfl) rfl <| Ld ?_
   refine Ec rfl (fun g1 => ?_) (fun g1 => ?_)
   have h1 := dT g1
   exact absurd h1 (by omega)
   have h1 := dF g1
   refine A5 <| AX rfl <| Es <| qm rfl <| Lq (ol DO rfl) rfl <| Lq (o2 u_3 rfl rfl) rfl <| qa rfl <| Ld ?_
   refine Aa (Er rfl ?_)
   refine Ad ?_
   rotate_left
  obtain rfl : i = l.length := by omega
  unfold targetsV; rw [hs]; rfl
noncomputable def K8 := addC K8c 107 (fun p : AtT=>[.agg (encC p.1.1),.int .i64 (p.1.2 : Nat)]) (fun p=>.bool (targetsV p.1.1.ins.length p.1.2 p.x.to))
theorem hit_107 {c : CodeT} {k : Nat} (h : Fits c) (hk : k < c.ins.length) : K8 107 [.agg (encC c), .int .i64 (k : Nat)] = some (.bool (targetsV c.ins.length k c.ins[k].to)) :=
 AD (f := 107) (enc := fun p : AtT => [.agg (encC p.1.1), .int .i64 (p.1.2 : Nat)]) (res := fun p => .bool (targetsV p.1.1.ins.length p.1.2 p.x.to)) (fun p q h => by rw [encAt_inj h]) ⟨(c, k), h, hk⟩
theorem all8 (h : KnownF Tryz.prog 10 [] (.bool true)) : KnownAll Tryz.prog K8 := by
 have a1 : KnownAll Tryz.prog K8a := Bw (all7 h) fun p => Dp AE (all7 h) (regs_to p.1 p.2) rfl rfl
 have a2 : KnownAll Tryz.prog K8b := Bw a1 fun p => Dp AE a1 (made_to p.1.1 p.1.2.1 p.1.2.2 p.2.1 p.2.2) rfl rfl
 have a3 : KnownAll Tryz.prog K8c := Bw a2 fun p => Dp AE a2 (alts_to p.1.1 p.1.2 p.2.2 p.2.1.cons p.2.1.ins (p.2.1.alts _ (Ql _))) rfl rfl
 exact Bw a3 fun p => Dp AE a3 (targets_to p.1.1 p.1.2 p.2.2 p.2.1.ins (p.2.1.to _ (Ql _))) rfl rfl
def nodeV (x : InsT) : Bool := decide (x.term = 0) && (decide (x.n = 0) && decide ((x.args.length : Int) = 0))
def insV (c : CodeT) (k : Nat) (x : InsT) : Bool :=
 if x.op = 1 then nodeV x && (decide ((x.to.length : Int) = 0) && (inV x.a 0 59 && altsV c.cons.length c.ins.length k x.alts))
 else if x.op = 2 then nodeV x && (decide (x.a = 0) && (decide ((x.alts.length : Int) = 0) && targetsV c.ins.length k x.to))
 else if x.op = 3 ∨ x.op = 4 then nodeV x && (decide (x.a = 0) && (decide ((x.alts.length : Int) = 0) && decide ((x.to.length : Int) = 0)))
 else if x.op = 5 then decide (x.a = 0) && (decide ((x.alts.length : Int) = 0) && (decide ((x.to.length : Int) = 0) && (regsV x.args && madeI c.cons c.funs x)))
 else if x.op = 6 then nodeV x && (decide ((x.alts.length : Int) = 0) && (decide ((x.to.length : Int) = 0) && inV x.a 0 59))
 else false
section
variable {c : CodeT} {k : Nat} {x : InsT}
theorem insV_1 (h : x.op = 1) : insV c k x = (nodeV x && (decide ((x.to.length : Int) = 0) && (inV x.a 0 59 && altsV c.cons.length c.ins.length k x.alts))) := by unfold insV; rw [if_pos h]
theorem insV_2 (h : x.op = 2) : insV c k x = (nodeV x && (decide (x.a = 0) && (decide ((x.alts.length : Int) = 0) && targetsV c.ins.length k x.to))) := by unfold insV; rw [if_neg (by omega),if_pos h]
theorem insV_3 (h : x.op = 3 ∨ x.op = 4) : insV c k x = (nodeV x && (decide (x.a = 0) && (decide ((x.alts.length : Int) = 0) && decide ((x.to.length : Int) = 0)))) := by unfold insV; rw [if_neg (by omega),if_neg (by omega),if_pos h]
theorem insV_5 (h : x.op = 5) : insV c k x = (decide (x.a = 0) && (decide ((x.alts.length : Int) = 0) && (decide ((x.to.length : Int) = 0) && (regsV x.args && madeI c.cons c.funs x)))) := by unfold insV; rw [if_neg (by omega),if_neg (by omega),if_neg (by omega),if_pos h]
theorem insV_6 (h : x.op = 6) : insV c k x = (nodeV x && (decide ((x.alts.length : Int) = 0) && (decide ((x.to.length : Int) = 0) && inV x.a 0 59))) := by unfold insV; rw [if_neg (by omega),if_neg (by omega),if_neg (by omega),if_neg (by omega),if_pos h]
theorem insV_0 (h : ¬ (x.op = 1 ∨ x.op = 2 ∨ x.op = 3 ∨ x.op = 4 ∨ x.op = 5 ∨ x.op = 6)) : insV c k x = false := by unfold insV; rw [if_neg (by omega),if_neg (by omega),if_neg (by omega),if_neg (by omega),if_neg (by omega)]
end
theorem ins_to (c : CodeT) (k : Nat) (hf : Fits c) (hk : k < c.ins.length) : CallTo (EK K8) 60 [.agg (encC c), .int .i64 (k : Nat)] S0 (.bool (insV c k c.ins[k])) := by
 refine Ax (fn := Tryz.f60) rfl rfl (by kernel_rfl) rfl rfl rfl rfl ?_
 have hp0 := A1 B7 hk
 have ha := hf.args _ (Ql hk)
 have hk1 := hf.cons
 have hk2 := hf.funs
 have ht := hf.to _ (Ql hk)
 have hal := hf.alts _ (Ql hk)
 refine Es <| Lo (Az 1 rfl rfl rfl rfl) rfl <| qa rfl <| Ld <| Es <| Lq (of Bd rfl) rfl <| Lo (l1 BW BV rfl) rfl <| qm rfl ?_
 refine Lq (Af rfl u_25 BX rfl rfl ‹_›) rfl <| Lq (AM rfl rfl ag_58 BX (Qc rfl)) rfl <| Lo (Bf 2 rfl z_58 rfl) rfl <| AB (AK rfl BX rfl rfl rfl rfl rfl rfl) rfl rfl <| Ld ?_
 generalize hx : c.ins[k] = x at *
 refine Ds [(6, .bool (nodeV x)), (5, .ptr 1 0), (2, .ptr 0 0), (1, .int .i64 (k : Nat))] (mkS 2 0 [] [(1, some (.cells (encI x) 58 false)), (1, some (.cells [.int .i64 0, .int .i64 0, .nilslice, .nilslice, .int .i64 0, .int .i64 0, .nilslice] 58 false)), (0, some (.cells (encC c) 28 false))]) ?_ ?_
 ·focus
   refine Ao <| Lq (of f_58_4 rfl) rfl <| Lo (l1 ag_37 sz_37 rfl) rfl <| Lq (o2 u_37 rfl rfl) rfl <| qm rfl ?_
   refine Lb rfl (fun g1 => ?_) (fun g1 => ?_)
   have h1 := dT g1
   refine Lh rfl ‹_› (of BS rfl) <| Lg rfl ‹_› (l1 Bj AY rfl) <| Lh rfl ‹_› (o2 u_3 rfl rfl) <| Lq (oT rfl ‹_› rfl) rfl <| qm rfl ?_
   refine Lb rfl (fun g2 => ?_) (fun g2 => ?_)
   have h2 := dT g2
   refine Lh rfl ‹_› (of f_58_6 rfl) <| Lg rfl ‹_› (l1 BK BJ rfl) <| Lh rfl ‹_› (ol DO rfl) <| Lh rfl ‹_› (o2 u_3 rfl rfl) <| Lq (oT rfl ‹_› rfl) rfl <| qa rfl <| Ld ?_
   rotate_left
   have h2 := dF g2
   iterate 4 refine Lk rfl ‹_› ?_
   refine Lq (oF rfl ‹_› rfl) rfl <| qa rfl <| Ld ?_
   rotate_left
   have h1 := dF g1
   iterate 3 refine Lk rfl ‹_› ?_
   refine Lq (oF rfl ‹_› rfl) rfl <| qm rfl ?_
   iterate 4 refine Lk rfl rfl ?_
   refine Lq (oF rfl rfl rfl) rfl <| qa rfl <| Ld ?_
   rotate_left
  ·refine ⟨rfl, rfl, rfl, ?_⟩
   have e : nodeV x = decide ((x.args.length : Int) = 0) := by unfold nodeV; rw [g1, g2]; rfl
   rw [e]
   (refine Am.Ap ?_; repeat (first | exact trivial | refine ⟨rfl, ?_⟩))
  ·refine ⟨rfl, rfl, rfl, ?_⟩
   have e : nodeV x = false := by unfold nodeV; rw [g1, g2]; rfl
   rw [e]
   (refine Am.Ap ?_; repeat (first | exact trivial | refine ⟨rfl, ?_⟩))
  ·refine ⟨rfl, rfl, rfl, ?_⟩
   have e : nodeV x = false := by unfold nodeV; rw [g1]; rfl
   rw [e]
   (refine Am.Ap ?_; repeat (first | exact trivial | refine ⟨rfl, ?_⟩))
 ·focus
   refine Ab <| Es <| Lq (of f_58_0 rfl) rfl <| Lo (l1 ag_55 sz_55 rfl) rfl <| Ld <| Ai <| Es <| Lq (o2 u_55 rfl rfl) rfl ?_
   refine qa rfl <| Ld ?_
   refine Ec rfl (fun g1 => ?_) (fun g1 => ?_)
   have h1 := dT g1
   refine Es ?_
   iterate 2 refine qm rfl ?_
   refine Lb rfl (fun g2 => ?_) (fun g2 => ?_)
   refine Lh rfl ‹_› (of f_58_3 rfl) <| Lg rfl ‹_› (l1 BK BJ rfl) <| Lh rfl ‹_› (ol DO rfl) <| Lh rfl ‹_› (o2 u_3 rfl rfl) <| Lq (oT rfl ‹_› rfl) rfl <| qm rfl ?_
   refine Lb rfl (fun g3 => ?_) (fun g3 => ?_)
   have h3 := dT g3
   refine Lh rfl ‹_› (of f_58_1 rfl) <| Lg rfl ‹_› (l1 Bj AY rfl) ?_
   refine Lg rfl ‹_› (Ag rfl rfl (by kernel_rfl) rfl (Ae (hit_43))) <| Lq (oT rfl ‹_› rfl) rfl <| qm rfl ?_
   refine Lb rfl (fun g4 => ?_) (fun g4 => ?_)
   refine Lg rfl ‹_› (A7 rfl E5 E1 rfl rfl (Qc rfl)) <| Lh rfl ‹_› (om rfl) ?_
   refine Lg rfl ‹_› (Ag rfl rfl (by kernel_rfl) rfl (Ae (hit_106 (by first | assumption | omega | (simp only [LL]; omega)) (by first | assumption | omega | (simp only [LL]; omega))))) ?_
   refine Lq (oT rfl ‹_› rfl) rfl <| qa rfl <| Ld ?_
   refine Aa (Er rfl ?_)
   refine Ad ?_
   rotate_left
   iterate 3 refine Lk rfl ‹_› ?_
   refine Lq (oF rfl ‹_› rfl) rfl <| qa rfl <| Ld ?_
   refine Aa (Er rfl ?_)
   refine Ad ?_
   rotate_left
   have h3 := dF g3
   iterate 3 refine Lk rfl ‹_› ?_
   refine Lq (oF rfl ‹_› rfl) rfl <| qm rfl ?_
   iterate 3 refine Lk rfl rfl ?_
   refine Lq (oF rfl rfl rfl) rfl <| qa rfl <| Ld ?_
   refine Aa (Er rfl ?_)
   refine Ad ?_
   rotate_left
   iterate 4 refine Lk rfl ‹_› ?_
   refine Lq (oF rfl ‹_› rfl) rfl <| qm rfl ?_
   iterate 3 refine Lk rfl rfl ?_
   refine Lq (oF rfl rfl rfl) rfl <| qm rfl ?_
   iterate 3 refine Lk rfl rfl ?_
   refine Lq (oF rfl rfl rfl) rfl <| qa rfl <| Ld ?_
   refine Aa (Er rfl ?_)
   refine Ad ?_
   rotate_left
   have h1 := dF g1
   refine Es <| Lq (o2 u_55 rfl rfl) rfl <| qa rfl <| Ld ?_
   refine Ec rfl (fun g5 => ?_) (fun g5 => ?_)
   have h5 := dT g5
   refine Es ?_
   iterate 2 refine qm rfl ?_
   refine Lb rfl (fun g6 => ?_) (fun g6 => ?_)
   refine Lh rfl ‹_› (of f_58_1 rfl) <| Lg rfl ‹_› (l1 Bj AY rfl) <| Lh rfl ‹_› (o2 u_3 rfl rfl) <| Lq (oT rfl ‹_› rfl) rfl <| qm rfl ?_
   refine Lb rfl (fun g7 => ?_) (fun g7 => ?_)
   have h7 := dT g7
   refine Lh rfl ‹_› (of DG rfl) <| Lg rfl ‹_› (l1 Fh EO rfl) <| Lh rfl ‹_› (ol u_56 rfl) <| Lh rfl ‹_› (o2 u_3 rfl rfl) <| Lq (oT rfl ‹_› rfl) rfl <| qm rfl ?_
   refine Lb rfl (fun g8 => ?_) (fun g8 => ?_)
   have h8 := dT g8
   refine Lg rfl ‹_› (A7 rfl E5 E1 rfl rfl (Qc rfl)) <| Lh rfl ‹_› (om rfl) ?_
   refine Lg rfl ‹_› (Ag rfl rfl (by kernel_rfl) rfl (Ae (hit_107 (by first | assumption | omega | (simp only [LL]; omega)) (by first | assumption | omega | (simp only [LL]; omega))))) ?_
   refine Lq (oT rfl ‹_› rfl) rfl <| qa rfl <| Ld ?_
   refine Aa (Er rfl ?_)
   refine Ad ?_
   rotate_left
   have h8 := dF g8
   iterate 3 refine Lk rfl ‹_› ?_
   refine Lq (oF rfl ‹_› rfl) rfl <| qa rfl <| Ld ?_
   refine Aa (Er rfl ?_)
   refine Ad ?_
   rotate_left
   have h7 := dF g7
   iterate 4 refine Lk rfl ‹_› ?_
   refine Lq (oF rfl ‹_› rfl) rfl <| qm rfl ?_
   iterate 3 refine Lk rfl rfl ?_
   refine Lq (oF rfl rfl rfl) rfl <| qa rfl <| Ld ?_
   refine Aa (Er rfl ?_)
   refine Ad ?_
   rotate_left
   iterate 3 refine Lk rfl ‹_› ?_
   refine Lq (oF rfl ‹_› rfl) rfl <| qm rfl ?_
   iterate 4 refine Lk rfl rfl ?_
   refine Lq (oF rfl rfl rfl) rfl <| qm rfl ?_
   iterate 3 refine Lk rfl rfl ?_
   refine Lq (oF rfl rfl rfl) rfl <| qa rfl <| Ld ?_
   refine Aa (Er rfl ?_)
   refine Ad ?_
   rotate_left
   have h5 := dF g5
   refine Ab <| Es <| Lq (o2 u_55 rfl rfl) rfl <| qa rfl <| Ld ?_
   refine Ec rfl (fun g9 => ?_) (fun g9 => ?_)
   have h9 := dT g9
   refine Ac <| Ah rfl ‹_› <| Es ?_
   iterate 2 refine qm rfl ?_
   refine Lb rfl (fun g10 => ?_) (fun g10 => ?_)
   refine Lh rfl ‹_› (of f_58_1 rfl) <| Lg rfl ‹_› (l1 Bj AY rfl) <| Lh rfl ‹_› (o2 u_3 rfl rfl) <| Lq (oT rfl ‹_› rfl) rfl <| qm rfl ?_
   refine Lb rfl (fun g11 => ?_) (fun g11 => ?_)
   have h11 := dT g11
   refine Lh rfl ‹_› (of DG rfl) <| Lg rfl ‹_› (l1 Fh EO rfl) <| Lh rfl ‹_› (ol u_56 rfl) <| Lh rfl ‹_› (o2 u_3 rfl rfl) <| Lq (oT rfl ‹_› rfl) rfl <| qm rfl ?_
   refine Lb rfl (fun g12 => ?_) (fun g12 => ?_)
   have h12 := dT g12
   refine Lh rfl ‹_› (of f_58_3 rfl) <| Lg rfl ‹_› (l1 BK BJ rfl) <| Lh rfl ‹_› (ol DO rfl) <| Lh rfl ‹_› (o2 u_3 rfl rfl) <| Lq (oT rfl ‹_› rfl) rfl <| qa rfl <| Ld ?_
   refine Aa (Er rfl ?_)
   refine Ad ?_
   rotate_left
   have h12 := dF g12
   iterate 4 refine Lk rfl ‹_› ?_
   refine Lq (oF rfl ‹_› rfl) rfl <| qa rfl <| Ld ?_
   refine Aa (Er rfl ?_)
   refine Ad ?_
   rotate_left
   have h11 := dF g11
   iterate 4 refine Lk rfl ‹_› ?_
   refine Lq (oF rfl ‹_› rfl) rfl <| qm rfl ?_
   iterate 4 refine Lk rfl rfl ?_
   refine Lq (oF rfl rfl rfl) rfl <| qa rfl <| Ld ?_
   refine Aa (Er rfl ?_)
   refine Ad ?_
   rotate_left
   iterate 3 refine Lk rfl ‹_› ?_
   refine Lq (oF rfl ‹_› rfl) rfl <| qm rfl ?_
   iterate 4 refine Lk rfl rfl ?_
   refine Lq (oF rfl rfl rfl) rfl <| qm rfl ?_
   iterate 4 refine Lk rfl rfl ?_
   refine Lq (oF rfl rfl rfl) rfl <| qa rfl <| Ld ?_
   refine Aa (Er rfl ?_)
   refine Ad ?_
   rotate_left
   have h9 := dF g9
   refine Ao <| Lq (o2 u_55 rfl rfl) rfl <| qa rfl <| Ld ?_
   refine Ec rfl (fun g13 => ?_) (fun g13 => ?_)
   have h13 := dT g13
   refine Es ?_
   iterate 2 refine qm rfl ?_
   refine Lb rfl (fun g14 => ?_) (fun g14 => ?_)
   refine Lh rfl ‹_› (of f_58_1 rfl) <| Lg rfl ‹_› (l1 Bj AY rfl) <| Lh rfl ‹_› (o2 u_3 rfl rfl) <| Lq (oT rfl ‹_› rfl) rfl <| qm rfl ?_
   refine Lb rfl (fun g15 => ?_) (fun g15 => ?_)
   have h15 := dT g15
   refine Lh rfl ‹_› (of DG rfl) <| Lg rfl ‹_› (l1 Fh EO rfl) <| Lh rfl ‹_› (ol u_56 rfl) <| Lh rfl ‹_› (o2 u_3 rfl rfl) <| Lq (oT rfl ‹_› rfl) rfl <| qm rfl ?_
   refine Lb rfl (fun g16 => ?_) (fun g16 => ?_)
   have h16 := dT g16
   refine Lh rfl ‹_› (of f_58_3 rfl) <| Lg rfl ‹_› (l1 BK BJ rfl) <| Lh rfl ‹_› (ol DO rfl) <| Lh rfl ‹_› (o2 u_3 rfl rfl) <| Lq (oT rfl ‹_› rfl) rfl <| qa rfl <| Ld ?_
   refine Aa (Er rfl ?_)
   refine Ad ?_
   rotate_left
   have h16 := dF g16
   iterate 4 refine Lk rfl ‹_› ?_
   refine Lq (oF rfl ‹_› rfl) rfl <| qa rfl <| Ld ?_
   refine Aa (Er rfl ?_)
   refine Ad ?_
   rotate_left
   have h15 := dF g15
   iterate 4 refine Lk rfl ‹_› ?_
   refine Lq (oF rfl ‹_› rfl) rfl <| qm rfl ?_
   iterate 4 refine Lk rfl rfl ?_
   refine Lq (oF rfl rfl rfl) rfl <| qa rfl <| Ld ?_
   refine Aa (Er rfl ?_)
   refine Ad ?_
   rotate_left
   iterate 3 refine Lk rfl ‹_› ?_
   refine Lq (oF rfl ‹_› rfl) rfl <| qm rfl ?_
   iterate 4 refine Lk rfl rfl ?_
   refine Lq (oF rfl rfl rfl) rfl <| qm rfl ?_
   iterate 4 refine Lk rfl rfl ?_
   refine Lq (oF rfl rfl rfl) rfl <| qa rfl <| Ld ?_
   refine Aa (Er rfl ?_)
   refine Ad ?_
   rotate_left
   have h13 := dF g13
   refine Es <| Lq (o2 u_55 rfl rfl) rfl <| qa rfl <| Ld ?_
   refine Ec rfl (fun g17 => ?_) (fun g17 => ?_)
   have h17 := dT g17
   refine Es <| Lq (of f_58_1 rfl) rfl <| Lo (l1 Bj AY rfl) rfl <| Lq (o2 u_3 rfl rfl) rfl <| qm rfl ?_
   refine Lb rfl (fun g18 => ?_) (fun g18 => ?_)
   have h18 := dT g18
   refine Lh rfl ‹_› (of DG rfl) <| Lg rfl ‹_› (l1 Fh EO rfl) <| Lh rfl ‹_› (ol u_56 rfl) <| Lh rfl ‹_› (o2 u_3 rfl rfl) <| Lq (oT rfl ‹_› rfl) rfl <| qm rfl ?_
   refine Lb rfl (fun g19 => ?_) (fun g19 => ?_)
   have h19 := dT g19
   refine Lh rfl ‹_› (of f_58_3 rfl) <| Lg rfl ‹_› (l1 BK BJ rfl) <| Lh rfl ‹_› (ol DO rfl) <| Lh rfl ‹_› (o2 u_3 rfl rfl) <| Lq (oT rfl ‹_› rfl) rfl <| qm rfl ?_
   refine Lb rfl (fun g20 => ?_) (fun g20 => ?_)
   have h20 := dT g20
   refine Lh rfl ‹_› (of f_58_6 rfl) <| Lg rfl ‹_› (l1 BK BJ rfl) ?_
   refine Lg rfl ‹_› (Ag rfl rfl (by kernel_rfl) rfl (Ae (hit_108 (by first | assumption | omega | (simp only [LL]; omega))))) ?_
   refine Lq (oT rfl ‹_› rfl) rfl <| qm rfl ?_
   refine Lb rfl (fun g21 => ?_) (fun g21 => ?_)
   refine Lh rfl ‹_› (of Ep rfl) <| Lg rfl ‹_› (A7 rfl ag_24 sz_24 rfl rfl (Qc rfl)) <| Lg rfl ‹_› (A7 rfl ag_58 BX rfl rfl (Qc rfl)) ?_
   refine Lg rfl ‹_› (Ag rfl rfl (by kernel_rfl) rfl (Ae (hit_109 (by first | assumption | omega | (simp only [LL]; omega)) (by first | assumption | omega | (simp only [LL]; omega))))) ?_
   refine Lq (oT rfl ‹_› rfl) rfl <| qa rfl <| Ld ?_
   refine Aa (Er rfl ?_)
   refine Ad ?_
   rotate_left
   iterate 4 refine Lk rfl ‹_› ?_
   refine Lq (oF rfl ‹_› rfl) rfl <| qa rfl <| Ld ?_
   refine Aa (Er rfl ?_)
   refine Ad ?_
   rotate_left
   have h20 := dF g20
   iterate 3 refine Lk rfl ‹_› ?_
   refine Lq (oF rfl ‹_› rfl) rfl <| qm rfl ?_
   iterate 4 refine Lk rfl rfl ?_
   refine Lq (oF rfl rfl rfl) rfl <| qa rfl <| Ld ?_
   refine Aa (Er rfl ?_)
   refine Ad ?_
   rotate_left
   have h19 := dF g19
   iterate 4 refine Lk rfl ‹_› ?_
   refine Lq (oF rfl ‹_› rfl) rfl <| qm rfl ?_
   iterate 3 refine Lk rfl rfl ?_
   refine Lq (oF rfl rfl rfl) rfl <| qm rfl ?_
   iterate 4 refine Lk rfl rfl ?_
   refine Lq (oF rfl rfl rfl) rfl <| qa rfl <| Ld ?_
   refine Aa (Er rfl ?_)
   refine Ad ?_
   rotate_left
   have h18 := dF g18
   iterate 4 refine Lk rfl ‹_› ?_
   refine Lq (oF rfl ‹_› rfl) rfl <| qm rfl ?_
   iterate 4 refine Lk rfl rfl ?_
   refine Lq (oF rfl rfl rfl) rfl <| qm rfl ?_
   iterate 3 refine Lk rfl rfl ?_
   refine Lq (oF rfl rfl rfl) rfl <| qm rfl ?_
   iterate 4 refine Lk rfl rfl ?_
   refine Lq (oF rfl rfl rfl) rfl <| qa rfl <| Ld ?_
   refine Aa (Er rfl ?_)
   refine Ad ?_
   rotate_left
   have h17 := dF g17
   refine Es <| Lq (o2 u_55 rfl rfl) rfl <| qa rfl <| Ld ?_
   refine Ec rfl (fun g22 => ?_) (fun g22 => ?_)
   have h22 := dT g22
   refine Es ?_
   iterate 2 refine qm rfl ?_
   refine Lb rfl (fun g23 => ?_) (fun g23 => ?_)
   refine Lh rfl ‹_› (of DG rfl) <| Lg rfl ‹_› (l1 Fh EO rfl) <| Lh rfl ‹_› (ol u_56 rfl) <| Lh rfl ‹_› (o2 u_3 rfl rfl) <| Lq (oT rfl ‹_› rfl) rfl <| qm rfl ?_
   refine Lb rfl (fun g24 => ?_) (fun g24 => ?_)
   have h24 := dT g24
   refine Lh rfl ‹_› (of f_58_3 rfl) <| Lg rfl ‹_› (l1 BK BJ rfl) <| Lh rfl ‹_› (ol DO rfl) <| Lh rfl ‹_› (o2 u_3 rfl rfl) <| Lq (oT rfl ‹_› rfl) rfl <| qm rfl ?_
   refine Lb rfl (fun g25 => ?_) (fun g25 => ?_)
   have h25 := dT g25
   refine Lh rfl ‹_› (of f_58_1 rfl) <| Lg rfl ‹_› (l1 Bj AY rfl) ?_
   refine Lg rfl ‹_› (Ag rfl rfl (by kernel_rfl) rfl (Ae (hit_43))) <| Lq (oT rfl ‹_› rfl) rfl <| qa rfl <| Ld ?_
   refine Aa (Er rfl ?_)
   refine Ad ?_
   rotate_left
   have h25 := dF g25
   iterate 3 refine Lk rfl ‹_› ?_
   refine Lq (oF rfl ‹_› rfl) rfl <| qa rfl <| Ld ?_
   refine Aa (Er rfl ?_)
   refine Ad ?_
   rotate_left
   have h24 := dF g24
   iterate 4 refine Lk rfl ‹_› ?_
   refine Lq (oF rfl ‹_› rfl) rfl <| qm rfl ?_
   iterate 3 refine Lk rfl rfl ?_
   refine Lq (oF rfl rfl rfl) rfl <| qa rfl <| Ld ?_
   refine Aa (Er rfl ?_)
   refine Ad ?_
   rotate_left
   iterate 4 refine Lk rfl ‹_› ?_
   refine Lq (oF rfl ‹_› rfl) rfl <| qm rfl ?_
   iterate 4 refine Lk rfl rfl ?_
   refine Lq (oF rfl rfl rfl) rfl <| qm rfl ?_
   iterate 3 refine Lk rfl rfl ?_
   refine Lq (oF rfl rfl rfl) rfl <| qa rfl <| Ld ?_
   refine Aa (Er rfl ?_)
   refine Ad ?_
   rotate_left
   have h22 := dF g22
   refine Ac <| Es <| qa rfl <| Ld ?_
   refine Aa (Er rfl ?_)
   refine Ad ?_
   rotate_left
  all_goals clear hp0 ha ht hal hk1 hk2
  all_goals first | rw [insV_1 ‹_›] | rw [insV_2 ‹_›] | rw [insV_3 (by omega)] | rw [insV_5 ‹_›] | rw [insV_6 ‹_›] | rw [insV_0 (by omega)]
  all_goals simp only [*, Bool.true_and, Bool.false_and, Bool.and_self, decide_true, decide_false]
end Go.Proofs.YtpihdbhocgcbpaaGreatDoor
