/- Code: numbers as texts; builders; a line of words. -/
import Derived.Test.YtpihdbhocgcbpaaGreatDoorAmG
import Derived.Test.YtpihdbhocgcbpaaGreatDoorProg
import Derived.KernelRfl
import Derived.Test.YtpihdbhocgcbpaaGreatDoorCdB
import Derived.Test.YtpihdbhocgcbpaaGreatDoorAmE
set_option linter.unusedSectionVars false
set_option linter.unusedVariables false
set_option linter.unusedSimpArgs false
open Go Am
namespace Go.Proofs.YtpihdbhocgcbpaaGreatDoor.Gl
noncomputable abbrev EGm (gl : Glob) (m : Nat) (K : FuncId → List AV → Option AV) : Env := envG Tryz.prog 1200 1200 m K gl
noncomputable abbrev EG (gl : Glob) (K : FuncId → List AV → Option AV) : Env := EGm gl 0 K
section
variable {K : FuncId → List AV → Option AV} {m : Nat} {gl : Glob}
theorem u_2 : und (EGm gl m K) 2 = some (.int .i64) := by kernel_rfl
theorem u_3 : und (EGm gl m K) 3 = some (.int .i64) := by kernel_rfl
theorem AY : Am.sizeOf (EGm gl m K) 3 = some 1 := by kernel_rfl
theorem Bj : Am.isAgg (EGm gl m K) 3 = some false := by kernel_rfl
theorem z_3 : Am.zeroOf (EGm gl m K) 3 = some (.int .i64 0) := by kernel_rfl
theorem u_4 : und (EGm gl m K) 4 = some .bool := by kernel_rfl
theorem z_4 : Am.zeroOf (EGm gl m K) 4 = some (.bool false) := by kernel_rfl
theorem u_5 : und (EGm gl m K) 5 = some (.int .u8) := by kernel_rfl
theorem Bh : Am.sizeOf (EGm gl m K) 5 = some 1 := by kernel_rfl
theorem z_5 : Am.zeroOf (EGm gl m K) 5 = some (.int .u8 0) := by kernel_rfl
theorem by_5 : bytesOf (EGm gl m K) 5 = some 1 := by kernel_rfl
theorem ib_5 : isByte (EGm gl m K) 5 = true := by kernel_rfl
theorem u_9 : und (EGm gl m K) 9 = some .string := by kernel_rfl
theorem sz_9 : Am.sizeOf (EGm gl m K) 9 = some 1 := by kernel_rfl
theorem ag_9 : Am.isAgg (EGm gl m K) 9 = some false := by kernel_rfl
theorem z_9 : Am.zeroOf (EGm gl m K) 9 = some (.str []) := by kernel_rfl
theorem by_9 : bytesOf (EGm gl m K) 9 = some 16 := by kernel_rfl
theorem kd_9 : kdOf (EGm gl m K) 9 = some (.one .string) := by kernel_rfl
theorem u_21 : und (EGm gl m K) 21 = some (.int .i32) := by kernel_rfl
theorem DF : und (EGm gl m K) 22 = some (.slice 54) := by kernel_rfl
theorem Bo : Am.sizeOf (EGm gl m K) 22 = some 1 := by kernel_rfl
theorem Bp : Am.isAgg (EGm gl m K) 22 = some false := by kernel_rfl
theorem BU : fieldOf (EGm gl m K) 24 0 = some (0,1,false) := by kernel_rfl
theorem BT : fieldOf (EGm gl m K) 24 1 = some (1,1,false) := by kernel_rfl
theorem sz_24 : Am.sizeOf (EGm gl m K) 24 = some 2 := by kernel_rfl
theorem ag_24 : Am.isAgg (EGm gl m K) 24 = some true := by kernel_rfl
theorem u_25 : und (EGm gl m K) 25 = some (.slice 58) := by kernel_rfl
theorem BV : Am.sizeOf (EGm gl m K) 25 = some 1 := by kernel_rfl
theorem BW : Am.isAgg (EGm gl m K) 25 = some false := by kernel_rfl
theorem DO : und (EGm gl m K) 26 = some (.slice 3) := by kernel_rfl
theorem BJ : Am.sizeOf (EGm gl m K) 26 = some 1 := by kernel_rfl
theorem BK : Am.isAgg (EGm gl m K) 26 = some false := by kernel_rfl
theorem Ep : fieldOf (EGm gl m K) 28 0 = some (0,2,true) := by kernel_rfl
theorem Bd : fieldOf (EGm gl m K) 28 1 = some (2,1,false) := by kernel_rfl
theorem f_28_2 : fieldOf (EGm gl m K) 28 2 = some (3,1,false) := by kernel_rfl
theorem E1 : Am.sizeOf (EGm gl m K) 28 = some 4 := by kernel_rfl
theorem E5 : Am.isAgg (EGm gl m K) 28 = some true := by kernel_rfl
theorem u_31 : und (EGm gl m K) 31 = some (.int .i64) := by kernel_rfl
theorem u_37 : und (EGm gl m K) 37 = some (.int .i64) := by kernel_rfl
theorem sz_37 : Am.sizeOf (EGm gl m K) 37 = some 1 := by kernel_rfl
theorem ag_37 : Am.isAgg (EGm gl m K) 37 = some false := by kernel_rfl
theorem Dt : und (EGm gl m K) 52 = some (.slice 5) := by kernel_rfl
theorem sz_52 : Am.sizeOf (EGm gl m K) 52 = some 1 := by kernel_rfl
theorem ag_52 : Am.isAgg (EGm gl m K) 52 = some false := by kernel_rfl
theorem st_54 : isStructT (EGm gl m K) 54 = true := by kernel_rfl
theorem f_54_0 : fieldOf (EGm gl m K) 54 0 = some (0,1,false) := by kernel_rfl
theorem f_54_1 : fieldOf (EGm gl m K) 54 1 = some (1,1,false) := by kernel_rfl
theorem BI : Am.sizeOf (EGm gl m K) 54 = some 2 := by kernel_rfl
theorem ag_54 : Am.isAgg (EGm gl m K) 54 = some true := by kernel_rfl
theorem z_54 : Am.zeroOf (EGm gl m K) 54 = some (.agg [.str [],.int .i64 0]) := by kernel_rfl
theorem kd_54 : kdOf (EGm gl m K) 54 = some (.flat [.string,.int .i64]) := by kernel_rfl
theorem pl_54 : Am.buildPlan (EGm gl m K) 54 = some ([.str [],.int .i64 0],nth [(0,1),(1,1)]) := by kernel_rfl
theorem u_55 : und (EGm gl m K) 55 = some (.int .i64) := by kernel_rfl
theorem sz_55 : Am.sizeOf (EGm gl m K) 55 = some 1 := by kernel_rfl
theorem ag_55 : Am.isAgg (EGm gl m K) 55 = some false := by kernel_rfl
theorem u_56 : und (EGm gl m K) 56 = some (.slice 60) := by kernel_rfl
theorem EO : Am.sizeOf (EGm gl m K) 56 = some 1 := by kernel_rfl
theorem Fh : Am.isAgg (EGm gl m K) 56 = some false := by kernel_rfl
theorem f_58_0 : fieldOf (EGm gl m K) 58 0 = some (0,1,false) := by kernel_rfl
theorem f_58_1 : fieldOf (EGm gl m K) 58 1 = some (1,1,false) := by kernel_rfl
theorem DG : fieldOf (EGm gl m K) 58 2 = some (2,1,false) := by kernel_rfl
theorem f_58_3 : fieldOf (EGm gl m K) 58 3 = some (3,1,false) := by kernel_rfl
theorem f_58_4 : fieldOf (EGm gl m K) 58 4 = some (4,1,false) := by kernel_rfl
theorem BS : fieldOf (EGm gl m K) 58 5 = some (5,1,false) := by kernel_rfl
theorem f_58_6 : fieldOf (EGm gl m K) 58 6 = some (6,1,false) := by kernel_rfl
theorem BX : Am.sizeOf (EGm gl m K) 58 = some 7 := by kernel_rfl
theorem ag_58 : Am.isAgg (EGm gl m K) 58 = some true := by kernel_rfl
theorem z_58 : Am.zeroOf (EGm gl m K) 58 = some (.agg [.int .i64 0,.int .i64 0,.nilslice,.nilslice,.int .i64 0,.int .i64 0,.nilslice]) := by kernel_rfl
theorem st_60 : isStructT (EGm gl m K) 60 = true := by kernel_rfl
theorem f_60_0 : fieldOf (EGm gl m K) 60 0 = some (0,1,false) := by kernel_rfl
theorem f_60_1 : fieldOf (EGm gl m K) 60 1 = some (1,1,false) := by kernel_rfl
theorem sz_60 : Am.sizeOf (EGm gl m K) 60 = some 2 := by kernel_rfl
theorem ag_60 : Am.isAgg (EGm gl m K) 60 = some true := by kernel_rfl
theorem z_60 : Am.zeroOf (EGm gl m K) 60 = some (.agg [.int .i64 0,.int .i64 0]) := by kernel_rfl
theorem kd_60 : kdOf (EGm gl m K) 60 = some (.flat [.int .i64,.int .i64]) := by kernel_rfl
theorem u_100 : und (EGm gl m K) 100 = some (.pointer 102) := by kernel_rfl
theorem sz_100 : Am.sizeOf (EGm gl m K) 100 = some 1 := by kernel_rfl
theorem ag_100 : Am.isAgg (EGm gl m K) 100 = some false := by kernel_rfl
theorem f_102_0 : fieldOf (EGm gl m K) 102 0 = some (0,1,false) := by kernel_rfl
theorem D0 : fieldOf (EGm gl m K) 102 1 = some (1,1,false) := by kernel_rfl
theorem sz_102 : Am.sizeOf (EGm gl m K) 102 = some 2 := by kernel_rfl
theorem z_102 : Am.zeroOf (EGm gl m K) 102 = some (.agg [.nilptr,.nilslice]) := by kernel_rfl
theorem f_104_0 : fieldOf (EGm gl m K) 104 0 = some (0,2,true) := by kernel_rfl
theorem z_104 : Am.zeroOf (EGm gl m K) 104 = some (.agg [.nilptr,.nilslice]) := by kernel_rfl
theorem D7 : und (EGm gl m K) 106 = some (.slice 9) := by kernel_rfl
theorem u_108 : und (EGm gl m K) 108 = some (.array 7 9) := by kernel_rfl
theorem if_111 : isIfaceT (EGm gl m K) 111 = some true := by kernel_rfl
theorem f_114_0 : fieldOf (EGm gl m K) 114 0 = some (0,1,false) := by kernel_rfl
theorem f_114_1 : fieldOf (EGm gl m K) 114 1 = some (1,1,false) := by kernel_rfl
theorem sz_114 : Am.sizeOf (EGm gl m K) 114 = some 2 := by kernel_rfl
theorem z_114 : Am.zeroOf (EGm gl m K) 114 = some (.agg [.int .i64 0,.nilslice]) := by kernel_rfl
theorem Eo : isIfaceT (EGm gl m K) 114 = some false := by kernel_rfl
theorem pl_114 : Am.buildPlan (EGm gl m K) 114 = some ([.int .i64 0,.nilslice],nth [(0,1),(1,1)]) := by kernel_rfl
theorem f_117_0 : fieldOf (EGm gl m K) 117 0 = some (0,1,false) := by kernel_rfl
theorem sz_117 : Am.sizeOf (EGm gl m K) 117 = some 1 := by kernel_rfl
theorem z_117 : Am.zeroOf (EGm gl m K) 117 = some (.agg [.nilslice]) := by kernel_rfl
theorem if_117 : isIfaceT (EGm gl m K) 117 = some false := by kernel_rfl
theorem pl_117 : Am.buildPlan (EGm gl m K) 117 = some ([.nilslice],nth [(0,1)]) := by kernel_rfl
theorem f_119_0 : fieldOf (EGm gl m K) 119 0 = some (0,1,false) := by kernel_rfl
theorem BE : fieldOf (EGm gl m K) 119 1 = some (1,1,false) := by kernel_rfl
theorem f_119_2 : fieldOf (EGm gl m K) 119 2 = some (2,1,false) := by kernel_rfl
theorem sz_119 : Am.sizeOf (EGm gl m K) 119 = some 3 := by kernel_rfl
theorem ag_119 : Am.isAgg (EGm gl m K) 119 = some true := by kernel_rfl
theorem z_119 : Am.zeroOf (EGm gl m K) 119 = some (.agg [.int .i64 0,.int .i64 0,.nilslice]) := by kernel_rfl
theorem if_119 : isIfaceT (EGm gl m K) 119 = some false := by kernel_rfl
theorem pl_119 : Am.buildPlan (EGm gl m K) 119 = some ([.int .i64 0,.int .i64 0,.nilslice],nth [(0,1),(1,1),(2,1)]) := by kernel_rfl
theorem f_121_0 : fieldOf (EGm gl m K) 121 0 = some (0,1,false) := by kernel_rfl
theorem sz_121 : Am.sizeOf (EGm gl m K) 121 = some 1 := by kernel_rfl
theorem z_121 : Am.zeroOf (EGm gl m K) 121 = some (.agg [.int .i64 0]) := by kernel_rfl
theorem if_121 : isIfaceT (EGm gl m K) 121 = some false := by kernel_rfl
theorem pl_121 : Am.buildPlan (EGm gl m K) 121 = some ([.int .i64 0],nth [(0,1)]) := by kernel_rfl
theorem sz_146 : Am.sizeOf (EGm gl m K) 146 = some 1 := by kernel_rfl
theorem ag_146 : Am.isAgg (EGm gl m K) 146 = some false := by kernel_rfl
theorem z_146 : Am.zeroOf (EGm gl m K) 146 = some .nilfunc := by kernel_rfl
theorem u_155 : und (EGm gl m K) 155 = some (.map 9 4) := by kernel_rfl
theorem sz_155 : Am.sizeOf (EGm gl m K) 155 = some 1 := by kernel_rfl
theorem ag_155 : Am.isAgg (EGm gl m K) 155 = some false := by kernel_rfl
theorem z_155 : Am.zeroOf (EGm gl m K) 155 = some .nilmap := by kernel_rfl
theorem if_166 : isIfaceT (EGm gl m K) 166 = some false := by kernel_rfl
theorem pl_166 : Am.buildPlan (EGm gl m K) 166 = some ([],nth []) := by kernel_rfl
theorem if_167 : isIfaceT (EGm gl m K) 167 = some false := by kernel_rfl
theorem pl_167 : Am.buildPlan (EGm gl m K) 167 = some ([],nth []) := by kernel_rfl
theorem AR : und (EGm gl m K) 250 = some (.int .u32) := by kernel_rfl
theorem E0 : und (EGm gl m K) 253 = some (.int .u64) := by kernel_rfl
theorem sz_253 : Am.sizeOf (EGm gl m K) 253 = some 1 := by kernel_rfl
theorem ag_253 : Am.isAgg (EGm gl m K) 253 = some false := by kernel_rfl
theorem u_257 : und (EGm gl m K) 257 = some .unsafePointer := by kernel_rfl
theorem Dv : und (EGm gl m K) 259 = some (.array 24 5) := by kernel_rfl
theorem z_259 : Am.zeroOf (EGm gl m K) 259 = some (.agg [.int .u8 0,.int .u8 0,.int .u8 0,.int .u8 0,.int .u8 0,.int .u8 0,.int .u8 0,.int .u8 0,.int .u8 0,.int .u8 0,.int .u8 0,.int .u8 0,.int .u8 0,.int .u8 0,.int .u8 0,.int .u8 0,.int .u8 0,.int .u8 0,.int .u8 0,.int .u8 0,.int .u8 0,.int .u8 0,.int .u8 0,.int .u8 0]) := by kernel_rfl
theorem u_305 : und (EGm gl m K) 305 = some (.array 20 253) := by kernel_rfl
theorem m_114_registers : methodOf (EGm gl m K) 114 "swingle/code.registers" = some (341, .mk none none) := by kernel_rfl
theorem m_117_registers : methodOf (EGm gl m K) 117 "swingle/code.registers" = some (342, .mk none none) := by kernel_rfl
theorem m_119_registers : methodOf (EGm gl m K) 119 "swingle/code.registers" = some (343, .mk none none) := by kernel_rfl
theorem m_121_registers : methodOf (EGm gl m K) 121 "swingle/code.registers" = some (344, .mk none none) := by kernel_rfl
theorem m_166_registers : methodOf (EGm gl m K) 166 "swingle/code.registers" = some (345, .mk none none) := by kernel_rfl
theorem m_167_registers : methodOf (EGm gl m K) 167 "swingle/code.registers" = some (346, .mk none none) := by kernel_rfl
end
noncomputable def pow10 : List AV := [.int .u64 1,.int .u64 10,.int .u64 100,.int .u64 1000,.int .u64 10000,.int .u64 100000,.int .u64 1000000,.int .u64 10000000,.int .u64 100000000,.int .u64 1000000000,.int .u64 10000000000,.int .u64 100000000000,.int .u64 1000000000000,.int .u64 10000000000000,.int .u64 100000000000000,.int .u64 1000000000000000,.int .u64 10000000000000000,.int .u64 100000000000000000,.int .u64 1000000000000000000,.int .u64 10000000000000000000]
noncomputable def gl0 : Glob := fun g=>bif Nat.beq g 0 then some pow10 else none
def lenB (n : Nat) : Nat := if n = 0 then 0 else Nat.log2 n + 1
def tabW : List UInt8 := (List.range 256).map fun n=>UInt8.ofNat (lenB n)
theorem EV {n : Nat} (h : n < 256) : lenB n ≤ 8 := by
 unfold lenB
 split
 ·omega
 ·next h0 =>
  have := (Nat.log2_lt h0 (k := 8)).2 h
  omega
theorem len8 {K : FuncId → List AV → Option AV} {l : Sl} {o : Oper} {x i : Operand} {k : IntKind} {n : Nat} (ho : o.op = .index 9 x i) (hx : opndL x l = some (.str tabW)) (hi : opndL i l = some (.int k (n : Nat))) (hn : n < 256) : OpQ (EG gl0 K) o l (.int .u8 ((lenB n : Nat) : Int)) := by
 have h1 : n < tabW.length := by unfold tabW; rw [Qn, List.length_range]; exact hn
 have h2 : tabW[n]? = some (UInt8.ofNat (lenB n)) := by unfold tabW; rw [List.getElem?_map, List.getElem?_range hn]; rfl
 have := Dm (E := EG gl0 K) ho u_9 hx hi h1
 have e : (tabW.getD n 0).toNat = lenB n := by
  rw [List.getD_eq_getElem?_getD, h2]
  show (UInt8.ofNat (lenB n)).toNat = _
  have := EV hn
  exact UInt8.toNat_ofNat_of_lt (show lenB n < 256 by omega)
 rwa [e] at this
def lenV (m : Nat) : Nat := if 65536 ≤ m then (if 256 ≤ m / 2 ^ 16 then 24 + lenB (m / 2 ^ 16 / 2 ^ 8) else 16 + lenB (m / 2 ^ 16)) else if 256 ≤ m then 8 + lenB (m / 2 ^ 8) else lenB m
theorem len64_to (m : Nat) (hm : m < 4294967296) : CallTo (EG gl0 K15) 205 [.int .u64 (m : Nat)] S0 (.int .i64 (lenV m : Nat)) := by
 refine Ax (fn := Tryz.f205) rfl rfl (by kernel_rfl) rfl rfl rfl rfl ?_
 focus
  refine Es <| qa rfl <| Ld <| Ab <| Es <| qm rfl <| Lq (o2 E0 rfl rfl) rfl <| Ld ?_
  refine Ec rfl (fun g1 => ?_) (fun g1 => ?_)
  have h1 := dT g1
  exact absurd h1 (by omega)
  have h1 := dF g1
  refine Ac <| Ab <| Es <| qm rfl <| Lq (o2 E0 rfl rfl) rfl <| Ld ?_
  refine Ec rfl (fun g2 => ?_) (fun g2 => ?_)
  have h2 := dT g2
  refine Es <| qm rfl <| Lq (OpQ.shrK (b := 16) rfl E0 rfl rfl (by decide)) rfl <| qa rfl <| Ld <| Ao <| qm rfl ?_
  refine Lq (At (a := 0) (b := 16) rfl u_3 rfl rfl (by first | assumption | omega | (simp only [LL]; omega))) rfl ?_
  refine qa rfl <| Ld <| Ab <| Es <| qm rfl <| Lq (o2 E0 rfl rfl) rfl <| Ld ?_
  refine Ec rfl (fun g3 => ?_) (fun g3 => ?_)
  have h3 := dT g3
  refine Es <| qm rfl <| Lq (OpQ.shrK (b := 8) rfl E0 rfl rfl (by decide)) rfl <| qa rfl <| Ld <| Ao <| qm rfl ?_
  refine Lq (At (a := 16) (b := 8) rfl u_3 rfl rfl (by first | assumption | omega | (simp only [LL]; omega))) rfl ?_
  refine qa rfl <| Ld <| Es ?_
  iterate 2 refine qm rfl ?_
  refine Lq (DD rfl E0 u_5 rfl (by omega)) rfl ?_
  rotate_left
  have h3 := dF g3
  refine Ac <| Es ?_
  iterate 2 refine qm rfl ?_
  refine Lq (DD rfl E0 u_5 rfl (by omega)) rfl ?_
  rotate_left
  have h2 := dF g2
  refine Ac <| Ab <| Es <| qm rfl <| Lq (o2 E0 rfl rfl) rfl <| Ld ?_
  refine Ec rfl (fun g4 => ?_) (fun g4 => ?_)
  have h4 := dT g4
  refine Es <| qm rfl <| Lq (OpQ.shrK (b := 8) rfl E0 rfl rfl (by decide)) rfl <| qa rfl <| Ld <| Ao <| qm rfl ?_
  refine Lq (At (a := 0) (b := 8) rfl u_3 rfl rfl (by first | assumption | omega | (simp only [LL]; omega))) rfl ?_
  refine qa rfl <| Ld <| Es ?_
  iterate 2 refine qm rfl ?_
  refine Lq (DD rfl E0 u_5 rfl (by omega)) rfl ?_
  rotate_left
  have h4 := dF g4
  refine Ac <| Es ?_
  iterate 2 refine qm rfl ?_
  refine Lq (DD rfl E0 u_5 rfl (by omega)) rfl ?_
  rotate_left
 ·have hb := EV (n := m / 2 ^ 16 / 2 ^ 8) (by omega)
  refine Lq (len8 rfl (by kernel_rfl) rfl (by omega)) rfl <| Lq (OpQ.convI rfl u_5 u_3 rfl ⟨by omega, by omega⟩) rfl ?_
  refine Lq (At (a := 24) rfl u_3 rfl rfl (by first | assumption | omega | (simp only [LL]; omega))) rfl ?_
  refine qa rfl <| Ld ?_
  refine Aa (Er rfl ?_)
  unfold lenV
  rw [if_pos (by omega), if_pos (by omega)]; try rfl
 ·have hb := EV (n := m / 2 ^ 16) (by omega)
  refine Lq (len8 rfl (by kernel_rfl) rfl (by omega)) rfl <| Lq (OpQ.convI rfl u_5 u_3 rfl ⟨by omega, by omega⟩) rfl ?_
  refine Lq (At (a := 16) rfl u_3 rfl rfl (by first | assumption | omega | (simp only [LL]; omega))) rfl ?_
  refine qa rfl <| Ld ?_
  refine Aa (Er rfl ?_)
  unfold lenV
  rw [if_pos (by omega), if_neg (by omega)]; try rfl
 ·have hb := EV (n := m / 2 ^ 8) (by omega)
  refine Lq (len8 rfl (by kernel_rfl) rfl (by omega)) rfl <| Lq (OpQ.convI rfl u_5 u_3 rfl ⟨by omega, by omega⟩) rfl ?_
  refine Lq (At (a := 8) rfl u_3 rfl rfl (by first | assumption | omega | (simp only [LL]; omega))) rfl ?_
  refine qa rfl <| Ld ?_
  refine Aa (Er rfl ?_)
  unfold lenV
  rw [if_neg (by omega), if_pos (by omega)]; try rfl
 ·have hb := EV (n := m) (by omega)
  refine Lq (len8 rfl (by kernel_rfl) rfl (by omega)) rfl <| Lq (OpQ.convI rfl u_5 u_3 rfl ⟨by omega, by omega⟩) rfl ?_
  refine Lq (At (a := 0) rfl u_3 rfl rfl (by first | assumption | omega | (simp only [LL]; omega))) rfl ?_
  refine qa rfl <| Ld ?_
  refine Aa (Er rfl ?_)
  unfold lenV
  rw [if_neg (by omega), if_neg (by omega)]
  show AV.int .i64 ((0 + lenB m : Nat) : Int) = _
  rw [Nat.zero_add]
abbrev U32T := { m : Nat // m < 4294967296 }
noncomputable def KL1 := addC K15 205 (fun p : U32T=>[.int .u64 (p.1 : Nat)]) (fun p=>.int .i64 (lenV p.1 : Nat))
theorem u32_inj {k : IntKind} {p q : U32T} (h : ([.int k (p.1 : Nat)] : List AV) = [.int k (q.1 : Nat)]) : p = q := by
 have := (AV.int.inj (List.cons.inj h).1).2
 exact Subtype.ext (by omega)
theorem hit_205 {m : Nat} (h : m < 4294967296) : KL1 205 [.int .u64 (m : Nat)] = some (.int .i64 (lenV m : Nat)) :=
 AD (f := 205) (enc := fun p : U32T => [.int .u64 (p.1 : Nat)]) (res := fun p => .int .i64 (lenV p.1 : Nat)) (fun p q h => by rw [u32_inj h]) ⟨m, h⟩
theorem BA : ∀ g cs, gl0 g = some cs → cs.all (closedV 40) = true := fun g cs h => by
 unfold gl0 at h
 cases hb : Nat.beq g 0 with
 | false => rw [hb] at h; cases h
 | true => rw [hb] at h; cases h; rfl
theorem gall1 (h : KnownF Tryz.prog 10 [] (.bool true)) : KnownGs Tryz.prog gl0 KL1 :=
 Db AE BA (all15 h).g (fun p : U32T => len64_to p.1 p.2) (fun _ => rfl) (fun _ => rfl)
theorem lenV_le {m : Nat} (h : m < 4294967296) : lenV m ≤ 32 := by
 unfold lenV
 split
 ·split
  ·have := EV (n := m / 2 ^ 16 / 2 ^ 8) (by omega); omega
  ·have := EV (n := m / 2 ^ 16) (by omega); omega
 ·split
  ·have := EV (n := m / 2 ^ 8) (by omega); omega
  ·have := EV (n := m) (by omega); omega
theorem idx10 {K : FuncId → List AV → Option AV} {l : Sl} {o : Oper} {i : Operand} {t : Nat} (ho : o.op = .indexAddr 305 (.global 0) i) (hi : opndL i l = some (.int .i64 (t : Nat))) (ht : t < 20) : OpQ (EG gl0 K) o l (.iptr (.int .u64 ((10 ^ t : Nat) : Int) :: pow10.drop (t + 1))) := by
 have := OpQ.indexAddrG (E := EG gl0 K) ho u_305 sz_253 rfl hi ht (by show t * (0 + 1) ≤ 20; omega)
 have e : pow10.drop (t * (0 + 1)) = .int .u64 ((10 ^ t : Nat) : Int) :: pow10.drop (t + 1) := by
  rw [Nat.zero_add, Nat.mul_one]
  clear this hi
  match t with
  | 0 | 1 | 2 | 3 | 4 | 5 | 6 | 7 | 8 | 9 | 10 | 11 | 12 | 13 | 14 | 15 | 16 | 17 | 18 | 19 => rfl
  | t + 20 => omega
 rwa [e] at this
def numV (m : Nat) : Nat := if 10 ^ (lenV m * 78913 / 2 ^ 18) ≤ m then lenV m * 78913 / 2 ^ 18 + 1 else lenV m * 78913 / 2 ^ 18
theorem num_to (m : Nat) (hm : m < 4294967296) : CallTo (EG gl0 KL1) 165 [.int .u64 (m : Nat)] S0 (.int .i64 (numV m : Nat)) := by
 refine Ax (fn := Tryz.f165) rfl rfl (by kernel_rfl) rfl rfl rfl rfl ?_
 have hl := lenV_le hm
 refine Es <| qa rfl <| Ld <| Es <| qm rfl ?_
 refine Lo (Ag rfl rfl (by kernel_rfl) rfl (Ae (hit_205 (by first | assumption | omega | (simp only [LL]; omega))))) rfl ?_
 refine D4 (fn := Tryz.f204) (by kernel_rfl) (by kernel_rfl) rfl rfl rfl rfl rfl rfl rfl rfl rfl rfl rfl <| Es <| qa rfl <| Ld <| Es <| qm rfl ?_
 refine Lq (OpQ.mulN (b := 78913) rfl u_3 rfl rfl (by first | assumption | omega | (simp only [LL]; omega))) rfl ?_
 refine Lq (OpQ.shrK (b := 18) rfl u_3 rfl rfl (by decide)) rfl <| qa rfl <| Ld ?_
 refine Aa (DE rfl (As rfl rfl) rfl rfl rfl rfl ?_)
 refine qa rfl <| Ld <| Es ?_
 iterate 3 refine qm rfl ?_
 refine Lq (idx10 rfl rfl (by omega)) rfl ?_
 focus
  refine Lq (A3 rfl rfl ag_253 sz_253) rfl <| Lq (o2 E0 rfl rfl) rfl <| D4 (fn := Tryz.f206) (by kernel_rfl) (by kernel_rfl) rfl rfl rfl rfl rfl rfl rfl rfl rfl rfl rfl <| Es <| qa rfl <| Ld <| Ab <| Es ?_
  refine qm rfl <| Ld ?_
  refine Ec rfl (fun g1 => ?_) (fun g1 => ?_)
  have h1 := dT g1
  refine Es <| qa rfl <| Ld ?_
  refine Aa (DE rfl (As rfl rfl) rfl rfl rfl rfl ?_)
  refine Lq (At (b := 1) rfl u_3 rfl rfl (by first | assumption | omega | (simp only [LL]; omega))) rfl ?_
  refine qa rfl <| Ld ?_
  refine Aa (Er rfl ?_)
  rotate_left
  have h1 := dF g1
  refine Ac <| Es <| qa rfl <| Ld ?_
  refine Aa (DE rfl (As rfl rfl) rfl rfl rfl rfl ?_)
  refine Lq (At (b := 0) rfl u_3 rfl rfl (by first | assumption | omega | (simp only [LL]; omega))) rfl ?_
  refine qa rfl <| Ld ?_
  refine Aa (Er rfl ?_)
  rotate_left
 ·unfold numV; rw [if_pos (Int.ofNat_le.1 h1)]; try rfl
 ·unfold numV; rw [if_neg (fun h => h1 (Int.ofNat_le.2 h))]; try rfl
theorem lenB_law {n : Nat} (h0 : 0 < n) : 0 < lenB n ∧ 2 ^ (lenB n - 1) ≤ n ∧ n < 2 ^ lenB n := by
 unfold lenB
 rw [if_neg (by omega)]
 exact ⟨Nat.succ_pos _, Nat.log2_self_le (by omega), Nat.lt_log2_self⟩
theorem shift_law {m k b : Nat} (hb : 0 < b) (h1 : 2 ^ (b - 1) ≤ m / 2 ^ k) (h2 : m / 2 ^ k < 2 ^ b) : 2 ^ (k + b - 1) ≤ m ∧ m < 2 ^ (k + b) := by
 rw [Nat.le_div_iff_mul_le (Nat.pow_pos (by decide)), ← Nat.pow_add] at h1
 rw [Nat.div_lt_iff_lt_mul (Nat.pow_pos (by decide)), ← Nat.pow_add] at h2
 rw [show k + b - 1 = b - 1 + k from by omega, Nat.add_comm k b]
 exact ⟨h1, h2⟩
theorem lenV_law {m : Nat} (h0 : 0 < m) : 2 ^ (lenV m - 1) ≤ m ∧ m < 2 ^ lenV m := by
 unfold lenV
 split
 ·split
  ·obtain ⟨h3, h4, h5⟩ := lenB_law (n := m / 2 ^ 16 / 2 ^ 8) (by omega)
   rw [Nat.div_div_eq_div_mul, ← Nat.pow_add] at h3 h4 h5 ⊢
   exact shift_law h3 h4 h5
  ·obtain ⟨h3, h4, h5⟩ := lenB_law (n := m / 2 ^ 16) (by omega)
   exact shift_law h3 h4 h5
 ·split
  ·obtain ⟨h3, h4, h5⟩ := lenB_law (n := m / 2 ^ 8) (by omega)
   exact shift_law h3 h4 h5
  ·exact (lenB_law h0).2
theorem num_law {m : Nat} (h0 : 1 ≤ m) (h1 : m < 10000000) : 1 ≤ numV m ∧ numV m ≤ 7 ∧ 10 ^ (numV m - 1) ≤ m ∧ m < 10 ^ numV m := by
 obtain ⟨h2, h3⟩ := lenV_law (m := m) (by omega)
 have h4 : lenV m < 25 := by
  rcases Nat.lt_or_ge (lenV m) 25 with h | h
  ·exact h
  ·have := Nat.pow_le_pow_right (n := 2) (by decide) (show 24 ≤ lenV m - 1 by omega)
   omega
 have h5 : 1 ≤ lenV m := by
  rcases Nat.lt_or_ge (lenV m) 1 with h | h
  ·have := Nat.pow_le_pow_right (n := 2) (by decide) (show lenV m ≤ 0 by omega)
   omega
  ·exact h
 unfold numV
 generalize lenV m = L at *
 have : L = 1 ∨ L = 2 ∨ L = 3 ∨ L = 4 ∨ L = 5 ∨ L = 6 ∨ L = 7 ∨ L = 8 ∨ L = 9 ∨ L = 10 ∨ L = 11 ∨ L = 12 ∨ L = 13 ∨ L = 14 ∨ L = 15 ∨ L = 16 ∨ L = 17 ∨ L = 18 ∨ L = 19 ∨ L = 20 ∨ L = 21 ∨ L = 22 ∨ L = 23 ∨ L = 24 := by omega
 rcases this with rfl | rfl | rfl | rfl | rfl | rfl | rfl | rfl | rfl | rfl | rfl | rfl | rfl | rfl | rfl | rfl | rfl | rfl | rfl | rfl | rfl | rfl | rfl | rfl <;>
  (simp only [Nat.reduceMul, Nat.reducePow, Nat.reduceDiv, Nat.reduceAdd, Nat.reduceSub] at *; split <;> simp only [Nat.reduceAdd, Nat.reduceSub, Nat.reducePow] <;> omega)
noncomputable abbrev EK (K : FuncId → List AV → Option AV) : Env := EGm gl0 562949953421312 K
def smallV (n : Nat) : List UInt8 := if n < 10 then [UInt8.ofNat (48 + n)] else [UInt8.ofNat (48 + n / 10),UInt8.ofNat (48 + n % 10)]
theorem small_all : ((List.range 100).all fun n=>entOk (envT Tryz.prog 1200 1200 0 []) 100 ⟨164,[.int .i64 (n : Nat)],.str (smallV n)⟩) = true := by kernel_rfl
theorem small_known {n : Nat} (h : n < 100) : KnownF Tryz.prog 164 [.int .i64 (n : Nat)] (.str (smallV n)) := by
 have h1 := List.all_eq_true.1 small_all n (List.mem_range.2 h)
 have h2 := BY AE (m := []) (fun e he => by cases he) h1
 exact fun C S w xs c cs hv hS => h2 [] C S w xs c cs (fun g cs hg => by cases hg) hv hS
noncomputable def KL2 := addC KL1 165 (fun p : U32T=>[.int .u64 (p.1 : Nat)]) (fun p=>.int .i64 (numV p.1 : Nat))
theorem hit_165 {m : Nat} (h : m < 4294967296) : KL2 165 [.int .u64 (m : Nat)] = some (.int .i64 (numV m : Nat)) :=
 AD (f := 165) (enc := fun p : U32T => [.int .u64 (p.1 : Nat)]) (res := fun p => .int .i64 (numV p.1 : Nat)) (fun p q h => by rw [u32_inj h]) ⟨m, h⟩
theorem gall2 (h : KnownF Tryz.prog 10 [] (.bool true)) : KnownGs Tryz.prog gl0 KL2 :=
 Db AE BA (gall1 h) (fun p : U32T => num_to p.1 p.2) (fun _ => rfl) (fun _ => rfl)
abbrev CentT := { m : Nat // m < 100 }
noncomputable def KL3 := addC KL2 164 (fun p : CentT=>[.int .i64 (p.1 : Nat)]) (fun p=>.str (smallV p.1))
theorem cent_inj {k : IntKind} {p q : CentT} (h : ([.int k (p.1 : Nat)] : List AV) = [.int k (q.1 : Nat)]) : p = q := by
 have := (AV.int.inj (List.cons.inj h).1).2
 exact Subtype.ext (by omega)
theorem hit_164 {m : Nat} (h : m < 100) : KL3 164 [.int .i64 (m : Nat)] = some (.str (smallV m)) :=
 AD (f := 164) (enc := fun p : CentT => [.int .i64 (p.1 : Nat)]) (res := fun p => .str (smallV p.1)) (fun p q h => by rw [cent_inj h]) ⟨m, h⟩
theorem gall3 (h : KnownF Tryz.prog 10 [] (.bool true)) : KnownGs Tryz.prog gl0 KL3 :=
 addC_knownG (gall2 h) fun p => (small_known p.2).g
def digV (m : Nat) : Nat → List UInt8
 | 0 => []
 | d + 1 => digV (m / 10) d ++ [UInt8.ofNat (48 + m % 10)]
def itoaV (n : Int) : List UInt8 := if 0 ≤ n ∧ n < 100 then smallV n.toNat else if n < 0 then 45 :: digV n.natAbs (numV n.natAbs) else digV n.natAbs (numV n.natAbs)
theorem neg_u64 {n : Int} (h : n < 0) (h2 : -10000000 < n) : wrapI .u64 (0 - IntKind.u64.wrap n) = .int .u64 ((n.natAbs : Nat) : Int) := by
 have e : IntKind.u64.wrap n = n + 18446744073709551616 := by simp [IntKind.wrap, IntKind.bits, IntKind.signed]; omega
 unfold wrapI
 rw [e]
 have : IntKind.u64.wrap (0 - (n + 18446744073709551616)) = -n := by simp [IntKind.wrap, IntKind.bits, IntKind.signed]; omega
 rw [this, show ((n.natAbs : Nat) : Int) = -n from by omega]
def digB (n : Nat) : Nat := if n % 2 = 0 then 48 + n / 20 else 48 + n / 2 % 10
def tabD : List UInt8 := (List.range 200).map fun n=>UInt8.ofNat (digB n)
theorem dig8 {K : FuncId → List AV → Option AV} {l : Sl} {o : Oper} {x i : Operand} {k : IntKind} {n : Nat} (ho : o.op = .index 9 x i) (hx : opndL x l = some (.str tabD)) (hi : opndL i l = some (.int k (n : Nat))) (hn : n < 200) : OpQ (EK K) o l (.int .u8 ((digB n : Nat) : Int)) := by
 have h1 : n < tabD.length := by unfold tabD; rw [Qn, List.length_range]; exact hn
 have h2 : tabD[n]? = some (UInt8.ofNat (digB n)) := by unfold tabD; rw [List.getElem?_map, List.getElem?_range hn]; rfl
 have := Dm (E := EK K) ho u_9 hx hi h1
 have e : (tabD.getD n 0).toNat = digB n := by
  rw [List.getD_eq_getElem?_getD, h2]
  show (UInt8.ofNat (digB n)).toNat = _
  exact UInt8.toNat_ofNat_of_lt (show digB n < 256 by unfold digB; split <;> omega)
 rwa [e] at this
theorem Fe {α : Type} {a b : α} {l m : List α} (h1 : a = b) (h2 : l = m) : a :: l = b :: m := by rw [h1,h2]
theorem dig0 (r : Nat) : digB (r * 2) = 48 + r / 10 := by
 unfold digB
 rw [if_pos (by omega)]; omega
theorem dig1 (r : Nat) : digB (r * 2 + 1) = 48 + r % 10 := by
 unfold digB
 rw [if_neg (by omega)]; omega
theorem fmt_to (n : Int) (h0 : -10000000 < n ∧ n < 10000000) : CallTo (EK KL3) 128 [.int .i64 n, .int .i64 10] S0 (.str (itoaV n)) := by
 refine Ax (fn := Tryz.f128) rfl rfl (by kernel_rfl) rfl rfl rfl rfl ?_
 by_cases hs : 0 ≤ n ∧ n < 100
 ·obtain ⟨m, rfl⟩ : ∃ m : Nat, n = m := ⟨n.toNat, by omega⟩
  have hm : m < 100 := by omega
  focus
   refine Es <| qa rfl <| Ld <| Ab <| Es <| qm rfl <| Lq (o2 u_3 rfl rfl) rfl <| Ld ?_
   refine Ah rfl rfl <| Ab <| Es <| qm rfl <| Lq (o2 u_2 rfl rfl) rfl <| qm rfl <| Lh rfl rfl (om rfl) <| Lh rfl rfl (o2 u_2 rfl rfl) ?_
   refine Lq (oT rfl rfl rfl) rfl <| Ld ?_
   refine Ec rfl (fun g1 => ?_) (fun g1 => ?_)
   have h1 := dT g1
   refine Es <| qm rfl ?_
   refine Lo (Ag rfl rfl (by kernel_rfl) rfl (Ae (hit_164 (by first | assumption | omega | (simp only [LL]; omega))))) rfl ?_
   refine qa rfl <| Ld ?_
   refine Aa (Er rfl ?_)
   rotate_left
   have h1 := dF g1
   exact absurd h1 (by omega)
  unfold itoaV; rw [if_pos hs]; rfl
 ·obtain ⟨m, hm⟩ : ∃ m : Nat, n.natAbs = m := ⟨_, rfl⟩
  have hv : itoaV n = if n < 0 then 45 :: digV m (numV m) else digV m (numV m) := by unfold itoaV; rw [if_neg hs, hm]
  have h1 : 100 ≤ m ∨ n < 0 := by omega
  have hneg : n < 0 → wrapI .u64 (0 - IntKind.u64.wrap n) = .int .u64 ((m : Nat) : Int) := fun h => by rw [neg_u64 h h0.1, hm]
  refine Es <| qa rfl <| Ld <| Ab <| Es <| qm rfl <| Lq (o2 u_3 rfl rfl) rfl <| Ld ?_
  refine Ah rfl rfl <| Ab ?_
  refine Ds [(17, .bool false), (0, .int .i64 n)] (mkS 0 0 [] []) ?_ ?_
  ·focus
    refine Ao <| qm rfl <| Lq (o2 u_2 rfl rfl) rfl <| qm rfl ?_
    refine Lb rfl (fun g1 => ?_) (fun g1 => ?_)
    have h1 := dT g1
    refine Lh rfl ‹_› (om rfl) <| Lh rfl ‹_› (o2 u_2 rfl rfl) <| Lq (oT rfl ‹_› rfl) rfl <| Ld ?_
    rotate_left
    have h1 := dF g1
    iterate 2 refine Lk rfl ‹_› ?_
    refine Lq (oF rfl ‹_› rfl) rfl <| Ld ?_
    rotate_left
   ·refine ⟨rfl, rfl, rfl, ?_⟩
    rw [show decide (n < 100) = false from decide_eq_false (by omega)]
    (refine Am.Ap ?_; repeat (first | exact trivial | refine ⟨rfl, ?_⟩))
   ·refine ⟨rfl, rfl, rfl, ?_⟩
    (refine Am.Ap ?_; repeat (first | exact trivial | refine ⟨rfl, ?_⟩))
  refine An rfl rfl <| Ac <| Es <| Lo (Bf 1 rfl z_259 rfl) rfl <| Ld <| Es <| qm rfl <| Lq (Fm rfl u_2 E0 rfl) rfl ?_
  refine qa rfl <| Ld ?_
  refine Ds [(6, .int .u64 (m : Nat)), (5, .ptr 0 0), (0, .int .i64 n)] (mkS 1 0 [] [(0, some (.cells (List.replicate 24 (.int .u8 0)) 259 false))]) ?_ ?_
  ·focus
    refine Es <| qm rfl <| Lq (o2 u_2 rfl rfl) rfl <| Ld ?_
    refine Ec rfl (fun g1 => ?_) (fun g1 => ?_)
    have h1 := dT g1
    refine Ao <| qm rfl ?_
    rotate_left
    have h1 := dF g1
    refine Ac ?_
    rotate_left
   ·have hh := hneg h1
    refine Lq (OpQ.negE rfl rfl ‹_›) rfl <| qa rfl <| Ld ?_
    refine ⟨rfl, rfl, rfl, ?_⟩
    (refine Am.Ap ?_; repeat (first | exact trivial | refine ⟨rfl, ?_⟩))
   ·refine ⟨rfl, rfl, rfl, ?_⟩
    rw [show n = ((m : Nat) : Int) from by omega, wrapK (k := .u64) rfl (by omega) (by omega)]
    (refine Am.Ap ?_; repeat (first | exact trivial | refine ⟨rfl, ?_⟩))
  have hm7 : m < 10000000 := by omega
  obtain ⟨hv1, hv2, hv3, hv4⟩ := num_law (m := m) (by omega) hm7
  refine Es <| qm rfl ?_
  refine Lo (Ag rfl rfl (by kernel_rfl) rfl (Ae (hit_165 (by first | assumption | omega | (simp only [LL]; omega))))) rfl ?_
  refine qa rfl <| Ld <| Es <| qm rfl ?_
  refine Lq (At (a := 1) rfl u_3 rfl rfl (by first | assumption | omega | (simp only [LL]; omega))) rfl ?_
  generalize numV m = d at *
  have hd : d = 1 ∨ d = 2 ∨ d = 3 ∨ d = 4 ∨ d = 5 ∨ d = 6 ∨ d = 7 := by omega
  rcases hd with rfl | rfl | rfl | rfl | rfl | rfl | rfl
  ·refine Lq (AO rfl Dv Bh rfl rfl rfl rfl) rfl ?_
   refine qm rfl <| D4 (fn := Tryz.f166) (by kernel_rfl) (by kernel_rfl) rfl rfl rfl rfl rfl rfl rfl rfl rfl rfl rfl <| Es <| qm rfl <| Lq (D3 rfl rfl rfl rfl Dt rfl) rfl <| qa rfl <| Ld <| Ab ?_
   refine Ai ?_
   refine Aw (fun _ : Unit => ([(4, .int .i64 (1 : Nat)), (1, .int .u64 (m : Nat)), (0, .slice 0 1 1 1 (some 23))], mkS 1 1 [] [(0, some (.cells (List.replicate 24 (.int .u8 0)) 259 false))])) (fun _ => 0) (fun _ => True) () trivial rfl (by (refine Am.Ap ?_; repeat (first | exact trivial | refine ⟨rfl, ?_⟩))) ?_
   intro _ _
   focus
    refine Ab <| Es <| qm rfl <| Lq (o2 u_3 rfl rfl) rfl <| Ld <| An rfl rfl <| A5 <| AX rfl ?_
    refine Es <| qm rfl <| Lq (Eg rfl E0 AR rfl rfl (by omega)) rfl <| qa rfl <| Ld <| Ab <| Es <| qm rfl ?_
    refine Lq (o2 u_3 rfl rfl) rfl <| Ld <| An rfl rfl <| Ac <| Ab <| Es <| qm rfl <| Lq (o2 u_3 rfl rfl) rfl ?_
    refine Ld <| An rfl rfl <| Ac <| Es <| qm rfl <| Lq (o2 u_3 rfl rfl) rfl <| Ld <| Ah rfl rfl ?_
    refine Ao ?_
    iterate 2 refine qm rfl ?_
    refine Lq (Bs (a := 48) rfl AR rfl rfl rfl (by omega)) rfl <| Lq (DD rfl AR u_5 rfl (by omega)) rfl ?_
    refine Lq (Aq (k := 0) rfl Dt Bh rfl rfl (by first | assumption | omega | (simp only [LL]; omega))) rfl ?_
    refine AB (AK rfl Bh rfl rfl rfl rfl rfl rfl) rfl rfl <| Ld ?_
    refine Ei (Fp rfl rfl rfl rfl ?_)
    refine Ld <| Ab <| Es <| qm rfl <| Lq (o2 u_2 rfl rfl) rfl <| Ld ?_
    refine Ec rfl (fun g1 => ?_) (fun g1 => ?_)
    have h1 := dT g1
    refine Es <| Lq (Bq (m := 0) rfl Dv Bh rfl rfl (by omega) rfl) rfl <| AB (AK rfl Bh rfl rfl rfl rfl rfl rfl) rfl rfl <| Ld <| Es <| qm rfl ?_
    refine Lq (At (a := 1) (b := 1) rfl u_3 rfl rfl (by first | assumption | omega | (simp only [LL]; omega))) rfl ?_
    refine Lq (AO rfl Dv Bh rfl rfl rfl rfl) rfl <| Lo (B9 rfl Dt u_9 ib_5 rfl rfl) rfl <| qa rfl <| Ld ?_
    refine Aa (Er rfl ?_)
    rotate_left
    have h1 := dF g1
    exact absurd h1 (by omega)
   ·rw [hv, if_pos h1]
    show AV.str _ = AV.str _
    simp only [digV, List.nil_append, List.cons_append, Int.toNat_natCast, dig0, dig1]
    refine congrArg AV.str <| Fe rfl ?_
    repeat refine Fe (congrArg UInt8.ofNat (by omega)) ?_
    all_goals rfl
  ·refine Lq (AO rfl Dv Bh rfl rfl rfl rfl) rfl ?_
   refine qm rfl <| D4 (fn := Tryz.f166) (by kernel_rfl) (by kernel_rfl) rfl rfl rfl rfl rfl rfl rfl rfl rfl rfl rfl <| Es <| qm rfl <| Lq (D3 rfl rfl rfl rfl Dt rfl) rfl <| qa rfl <| Ld <| Ab ?_
   refine Ai ?_
   refine Aw (fun _ : Unit => ([(4, .int .i64 (2 : Nat)), (1, .int .u64 (m : Nat)), (0, .slice 0 1 2 1 (some 23))], mkS 1 1 [] [(0, some (.cells (List.replicate 24 (.int .u8 0)) 259 false))])) (fun _ => 0) (fun _ => True) () trivial rfl (by (refine Am.Ap ?_; repeat (first | exact trivial | refine ⟨rfl, ?_⟩))) ?_
   intro _ _
   focus
    refine Ab <| Es <| qm rfl <| Lq (o2 u_3 rfl rfl) rfl <| Ld <| An rfl rfl <| A5 <| AX rfl ?_
    refine Es <| qm rfl <| Lq (Eg rfl E0 AR rfl rfl (by omega)) rfl <| qa rfl <| Ld <| Ab <| Es <| qm rfl ?_
    refine Lq (o2 u_3 rfl rfl) rfl <| Ld <| An rfl rfl <| Ac <| Ab <| Es <| qm rfl <| Lq (o2 u_3 rfl rfl) rfl ?_
    refine Ld <| Ah rfl rfl <| Es <| qm rfl <| Lq (Dd (b := 100) rfl AR rfl rfl (by omega)) rfl <| Lq (Df (b := 2) rfl AR rfl rfl rfl (by omega)) rfl <| qa rfl <| Ld ?_
    refine Es <| qm rfl <| Lq (De (b := 100) rfl AR rfl rfl rfl (by omega)) rfl <| qa rfl <| Ld <| Av (by kernel_rfl) ?_
    iterate 2 refine Nq (om rfl) rfl ?_
    refine Nq (A6 (a := 2) (b := 1) rfl u_3 rfl rfl (by omega)) rfl ?_
    iterate 2 refine Nq (om rfl) rfl ?_
    refine Nq (A6 (a := 2) (b := 2) rfl u_3 rfl rfl (by omega)) rfl <| Nq (om rfl) rfl <| Nq (Bs (b := 1) rfl AR rfl rfl rfl (by omega)) rfl <| Nq (dig8 rfl (by kernel_rfl) rfl (by omega)) rfl <| Nq (om rfl) rfl <| Nq (dig8 rfl (by kernel_rfl) rfl (by omega)) rfl ?_
    refine Nq (Aq (k := 1) rfl Dt Bh rfl rfl (by first | assumption | omega | (simp only [LL]; omega))) rfl ?_
    refine A9 rfl Bh rfl rfl rfl rfl rfl rfl rfl (by kernel_rfl) (by kernel_rfl) (.inl rfl) rfl rfl ?_
    refine Nq (Aq (k := 0) rfl Dt Bh rfl rfl (by first | assumption | omega | (simp only [LL]; omega))) rfl ?_
    refine A9 rfl Bh rfl rfl rfl rfl rfl rfl rfl (by kernel_rfl) (by kernel_rfl) (.inl rfl) rfl rfl <| Ay <| Ao <| qm rfl <| Lq (A6 (a := 2) (b := 2) rfl u_3 rfl rfl (by omega)) rfl <| qa rfl <| Ld <| Es ?_
    refine qm rfl <| Lq (o2 u_3 rfl rfl) rfl <| Ld <| An rfl rfl <| Ac ?_
    refine Ei (Fp rfl rfl rfl rfl ?_)
    refine Ld <| Ab <| Es <| qm rfl <| Lq (o2 u_2 rfl rfl) rfl <| Ld ?_
    refine Ec rfl (fun g1 => ?_) (fun g1 => ?_)
    have h1 := dT g1
    refine Es <| Lq (Bq (m := 0) rfl Dv Bh rfl rfl (by omega) rfl) rfl <| AB (AK rfl Bh rfl rfl rfl rfl rfl rfl) rfl rfl <| Ld <| Es <| qm rfl ?_
    refine Lq (At (a := 1) (b := 2) rfl u_3 rfl rfl (by first | assumption | omega | (simp only [LL]; omega))) rfl ?_
    refine Lq (AO rfl Dv Bh rfl rfl rfl rfl) rfl <| Lo (B9 rfl Dt u_9 ib_5 rfl rfl) rfl <| qa rfl <| Ld ?_
    refine Aa (Er rfl ?_)
    rotate_left
    have h1 := dF g1
    exact absurd h1 (by omega)
   ·rw [hv, if_pos h1]
    show AV.str _ = AV.str _
    simp only [digV, List.nil_append, List.cons_append, Int.toNat_natCast, dig0, dig1]
    refine congrArg AV.str <| Fe rfl ?_
    repeat refine Fe (congrArg UInt8.ofNat (by omega)) ?_
    all_goals rfl
  ·refine Lq (AO rfl Dv Bh rfl rfl rfl rfl) rfl ?_
   refine qm rfl <| D4 (fn := Tryz.f166) (by kernel_rfl) (by kernel_rfl) rfl rfl rfl rfl rfl rfl rfl rfl rfl rfl rfl <| Es <| qm rfl <| Lq (D3 rfl rfl rfl rfl Dt rfl) rfl <| qa rfl <| Ld <| Ab ?_
   refine Ai ?_
   refine Aw (fun _ : Unit => ([(4, .int .i64 (3 : Nat)), (1, .int .u64 (m : Nat)), (0, .slice 0 1 3 1 (some 23))], mkS 1 1 [] [(0, some (.cells (List.replicate 24 (.int .u8 0)) 259 false))])) (fun _ => 0) (fun _ => True) () trivial rfl (by (refine Am.Ap ?_; repeat (first | exact trivial | refine ⟨rfl, ?_⟩))) ?_
   intro _ _
   focus
    refine Ab <| Es <| qm rfl <| Lq (o2 u_3 rfl rfl) rfl <| Ld <| An rfl rfl <| A5 <| AX rfl ?_
    refine Es <| qm rfl <| Lq (Eg rfl E0 AR rfl rfl (by omega)) rfl <| qa rfl <| Ld <| Ab <| Es <| qm rfl ?_
    refine Lq (o2 u_3 rfl rfl) rfl <| Ld <| An rfl rfl <| Ac <| Ab <| Es <| qm rfl <| Lq (o2 u_3 rfl rfl) rfl ?_
    refine Ld <| Ah rfl rfl <| Es <| qm rfl <| Lq (Dd (b := 100) rfl AR rfl rfl (by omega)) rfl <| Lq (Df (b := 2) rfl AR rfl rfl rfl (by omega)) rfl <| qa rfl <| Ld ?_
    refine Es <| qm rfl <| Lq (De (b := 100) rfl AR rfl rfl rfl (by omega)) rfl <| qa rfl <| Ld <| Av (by kernel_rfl) ?_
    iterate 2 refine Nq (om rfl) rfl ?_
    refine Nq (A6 (a := 3) (b := 1) rfl u_3 rfl rfl (by omega)) rfl ?_
    iterate 2 refine Nq (om rfl) rfl ?_
    refine Nq (A6 (a := 3) (b := 2) rfl u_3 rfl rfl (by omega)) rfl <| Nq (om rfl) rfl <| Nq (Bs (b := 1) rfl AR rfl rfl rfl (by omega)) rfl <| Nq (dig8 rfl (by kernel_rfl) rfl (by omega)) rfl <| Nq (om rfl) rfl <| Nq (dig8 rfl (by kernel_rfl) rfl (by omega)) rfl ?_
    refine Nq (Aq (k := 2) rfl Dt Bh rfl rfl (by first | assumption | omega | (simp only [LL]; omega))) rfl ?_
    refine A9 rfl Bh rfl rfl rfl rfl rfl rfl rfl (by kernel_rfl) (by kernel_rfl) (.inl rfl) rfl rfl ?_
    refine Nq (Aq (k := 1) rfl Dt Bh rfl rfl (by first | assumption | omega | (simp only [LL]; omega))) rfl ?_
    refine A9 rfl Bh rfl rfl rfl rfl rfl rfl rfl (by kernel_rfl) (by kernel_rfl) (.inl rfl) rfl rfl <| Ay <| Ao <| qm rfl <| Lq (A6 (a := 3) (b := 2) rfl u_3 rfl rfl (by omega)) rfl <| qa rfl <| Ld <| Es ?_
    refine qm rfl <| Lq (o2 u_3 rfl rfl) rfl <| Ld <| Ah rfl rfl <| Ao ?_
    iterate 2 refine qm rfl ?_
    refine Lq (Bs (a := 48) rfl AR rfl rfl rfl (by omega)) rfl <| Lq (DD rfl AR u_5 rfl (by omega)) rfl ?_
    refine Lq (Aq (k := 0) rfl Dt Bh rfl rfl (by first | assumption | omega | (simp only [LL]; omega))) rfl ?_
    refine AB (AK rfl Bh rfl rfl rfl rfl rfl rfl) rfl rfl <| Ld ?_
    refine Ei (Fp rfl rfl rfl rfl ?_)
    refine Ld <| Ab <| Es <| qm rfl <| Lq (o2 u_2 rfl rfl) rfl <| Ld ?_
    refine Ec rfl (fun g1 => ?_) (fun g1 => ?_)
    have h1 := dT g1
    refine Es <| Lq (Bq (m := 0) rfl Dv Bh rfl rfl (by omega) rfl) rfl <| AB (AK rfl Bh rfl rfl rfl rfl rfl rfl) rfl rfl <| Ld <| Es <| qm rfl ?_
    refine Lq (At (a := 1) (b := 3) rfl u_3 rfl rfl (by first | assumption | omega | (simp only [LL]; omega))) rfl ?_
    refine Lq (AO rfl Dv Bh rfl rfl rfl rfl) rfl <| Lo (B9 rfl Dt u_9 ib_5 rfl rfl) rfl <| qa rfl <| Ld ?_
    refine Aa (Er rfl ?_)
    rotate_left
    have h1 := dF g1
    refine Ac <| Es <| qm rfl ?_
    refine Lq (At (a := 1) (b := 3) rfl u_3 rfl rfl (by first | assumption | omega | (simp only [LL]; omega))) rfl ?_
    refine Lq (AO rfl Dv Bh rfl rfl rfl rfl) rfl <| Lo (B9 rfl Dt u_9 ib_5 rfl rfl) rfl <| qa rfl <| Ld ?_
    refine Aa (Er rfl ?_)
    rotate_left
   ·rw [hv, if_pos h1]
    show AV.str _ = AV.str _
    simp only [digV, List.nil_append, List.cons_append, Int.toNat_natCast, dig0, dig1]
    refine congrArg AV.str <| Fe rfl ?_
    repeat refine Fe (congrArg UInt8.ofNat (by omega)) ?_
    all_goals rfl
   ·rw [hv, if_neg h1]
    show AV.str _ = AV.str _
    simp only [digV, List.nil_append, List.cons_append, Int.toNat_natCast, dig0, dig1]
    refine congrArg AV.str ?_
    repeat refine Fe (congrArg UInt8.ofNat (by omega)) ?_
    all_goals rfl
  ·refine Lq (AO rfl Dv Bh rfl rfl rfl rfl) rfl ?_
   refine qm rfl <| D4 (fn := Tryz.f166) (by kernel_rfl) (by kernel_rfl) rfl rfl rfl rfl rfl rfl rfl rfl rfl rfl rfl <| Es <| qm rfl <| Lq (D3 rfl rfl rfl rfl Dt rfl) rfl <| qa rfl <| Ld <| Ab ?_
   refine Ai ?_
   refine Aw (fun _ : Unit => ([(4, .int .i64 (4 : Nat)), (1, .int .u64 (m : Nat)), (0, .slice 0 1 4 1 (some 23))], mkS 1 1 [] [(0, some (.cells (List.replicate 24 (.int .u8 0)) 259 false))])) (fun _ => 0) (fun _ => True) () trivial rfl (by (refine Am.Ap ?_; repeat (first | exact trivial | refine ⟨rfl, ?_⟩))) ?_
   intro _ _
   focus
    refine Ab <| Es <| qm rfl <| Lq (o2 u_3 rfl rfl) rfl <| Ld <| An rfl rfl <| A5 <| AX rfl ?_
    refine Es <| qm rfl <| Lq (Eg rfl E0 AR rfl rfl (by omega)) rfl <| qa rfl <| Ld <| Ab <| Es <| qm rfl ?_
    refine Lq (o2 u_3 rfl rfl) rfl <| Ld <| Ah rfl rfl <| Es <| qm rfl <| Lq (Dd (b := 10000) rfl AR rfl rfl (by omega)) rfl <| qa rfl <| Ld ?_
    refine Es <| qm rfl <| Lq (De (b := 10000) rfl AR rfl rfl rfl (by omega)) rfl <| qa rfl <| Ld <| Es <| qm rfl <| Lq (De (b := 100) rfl AR rfl rfl rfl (by omega)) rfl ?_
    refine Lq (Df (b := 2) rfl AR rfl rfl rfl (by omega)) rfl <| qm rfl <| Lq (Dd (b := 100) rfl AR rfl rfl (by omega)) rfl <| Lq (Df (b := 2) rfl AR rfl rfl rfl (by omega)) rfl ?_
    iterate 2 refine qa rfl ?_
    refine Ld <| Av (by kernel_rfl) ?_
    iterate 2 refine Nq (om rfl) rfl ?_
    refine Nq (A6 (a := 4) (b := 1) rfl u_3 rfl rfl (by omega)) rfl ?_
    iterate 2 refine Nq (om rfl) rfl ?_
    refine Nq (A6 (a := 4) (b := 2) rfl u_3 rfl rfl (by omega)) rfl <| Nq (om rfl) rfl <| Nq (Bs (b := 1) rfl AR rfl rfl rfl (by omega)) rfl <| Nq (dig8 rfl (by kernel_rfl) rfl (by omega)) rfl <| Nq (om rfl) rfl <| Nq (dig8 rfl (by kernel_rfl) rfl (by omega)) rfl ?_
    refine Nq (Aq (k := 3) rfl Dt Bh rfl rfl (by first | assumption | omega | (simp only [LL]; omega))) rfl ?_
    refine A9 rfl Bh rfl rfl rfl rfl rfl rfl rfl (by kernel_rfl) (by kernel_rfl) (.inl rfl) rfl rfl ?_
    refine Nq (Aq (k := 2) rfl Dt Bh rfl rfl (by first | assumption | omega | (simp only [LL]; omega))) rfl ?_
    refine A9 rfl Bh rfl rfl rfl rfl rfl rfl rfl (by kernel_rfl) (by kernel_rfl) (.inl rfl) rfl rfl <| Ay <| Av (by kernel_rfl) ?_
    iterate 2 refine Nq (om rfl) rfl ?_
    refine Nq (A6 (a := 4) (b := 3) rfl u_3 rfl rfl (by omega)) rfl ?_
    iterate 2 refine Nq (om rfl) rfl ?_
    refine Nq (A6 (a := 4) (b := 4) rfl u_3 rfl rfl (by omega)) rfl <| Nq (om rfl) rfl <| Nq (Bs (b := 1) rfl AR rfl rfl rfl (by omega)) rfl <| Nq (dig8 rfl (by kernel_rfl) rfl (by omega)) rfl <| Nq (om rfl) rfl <| Nq (dig8 rfl (by kernel_rfl) rfl (by omega)) rfl ?_
    refine Nq (Aq (k := 1) rfl Dt Bh rfl rfl (by first | assumption | omega | (simp only [LL]; omega))) rfl ?_
    refine A9 rfl Bh rfl rfl rfl rfl rfl rfl rfl (by kernel_rfl) (by kernel_rfl) (.inl rfl) rfl rfl ?_
    refine Nq (Aq (k := 0) rfl Dt Bh rfl rfl (by first | assumption | omega | (simp only [LL]; omega))) rfl ?_
    refine A9 rfl Bh rfl rfl rfl rfl rfl rfl rfl (by kernel_rfl) (by kernel_rfl) (.inl rfl) rfl rfl <| Ay <| Ao <| qm rfl <| Lq (A6 (a := 4) (b := 4) rfl u_3 rfl rfl (by omega)) rfl <| qa rfl <| Ld <| Ab ?_
    refine Es <| qm rfl <| Lq (o2 u_3 rfl rfl) rfl <| Ld <| An rfl rfl <| Ac <| Es <| qm rfl ?_
    refine Lq (o2 u_3 rfl rfl) rfl <| Ld <| An rfl rfl <| Ac ?_
    refine Ei (Fp rfl rfl rfl rfl ?_)
    refine Ld <| Ab <| Es <| qm rfl <| Lq (o2 u_2 rfl rfl) rfl <| Ld ?_
    refine Ec rfl (fun g1 => ?_) (fun g1 => ?_)
    have h1 := dT g1
    refine Es <| Lq (Bq (m := 0) rfl Dv Bh rfl rfl (by omega) rfl) rfl <| AB (AK rfl Bh rfl rfl rfl rfl rfl rfl) rfl rfl <| Ld <| Es <| qm rfl ?_
    refine Lq (At (a := 1) (b := 4) rfl u_3 rfl rfl (by first | assumption | omega | (simp only [LL]; omega))) rfl ?_
    refine Lq (AO rfl Dv Bh rfl rfl rfl rfl) rfl <| Lo (B9 rfl Dt u_9 ib_5 rfl rfl) rfl <| qa rfl <| Ld ?_
    refine Aa (Er rfl ?_)
    rotate_left
    have h1 := dF g1
    refine Ac <| Es <| qm rfl ?_
    refine Lq (At (a := 1) (b := 4) rfl u_3 rfl rfl (by first | assumption | omega | (simp only [LL]; omega))) rfl ?_
    refine Lq (AO rfl Dv Bh rfl rfl rfl rfl) rfl <| Lo (B9 rfl Dt u_9 ib_5 rfl rfl) rfl <| qa rfl <| Ld ?_
    refine Aa (Er rfl ?_)
    rotate_left
   ·rw [hv, if_pos h1]
    show AV.str _ = AV.str _
    simp only [digV, List.nil_append, List.cons_append, Int.toNat_natCast, dig0, dig1]
    refine congrArg AV.str <| Fe rfl ?_
    repeat refine Fe (congrArg UInt8.ofNat (by omega)) ?_
    all_goals rfl
   ·rw [hv, if_neg h1]
    show AV.str _ = AV.str _
    simp only [digV, List.nil_append, List.cons_append, Int.toNat_natCast, dig0, dig1]
    refine congrArg AV.str ?_
    repeat refine Fe (congrArg UInt8.ofNat (by omega)) ?_
    all_goals rfl
  ·refine Lq (AO rfl Dv Bh rfl rfl rfl rfl) rfl ?_
   refine qm rfl <| D4 (fn := Tryz.f166) (by kernel_rfl) (by kernel_rfl) rfl rfl rfl rfl rfl rfl rfl rfl rfl rfl rfl <| Es <| qm rfl <| Lq (D3 rfl rfl rfl rfl Dt rfl) rfl <| qa rfl <| Ld <| Ab ?_
   refine Ai ?_
   refine Aw (fun _ : Unit => ([(4, .int .i64 (5 : Nat)), (1, .int .u64 (m : Nat)), (0, .slice 0 1 5 1 (some 23))], mkS 1 1 [] [(0, some (.cells (List.replicate 24 (.int .u8 0)) 259 false))])) (fun _ => 0) (fun _ => True) () trivial rfl (by (refine Am.Ap ?_; repeat (first | exact trivial | refine ⟨rfl, ?_⟩))) ?_
   intro _ _
   focus
    refine Ab <| Es <| qm rfl <| Lq (o2 u_3 rfl rfl) rfl <| Ld <| An rfl rfl <| A5 <| AX rfl ?_
    refine Es <| qm rfl <| Lq (Eg rfl E0 AR rfl rfl (by omega)) rfl <| qa rfl <| Ld <| Ab <| Es <| qm rfl ?_
    refine Lq (o2 u_3 rfl rfl) rfl <| Ld <| Ah rfl rfl <| Es <| qm rfl <| Lq (Dd (b := 10000) rfl AR rfl rfl (by omega)) rfl <| qa rfl <| Ld ?_
    refine Es <| qm rfl <| Lq (De (b := 10000) rfl AR rfl rfl rfl (by omega)) rfl <| qa rfl <| Ld <| Es <| qm rfl <| Lq (De (b := 100) rfl AR rfl rfl rfl (by omega)) rfl ?_
    refine Lq (Df (b := 2) rfl AR rfl rfl rfl (by omega)) rfl <| qm rfl <| Lq (Dd (b := 100) rfl AR rfl rfl (by omega)) rfl <| Lq (Df (b := 2) rfl AR rfl rfl rfl (by omega)) rfl ?_
    iterate 2 refine qa rfl ?_
    refine Ld <| Av (by kernel_rfl) ?_
    iterate 2 refine Nq (om rfl) rfl ?_
    refine Nq (A6 (a := 5) (b := 1) rfl u_3 rfl rfl (by omega)) rfl ?_
    iterate 2 refine Nq (om rfl) rfl ?_
    refine Nq (A6 (a := 5) (b := 2) rfl u_3 rfl rfl (by omega)) rfl <| Nq (om rfl) rfl <| Nq (Bs (b := 1) rfl AR rfl rfl rfl (by omega)) rfl <| Nq (dig8 rfl (by kernel_rfl) rfl (by omega)) rfl <| Nq (om rfl) rfl <| Nq (dig8 rfl (by kernel_rfl) rfl (by omega)) rfl ?_
    refine Nq (Aq (k := 4) rfl Dt Bh rfl rfl (by first | assumption | omega | (simp only [LL]; omega))) rfl ?_
    refine A9 rfl Bh rfl rfl rfl rfl rfl rfl rfl (by kernel_rfl) (by kernel_rfl) (.inl rfl) rfl rfl ?_
    refine Nq (Aq (k := 3) rfl Dt Bh rfl rfl (by first | assumption | omega | (simp only [LL]; omega))) rfl ?_
    refine A9 rfl Bh rfl rfl rfl rfl rfl rfl rfl (by kernel_rfl) (by kernel_rfl) (.inl rfl) rfl rfl <| Ay <| Av (by kernel_rfl) ?_
    iterate 2 refine Nq (om rfl) rfl ?_
    refine Nq (A6 (a := 5) (b := 3) rfl u_3 rfl rfl (by omega)) rfl ?_
    iterate 2 refine Nq (om rfl) rfl ?_
    refine Nq (A6 (a := 5) (b := 4) rfl u_3 rfl rfl (by omega)) rfl <| Nq (om rfl) rfl <| Nq (Bs (b := 1) rfl AR rfl rfl rfl (by omega)) rfl <| Nq (dig8 rfl (by kernel_rfl) rfl (by omega)) rfl <| Nq (om rfl) rfl <| Nq (dig8 rfl (by kernel_rfl) rfl (by omega)) rfl ?_
    refine Nq (Aq (k := 2) rfl Dt Bh rfl rfl (by first | assumption | omega | (simp only [LL]; omega))) rfl ?_
    refine A9 rfl Bh rfl rfl rfl rfl rfl rfl rfl (by kernel_rfl) (by kernel_rfl) (.inl rfl) rfl rfl ?_
    refine Nq (Aq (k := 1) rfl Dt Bh rfl rfl (by first | assumption | omega | (simp only [LL]; omega))) rfl ?_
    refine A9 rfl Bh rfl rfl rfl rfl rfl rfl rfl (by kernel_rfl) (by kernel_rfl) (.inl rfl) rfl rfl <| Ay <| Ao <| qm rfl <| Lq (A6 (a := 5) (b := 4) rfl u_3 rfl rfl (by omega)) rfl <| qa rfl <| Ld <| Ab ?_
    refine Es <| qm rfl <| Lq (o2 u_3 rfl rfl) rfl <| Ld <| An rfl rfl <| Ac <| Es <| qm rfl ?_
    refine Lq (o2 u_3 rfl rfl) rfl <| Ld <| Ah rfl rfl <| Ao ?_
    iterate 2 refine qm rfl ?_
    refine Lq (Bs (a := 48) rfl AR rfl rfl rfl (by omega)) rfl <| Lq (DD rfl AR u_5 rfl (by omega)) rfl ?_
    refine Lq (Aq (k := 0) rfl Dt Bh rfl rfl (by first | assumption | omega | (simp only [LL]; omega))) rfl ?_
    refine AB (AK rfl Bh rfl rfl rfl rfl rfl rfl) rfl rfl <| Ld ?_
    refine Ei (Fp rfl rfl rfl rfl ?_)
    refine Ld <| Ab <| Es <| qm rfl <| Lq (o2 u_2 rfl rfl) rfl <| Ld ?_
    refine Ec rfl (fun g1 => ?_) (fun g1 => ?_)
    have h1 := dT g1
    refine Es <| Lq (Bq (m := 0) rfl Dv Bh rfl rfl (by omega) rfl) rfl <| AB (AK rfl Bh rfl rfl rfl rfl rfl rfl) rfl rfl <| Ld <| Es <| qm rfl ?_
    refine Lq (At (a := 1) (b := 5) rfl u_3 rfl rfl (by first | assumption | omega | (simp only [LL]; omega))) rfl ?_
    refine Lq (AO rfl Dv Bh rfl rfl rfl rfl) rfl <| Lo (B9 rfl Dt u_9 ib_5 rfl rfl) rfl <| qa rfl <| Ld ?_
    refine Aa (Er rfl ?_)
    rotate_left
    have h1 := dF g1
    refine Ac <| Es <| qm rfl ?_
    refine Lq (At (a := 1) (b := 5) rfl u_3 rfl rfl (by first | assumption | omega | (simp only [LL]; omega))) rfl ?_
    refine Lq (AO rfl Dv Bh rfl rfl rfl rfl) rfl <| Lo (B9 rfl Dt u_9 ib_5 rfl rfl) rfl <| qa rfl <| Ld ?_
    refine Aa (Er rfl ?_)
    rotate_left
   ·rw [hv, if_pos h1]
    show AV.str _ = AV.str _
    simp only [digV, List.nil_append, List.cons_append, Int.toNat_natCast, dig0, dig1]
    refine congrArg AV.str <| Fe rfl ?_
    repeat refine Fe (congrArg UInt8.ofNat (by omega)) ?_
    all_goals rfl
   ·rw [hv, if_neg h1]
    show AV.str _ = AV.str _
    simp only [digV, List.nil_append, List.cons_append, Int.toNat_natCast, dig0, dig1]
    refine congrArg AV.str ?_
    repeat refine Fe (congrArg UInt8.ofNat (by omega)) ?_
    all_goals rfl
  ·refine Lq (AO rfl Dv Bh rfl rfl rfl rfl) rfl ?_
   refine qm rfl <| D4 (fn := Tryz.f166) (by kernel_rfl) (by kernel_rfl) rfl rfl rfl rfl rfl rfl rfl rfl rfl rfl rfl <| Es <| qm rfl <| Lq (D3 rfl rfl rfl rfl Dt rfl) rfl <| qa rfl <| Ld <| Ab ?_
   refine Ai ?_
   refine Aw (fun _ : Unit => ([(4, .int .i64 (6 : Nat)), (1, .int .u64 (m : Nat)), (0, .slice 0 1 6 1 (some 23))], mkS 1 1 [] [(0, some (.cells (List.replicate 24 (.int .u8 0)) 259 false))])) (fun _ => 0) (fun _ => True) () trivial rfl (by (refine Am.Ap ?_; repeat (first | exact trivial | refine ⟨rfl, ?_⟩))) ?_
   intro _ _
   focus
    refine Ab <| Es <| qm rfl <| Lq (o2 u_3 rfl rfl) rfl <| Ld <| An rfl rfl <| A5 <| AX rfl ?_
    refine Es <| qm rfl <| Lq (Eg rfl E0 AR rfl rfl (by omega)) rfl <| qa rfl <| Ld <| Ab <| Es <| qm rfl ?_
    refine Lq (o2 u_3 rfl rfl) rfl <| Ld <| Ah rfl rfl <| Es <| qm rfl <| Lq (Dd (b := 10000) rfl AR rfl rfl (by omega)) rfl <| qa rfl <| Ld ?_
    refine Es <| qm rfl <| Lq (De (b := 10000) rfl AR rfl rfl rfl (by omega)) rfl <| qa rfl <| Ld <| Es <| qm rfl <| Lq (De (b := 100) rfl AR rfl rfl rfl (by omega)) rfl ?_
    refine Lq (Df (b := 2) rfl AR rfl rfl rfl (by omega)) rfl <| qm rfl <| Lq (Dd (b := 100) rfl AR rfl rfl (by omega)) rfl <| Lq (Df (b := 2) rfl AR rfl rfl rfl (by omega)) rfl ?_
    iterate 2 refine qa rfl ?_
    refine Ld <| Av (by kernel_rfl) ?_
    iterate 2 refine Nq (om rfl) rfl ?_
    refine Nq (A6 (a := 6) (b := 1) rfl u_3 rfl rfl (by omega)) rfl ?_
    iterate 2 refine Nq (om rfl) rfl ?_
    refine Nq (A6 (a := 6) (b := 2) rfl u_3 rfl rfl (by omega)) rfl <| Nq (om rfl) rfl <| Nq (Bs (b := 1) rfl AR rfl rfl rfl (by omega)) rfl <| Nq (dig8 rfl (by kernel_rfl) rfl (by omega)) rfl <| Nq (om rfl) rfl <| Nq (dig8 rfl (by kernel_rfl) rfl (by omega)) rfl ?_
    refine Nq (Aq (k := 5) rfl Dt Bh rfl rfl (by first | assumption | omega | (simp only [LL]; omega))) rfl ?_
    refine A9 rfl Bh rfl rfl rfl rfl rfl rfl rfl (by kernel_rfl) (by kernel_rfl) (.inl rfl) rfl rfl ?_
    refine Nq (Aq (k := 4) rfl Dt Bh rfl rfl (by first | assumption | omega | (simp only [LL]; omega))) rfl ?_
    refine A9 rfl Bh rfl rfl rfl rfl rfl rfl rfl (by kernel_rfl) (by kernel_rfl) (.inl rfl) rfl rfl <| Ay <| Av (by kernel_rfl) ?_
    iterate 2 refine Nq (om rfl) rfl ?_
    refine Nq (A6 (a := 6) (b := 3) rfl u_3 rfl rfl (by omega)) rfl ?_
    iterate 2 refine Nq (om rfl) rfl ?_
    refine Nq (A6 (a := 6) (b := 4) rfl u_3 rfl rfl (by omega)) rfl <| Nq (om rfl) rfl <| Nq (Bs (b := 1) rfl AR rfl rfl rfl (by omega)) rfl <| Nq (dig8 rfl (by kernel_rfl) rfl (by omega)) rfl <| Nq (om rfl) rfl <| Nq (dig8 rfl (by kernel_rfl) rfl (by omega)) rfl ?_
    refine Nq (Aq (k := 3) rfl Dt Bh rfl rfl (by first | assumption | omega | (simp only [LL]; omega))) rfl ?_
    refine A9 rfl Bh rfl rfl rfl rfl rfl rfl rfl (by kernel_rfl) (by kernel_rfl) (.inl rfl) rfl rfl ?_
    refine Nq (Aq (k := 2) rfl Dt Bh rfl rfl (by first | assumption | omega | (simp only [LL]; omega))) rfl ?_
    refine A9 rfl Bh rfl rfl rfl rfl rfl rfl rfl (by kernel_rfl) (by kernel_rfl) (.inl rfl) rfl rfl <| Ay <| Ao <| qm rfl <| Lq (A6 (a := 6) (b := 4) rfl u_3 rfl rfl (by omega)) rfl <| qa rfl <| Ld <| Ab ?_
    refine Es <| qm rfl <| Lq (o2 u_3 rfl rfl) rfl <| Ld <| Ah rfl rfl <| Es <| qm rfl <| Lq (Dd (b := 100) rfl AR rfl rfl (by omega)) rfl ?_
    refine Lq (Df (b := 2) rfl AR rfl rfl rfl (by omega)) rfl <| qa rfl <| Ld <| Es <| qm rfl <| Lq (De (b := 100) rfl AR rfl rfl rfl (by omega)) rfl <| qa rfl <| Ld ?_
    refine Av (by kernel_rfl) ?_
    iterate 2 refine Nq (om rfl) rfl ?_
    refine Nq (A6 (a := 2) (b := 1) rfl u_3 rfl rfl (by omega)) rfl ?_
    iterate 2 refine Nq (om rfl) rfl ?_
    refine Nq (A6 (a := 2) (b := 2) rfl u_3 rfl rfl (by omega)) rfl <| Nq (om rfl) rfl <| Nq (Bs (b := 1) rfl AR rfl rfl rfl (by omega)) rfl <| Nq (dig8 rfl (by kernel_rfl) rfl (by omega)) rfl <| Nq (om rfl) rfl <| Nq (dig8 rfl (by kernel_rfl) rfl (by omega)) rfl ?_
    refine Nq (Aq (k := 1) rfl Dt Bh rfl rfl (by first | assumption | omega | (simp only [LL]; omega))) rfl ?_
    refine A9 rfl Bh rfl rfl rfl rfl rfl rfl rfl (by kernel_rfl) (by kernel_rfl) (.inl rfl) rfl rfl ?_
    refine Nq (Aq (k := 0) rfl Dt Bh rfl rfl (by first | assumption | omega | (simp only [LL]; omega))) rfl ?_
    refine A9 rfl Bh rfl rfl rfl rfl rfl rfl rfl (by kernel_rfl) (by kernel_rfl) (.inl rfl) rfl rfl <| Ay <| Ao <| qm rfl <| Lq (A6 (a := 2) (b := 2) rfl u_3 rfl rfl (by omega)) rfl <| qa rfl <| Ld <| Es ?_
    refine qm rfl <| Lq (o2 u_3 rfl rfl) rfl <| Ld <| An rfl rfl <| Ac ?_
    refine Ei (Fp rfl rfl rfl rfl ?_)
    refine Ld <| Ab <| Es <| qm rfl <| Lq (o2 u_2 rfl rfl) rfl <| Ld ?_
    refine Ec rfl (fun g1 => ?_) (fun g1 => ?_)
    have h1 := dT g1
    refine Es <| Lq (Bq (m := 0) rfl Dv Bh rfl rfl (by omega) rfl) rfl <| AB (AK rfl Bh rfl rfl rfl rfl rfl rfl) rfl rfl <| Ld <| Es <| qm rfl ?_
    refine Lq (At (a := 1) (b := 6) rfl u_3 rfl rfl (by first | assumption | omega | (simp only [LL]; omega))) rfl ?_
    refine Lq (AO rfl Dv Bh rfl rfl rfl rfl) rfl <| Lo (B9 rfl Dt u_9 ib_5 rfl rfl) rfl <| qa rfl <| Ld ?_
    refine Aa (Er rfl ?_)
    rotate_left
    have h1 := dF g1
    refine Ac <| Es <| qm rfl ?_
    refine Lq (At (a := 1) (b := 6) rfl u_3 rfl rfl (by first | assumption | omega | (simp only [LL]; omega))) rfl ?_
    refine Lq (AO rfl Dv Bh rfl rfl rfl rfl) rfl <| Lo (B9 rfl Dt u_9 ib_5 rfl rfl) rfl <| qa rfl <| Ld ?_
    refine Aa (Er rfl ?_)
    rotate_left
   ·rw [hv, if_pos h1]
    show AV.str _ = AV.str _
    simp only [digV, List.nil_append, List.cons_append, Int.toNat_natCast, dig0, dig1]
    refine congrArg AV.str <| Fe rfl ?_
    repeat refine Fe (congrArg UInt8.ofNat (by omega)) ?_
    all_goals rfl
   ·rw [hv, if_neg h1]
    show AV.str _ = AV.str _
    simp only [digV, List.nil_append, List.cons_append, Int.toNat_natCast, dig0, dig1]
    refine congrArg AV.str ?_
    repeat refine Fe (congrArg UInt8.ofNat (by omega)) ?_
    all_goals rfl
  ·refine Lq (AO rfl Dv Bh rfl rfl rfl rfl) rfl ?_
   refine qm rfl <| D4 (fn := Tryz.f166) (by kernel_rfl) (by kernel_rfl) rfl rfl rfl rfl rfl rfl rfl rfl rfl rfl rfl <| Es <| qm rfl <| Lq (D3 rfl rfl rfl rfl Dt rfl) rfl <| qa rfl <| Ld <| Ab ?_
   refine Ai ?_
   refine Aw (fun _ : Unit => ([(4, .int .i64 (7 : Nat)), (1, .int .u64 (m : Nat)), (0, .slice 0 1 7 1 (some 23))], mkS 1 1 [] [(0, some (.cells (List.replicate 24 (.int .u8 0)) 259 false))])) (fun _ => 0) (fun _ => True) () trivial rfl (by (refine Am.Ap ?_; repeat (first | exact trivial | refine ⟨rfl, ?_⟩))) ?_
   intro _ _
   focus
    refine Ab <| Es <| qm rfl <| Lq (o2 u_3 rfl rfl) rfl <| Ld <| An rfl rfl <| A5 <| AX rfl ?_
    refine Es <| qm rfl <| Lq (Eg rfl E0 AR rfl rfl (by omega)) rfl <| qa rfl <| Ld <| Ab <| Es <| qm rfl ?_
    refine Lq (o2 u_3 rfl rfl) rfl <| Ld <| Ah rfl rfl <| Es <| qm rfl <| Lq (Dd (b := 10000) rfl AR rfl rfl (by omega)) rfl <| qa rfl <| Ld ?_
    refine Es <| qm rfl <| Lq (De (b := 10000) rfl AR rfl rfl rfl (by omega)) rfl <| qa rfl <| Ld <| Es <| qm rfl <| Lq (De (b := 100) rfl AR rfl rfl rfl (by omega)) rfl ?_
    refine Lq (Df (b := 2) rfl AR rfl rfl rfl (by omega)) rfl <| qm rfl <| Lq (Dd (b := 100) rfl AR rfl rfl (by omega)) rfl <| Lq (Df (b := 2) rfl AR rfl rfl rfl (by omega)) rfl ?_
    iterate 2 refine qa rfl ?_
    refine Ld <| Av (by kernel_rfl) ?_
    iterate 2 refine Nq (om rfl) rfl ?_
    refine Nq (A6 (a := 7) (b := 1) rfl u_3 rfl rfl (by omega)) rfl ?_
    iterate 2 refine Nq (om rfl) rfl ?_
    refine Nq (A6 (a := 7) (b := 2) rfl u_3 rfl rfl (by omega)) rfl <| Nq (om rfl) rfl <| Nq (Bs (b := 1) rfl AR rfl rfl rfl (by omega)) rfl <| Nq (dig8 rfl (by kernel_rfl) rfl (by omega)) rfl <| Nq (om rfl) rfl <| Nq (dig8 rfl (by kernel_rfl) rfl (by omega)) rfl ?_
    refine Nq (Aq (k := 6) rfl Dt Bh rfl rfl (by first | assumption | omega | (simp only [LL]; omega))) rfl ?_
    refine A9 rfl Bh rfl rfl rfl rfl rfl rfl rfl (by kernel_rfl) (by kernel_rfl) (.inl rfl) rfl rfl ?_
    refine Nq (Aq (k := 5) rfl Dt Bh rfl rfl (by first | assumption | omega | (simp only [LL]; omega))) rfl ?_
    refine A9 rfl Bh rfl rfl rfl rfl rfl rfl rfl (by kernel_rfl) (by kernel_rfl) (.inl rfl) rfl rfl <| Ay <| Av (by kernel_rfl) ?_
    iterate 2 refine Nq (om rfl) rfl ?_
    refine Nq (A6 (a := 7) (b := 3) rfl u_3 rfl rfl (by omega)) rfl ?_
    iterate 2 refine Nq (om rfl) rfl ?_
    refine Nq (A6 (a := 7) (b := 4) rfl u_3 rfl rfl (by omega)) rfl <| Nq (om rfl) rfl <| Nq (Bs (b := 1) rfl AR rfl rfl rfl (by omega)) rfl <| Nq (dig8 rfl (by kernel_rfl) rfl (by omega)) rfl <| Nq (om rfl) rfl <| Nq (dig8 rfl (by kernel_rfl) rfl (by omega)) rfl ?_
    refine Nq (Aq (k := 4) rfl Dt Bh rfl rfl (by first | assumption | omega | (simp only [LL]; omega))) rfl ?_
    refine A9 rfl Bh rfl rfl rfl rfl rfl rfl rfl (by kernel_rfl) (by kernel_rfl) (.inl rfl) rfl rfl ?_
    refine Nq (Aq (k := 3) rfl Dt Bh rfl rfl (by first | assumption | omega | (simp only [LL]; omega))) rfl ?_
    refine A9 rfl Bh rfl rfl rfl rfl rfl rfl rfl (by kernel_rfl) (by kernel_rfl) (.inl rfl) rfl rfl <| Ay <| Ao <| qm rfl <| Lq (A6 (a := 7) (b := 4) rfl u_3 rfl rfl (by omega)) rfl <| qa rfl <| Ld <| Ab ?_
    refine Es <| qm rfl <| Lq (o2 u_3 rfl rfl) rfl <| Ld <| Ah rfl rfl <| Es <| qm rfl <| Lq (Dd (b := 100) rfl AR rfl rfl (by omega)) rfl ?_
    refine Lq (Df (b := 2) rfl AR rfl rfl rfl (by omega)) rfl <| qa rfl <| Ld <| Es <| qm rfl <| Lq (De (b := 100) rfl AR rfl rfl rfl (by omega)) rfl <| qa rfl <| Ld ?_
    refine Av (by kernel_rfl) ?_
    iterate 2 refine Nq (om rfl) rfl ?_
    refine Nq (A6 (a := 3) (b := 1) rfl u_3 rfl rfl (by omega)) rfl ?_
    iterate 2 refine Nq (om rfl) rfl ?_
    refine Nq (A6 (a := 3) (b := 2) rfl u_3 rfl rfl (by omega)) rfl <| Nq (om rfl) rfl <| Nq (Bs (b := 1) rfl AR rfl rfl rfl (by omega)) rfl <| Nq (dig8 rfl (by kernel_rfl) rfl (by omega)) rfl <| Nq (om rfl) rfl <| Nq (dig8 rfl (by kernel_rfl) rfl (by omega)) rfl ?_
    refine Nq (Aq (k := 2) rfl Dt Bh rfl rfl (by first | assumption | omega | (simp only [LL]; omega))) rfl ?_
    refine A9 rfl Bh rfl rfl rfl rfl rfl rfl rfl (by kernel_rfl) (by kernel_rfl) (.inl rfl) rfl rfl ?_
    refine Nq (Aq (k := 1) rfl Dt Bh rfl rfl (by first | assumption | omega | (simp only [LL]; omega))) rfl ?_
    refine A9 rfl Bh rfl rfl rfl rfl rfl rfl rfl (by kernel_rfl) (by kernel_rfl) (.inl rfl) rfl rfl <| Ay <| Ao <| qm rfl <| Lq (A6 (a := 3) (b := 2) rfl u_3 rfl rfl (by omega)) rfl <| qa rfl <| Ld <| Es ?_
    refine qm rfl <| Lq (o2 u_3 rfl rfl) rfl <| Ld <| Ah rfl rfl <| Ao ?_
    iterate 2 refine qm rfl ?_
    refine Lq (Bs (a := 48) rfl AR rfl rfl rfl (by omega)) rfl <| Lq (DD rfl AR u_5 rfl (by omega)) rfl ?_
    refine Lq (Aq (k := 0) rfl Dt Bh rfl rfl (by first | assumption | omega | (simp only [LL]; omega))) rfl ?_
    refine AB (AK rfl Bh rfl rfl rfl rfl rfl rfl) rfl rfl <| Ld ?_
    refine Ei (Fp rfl rfl rfl rfl ?_)
    refine Ld <| Ab <| Es <| qm rfl <| Lq (o2 u_2 rfl rfl) rfl <| Ld ?_
    refine Ec rfl (fun g1 => ?_) (fun g1 => ?_)
    have h1 := dT g1
    refine Es <| Lq (Bq (m := 0) rfl Dv Bh rfl rfl (by omega) rfl) rfl <| AB (AK rfl Bh rfl rfl rfl rfl rfl rfl) rfl rfl <| Ld <| Es <| qm rfl ?_
    refine Lq (At (a := 1) (b := 7) rfl u_3 rfl rfl (by first | assumption | omega | (simp only [LL]; omega))) rfl ?_
    refine Lq (AO rfl Dv Bh rfl rfl rfl rfl) rfl <| Lo (B9 rfl Dt u_9 ib_5 rfl rfl) rfl <| qa rfl <| Ld ?_
    refine Aa (Er rfl ?_)
    rotate_left
    have h1 := dF g1
    refine Ac <| Es <| qm rfl ?_
    refine Lq (At (a := 1) (b := 7) rfl u_3 rfl rfl (by first | assumption | omega | (simp only [LL]; omega))) rfl ?_
    refine Lq (AO rfl Dv Bh rfl rfl rfl rfl) rfl <| Lo (B9 rfl Dt u_9 ib_5 rfl rfl) rfl <| qa rfl <| Ld ?_
    refine Aa (Er rfl ?_)
    rotate_left
   ·rw [hv, if_pos h1]
    show AV.str _ = AV.str _
    simp only [digV, List.nil_append, List.cons_append, Int.toNat_natCast, dig0, dig1]
    refine congrArg AV.str <| Fe rfl ?_
    repeat refine Fe (congrArg UInt8.ofNat (by omega)) ?_
    all_goals rfl
   ·rw [hv, if_neg h1]
    show AV.str _ = AV.str _
    simp only [digV, List.nil_append, List.cons_append, Int.toNat_natCast, dig0, dig1]
    refine congrArg AV.str ?_
    repeat refine Fe (congrArg UInt8.ofNat (by omega)) ?_
    all_goals rfl
abbrev NumT := { n : Int // -10000000 < n ∧ n < 10000000 }
noncomputable def KL4 := addC KL3 128 (fun p : NumT=>[.int .i64 p.1,.int .i64 10]) (fun p=>.str (itoaV p.1))
theorem hit_128 {n : Int} (h : -10000000 < n ∧ n < 10000000) : KL4 128 [.int .i64 n, .int .i64 10] = some (.str (itoaV n)) :=
 AD (f := 128) (enc := fun p : NumT => [.int .i64 p.1, .int .i64 10]) (res := fun p => .str (itoaV p.1)) (fun p q h => by rw [(AV.int.inj (List.cons.inj h).1).2]) ⟨n, h⟩
theorem gall4 (h : KnownF Tryz.prog 10 [] (.bool true)) : KnownGs Tryz.prog gl0 KL4 :=
 Db AE BA (gall3 h) (fun p : NumT => fmt_to p.1 p.2) (fun _ => rfl) (fun _ => rfl)
theorem itoa1_to (n : Int) (h0 : -10000000 < n ∧ n < 10000000) : CallTo (EK KL4) 52 [.int .i64 n] S0 (.str (itoaV n)) := by
 refine Ax (fn := Tryz.f52) rfl rfl (by kernel_rfl) rfl rfl rfl rfl <| Es <| qa rfl <| Ld <| Es <| qm rfl <| D4 (fn := Tryz.f93) (by kernel_rfl) (by kernel_rfl) rfl rfl rfl rfl rfl rfl rfl rfl rfl rfl rfl <| Es ?_
 refine qa rfl <| Ld <| Es <| qm rfl ?_
 refine Lo (Ag rfl rfl (by kernel_rfl) rfl (Ae (hit_128 (by first | assumption | omega | (simp only [LL]; omega))))) rfl ?_
 refine qa rfl <| Ld ?_
 refine Aa (DE rfl (As rfl rfl) rfl rfl rfl rfl ?_)
 refine qa rfl <| Ld ?_
 refine Aa (Er rfl ?_)
 rfl
noncomputable def KL5 := addC KL4 52 (fun p : NumT=>[.int .i64 p.1]) (fun p=>.str (itoaV p.1))
theorem hit_52 {n : Int} (h : -10000000 < n ∧ n < 10000000) : KL5 52 [.int .i64 n] = some (.str (itoaV n)) :=
 AD (f := 52) (enc := fun p : NumT => [.int .i64 p.1]) (res := fun p => .str (itoaV p.1)) (fun p q h => by rw [(AV.int.inj (List.cons.inj h).1).2]) ⟨n, h⟩
theorem gall5 (h : KnownF Tryz.prog 10 [] (.bool true)) : KnownGs Tryz.prog gl0 KL5 :=
 Db AE BA (gall4 h) (fun p : NumT => itoa1_to p.1 p.2) (fun _ => rfl) (fun _ => rfl)
class BldT (e : TypeId) : Prop where
 ok : e = 102 ∨ e = 104
instance : BldT 102 := ⟨.inl rfl⟩
instance : BldT 104 := ⟨.inr rfl⟩
section
variable {K : FuncId → List AV → Option AV} {e0 : TypeId} [BldT e0]
theorem Fd (hK : K 126 = fun _ => none) {s : St} {b0 : Nat} {a v : AV} (hg : s.heap.get b0 = some (.cells [a, v] e0 false)) (ha : a = .nilptr ∨ a = .ptr b0 0) (hn : b0 < s.next) {R : AV → St → Prop}
  (hR : ∀ s', Chg s s' (fun c => c = b0) → s'.next = s.next → s'.heap.get b0 = some (.cells [.ptr b0 0, v] e0 false) → (b0 < s.bound → s'.log ≠ [] ∨ a = .ptr b0 0) → (s.bound ≤ s.next → Loggd s s') → R (.tuple []) s') : RunsV (EK K) 126 [.ptr b0 0] s R := by
 refine RunsV.unit (fn := Tryz.f126) (by show K 126 _ = none; rw [hK]) (by kernel_rfl) rfl rfl rfl rfl ?_
 have hg' : s.enter.heap.get b0 = some (.cells [a, v] e0 false) := hg
 rcases ha with rfl | rfl
 ·refine Es ?_
  refine qm rfl <| Lq (AF rfl rfl rfl) rfl <| Lq (of f_102_0 rfl) rfl <| Lo (A8 rfl rfl (Al ag_100 sz_100 ‹_› rfl)) rfl <| Lo (OpL.eqPtr (neg := false) rfl u_100 sz_102 rfl rfl rfl) rfl <| Ld <| Ah rfl rfl <| Ao ?_
  iterate 2 refine qm rfl ?_
  refine Lo (OpL.toUnsafe rfl u_100 u_257 sz_102 rfl (v := .ptr b0 0) (by show (cellsOf? (s.enter.heap.get b0)).bind _ = _; rw [hg']; rfl)) rfl ?_
  refine Lq (OpQ.same (x := .tmp 9) (by kernel_rfl) rfl) rfl ?_
  refine Lo (OpL.fromUnsafe rfl u_257 u_100 sz_102 rfl (v := .ptr b0 0) (by show fromUnsafeIn _ _ _ _ (s.enter.heap.get b0) = _; rw [hg']; rcases BldT.ok (e := e0) with rfl | rfl <;> kernel_rfl)) rfl ?_
  refine Lq (AF rfl rfl rfl) rfl <| Lq (of f_102_0 rfl) rfl <| AB (Ba rfl sz_100 rfl rfl (AZ ‹_› rfl rfl rfl)) rfl rfl <| Ld ?_
  refine ⟨.inr rfl, rfl, fun h => absurd h (EA (s := s.enter) hn), hR _ (Chg.put (s := s.enter)).back rfl ?_ ?_ fun h => Loggd.put.back h⟩
  ·show (s.enter.put b0 _).heap.get b0 = _
   rw [AS, if_pos rfl]
  ·intro hb
   refine .inl ?_
   have hbl : Nat.blt b0 s.next = true := Qd hn
   have hbb : Nat.blt b0 s.bound = true := Qd hb
   show below s.bound (bif Nat.blt b0 s.next then [b0] else []) s.log ≠ []
   rw [hbl]
   show (bif Nat.blt b0 s.bound then b0 :: s.log else s.log) ≠ []
   rw [hbb]
   simp
 ·refine Es ?_
  refine qm rfl <| Lq (AF rfl rfl rfl) rfl <| Lq (of f_102_0 rfl) rfl <| Lo (A8 rfl rfl (Al ag_100 sz_100 ‹_› rfl)) rfl <| Lo (OpL.eqPtr (neg := false) rfl u_100 sz_102 rfl rfl rfl) rfl <| Ld <| An rfl rfl <| Es ?_
  refine qm rfl <| Lq (AF rfl rfl rfl) rfl <| Lq (of f_102_0 rfl) rfl <| Lo (A8 rfl rfl (Al ag_100 sz_100 ‹_› rfl)) rfl <| qm rfl ?_
  refine Lo (OpL.eqPtr (neg := true) rfl u_100 sz_102 rfl rfl (v := .bool false) (by show boolV true (bif Nat.beq b0 b0 then some (Nat.beq 0 0) else _) = _; rw [Nat.beq_refl]; rfl)) rfl ?_
  refine Ld <| An rfl rfl <| Ac ?_
  exact ⟨.inr rfl, rfl, fun _ => hR s ⟨Qj _, rfl, fun _ h => .inl h, fun _ _ _ => rfl⟩ rfl hg (fun _ => .inr rfl) fun _ => Loggd.refl, hR _ ⟨Qj _, rfl, fun _ h => .inl h, fun _ _ _ => rfl⟩ rfl hg (fun _ => .inr rfl) fun h => Loggd.back (st := s.enter) Loggd.refl h⟩
theorem write_run (hK : K 90 = fun _ => none) (hK1 : K 126 = fun _ => none) {s : St} {b0 : Nat} {a v : AV} {w x : List UInt8} (hg : s.heap.get b0 = some (.cells [a, v] e0 false)) (ha : a = .nilptr ∨ a = .ptr b0 0)
  (hn : b0 < s.next) (hv : BufR s 5 v w) (hov : ownB b0 v = false) (hsm : w.length + x.length ≤ 1099511627776) {R : AV → St → Prop}
  (hR : ∀ s' v', Chg s s' (fun c => c = b0 ∨ ownB c v = true) → s'.heap.get b0 = some (.cells [.ptr b0 0, v'] e0 false) → BufR s' 5 v' (w ++ x) → (∀ c, ownB c v' = true → ownB c v = true ∨ s.next ≤ c) → (b0 < s.bound → s'.log ≠ []) → (s.bound ≤ s.next → Loggd s s') → R (.tuple [.int .i64 (x.length : Nat), .niliface]) s') :
  RunsV (EK K) 90 [.ptr b0 0, .str x] s R := by
 refine RunsV.gen (fn := Tryz.f90) (by show K 90 _ = none; rw [hK]) (by kernel_rfl) rfl rfl rfl rfl ?_
 refine Es ?_
 iterate 2 refine qa rfl ?_
 refine Ld <| Es <| qm rfl ?_
 refine AJ rfl rfl (by kernel_rfl) rfl rfl rfl rfl (Fd hK1 (s := s.enter) hg ha hn ?_)
 intro s1 hc1 hn1 hg1 hl1 hL1
 have hv1 : BufR s1 5 v w := hv.keep (s := s.enter) hc1.next fun c hc => hc1.heap c (hv.own hc) fun h => by rw [h, hov] at hc; cases hc
 refine Ld <| Es ?_
 iterate 2 refine qm rfl ?_
 refine Lq (AF rfl rfl rfl) rfl <| Lq (of D0 rfl) rfl <| Lo (A8 rfl rfl (Al ag_52 sz_52 ‹_› rfl)) rfl <| qm rfl ?_
 obtain ⟨v', s2, happ, hb2, hnx2, hbd2, how2, hlg2, hhp2⟩ := hv1.append hsm
 have hg2 : s2.heap.get b0 = some (.cells [.ptr b0 0, v] e0 false) := (hhp2 b0 (by rw [hn1]; exact hn) hov).trans hg1
 refine Lo (OpL.append rfl rfl rfl rfl Dt Bh by_5 z_5 (by kernel_rfl) (by kernel_rfl) rfl rfl (new := byteCells x) (n := x.length) (by show (bif Nat.beq 1 1 then some (byteCells x, len' x) else none) = _; rw [Dg]; rfl) happ) rfl ?_
 have hvt : v'.isTuple = false ∧ v'.cells.length = 1 ∧ over v'.cells (0 + 1) [.ptr b0 0, v] = some [.ptr b0 0, v'] := by
  rcases hb2 with ⟨rfl, _⟩ | ⟨_, rfl, _⟩ | ⟨_, rfl, _⟩ <;> exact ⟨rfl, rfl, rfl⟩
 refine Lq (AF rfl rfl rfl) rfl <| Lq (of D0 rfl) rfl <| AB (Ba rfl sz_52 rfl rfl (AZ hg2 hvt.2.1 hvt.1 hvt.2.2)) rfl rfl <| Ld <| Es <| qm rfl <| Lq (By rfl rfl rfl rfl u_9 rfl) rfl ?_
 iterate 2 refine qa rfl ?_
 refine Ld <| Aa ?_
 have h12 : Chg s1 s2 (fun c => ownB c v = true) := ⟨hnx2, hbd2, hlg2, fun c hc ho => hhp2 c hc (by simpa using ho)⟩
 have h3 := (hc1.trans h12 (own := fun c => c = b0 ∨ ownB c v = true) (fun _ h => .inl h) (fun _ h => .inl (.inr h)) (Qj _)).trans (Chg.put (s := s2) (b := b0) (o := some (.cells [.ptr b0 0, v'] e0 false))) (own := fun c => c = b0 ∨ ownB c v = true) (fun _ h => h) (fun _ h => .inl (.inl h)) (Qj _)
 have hob : ∀ c, ownB c v' = true → c ≠ b0 := fun c hc h => by
  rcases how2 c hc with h1 | h1
  ·rw [h, hov] at h1; cases h1
  ·have : s1.next = s.next := hn1
   omega
 refine ⟨.inl rfl, _, rfl, _, As rfl (As rfl rfl), _, EC rfl (EA (by rw [hbd2, hc1.bound]; exact hn)), hR _ v' h3.back ?_ ?_ ?_ (fun h => back_ne (DA (by rw [hbd2, hc1.bound]; exact hn)) h) fun h => Loggd.back (((hL1 (Qj _)).trans (Fg (by rw [hc1.bound, hn1]; exact Qj _) happ)).trans Loggd.put) h⟩
 ·show (s2.put b0 _).heap.get b0 = _
  rw [AS, if_pos rfl]
 ·exact hb2.keep (Qj _) fun c hc => by
   show (s2.put b0 _).heap.get c = _
   rw [AS, if_neg (hob c hc)]
 ·intro c hc
  refine (how2 c hc).imp id fun h => ?_
  have : s1.next = s.next := hn1
  omega
theorem text_run (hK : K 53 = fun _ => none) {s : St} {b0 : Nat} {a v : AV} {w : List UInt8} (hg : s.heap.get b0 = some (.cells [a, v] e0 false))
  (hn : b0 < s.next) (hv : BufR s 5 v w) (hsm : w.length ≤ 1099511627776) {R : AV → St → Prop} (hR : ∀ s', Chg s s' (fun c => ownB c v = true) → R (.str w) s') :
  RunsV (EK K) 53 [.ptr b0 0] s R := by
 refine RunsV.gen (fn := Tryz.f53) (by show K 53 _ = none; rw [hK]) (by kernel_rfl) rfl rfl rfl rfl ?_
 have hg' : s.enter.heap.get b0 = some (.cells [a, v] e0 false) := hg
 refine Es <| qa rfl <| Ld <| Av (by kernel_rfl) <| Nq (om rfl) rfl <| Nq (AF rfl rfl rfl) rfl <| Nq (of D0 rfl) rfl <| AL rfl rfl (Al ag_52 sz_52 ‹_› rfl) rfl (.inl rfl) rfl rfl ?_
 obtain ⟨d, s2, hd, hraw, hnx, hbd, hlg, hhp, hlen⟩ := (show BufR (s.enter.sub s.enter.heap) 5 v w from hv.keep (Qj _) fun _ _ => rfl).text (E := EK K) ib_5
 refine RegN.qG (OpQ.makeV (f := fun T => (opnd (EK K) (.tmp 6) T).bind dataM) (v := d) (by kernel_rfl) fun T hT => by
  rw [Ak (x := .tmp 6) (v := v) hT rfl]
  show dataM v = _
  unfold dataM
  rw [hd]) (.inl rfl) rfl rfl ?_
 refine Nq (om rfl) rfl <| Nq (AF rfl rfl rfl) rfl <| Nq (of D0 rfl) rfl <| AL rfl rfl (Al ag_52 sz_52 ‹_› rfl) rfl (.inl rfl) rfl rfl <| Nq (D5 rfl rfl rfl rfl Dt rfl ‹_›) rfl ?_
 have hble : Nat.ble w.length 1099511627776 = true := Qd hsm
 have hch : Chg (s.enter.sub s.enter.heap) s2 (fun c => ownB c v = true) := ⟨Nat.le_of_eq hnx.symm, hbd, hlg, fun c _ ho => hhp c (by simpa using ho)⟩
 refine RegN.act (x := opnd (EK K) (.tmp 7)) (f := fun T s => (opnd (EK K) (.tmp 7) T).bind fun a => (opnd (EK K) (.tmp 12) T).bind fun b => (natOf b).bind fun n => bif Nat.ble n 1099511627776 then rawStrV s (EK K) 5 n a else none) (v := .str w) (s2 := s2) (by kernel_rfl)
  (fun T hT => OpTo.act (b := false) (x := opnd (EK K) (.tmp 7)) (f := fun T s => (opnd (EK K) (.tmp 7) T).bind fun a => (opnd (EK K) (.tmp 12) T).bind fun b => (natOf b).bind fun n => bif Nat.ble n 1099511627776 then rawStrV s (EK K) 5 n a else none) (by kernel_rfl) (by
   rw [Ak (x := .tmp 7) (v := d) hT rfl, Ak (x := .tmp 12) (v := .int .i64 (w.length : Nat)) hT rfl]
   have hnat : natOf (.int .i64 (w.length : Nat)) = some w.length := rfl
   simp only [Qe, hnat, hble, cond_true, hraw]))
  (Nat.le_of_eq hnx.symm) (fun c hc => ⟨by
   rcases hlg c hc with h | ⟨h, _⟩
   ·cases h
   ·exact h, rfl⟩) (by kernel_rfl) rfl (.inl rfl) rfl rfl ?_
 refine Nq (oa rfl) rfl <| Ay <| Aa ?_
 exact ⟨.inl rfl, _, rfl, _, rfl, Do rfl (fun _ _ => rfl) (fun _ => rfl) (fun _ => hR s Chg.refl) fun _ => hR _ (Chg.back (Chg.merged hch))⟩
theorem growIn_run (hK : K 163 = fun _ => none) {s : St} {b0 : Nat} {a : AV} {n : Nat} (hg : s.heap.get b0 = some (.cells [a, .nilslice] e0 false)) (hn : b0 < s.next) (h0 : 0 < n) (hsm : n ≤ 1099511627776) {R : AV → St → Prop}
  (hR : ∀ s' v, Chg s s' (fun c => c = b0) → s'.heap.get b0 = some (.cells [a, v] e0 false) → BufR s' 5 v [] → (∀ c, ownB c v = true → s.next ≤ c) → (b0 < s.bound → s'.log ≠ []) → R (.tuple []) s') :
  RunsV (EK K) 163 [.ptr b0 0, .int .i64 (n : Nat)] s R := by
 refine RunsV.gen (fn := Tryz.f163) (by show K 163 _ = none; rw [hK]) (by kernel_rfl) rfl rfl rfl rfl ?_
 have hg' : s.enter.heap.get b0 = some (.cells [a, .nilslice] e0 false) := hg
 refine Av (by kernel_rfl) <| Nq (om rfl) rfl <| Nq (AF rfl rfl rfl) rfl <| Nq (of D0 rfl) rfl <| AL rfl rfl (Al ag_52 sz_52 ‹_› rfl) rfl (.inl rfl) rfl rfl <| Nq (OpQ.cap rfl rfl rfl rfl Dt rfl rfl) rfl ?_
 refine Nq (OpQ.mulN (a := 2) (b := 0) rfl u_3 rfl rfl (by first | assumption | omega | (simp only [LL]; omega))) rfl ?_
 refine Nq (om rfl) rfl ?_
 refine Nq (At (a := 0) rfl u_3 rfl rfl (by first | assumption | omega | (simp only [LL]; omega))) rfl ?_
 rw [show 0 + n = n from Nat.zero_add n]
 have hblt : Nat.blt 0 n = true := Qd h0
 have hble : Nat.ble n 1099511627776 = true := Qd hsm
 refine RegN.make (f := fun T => (opnd (EK K) (.tmp 12) T).bind (noZeroV 5)) (ob := .cells [] 5 true) (g := fun i => .slice i 0 n 1 none) (by kernel_rfl) (fun T hT => by
  rw [Ak (x := .tmp 12) (v := .int .i64 (n : Nat)) hT rfl]
  show (bif Nat.blt 0 n && Nat.ble n 1099511627776 then _ else _) = _
  rw [hblt, hble]; rfl) (.inl rfl) rfl rfl ?_
 have hne : b0 ≠ s.enter.next := Nat.ne_of_lt hn
 have hg2 : (s.enter.alloc (.cells [] 5 true)).heap.get b0 = some (.cells [a, .nilslice] e0 false) := by
  show (s.heap.set s.next _).get b0 = _
  rw [AC, if_neg (show b0 ≠ s.next from hne)]; exact hg
 have hg3 : (s.enter.alloc (.cells [] 5 true)).heap.get s.enter.next = some (.cells [] 5 true) := by
  show (s.heap.set s.next _).get s.next = _
  rw [AC, if_pos rfl]
 refine Nq (om rfl) rfl <| Nq (AF rfl rfl rfl) rfl <| Nq (of D0 rfl) rfl <| AL rfl rfl (Al ag_52 sz_52 hg2 rfl) (clear_ne hne rfl) (.inl rfl) rfl rfl <| Nq (OpQ.lenNil rfl rfl rfl rfl Dt rfl) rfl ?_
 refine RegN.rd (x := opnd (EK K) (.tmp 13)) (f := fun T s => (opnd (EK K) (.tmp 13) T).bind fun a => (opndOC (EK K) none T).bind fun l => (opndOC (EK K) (some (.tmp 18)) T).bind fun h => (opndOC (EK K) none T).bind fun m => sliceSlV s 1 l h m a) (b := s.enter.next) (v := .slice s.enter.next 0 0 1 (some 0)) (by kernel_rfl)
  (fun T hT => Ak (x := .tmp 13) (v := .slice s.enter.next 0 n 1 none) hT rfl) rfl (fun T hT => by
   rw [Ak (x := .tmp 13) (v := .slice s.enter.next 0 n 1 none) hT rfl]
   have h18 : opndOC (EK K) (some (.tmp 18)) T = some (some (.int .i64 ((0 : Nat) : Int))) := opndO_some (Ak (x := .tmp 18) hT rfl)
   have hno : opndOC (EK K) none T = some none := rfl
   simp only [Qe, hno, h18]
   have hcs : cellsOf? (((s.enter.alloc (.cells [] 5 true)).sub (Tr.set .nil s.enter.next ((s.enter.alloc (.cells [] 5 true)).heap.get s.enter.next))).heap.get s.enter.next) = some [] := by
    show cellsOf? ((Tr.set .nil s.enter.next ((s.enter.alloc (.cells [] 5 true)).heap.get s.enter.next)).get s.enter.next) = _
    rw [AC, if_pos rfl, hg3]; rfl
   unfold sliceSlV
   simp only [Nat.beq_refl, cond_true, hcs, Qe]
   rfl) (clear_anc (by kernel_rfl) rfl) (.inl rfl) rfl rfl ?_
 refine Nq (oa rfl) rfl <| Ay <| Es ?_
 iterate 2 refine qm rfl ?_
 refine Lq (AF rfl rfl rfl) rfl <| Lq (of D0 rfl) rfl <| Lo (A8 rfl rfl (Al ag_52 sz_52 ‹_› rfl)) rfl ?_
 generalize hs1 : s.enter.alloc (.cells [] 5 true) = s1 at hg2 hg3 ⊢
 have hb1 : s1.next = s.next + 1 := by rw [← hs1]; rfl
 have hcp : copyV s1 1 ([], 0) (.slice s.enter.next 0 0 1 (some 0)) = some (.int .i64 ((0 : Nat) : Int), s1.put s.enter.next (some (.cells [] 5 true))) := by
  show (writeIn s1 s.enter.next 0 [] (s1.heap.get s.enter.next)).bind _ = _
  rw [hg3]; rfl
 refine Lo (OpL.copy rfl rfl rfl rfl Dt Bh rfl rfl rfl hcp) rfl ?_
 have hg4 : (s1.put s.enter.next (some (.cells [] 5 true))).heap.get b0 = some (.cells [a, .nilslice] e0 false) := by rw [AS, if_neg hne]; exact hg2
 refine Ld <| Ao ?_
 iterate 2 refine qm rfl ?_
 refine Lq (AF rfl rfl rfl) rfl <| Lq (of D0 rfl) rfl <| AB (Ba rfl sz_52 rfl rfl (AZ ‹_› rfl rfl rfl)) rfl rfl <| Ld ?_
 have hput : (s1.put s.enter.next (some (.cells [] 5 true))).bound = s.next := by rw [← hs1]; rfl
 have hch : Chg s.enter ((s1.put s.enter.next (some (.cells [] 5 true))).put b0 (some (.cells [a, .slice s.enter.next 0 0 1 (some 0)] e0 false))) (fun c => c = b0) := by
  refine ⟨by show s.next ≤ s1.next; omega, hput, fun c hc => ?_, fun c hc ho => ?_⟩
  ·rcases mem_put hc with h | ⟨h, h2⟩
   ·rcases mem_put h with h | ⟨h, h2⟩
    ·rw [← hs1] at h; exact .inl h
    ·rw [← hs1] at h2
     have : c < s.next := h2
     have h' : c = s.next := h
     omega
   ·exact .inr ⟨by rw [hput] at h2; exact h2, h⟩
  ·have hc' : c ≠ s.enter.next := Nat.ne_of_lt hc
   rw [AS, if_neg ho, AS, if_neg hc', ← hs1]
   show (s.heap.set s.next _).get c = _
   rw [AC, if_neg (show c ≠ s.next from hc')]; rfl
 refine ⟨.inr rfl, _, rfl, [], rfl, Do rfl (fun _ _ => rfl) (fun _ => rfl) (fun h => absurd h (EA (by rw [hput]; exact hn))) fun _ => hR _ (.slice s.enter.next 0 0 1 (some 0)) hch.back ?_ ?_ ?_ fun h => back_ne (DA (by rw [hput]; exact hn)) h⟩
 ·show (St.put _ b0 _).heap.get b0 = _
  rw [AS, if_pos rfl]
 ·refine .inr (.inl ⟨s.enter.next, rfl, rfl, by show s.next < s1.next; omega, ?_⟩)
  show (St.put (St.put s1 _ _) b0 _).heap.get s.enter.next = _
  rw [AS, if_neg hne.symm, AS, if_pos rfl]
 ·intro c hc
  have : s.next = c := Qb hc
  omega
theorem grow_run (hK : K 127 = fun _ => none) (hK1 : K 126 = fun _ => none) (hK2 : K 163 = fun _ => none) {s : St} {b0 : Nat} {a : AV} {n : Nat} (hg : s.heap.get b0 = some (.cells [a, .nilslice] e0 false))
  (ha : a = .nilptr ∨ a = .ptr b0 0) (hn : b0 < s.next) (hsm : n ≤ 1099511627776) {R : AV → St → Prop}
  (hR : ∀ s' v, Chg s s' (fun c => c = b0) → s'.heap.get b0 = some (.cells [.ptr b0 0, v] e0 false) → BufR s' 5 v [] → (∀ c, ownB c v = true → s.next ≤ c) → R (.tuple []) s') :
  RunsV (EK K) 127 [.ptr b0 0, .int .i64 (n : Nat)] s R := by
 refine RunsV.gen (fn := Tryz.f127) (by show K 127 _ = none; rw [hK]) (by kernel_rfl) rfl rfl rfl rfl ?_
 refine Es <| qm rfl ?_
 refine AJ rfl rfl (by kernel_rfl) rfl rfl rfl rfl (Fd hK1 (s := s.enter) hg ha hn ?_)
 intro s1 hc1 hn1 hg1 hl1 _
 refine Ld <| Ab <| Es <| qm rfl <| Lq (o2 u_3 rfl rfl) rfl <| Ld <| An rfl rfl <| Ac ?_
 refine Av (by kernel_rfl) <| Nq (om rfl) rfl <| Nq (AF rfl rfl rfl) rfl <| Nq (of D0 rfl) rfl <| AL rfl rfl (Al ag_52 sz_52 ‹_› rfl) rfl (.inl rfl) rfl rfl <| Nq (OpQ.cap rfl rfl rfl rfl Dt rfl rfl) rfl ?_
 focus
  refine Nq (om rfl) rfl <| Nq (AF rfl rfl rfl) rfl <| Nq (of D0 rfl) rfl <| AL rfl rfl (Al ag_52 sz_52 ‹_› rfl) rfl (.inl rfl) rfl rfl <| Nq (OpQ.lenNil rfl rfl rfl rfl Dt rfl) rfl <| Nq (A6 (a := 0) (b := 0) rfl u_3 rfl rfl (by omega)) rfl <| Nq (om rfl) rfl <| Nq (o2 u_3 rfl rfl) rfl ?_
  refine Ay ?_
  refine Ec rfl (fun g1 => ?_) (fun g1 => ?_)
  have h1 := dT g1
  refine Ao ?_
  iterate 2 refine qm rfl ?_
  rotate_left
  have h1 := dF g1
  refine Ac ?_
  rotate_left
 ·have h0 : 0 < n := by simpa using h1
  refine AJ rfl rfl (by kernel_rfl) rfl rfl rfl rfl (growIn_run hK2 hg1 (by rw [hn1]; exact hn) h0 hsm ?_)
  intro s2 v hc2 hg2 hb2 how2 hl2
  refine Ld ?_
  have hc := hc1.trans hc2 (own := fun c => c = b0) (fun _ h => h) (fun _ h => .inl h) (Qj _)
  have how : ∀ c, ownB c v = true → s.next ≤ c := fun c h => by have := how2 c h; rw [hn1] at this; exact this
  refine ⟨.inr rfl, _, rfl, [], rfl, Do rfl (fun _ _ => rfl) (fun _ => rfl) (fun h => ?_) fun _ => hR _ v hc.back hg2 (hb2.keep (Qj _) fun _ _ => rfl) how⟩
  exact absurd h (hl2 (by rw [hc1.bound]; exact hn))
 ·have h0 : n = 0 := by simpa using h1
  refine ⟨.inr rfl, _, rfl, [], rfl, Do rfl (fun _ _ => rfl) (fun _ => rfl) (fun h => ?_) fun _ => hR _ .nilslice hc1.back hg1 (.inl ⟨rfl, rfl⟩) fun c hc => by cases hc⟩
  rcases hl1 hn with h' | h'
  ·exact absurd h h'
  ·rw [h'] at hg
   exact hR s .nilslice Chg.refl hg (.inl ⟨rfl, rfl⟩) fun c hc => by cases hc
end
def sumL (l : List (List UInt8)) : Nat := (l.map List.length).sum
theorem sumL_take_succ {l : List (List UInt8)} {i : Nat} (h : i < l.length) : sumL (l.take (i + 1)) = sumL (l.take i) + l[i].length := by
 unfold sumL
 rw [List.take_succ_eq_append_getElem h, List.map_append, List.sum_append]
 simp
theorem Ek {l : List (List UInt8)} (i : Nat) : sumL (l.take i) ≤ sumL l := by
 have : sumL l = sumL (l.take i) + sumL (l.drop i) := by
  unfold sumL
  rw [← List.sum_append, ← List.map_append, List.take_append_drop]
 omega
theorem Fa (sep : List UInt8) : ∀ l : List (List UInt8), (l.flatMap (sep ++ ·)).length = sumL l + l.length * sep.length
 | [] => by simp [sumL]
 | a :: l => by
  have ih := Fa sep l
  rw [List.flatMap_cons, Qm, Qm, ih, List.length_cons, Nat.succ_mul]
  rw [show sumL (a :: l) = a.length + sumL l by simp [sumL]]
  omega
theorem flat_take_succ {sep : List UInt8} {l : List (List UInt8)} {i : Nat} (h : i < l.length) : (l.take (i + 1)).flatMap (sep ++ ·) = (l.take i).flatMap (sep ++ ·) ++ sep ++ l[i] := by
 rw [List.take_succ_eq_append_getElem h, List.flatMap_append]
 simp
section
variable {K : FuncId → List AV → Option AV}
theorem join_run (hK : K 91 = fun _ => none) (hK1 : K 127 = fun _ => none) (hK2 : K 126 = fun _ => none) (hK3 : K 163 = fun _ => none) (hK4 : K 90 = fun _ => none)
  (hK5 : K 53 = fun _ => none) {s : St} {v : AV} {l : List (List UInt8)} {sep : List UInt8} (hv : StrsR s v l) (hsum : sumL l + (sep.length + 1) * (l.length + 1) ≤ 1099511627776) {R : AV → St → Prop} (hR : R (.str (joinS sep l)) s) :
  RunsV (EK K) 91 [v, .str sep] s R := by
 refine RunsV.gen (fn := Tryz.f91) (by show K 91 _ = none; rw [hK]) (by kernel_rfl) rfl rfl rfl rfl ?_
 have hve : StrsR s.enter v l := hv.keep (Qj _) fun _ _ => rfl
 have hlen := hve.len
 focus
  refine Es <| qa rfl <| Ld <| Ab <| Es <| qm rfl <| Lq (D5 rfl rfl rfl rfl D7 rfl ‹_›) rfl <| Ld ?_
  refine Ai <| Es <| Lq (o2 u_3 rfl rfl) rfl <| qa rfl <| Ld ?_
  refine Ec rfl (fun g1 => ?_) (fun g1 => ?_)
  have h1 := dT g1
  refine Es <| qa rfl <| Ld ?_
  rotate_left
  have h1 := dF g1
  refine Es <| Lq (o2 u_3 rfl rfl) rfl <| qa rfl <| Ld ?_
  refine Ec rfl (fun g2 => ?_) (fun g2 => ?_)
  have h2 := dT g2
  refine Es <| qm rfl ?_
  rotate_left
  have h2 := dF g2
  refine Ac <| Es <| qa rfl <| Ld ?_
  rotate_left
 ·
  have hl : l = [] := by cases l with | nil => rfl | cons _ _ => simp at h1; omega
  subst hl
  refine Aa ?_
  exact ⟨.inl rfl, _, rfl, _, As rfl rfl, Do rfl (fun _ _ => rfl) (fun _ => rfl) (fun _ => hR) fun h => absurd rfl h⟩
 ·
  obtain ⟨a, rfl⟩ : ∃ a, l = [a] := by
   match l, h2 with
   | [a], _ => exact ⟨a, rfl⟩
  obtain ⟨p, hp, hpl⟩ := hve.at (E := EK K) (i := 0) (by simp) ag_9 sz_9
  refine Lq (Af (k := 0) rfl D7 sz_9 rfl rfl ‹_›) rfl <| Lo (A8 rfl rfl ‹_›) rfl <| qa rfl <| Ld <| Aa ?_
  refine ⟨.inl rfl, _, rfl, _, As rfl rfl, Do rfl (fun _ _ => rfl) (fun _ => rfl) (fun _ => ?_) fun h => absurd rfl h⟩
  have : joinS sep [a] = a := List.append_nil a
  rw [this] at hR; exact hR
 ·
  have hm : 2 ≤ l.length := by omega
  have hprod : sep.length * (l.length - 1) + l.length ≤ (sep.length + 1) * (l.length + 1) := by
   have h1 : sep.length * (l.length - 1) ≤ sep.length * (l.length + 1) := Nat.mul_le_mul_left _ (by omega)
   rw [Nat.add_mul, Nat.one_mul]; omega
  have hsl : sumL l + sep.length * (l.length - 1) + l.length ≤ 1099511627776 := by omega
  have hsep : sep.length ≤ sep.length * (l.length - 1) := Nat.le_mul_of_pos_right _ (by omega)
  have hq : sep.length < 9223372036854775807 / (l.length - 1) := by
   refine Nat.lt_of_succ_le ((Nat.le_div_iff_mul_le (by omega)).2 ?_)
   rw [Nat.succ_mul]; omega
  refine Ds [(5, .int .i64 ((sep.length * (l.length - 1) : Nat) : Int)), (0, v), (1, .str sep)] s.enter ?_ ?_
  ·focus
    refine Es <| qm rfl <| Lq (By rfl rfl rfl rfl u_9 rfl) rfl <| Lq (o2 u_3 rfl rfl) rfl <| Ld ?_
    refine Ec rfl (fun g3 => ?_) (fun g3 => ?_)
    have h3 := dT g3
    refine Ab <| Es <| qm rfl <| Lq (By rfl rfl rfl rfl u_9 rfl) rfl <| qm rfl <| Lq (D5 rfl rfl rfl rfl D7 rfl ‹_›) rfl <| Lq (A6 (b := 1) rfl u_3 rfl rfl (by omega)) rfl <| Lq (OpQ.quoN (a := 9223372036854775807) rfl u_3 rfl rfl (by omega)) rfl ?_
    refine Lq (o2 u_3 rfl rfl) rfl <| Ld ?_
    refine Ec rfl (fun g4 => ?_) (fun g4 => ?_)
    have h4 := dT g4
    exact absurd h4 (by omega)
    have h4 := dF g4
    refine Ac <| Ao ?_
    iterate 2 refine qm rfl ?_
    refine Lq (By rfl rfl rfl rfl u_9 rfl) rfl <| qm rfl <| Lq (D5 rfl rfl rfl rfl D7 rfl ‹_›) rfl <| Lq (A6 (b := 1) rfl u_3 rfl rfl (by omega)) rfl ?_
    refine Lq (OpQ.mulN rfl u_3 rfl rfl (by first | assumption | omega | (simp only [LL]; omega))) rfl ?_
    refine Lq (At (a := 0) rfl u_3 rfl rfl (by first | assumption | omega | (simp only [LL]; omega))) rfl ?_
    refine qa rfl <| Ld ?_
    rotate_left
    have h3 := dF g3
    refine Ac ?_
    rotate_left
   ·refine ⟨rfl, rfl, rfl, ?_⟩
    rw [show 0 + sep.length * (l.length - 1) = sep.length * (l.length - 1) from Nat.zero_add _]
    (refine Am.Ap ?_; repeat (first | exact trivial | refine ⟨rfl, ?_⟩))
   ·have h0 : sep.length = 0 := by omega
    refine ⟨rfl, rfl, rfl, ?_⟩
    rw [h0, Nat.zero_mul]
    (refine Am.Ap ?_; repeat (first | exact trivial | refine ⟨rfl, ?_⟩))
  ·refine Ab ?_
   refine Es <| qm rfl <| Lq (D5 rfl rfl rfl rfl D7 rfl ‹_›) rfl <| qm rfl <| Ld <| Ai ?_
   generalize hn0 : sep.length * (l.length - 1) = n0 at *
   refine Aw (fun i : Nat => ([(41, .int .i64 (i : Nat)), (40, .int .i64 (l.length : Nat)), (39, v), (5, .int .i64 ((n0 + sumL (l.take i) : Nat) : Int)), (0, v), (1, .str sep)], s.enter)) (fun i => l.length - i) (fun i => i ≤ l.length) 0 (Qo _) rfl (by rw [show sumL (l.take 0) = 0 from rfl, Nat.add_zero]; (refine Am.Ap ?_; repeat (first | exact trivial | refine ⟨rfl, ?_⟩))) fun i hi => ?_
   have h6 := Ek (l := l) i
   focus
    refine Es <| Lq (o2 u_3 rfl rfl) rfl <| Ld <| Ab ?_
    refine Ec rfl (fun g3 => ?_) (fun g3 => ?_)
    have h3 := dT g3
    refine Ac <| Ab <| Ai <| Es ?_
    rotate_left
    have h3 := dF g3
    refine A5 <| AX rfl <| Es <| Lo (Bz rfl z_102) rfl <| Ld <| Es <| qm rfl ?_
    rotate_left
   ·have hlt : i < l.length := by omega
    obtain ⟨p, hp, hpl⟩ := hve.at (E := EK K) hlt ag_9 sz_9
    have h5 := sumL_take_succ hlt
    have h7 := Ek (l := l) (i + 1)
    focus
     refine Lq (Af rfl D7 sz_9 rfl rfl ‹_›) rfl <| Lo (A8 rfl rfl ‹_›) rfl <| qa rfl <| Ld <| Ab <| Es <| qm rfl <| Lq (By rfl rfl rfl rfl u_9 rfl) rfl ?_
     refine qm rfl <| Lq (A6 (a := 9223372036854775807) rfl u_3 rfl rfl (by omega)) rfl <| Lq (o2 u_3 rfl rfl) rfl <| Ld ?_
     refine Ec rfl (fun g4 => ?_) (fun g4 => ?_)
     have h4 := dT g4
     exact absurd h4 (by omega)
     have h4 := dF g4
     refine Ac <| Ao ?_
     iterate 2 refine qm rfl ?_
     refine Lq (By rfl rfl rfl rfl u_9 rfl) rfl ?_
     refine Lq (At rfl u_3 rfl rfl (by first | assumption | omega | (simp only [LL]; omega))) rfl ?_
     refine qa rfl <| Ld <| Ao ?_
     refine Lq (At (b := 1) rfl u_3 rfl rfl (by first | assumption | omega | (simp only [LL]; omega))) rfl ?_
     refine qm rfl <| Ld ?_
     rotate_left
    refine ⟨i + 1, hlt, by omega, rfl, rfl, ?_⟩
    rw [h5, ← Nat.add_assoc]
    (refine Am.Ap ?_; repeat (first | exact trivial | refine ⟨rfl, ?_⟩))
   ·have hil : i = l.length := by omega
    rw [hil, List.take_length]
    match l, hm with
    | a :: b :: l', _ =>
    have hrl : (a :: b :: l').length = (b :: l').length + 1 := rfl
    have hsc : sumL (a :: b :: l') = a.length + sumL (b :: l') := by simp [sumL]
    have hn1 : n0 = (b :: l').length * sep.length := by rw [← hn0, Nat.mul_comm]; rfl
    let s1 : St := s.enter.alloc (.cells [.nilptr, .nilslice] 102 false)
    have hb1 : s1.heap.get s.next = some (.cells [.nilptr, .nilslice] 102 false) := by
     show (s.heap.set s.next _).get s.next = _
     rw [AC, if_pos rfl]
    have hlow1 : ∀ c, c < s.next → s1.heap.get c = s.heap.get c := fun c hc => by
     show (s.heap.set s.next _).get c = _
     rw [AC, if_neg (by omega)]
    have hnx1 : s1.next = s.next + 1 := rfl
    refine AJ rfl rfl (by kernel_rfl) rfl rfl rfl rfl (grow_run hK1 hK2 hK3 (s := s1) hb1 (.inl rfl) (Nat.lt_succ_self _) (by omega) ?_)
    intro s2 bv2 hc2 hg2 hb2 how2
    have hv2 : StrsR s2 v (a :: b :: l') := hv.keep (by have := hc2.next; omega) fun c hc => by
     have := hv.own hc
     rw [hc2.heap c (by omega) (by omega), hlow1 c this]
    obtain ⟨p, hp, hpl⟩ := hv2.at (E := EK K) (i := 0) (by simp) ag_9 sz_9
    refine Ld <| Es <| qm rfl <| Lq (Af (k := 0) rfl D7 sz_9 rfl rfl ‹_›) rfl <| Lo (A8 rfl rfl ‹_›) rfl ?_
    have hov2 : ownB s.next bv2 = false := by
     cases h : ownB s.next bv2 with
     | false => rfl
     | true => have := how2 _ h; omega
    refine AJ rfl rfl (by kernel_rfl) rfl rfl rfl rfl (write_run hK4 hK2 hg2 (.inr rfl) (by have := hc2.next; omega) hb2 hov2 (by simp only [List.length_nil, List.getElem_cons_zero]; omega) ?_)
    intro s3 bv3 hc3 hg3 hb3 how3 _ _
    have hch3 : Chg s1 s3 (fun c => c = s.next ∨ s1.next ≤ c) := hc2.trans hc3 (fun _ h => .inl h) (fun c h => h.elim (fun h => .inl (.inl h)) fun h => .inl (.inr (how2 c h))) (by show s.next ≤ s.next + 1; omega)
    have hv3 : StrsR s3 v (a :: b :: l') := hv.keep (by have := hch3.next; omega) fun c hc => by
     have := hv.own hc
     rw [hch3.heap c (by omega) (by omega), hlow1 c this]
    obtain ⟨v', hsl', hvt', hovt'⟩ := hv3.tail
    have hlen' := hvt'.len
    refine Ld <| Ab <| Es <| qm rfl <| Lo (OpL.sliceM rfl D7 sz_9 rfl rfl rfl ‹_›) rfl <| Lq (D5 rfl rfl rfl rfl D7 rfl ‹_›) rfl <| qm rfl <| Ld ?_
    refine Ai ?_
    refine Aw (fun x : Nat × AV × St => ([(65, .int .i64 (x.1 : Nat)), (64, .int .i64 ((b :: l').length : Nat)), (63, v'), (8, .ptr s.next 0), (1, .str sep)], x.2.2)) (fun x => (b :: l').length - x.1)
     (fun x => x.1 ≤ (b :: l').length ∧ s3.next ≤ x.2.2.next ∧ Chg s1 x.2.2 (fun c => c = s.next ∨ s1.next ≤ c) ∧ x.2.2.heap.get s.next = some (.cells [.ptr s.next 0, x.2.1] 102 false) ∧ BufR x.2.2 5 x.2.1 (a ++ ((b :: l').take x.1).flatMap (sep ++ ·)) ∧ (∀ c, ownB c x.2.1 = true → s1.next ≤ c))
     (0, bv3, s3) ⟨Qo _, Qj _, hch3, hg3, ?_, ?_⟩ rfl (by (refine Am.Ap ?_; repeat (first | exact trivial | refine ⟨rfl, ?_⟩))) ?_
    ·show BufR s3 5 bv3 (a ++ [])
     rw [List.append_nil]; exact hb3
    ·intro c hc
     rcases how3 c hc with h | h
     ·exact how2 c h
     ·have := hc2.next; show s1.next ≤ c; omega
    rintro ⟨j, bv, st⟩ ⟨hj, hn3, hcj, hgj, hbj, howj⟩
    dsimp only at hj hn3 hcj hgj hbj howj ⊢
    have hnx := hcj.next
    have hvj : StrsR st v' (b :: l') := hvt'.keep hn3 fun c hc => by
     have := hv.own (hovt' c hc)
     rw [hcj.heap c (by omega) (by omega), hch3.heap c (by omega) (by omega)]
    have hwl : (a ++ ((b :: l').take j).flatMap (sep ++ ·)).length = a.length + (sumL ((b :: l').take j) + j * sep.length) := by
     rw [Qm, Fa, List.length_take, Nat.min_eq_left hj]
    have hsj := Ek (l := b :: l') j
    have hjm : j * sep.length ≤ n0 := by rw [hn1]; exact Nat.mul_le_mul_right _ hj
    have hnj : s.next < st.next := by omega
    have hovj : ownB s.next bv = false := by
     cases h : ownB s.next bv with
     | false => rfl
     | true => have := howj _ h; omega
    generalize hw : a ++ ((b :: l').take j).flatMap (sep ++ ·) = w at *
    focus
     refine Es <| Lq (o2 u_3 rfl rfl) rfl <| Ld <| Ab ?_
     refine Ec rfl (fun g4 => ?_) (fun g4 => ?_)
     have h4 := dT g4
     refine Ac <| Ab <| Ai <| Es ?_
     rotate_left
     have h4 := dF g4
     refine A5 <| AX rfl <| Es ?_
     rotate_left
    ·have hlt : j < (b :: l').length := by omega
     obtain ⟨p, hp, hpl⟩ := hvj.at (E := EK K) hlt ag_9 sz_9
     have hsj1 := Ek (l := b :: l') (j + 1)
     have hsj2 := sumL_take_succ hlt
     have hjm1 : j * sep.length + sep.length ≤ n0 := by rw [hn1, ← Nat.succ_mul]; exact Nat.mul_le_mul_right _ hlt
     refine Lq (Af rfl D7 sz_9 rfl rfl ‹_›) rfl <| Lo (A8 rfl rfl ‹_›) rfl <| qa rfl <| Ld <| Es <| qm rfl ?_
     refine AJ rfl rfl (by kernel_rfl) rfl rfl rfl rfl (write_run hK4 hK2 hgj (.inr rfl) hnj hbj hovj (by omega) ?_)
     intro s4 bv4 hc4 hg4 hb4 how4 _ _
     have hn4 := hc4.next
     have how4' : ∀ c, ownB c bv4 = true → s1.next ≤ c := fun c hc => by
      rcases how4 c hc with h | h
      ·exact howj c h
      ·omega
     have hov4 : ownB s.next bv4 = false := by
      cases h : ownB s.next bv4 with
      | false => rfl
      | true => have := how4' _ h; omega
     refine Ld <| Ao <| qm rfl ?_
     refine AJ rfl rfl (by kernel_rfl) rfl rfl rfl rfl (write_run hK4 hK2 hg4 (.inr rfl) (by omega) hb4 hov4 (by rw [Qm]; omega) ?_)
     intro s5 bv5 hc5 hg5 hb5 how5 _ _
     have hn5 := hc5.next
     refine Ld <| Ao ?_
     refine Lq (At (b := 1) rfl u_3 rfl rfl (by first | assumption | omega | (simp only [LL]; omega))) rfl ?_
     refine qm rfl <| Ld ?_
     refine ⟨(j + 1, bv5, s5), ⟨hlt, by show s3.next ≤ s5.next; omega, ?_, hg5, ?_, ?_⟩, by show (b :: l').length - (j + 1) < _; omega, rfl, rfl, by (refine Am.Ap ?_; repeat (first | exact trivial | refine ⟨rfl, ?_⟩))⟩
     ·have e1 : Chg s1 s4 (fun c => c = s.next ∨ s1.next ≤ c) := hcj.trans hc4 (fun _ h => h) (fun c h => h.elim (fun h => .inl (.inl h)) fun h => .inl (.inr (howj c h))) (by show s.next ≤ s.next + 1; omega)
      exact e1.trans hc5 (fun _ h => h) (fun c h => h.elim (fun h => .inl (.inl h)) fun h => .inl (.inr (how4' c h))) (by show s.next ≤ s.next + 1; omega)
     ·show BufR s5 5 bv5 (a ++ ((b :: l').take (j + 1)).flatMap (sep ++ ·))
      rw [flat_take_succ hlt, ← List.append_assoc, ← List.append_assoc, hw]
      exact hb5
     ·intro c hc
      show s1.next ≤ c
      rcases how5 c hc with h | h
      ·exact how4' c h
      ·omega
    ·have hje : j = (b :: l').length := by omega
     refine AJ rfl rfl (by kernel_rfl) rfl rfl rfl rfl (text_run hK5 hgj hnj hbj (by omega) ?_)
     intro s6 hc6
     refine qa rfl <| Ld <| Aa ?_
     have hc7 : Chg s1 s6 (fun c => c = s.next ∨ s1.next ≤ c) := hcj.trans hc6 (fun _ h => h) (fun c h => .inl (.inr (howj c h))) (by show s.next ≤ s.next + 1; omega)
     have hlog : s6.log = [] := by
      cases hl : s6.log with
      | nil => rfl
      | cons c lg =>
       have := hc7.log c (by rw [hl]; exact Qh ..)
       rcases this with h | ⟨h, h'⟩
       ·cases h
       ·have h2 : c < s.next := h
        omega
     refine ⟨.inl rfl, _, rfl, _, As rfl rfl, Do rfl (fun _ _ => rfl) (fun _ => rfl) (fun _ => ?_) fun h => absurd hlog h⟩
     show R (.str w) s
     rw [← hw, hje, List.take_length]
     exact hR
end
section
variable {K : FuncId → List AV → Option AV} {e0 : TypeId} [BldT e0]
theorem byte_run (hK : K 92 = fun _ => none) (hK1 : K 126 = fun _ => none) {s : St} {b0 : Nat} {a v : AV} {w : List UInt8} {x : UInt8} (hg : s.heap.get b0 = some (.cells [a, v] e0 false)) (ha : a = .nilptr ∨ a = .ptr b0 0)
  (hn : b0 < s.next) (hv : BufR s 5 v w) (hov : ownB b0 v = false) (hsm : w.length + 1 ≤ 1099511627776) {R : AV → St → Prop}
  (hR : ∀ s' v', Chg s s' (fun c => c = b0 ∨ ownB c v = true) → s'.heap.get b0 = some (.cells [.ptr b0 0, v'] e0 false) → BufR s' 5 v' (w ++ [x]) → (∀ c, ownB c v' = true → ownB c v = true ∨ s.next ≤ c) → (b0 < s.bound → s'.log ≠ []) → (s.bound ≤ s.next → Loggd s s') → R .niliface s') :
  RunsV (EK K) 92 [.ptr b0 0, .int .u8 (x.toNat : Nat)] s R := by
 refine RunsV.gen (fn := Tryz.f92) (by show K 92 _ = none; rw [hK]) (by kernel_rfl) rfl rfl rfl rfl ?_
 refine Es <| qa rfl <| Ld <| Es <| qm rfl ?_
 refine AJ rfl rfl (by kernel_rfl) rfl rfl rfl rfl (Fd hK1 (s := s.enter) hg ha hn ?_)
 intro s1 hc1 hn1 hg1 hl1 hL1
 have hv1 : BufR s1 5 v w := hv.keep (s := s.enter) hc1.next fun c hc => hc1.heap c (hv.own hc) fun h => by rw [h, hov] at hc; cases hc
 have hn1' : b0 < s1.next := by rw [hn1]; exact hn
 refine Ld <| Es ?_
 iterate 2 refine qm rfl ?_
 refine Lq (AF rfl rfl rfl) rfl <| Lq (of D0 rfl) rfl <| Lo (A8 rfl rfl (Al ag_52 sz_52 ‹_› rfl)) rfl <| qm rfl <| Lo (Br rfl Dt Bh z_5 rfl rfl rfl) rfl ?_
 have hv2 : BufR (s1.alloc (.cells [.int .u8 (x.toNat : Nat)] 5 false)) 5 v w := hv1.keep (Nat.le_succ _) fun c hc => Bk (hv1.own hc)
 obtain ⟨v', s2, happ, hb2, hnx2, hbd2, how2, hlg2, hhp2⟩ := hv2.append (x := [x]) hsm
 have hg2 : s2.heap.get b0 = some (.cells [.ptr b0 0, v] e0 false) := (hhp2 b0 (Nat.lt_succ_of_lt hn1') hov).trans ((Bk hn1').trans hg1)
 refine Lo (OpL.append rfl rfl rfl rfl Dt Bh by_5 z_5 (by kernel_rfl) (by kernel_rfl) rfl rfl (new := byteCells [x]) (n := 1) (appended_new (e := 5) (part := false) DX rfl) happ) rfl ?_
 have hvt : v'.isTuple = false ∧ v'.cells.length = 1 ∧ over v'.cells (0 + 1) [.ptr b0 0, v] = some [.ptr b0 0, v'] := by
  rcases hb2 with ⟨rfl, _⟩ | ⟨_, rfl, _⟩ | ⟨_, rfl, _⟩ <;> exact ⟨rfl, rfl, rfl⟩
 refine Lq (AF rfl rfl rfl) rfl <| Lq (of D0 rfl) rfl <| AB (Ba rfl sz_52 rfl rfl (AZ hg2 hvt.2.1 hvt.1 hvt.2.2)) rfl rfl <| Ld <| Es <| qa rfl <| Ld <| Aa ?_
 have h12 : Chg s1 s2 (fun c => ownB c v = true) := ⟨Nat.le_trans (Nat.le_succ _) hnx2, hbd2, hlg2, fun c hc ho => (hhp2 c (Nat.lt_succ_of_lt hc) (by simpa using ho)).trans (Bk hc)⟩
 have h3 := (hc1.trans h12 (own := fun c => c = b0 ∨ ownB c v = true) (fun _ h => .inl h) (fun _ h => .inl (.inr h)) (Qj _)).trans (Chg.put (s := s2) (b := b0) (o := some (.cells [.ptr b0 0, v'] e0 false))) (own := fun c => c = b0 ∨ ownB c v = true) (fun _ h => h) (fun _ h => .inl (.inl h)) (Qj _)
 have hob : ∀ c, ownB c v' = true → c ≠ b0 := fun c hc h => by
  rcases how2 c hc with h1 | h1
  ·rw [h, hov] at h1; cases h1
  ·have : s1.next = s.next := hn1
   have e : (s1.alloc (.cells [.int .u8 (x.toNat : Nat)] 5 false)).next = s1.next + 1 := rfl
   omega
 refine ⟨.inl rfl, _, rfl, _, As rfl rfl, _, EC rfl (EA (by rw [show s2.bound = s1.bound from hbd2, hc1.bound]; exact hn)), hR _ v' h3.back ?_ ?_ ?_ (fun h => back_ne (DA (by rw [show s2.bound = s1.bound from hbd2, hc1.bound]; exact hn)) h) fun h => Loggd.back ((((hL1 (Qj _)).trans (Loggd.alloc (by rw [hc1.bound, hn1]; exact Qj _))).trans (Fg (s := s1.alloc _) (by rw [show (s1.alloc (.cells [.int .u8 (x.toNat : Nat)] 5 false)).bound = s1.bound from rfl, hc1.bound, show (s1.alloc (.cells [.int .u8 (x.toNat : Nat)] 5 false)).next = s1.next + 1 from rfl, hn1]; exact Nat.le_succ _) happ)).trans Loggd.put) h⟩
 ·show (s2.put b0 _).heap.get b0 = _
  rw [AS, if_pos rfl]
 ·exact hb2.keep (Qj _) fun c hc => by
   show (s2.put b0 _).heap.get c = _
   rw [AS, if_neg (hob c hc)]
 ·intro c hc
  refine (how2 c hc).imp id fun h => ?_
  have : s1.next = s.next := hn1
  have e : (s1.alloc (.cells [.int .u8 (x.toNat : Nat)] 5 false)).next = s1.next + 1 := rfl
  omega
end
def wordsL : List (List UInt8) := [[],[99,97,115,101],[111,114],[102,97,105,108],[102,114,101,101],[110,111,100,101],[101,110,116,101,114]]
def wordsA : AV := .agg (wordsL.map AV.str)
theorem word_ok : entOk (envT Tryz.prog 1200 1200 0 []) 100 ⟨50,[],wordsA⟩ = true := by kernel_rfl
theorem word_known : KnownF Tryz.prog 50 [] wordsA := by
 have h2 := BY AE (m := []) (fun e he => by cases he) word_ok
 exact fun C S w xs c cs hv hS => h2 [] C S w xs c cs (fun g cs hg => by cases hg) hv hS
noncomputable def KL6 := addC KL5 50 (fun _ : Unit=>[]) (fun _=>wordsA)
theorem hit_50 : KL6 50 [] = some wordsA :=
 AD (f := 50) (enc := fun _ : Unit => []) (res := fun _ => wordsA) (fun _ _ _ => rfl) ()
theorem gall6 (h : KnownF Tryz.prog 10 [] (.bool true)) : KnownGs Tryz.prog gl0 KL6 :=
 addC_knownG (gall5 h) fun _ => word_known.g
section
variable {K : FuncId → List AV → Option AV}
theorem line_run (hK : K 48 = fun _ => none) (hJ : K 91 = fun _ => none) (hK1 : K 127 = fun _ => none) (hK2 : K 126 = fun _ => none) (hK3 : K 163 = fun _ => none) (hK4 : K 90 = fun _ => none)
  (hK5 : K 53 = fun _ => none) (hK6 : K 92 = fun _ => none) {s : St} {b0 : Nat} {a bv v : AV} {w : List UInt8} {l : List (List UInt8)} (hg : s.heap.get b0 = some (.cells [a, bv] 104 false)) (ha : a = .nilptr ∨ a = .ptr b0 0)
  (hn : b0 < s.next) (hv : BufR s 5 bv w) (hov : ownB b0 bv = false) (hl : StrsR s v l) (hsum : sumL l + 2 * (l.length + 1) ≤ 1099511627776) (hsm : w.length + (joinS [32] l).length + 1 ≤ 1099511627776) {R : AV → St → Prop}
  (hR : ∀ s' v', Chg s s' (fun c => c = b0 ∨ ownB c bv = true) → s'.heap.get b0 = some (.cells [.ptr b0 0, v'] 104 false) → BufR s' 5 v' (w ++ joinS [32] l ++ [10]) → (∀ c, ownB c v' = true → ownB c bv = true ∨ s.next ≤ c) → (s.bound ≤ s.next → Loggd s s') → R (.tuple []) s') :
  RunsV (EK K) 48 [.ptr b0 0, v] s R := by
 refine RunsV.unit (fn := Tryz.f48) (by show K 48 _ = none; rw [hK]) (by kernel_rfl) rfl rfl rfl rfl ?_
 refine Av (by kernel_rfl) <| Nq (om rfl) rfl <| Nq (AF rfl rfl rfl) rfl <| Nq (of f_104_0 rfl) rfl <| Nq (om rfl) rfl <| RegN.lookF (v := .str (joinS [32] l)) (by kernel_rfl) rfl rfl rfl (join_run hJ hK1 hK2 hK3 hK4 hK5 (s := s.enter.sub s.enter.heap) (sep := [32]) (l := l) (R := fun x s2 => x = .str (joinS [32] l) ∧ s2 = s.enter.sub s.enter.heap) (hl.keep (Qj _) fun _ _ => rfl) hsum ⟨rfl, rfl⟩) (by kernel_rfl) (.inl rfl) rfl rfl <| RegN.runsF (by kernel_rfl) rfl rfl rfl (write_run hK4 hK2 (s := s.enter.sub s.enter.heap) (b0 := b0) (a := a) (v := bv) (w := w) (x := joinS [32] l) (R := fun x s2 => ∃ v', Chg (s.enter.sub s.enter.heap) s2 (fun c => c = b0 ∨ ownB c bv = true) ∧ s2.heap.get b0 = some (.cells [.ptr b0 0, v'] 104 false) ∧ BufR s2 5 v' (w ++ joinS [32] l) ∧ (∀ c, ownB c v' = true → ownB c bv = true ∨ s.enter.next ≤ c) ∧ Loggd (s.enter.sub s.enter.heap) s2) hg ha hn (hv.keep (Qj _) fun _ _ => rfl) hov (by omega) (fun s' v' h1 h2 h3 h4 _ h5 => ⟨v', h1, h2, h3, h4, h5 (Qj _)⟩)) (by kernel_rfl) (by kernel_rfl) (.inl rfl) rfl rfl ?_
 rintro x s2 ⟨v1, c1, c2, c3, c4, c5⟩
 have hmg := Eh (st := s.enter) c1.next c5 rfl
 have hn2 : s.next ≤ s2.next := c1.next
 refine ⟨c1.next, fun b hb => ?_, fun nl2 => ?_⟩
 ·rcases c1.log b hb with h | ⟨h, _⟩
  ·cases h
  ·exact h
 have hch := Chg.merged (st := s.enter) c1
 have hlg := Loggd.region (st := s.enter) c1.next c5 (Qj _)
 generalize hs1 : s.enter.merged s2 = s1 at *
 have hnx : s1.next = s2.next := by rw [← hs1]; rfl
 have hg1 : s1.heap.get b0 = some (.cells [.ptr b0 0, v1] 104 false) := (hmg b0 (by omega)).trans c2
 have hb1 : BufR s1 5 v1 (w ++ joinS [32] l) := c3.keep (Nat.le_of_eq hnx.symm) fun c hc => hmg c (c3.own hc)
 refine Ay <| Ao <| qm rfl <| Lq (AF rfl rfl rfl) rfl <| Lq (of f_104_0 rfl) rfl ?_
 have hov1 : ownB b0 v1 = false := by
  cases h : ownB b0 v1 with
  | false => rfl
  | true =>
   rcases c4 b0 h with h | h
   ·rw [h] at hov; cases hov
   ·have : s.enter.next = s.next := rfl
    omega
 refine AJ rfl rfl (by kernel_rfl) rfl rfl rfl rfl (byte_run hK6 hK2 (x := 10) hg1 (.inr rfl) (by omega) hb1 hov1 (by rw [Qm]; omega) ?_)
 intro s3 v3 d1 d2 d3 d4 d6 d5
 have hbd : s1.bound = s.next := by rw [← hs1]; rfl
 have hall : Chg s.enter s3 (fun c => c = b0 ∨ ownB c bv = true) := hch.trans d1 (fun _ h => h) (fun c h => h.elim (fun h => .inl (.inl h)) fun h => (c4 c h).imp .inr id) (Qj _)
 have hsn : s.enter.next = s.next := rfl
 refine Ld ?_
 refine ⟨.inr rfl, rfl, fun h => absurd h (d6 (by omega)), hR _ v3 hall.back d2 d3 (fun c hc => ?_) fun h => Loggd.back (hlg.trans (d5 (by omega))) h⟩
 rcases d4 c hc with h | h
 ·rcases c4 c h with h | h
  ·exact .inl h
  ·exact .inr (by omega)
 ·exact .inr (by omega)
end
end Go.Proofs.YtpihdbhocgcbpaaGreatDoor.Gl
