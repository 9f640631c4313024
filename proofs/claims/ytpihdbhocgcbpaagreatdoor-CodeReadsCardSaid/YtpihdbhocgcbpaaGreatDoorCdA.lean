/- Code: the types; strings, names, registers. -/
import Derived.Test.YtpihdbhocgcbpaaGreatDoorAmG
import Derived.Test.YtpihdbhocgcbpaaGreatDoorProg
import Derived.KernelRfl
set_option linter.unusedSectionVars false
set_option linter.unusedVariables false
set_option linter.unusedSimpArgs false
open Go Am
namespace Go.Proofs.YtpihdbhocgcbpaaGreatDoor
noncomputable abbrev EKm (m:Nat) (K:FuncId→List AV→Option AV):Env:=envK Tryz.prog 1200 1200 m K
noncomputable abbrev EK (K:FuncId→List AV→Option AV):Env:=EKm 0 K
section
variable {K : FuncId → List AV → Option AV} {m : Nat}
theorem u_3:und (EKm m K) 3=some (.int .i64):=by kernel_rfl
theorem Bf:Am.sizeOf (EKm m K) 3=some 1:=by kernel_rfl
theorem B3:Am.isAgg (EKm m K) 3=some false:=by kernel_rfl
theorem z_3:Am.zeroOf (EKm m K) 3=some (.int .i64 0):=by kernel_rfl
theorem by_3:bytesOf (EKm m K) 3=some 8:=by kernel_rfl
theorem sz_4:Am.sizeOf (EKm m K) 4=some 1:=by kernel_rfl
theorem z_4:Am.zeroOf (EKm m K) 4=some (.bool false):=by kernel_rfl
theorem u_5:und (EKm m K) 5=some (.int .u8):=by kernel_rfl
theorem u_9:und (EKm m K) 9=some .string:=by kernel_rfl
theorem Bt:Am.sizeOf (EKm m K) 9=some 1:=by kernel_rfl
theorem Fg:Am.isAgg (EKm m K) 9=some false:=by kernel_rfl
theorem z_9:Am.zeroOf (EKm m K) 9=some (.str []):=by kernel_rfl
theorem by_9:bytesOf (EKm m K) 9=some 16:=by kernel_rfl
theorem kd_9:kdOf (EKm m K) 9=some (.one .string):=by kernel_rfl
theorem if_20:isIfaceT (EKm m K) 20=some true:=by kernel_rfl
theorem u_21:und (EKm m K) 21=some (.int .i32):=by kernel_rfl
theorem DY:und (EKm m K) 22=some (.slice 54):=by kernel_rfl
theorem B2:Am.sizeOf (EKm m K) 22=some 1:=by kernel_rfl
theorem B4:Am.isAgg (EKm m K) 22=some false:=by kernel_rfl
theorem BU:fieldOf (EKm m K) 24 0=some (0,1,false):=by kernel_rfl
theorem BT:fieldOf (EKm m K) 24 1=some (1,1,false):=by kernel_rfl
theorem sz_24:Am.sizeOf (EKm m K) 24=some 2:=by kernel_rfl
theorem ag_24:Am.isAgg (EKm m K) 24=some true:=by kernel_rfl
theorem u_25:und (EKm m K) 25=some (.slice 58):=by kernel_rfl
theorem Dc:Am.sizeOf (EKm m K) 25=some 1:=by kernel_rfl
theorem Du:Am.isAgg (EKm m K) 25=some false:=by kernel_rfl
theorem D6:und (EKm m K) 26=some (.slice 3):=by kernel_rfl
theorem BC:Am.sizeOf (EKm m K) 26=some 1:=by kernel_rfl
theorem Dn:Am.isAgg (EKm m K) 26=some false:=by kernel_rfl
theorem DI:fieldOf (EKm m K) 28 0=some (0,2,true):=by kernel_rfl
theorem Bp:fieldOf (EKm m K) 28 1=some (2,1,false):=by kernel_rfl
theorem ES:fieldOf (EKm m K) 28 2=some (3,1,false):=by kernel_rfl
theorem Bg:Am.sizeOf (EKm m K) 28=some 4:=by kernel_rfl
theorem DU:Am.isAgg (EKm m K) 28=some true:=by kernel_rfl
theorem z_28:Am.zeroOf (EKm m K) 28=some (.agg [.nilslice,.nilslice,.nilslice,.nilslice]):=by kernel_rfl
theorem pl_28:Am.buildPlan (EKm m K) 28=some ([.nilslice,.nilslice,.nilslice,.nilslice],nth [(0,2),(2,1),(3,1)]):=by kernel_rfl
theorem u_31:und (EKm m K) 31=some (.int .i64):=by kernel_rfl
theorem u_37:und (EKm m K) 37=some (.int .i64):=by kernel_rfl
theorem sz_37:Am.sizeOf (EKm m K) 37=some 1:=by kernel_rfl
theorem ag_37:Am.isAgg (EKm m K) 37=some false:=by kernel_rfl
theorem st_54:isStructT (EKm m K) 54=true:=by kernel_rfl
theorem f_54_0:fieldOf (EKm m K) 54 0=some (0,1,false):=by kernel_rfl
theorem f_54_1:fieldOf (EKm m K) 54 1=some (1,1,false):=by kernel_rfl
theorem BS:Am.sizeOf (EKm m K) 54=some 2:=by kernel_rfl
theorem ag_54:Am.isAgg (EKm m K) 54=some true:=by kernel_rfl
theorem z_54:Am.zeroOf (EKm m K) 54=some (.agg [.str [],.int .i64 0]):=by kernel_rfl
theorem by_54:bytesOf (EKm m K) 54=some 24:=by kernel_rfl
theorem kd_54:kdOf (EKm m K) 54=some (.flat [.string,.int .i64]):=by kernel_rfl
theorem pl_54:Am.buildPlan (EKm m K) 54=some ([.str [],.int .i64 0],nth [(0,1),(1,1)]):=by kernel_rfl
theorem BB:und (EKm m K) 55=some (.int .i64):=by kernel_rfl
theorem DN:Am.sizeOf (EKm m K) 55=some 1:=by kernel_rfl
theorem DT:Am.isAgg (EKm m K) 55=some false:=by kernel_rfl
theorem u_56:und (EKm m K) 56=some (.slice 60):=by kernel_rfl
theorem E7:Am.sizeOf (EKm m K) 56=some 1:=by kernel_rfl
theorem ag_56:Am.isAgg (EKm m K) 56=some false:=by kernel_rfl
theorem B1:fieldOf (EKm m K) 58 0=some (0,1,false):=by kernel_rfl
theorem DZ:fieldOf (EKm m K) 58 1=some (1,1,false):=by kernel_rfl
theorem D5:fieldOf (EKm m K) 58 2=some (2,1,false):=by kernel_rfl
theorem Em:fieldOf (EKm m K) 58 3=some (3,1,false):=by kernel_rfl
theorem f_58_4:fieldOf (EKm m K) 58 4=some (4,1,false):=by kernel_rfl
theorem BY:fieldOf (EKm m K) 58 5=some (5,1,false):=by kernel_rfl
theorem f_58_6:fieldOf (EKm m K) 58 6=some (6,1,false):=by kernel_rfl
theorem AP:Am.sizeOf (EKm m K) 58=some 7:=by kernel_rfl
theorem Dy:Am.isAgg (EKm m K) 58=some true:=by kernel_rfl
theorem z_58:Am.zeroOf (EKm m K) 58=some (.agg [.int .i64 0,.int .i64 0,.nilslice,.nilslice,.int .i64 0,.int .i64 0,.nilslice]):=by kernel_rfl
theorem by_58:bytesOf (EKm m K) 58=some 104:=by kernel_rfl
theorem pl_58:Am.buildPlan (EKm m K) 58=some ([.int .i64 0,.int .i64 0,.nilslice,.nilslice,.int .i64 0,.int .i64 0,.nilslice],nth [(0,1),(1,1),(2,1),(3,1),(4,1),(5,1),(6,1)]):=by kernel_rfl
theorem st_60:isStructT (EKm m K) 60=true:=by kernel_rfl
theorem f_60_0:fieldOf (EKm m K) 60 0=some (0,1,false):=by kernel_rfl
theorem f_60_1:fieldOf (EKm m K) 60 1=some (1,1,false):=by kernel_rfl
theorem sz_60:Am.sizeOf (EKm m K) 60=some 2:=by kernel_rfl
theorem ag_60:Am.isAgg (EKm m K) 60=some true:=by kernel_rfl
theorem z_60:Am.zeroOf (EKm m K) 60=some (.agg [.int .i64 0,.int .i64 0]):=by kernel_rfl
theorem by_60:bytesOf (EKm m K) 60=some 16:=by kernel_rfl
theorem kd_60:kdOf (EKm m K) 60=some (.flat [.int .i64,.int .i64]):=by kernel_rfl
theorem pl_60:Am.buildPlan (EKm m K) 60=some ([.int .i64 0,.int .i64 0],nth [(0,1),(1,1)]):=by kernel_rfl
theorem AI:und (EKm m K) 106=some (.slice 9):=by kernel_rfl
theorem EN:Am.sizeOf (EKm m K) 106=some 1:=by kernel_rfl
theorem ag_106:Am.isAgg (EKm m K) 106=some false:=by kernel_rfl
theorem u_108:und (EKm m K) 108=some (.array 7 9):=by kernel_rfl
theorem if_111:isIfaceT (EKm m K) 111=some true:=by kernel_rfl
theorem f_114_0:fieldOf (EKm m K) 114 0=some (0,1,false):=by kernel_rfl
theorem f_114_1:fieldOf (EKm m K) 114 1=some (1,1,false):=by kernel_rfl
theorem sz_114:Am.sizeOf (EKm m K) 114=some 2:=by kernel_rfl
theorem z_114:Am.zeroOf (EKm m K) 114=some (.agg [.int .i64 0,.nilslice]):=by kernel_rfl
theorem if_114:isIfaceT (EKm m K) 114=some false:=by kernel_rfl
theorem pl_114:Am.buildPlan (EKm m K) 114=some ([.int .i64 0,.nilslice],nth [(0,1),(1,1)]):=by kernel_rfl
theorem f_117_0:fieldOf (EKm m K) 117 0=some (0,1,false):=by kernel_rfl
theorem sz_117:Am.sizeOf (EKm m K) 117=some 1:=by kernel_rfl
theorem z_117:Am.zeroOf (EKm m K) 117=some (.agg [.nilslice]):=by kernel_rfl
theorem if_117:isIfaceT (EKm m K) 117=some false:=by kernel_rfl
theorem pl_117:Am.buildPlan (EKm m K) 117=some ([.nilslice],nth [(0,1)]):=by kernel_rfl
theorem f_119_0:fieldOf (EKm m K) 119 0=some (0,1,false):=by kernel_rfl
theorem Di:fieldOf (EKm m K) 119 1=some (1,1,false):=by kernel_rfl
theorem f_119_2:fieldOf (EKm m K) 119 2=some (2,1,false):=by kernel_rfl
theorem sz_119:Am.sizeOf (EKm m K) 119=some 3:=by kernel_rfl
theorem ag_119:Am.isAgg (EKm m K) 119=some true:=by kernel_rfl
theorem z_119:Am.zeroOf (EKm m K) 119=some (.agg [.int .i64 0,.int .i64 0,.nilslice]):=by kernel_rfl
theorem if_119:isIfaceT (EKm m K) 119=some false:=by kernel_rfl
theorem pl_119:Am.buildPlan (EKm m K) 119=some ([.int .i64 0,.int .i64 0,.nilslice],nth [(0,1),(1,1),(2,1)]):=by kernel_rfl
theorem f_121_0:fieldOf (EKm m K) 121 0=some (0,1,false):=by kernel_rfl
theorem if_121:isIfaceT (EKm m K) 121=some false:=by kernel_rfl
theorem pl_121:Am.buildPlan (EKm m K) 121=some ([.int .i64 0],nth [(0,1)]):=by kernel_rfl
theorem sz_146:Am.sizeOf (EKm m K) 146=some 1:=by kernel_rfl
theorem ag_146:Am.isAgg (EKm m K) 146=some false:=by kernel_rfl
theorem z_146:Am.zeroOf (EKm m K) 146=some .nilfunc:=by kernel_rfl
theorem u_155:und (EKm m K) 155=some (.map 9 4):=by kernel_rfl
theorem sz_155:Am.sizeOf (EKm m K) 155=some 1:=by kernel_rfl
theorem ag_155:Am.isAgg (EKm m K) 155=some false:=by kernel_rfl
theorem z_155:Am.zeroOf (EKm m K) 155=some .nilmap:=by kernel_rfl
theorem if_166:isIfaceT (EKm m K) 166=some false:=by kernel_rfl
theorem pl_166:Am.buildPlan (EKm m K) 166=some ([],nth []):=by kernel_rfl
theorem if_167:isIfaceT (EKm m K) 167=some false:=by kernel_rfl
theorem pl_167:Am.buildPlan (EKm m K) 167=some ([],nth []):=by kernel_rfl
theorem sz_181:Am.sizeOf (EKm m K) 181=some 0:=by kernel_rfl
theorem z_181:Am.zeroOf (EKm m K) 181=some (.agg []):=by kernel_rfl
theorem if_181:isIfaceT (EKm m K) 181=some false:=by kernel_rfl
theorem pl_181:Am.buildPlan (EKm m K) 181=some ([],nth []):=by kernel_rfl
theorem Fe:fieldOf (EKm m K) 184 0=some (0,4,true):=by kernel_rfl
theorem DS:fieldOf (EKm m K) 184 1=some (4,1,false):=by kernel_rfl
theorem pl_184:Am.buildPlan (EKm m K) 184=some ([.nilslice,.nilslice,.nilslice,.nilslice,.nilslice],nth [(0,4),(4,1)]):=by kernel_rfl
theorem sz_185:Am.sizeOf (EKm m K) 185=some 1:=by kernel_rfl
theorem ag_185:Am.isAgg (EKm m K) 185=some false:=by kernel_rfl
theorem u_222:und (EKm m K) 222=some (.array 3 185):=by kernel_rfl
theorem sz_222:Am.sizeOf (EKm m K) 222=some 3:=by kernel_rfl
theorem z_222:Am.zeroOf (EKm m K) 222=some (.agg [.nilfunc,.nilfunc,.nilfunc]):=by kernel_rfl
theorem pl_222:Am.buildPlan (EKm m K) 222=some ([.nilfunc,.nilfunc,.nilfunc],fun i=>some (i*1,1)):=by kernel_rfl
theorem m_114_registers:methodOf (EKm m K) 114 "swingle/code.registers" =some (341,.mk none none):=by kernel_rfl
theorem m_117_registers:methodOf (EKm m K) 117 "swingle/code.registers" =some (342,.mk none none):=by kernel_rfl
theorem m_119_registers:methodOf (EKm m K) 119 "swingle/code.registers" =some (343,.mk none none):=by kernel_rfl
theorem m_121_registers:methodOf (EKm m K) 121 "swingle/code.registers" =some (344,.mk none none):=by kernel_rfl
theorem m_166_registers:methodOf (EKm m K) 166 "swingle/code.registers" =some (345,.mk none none):=by kernel_rfl
theorem m_167_registers:methodOf (EKm m K) 167 "swingle/code.registers" =some (346,.mk none none):=by kernel_rfl
end
def K0:FuncId→List AV→Option AV:=fun f args=>match f with
 |10=>match args with
  | []=>some (.bool true)
  |_=>none
 |_=>none
theorem AB:ProgOk Tryz.prog 1200 1200:=⟨dT (by kernel_rfl),dT (by kernel_rfl),by kernel_rfl,by kernel_rfl⟩
theorem K0_known (h:KnownF Tryz.prog 10 [] (.bool true)):KnownAll Tryz.prog K0:=by
 intro f args v hv
 unfold K0 at hv
 split at hv
 ·split at hv
  ·cases hv;exact h
  ·cases hv
 ·cases hv
def inV (n a b:Int):Bool:=decide (a≤n)&&decide (n≤b)
section
variable {K : FuncId → List AV → Option AV} (n a b : Int)
theorem in0_to (hK:K 76=fun _=>none):CallTo (EK K) 76 [.int .i64 n,.int .i64 a,.int .i64 b] S0 (.bool (inV n a b)):=by
 refine Ax (fn:=Tryz.f76) U (by show K 76 _=none;rw[hK]) (by kernel_rfl) U U U U ?_
 focus
  refine Es<|qa rfl<|Ld<|Es ?_
  iterate 2 refine qm U ?_
  refine Lq (o2 u_3 U U) rfl<|qm U ?_
  refine Lb U (fun g1=>?_) (fun g1=>?_)
  have h1:=dT g1
  iterate 2 refine Lh U ‹_› (om U) ?_
  refine Lh U ‹_› (o2 u_3 U U)<|Lq (oT U ‹_› U) rfl<|qa rfl<|Ld ?_
  refine Aa (Er U ?_)
  refine Ah ?_
  rotate_left
  have h1:=dF g1
  iterate 3 refine Lk U ‹_› ?_
  refine Lq (oF U ‹_› U) rfl<|qa rfl<|Ld ?_
  refine Aa (Er U ?_)
  refine Ah ?_
  rotate_left
 all_goals (unfold inV;rw[g1];rfl)
theorem in1_to (hK:K 43=fun _=>none):CallTo (EK K) 43 [.int .i64 n,.int .i64 a,.int .i64 b] S0 (.bool (inV n a b)):=by
 refine Ax (fn:=Tryz.f43) U (by show K 43 _=none;rw[hK]) (by kernel_rfl) U U U U ?_
 focus
  refine Es<|qa rfl<|Ld<|Es ?_
  iterate 2 refine qm U ?_
  refine Lq (o2 u_3 U U) rfl<|qm U ?_
  refine Lb U (fun g1=>?_) (fun g1=>?_)
  have h1:=dT g1
  iterate 2 refine Lh U ‹_› (om U) ?_
  refine Lh U ‹_› (o2 u_3 U U)<|Lq (oT U ‹_› U) rfl<|qa rfl<|Ld ?_
  refine Aa (Er U ?_)
  refine Ah ?_
  rotate_left
  have h1:=dF g1
  iterate 3 refine Lk U ‹_› ?_
  refine Lq (oF U ‹_› U) rfl<|qa rfl<|Ld ?_
  refine Aa (Er U ?_)
  refine Ah ?_
  rotate_left
 all_goals (unfold inV;rw[g1];rfl)
theorem in2_to (hK:K 104=fun _=>none):CallTo (EK K) 104 [.int .i64 n,.int .i64 a,.int .i64 b] S0 (.bool (inV n a b)):=by
 refine Ax (fn:=Tryz.f104) U (by show K 104 _=none;rw[hK]) (by kernel_rfl) U U U U ?_
 focus
  refine Es<|qa rfl<|Ld<|Es ?_
  iterate 2 refine qm U ?_
  refine Lq (o2 u_3 U U) rfl<|qm U ?_
  refine Lb U (fun g1=>?_) (fun g1=>?_)
  have h1:=dT g1
  iterate 2 refine Lh U ‹_› (om U) ?_
  refine Lh U ‹_› (o2 u_3 U U)<|Lq (oT U ‹_› U) rfl<|qa rfl<|Ld ?_
  refine Aa (Er U ?_)
  refine Ah ?_
  rotate_left
  have h1:=dF g1
  iterate 3 refine Lk U ‹_› ?_
  refine Lq (oF U ‹_› U) rfl<|qa rfl<|Ld ?_
  refine Aa (Er U ?_)
  refine Ah ?_
  rotate_left
 all_goals (unfold inV;rw[g1];rfl)
theorem in3_to (hK:K 37=fun _=>none):CallTo (EK K) 37 [.int .i64 n,.int .i64 a,.int .i64 b] S0 (.bool (inV n a b)):=by
 refine Ax (fn:=Tryz.f37) U (by show K 37 _=none;rw[hK]) (by kernel_rfl) U U U U ?_
 focus
  refine Es<|qa rfl<|Ld<|Es ?_
  iterate 2 refine qm U ?_
  refine Lq (o2 u_3 U U) rfl<|qm U ?_
  refine Lb U (fun g1=>?_) (fun g1=>?_)
  have h1:=dT g1
  iterate 2 refine Lh U ‹_› (om U) ?_
  refine Lh U ‹_› (o2 u_3 U U)<|Lq (oT U ‹_› U) rfl<|qa rfl<|Ld ?_
  refine Aa (Er U ?_)
  refine Ah ?_
  rotate_left
  have h1:=dF g1
  iterate 3 refine Lk U ‹_› ?_
  refine Lq (oF U ‹_› U) rfl<|qa rfl<|Ld ?_
  refine Aa (Er U ?_)
  refine Ah ?_
  rotate_left
 all_goals (unfold inV;rw[g1];rfl)
end
noncomputable def K1a:=addC K0 76 (fun p:Int×Int×Int=>[.int .i64 p.1,.int .i64 p.2.1,.int .i64 p.2.2]) (fun p=> .bool (inV p.1 p.2.1 p.2.2))
noncomputable def K1b:=addC K1a 43 (fun p:Int×Int×Int=>[.int .i64 p.1,.int .i64 p.2.1,.int .i64 p.2.2]) (fun p=> .bool (inV p.1 p.2.1 p.2.2))
noncomputable def K1c:=addC K1b 104 (fun p:Int×Int×Int=>[.int .i64 p.1,.int .i64 p.2.1,.int .i64 p.2.2]) (fun p=> .bool (inV p.1 p.2.1 p.2.2))
noncomputable def K1:=addC K1c 37 (fun p:Int×Int×Int=>[.int .i64 p.1,.int .i64 p.2.1,.int .i64 p.2.2]) (fun p=> .bool (inV p.1 p.2.1 p.2.2))
section
variable {n a b : Int}
theorem hit_76:K1a 76 [.int .i64 n,.int .i64 a,.int .i64 b]=some (.bool (inV n a b)):=A2 (f:=76) (enc:=fun p:Int×Int×Int=>[.int .i64 p.1,.int .i64 p.2.1,.int .i64 p.2.2]) (res:=fun p=> .bool (inV p.1 p.2.1 p.2.2)) (by rintro⟨a,b,c⟩ ⟨d,e,f⟩ h;cases h;rfl) (n,a,b)
theorem hit_43:K1b 43 [.int .i64 n,.int .i64 a,.int .i64 b]=some (.bool (inV n a b)):=A2 (f:=43) (enc:=fun p:Int×Int×Int=>[.int .i64 p.1,.int .i64 p.2.1,.int .i64 p.2.2]) (res:=fun p=> .bool (inV p.1 p.2.1 p.2.2)) (by rintro⟨a,b,c⟩ ⟨d,e,f⟩ h;cases h;rfl) (n,a,b)
theorem hit_104:K1c 104 [.int .i64 n,.int .i64 a,.int .i64 b]=some (.bool (inV n a b)):=A2 (f:=104) (enc:=fun p:Int×Int×Int=>[.int .i64 p.1,.int .i64 p.2.1,.int .i64 p.2.2]) (res:=fun p=> .bool (inV p.1 p.2.1 p.2.2)) (by rintro⟨a,b,c⟩ ⟨d,e,f⟩ h;cases h;rfl) (n,a,b)
theorem hit_37:K1 37 [.int .i64 n,.int .i64 a,.int .i64 b]=some (.bool (inV n a b)):=A2 (f:=37) (enc:=fun p:Int×Int×Int=>[.int .i64 p.1,.int .i64 p.2.1,.int .i64 p.2.2]) (res:=fun p=> .bool (inV p.1 p.2.1 p.2.2)) (by rintro⟨a,b,c⟩ ⟨d,e,f⟩ h;cases h;rfl) (n,a,b)
end
theorem all1 (h:KnownF Tryz.prog 10 [] (.bool true)):KnownAll Tryz.prog K1:=by
 have a0:=K0_known h
 have a1:KnownAll Tryz.prog K1a:=BH a0 fun p=>DQ AB a0 (in0_to p.1 p.2.1 p.2.2 rfl) rfl rfl
 have a2:KnownAll Tryz.prog K1b:=BH a1 fun p=>DQ AB a1 (in1_to p.1 p.2.1 p.2.2 rfl) rfl rfl
 have a3:KnownAll Tryz.prog K1c:=BH a2 fun p=>DQ AB a2 (in2_to p.1 p.2.1 p.2.2 rfl) rfl rfl
 exact BH a3 fun p=>DQ AB a3 (in3_to p.1 p.2.1 p.2.2 U) U U
def letterV (n:Int):Bool:=(decide (97≤n)&&decide (n≤122))||(decide (65≤n)&&decide (n≤90))
def nameV (w:List UInt8):Bool:=decide (tw letterV w=w.length)&&inV w.length 1 8
theorem nameV_short {w:List UInt8} (h:tw letterV w<w.length):nameV w=false:=by
 unfold nameV
 rw[decide_eq_false (by omega)];rfl
theorem EB {w:List UInt8} {i:Nat} (hi:i≤tw letterV w) (h:i<w.length) (hn:letterV (w.getD i 0).toNat=false):nameV w=false:=
 nameV_short (by
  have:=(tw_step hi h).2
  have:¬i<tw letterV w:=fun hlt=>by rw[this hlt]at hn;cases hn
  omega)
theorem letter_yes {w:List UInt8} {i:Nat} (hi:i≤tw letterV w) (h:i<w.length) (hn:letterV (w.getD i 0).toNat=true):i+1≤tw letterV w:=(tw_step hi h).1 hn
theorem letter_iff (n:Int):letterV n=true↔(97≤n∧n≤122)∨(65≤n∧n≤90):=by
 unfold letterV
 simp only[Bool.or_eq_true,Qf,decide_eq_true_eq]
theorem letter_of {n:Int} (h:(97≤n∧n≤122)∨(65≤n∧n≤90)):letterV n=true:=(letter_iff n).2 h
theorem Ed {n:Int} (h:¬((97≤n∧n≤122)∨(65≤n∧n≤90))):letterV n=false:=by
 cases hb:letterV n with
 |false=>rfl
 |true=>exact absurd ((letter_iff n).1 hb) h
theorem name_to (w:List UInt8) (hw:w.length≤4000):CallTo (EK K1) 140 [.str w] S0 (.bool (nameV w)):=by
 refine Ax (fn:=Tryz.f140) U U (by kernel_rfl) U U U U ?_
 have hle:=tw_le letterV w
 refine Es<|qa rfl<|Ld<|Ab<|Es<|qa rfl<|Ld<|Af ?_
 refine A5 (fun i:Nat=>([(3,.int .i64 (i:Nat)),(0,.str w)],mkS 0 0 [] [])) (fun i=>w.length-i) (fun i=>i≤tw letterV w) 0 (Qn _) U (by(refine Am.Av ?_;repeat (first|exact trivial|refine⟨rfl,?_⟩))) fun i hi=>?_
 focus
  refine Ab<|Es ?_
  iterate 2 refine qm U ?_
  refine Lq (Aw U U U U u_9 U) rfl<|Lq (o2 u_3 U U) rfl<|Ld ?_
  refine Ec U (fun g1=>?_) (fun g1=>?_)
  have h1:=dT g1
  refine Ae<|Ab<|Af<|Es ?_
  iterate 2 refine qm U ?_
  refine Lq (A7 U u_9 U U (by first|assumption|omega|(simp only[LL];omega))) U ?_
  refine Lq (o2 u_5 U U) rfl<|qm U ?_
  refine Lb U (fun g2=>?_) (fun g2=>?_)
  have h2:=dT g2
  iterate 4 refine Lk U ‹_› ?_
  refine Lq (oT U ‹_› U) rfl<|qm U ?_
  iterate 2 refine Lh U U (om U) ?_
  refine Lh U U (A7 U u_9 U U (by first|assumption|omega|(simp only[LL];omega))) ?_
  refine Lh U U (o2 u_5 U U)<|Lh U U (om U) ?_
  refine Lb U (fun g3=>?_) (fun g3=>?_)
  have h3:=dT g3
  iterate 4 refine Lk U ‹_› ?_
  refine Lh U U (oT U ‹_› U)<|Lq (oT U U U) rfl<|Ld<|Ai U rfl<|Es<|qa rfl<|Ld ?_
  refine Aa (Er U ?_)
  refine Ah ?_
  rotate_left
  have h3:=dF g3
  iterate 2 refine Lh U ‹_› (om U) ?_
  refine Lh U ‹_› (A7 U u_9 U U (by first|assumption|omega|(simp only[LL];omega))) ?_
  refine Lh U ‹_› (o2 u_5 U U)<|Lh U U (oF U ‹_› U)<|Lq (oT U U U) rfl<|Ld ?_
  refine Ec U (fun g4=>?_) (fun g4=>?_)
  have h4:=dT g4
  refine Es<|qa rfl<|Ld ?_
  refine Aa (Er U ?_)
  refine Ah ?_
  rotate_left
  have h4:=dF g4
  refine Ae<|Ao<|qm U ?_
  refine Lq (A0 (b:=1) U u_3 U U (by first|assumption|omega|(simp only[LL];omega))) U ?_
  refine qa rfl<|Ld ?_
  rotate_left
  have h2:=dF g2
  iterate 2 refine Lh U ‹_› (om U) ?_
  refine Lh U ‹_› (A7 U u_9 U U (by first|assumption|omega|(simp only[LL];omega))) ?_
  refine Lh U ‹_› (o2 u_5 U U)<|Lq (oF U ‹_› U) rfl<|qm U ?_
  refine Lb U (fun g5=>?_) (fun g5=>?_)
  have h5:=dT g5
  iterate 2 refine Lh U ‹_› (om U) ?_
  refine Lh U ‹_› (A7 U u_9 U U (by first|assumption|omega|(simp only[LL];omega))) ?_
  refine Lh U ‹_› (o2 u_5 U U)<|Lh U ‹_› (om U) ?_
  refine Lb U (fun g6=>?_) (fun g6=>?_)
  have h6:=dT g6
  exact absurd h6 (by omega)
  have h6:=dF g6
  iterate 2 refine Lh U ‹_› (om U) ?_
  refine Lh U ‹_› (A7 U u_9 U U (by first|assumption|omega|(simp only[LL];omega))) ?_
  refine Lh U ‹_› (o2 u_5 U U)<|Lh U ‹_› (oF U ‹_› U)<|Lq (oT U ‹_› U) rfl<|Ld ?_
  refine Ec U (fun g7=>?_) (fun g7=>?_)
  have h7:=dT g7
  refine Es<|qa rfl<|Ld ?_
  refine Aa (Er U ?_)
  refine Ah ?_
  rotate_left
  have h7:=dF g7
  exact absurd h7 (by omega)
  have h5:=dF g5
  iterate 5 refine Lk U ‹_› ?_
  iterate 4 refine DL U U U U U U ?_
  refine Lk U ‹_›<|Lq (oF U ‹_› U) rfl<|Ld<|Ap U rfl<|Ae<|Ao<|qm U ?_
  refine Lq (A0 (b:=1) U u_3 U U (by first|assumption|omega|(simp only[LL];omega))) U ?_
  refine qa rfl<|Ld ?_
  rotate_left
  have h1:=dF g1
  refine A9<|Bq rfl<|Es<|qm rfl<|Lq (Aw U U U U u_9 U) U ?_
  refine Lo (Ad U U (by kernel_rfl) U (Ac (hit_104))) rfl<|qa rfl<|Ld ?_
  refine Aa (Er U ?_)
  refine Ah ?_
  rotate_left
 ·exact(EB hi (by omega) (Ed (by omega))).symm
 ·exact(EB hi (by omega) (Ed (by omega))).symm
 ·exact⟨i+1,letter_yes hi (by omega) (letter_of (by omega)),by show w.length-(i+1)<w.length-i;omega,rfl,rfl,by(refine Am.Av ?_;repeat (first|exact trivial|refine⟨rfl,?_⟩))⟩
 ·exact(EB hi (by omega) (Ed (by omega))).symm
 ·exact⟨i+1,letter_yes hi (by omega) (letter_of (by omega)),by show w.length-(i+1)<w.length-i;omega,rfl,rfl,by(refine Am.Av ?_;repeat (first|exact trivial|refine⟨rfl,?_⟩))⟩
 ·have e:tw letterV w=w.length:=by omega
  unfold nameV
  rw[decide_eq_true e];rfl
noncomputable def K1n:=addC K1 140 (fun w: {w:List UInt8//w.length≤4000}=>[.str w.1]) (fun w=> .bool (nameV w.1))
theorem hit_140 {w:List UInt8} (hw:w.length≤4000):K1n 140 [.str w]=some (.bool (nameV w)):=
 A2 (f:=140) (enc:=fun w: {w:List UInt8//w.length≤4000}=>[.str w.1]) (res:=fun w=> .bool (nameV w.1)) (by rintro⟨a,_⟩ ⟨b,_⟩ h;cases h;rfl) ⟨w,hw⟩
theorem spelled_to (w:List UInt8) (hw:w.length≤4000):CallTo (EK K1n) 75 [.str w] S0 (.bool (nameV w)):=by
 refine Ax (fn:=Tryz.f75) U U (by kernel_rfl) U U U U ?_
 have hle:=tw_le letterV w
 refine Es<|qa rfl<|Ld<|Ab<|Es<|qm rfl<|Lo (OpL.rangeStrS 1 U u_9 U U) rfl<|Ld ?_
 refine Af ?_
 refine A5 (fun x:Nat×St=>([(6,.ptr 0 0),(0,.str w)],x.2)) (fun x=>w.length-x.1) (fun x=>x.1≤tw letterV w∧x.2.bound=0∧x.2.log=[]∧x.2.heap.get 0=some (.siter w x.1)) (0,mkS 1 0 [] [(0,some (.siter w 0))]) ⟨Qn _,rfl,rfl,Dx 0⟩ U (by(refine Am.Av ?_;repeat (first|exact trivial|refine⟨rfl,?_⟩))) ?_
 rintro⟨i,st⟩ ⟨hi,hbd,hlg,hg⟩
 dsimp only at hi hbd hlg hg⊢
 refine Es ?_
 rcases Nat.lt_or_ge i w.length with h|h
 ·by_cases hc:(w.getD i 0).toNat<128
  ·refine Lo (OpL.nextOne U U hg h hc) U ?_
   focus
    refine Lq (oe U) rfl<|Ld<|Ab<|Ai U rfl<|Ae<|Af<|Es<|Lq (oe U) U ?_
    refine qa rfl<|Ld<|Es<|qm rfl<|Lq (o2 u_21 U U) rfl<|qm U ?_
    refine Lb U (fun g1=>?_) (fun g1=>?_)
    have h1:=dT g1
    refine Lh U ‹_› (om U)<|Lh U ‹_› (o2 u_21 U U)<|Lq (oT U ‹_› U) rfl<|qm U ?_
    refine Lb U (fun g2=>?_) (fun g2=>?_)
    have h2:=dT g2
    iterate 3 refine Lk U ‹_› ?_
    iterate 2 refine DL U U U U U U ?_
    refine Lk U ‹_›<|Lq (oT U ‹_› U) rfl<|Lq (on U) rfl<|Ld<|Ap U rfl<|Ae ?_
    rotate_left
    have h2:=dF g2
    refine Lh U ‹_› (om U)<|Lh U ‹_› (o2 u_21 U U)<|Lh U ‹_› (om U) ?_
    refine Lb U (fun g3=>?_) (fun g3=>?_)
    have h3:=dT g3
    refine Lh U ‹_› (om U)<|Lh U ‹_› (o2 u_21 U U)<|Lh U ‹_› (oT U ‹_› U)<|Lq (oF U ‹_› U) rfl<|Lq (on U) rfl<|Ld ?_
    refine Ec U (fun g4=>?_) (fun g4=>?_)
    have h4:=nT g4
    refine Es<|qa rfl<|Ld ?_
    rotate_left
    have h4:=nF g4
    exact absurd h4 (by omega)
    have h3:=dF g3
    exact absurd h3 (by omega)
    have h1:=dF g1
    iterate 2 refine Lk U ‹_› ?_
    refine Lq (oF U ‹_› U) rfl<|qm rfl<|Lh U U (om U)<|Lh U U (o2 u_21 U U)<|Lh U U (om U) ?_
    refine Lb U (fun g5=>?_) (fun g5=>?_)
    have h5:=dT g5
    refine Lh U ‹_› (om U)<|Lh U ‹_› (o2 u_21 U U)<|Lh U U (oT U ‹_› U)<|Lq (oF U U U) rfl<|Lq (on U) rfl<|Ld ?_
    refine Ec U (fun g6=>?_) (fun g6=>?_)
    have h6:=nT g6
    refine Es<|qa rfl<|Ld ?_
    rotate_left
    have h6:=nF g6
    refine Ae ?_
    rotate_left
    have h5:=dF g5
    iterate 2 refine Lk U ‹_› ?_
    refine Lh U U (oF U ‹_› U)<|Lq (oF U U U) rfl<|Lq (on U) rfl<|Ld<|Ai U rfl<|Es<|qa rfl<|Ld ?_
    rotate_left
   ·exact⟨(i+1,st.put 0 (some (.siter w (i+1)))),⟨letter_yes hi h (letter_of (by omega)),hbd,(put_low hbd).trans hlg,by rw[Bl,if_pos rfl]⟩,by show w.length-(i+1)<w.length-i;omega,rfl,rfl,by(refine Am.Av ?_;repeat (first|exact trivial|refine⟨rfl,?_⟩))⟩
   ·try refine Aa ⟨.inl rfl,rfl,(put_low hbd).trans hlg,hbd,_,_,_,(Aj rfl rfl),rfl,rfl,?_⟩
    rw[EB hi h (Ed (by omega))];rfl
   ·try refine Aa ⟨.inl rfl,rfl,(put_low hbd).trans hlg,hbd,_,_,_,(Aj rfl rfl),rfl,rfl,?_⟩
    rw[EB hi h (Ed (by omega))];rfl
   ·exact⟨(i+1,st.put 0 (some (.siter w (i+1)))),⟨letter_yes hi h (letter_of (by omega)),hbd,(put_low hbd).trans hlg,by rw[Bl,if_pos rfl]⟩,by show w.length-(i+1)<w.length-i;omega,rfl,rfl,by(refine Am.Av ?_;repeat (first|exact trivial|refine⟨rfl,?_⟩))⟩
   ·try refine Aa ⟨.inl rfl,rfl,(put_low hbd).trans hlg,hbd,_,_,_,(Aj rfl rfl),rfl,rfl,?_⟩
    rw[EB hi h (Ed (by omega))];rfl
  ·obtain⟨r,d,hr,ho⟩:=OpL.nextWide hg h hc
   refine Lo (ho U U) U ?_
   focus
    refine Lq (oe U) rfl<|Ld<|Ab<|Ai U rfl<|Ae<|Af<|Es<|Lq (oe U) U ?_
    refine qa rfl<|Ld<|Es<|qm rfl<|Lq (o2 u_21 U U) rfl<|qm U ?_
    refine Lb U (fun g1=>?_) (fun g1=>?_)
    have h1:=dT g1
    refine Lh U ‹_› (om U)<|Lh U ‹_› (o2 u_21 U U)<|Lq (oT U ‹_› U) rfl<|qm U ?_
    refine Lb U (fun g2=>?_) (fun g2=>?_)
    have h2:=dT g2
    exact absurd h2 (by omega)
    have h2:=dF g2
    refine Lh U ‹_› (om U)<|Lh U ‹_› (o2 u_21 U U)<|Lh U ‹_› (om U) ?_
    refine Lb U (fun g3=>?_) (fun g3=>?_)
    have h3:=dT g3
    refine Lh U ‹_› (om U)<|Lh U ‹_› (o2 u_21 U U)<|Lh U ‹_› (oT U ‹_› U)<|Lq (oF U ‹_› U) rfl<|Lq (on U) rfl<|Ld ?_
    refine Ec U (fun g4=>?_) (fun g4=>?_)
    have h4:=nT g4
    refine Es<|qa rfl<|Ld ?_
    rotate_left
    have h4:=nF g4
    exact absurd h4 (by omega)
    have h3:=dF g3
    exact absurd h3 (by omega)
    have h1:=dF g1
    exact absurd h1 (by omega)
   ·try refine Aa ⟨.inl rfl,rfl,(put_low hbd).trans hlg,hbd,_,_,_,(Aj rfl rfl),rfl,rfl,?_⟩
    rw[EB hi h (Ed (by omega))];rfl
 ·refine Lo (OpL.nextEnd U U hg (by omega)) U ?_
  refine Lq (oe U) rfl<|Ld<|Ab<|Ap U rfl<|A9<|Bq rfl<|Es<|qm U ?_
  refine Lq (Aw U U U U u_9 U) U ?_
  refine Lo (Ad U U (by kernel_rfl) U (Ac (hit_76))) rfl<|qa rfl<|Ld ?_
  refine Aa ⟨.inl U,rfl,‹_›,‹_›,_,_,_,(Aj U U),rfl,rfl,?_⟩
  refine Ah ?_
  try refine Aa ⟨.inl rfl,rfl,hlg,hbd,_,_,_,(Aj rfl rfl),rfl,rfl,?_⟩
  have e:tw letterV w=w.length:=by omega
  unfold nameV
  rw[decide_eq_true e];rfl
noncomputable def K1s:=addC K1n 75 (fun w: {w:List UInt8//w.length≤4000}=>[.str w.1]) (fun w=> .bool (nameV w.1))
theorem hit_75 {w:List UInt8} (hw:w.length≤4000):K1s 75 [.str w]=some (.bool (nameV w)):=
 A2 (f:=75) (enc:=fun w: {w:List UInt8//w.length≤4000}=>[.str w.1]) (res:=fun w=> .bool (nameV w.1)) (by rintro⟨a,_⟩ ⟨b,_⟩ h;cases h;rfl) ⟨w,hw⟩
theorem all1s (h:KnownF Tryz.prog 10 [] (.bool true)):KnownAll Tryz.prog K1s:=by
 have a1:KnownAll Tryz.prog K1n:=BH (all1 h) fun p=>DQ AB (all1 h) (name_to p.1 p.2) rfl rfl
 exact BH a1 fun p=>DQ AB a1 (spelled_to p.1 p.2) U U
theorem flat_inj {α:Type} {enc:α→List AV} {k:Nat} (hi:∀a b,enc a=enc b→a=b) (hl:∀a,(enc a).length=k+1):∀ {l m:List α},l.flatMap enc=m.flatMap enc→l=m
 | [],[],_=>rfl
 | [],b::m,h=>by
  have:=congrArg List.length h
  rw[List.flatMap_cons,Qm,hl b,List.flatMap_nil,List.length_nil]at this
  omega
 |a::l,[],h=>by
  have:=congrArg List.length h
  rw[List.flatMap_cons,Qm,hl a,List.flatMap_nil,List.length_nil]at this
  omega
 |a::l,b::m,h=>by
  rw[List.flatMap_cons,List.flatMap_cons]at h
  obtain⟨h1,h2⟩:=List.append_inj h ((hl a).trans (hl b).symm)
  rw[hi a b h1,flat_inj hi hl h2]
theorem B0 {α:Type} {enc:α→List AV} {k:Nat} (hi:∀a b,enc a=enc b→a=b) (hl:∀a,(enc a).length=k+1) {l m:List α} (h:recs enc (k+1) l=recs enc (k+1) m):l=m:=by
 unfold recs at h
 exact flat_inj hi hl (AV.islice.inj h).1
abbrev NameT:=List UInt8×Int
def encN (p:NameT):List AV:=[.str p.1,.int .i64 p.2]
theorem AU (p:NameT):(encN p).length=1+1:=rfl
theorem Dr (a b:NameT) (h:encN a=encN b):a=b:=by
 obtain⟨a1,a2⟩:=a
 obtain⟨b1,b2⟩:=b
 cases h;rfl
def shortV (l:List NameT) (i:Nat):Bool:=(l.take i).all fun p=>decide (p.1.length≤30)
theorem short_succ {l:List NameT} {i:Nat} (h:i<l.length):shortV l (i+1)=(shortV l i&&decide (l[i].1.length≤30)):=by
 unfold shortV
 rw[List.take_add_one,Qi h,Option.toList_some,List.all_append];simp
theorem short_all {l:List NameT} {i:Nat} (h:shortV l l.length=true) (hi:i≤l.length):shortV l i=true:=by
 unfold shortV at h⊢
 rw[List.take_length]at h
 exact List.all_eq_true.2 fun x hx=>List.all_eq_true.1 h x (List.mem_of_mem_take hx)
theorem short_no {l:List NameT} {i:Nat} (h:i<l.length) (hn:¬l[i].1.length≤30):shortV l l.length=false:=by
 cases hb:shortV l l.length with
 |false=>rfl
 |true=>
  have:=short_all hb h
  rw[short_succ h,decide_eq_false hn,Bool.and_false]at this;cases this
def smallSigV (c f:List NameT):Bool:= !(decide (16<(c.length:Int))||decide (12<(f.length:Int)))&&(shortV c c.length&&shortV f f.length)
theorem smallSig_to (c f:List NameT):CallTo (EK K1s) 25 [.agg [recs encN 2 c,recs encN 2 f]] S0 (.bool (smallSigV c f)):=by
 refine Ax (fn:=Tryz.f25) U U (by kernel_rfl) U U U U ?_
 focus
  refine Es<|Lo (AD 1 U U U U) rfl<|qa rfl<|Ld<|Ab<|Es<|Lq (of BU U) rfl<|Lo (l1 B4 B2 U) U ?_
  refine Lq (ol DY U) rfl<|Lq (o2 u_3 U U) rfl<|qm U ?_
  refine Lb U (fun g1=>?_) (fun g1=>?_)
  have h1:=dT g1
  iterate 4 refine Lk U ‹_› ?_
  refine Lq (oT U ‹_› U) rfl<|Ld<|Ai U rfl<|Es<|qa rfl<|Ld ?_
  refine Aa (Er U ?_)
  refine Ah ?_
  rotate_left
  have h1:=dF g1
  refine Lh U ‹_› (of BT U)<|Lg U ‹_› (l1 B4 B2 U)<|Lh U ‹_› (ol DY U)<|Lh U ‹_› (o2 u_3 U U)<|Lq (oF U ‹_› U) rfl<|Ld ?_
  refine Ec U (fun g2=>?_) (fun g2=>?_)
  have h2:=dT g2
  refine Es<|qa rfl<|Ld ?_
  refine Aa (Er U ?_)
  refine Ah ?_
  rotate_left
  have h2:=dF g2
  refine Ae<|Ab<|Es<|qa rfl<|Ld<|Af ?_
  rotate_left
 ·unfold smallSigV;rw[g1];rfl
 ·unfold smallSigV;rw[g1,g2];rfl
 refine A5 (fun i:Nat=>([(3,.int .i64 (i:Nat)),(1,.ptr 0 0)],mkS 1 0 [] [(0,some (.cells [recs encN 2 c,recs encN 2 f] 24 false))])) (fun i=>c.length-i) (fun i=>i≤c.length∧shortV c i=true) 0 ⟨Qn _,rfl⟩ U (by(refine Am.Av ?_;repeat (first|exact trivial|refine⟨rfl,?_⟩))) ?_
 rintro i ⟨hi,hs⟩
 dsimp only at hi hs⊢
 by_cases h:i<c.length
 ·have hp:=AC AU h
  focus
   refine Ab<|Es<|qm rfl<|Lq (of BU U) rfl<|Lo (l1 B4 B2 U) rfl<|Lq (ol DY U) rfl<|Lq (o2 u_3 U U) rfl<|Ld ?_
   refine Ec U (fun g3=>?_) (fun g3=>?_)
   have h3:=dT g3
   refine Ae<|Ab<|Af<|Es<|Lq (of BU U) rfl<|Lo (l1 B4 B2 U) rfl<|qm rfl<|Lq (Ag U DY BS U U ‹_›) U ?_
   refine Lq (A6 U f_54_0 U (Qc U)) rfl<|Lq (As U U Fg Bt) rfl<|Lq (Aw U U U U u_9 U) rfl<|Lq (o2 u_3 U U) rfl<|Ld ?_
   refine Ec U (fun g4=>?_) (fun g4=>?_)
   have h4:=dT g4
   refine Es<|qa rfl<|Ld ?_
   refine Aa (Er U ?_)
   refine Ah ?_
   rotate_left
   have h4:=dF g4
   refine Ae<|Ao<|qm U ?_
   refine Lq (A0 (b:=1) U u_3 U U (by first|assumption|omega|(simp only[LL];omega))) U ?_
   refine qa rfl<|Ld ?_
   rotate_left
   have h3:=dF g3
   exact absurd h3 (by omega)
  ·have hc:shortV c c.length=false:=short_no h (by omega)
   unfold smallSigV
   rw[hc,Bool.false_and,Bool.and_false]
  ·exact⟨i+1,⟨h,by rw[short_succ h,hs,decide_eq_true (show c[i].1.length≤30 by omega)];rfl⟩,by show c.length-(i+1)<c.length-i;omega,rfl,rfl,by(refine Am.Av ?_;repeat (first|exact trivial|refine⟨rfl,?_⟩))⟩
 ·focus
   refine Ab<|Es<|qm rfl<|Lq (of BU U) rfl<|Lo (l1 B4 B2 U) rfl<|Lq (ol DY U) rfl<|Lq (o2 u_3 U U) rfl<|Ld ?_
   refine Ec U (fun g3=>?_) (fun g3=>?_)
   have h3:=dT g3
   exact absurd h3 (by omega)
   have h3:=dF g3
   refine A9<|Bq rfl<|Ab<|Es<|qa rfl<|Ld<|Af ?_
   rotate_left
  obtain rfl:i=c.length:=by omega
  refine A5 (fun i:Nat=>([(4,.int .i64 (i:Nat)),(1,.ptr 0 0)],mkS 1 0 [] [(0,some (.cells [recs encN 2 c,recs encN 2 f] 24 false))])) (fun i=>f.length-i) (fun i=>i≤f.length∧shortV f i=true) 0 ⟨Qn _,rfl⟩ U (by(refine Am.Av ?_;repeat (first|exact trivial|refine⟨rfl,?_⟩))) ?_
  rintro j ⟨hj,hs2⟩
  dsimp only at hj hs2⊢
  by_cases h2:j<f.length
  ·have hp:=AC AU h2
   focus
    refine Ab<|Es<|qm rfl<|Lq (of BT U) rfl<|Lo (l1 B4 B2 U) rfl<|Lq (ol DY U) rfl<|Lq (o2 u_3 U U) rfl<|Ld ?_
    refine Ec U (fun g4=>?_) (fun g4=>?_)
    have h4:=dT g4
    refine Ae<|Ab<|Af<|Es<|Lq (of BT U) rfl<|Lo (l1 B4 B2 U) rfl<|qm rfl<|Lq (Ag U DY BS U U ‹_›) U ?_
    refine Lq (A6 U f_54_0 U (Qc U)) rfl<|Lq (As U U Fg Bt) rfl<|Lq (Aw U U U U u_9 U) rfl<|Lq (o2 u_3 U U) rfl<|Ld ?_
    refine Ec U (fun g5=>?_) (fun g5=>?_)
    have h5:=dT g5
    refine Es<|qa rfl<|Ld ?_
    refine Aa (Er U ?_)
    refine Ah ?_
    rotate_left
    have h5:=dF g5
    refine Ae<|Ao<|qm U ?_
    refine Lq (A0 (b:=1) U u_3 U U (by first|assumption|omega|(simp only[LL];omega))) U ?_
    refine qa rfl<|Ld ?_
    rotate_left
    have h4:=dF g4
    exact absurd h4 (by omega)
   ·have hc:shortV f f.length=false:=short_no h2 (by omega)
    unfold smallSigV
    rw[hc,Bool.and_false,Bool.and_false]
   ·exact⟨j+1,⟨h2,by rw[short_succ h2,hs2,decide_eq_true (show f[j].1.length≤30 by omega)];rfl⟩,by show f.length-(j+1)<f.length-j;omega,rfl,rfl,by(refine Am.Av ?_;repeat (first|exact trivial|refine⟨rfl,?_⟩))⟩
  ·focus
    refine Ab<|Es<|qm rfl<|Lq (of BT U) rfl<|Lo (l1 B4 B2 U) rfl<|Lq (ol DY U) rfl<|Lq (o2 u_3 U U) rfl<|Ld ?_
    refine Ec U (fun g4=>?_) (fun g4=>?_)
    have h4:=dT g4
    exact absurd h4 (by omega)
    have h4:=dF g4
    refine A9<|Bq rfl<|Es<|qa rfl<|Ld ?_
    refine Aa (Er U ?_)
    refine Ah ?_
    rotate_left
   obtain rfl:j=f.length:=by omega
   unfold smallSigV
   rw[g1,g2,hs,hs2];rfl
noncomputable def K2:=addC K1s 25 (fun p:List NameT×List NameT=>[.agg [recs encN 2 p.1,recs encN 2 p.2]]) (fun p=> .bool (smallSigV p.1 p.2))
theorem encS_inj {p q:List NameT×List NameT} (h:([.agg [recs encN 2 p.1,recs encN 2 p.2]]:List AV)=[.agg [recs encN 2 q.1,recs encN 2 q.2]]):p=q:=by
 simp only[List.cons.injEq,AV.agg.injEq,and_true]at h
 exact Prod.ext (B0 Dr AU h.1) (B0 Dr AU h.2)
theorem hit_25 {c f:List NameT}:K2 25 [.agg [recs encN 2 c,recs encN 2 f]]=some (.bool (smallSigV c f)):=
 A2 (f:=25) (enc:=fun p:List NameT×List NameT=>[.agg [recs encN 2 p.1,recs encN 2 p.2]]) (res:=fun p=> .bool (smallSigV p.1 p.2)) (fun p q h=>by rw[encS_inj h]) (c,f)
theorem all2 (h:KnownF Tryz.prog 10 [] (.bool true)):KnownAll Tryz.prog K2:=Db AB (all1s h) (fun p=>smallSig_to p.1 p.2) (fun _=>rfl) (fun _=>rfl)
def okN (before:List (List UInt8)) (p:NameT):Bool:= !(before.contains p.1)&&(nameV p.1&&inV p.2 0 4)
def namesV:List (List UInt8)→List NameT→Option (List (List UInt8))
 |bs,[]=>some bs
 |bs,p::l=>if okN bs p then namesV (bs++[p.1]) l else none
def strsV:List (List UInt8)→AV
 | []=> .nilslice
 |a::l=> .islice ((a::l).map .str) (a::l).length 1 true
theorem strsV_ne {l:List (List UInt8)} (h:l≠ []):strsV l= .islice (l.map .str) l.length 1 true:=by
 cases l with
 |nil=>exact absurd rfl h
 |cons a l=>rfl
theorem strs_closed (l:List (List UInt8)):(l.map AV.str).all (closedV 40)=true:=by
 rw[List.all_map];exact List.all_eq_true.2 fun _ _=>rfl
theorem strs_plain (l:List (List UInt8)):(l.map AV.str).all plainV=true:=by
 rw[List.all_map];exact List.all_eq_true.2 fun _ _=>rfl
theorem StrsR.frz {s:St} {v:AV} {l:List (List UInt8)} (h:StrsR s v l) (hn:l=[]→v= .nilslice) (m:Nat):∃ks,frzV s 0 (m+2) v []=some (strsV l,ks):=by
 rcases h with⟨rfl,rfl⟩|⟨cl,rfl⟩|⟨b,off,cap,cs,e,part,rfl,hb,hg,h1,h2,h3⟩
 ·exact⟨[],rfl⟩
 ·have hne:l≠ []:=fun e=>by have:=hn e;cases this
  rw[strsV_ne hne]
  cases cl with
  |true=>exact⟨[],rfl⟩
  |false=>
   refine⟨[],?_⟩
   show(frzV.many (frzV s 0 (m+1)) (l.map .str) []).bind _=_
   rw[frz_many (strs_plain l)]
   show some (AV.islice _ _ _ ((l.map AV.str).all (closedV 40)),_)=_
   rw[strs_closed]
 ·have hne:l≠ []:=fun e=>by have:=hn e;cases this
  rw[strsV_ne hne]
  refine⟨[b],?_⟩
  show(cellsOf? (s.heap.get b)).bind _=_
  rw[hg]
  show(cut cs off (l.length*1)).bind _=_
  have hc:cut cs off (l.length*1)=some (l.map .str):=by
   rw[Nat.mul_one]
   rw[cut_eq h1,h2]
  rw[hc]
  show(frzV.many (frzV s 0 (m+1)) (l.map .str) []).bind _=_
  rw[frz_many (strs_plain l)]
  show some (AV.islice _ _ _ ((l.map AV.str).all (closedV 40)),_)=_
  rw[strs_closed]
def namesR:Option (List (List UInt8))→AV
 |some bs=> .tuple [strsV bs,.bool true]
 |none=> .tuple [.nilslice,.bool false]
theorem has_at {cs:List (List UInt8)} {j:Nat} {w:List UInt8} (h:j<cs.length) (e:cs[j]=w):cs.contains w=true:=by
 rw[←e];simp
theorem has_no {cs:List (List UInt8)} {j:Nat} {w:List UInt8} (h:j<cs.length) (hno:(cs.take j).contains w=false) (e:cs[j]≠w):(cs.take (j+1)).contains w=false:=by
 rw[List.take_add_one,Qi h,Option.toList_some]
 simp only[List.contains_eq_mem,List.mem_append,Qo,decide_eq_false_iff_not]at hno⊢
 rintro(h1|h1)
 ·exact hno h1
 ·exact e h1.symm
theorem names_to (l:List NameT) (bs:List (List UInt8)) (hl:∀p∈l,p.1.length≤4000) (hn:l.length≤4000∧bs.length≤4000):
 CallTo (EK K2) 105 [recs encN 2 l,strsV bs] S0 (namesR (namesV bs l)):=by
 refine Ax (fn:=Tryz.f105) U U (by kernel_rfl) U U U rfl<|Es ?_
 iterate 2 refine qa U ?_
 refine Ld<|Ab<|Es<|qa rfl<|Ld<|Af ?_
 refine A5 (fun x:Nat×AV×List (List UInt8)×St=>([(6,.int .i64 (x.1:Nat)),(0,recs encN 2 l),(1,x.2.1)],x.2.2.2)) (fun x=>l.length-x.1)
  (fun x=>x.1≤l.length∧x.2.2.2.bound=0∧x.2.2.2.log=[]∧StrsR x.2.2.2 x.2.1 x.2.2.1∧namesV bs l=namesV x.2.2.1 (l.drop x.1)∧x.2.2.1.length=bs.length+x.1∧(x.2.2.1=[]→x.2.1= .nilslice)) (0,strsV bs,bs,mkS 0 0 [] []) ⟨Qn _,rfl,rfl,?_,rfl,rfl,?_⟩ rfl (by(refine Am.Av ?_;repeat (first|exact trivial|refine⟨rfl,?_⟩))) ?_
 ·cases bs with
  |nil=>exact .inl ⟨rfl,rfl⟩
  |cons a t=>exact .inr (.inl ⟨true,rfl⟩)
 ·rintro rfl;rfl
 rintro⟨i,v,cs,st⟩ ⟨hi,hbd,hlg,hst,hnv,hcl,hnn⟩
 dsimp only at hi hbd hlg hst hnv hcl hnn⊢
 by_cases h:i<l.length
 ·have hp:=AC AU h
  have hpl:=hl _ (Ql h)
  have hno0:okN cs l[i]=false→namesV bs l=none:=fun hb=>by
   rw[hnv,List.drop_eq_getElem_cons h]
   show(if okN cs l[i]then _ else none)=none
   rw[hb];rfl
  focus
   refine Ab<|Es ?_
   iterate 2 refine qm U ?_
   refine Lq (ol DY U) rfl<|Lq (o2 u_3 U U) rfl<|Ld ?_
   refine Ec U (fun g1=>?_) (fun g1=>?_)
   have h1:=dT g1
   refine Ae<|Ab<|Af<|Ab<|Es<|qa rfl<|Ld<|Af ?_
   rotate_left
   have h1:=dF g1
   exact absurd h1 (by omega)
  refine A5 (fun j:Nat=>([(7,.int .i64 (j:Nat)),(6,.int .i64 (i:Nat)),(0,recs encN 2 l),(1,v)],st)) (fun j=>cs.length-j) (fun j=>j≤cs.length∧(cs.take j).contains l[i].1=false) 0 ⟨Qn _,rfl⟩ U (by(refine Am.Av ?_;repeat (first|exact trivial|refine⟨rfl,?_⟩))) ?_
  rintro j ⟨hj,hno⟩
  dsimp only at hj hno⊢
  have hlen:=hst.len
  by_cases h2':j<cs.length
  ·rcases hst.at2 (E:=EK K2) h2' Fg Bt with⟨rest,hp2⟩|⟨b,off,hp2,hld⟩
   ·focus
     refine Ab<|Es ?_
     iterate 2 refine qm U ?_
     refine Lq (OpQ.lenV U U U U AI U ‹_›) rfl<|Lq (o2 u_3 U U) rfl<|Ld ?_
     refine Ec U (fun g2=>?_) (fun g2=>?_)
     have h2:=dT g2
     refine Ae<|Ab<|Af<|AK (by kernel_rfl) ?_
     iterate 2 refine Nq (om U) U ?_
     refine Nq (Ag U AI Bt U U ‹_›) rfl<|Nq (As U U Fg Bt) U ?_
     iterate 2 refine Nq (om U) U ?_
     refine Nq (Ag U DY BS U U ‹_›) rfl<|Nq (A6 U f_54_0 U (Qc U)) rfl<|Nq (As U U Fg Bt) rfl<|Nq (AX U u_9 U U U U) rfl<|AG ?_
     refine Ec U (fun g3=>?_) (fun g3=>?_)
     have h3:=bT g3
     refine Es ?_
     iterate 2 refine qa U ?_
     refine Ld ?_
     refine Aa ⟨.inl U,rfl,‹_›,‹_›,_,_,_,(Aj U (Aj U U)),rfl,rfl,?_⟩
     rotate_left
     have h3:=bF g3
     refine Ae<|Ao<|qm U ?_
     refine Lq (A0 (b:=1) U u_3 U U (by first|assumption|omega|(simp only[LL];omega))) U ?_
     refine qa rfl<|Ld ?_
     rotate_left
     have h2:=dF g2
     exact absurd h2 (by omega)
    ·try refine Aa ⟨.inl rfl,rfl,hlg,hbd,_,_,_,(Aj rfl (Aj rfl rfl)),rfl,rfl,?_⟩
     rw[hno0 (by unfold okN;rw[has_at h2' h3];rfl)];rfl
    ·exact⟨j+1,⟨h2',has_no h2' hno h3⟩,by show cs.length-(j+1)<cs.length-j;omega,rfl,rfl,by(refine Am.Av ?_;repeat (first|exact trivial|refine⟨rfl,?_⟩))⟩
   ·focus
     refine Ab<|Es ?_
     iterate 2 refine qm U ?_
     refine Lq (OpQ.lenV U U U U AI U ‹_›) rfl<|Lq (o2 u_3 U U) rfl<|Ld ?_
     refine Ec U (fun g2=>?_) (fun g2=>?_)
     have h2:=dT g2
     refine Ae<|Ab<|Af<|AK (by kernel_rfl) ?_
     iterate 2 refine Nq (om U) U ?_
     refine Nq (Ag U AI Bt U U ‹_›) rfl<|Bz U U ‹_› U (.inl U) U U ?_
     iterate 2 refine Nq (om U) U ?_
     refine Nq (Ag U DY BS U U ‹_›) rfl<|Nq (A6 U f_54_0 U (Qc U)) rfl<|Nq (As U U Fg Bt) rfl<|Nq (AX U u_9 U U U U) rfl<|AG ?_
     refine Ec U (fun g3=>?_) (fun g3=>?_)
     have h3:=bT g3
     refine Es ?_
     iterate 2 refine qa U ?_
     refine Ld ?_
     refine Aa ⟨.inl U,rfl,‹_›,‹_›,_,_,_,(Aj U (Aj U U)),rfl,rfl,?_⟩
     rotate_left
     have h3:=bF g3
     refine Ae<|Ao<|qm U ?_
     refine Lq (A0 (b:=1) U u_3 U U (by first|assumption|omega|(simp only[LL];omega))) U ?_
     refine qa rfl<|Ld ?_
     rotate_left
     have h2:=dF g2
     exact absurd h2 (by omega)
    ·try refine Aa ⟨.inl rfl,rfl,hlg,hbd,_,_,_,(Aj rfl (Aj rfl rfl)),rfl,rfl,?_⟩
     rw[hno0 (by unfold okN;rw[has_at h2' h3];rfl)];rfl
    ·exact⟨j+1,⟨h2',has_no h2' hno h3⟩,by show cs.length-(j+1)<cs.length-j;omega,rfl,rfl,by(refine Am.Av ?_;repeat (first|exact trivial|refine⟨rfl,?_⟩))⟩
  ·obtain rfl:j=cs.length:=by omega
   rw[List.take_length]at hno
   focus
    refine Ab<|Es ?_
    iterate 2 refine qm U ?_
    refine Lq (OpQ.lenV U U U U AI U ‹_›) rfl<|Lq (o2 u_3 U U) rfl<|Ld ?_
    refine Ec U (fun g2=>?_) (fun g2=>?_)
    have h2:=dT g2
    exact absurd h2 (by omega)
    have h2:=dF g2
    refine A9<|Bq rfl<|Ab<|Es ?_
    iterate 2 refine qm U ?_
    refine Lq (Ag U DY BS U U ‹_›) rfl<|Lq (A6 U f_54_0 U (Qc U)) rfl<|Lq (As U U Fg Bt) U ?_
    refine Lo (Ad U U (by kernel_rfl) U (Ac (hit_140 (by first|assumption|omega|(simp only[LL];omega))))) U ?_
    refine Lq (on U) rfl<|qm U ?_
    refine Lb U (fun g3=>?_) (fun g3=>?_)
    have h3:=Fo g3
    iterate 7 refine Lk U ‹_› ?_
    refine Lq (oT U ‹_› U) rfl<|Ld<|Ai U rfl<|Es ?_
    iterate 2 refine qa U ?_
    refine Ld ?_
    refine Aa ⟨.inl U,rfl,‹_›,‹_›,_,_,_,(Aj U (Aj U U)),rfl,rfl,?_⟩
    rotate_left
    have h3:=Fp g3
    iterate 2 refine Lh U ‹_› (om U) ?_
    refine Lh U ‹_› (Ag U DY BS U U ‹_›)<|Lh U ‹_› (A6 U f_54_1 U (Qc U))<|Lh U ‹_› (As U U B3 Bf) ?_
    refine Lg U ‹_› (Ad U U (by kernel_rfl) U (Ac (hit_104)))<|Lh U ‹_› (on U)<|Lq (oF U ‹_› U) rfl<|Ld ?_
    refine Ec U (fun g4=>?_) (fun g4=>?_)
    have h4:=Fo g4
    refine Es ?_
    iterate 2 refine qa U ?_
    refine Ld ?_
    refine Aa ⟨.inl U,rfl,‹_›,‹_›,_,_,_,(Aj U (Aj U U)),rfl,rfl,?_⟩
    rotate_left
    have h4:=Fp g4
    refine Ae<|Dw (by kernel_rfl)<|Nq (om U) U ?_
    rotate_left
   ·try refine Aa ⟨.inl rfl,rfl,hlg,hbd,_,_,_,(Aj rfl (Aj rfl rfl)),rfl,rfl,?_⟩
    rw[hno0 (by unfold okN;rw[h3,Bool.false_and,Bool.and_false])];rfl
   ·try refine Aa ⟨.inl rfl,rfl,hlg,hbd,_,_,_,(Aj rfl (Aj rfl rfl)),rfl,rfl,?_⟩
    rw[hno0 (by unfold okN;rw[h4,Bool.and_false,Bool.and_false])];rfl
   have hok:okN cs l[i]=true:=by unfold okN;rw[hno,h3,h4];rfl
   have hsm:small (cs.map AV.str).length 16=true:=by
    rw[List.length_map]
    exact AR (by omega) (by decide)
   obtain⟨v1,s2,ha1,hn1,hn2,hl1,hG1,ho1,hk1,hml1,hmb1⟩:=fresh_append (st:=st) (e:=9) (by_:=16) (new:=cs.map .str) hsm hbd
   refine RegN.append U U U U AI Bt by_9 z_9 U U U U (StrsR.appended (hst.keep (Qj _) fun _ _=>rfl)) (by rw[List.length_map]at ha1;exact ha1) hn1 (by rw[hl1];intro b hb;cases hb) (by kernel_rfl) U (.inl U) U U ?_
   rw[hl1]
   iterate 2 refine Nq (om U) U ?_
   refine Nq (Ag U DY BS U U ‹_›) rfl<|Nq (A6 U f_54_0 U (Qc U)) rfl<|Nq (As U U Fg Bt) rfl<|Bi U AI Bt z_9 U U U (.inl U) U U ?_
   generalize hst1:st.merged s2=st1 at*
   have hG2:Grown (st1.alloc (.cells [.str l[i].1] 9 false)) 9 1 v1 (cs.map .str) (cs.map AV.str).length:=hG1.keep (Nat.le_succ _) fun c hc=>by
    have:=ho1 c hc
    have hlt:c≠st1.next:=by
     intro e
     rcases hG1 with⟨rfl,_⟩|⟨b,rfl,hb,_⟩
     ·cases hc
     ·have:=Qb hc;omega
    show(st1.heap.set st1.next _).get c=_
    rw[AW,if_neg hlt]
   have hs2:small ((cs.map AV.str).length+1) 16=true:=by
    rw[List.length_map]
    exact AR (by omega) (by decide)
   obtain⟨v2,s3,ha2,hn3,hl3,hG3,ho3,hk3,hlg3⟩:=hG2.appendM (by_:=16) (new:=[.str l[i].1]) rfl (by decide) rfl hs2
   refine RegN.append U U U U AI Bt by_9 z_9 U U U U (n:=1) (new:=[.str l[i].1]) ?_ ha2 (by rw[hn3];exact Nat.le_succ _) (fun b hb=>⟨hl3 b hb,?_⟩) (by kernel_rfl) ?_ (.inl U) U U ?_
   ·show(cellsOf? ((st1.heap.set st1.next _).get st1.next)).bind _=_
    rw[AW,if_pos rfl];rfl
   ·exact Dj (cons_all (by kernel_rfl) (tag_all (by kernel_rfl) (tag_all (by kernel_rfl) U _) _))
   ·exact cons_all (by kernel_rfl) (tag_all (by kernel_rfl) (tag_all (by kernel_rfl) U _) _)
   refine Nq (oa U) rfl<|AG<|Ao<|qm U ?_
   refine Lq (A0 (b:=1) U u_3 U U (by first|assumption|omega|(simp only[LL];omega))) U ?_
   refine qa rfl<|Ld ?_
   have hbd2:(st1.alloc (.cells [.str l[i].1] 9 false)).bound=0:=hmb1
   refine⟨(i+1,v2,cs++[l[i].1],(st1.alloc (.cells [.str l[i].1] 9 false)).merged s3),⟨h,hbd2,(hlg3 hbd2).trans (hml1.trans hlg),Grown.strs (n:=(cs.map AV.str).length+1) (by rw[List.map_append];exact hG3) (by simp),?_,by simp;omega,fun e=>by simp at e⟩,by show l.length-(i+1)<l.length-i;omega,rfl,rfl,by(refine Am.Av ?_;repeat (first|exact trivial|refine⟨rfl,?_⟩))⟩
   rw[hnv,List.drop_eq_getElem_cons h]
   show(if okN cs l[i]then _ else none)=_
   rw[hok];rfl
 ·focus
   refine Ab<|Es ?_
   iterate 2 refine qm U ?_
   refine Lq (ol DY U) rfl<|Lq (o2 u_3 U U) rfl<|Ld ?_
   refine Ec U (fun g1=>?_) (fun g1=>?_)
   have h1:=dT g1
   exact absurd h1 (by omega)
   have h1:=dF g1
   refine A9<|Bq rfl<|Es<|qm U ?_
   iterate 2 refine qa U ?_
   refine Ld ?_
   rotate_left
  obtain rfl:i=l.length:=by omega
  rw[List.drop_length]at hnv
  have hr:namesV bs l=some cs:=hnv
  rw[hr]
  obtain⟨ks,hf⟩:=StrsR.frz hst hnn 37
  refine Aa ⟨.inl U,rfl,hlg,hbd,_,.tuple [strsV cs,.bool true],ks,(Aj U (Aj U U)),?_,?_,rfl⟩
  ·show(frzV.many (frzV st 0 39) [v,.bool true] []).bind _=_
   unfold frzV.many frzV.many frzV.many
   rw[hf];rfl
  ·cases cs with
   |nil=>rfl
   |cons a t=>rfl
theorem strsV_inj {a b:List (List UInt8)} (h:strsV a=strsV b):a=b:=by
 have hm:∀ {x y:List (List UInt8)},x.map AV.str=y.map AV.str→x=y:=fun {x y} h=>List.map_inj_right (fun _ _ h=>AV.str.inj h)|>.1 h
 cases a with
 |nil=>cases b with
  |nil=>rfl
  |cons x y=>cases h
 |cons x y=>cases b with
  |nil=>cases h
  |cons z w=>exact hm (AV.islice.inj h).1
abbrev NamesA:= {p:List NameT×List (List UInt8)//(∀q∈p.1,q.1.length≤4000)∧p.1.length≤4000∧p.2.length≤4000}
noncomputable def K4:=addC K2 105 (fun p:NamesA=>[recs encN 2 p.1.1,strsV p.1.2]) (fun p=>namesR (namesV p.1.2 p.1.1))
theorem hit_105 {l:List NameT} {bs:List (List UInt8)} (h1:∀q∈l,q.1.length≤4000) (h2:l.length≤4000) (h3:bs.length≤4000):K4 105 [recs encN 2 l,strsV bs]=some (namesR (namesV bs l)):=
 A2 (f:=105) (enc:=fun p:NamesA=>[recs encN 2 p.1.1,strsV p.1.2]) (res:=fun p=>namesR (namesV p.1.2 p.1.1)) (by
  rintro⟨⟨a,b⟩,_⟩ ⟨⟨c,d⟩,_⟩ h
  simp only[List.cons.injEq,and_true]at h
  obtain rfl:=B0 Dr AU h.1
  obtain rfl:=strsV_inj h.2
  rfl) ⟨(l,bs),h1,h2,h3⟩
theorem namesR_closed (o:Option (List (List UInt8))):closedV 40 (namesR o)=true:=by
 rcases o with _|_|⟨a,l⟩<;>rfl
theorem inV_iff {n a b:Int}:inV n a b=true↔a≤n∧n≤b:=by
 unfold inV;simp only[Qf,decide_eq_true_eq]
theorem all4 (h:KnownF Tryz.prog 10 [] (.bool true)):KnownAll Tryz.prog K4:=Db AB (all2 h) (fun p:NamesA=>names_to p.1.1 p.1.2 p.2.1 p.2.2) (fun p=>by obtain⟨⟨a,_|⟨b,c⟩⟩,_⟩:=p<;>rfl) (fun _=>namesR_closed _)
theorem eqN (a b:NameT):boolV true (eqKd (.flat [.string,.int .i64]) (.agg (encN a)) (.agg (encN b)))=some (.bool (!(decide (a=b)))):=by
 obtain⟨a1,a2⟩:=a
 obtain⟨b1,b2⟩:=b
 show boolV true ((some (bytesEq a1 b1)).bind fun r=>bif r then(some (decide (a2=b2))).bind (fun r=>bif r then some true else some false)else some false)=_
 by_cases h1:a1=b1
 ·subst h1
  rw[Bn,decide_eq_true rfl]
  by_cases h2:a2=b2
  ·subst h2;simp[boolV]
  ·simp[boolV,h2]
 ·rw[Bn,decide_eq_false h1]
  simp[boolV,h1]
def nFalse:NameT:=([70,97,108,115,101],0)
def nTrue:NameT:=([84,114,117,101],0)
def sigV (c f:List NameT):Bool:=(inV c.length 2 12&&decide ((f.length:Int)≤8)&&decide (c[0]?=some nFalse)&&decide (c[1]?=some nTrue))&&
 match namesV [] c with
 |some l=>(namesV l f).isSome
 |none=>false
theorem namesV_len {l:List NameT} {bs cs:List (List UInt8)} (h:namesV bs l=some cs):cs.length=bs.length+l.length:=by
 induction l generalizing bs with
 |nil=>cases h;rfl
 |cons p l ih=>
  unfold namesV at h
  split at h
  ·rw[ih h,Qm]
   show bs.length+1+l.length=bs.length+(l.length+1)
   omega
  ·cases h
theorem sig_to (c f:List NameT) (hc:∀p∈c,p.1.length≤4000) (hf:∀p∈f,p.1.length≤4000):CallTo (EK K4) 59 [.agg [recs encN 2 c,recs encN 2 f]] S0 (.bool (sigV c f)):=by
 refine Ax (fn:=Tryz.f59) U U (by kernel_rfl) U U U U ?_
 focus
  refine Es<|Lo (AD 1 U U U U) rfl<|qa rfl<|Ld<|Ab<|Es<|Lq (of BU U) rfl<|Lo (l1 B4 B2 U) U ?_
  refine Lq (ol DY U) U ?_
  refine Lo (Ad U U (by kernel_rfl) U (Ac (hit_104))) rfl<|Lq (on U) rfl<|qm U ?_
  refine Lb U (fun g1=>?_) (fun g1=>?_)
  have h1:=Fo g1
  iterate 4 refine Lk U ‹_› ?_
  refine Lq (oT U ‹_› U) rfl<|qm U ?_
  iterate 6 refine Lk U U ?_
  refine Lq (oT U U U) rfl<|qm U ?_
  iterate 6 refine Lk U U ?_
  refine Lq (oT U U U) rfl<|Ld<|Ai U rfl<|Es<|qa rfl<|Ld ?_
  refine Aa (Er U ?_)
  refine Ah ?_
  rotate_left
  have h1:=Fp g1
  refine Lh U ‹_› (of BT U)<|Lg U ‹_› (l1 B4 B2 U)<|Lh U ‹_› (ol DY U)<|Lh U ‹_› (o2 u_3 U U)<|Lq (oF U ‹_› U) rfl<|qm U ?_
  refine Lb U (fun g2=>?_) (fun g2=>?_)
  have h2:=dT g2
  iterate 6 refine Lk U ‹_› ?_
  refine Lq (oT U ‹_› U) rfl<|qm U ?_
  iterate 6 refine Lk U U ?_
  refine Lq (oT U U U) rfl<|Ld<|Ai U rfl<|Es<|qa rfl<|Ld ?_
  refine Aa (Er U ?_)
  refine Ah ?_
  rotate_left
  have h2:=dF g2
  refine Lh U ‹_› (of BU U)<|Lg U ‹_› (l1 B4 B2 U) ?_
  rotate_left
 ·unfold sigV;rw[h1];rfl
 ·unfold sigV;rw[decide_eq_false (by omega:¬((f.length:Nat):Int)≤8),Bool.and_false];rfl
 have h0:=inV_iff.1 h1
 have hp0:=AC AU (l:=c) (i:=0) (by omega)
 have hp1:=AC AU (l:=c) (i:=1) (by omega)
 have he0:=eqN c[0] nFalse
 have he1:=eqN c[1] nTrue
 focus
  refine Lh U ‹_› (Ag (k:=0) U DY BS U U ‹_›)<|Lh U ‹_› (Bb U U ag_54 BS (Qc U))<|Lh U ‹_› (AJ U pl_54 U U)<|Lh U ‹_› (DM (neg:=true) U st_54 kd_54 U U ‹_›)<|Lq (oF U ‹_› U) rfl<|qm U ?_
  refine Lb U (fun g3=>?_) (fun g3=>?_)
  have h3:=nT g3
  iterate 6 refine Lk U ‹_› ?_
  refine Lq (oT U ‹_› U) rfl<|Ld<|Ai U rfl<|Es<|qa rfl<|Ld ?_
  refine Aa (Er U ?_)
  refine Ah ?_
  rotate_left
  have h3:=nF g3
  refine Lh U ‹_› (of BU U)<|Lg U ‹_› (l1 B4 B2 U)<|Lh U ‹_› (Ag (k:=1) U DY BS U U ‹_›)<|Lh U ‹_› (Bb U U ag_54 BS (Qc U))<|Lh U ‹_› (AJ U pl_54 U U)<|Lh U ‹_› (DM (neg:=true) U st_54 kd_54 U U ‹_›)<|Lq (oF U ‹_› U) rfl<|Ld ?_
  refine Ec U (fun g4=>?_) (fun g4=>?_)
  have h4:=nT g4
  refine Es<|qa rfl<|Ld ?_
  refine Aa (Er U ?_)
  refine Ah ?_
  rotate_left
  have h4:=nF g4
  refine Ae<|Es<|Lq (of BU U) rfl<|Lo (l1 B4 B2 U) U ?_
  rotate_left
 ·unfold sigV;rw[Qi (by omega),decide_eq_false (by intro h;exact h3 (Option.some.inj h):¬some c[0]=some nFalse),Bool.and_false,Bool.false_and];rfl
 ·unfold sigV;rw[Qi (i:=1) (by omega),decide_eq_false (by intro h;exact h4 (Option.some.inj h):¬some c[1]=some nTrue),Bool.and_false];rfl
 have hpre:(inV c.length 2 12&&decide ((f.length:Int)≤8)&&decide (c[0]?=some nFalse)&&decide (c[1]?=some nTrue))=true:=by
  rw[h1,decide_eq_true (by omega:((f.length:Nat):Int)≤8),Qi (i:=0) (by omega),Qi (i:=1) (by omega),h3,h4];simp
 refine Lo (Ad U U (by kernel_rfl) U (Ac (hit_105 (l:=c) (bs:=[]) hc (by omega) (Qn _)))) U ?_
 rcases hn:namesV [] c with _|l
 ·refine qm U ?_
  iterate 2 refine Lq (oe U) U ?_
  iterate 2 refine qa U ?_
  refine Ld<|Ab<|Es<|qm rfl<|Lq (on U) rfl<|Ld<|Ai U rfl<|Es ?_
  refine qa rfl<|Ld ?_
  refine Aa (Er U ?_)
  refine Ah ?_
  unfold sigV;rw[hpre,hn];rfl
 ·have hl:=namesV_len hn
  refine qm U ?_
  iterate 2 refine Lq (oe U) U ?_
  iterate 2 refine qa U ?_
  refine Ld<|Ab<|Es<|qm rfl<|Lq (on U) rfl<|Ld<|Ap U rfl<|Ae ?_
  refine Es<|Lq (of BT U) rfl<|Lo (l1 B4 B2 U) rfl<|qm U ?_
  refine Lo (Ad U U (by kernel_rfl) U (Ac (hit_105 (l:=f) (bs:=l) hf (by omega) (by simp at hl;omega)))) U ?_
  rcases hn2:namesV l f with _|m
  ·refine qm U ?_
   iterate 2 refine Lq (oe U) U ?_
   refine qa rfl<|Ld<|Es<|qm rfl<|qa rfl<|Ld ?_
   refine Aa (Er U ?_)
   refine Ah ?_
   unfold sigV;rw[hpre,hn]
   show false=(true&&(namesV l f).isSome)
   rw[hn2];rfl
  ·refine qm U ?_
   iterate 2 refine Lq (oe U) U ?_
   refine qa rfl<|Ld<|Es<|qm rfl<|qa rfl<|Ld ?_
   refine Aa (Er U ?_)
   refine Ah ?_
   unfold sigV;rw[hpre,hn]
   show true=(true&&(namesV l f).isSome)
   rw[hn2];rfl
abbrev SigA:= {p:List NameT×List NameT//(∀q∈p.1,q.1.length≤4000)∧(∀q∈p.2,q.1.length≤4000)}
noncomputable def K5:=addC K4 59 (fun p:SigA=>[.agg [recs encN 2 p.1.1,recs encN 2 p.1.2]]) (fun p=> .bool (sigV p.1.1 p.1.2))
theorem hit_59 {c f:List NameT} (hc:∀p∈c,p.1.length≤4000) (hf:∀p∈f,p.1.length≤4000):K5 59 [.agg [recs encN 2 c,recs encN 2 f]]=some (.bool (sigV c f)):=
 A2 (f:=59) (enc:=fun p:SigA=>[.agg [recs encN 2 p.1.1,recs encN 2 p.1.2]]) (res:=fun p=> .bool (sigV p.1.1 p.1.2)) (by
  rintro⟨p,_⟩ ⟨q,_⟩ h
  obtain rfl:=encS_inj h;rfl) ⟨(c,f),hc,hf⟩
theorem all5 (h:KnownF Tryz.prog 10 [] (.bool true)):KnownAll Tryz.prog K5:=Db AB (all4 h) (fun p:SigA=>sig_to p.1.1 p.1.2 p.2.1 p.2.2) (fun _=>rfl) (fun _=>rfl)
def Met (st:St) (cs:List (List UInt8)):Prop:=st.heap.get 2=some (.cells [.map 1] 155 false)∧st.heap.get 1=some (.map (entsN 0 cs) cs.length)∧2<st.next
theorem fits_run {st:St} {cs:List (List UInt8)} (hm:Met st cs) (p:NameT) (hw:p.1.length≤4000) {R:AV→St→Prop}
 (hR:∀st',Chg st st' (fun c=>c=1)→(okN cs p=true→Met st' (cs++[p.1]))→(1<st.bound→st'.log≠ [])→R (.bool (okN cs p)) st'):RunsV (EK K5) 74 [.agg [.str p.1,.int .i64 p.2],.ptr 2 0] st R:=by
 obtain⟨hg2,hg1,hn⟩:=hm
 refine RunsV.gen (fn:=Tryz.f74) U (by kernel_rfl) U U U U ?_
 have ha0:(st.enter.alloc (.cells [.str p.1,.int .i64 p.2] 54 false)).heap.get st.enter.next=some (.cells [.str p.1,.int .i64 p.2] 54 false):=Dg
 have ha1:(st.enter.alloc (.cells [.str p.1,.int .i64 p.2] 54 false)).heap.get 1=some (.map (entsN 0 cs) cs.length):=(Bw (by show 1<st.next;omega)).trans hg1
 have ha2:(st.enter.alloc (.cells [.str p.1,.int .i64 p.2] 54 false)).heap.get 2=some (.cells [.map 1] 155 false):=(Bw (by show 2<st.next;omega)).trans hg2
 have hl:=entsN_lookup (w:=p.1) ha1
 obtain⟨ob,hput,hob⟩:=entsN_put (w:=p.1) ha1
 have ha3:((st.enter.alloc (.cells [.str p.1,.int .i64 p.2] 54 false)).put 1 (some ob)).heap.get st.enter.next=some (.cells [.str p.1,.int .i64 p.2] 54 false):=by
  rw[Bl,if_neg (by show st.next≠1;omega)];exact ha0
 have hlog:((st.enter.alloc (.cells [.str p.1,.int .i64 p.2] 54 false)).put 1 (some ob)).log≠ []:=put_log_ne (by show 1<st.next;omega)
 have hch:Chg st (st.back ((st.enter.alloc (.cells [.str p.1,.int .i64 p.2] 54 false)).put 1 (some ob))) (fun c=>c=1):=
  (Chg.trans (s:=st.enter) Chg.alloc (Chg.put (b:=1) (o:=some ob)) (own:=fun c=>c=1) (o1:=fun c=>c=1) (fun _ h=>h) (fun _ h=> .inl h) (Qj _)).back
 have hmet:cs.contains p.1=false→Met (st.back ((st.enter.alloc (.cells [.str p.1,.int .i64 p.2] 54 false)).put 1 (some ob))) (cs++[p.1]):=fun h=>⟨by
  show((st.enter.alloc (.cells [.str p.1,.int .i64 p.2] 54 false)).put 1 (some ob)).heap.get 2=_
  rw[Bl,if_neg (by decide)];exact ha2,by
  show((st.enter.alloc (.cells [.str p.1,.int .i64 p.2] 54 false)).put 1 (some ob)).heap.get 1=_
  rw[Bl,if_pos rfl,hob h],by show 2<st.next+1;omega⟩
 have hend:∀b,b=okN cs p→R (.bool b) (st.back ((st.enter.alloc (.cells [.str p.1,.int .i64 p.2] 54 false)).put 1 (some ob))):=fun b h=>by
  rw[h]
  exact hR _ hch (fun h=>hmet (by
   unfold okN at h
   cases hc:cs.contains p.1 with
   |false=>rfl
   |true=>rw[hc]at h;cases h)) fun h=>back_ne (mem_put_self (by show 1<st.next;omega)) h
 focus
  refine Es<|Lo (OpL.box U U U) rfl<|qa rfl<|Ld<|Es<|Lo (At U U (An ag_155 sz_155 ‹_› U)) rfl<|Lq (of f_54_0 U) rfl<|Lo (At U U (An Fg Bt ‹_› U)) U ?_
  refine Lo (OpL.lookup U u_155 z_4 kd_9 U U ‹_›) rfl<|qa rfl<|Ld<|Es<|Lo (At U U (An ag_155 sz_155 ‹_› U)) rfl<|Lq (of f_54_0 U) rfl<|Lo (At U U (An Fg Bt ‹_› U)) rfl<|Ak (OpL.mapSet (.inl U) u_155 kd_9 U U U ‹_›) U U ?_
  refine Ld<|Es<|qm rfl<|Lq (on U) rfl<|qm U ?_
  refine Lb U (fun g1=>?_) (fun g1=>?_)
  have h1:=Fo g1
  refine Lh U ‹_› (of f_54_0 U)<|Lg U ‹_› (At U U (An Fg Bt ‹_› U)) ?_
  refine Lg U ‹_› (Ad U U (by kernel_rfl) U (Ac (hit_75 (by first|assumption|omega|(simp only[LL];omega))))) ?_
  refine Lq (oT U ‹_› U) rfl<|qm U ?_
  refine Lb U (fun g2=>?_) (fun g2=>?_)
  refine Lh U ‹_› (of f_54_1 U)<|Lg U ‹_› (At U U (An B3 Bf ‹_› U)) ?_
  refine Lg U ‹_› (Ad U U (by kernel_rfl) U (Ac (hit_76)))<|Lq (oT U ‹_› U) rfl<|qa rfl<|Ld ?_
  rotate_left
  iterate 3 refine Lk U ‹_› ?_
  refine Lq (oF U ‹_› U) rfl<|qa rfl<|Ld ?_
  rotate_left
  have h1:=Fp g1
  iterate 3 refine Lk U ‹_› ?_
  refine Lq (oF U ‹_› U) rfl<|qm U ?_
  iterate 3 refine Lk U U ?_
  refine Lq (oF U U U) rfl<|qa rfl<|Ld ?_
  rotate_left
 ·refine Aa ?_
  refine⟨.inl U,_,rfl,_,Aj U U,_,Fq U hlog,hend _ ?_⟩
  unfold okN;rw[h1,g2];rfl
 ·refine Aa ?_
  refine⟨.inl U,_,rfl,_,Aj U U,_,Fq U hlog,hend _ ?_⟩
  unfold okN;rw[h1,g2];rfl
 ·refine Aa ?_
  refine⟨.inl U,_,rfl,_,Aj U U,_,Fq U hlog,hend _ ?_⟩
  unfold okN;rw[h1];rfl
theorem every_run {st:St} {cs:List (List UInt8)} (hm:Met st cs) (l:List NameT) (hl:∀p∈l,p.1.length≤4000) (hn:l.length≤4000) {R:AV→St→Prop}
 (hR:∀st',Chg st st' (fun c=>c=1)→(∀ds,namesV cs l=some ds→Met st' ds)→R (.bool (namesV cs l).isSome) st'):RunsV (EK K5) 77 [recs encN 2 l,.func (.func 74) [] [.ptr 2 0]] st R:=by
 refine RunsV.gen (fn:=Tryz.f77) U (by kernel_rfl) U U U rfl<|Es<|qa rfl<|Ld<|Ab<|Es<|qm rfl<|Lq (ol DY U) U ?_
 refine qm rfl<|Ld<|Af ?_
 refine A5 (fun x:Nat×List (List UInt8)×St=>([(9,.int .i64 (x.1:Nat)),(8,.int .i64 (l.length:Nat)),(7,recs encN 2 l),(1,.func (.func 74) [] [.ptr 2 0])],x.2.2)) (fun x=>l.length-x.1)
  (fun x=>x.1≤l.length∧Met x.2.2 x.2.1∧namesV cs l=namesV x.2.1 (l.drop x.1)∧Chg st.enter x.2.2 (fun c=>c=1)∧(x.1=0∧x.2.1=cs∨x.2.2.log≠ [])) (0,cs,st.enter) ⟨Qn _,hm,rfl,Chg.refl,.inl ⟨rfl,rfl⟩⟩ rfl (by(refine Am.Av ?_;repeat (first|exact trivial|refine⟨rfl,?_⟩))) ?_
 rintro⟨i,ds,s1⟩ ⟨hi,hmt,hnv,hch,hlg⟩
 dsimp only at hi hmt hnv hch hlg⊢
 by_cases h:i<l.length
 ·have hp:=AC AU h
  have ha0:(s1.alloc (.cells [.str [],.int .i64 0] 54 false)).heap.get s1.next=some (.cells [.str [],.int .i64 0] 54 false):=Dg
  have ha1:((s1.alloc (.cells [.str [],.int .i64 0] 54 false)).put s1.next (some (.cells [.str l[i].1,.int .i64 l[i].2] 54 false))).heap.get s1.next=some (.cells [.str l[i].1,.int .i64 l[i].2] 54 false):=by rw[Bl,if_pos rfl]
  have hch1:Chg st.enter ((s1.alloc (.cells [.str [],.int .i64 0] 54 false)).put s1.next (some (.cells [.str l[i].1,.int .i64 l[i].2] 54 false))) (fun c=>c=1):=
   (hch.trans Chg.alloc (o2:=fun _=>False) (own:=fun c=>c=1) (fun _ h=>h) (fun _ h=>h.elim) (Qj _)).trans Chg.put (own:=fun c=>c=1) (fun _ h=>h) (fun c h=> .inr (by rw[h];exact hch.next)) (Qj _)
  have hmt1:Met ((s1.alloc (.cells [.str [],.int .i64 0] 54 false)).put s1.next (some (.cells [.str l[i].1,.int .i64 l[i].2] 54 false))) ds:=by
   obtain⟨h2,h1,hn⟩:=hmt
   refine⟨?_,?_,?_⟩
   ·rw[Bl,if_neg (by omega),Bw hn];exact h2
   ·rw[Bl,if_neg (by omega),Bw (by omega)];exact h1
   ·show 2<s1.next+1;omega
  focus
   refine Es<|Lq (o2 u_3 U U) rfl<|Ld<|Ab ?_
   refine Ec U (fun g1=>?_) (fun g1=>?_)
   have h1:=dT g1
   refine Ae<|Ab<|Af<|Es<|Lq (Ag U DY BS U U ‹_›) rfl<|Lq (Bb U U ag_54 BS (Qc U)) rfl<|Lo (BI U z_54) rfl<|Ak (Ar U BS U U (Aq ‹_› U U U)) U U ?_
   refine Ld<|Es<|qm rfl<|Lo (At U U (A8 ag_54 BS ‹_› (Qc U))) U ?_
   rotate_left
   have h1:=dF g1
   exact absurd h1 (by omega)
  refine RegL.callVal (by kernel_rfl) U U U U U U U U (fits_run hmt1 l[i] (hl _ (Ql h)) ?_)
  intro s2 hc2 hm2 hlg2
  have hch2:Chg st.enter s2 (fun c=>c=1):=hch1.trans hc2 (own:=fun c=>c=1) (fun _ h=>h) (fun _ h=> .inl h) (Qj _)
  focus
   refine Lq (on U) rfl<|Ld ?_
   refine Ec U (fun g2=>?_) (fun g2=>?_)
   have h2:=Fo g2
   refine Es<|qa rfl<|Ld ?_
   rotate_left
   have h2:=Fp g2
   refine Ae<|Ao ?_
   refine Lq (A0 (b:=1) U u_3 U U (by first|assumption|omega|(simp only[LL];omega))) U ?_
   refine qm rfl<|Ld ?_
   rotate_left
  ·refine Aa ?_
   have hr:namesV cs l=none:=by
    rw[hnv,List.drop_eq_getElem_cons h]
    show(if okN ds l[i]then _ else none)=none
    rw[h2];rfl
   have hfin:∀st',Chg st st' (fun c=>c=1)→R (.bool false) st':=fun st' hc=>by
    have:=hR st' hc (fun ds hd=>by rw[hr]at hd;cases hd)
    rw[hr]at this;exact this
   exact⟨.inl U,_,rfl,_,Aj U U,leave_any (R:=R) U (fun _ _=>rfl) (fun _=>rfl) (fun _=>hfin st Chg.refl) fun _=>hfin _ hch2.back⟩
  ·refine⟨(i+1,ds++[l[i].1],s2),⟨h,hm2 h2,?_,hch2,.inr (hlg2 ?_)⟩,by show l.length-(i+1)<l.length-i;omega,rfl,rfl,by(refine Am.Av ?_;repeat (first|exact trivial|refine⟨rfl,?_⟩))⟩
   ·rw[hnv,List.drop_eq_getElem_cons h]
    show(if okN ds l[i]then _ else none)=_
    rw[h2];rfl
   ·have:st.enter.bound=st.next:=rfl
    rw[hch1.bound,this];exact Nat.lt_of_succ_lt hm.2.2
 ·focus
   refine Es<|Lq (o2 u_3 U U) rfl<|Ld<|Ab ?_
   refine Ec U (fun g1=>?_) (fun g1=>?_)
   have h1:=dT g1
   exact absurd h1 (by omega)
   have h1:=dF g1
   refine A9<|Bq rfl<|Es<|qa rfl<|Ld ?_
   rotate_left
  obtain rfl:i=l.length:=by omega
  rw[List.drop_length]at hnv
  have hr:namesV cs l=some ds:=hnv
  refine Aa ?_
  have hfin:∀st',Chg st st' (fun c=>c=1)→Met st' ds→R (.bool true) st':=fun st' hc hm=>by
   have:=hR st' hc (fun ds hd=>by rw[hr]at hd;cases hd;exact hm)
   rw[hr]at this;exact this
  refine⟨.inl U,_,rfl,_,Aj U U,leave_any (R:=R) U (fun _ _=>rfl) (fun _=>rfl) (fun h=>hfin st Chg.refl ?_) fun _=>hfin _ hch.back hmt⟩
  rcases hlg with⟨_,rfl⟩|hlg
  ·exact hm
  ·exact absurd h hlg
theorem checkSig_to (c f:List NameT) (hc:∀p∈c,p.1.length≤4000) (hf:∀p∈f,p.1.length≤4000):CallTo (EK K5) 36 [.agg [recs encN 2 c,recs encN 2 f]] S0 (.int .i64 (if sigV c f then 0 else 2)):=by
 refine Ax (fn:=Tryz.f36) U U (by kernel_rfl) U U U U ?_
 have hno:∀b:Bool,(inV c.length 2 12&&decide ((f.length:Int)≤8)&&decide (c[0]?=some nFalse)&&decide (c[1]?=some nTrue))=false→sigV c f=false:=fun b h=>by unfold sigV;rw[h];rfl
 focus
  refine Es<|Lo (AD 1 U U U U) rfl<|qa rfl<|Ld<|Es<|Lo (OpL.makeMapS 2 U u_155 U) rfl<|Lo (AE 3 U z_155 U) rfl<|Ak (A4 U sz_155 U U U U U U) U U ?_
  refine Ld<|Es<|Lq (Bk U U U) rfl<|qa rfl<|Ld<|Ab<|Es<|Lq (of BU U) U ?_
  refine Lo (l1 B4 B2 U) rfl<|Lq (ol DY U) U ?_
  refine Lo (Ad U U (by kernel_rfl) U (Ac (hit_76))) rfl<|Lq (on U) rfl<|qm U ?_
  refine Lb U (fun g1=>?_) (fun g1=>?_)
  have h1:=Fo g1
  iterate 4 refine Lk U ‹_› ?_
  refine Lq (oT U ‹_› U) rfl<|qm U ?_
  iterate 5 refine Lk U U ?_
  refine Lq (oT U U U) rfl<|qm U ?_
  iterate 5 refine Lk U U ?_
  refine Lq (oT U U U) rfl<|Ld<|Ai U rfl<|Es<|qa rfl<|Ld ?_
  refine Aa (Er U ?_)
  rotate_left
  have h1:=Fp g1
  refine Lh U ‹_› (of BT U)<|Lg U ‹_› (l1 B4 B2 U)<|Lh U ‹_› (ol DY U)<|Lh U ‹_› (o2 u_3 U U)<|Lq (oF U ‹_› U) rfl<|qm U ?_
  refine Lb U (fun g2=>?_) (fun g2=>?_)
  have h2:=dT g2
  iterate 5 refine Lk U ‹_› ?_
  refine Lq (oT U ‹_› U) rfl<|qm U ?_
  iterate 5 refine Lk U U ?_
  refine Lq (oT U U U) rfl<|Ld<|Ai U rfl<|Es<|qa rfl<|Ld ?_
  refine Aa (Er U ?_)
  rotate_left
  have h2:=dF g2
  refine Lh U ‹_› (of BU U)<|Lg U ‹_› (l1 B4 B2 U)<|Lh U ‹_› (om U) ?_
  rotate_left
 ·rw[hno true (by rw[h1];rfl)];rfl
 ·rw[hno true (by rw[decide_eq_false (by omega:¬((f.length:Nat):Int)≤8),Bool.and_false];rfl)];rfl
 have h0:=inV_iff.1 h1
 have hp0:=AC AU (l:=c) (i:=0) (by omega)
 have hp1:=AC AU (l:=c) (i:=1) (by omega)
 have he0:=eqN c[0] nFalse
 have he1:=eqN c[1] nTrue
 have hpre:(inV c.length 2 12&&decide ((f.length:Int)≤8))=true:=by
  rw[h1,decide_eq_true (by omega:((f.length:Nat):Int)≤8)];rfl
 have nolog:∀ {s s1:St} {own:Nat→Prop},Chg s s1 own→s.bound=0→s.log=[]→s1.bound=0∧s1.log=[]:=fun {s s1 own} hc hb hl=>⟨hc.bound.trans hb,List.eq_nil_iff_forall_not_mem.2 fun x hx=>by
  rcases hc.log x hx with h|⟨h,_⟩
  ·rw[hl]at h;cases h
  ·rw[hb]at h;omega⟩
 refine RegL.un U U U U g2 ?_
 refine RegL.callFn U U (by kernel_rfl) U U U U (every_run (cs:=[]) ⟨rfl,rfl,Nat.lt_succ_self 2⟩ c hc (by omega) ?_)
 intro s1 hc1 hm1
 have hg0:s1.heap.get 0=some (.cells [recs encN 2 c,recs encN 2 f] 24 false):=(hc1.heap 0 (Nat.succ_pos 2) (by decide)).trans (Dx 0)
 obtain⟨hb1,hl1⟩:=nolog hc1 rfl rfl
 have hx1:3≤s1.next:=hc1.next
 rcases hn:namesV [] c with _|ds
 ·refine Lh U ‹_› (on U) ?_
  refine Lq (oF U ‹_› U) rfl<|qm U ?_
  iterate 5 refine Lk U U ?_
  refine Lq (oT U U U) rfl<|Ld<|Ai U rfl<|Es<|qa rfl<|Ld ?_
  refine Aa ⟨.inl U,rfl,‹_›,‹_›,_,_,_,(Aj U U),rfl,rfl,?_⟩
  try refine Aa ⟨.inl rfl,rfl,hl1,hb1,_,_,_,(Aj rfl rfl),rfl,rfl,?_⟩
  have:sigV c f=false:=by unfold sigV;rw[hn,Bool.and_false]
  rw[this];rfl
 ·have hlen:=namesV_len hn
  refine Lh U ‹_› (on U)<|Lq (oF U ‹_› U) rfl<|qm rfl<|Lh U U (of BT U)<|Lg U U (At U U (An B4 B2 ‹_› U))<|Lh U U (om U)<|RegL.un U U U U U ?_
  refine RegL.callFn U U (by kernel_rfl) U U U U (every_run (hm1 ds hn) f hf (by omega) ?_)
  intro s2 hc2 hm2
  have hg1:s2.heap.get 0=some (.cells [recs encN 2 c,recs encN 2 f] 24 false):=(hc2.heap 0 (by omega) (by decide)).trans hg0
  obtain⟨hb2,hl2⟩:=nolog hc2 hb1 hl1
  rcases hn2:namesV ds f with _|es
  ·refine Lh U U (on U) ?_
   refine Lq (oF U U U) rfl<|Ld<|Ai U rfl<|Es<|qa rfl<|Ld ?_
   refine Aa ⟨.inl U,rfl,‹_›,‹_›,_,_,_,(Aj U U),rfl,rfl,?_⟩
   try refine Aa ⟨.inl rfl,rfl,hl2,hb2,_,_,_,(Aj rfl rfl),rfl,rfl,?_⟩
   have:sigV c f=false:=by
    unfold sigV;rw[hn]
    show(_&&(namesV ds f).isSome)=false
    rw[hn2];simp
   rw[this];rfl
  ·focus
    refine Lh U U (on U)<|Lq (oF U U U) rfl<|Ld<|Ap U rfl<|Ae<|Ab<|Es<|Lq (of BU U) U ?_
    refine Lo (At U U (An B4 B2 ‹_› U)) rfl<|Lq (Ag (k:=0) U DY BS U U ‹_›) rfl<|Lq (Bb U U ag_54 BS (Qc U)) rfl<|Lq (AJ U pl_54 U U) rfl<|Lq (DM (neg:=true) U st_54 kd_54 U U ‹_›) rfl<|qm U ?_
    refine Lb U (fun g3=>?_) (fun g3=>?_)
    have h3:=nT g3
    iterate 6 refine Lk U ‹_› ?_
    refine Lq (oT U ‹_› U) rfl<|Ld<|Ai U rfl<|Es<|qa rfl<|Ld ?_
    refine Aa ⟨.inl U,rfl,‹_›,‹_›,_,_,_,(Aj U U),rfl,rfl,?_⟩
    rotate_left
    have h3:=nF g3
    refine Lh U ‹_› (of BU U)<|Lg U ‹_› (At U U (An B4 B2 ‹_› U))<|Lh U ‹_› (Ag (k:=1) U DY BS U U ‹_›)<|Lh U ‹_› (Bb U U ag_54 BS (Qc U))<|Lh U ‹_› (AJ U pl_54 U U)<|Lh U ‹_› (DM (neg:=true) U st_54 kd_54 U U ‹_›)<|Lq (oF U ‹_› U) rfl<|Ld ?_
    refine Ec U (fun g4=>?_) (fun g4=>?_)
    have h4:=nT g4
    refine Es<|qa rfl<|Ld ?_
    refine Aa ⟨.inl U,rfl,‹_›,‹_›,_,_,_,(Aj U U),rfl,rfl,?_⟩
    rotate_left
    have h4:=nF g4
    refine Ae<|Es<|qa rfl<|Ld ?_
    refine Aa ⟨.inl U,rfl,‹_›,‹_›,_,_,_,(Aj U U),rfl,rfl,?_⟩
    rotate_left
   ·try refine Aa ⟨.inl rfl,rfl,hl2,hb2,_,_,_,(Aj rfl rfl),rfl,rfl,?_⟩
    rw[hno true (by rw[Qi (i:=0) (by omega),decide_eq_false (by intro h;exact h3 (Option.some.inj h):¬some c[0]=some nFalse),Bool.and_false,Bool.false_and])];rfl
   ·try refine Aa ⟨.inl rfl,rfl,hl2,hb2,_,_,_,(Aj rfl rfl),rfl,rfl,?_⟩
    rw[hno true (by rw[Qi (i:=1) (by omega),decide_eq_false (by intro h;exact h4 (Option.some.inj h):¬some c[1]=some nTrue),Bool.and_false])];rfl
   ·try refine Aa ⟨.inl rfl,rfl,hl2,hb2,_,_,_,(Aj rfl rfl),rfl,rfl,?_⟩
    have:sigV c f=true:=by
     unfold sigV
     rw[hpre,Qi (i:=0) (by omega),Qi (i:=1) (by omega),h3,h4,hn]
     show(_&&(namesV ds f).isSome)=true
     rw[hn2];simp
    rw[this];rfl
noncomputable def K6:=addC K5 36 (fun p:SigA=>[.agg [recs encN 2 p.1.1,recs encN 2 p.1.2]]) (fun p=> .int .i64 (if sigV p.1.1 p.1.2 then 0 else 2))
theorem hit_36 {c f:List NameT} (hc:∀p∈c,p.1.length≤4000) (hf:∀p∈f,p.1.length≤4000):K6 36 [.agg [recs encN 2 c,recs encN 2 f]]=some (.int .i64 (if sigV c f then 0 else 2)):=
 A2 (f:=36) (enc:=fun p:SigA=>[.agg [recs encN 2 p.1.1,recs encN 2 p.1.2]]) (res:=fun p=> .int .i64 (if sigV p.1.1 p.1.2 then 0 else 2)) (by
  rintro⟨p,_⟩ ⟨q,_⟩ h
  obtain rfl:=encS_inj h;rfl) ⟨(c,f),hc,hf⟩
theorem all6 (h:KnownF Tryz.prog 10 [] (.bool true)):KnownAll Tryz.prog K6:=Db AB (all5 h) (fun p:SigA=>checkSig_to p.1.1 p.1.2 p.2.1 p.2.2) (fun _=>rfl) (fun _=>rfl)
theorem E8 {f:Nat→Bool} {i:Nat} (h:(List.range i).all f=true) (hf:f i=true):(List.range (i+1)).all f=true:=by
 rw[List.range_succ,List.all_append,h,List.all_cons,hf];rfl
theorem ra_no {f:Nat→Bool} {n i:Nat} (h:i<n) (hf:f i=false):(List.range n).all f=false:=by
 cases hb:(List.range n).all f with
 |false=>rfl
 |true=>
  have:=List.all_eq_true.1 hb i (List.mem_range.2 h)
  rw[hf]at this;cases this
def encZ (n:Int):List AV:=[.int .i64 n]
theorem Be (n:Int):(encZ n).length=0+1:=rfl
theorem D8 (a b:Int) (h:encZ a=encZ b):a=b:=by cases h;rfl
abbrev AltT:=Int×Int
def encA (p:AltT):List AV:=[.int .i64 p.1,.int .i64 p.2]
theorem EU (p:AltT):(encA p).length=1+1:=rfl
theorem encA_inj (a b:AltT) (h:encA a=encA b):a=b:=by
 obtain⟨a1,a2⟩:=a
 obtain⟨b1,b2⟩:=b
 cases h;rfl
structure InsT where
 op:Int
 a:Int
 alts:List AltT
 to:List Int
 term:Int
 n:Int
 args:List Int
def encI (x:InsT):List AV:=[.int .i64 x.op,.int .i64 x.a,recs encA 2 x.alts,recs encZ 1 x.to,.int .i64 x.term,.int .i64 x.n,recs encZ 1 x.args]
theorem Ds (x:InsT):(encI x).length=6+1:=rfl
theorem encI_inj (x y:InsT) (h:encI x=encI y):x=y:=by
 obtain⟨a,b,c,d,e,f,g⟩:=x
 obtain⟨a',b',c',d',e',f',g'⟩:=y
 simp only[encI,List.cons.injEq,AV.int.injEq,and_true,true_and]at h
 obtain⟨rfl,rfl,h3,h4,rfl,rfl,h7⟩:=h
 rw[B0 encA_inj EU h3,B0 D8 Be h4,B0 D8 Be h7]
structure CodeT where
 cons:List NameT
 funs:List NameT
 ins:List InsT
 starts:List Int
def encC (c:CodeT):List AV:=[recs encN 2 c.cons,recs encN 2 c.funs,recs encI 7 c.ins,recs encZ 1 c.starts]
theorem encC_inj {x y:CodeT} (h:(AV.agg (encC x))=AV.agg (encC y)):x=y:=by
 obtain⟨a,b,c,d⟩:=x
 obtain⟨a',b',c',d'⟩:=y
 simp only[encC,AV.agg.injEq,List.cons.injEq,and_true]at h
 rw[B0 Dr AU h.1,B0 Dr AU h.2.1,B0 encI_inj Ds h.2.2.1,B0 D8 Be h.2.2.2]
def smallI (x:InsT):Bool:= !(decide (20<(x.alts.length:Int))||(decide (40<(x.to.length:Int))||decide (10<(x.args.length:Int))))
def iAt (c:CodeT) (i:Nat):InsT:=c.ins.getD i ⟨0,0,[],[],0,0,[]⟩
theorem iAt_eq {c:CodeT} {i:Nat} (h:i<c.ins.length):iAt c i=c.ins[i]:=by unfold iAt;rw[List.getD_eq_getElem?_getD,Qi h];rfl
def smallCodeV (c:CodeT):Bool:=(smallSigV c.cons c.funs&& !(decide (1020<(c.ins.length:Int))||decide (20<(c.starts.length:Int))))&&(List.range c.ins.length).all fun i=>smallI (iAt c i)
structure Copied (st s1 s2:St) (z cs:List AV) (T:TypeId):Prop where
 new:s1.heap.get st.next=some (.cells z T false)
 put:s2.heap.get st.next=some (.cells cs T false)
 old1:∀c,c<st.next→s1.heap.get c=st.heap.get c
 old:∀c,c<st.next→s2.heap.get c=st.heap.get c
 bound:s2.bound=st.bound
 log:st.bound≤st.next→s2.log=st.log
 next:s2.next=st.next+1
theorem copied {st:St} {z cs:List AV} {T:TypeId}:Copied st (st.alloc (.cells z T false)) ((st.alloc (.cells z T false)).put st.next (some (.cells cs T false))) z cs T:=
 ⟨Dg,by rw[Bl,if_pos rfl],fun _ h=>Bw h,fun c h=>by rw[Bl,if_neg (Nat.ne_of_lt h),Bw h],rfl,fun h=>by
  show(bif Nat.blt st.next st.bound then _ else st.log)=st.log
  cases hb:Nat.blt st.next st.bound with
  |false=>rfl
  |true=>
   have:st.next<st.bound:=Qc hb
   omega,rfl⟩
theorem smallCode_to (c:CodeT):CallTo (EK K6) 9 [.agg (encC c)] S0 (.bool (smallCodeV c)):=by
 refine Ax (fn:=Tryz.f9) U U (by kernel_rfl) U U U U ?_
 have hno:(smallSigV c.cons c.funs&& !(decide (1020<(c.ins.length:Int))||decide (20<(c.starts.length:Int))))=false→smallCodeV c=false:=fun h=>by unfold smallCodeV;rw[h];rfl
 focus
  refine Es<|Lo (AD 1 U U U U) rfl<|qa rfl<|Ld<|Ab<|Es<|Lq (of DI U) rfl<|Lo (AM U ag_24 sz_24 U U (Qc U)) U ?_
  refine Lo (Ad U U (by kernel_rfl) U (Ac (hit_25))) rfl<|Lq (on U) rfl<|qm U ?_
  refine Lb U (fun g1=>?_) (fun g1=>?_)
  have h1:=Fo g1
  iterate 4 refine Lk U ‹_› ?_
  refine Lq (oT U ‹_› U) rfl<|qm U ?_
  iterate 4 refine Lk U U ?_
  refine Lq (oT U U U) rfl<|Ld<|Ai U rfl<|Es<|qa rfl<|Ld ?_
  refine Aa (Er U ?_)
  refine Ah ?_
  rotate_left
  have h1:=Fp g1
  refine Lh U ‹_› (of Bp U)<|Lg U ‹_› (l1 Du Dc U)<|Lh U ‹_› (ol u_25 U)<|Lh U ‹_› (o2 u_3 U U)<|Lq (oF U ‹_› U) rfl<|qm U ?_
  refine Lb U (fun g2=>?_) (fun g2=>?_)
  have h2:=dT g2
  iterate 4 refine Lk U ‹_› ?_
  refine Lq (oT U ‹_› U) rfl<|Ld<|Ai U rfl<|Es<|qa rfl<|Ld ?_
  refine Aa (Er U ?_)
  refine Ah ?_
  rotate_left
  have h2:=dF g2
  refine Lh U ‹_› (of ES U)<|Lg U ‹_› (l1 Dn BC U)<|Lh U ‹_› (ol D6 U)<|Lh U ‹_› (o2 u_3 U U)<|Lq (oF U ‹_› U) rfl<|Ld ?_
  refine Ec U (fun g3=>?_) (fun g3=>?_)
  have h3:=dT g3
  refine Es<|qa rfl<|Ld ?_
  refine Aa (Er U ?_)
  refine Ah ?_
  rotate_left
  have h3:=dF g3
  refine Ae<|Ab<|Es<|qa rfl<|Ld<|Af ?_
  rotate_left
 ·rw[hno (by rw[h1];rfl)]
 ·rw[hno (by rw[g2];simp)]
 ·rw[hno (by rw[g3];simp)]
 refine A5 (fun x:Nat×St=>([(3,.int .i64 (x.1:Nat)),(1,.ptr 0 0)],x.2)) (fun x=>c.ins.length-x.1)
  (fun x=>x.1≤c.ins.length∧(List.range x.1).all (fun i=>smallI (iAt c i))=true∧x.2.heap.get 0=some (.cells (encC c) 28 false)∧0<x.2.next∧x.2.bound=0∧x.2.log=[]) (0,mkS 1 0 [] [(0,some (.cells (encC c) 28 false))]) ⟨Qn _,rfl,rfl,Nat.one_pos,rfl,rfl⟩ rfl (by(refine Am.Av ?_;repeat (first|exact trivial|refine⟨rfl,?_⟩))) ?_
 rintro⟨i,st⟩ ⟨hi,hs,hg,hn,hb,hl⟩
 dsimp only at hi hs hg hn hb hl⊢
 by_cases h:i<c.ins.length
 ·have hp:=AC Ds h
  obtain⟨hc1,hc2,hc3,hc4,hc5,hc6,hc7⟩:=copied (st:=st) (z:=[.int .i64 0,.int .i64 0,.nilslice,.nilslice,.int .i64 0,.int .i64 0,.nilslice]) (cs:=encI c.ins[i]) (T:=58)
  have hlog:=(hc6 (by omega)).trans hl
  have hbd:=hc5.trans hb
  have hg2:=(hc4 0 hn).trans hg
  have hno2:smallI c.ins[i]=false→false=smallCodeV c:=fun h2=>by
   unfold smallCodeV
   rw[ra_no (i:=i) h (by rw[iAt_eq h];exact h2),Bool.and_false]
  focus
   refine Ab<|Es<|qm rfl<|Lq (of Bp U) rfl<|Lo (At U U (An Du Dc ‹_› U)) rfl<|Lq (ol u_25 U) rfl<|Lq (o2 u_3 U U) rfl<|Ld ?_
   refine Ec U (fun g4=>?_) (fun g4=>?_)
   have h4:=dT g4
   refine Ae<|Ab<|Af<|Es<|Lq (of Bp U) rfl<|Lo (At U U (An Du Dc ‹_› U)) rfl<|qm rfl<|Lq (Ag U u_25 AP U U ‹_›) U ?_
   refine Lq (Bb U U Dy AP (Qc U)) rfl<|Lo (BI U z_58) rfl<|Ak (Ar U AP U U (Aq ‹_› U U U)) U rfl<|Ld<|Es<|Lq (of D5 U) rfl<|Lo (At U U (An ag_56 E7 ‹_› U)) rfl<|Lq (ol u_56 U) U ?_
   refine Lq (o2 u_3 U U) rfl<|qm U ?_
   refine Lb U (fun g5=>?_) (fun g5=>?_)
   have h5:=dT g5
   iterate 4 refine Lk U ‹_› ?_
   refine Lq (oT U ‹_› U) rfl<|qm U ?_
   iterate 4 refine Lk U U ?_
   refine Lq (oT U U U) rfl<|Ld<|Ai U rfl<|Es<|qa rfl<|Ld ?_
   refine Aa ⟨.inl U,rfl,‹_›,‹_›,_,_,_,(Aj U U),rfl,rfl,?_⟩
   refine Ah ?_
   rotate_left
   have h5:=dF g5
   refine Lh U ‹_› (of Em U)<|Lg U ‹_› (At U U (An Dn BC ‹_› U))<|Lh U ‹_› (ol D6 U)<|Lh U ‹_› (o2 u_3 U U)<|Lq (oF U ‹_› U) rfl<|qm U ?_
   refine Lb U (fun g6=>?_) (fun g6=>?_)
   have h6:=dT g6
   iterate 4 refine Lk U ‹_› ?_
   refine Lq (oT U ‹_› U) rfl<|Ld<|Ai U rfl<|Es<|qa rfl<|Ld ?_
   refine Aa ⟨.inl U,rfl,‹_›,‹_›,_,_,_,(Aj U U),rfl,rfl,?_⟩
   refine Ah ?_
   rotate_left
   have h6:=dF g6
   refine Lh U ‹_› (of f_58_6 U)<|Lg U ‹_› (At U U (An Dn BC ‹_› U))<|Lh U ‹_› (ol D6 U)<|Lh U ‹_› (o2 u_3 U U)<|Lq (oF U ‹_› U) rfl<|Ld ?_
   refine Ec U (fun g7=>?_) (fun g7=>?_)
   have h7:=dT g7
   refine Es<|qa rfl<|Ld ?_
   refine Aa ⟨.inl U,rfl,‹_›,‹_›,_,_,_,(Aj U U),rfl,rfl,?_⟩
   refine Ah ?_
   rotate_left
   have h7:=dF g7
   refine Ae<|Ao<|qm U ?_
   refine Lq (A0 (b:=1) U u_3 U U (by first|assumption|omega|(simp only[LL];omega))) U ?_
   refine qa rfl<|Ld ?_
   rotate_left
   have h4:=dF g4
   exact absurd h4 (by omega)
  ·exact hno2 (by unfold smallI;rw[g5];rfl)
  ·exact hno2 (by unfold smallI;rw[g6];simp)
  ·exact hno2 (by unfold smallI;rw[g7];simp)
  ·refine⟨(i+1,_),⟨h,E8 hs (by rw[iAt_eq h];unfold smallI;rw[g5,g6,g7];rfl),hg2,Nat.succ_pos _,hc5.trans hb,hlog⟩,by show c.ins.length-(i+1)<c.ins.length-i;omega,rfl,rfl,by(refine Am.Av ?_;repeat (first|exact trivial|refine⟨rfl,?_⟩))⟩
 ·focus
   refine Ab<|Es<|qm rfl<|Lq (of Bp U) rfl<|Lo (At U U (An Du Dc ‹_› U)) rfl<|Lq (ol u_25 U) rfl<|Lq (o2 u_3 U U) rfl<|Ld ?_
   refine Ec U (fun g4=>?_) (fun g4=>?_)
   have h4:=dT g4
   exact absurd h4 (by omega)
   have h4:=dF g4
   refine A9<|Bq rfl<|Es<|qa rfl<|Ld ?_
   refine Aa ⟨.inl U,rfl,‹_›,‹_›,_,_,_,(Aj U U),rfl,rfl,?_⟩
   refine Ah ?_
   rotate_left
  obtain rfl:i=c.ins.length:=by omega
  unfold smallCodeV;rw[hs,h1,g2,g3];rfl
noncomputable def K7:=addC K6 9 (fun c:CodeT=>[.agg (encC c)]) (fun c=> .bool (smallCodeV c))
theorem all7 (h:KnownF Tryz.prog 10 [] (.bool true)):KnownAll Tryz.prog K7:=Db AB (all6 h) (fun c=>smallCode_to c) (fun _=>rfl) (fun _=>rfl)
def regsV (l:List Int):Bool:=(List.range l.length).all fun i=>inV (l.getD i 0) 0 59
theorem Dh {α:Type} {l:List α} {i:Nat} {d:α} (h:i<l.length):l.getD i d=l[i]:=by rw[List.getD_eq_getElem?_getD,Qi h];rfl
structure Fits (c:CodeT):Prop where
 cons:c.cons.length≤4000
 funs:c.funs.length≤4000
 ins:c.ins.length≤4000
 starts:c.starts.length≤4000
 alts:∀x∈c.ins,x.alts.length≤4000
 to:∀x∈c.ins,x.to.length≤4000
 args:∀x∈c.ins,x.args.length≤4000
 cnames:∀p∈c.cons,p.1.length≤4000
 fnames:∀p∈c.funs,p.1.length≤4000
abbrev AtT:= {p:CodeT×Nat//Fits p.1∧p.2<p.1.ins.length}
def AtT.x (p:AtT):InsT:=p.1.1.ins[p.1.2]'p.2.2
theorem encAt_inj {p q:AtT} (h:([.agg (encC p.1.1),.int .i64 (p.1.2:Nat)]:List AV)=[.agg (encC q.1.1),.int .i64 (q.1.2:Nat)]):p=q:=by
 obtain⟨⟨a,b⟩,_⟩:=p
 obtain⟨⟨c,d⟩,_⟩:=q
 simp only[List.cons.injEq,and_true,AV.int.injEq,true_and]at h
 obtain rfl:=encC_inj h.1
 obtain rfl:b=d:=by omega
 rfl
abbrev IntsT:= {l:List Int//l.length≤4000}
abbrev MadeT:= {p:List NameT×List NameT×InsT//p.1.length≤4000∧p.2.1.length≤4000}
theorem regs_to (l:List Int) (hn:l.length≤4000):CallTo (EK K7) 108 [recs encZ 1 l] S0 (.bool (regsV l)):=by
 refine Ax (fn:=Tryz.f108) U U (by kernel_rfl) U U U rfl<|Es<|qa rfl<|Ld<|Ab<|Es<|qa rfl<|Ld ?_
 refine Af ?_
 refine A5 (fun i:Nat=>([(3,.int .i64 (i:Nat)),(0,recs encZ 1 l)],mkS 0 0 [] [])) (fun i=>l.length-i) (fun i=>i≤l.length∧(List.range i).all (fun i=>inV (l.getD i 0) 0 59)=true) 0 ⟨Qn _,rfl⟩ U (by(refine Am.Av ?_;repeat (first|exact trivial|refine⟨rfl,?_⟩))) ?_
 rintro i ⟨hi,hs⟩
 dsimp only at hi hs⊢
 by_cases h:i<l.length
 ·have hp:=AC Be h
  focus
   refine Ab<|Es ?_
   iterate 2 refine qm U ?_
   refine Lq (ol D6 U) rfl<|Lq (o2 u_3 U U) rfl<|Ld ?_
   refine Ec U (fun g1=>?_) (fun g1=>?_)
   have h1:=dT g1
   refine Ae<|Ab<|Af<|Es ?_
   iterate 2 refine qm U ?_
   refine Lq (Ag U D6 Bf U U ‹_›) rfl<|Lq (As U U B3 Bf) U ?_
   refine Lo (Ad U U (by kernel_rfl) U (Ac (hit_43))) rfl<|Lq (on U) rfl<|Ld ?_
   refine Ec U (fun g2=>?_) (fun g2=>?_)
   have h2:=Fo g2
   refine Es<|qa rfl<|Ld ?_
   refine Aa (Er U ?_)
   refine Ah ?_
   rotate_left
   have h2:=Fp g2
   refine Ae<|Ao<|qm U ?_
   refine Lq (A0 (b:=1) U u_3 U U (by first|assumption|omega|(simp only[LL];omega))) U ?_
   refine qa rfl<|Ld ?_
   rotate_left
   have h1:=dF g1
   exact absurd h1 (by omega)
  ·unfold regsV;rw[ra_no (i:=i) h (by rw[Dh h];assumption)]
  ·exact⟨i+1,⟨h,E8 hs (by rw[Dh h];assumption)⟩,by show l.length-(i+1)<l.length-i;omega,rfl,rfl,by(refine Am.Av ?_;repeat (first|exact trivial|refine⟨rfl,?_⟩))⟩
 ·focus
   refine Ab<|Es ?_
   iterate 2 refine qm U ?_
   refine Lq (ol D6 U) rfl<|Lq (o2 u_3 U U) rfl<|Ld ?_
   refine Ec U (fun g1=>?_) (fun g1=>?_)
   have h1:=dT g1
   exact absurd h1 (by omega)
   have h1:=dF g1
   refine A9<|Bq rfl<|Es<|qa rfl<|Ld ?_
   refine Aa (Er U ?_)
   refine Ah ?_
   rotate_left
  obtain rfl:i=l.length:=by omega
  exact hs.symm
noncomputable def K8a:=addC K7 108 (fun l:IntsT=>[recs encZ 1 l.1]) (fun l=> .bool (regsV l.1))
theorem hit_108 {l:List Int} (h:l.length≤4000):K8a 108 [recs encZ 1 l]=some (.bool (regsV l)):=
 A2 (f:=108) (enc:=fun l:IntsT=>[recs encZ 1 l.1]) (res:=fun l=> .bool (regsV l.1)) (by
  rintro⟨a,_⟩ ⟨b,_⟩ h
  obtain rfl:=B0 D8 Be (List.cons.inj h).1
  rfl) ⟨l,h⟩
def arity (l:List NameT) (n:Int):Int:=(l.getD n.toNat ([],0)).2
def madeV (cons funs:List NameT) (term n:Int) (k:Nat):Bool:=
 if term=2 then decide ((k:Int)=0)&&inV n (-1000000) 1000000
 else if term=3 then inV n 0 (cons.length-1)&&decide ((k:Int)=arity cons n)
 else if term=4 then inV n 0 (funs.length-1)&&decide ((k:Int)=arity funs n)
 else if term=5 then inV n 0 (funs.length-1)&&decide ((k:Int)<arity funs n)
 else if term=6∨term=7∨9≤term∧term≤15 then decide (n=0)&&decide ((k:Int)=2)
 else false
def madeI (cons funs:List NameT) (x:InsT):Bool:=madeV cons funs x.term x.n x.args.length
theorem made_pair {cons funs:List NameT} {x:InsT} (ht:x.term=6∨x.term=7∨9≤x.term∧x.term≤15):madeI cons funs x=(decide (x.n=0)&&decide ((x.args.length:Int)=2)):=by
 unfold madeI madeV
 rw[if_neg (by omega),if_neg (by omega),if_neg (by omega),if_neg (by omega),if_pos ht]
theorem made_pairT {cons funs:List NameT} {x:InsT} (ht:x.term=6∨x.term=7∨9≤x.term∧x.term≤15) (hn:x.n=0):decide ((x.args.length:Int)=2)=madeI cons funs x:=by rw[made_pair ht,decide_eq_true hn];rfl
theorem made_pairF {cons funs:List NameT} {x:InsT} (ht:x.term=6∨x.term=7∨9≤x.term∧x.term≤15) (hn:¬x.n=0):false=madeI cons funs x:=by rw[made_pair ht,decide_eq_false hn];rfl
theorem made_none {cons funs:List NameT} {x:InsT} (ht:¬(x.term=2∨x.term=3∨x.term=4∨x.term=5∨x.term=6∨x.term=7∨9≤x.term∧x.term≤15)):false=madeI cons funs x:=by
 unfold madeI madeV
 rw[if_neg (by omega),if_neg (by omega),if_neg (by omega),if_neg (by omega),if_neg (by omega)]
theorem made_to (cons funs:List NameT) (x:InsT) (hc:cons.length≤4000) (hf:funs.length≤4000):CallTo (EK K8a) 109 [.agg [recs encN 2 cons,recs encN 2 funs],.agg (encI x)] S0 (.bool (madeI cons funs x)):=by
 refine Ax (fn:=Tryz.f109) U U (by kernel_rfl) U U U U ?_
 focus
  refine Es<|Lo (AD 1 U U U U) rfl<|Lo (AD 2 U U U U) rfl<|qa rfl<|Ld<|Es<|Lq (of f_58_6 U) rfl<|Lo (l1 Dn BC U) U ?_
  refine Lq (ol D6 U) rfl<|qa rfl<|Ld<|Ab<|Es<|Lq (of f_58_4 U) rfl<|Lo (l1 ag_37 sz_37 U) rfl<|Ld ?_
  refine Af<|Es<|Lq (o2 u_37 U U) rfl<|qa rfl<|Ld ?_
  refine Ec U (fun g1=>?_) (fun g1=>?_)
  have h1:=dT g1
  refine Es<|qm rfl<|Lq (o2 u_3 U U) rfl<|qm U ?_
  refine Lb U (fun g2=>?_) (fun g2=>?_)
  have h2:=dT g2
  refine Lh U ‹_› (of BY U)<|Lg U ‹_› (l1 B3 Bf U) ?_
  refine Lg U ‹_› (Ad U U (by kernel_rfl) U (Ac (hit_43)))<|Lq (oT U ‹_› U) rfl<|qa rfl<|Ld ?_
  refine Aa (Er U ?_)
  refine Ah ?_
  rotate_left
  have h2:=dF g2
  iterate 3 refine Lk U ‹_› ?_
  refine Lq (oF U ‹_› U) rfl<|qa rfl<|Ld ?_
  refine Aa (Er U ?_)
  refine Ah ?_
  rotate_left
  have h1:=dF g1
  refine Es<|Lq (o2 u_37 U U) rfl<|qa rfl<|Ld ?_
  refine Ec U (fun g3=>?_) (fun g3=>?_)
  have h3:=dT g3
  refine Es<|Lq (of BY U) rfl<|Lo (l1 B3 Bf U) rfl<|Lq (of BU U) rfl<|Lo (l1 B4 B2 U) rfl<|Lq (ol DY U) rfl<|Lq (EL U u_3 U U (by omega)) U ?_
  refine Lo (Ad U U (by kernel_rfl) U (Ac (hit_43))) rfl<|qm U ?_
  refine Lb U (fun g4=>?_) (fun g4=>?_)
  refine Lh U ‹_› (om U)<|Lh U ‹_› (of BU U)<|Lg U ‹_› (l1 B4 B2 U)<|Lh U ‹_› (of BY U)<|Lg U ‹_› (l1 B3 Bf U) ?_
  rotate_left
  iterate 9 refine Lk U ‹_› ?_
  refine Lq (oF U ‹_› U) rfl<|qa rfl<|Ld ?_
  refine Aa (Er U ?_)
  refine Ah ?_
  rotate_left
  have h3:=dF g3
  refine Es<|Lq (o2 u_37 U U) rfl<|qa rfl<|Ld ?_
  refine Ec U (fun g5=>?_) (fun g5=>?_)
  have h5:=dT g5
  refine Es<|Lq (of BY U) rfl<|Lo (l1 B3 Bf U) rfl<|Lq (of BT U) rfl<|Lo (l1 B4 B2 U) rfl<|Lq (ol DY U) rfl<|Lq (EL U u_3 U U (by omega)) U ?_
  refine Lo (Ad U U (by kernel_rfl) U (Ac (hit_43))) rfl<|qm U ?_
  refine Lb U (fun g6=>?_) (fun g6=>?_)
  refine Lh U ‹_› (om U)<|Lh U ‹_› (of BT U)<|Lg U ‹_› (l1 B4 B2 U)<|Lh U ‹_› (of BY U)<|Lg U ‹_› (l1 B3 Bf U) ?_
  rotate_left
  iterate 9 refine Lk U ‹_› ?_
  refine Lq (oF U ‹_› U) rfl<|qa rfl<|Ld ?_
  refine Aa (Er U ?_)
  refine Ah ?_
  rotate_left
  have h5:=dF g5
  refine Es<|Lq (o2 u_37 U U) rfl<|qa rfl<|Ld ?_
  refine Ec U (fun g7=>?_) (fun g7=>?_)
  have h7:=dT g7
  refine Es<|Lq (of BY U) rfl<|Lo (l1 B3 Bf U) rfl<|Lq (of BT U) rfl<|Lo (l1 B4 B2 U) rfl<|Lq (ol DY U) rfl<|Lq (EL U u_3 U U (by omega)) U ?_
  refine Lo (Ad U U (by kernel_rfl) U (Ac (hit_43))) rfl<|qm U ?_
  refine Lb U (fun g8=>?_) (fun g8=>?_)
  refine Lh U ‹_› (om U)<|Lh U ‹_› (of BT U)<|Lg U ‹_› (l1 B4 B2 U)<|Lh U ‹_› (of BY U)<|Lg U ‹_› (l1 B3 Bf U) ?_
  rotate_left
  iterate 9 refine Lk U ‹_› ?_
  refine Lq (oF U ‹_› U) rfl<|qa rfl<|Ld ?_
  refine Aa (Er U ?_)
  refine Ah ?_
  rotate_left
  have h7:=dF g7
  refine Ab<|Es<|Lq (o2 u_37 U U) rfl<|qa rfl<|Ld ?_
  refine Ec U (fun g9=>?_) (fun g9=>?_)
  have h9:=dT g9
  refine Ae<|Ai U ‹_›<|Es<|Lq (of BY U) rfl<|Lo (l1 B3 Bf U) rfl<|Lq (o2 u_3 U U) rfl<|qm U ?_
  refine Lb U (fun g10=>?_) (fun g10=>?_)
  have h10:=dT g10
  refine Lh U ‹_› (om U)<|Lh U ‹_› (o2 u_3 U U)<|Lq (oT U ‹_› U) rfl<|qa rfl<|Ld ?_
  refine Aa (Er U ?_)
  refine Ah ?_
  rotate_left
  have h10:=dF g10
  iterate 2 refine Lk U ‹_› ?_
  refine Lq (oF U ‹_› U) rfl<|qa rfl<|Ld ?_
  refine Aa (Er U ?_)
  refine Ah ?_
  rotate_left
  have h9:=dF g9
  refine Es<|Lq (o2 u_37 U U) rfl<|qa rfl<|Ld ?_
  refine Ec U (fun g11=>?_) (fun g11=>?_)
  have h11:=dT g11
  refine Ae<|Ai U ‹_›<|Es<|Lq (of BY U) rfl<|Lo (l1 B3 Bf U) rfl<|Lq (o2 u_3 U U) rfl<|qm U ?_
  refine Lb U (fun g12=>?_) (fun g12=>?_)
  have h12:=dT g12
  refine Lh U ‹_› (om U)<|Lh U ‹_› (o2 u_3 U U)<|Lq (oT U ‹_› U) rfl<|qa rfl<|Ld ?_
  refine Aa (Er U ?_)
  refine Ah ?_
  rotate_left
  have h12:=dF g12
  iterate 2 refine Lk U ‹_› ?_
  refine Lq (oF U ‹_› U) rfl<|qa rfl<|Ld ?_
  refine Aa (Er U ?_)
  refine Ah ?_
  rotate_left
  have h11:=dF g11
  refine Es<|Lq (o2 u_37 U U) rfl<|qa rfl<|Ld ?_
  refine Ec U (fun g13=>?_) (fun g13=>?_)
  have h13:=dT g13
  refine Ae<|Ai U ‹_›<|Es<|Lq (of BY U) rfl<|Lo (l1 B3 Bf U) rfl<|Lq (o2 u_3 U U) rfl<|qm U ?_
  refine Lb U (fun g14=>?_) (fun g14=>?_)
  have h14:=dT g14
  refine Lh U ‹_› (om U)<|Lh U ‹_› (o2 u_3 U U)<|Lq (oT U ‹_› U) rfl<|qa rfl<|Ld ?_
  refine Aa (Er U ?_)
  refine Ah ?_
  rotate_left
  have h14:=dF g14
  iterate 2 refine Lk U ‹_› ?_
  refine Lq (oF U ‹_› U) rfl<|qa rfl<|Ld ?_
  refine Aa (Er U ?_)
  refine Ah ?_
  rotate_left
  have h13:=dF g13
  refine Es<|Lq (o2 u_37 U U) rfl<|qa rfl<|Ld ?_
  refine Ec U (fun g15=>?_) (fun g15=>?_)
  have h15:=dT g15
  refine Ae<|Ai U ‹_›<|Es<|Lq (of BY U) rfl<|Lo (l1 B3 Bf U) rfl<|Lq (o2 u_3 U U) rfl<|qm U ?_
  refine Lb U (fun g16=>?_) (fun g16=>?_)
  have h16:=dT g16
  refine Lh U ‹_› (om U)<|Lh U ‹_› (o2 u_3 U U)<|Lq (oT U ‹_› U) rfl<|qa rfl<|Ld ?_
  refine Aa (Er U ?_)
  refine Ah ?_
  rotate_left
  have h16:=dF g16
  iterate 2 refine Lk U ‹_› ?_
  refine Lq (oF U ‹_› U) rfl<|qa rfl<|Ld ?_
  refine Aa (Er U ?_)
  refine Ah ?_
  rotate_left
  have h15:=dF g15
  refine Es<|Lq (o2 u_37 U U) rfl<|qa rfl<|Ld ?_
  refine Ec U (fun g17=>?_) (fun g17=>?_)
  have h17:=dT g17
  refine Ae<|Ai U ‹_›<|Es<|Lq (of BY U) rfl<|Lo (l1 B3 Bf U) rfl<|Lq (o2 u_3 U U) rfl<|qm U ?_
  refine Lb U (fun g18=>?_) (fun g18=>?_)
  have h18:=dT g18
  refine Lh U ‹_› (om U)<|Lh U ‹_› (o2 u_3 U U)<|Lq (oT U ‹_› U) rfl<|qa rfl<|Ld ?_
  refine Aa (Er U ?_)
  refine Ah ?_
  rotate_left
  have h18:=dF g18
  iterate 2 refine Lk U ‹_› ?_
  refine Lq (oF U ‹_› U) rfl<|qa rfl<|Ld ?_
  refine Aa (Er U ?_)
  refine Ah ?_
  rotate_left
  have h17:=dF g17
  refine Es<|Lq (o2 u_37 U U) rfl<|qa rfl<|Ld ?_
  refine Ec U (fun g19=>?_) (fun g19=>?_)
  have h19:=dT g19
  refine Ae<|Ai U ‹_›<|Es<|Lq (of BY U) rfl<|Lo (l1 B3 Bf U) rfl<|Lq (o2 u_3 U U) rfl<|qm U ?_
  refine Lb U (fun g20=>?_) (fun g20=>?_)
  have h20:=dT g20
  refine Lh U ‹_› (om U)<|Lh U ‹_› (o2 u_3 U U)<|Lq (oT U ‹_› U) rfl<|qa rfl<|Ld ?_
  refine Aa (Er U ?_)
  refine Ah ?_
  rotate_left
  have h20:=dF g20
  iterate 2 refine Lk U ‹_› ?_
  refine Lq (oF U ‹_› U) rfl<|qa rfl<|Ld ?_
  refine Aa (Er U ?_)
  refine Ah ?_
  rotate_left
  have h19:=dF g19
  refine Es<|Lq (o2 u_37 U U) rfl<|qa rfl<|Ld ?_
  refine Ec U (fun g21=>?_) (fun g21=>?_)
  have h21:=dT g21
  refine Ae<|Ai U ‹_›<|Es<|Lq (of BY U) rfl<|Lo (l1 B3 Bf U) rfl<|Lq (o2 u_3 U U) rfl<|qm U ?_
  refine Lb U (fun g22=>?_) (fun g22=>?_)
  have h22:=dT g22
  refine Lh U ‹_› (om U)<|Lh U ‹_› (o2 u_3 U U)<|Lq (oT U ‹_› U) rfl<|qa rfl<|Ld ?_
  refine Aa (Er U ?_)
  refine Ah ?_
  rotate_left
  have h22:=dF g22
  iterate 2 refine Lk U ‹_› ?_
  refine Lq (oF U ‹_› U) rfl<|qa rfl<|Ld ?_
  refine Aa (Er U ?_)
  refine Ah ?_
  rotate_left
  have h21:=dF g21
  refine Es<|Lq (o2 u_37 U U) rfl<|qa rfl<|Ld ?_
  refine Ec U (fun g23=>?_) (fun g23=>?_)
  have h23:=dT g23
  refine Ae<|Ai U ‹_›<|Es<|Lq (of BY U) rfl<|Lo (l1 B3 Bf U) rfl<|Lq (o2 u_3 U U) rfl<|qm U ?_
  refine Lb U (fun g24=>?_) (fun g24=>?_)
  have h24:=dT g24
  refine Lh U ‹_› (om U)<|Lh U ‹_› (o2 u_3 U U)<|Lq (oT U ‹_› U) rfl<|qa rfl<|Ld ?_
  refine Aa (Er U ?_)
  refine Ah ?_
  rotate_left
  have h24:=dF g24
  iterate 2 refine Lk U ‹_› ?_
  refine Lq (oF U ‹_› U) rfl<|qa rfl<|Ld ?_
  refine Aa (Er U ?_)
  refine Ah ?_
  rotate_left
  have h23:=dF g23
  refine Ao<|Lq (o2 u_37 U U) rfl<|qa rfl<|Ld ?_
  refine Ec U (fun g25=>?_) (fun g25=>?_)
  have h25:=dT g25
  refine Es<|Lq (of BY U) rfl<|Lo (l1 B3 Bf U) rfl<|Lq (o2 u_3 U U) rfl<|qm U ?_
  refine Lb U (fun g26=>?_) (fun g26=>?_)
  have h26:=dT g26
  refine Lh U ‹_› (om U)<|Lh U ‹_› (o2 u_3 U U)<|Lq (oT U ‹_› U) rfl<|qa rfl<|Ld ?_
  refine Aa (Er U ?_)
  refine Ah ?_
  rotate_left
  have h26:=dF g26
  iterate 2 refine Lk U ‹_› ?_
  refine Lq (oF U ‹_› U) rfl<|qa rfl<|Ld ?_
  refine Aa (Er U ?_)
  refine Ah ?_
  rotate_left
  have h25:=dF g25
  refine Ae<|Es<|qa rfl<|Ld ?_
  refine Aa (Er U ?_)
  refine Ah ?_
  rotate_left
 ·simp only[madeI,madeV,h1,if_true,decide_eq_true h2,Bool.true_and]
 ·simp only[madeI,madeV,h1,if_true,decide_eq_false h2,Bool.false_and]
 ·obtain⟨hz,hlt⟩:=inV_iff.1 g4
  have hp:=AC AU (l:=cons) (i:=x.n.toNat) (by omega)
  refine Lh U ‹_› (BV U DY BS U U (by first|assumption|omega) ‹_›)<|Lh U ‹_› (A6 U f_54_1 U (Qc U))<|Lh U ‹_› (As U U B3 Bf)<|Lh U ‹_› (o2 u_3 U U)<|Lq (oT U ‹_› U) rfl<|qa rfl<|Ld ?_
  refine Aa (Er U ?_)
  refine Ah ?_
  simp only[madeI,madeV,h3,g4,arity,Dh (l:=cons) (i:=x.n.toNat) (d:=([],0)) (by omega)];rfl
 ·simp only[madeI,madeV,h3,g4];rfl
 ·obtain⟨hz,hlt⟩:=inV_iff.1 g6
  have hp:=AC AU (l:=funs) (i:=x.n.toNat) (by omega)
  refine Lh U ‹_› (BV U DY BS U U (by first|assumption|omega) ‹_›)<|Lh U ‹_› (A6 U f_54_1 U (Qc U))<|Lh U ‹_› (As U U B3 Bf)<|Lh U ‹_› (o2 u_3 U U)<|Lq (oT U ‹_› U) rfl<|qa rfl<|Ld ?_
  refine Aa (Er U ?_)
  refine Ah ?_
  simp only[madeI,madeV,h5,g6,arity,Dh (l:=funs) (i:=x.n.toNat) (d:=([],0)) (by omega)];rfl
 ·simp only[madeI,madeV,h5,g6];rfl
 ·obtain⟨hz,hlt⟩:=inV_iff.1 g8
  have hp:=AC AU (l:=funs) (i:=x.n.toNat) (by omega)
  refine Lh U ‹_› (BV U DY BS U U (by first|assumption|omega) ‹_›)<|Lh U ‹_› (A6 U f_54_1 U (Qc U))<|Lh U ‹_› (As U U B3 Bf)<|Lh U ‹_› (o2 u_3 U U)<|Lq (oT U ‹_› U) rfl<|qa rfl<|Ld ?_
  refine Aa (Er U ?_)
  refine Ah ?_
  simp only[madeI,madeV,h7,g8,arity,Dh (l:=funs) (i:=x.n.toNat) (d:=([],0)) (by omega)];rfl
 ·simp only[madeI,madeV,h7,g8];rfl
 all_goals first|exact made_pairT (by omega) ‹_›|exact made_pairF (by omega) ‹_›|exact made_none (by omega)
noncomputable def K8b:=addC K8a 109 (fun p:MadeT=>[.agg [recs encN 2 p.1.1,recs encN 2 p.1.2.1],.agg (encI p.1.2.2)]) (fun p=> .bool (madeI p.1.1 p.1.2.1 p.1.2.2))
theorem hit_109 {cons funs:List NameT} {x:InsT} (h1:cons.length≤4000) (h2:funs.length≤4000):K8b 109 [.agg [recs encN 2 cons,recs encN 2 funs],.agg (encI x)]=some (.bool (madeI cons funs x)):=
 A2 (f:=109) (enc:=fun p:MadeT=>[.agg [recs encN 2 p.1.1,recs encN 2 p.1.2.1],.agg (encI p.1.2.2)]) (res:=fun p=> .bool (madeI p.1.1 p.1.2.1 p.1.2.2)) (by
  rintro⟨⟨a,b,c⟩,_⟩ ⟨⟨d,e,f⟩,_⟩ h
  simp only[List.cons.injEq,and_true,AV.agg.injEq]at h
  obtain rfl:=B0 Dr AU h.1.1
  obtain rfl:=B0 Dr AU h.1.2
  obtain rfl:=encI_inj _ _ h.2
  rfl) ⟨(cons,funs,x),h1,h2⟩
def altAt (nc ni k:Nat) (l:List AltT) (i:Nat):Bool:=
 (inV (l.getD i (0,0)).1 0 (nc-1)&& !(decide (0<(i:Int))&&decide ((l.getD i (0,0)).1≤(l.getD (i-1) (0,0)).1)))&&inV (l.getD i (0,0)).2 ((k+1:Nat):Int) ((ni-1:Nat):Int)
def altsV (nc ni k:Nat) (l:List AltT):Bool:=(List.range l.length).all (altAt nc ni k l)
theorem alts_to (c:CodeT) (k:Nat) (hk:k<c.ins.length) (h1:c.cons.length≤4000) (h2:c.ins.length≤4000) (h3:c.ins[k].alts.length≤4000):CallTo (EK K8b) 106 [.agg (encC c),.int .i64 (k:Nat)] S0 (.bool (altsV c.cons.length c.ins.length k c.ins[k].alts)):=by
 refine Ax (fn:=Tryz.f106) U U (by kernel_rfl) U U U U ?_
 have hp0:=AC Ds hk
 refine Es<|Lo (AD 1 U U U U) rfl<|qa rfl<|Ld<|Es<|Lq (of Bp U) rfl<|Lo (l1 Du Dc U) rfl<|qm U ?_
 refine Lq (Ag U u_25 AP U U ‹_›) rfl<|Lq (A6 U D5 U (Qc U)) rfl<|Lq (As U U ag_56 E7) rfl<|qa rfl<|Ld<|Ab<|Es<|qa U ?_
 refine Ld<|Af ?_
 generalize hl:c.ins[k].alts=l at*
 refine A5 (fun i:Nat=>([(6,.int .i64 (i:Nat)),(5,recs encA 2 l),(2,.ptr 0 0),(1,.int .i64 (k:Nat))],mkS 1 0 [] [(0,some (.cells (encC c) 28 false))])) (fun i=>l.length-i) (fun i=>i≤l.length∧(List.range i).all (altAt c.cons.length c.ins.length k l)=true) 0 ⟨Qn _,rfl⟩ U (by(refine Am.Av ?_;repeat (first|exact trivial|refine⟨rfl,?_⟩))) ?_
 rintro i ⟨hi,hs⟩
 dsimp only at hi hs⊢
 by_cases h:i<l.length
 ·have hp:=AC EU h
  have hp1:=AC EU (l:=l) (i:=i-1) (by omega)
  have hat:altAt c.cons.length c.ins.length k l i=((inV l[i].1 0 (c.cons.length-1)&& !(decide (0<(i:Int))&&decide (l[i].1≤l[i-1].1)))&&inV l[i].2 ((k+1:Nat):Int) ((c.ins.length-1:Nat):Int)):=by
   unfold altAt
   rw[Dh h,Dh (by omega)]
  have hno:altAt c.cons.length c.ins.length k l i=false→false=altsV c.cons.length c.ins.length k l:=fun hf=>(ra_no h hf).symm
  focus
   refine Ab<|Es ?_
   iterate 2 refine qm U ?_
   refine Lq (ol u_56 U) rfl<|Lq (o2 u_3 U U) rfl<|Ld ?_
   refine Ec U (fun g1=>?_) (fun g1=>?_)
   have h1:=dT g1
   refine Ae<|Ab<|Af<|AK (by kernel_rfl) ?_
   iterate 2 refine Nq (om U) U ?_
   refine Nq (Ag U u_56 sz_60 U U ‹_›) rfl<|Nq (A6 U f_60_0 U (Qc U)) rfl<|Nq (As U U B3 Bf) rfl<|Nq (of DI U) rfl<|Nq (of BU U) rfl<|AZ U B4 B2 U U U (by kernel_rfl) (.inl U) U rfl<|Nq (ol DY U) rfl<|Nq (EL U u_3 U U (by omega)) U ?_
   refine Et (B6 U U (by kernel_rfl) U (hit_43)) (.inl U) U rfl<|Nq (on U) rfl<|Nq (om U) U ?_
   refine En U U U U (fun g2=>?_) (fun g2=>?_)
   have h2:=Fo g2
   iterate 3 refine Nk U ‹_› ?_
   iterate 12 refine Nt U ?_
   refine Nk U ‹_›<|Nq (oT U ‹_› U) rfl<|Nq (om U) U ?_
   iterate 13 refine Nk U U ?_
   refine Nq (oT U U U) rfl<|AG<|Ai U rfl<|Es<|qa rfl<|Ld ?_
   refine Aa (Er U ?_)
   refine Ah ?_
   rotate_left
   have h2:=Fp g2
   refine Ng U ‹_› (om U)<|Ng U ‹_› (o2 u_3 U U)<|Ng U ‹_› (om U) ?_
   refine En U U U U (fun g3=>?_) (fun g3=>?_)
   have h3:=dT g3
   iterate 2 refine Ng U ‹_› (om U) ?_
   refine Ng U ‹_› (Ag U u_56 sz_60 U U ‹_›)<|Ng U ‹_› (A6 U f_60_0 U (Qc U))<|Ng U ‹_› (As U U B3 Bf) ?_
   iterate 2 refine Ng U ‹_› (om U) ?_
   refine Ng U ‹_› (DV (b:=1) U u_3 U U (by omega))<|Ng U ‹_› (Ag U u_56 sz_60 U U ‹_›)<|Ng U ‹_› (A6 U f_60_0 U (Qc U))<|Ng U ‹_› (As U U B3 Bf)<|Ng U ‹_› (o2 u_3 U U)<|Ng U ‹_› (oT U ‹_› U)<|Nq (oF U ‹_› U) rfl<|Nq (om U) U ?_
   refine En U U U U (fun g4=>?_) (fun g4=>?_)
   have h4:=dT g4
   iterate 13 refine Nk U ‹_› ?_
   refine Nq (oT U ‹_› U) rfl<|AG<|Ai U rfl<|Es<|qa rfl<|Ld ?_
   refine Aa (Er U ?_)
   refine Ah ?_
   rotate_left
   have h4:=dF g4
   iterate 2 refine Ng U ‹_› (om U) ?_
   refine Ng U ‹_› (Ag U u_56 sz_60 U U ‹_›)<|Ng U ‹_› (A6 U f_60_1 U (Qc U))<|Ng U ‹_› (As U U B3 Bf)<|Ng U ‹_› (om U) ?_
   refine Ng U ‹_› (A0 (b:=1) U u_3 U U (by first|assumption|omega|(simp only[LL];omega))) ?_
   refine Ng U ‹_› (of Bp U)<|AZ U Du Dc U U U (by kernel_rfl) (Bm U U U U ‹_›) U rfl<|Ng U ‹_› (ol u_25 U)<|Ng U ‹_› (DV (b:=1) U u_3 U U (by omega)) ?_
   refine Et (B6 U U (by kernel_rfl) U (hit_43)) (Bm U U U U ‹_›) U rfl<|Ng U ‹_› (on U)<|Nq (oF U ‹_› U) rfl<|AG ?_
   refine Ec U (fun g5=>?_) (fun g5=>?_)
   have h5:=Fo g5
   refine Es<|qa rfl<|Ld ?_
   refine Aa (Er U ?_)
   refine Ah ?_
   rotate_left
   have h5:=Fp g5
   refine Ae<|Ao<|qm U ?_
   refine Lq (A0 (b:=1) U u_3 U U (by first|assumption|omega|(simp only[LL];omega))) U ?_
   refine qa rfl<|Ld ?_
   rotate_left
   have h3:=dF g3
   iterate 12 refine Nk U ‹_› ?_
   refine Ng U ‹_› (oF U ‹_› U)<|Nq (oF U ‹_› U) rfl<|Nq (om U) U ?_
   iterate 2 refine Ng U U (om U) ?_
   refine Ng U U (Ag U u_56 sz_60 U U ‹_›)<|Ng U U (A6 U f_60_1 U (Qc U))<|Ng U U (As U U B3 Bf)<|Ng U U (om U) ?_
   refine Ng U U (A0 (b:=1) U u_3 U U (by first|assumption|omega|(simp only[LL];omega))) ?_
   refine Ng U U (of Bp U)<|AZ U Du Dc U U U (by kernel_rfl) (Bm U U U U U) U rfl<|Ng U U (ol u_25 U)<|Ng U U (DV (b:=1) U u_3 U U (by omega)) ?_
   refine Et (B6 U U (by kernel_rfl) U (hit_43)) (Bm U U U U U) U rfl<|Ng U U (on U)<|Nq (oF U U U) rfl<|AG ?_
   refine Ec U (fun g6=>?_) (fun g6=>?_)
   have h6:=Fo g6
   refine Es<|qa rfl<|Ld ?_
   refine Aa (Er U ?_)
   refine Ah ?_
   rotate_left
   have h6:=Fp g6
   refine Ae<|Ao<|qm U ?_
   refine Lq (A0 (b:=1) U u_3 U U (by first|assumption|omega|(simp only[LL];omega))) U ?_
   refine qa rfl<|Ld ?_
   rotate_left
   have h1:=dF g1
   exact absurd h1 (by omega)
  ·exact hno (by rw[hat,h2];rfl)
  ·exact hno (by rw[hat,h2,g3,g4];rfl)
  ·exact hno (by rw[hat,h5,Bool.and_false])
  ·exact⟨i+1,⟨h,E8 hs (by rw[hat,h2,g3,g4,h5];rfl)⟩,by show l.length-(i+1)<l.length-i;omega,rfl,rfl,by(refine Am.Av ?_;repeat (first|exact trivial|refine⟨rfl,?_⟩))⟩
  ·exact hno (by rw[hat,h6,Bool.and_false])
  ·exact⟨i+1,⟨h,E8 hs (by rw[hat,h2,g3,h6];rfl)⟩,by show l.length-(i+1)<l.length-i;omega,rfl,rfl,by(refine Am.Av ?_;repeat (first|exact trivial|refine⟨rfl,?_⟩))⟩
 ·focus
   refine Ab<|Es ?_
   iterate 2 refine qm U ?_
   refine Lq (ol u_56 U) rfl<|Lq (o2 u_3 U U) rfl<|Ld ?_
   refine Ec U (fun g1=>?_) (fun g1=>?_)
   have h1:=dT g1
   exact absurd h1 (by omega)
   have h1:=dF g1
   refine A9<|Bq rfl<|Es<|qa rfl<|Ld ?_
   refine Aa (Er U ?_)
   refine Ah ?_
   rotate_left
  obtain rfl:i=l.length:=by omega
  exact hs.symm
noncomputable def K8c:=addC K8b 106 (fun p:AtT=>[.agg (encC p.1.1),.int .i64 (p.1.2:Nat)]) (fun p=> .bool (altsV p.1.1.cons.length p.1.1.ins.length p.1.2 p.x.alts))
theorem hit_106 {c:CodeT} {k:Nat} (h:Fits c) (hk:k<c.ins.length):K8c 106 [.agg (encC c),.int .i64 (k:Nat)]=some (.bool (altsV c.cons.length c.ins.length k c.ins[k].alts)):=
 A2 (f:=106) (enc:=fun p:AtT=>[.agg (encC p.1.1),.int .i64 (p.1.2:Nat)]) (res:=fun p=> .bool (altsV p.1.1.cons.length p.1.1.ins.length p.1.2 p.x.alts)) (fun p q h=>by rw[encAt_inj h]) ⟨(c,k),h,hk⟩
def targetAt (ni k:Nat) (l:List Int) (i:Nat):Bool:=inV (l.getD i 0) ((k+1:Nat):Int) ((ni-1:Nat):Int)
def targetsV (ni k:Nat) (l:List Int):Bool:=(List.range l.length).all (targetAt ni k l)&&decide (2≤(l.length:Int))
theorem targets_to (c:CodeT) (k:Nat) (hk:k<c.ins.length) (h2:c.ins.length≤4000) (h3:c.ins[k].to.length≤4000):CallTo (EK K8c) 107 [.agg (encC c),.int .i64 (k:Nat)] S0 (.bool (targetsV c.ins.length k c.ins[k].to)):=by
 refine Ax (fn:=Tryz.f107) U U (by kernel_rfl) U U U U ?_
 have hp0:=AC Ds hk
 refine Es<|Lo (AD 1 U U U U) rfl<|qa rfl<|Ld<|Es<|Lq (of Bp U) rfl<|Lo (l1 Du Dc U) rfl<|qm U ?_
 refine Lq (Ag U u_25 AP U U ‹_›) rfl<|Lq (A6 U Em U (Qc U)) rfl<|Lq (As U U Dn BC) rfl<|qa rfl<|Ld<|Ab<|Es<|qa U ?_
 refine Ld<|Af ?_
 generalize hl:c.ins[k].to=l at*
 refine A5 (fun i:Nat=>([(6,.int .i64 (i:Nat)),(5,recs encZ 1 l),(2,.ptr 0 0),(1,.int .i64 (k:Nat))],mkS 1 0 [] [(0,some (.cells (encC c) 28 false))])) (fun i=>l.length-i) (fun i=>i≤l.length∧(List.range i).all (targetAt c.ins.length k l)=true) 0 ⟨Qn _,rfl⟩ U (by(refine Am.Av ?_;repeat (first|exact trivial|refine⟨rfl,?_⟩))) ?_
 rintro i ⟨hi,hs⟩
 dsimp only at hi hs⊢
 by_cases h:i<l.length
 ·have hp:=AC Be h
  have hat:targetAt c.ins.length k l i=inV l[i] ((k+1:Nat):Int) ((c.ins.length-1:Nat):Int):=by
   unfold targetAt
   rw[Dh h]
  focus
   refine Ab<|Es ?_
   iterate 2 refine qm U ?_
   refine Lq (ol D6 U) rfl<|Lq (o2 u_3 U U) rfl<|Ld ?_
   refine Ec U (fun g1=>?_) (fun g1=>?_)
   have h1:=dT g1
   refine Ae<|Ab<|Af<|AK (by kernel_rfl) ?_
   iterate 2 refine Nq (om U) U ?_
   refine Nq (Ag U D6 Bf U U ‹_›) rfl<|Nq (As U U B3 Bf) rfl<|Nq (om U) U ?_
   refine Nq (A0 (b:=1) U u_3 U U (by first|assumption|omega|(simp only[LL];omega))) U ?_
   refine Nq (of Bp U) rfl<|AZ U Du Dc U U U (by kernel_rfl) (.inl U) U rfl<|Nq (ol u_25 U) rfl<|Nq (DV (b:=1) U u_3 U U (by omega)) U ?_
   refine Et (B6 U U (by kernel_rfl) U (hit_43)) (.inl U) U rfl<|Nq (on U) rfl<|AG ?_
   refine Ec U (fun g2=>?_) (fun g2=>?_)
   have h2:=Fo g2
   refine Es<|qa rfl<|Ld ?_
   refine Aa (Er U ?_)
   refine Ah ?_
   rotate_left
   have h2:=Fp g2
   refine Ae<|Ao<|qm U ?_
   refine Lq (A0 (b:=1) U u_3 U U (by first|assumption|omega|(simp only[LL];omega))) U ?_
   refine qa rfl<|Ld ?_
   rotate_left
   have h1:=dF g1
   exact absurd h1 (by omega)
  ·unfold targetsV;rw[ra_no h (hat.trans h2)];rfl
  ·exact⟨i+1,⟨h,E8 hs (hat.trans h2)⟩,by show l.length-(i+1)<l.length-i;omega,rfl,rfl,by(refine Am.Av ?_;repeat (first|exact trivial|refine⟨rfl,?_⟩))⟩
 ·focus
   refine Ab<|Es ?_
   iterate 2 refine qm U ?_
   refine Lq (ol D6 U) rfl<|Lq (o2 u_3 U U) rfl<|Ld ?_
   refine Ec U (fun g1=>?_) (fun g1=>?_)
   have h1:=dT g1
   exact absurd h1 (by omega)
   have h1:=dF g1
   refine A9<|Bq rfl<|Es<|qm rfl<|Lq (ol D6 U) rfl<|Lq (o2 u_3 U U) rfl<|qa rfl<|Ld ?_
   refine Aa (Er U ?_)
   refine Ah ?_
   rotate_left
  obtain rfl:i=l.length:=by omega
  unfold targetsV;rw[hs];rfl
noncomputable def K8:=addC K8c 107 (fun p:AtT=>[.agg (encC p.1.1),.int .i64 (p.1.2:Nat)]) (fun p=> .bool (targetsV p.1.1.ins.length p.1.2 p.x.to))
theorem hit_107 {c:CodeT} {k:Nat} (h:Fits c) (hk:k<c.ins.length):K8 107 [.agg (encC c),.int .i64 (k:Nat)]=some (.bool (targetsV c.ins.length k c.ins[k].to)):=
 A2 (f:=107) (enc:=fun p:AtT=>[.agg (encC p.1.1),.int .i64 (p.1.2:Nat)]) (res:=fun p=> .bool (targetsV p.1.1.ins.length p.1.2 p.x.to)) (fun p q h=>by rw[encAt_inj h]) ⟨(c,k),h,hk⟩
theorem all8 (h:KnownF Tryz.prog 10 [] (.bool true)):KnownAll Tryz.prog K8:=by
 have a1:KnownAll Tryz.prog K8a:=BH (all7 h) fun p=>DQ AB (all7 h) (regs_to p.1 p.2) rfl rfl
 have a2:KnownAll Tryz.prog K8b:=BH a1 fun p=>DQ AB a1 (made_to p.1.1 p.1.2.1 p.1.2.2 p.2.1 p.2.2) rfl rfl
 have a3:KnownAll Tryz.prog K8c:=BH a2 fun p=>DQ AB a2 (alts_to p.1.1 p.1.2 p.2.2 p.2.1.cons p.2.1.ins (p.2.1.alts _ (Ql _))) rfl rfl
 exact BH a3 fun p=>DQ AB a3 (targets_to p.1.1 p.1.2 p.2.2 p.2.1.ins (p.2.1.to _ (Ql _))) U U
def nodeV (x:InsT):Bool:=decide (x.term=0)&&(decide (x.n=0)&&decide ((x.args.length:Int)=0))
def insV (c:CodeT) (k:Nat) (x:InsT):Bool:=
 if x.op=1 then nodeV x&&(decide ((x.to.length:Int)=0)&&(inV x.a 0 59&&altsV c.cons.length c.ins.length k x.alts))
 else if x.op=2 then nodeV x&&(decide (x.a=0)&&(decide ((x.alts.length:Int)=0)&&targetsV c.ins.length k x.to))
 else if x.op=3∨x.op=4 then nodeV x&&(decide (x.a=0)&&(decide ((x.alts.length:Int)=0)&&decide ((x.to.length:Int)=0)))
 else if x.op=5 then decide (x.a=0)&&(decide ((x.alts.length:Int)=0)&&(decide ((x.to.length:Int)=0)&&(regsV x.args&&madeI c.cons c.funs x)))
 else if x.op=6 then nodeV x&&(decide ((x.alts.length:Int)=0)&&(decide ((x.to.length:Int)=0)&&inV x.a 0 59))
 else false
section
variable {c : CodeT} {k : Nat} {x : InsT}
theorem insV_1 (h:x.op=1):insV c k x=(nodeV x&&(decide ((x.to.length:Int)=0)&&(inV x.a 0 59&&altsV c.cons.length c.ins.length k x.alts))):=by unfold insV;rw[if_pos h]
theorem insV_2 (h:x.op=2):insV c k x=(nodeV x&&(decide (x.a=0)&&(decide ((x.alts.length:Int)=0)&&targetsV c.ins.length k x.to))):=by unfold insV;rw[if_neg (by omega),if_pos h]
theorem insV_3 (h:x.op=3∨x.op=4):insV c k x=(nodeV x&&(decide (x.a=0)&&(decide ((x.alts.length:Int)=0)&&decide ((x.to.length:Int)=0)))):=by unfold insV;rw[if_neg (by omega),if_neg (by omega),if_pos h]
theorem insV_5 (h:x.op=5):insV c k x=(decide (x.a=0)&&(decide ((x.alts.length:Int)=0)&&(decide ((x.to.length:Int)=0)&&(regsV x.args&&madeI c.cons c.funs x)))):=by unfold insV;rw[if_neg (by omega),if_neg (by omega),if_neg (by omega),if_pos h]
theorem insV_6 (h:x.op=6):insV c k x=(nodeV x&&(decide ((x.alts.length:Int)=0)&&(decide ((x.to.length:Int)=0)&&inV x.a 0 59))):=by unfold insV;rw[if_neg (by omega),if_neg (by omega),if_neg (by omega),if_neg (by omega),if_pos h]
theorem insV_0 (h:¬(x.op=1∨x.op=2∨x.op=3∨x.op=4∨x.op=5∨x.op=6)):insV c k x=false:=by unfold insV;rw[if_neg (by omega),if_neg (by omega),if_neg (by omega),if_neg (by omega),if_neg (by omega)]
end
theorem ins_to (c:CodeT) (k:Nat) (hf:Fits c) (hk:k<c.ins.length):CallTo (EK K8) 60 [.agg (encC c),.int .i64 (k:Nat)] S0 (.bool (insV c k c.ins[k])):=by
 refine Ax (fn:=Tryz.f60) U U (by kernel_rfl) U U U U ?_
 have hp0:=AC Ds hk
 have ha:=hf.args _ (Ql hk)
 have hk1:=hf.cons
 have hk2:=hf.funs
 have ht:=hf.to _ (Ql hk)
 have hal:=hf.alts _ (Ql hk)
 refine Es<|Lo (AD 1 U U U U) rfl<|qa rfl<|Ld<|Es<|Lq (of Bp U) rfl<|Lo (l1 Du Dc U) rfl<|qm U ?_
 refine Lq (Ag U u_25 AP U U ‹_›) rfl<|Lq (Bb U U Dy AP (Qc U)) rfl<|Lo (AE 2 U z_58 U) rfl<|Ak (A4 U AP U U U U U U) U rfl<|Ld ?_
 generalize hx:c.ins[k]=x at*
 refine E3 [(6,.bool (nodeV x)),(5,.ptr 1 0),(2,.ptr 0 0),(1,.int .i64 (k:Nat))] (mkS 2 0 [] [(1,some (.cells (encI x) 58 false)),(1,some (.cells [.int .i64 0,.int .i64 0,.nilslice,.nilslice,.int .i64 0,.int .i64 0,.nilslice] 58 false)),(0,some (.cells (encC c) 28 false))]) ?_ ?_
 ·focus
   refine Ao<|Lq (of f_58_4 U) rfl<|Lo (l1 ag_37 sz_37 U) rfl<|Lq (o2 u_37 U U) rfl<|qm U ?_
   refine Lb U (fun g1=>?_) (fun g1=>?_)
   have h1:=dT g1
   refine Lh U ‹_› (of BY U)<|Lg U ‹_› (l1 B3 Bf U)<|Lh U ‹_› (o2 u_3 U U)<|Lq (oT U ‹_› U) rfl<|qm U ?_
   refine Lb U (fun g2=>?_) (fun g2=>?_)
   have h2:=dT g2
   refine Lh U ‹_› (of f_58_6 U)<|Lg U ‹_› (l1 Dn BC U)<|Lh U ‹_› (ol D6 U)<|Lh U ‹_› (o2 u_3 U U)<|Lq (oT U ‹_› U) rfl<|qa rfl<|Ld ?_
   rotate_left
   have h2:=dF g2
   iterate 4 refine Lk U ‹_› ?_
   refine Lq (oF U ‹_› U) rfl<|qa rfl<|Ld ?_
   rotate_left
   have h1:=dF g1
   iterate 3 refine Lk U ‹_› ?_
   refine Lq (oF U ‹_› U) rfl<|qm U ?_
   iterate 4 refine Lk U U ?_
   refine Lq (oF U U U) rfl<|qa rfl<|Ld ?_
   rotate_left
  ·refine⟨rfl,rfl,rfl,?_⟩
   have e:nodeV x=decide ((x.args.length:Int)=0):=by unfold nodeV;rw[g1,g2];rfl
   rw[e]
   (refine Am.Av ?_;repeat (first|exact trivial|refine⟨rfl,?_⟩))
  ·refine⟨rfl,rfl,rfl,?_⟩
   have e:nodeV x=false:=by unfold nodeV;rw[g1,g2];rfl
   rw[e]
   (refine Am.Av ?_;repeat (first|exact trivial|refine⟨rfl,?_⟩))
  ·refine⟨rfl,rfl,rfl,?_⟩
   have e:nodeV x=false:=by unfold nodeV;rw[g1];rfl
   rw[e]
   (refine Am.Av ?_;repeat (first|exact trivial|refine⟨rfl,?_⟩))
 ·focus
   refine Ab<|Es<|Lq (of B1 U) rfl<|Lo (l1 DT DN U) rfl<|Ld<|Af<|Es<|Lq (o2 BB U U) U ?_
   refine qa rfl<|Ld ?_
   refine Ec U (fun g1=>?_) (fun g1=>?_)
   have h1:=dT g1
   refine Es ?_
   iterate 2 refine qm U ?_
   refine Lb U (fun g2=>?_) (fun g2=>?_)
   refine Lh U ‹_› (of Em U)<|Lg U ‹_› (l1 Dn BC U)<|Lh U ‹_› (ol D6 U)<|Lh U ‹_› (o2 u_3 U U)<|Lq (oT U ‹_› U) rfl<|qm U ?_
   refine Lb U (fun g3=>?_) (fun g3=>?_)
   have h3:=dT g3
   refine Lh U ‹_› (of DZ U)<|Lg U ‹_› (l1 B3 Bf U) ?_
   refine Lg U ‹_› (Ad U U (by kernel_rfl) U (Ac (hit_43)))<|Lq (oT U ‹_› U) rfl<|qm U ?_
   refine Lb U (fun g4=>?_) (fun g4=>?_)
   refine Lg U ‹_› (AM U DU Bg U U (Qc U))<|Lh U ‹_› (om U) ?_
   refine Lg U ‹_› (Ad U U (by kernel_rfl) U (Ac (hit_106 (by first|assumption|omega|(simp only[LL];omega)) (by first|assumption|omega|(simp only[LL];omega))))) ?_
   refine Lq (oT U ‹_› U) rfl<|qa rfl<|Ld ?_
   refine Aa (Er U ?_)
   refine Ah ?_
   rotate_left
   iterate 3 refine Lk U ‹_› ?_
   refine Lq (oF U ‹_› U) rfl<|qa rfl<|Ld ?_
   refine Aa (Er U ?_)
   refine Ah ?_
   rotate_left
   have h3:=dF g3
   iterate 3 refine Lk U ‹_› ?_
   refine Lq (oF U ‹_› U) rfl<|qm U ?_
   iterate 3 refine Lk U U ?_
   refine Lq (oF U U U) rfl<|qa rfl<|Ld ?_
   refine Aa (Er U ?_)
   refine Ah ?_
   rotate_left
   iterate 4 refine Lk U ‹_› ?_
   refine Lq (oF U ‹_› U) rfl<|qm U ?_
   iterate 3 refine Lk U U ?_
   refine Lq (oF U U U) rfl<|qm U ?_
   iterate 3 refine Lk U U ?_
   refine Lq (oF U U U) rfl<|qa rfl<|Ld ?_
   refine Aa (Er U ?_)
   refine Ah ?_
   rotate_left
   have h1:=dF g1
   refine Es<|Lq (o2 BB U U) rfl<|qa rfl<|Ld ?_
   refine Ec U (fun g5=>?_) (fun g5=>?_)
   have h5:=dT g5
   refine Es ?_
   iterate 2 refine qm U ?_
   refine Lb U (fun g6=>?_) (fun g6=>?_)
   refine Lh U ‹_› (of DZ U)<|Lg U ‹_› (l1 B3 Bf U)<|Lh U ‹_› (o2 u_3 U U)<|Lq (oT U ‹_› U) rfl<|qm U ?_
   refine Lb U (fun g7=>?_) (fun g7=>?_)
   have h7:=dT g7
   refine Lh U ‹_› (of D5 U)<|Lg U ‹_› (l1 ag_56 E7 U)<|Lh U ‹_› (ol u_56 U)<|Lh U ‹_› (o2 u_3 U U)<|Lq (oT U ‹_› U) rfl<|qm U ?_
   refine Lb U (fun g8=>?_) (fun g8=>?_)
   have h8:=dT g8
   refine Lg U ‹_› (AM U DU Bg U U (Qc U))<|Lh U ‹_› (om U) ?_
   refine Lg U ‹_› (Ad U U (by kernel_rfl) U (Ac (hit_107 (by first|assumption|omega|(simp only[LL];omega)) (by first|assumption|omega|(simp only[LL];omega))))) ?_
   refine Lq (oT U ‹_› U) rfl<|qa rfl<|Ld ?_
   refine Aa (Er U ?_)
   refine Ah ?_
   rotate_left
   have h8:=dF g8
   iterate 3 refine Lk U ‹_› ?_
   refine Lq (oF U ‹_› U) rfl<|qa rfl<|Ld ?_
   refine Aa (Er U ?_)
   refine Ah ?_
   rotate_left
   have h7:=dF g7
   iterate 4 refine Lk U ‹_› ?_
   refine Lq (oF U ‹_› U) rfl<|qm U ?_
   iterate 3 refine Lk U U ?_
   refine Lq (oF U U U) rfl<|qa rfl<|Ld ?_
   refine Aa (Er U ?_)
   refine Ah ?_
   rotate_left
   iterate 3 refine Lk U ‹_› ?_
   refine Lq (oF U ‹_› U) rfl<|qm U ?_
   iterate 4 refine Lk U U ?_
   refine Lq (oF U U U) rfl<|qm U ?_
   iterate 3 refine Lk U U ?_
   refine Lq (oF U U U) rfl<|qa rfl<|Ld ?_
   refine Aa (Er U ?_)
   refine Ah ?_
   rotate_left
   have h5:=dF g5
   refine Ab<|Es<|Lq (o2 BB U U) rfl<|qa rfl<|Ld ?_
   refine Ec U (fun g9=>?_) (fun g9=>?_)
   have h9:=dT g9
   refine Ae<|Ai U ‹_›<|Es ?_
   iterate 2 refine qm U ?_
   refine Lb U (fun g10=>?_) (fun g10=>?_)
   refine Lh U ‹_› (of DZ U)<|Lg U ‹_› (l1 B3 Bf U)<|Lh U ‹_› (o2 u_3 U U)<|Lq (oT U ‹_› U) rfl<|qm U ?_
   refine Lb U (fun g11=>?_) (fun g11=>?_)
   have h11:=dT g11
   refine Lh U ‹_› (of D5 U)<|Lg U ‹_› (l1 ag_56 E7 U)<|Lh U ‹_› (ol u_56 U)<|Lh U ‹_› (o2 u_3 U U)<|Lq (oT U ‹_› U) rfl<|qm U ?_
   refine Lb U (fun g12=>?_) (fun g12=>?_)
   have h12:=dT g12
   refine Lh U ‹_› (of Em U)<|Lg U ‹_› (l1 Dn BC U)<|Lh U ‹_› (ol D6 U)<|Lh U ‹_› (o2 u_3 U U)<|Lq (oT U ‹_› U) rfl<|qa rfl<|Ld ?_
   refine Aa (Er U ?_)
   refine Ah ?_
   rotate_left
   have h12:=dF g12
   iterate 4 refine Lk U ‹_› ?_
   refine Lq (oF U ‹_› U) rfl<|qa rfl<|Ld ?_
   refine Aa (Er U ?_)
   refine Ah ?_
   rotate_left
   have h11:=dF g11
   iterate 4 refine Lk U ‹_› ?_
   refine Lq (oF U ‹_› U) rfl<|qm U ?_
   iterate 4 refine Lk U U ?_
   refine Lq (oF U U U) rfl<|qa rfl<|Ld ?_
   refine Aa (Er U ?_)
   refine Ah ?_
   rotate_left
   iterate 3 refine Lk U ‹_› ?_
   refine Lq (oF U ‹_› U) rfl<|qm U ?_
   iterate 4 refine Lk U U ?_
   refine Lq (oF U U U) rfl<|qm U ?_
   iterate 4 refine Lk U U ?_
   refine Lq (oF U U U) rfl<|qa rfl<|Ld ?_
   refine Aa (Er U ?_)
   refine Ah ?_
   rotate_left
   have h9:=dF g9
   refine Ao<|Lq (o2 BB U U) rfl<|qa rfl<|Ld ?_
   refine Ec U (fun g13=>?_) (fun g13=>?_)
   have h13:=dT g13
   refine Es ?_
   iterate 2 refine qm U ?_
   refine Lb U (fun g14=>?_) (fun g14=>?_)
   refine Lh U ‹_› (of DZ U)<|Lg U ‹_› (l1 B3 Bf U)<|Lh U ‹_› (o2 u_3 U U)<|Lq (oT U ‹_› U) rfl<|qm U ?_
   refine Lb U (fun g15=>?_) (fun g15=>?_)
   have h15:=dT g15
   refine Lh U ‹_› (of D5 U)<|Lg U ‹_› (l1 ag_56 E7 U)<|Lh U ‹_› (ol u_56 U)<|Lh U ‹_› (o2 u_3 U U)<|Lq (oT U ‹_› U) rfl<|qm U ?_
   refine Lb U (fun g16=>?_) (fun g16=>?_)
   have h16:=dT g16
   refine Lh U ‹_› (of Em U)<|Lg U ‹_› (l1 Dn BC U)<|Lh U ‹_› (ol D6 U)<|Lh U ‹_› (o2 u_3 U U)<|Lq (oT U ‹_› U) rfl<|qa rfl<|Ld ?_
   refine Aa (Er U ?_)
   refine Ah ?_
   rotate_left
   have h16:=dF g16
   iterate 4 refine Lk U ‹_› ?_
   refine Lq (oF U ‹_› U) rfl<|qa rfl<|Ld ?_
   refine Aa (Er U ?_)
   refine Ah ?_
   rotate_left
   have h15:=dF g15
   iterate 4 refine Lk U ‹_› ?_
   refine Lq (oF U ‹_› U) rfl<|qm U ?_
   iterate 4 refine Lk U U ?_
   refine Lq (oF U U U) rfl<|qa rfl<|Ld ?_
   refine Aa (Er U ?_)
   refine Ah ?_
   rotate_left
   iterate 3 refine Lk U ‹_› ?_
   refine Lq (oF U ‹_› U) rfl<|qm U ?_
   iterate 4 refine Lk U U ?_
   refine Lq (oF U U U) rfl<|qm U ?_
   iterate 4 refine Lk U U ?_
   refine Lq (oF U U U) rfl<|qa rfl<|Ld ?_
   refine Aa (Er U ?_)
   refine Ah ?_
   rotate_left
   have h13:=dF g13
   refine Es<|Lq (o2 BB U U) rfl<|qa rfl<|Ld ?_
   refine Ec U (fun g17=>?_) (fun g17=>?_)
   have h17:=dT g17
   refine Es<|Lq (of DZ U) rfl<|Lo (l1 B3 Bf U) rfl<|Lq (o2 u_3 U U) rfl<|qm U ?_
   refine Lb U (fun g18=>?_) (fun g18=>?_)
   have h18:=dT g18
   refine Lh U ‹_› (of D5 U)<|Lg U ‹_› (l1 ag_56 E7 U)<|Lh U ‹_› (ol u_56 U)<|Lh U ‹_› (o2 u_3 U U)<|Lq (oT U ‹_› U) rfl<|qm U ?_
   refine Lb U (fun g19=>?_) (fun g19=>?_)
   have h19:=dT g19
   refine Lh U ‹_› (of Em U)<|Lg U ‹_› (l1 Dn BC U)<|Lh U ‹_› (ol D6 U)<|Lh U ‹_› (o2 u_3 U U)<|Lq (oT U ‹_› U) rfl<|qm U ?_
   refine Lb U (fun g20=>?_) (fun g20=>?_)
   have h20:=dT g20
   refine Lh U ‹_› (of f_58_6 U)<|Lg U ‹_› (l1 Dn BC U) ?_
   refine Lg U ‹_› (Ad U U (by kernel_rfl) U (Ac (hit_108 (by first|assumption|omega|(simp only[LL];omega))))) ?_
   refine Lq (oT U ‹_› U) rfl<|qm U ?_
   refine Lb U (fun g21=>?_) (fun g21=>?_)
   refine Lh U ‹_› (of DI U)<|Lg U ‹_› (AM U ag_24 sz_24 U U (Qc U))<|Lg U ‹_› (AM U Dy AP U U (Qc U)) ?_
   refine Lg U ‹_› (Ad U U (by kernel_rfl) U (Ac (hit_109 (by first|assumption|omega|(simp only[LL];omega)) (by first|assumption|omega|(simp only[LL];omega))))) ?_
   refine Lq (oT U ‹_› U) rfl<|qa rfl<|Ld ?_
   refine Aa (Er U ?_)
   refine Ah ?_
   rotate_left
   iterate 4 refine Lk U ‹_› ?_
   refine Lq (oF U ‹_› U) rfl<|qa rfl<|Ld ?_
   refine Aa (Er U ?_)
   refine Ah ?_
   rotate_left
   have h20:=dF g20
   iterate 3 refine Lk U ‹_› ?_
   refine Lq (oF U ‹_› U) rfl<|qm U ?_
   iterate 4 refine Lk U U ?_
   refine Lq (oF U U U) rfl<|qa rfl<|Ld ?_
   refine Aa (Er U ?_)
   refine Ah ?_
   rotate_left
   have h19:=dF g19
   iterate 4 refine Lk U ‹_› ?_
   refine Lq (oF U ‹_› U) rfl<|qm U ?_
   iterate 3 refine Lk U U ?_
   refine Lq (oF U U U) rfl<|qm U ?_
   iterate 4 refine Lk U U ?_
   refine Lq (oF U U U) rfl<|qa rfl<|Ld ?_
   refine Aa (Er U ?_)
   refine Ah ?_
   rotate_left
   have h18:=dF g18
   iterate 4 refine Lk U ‹_› ?_
   refine Lq (oF U ‹_› U) rfl<|qm U ?_
   iterate 4 refine Lk U U ?_
   refine Lq (oF U U U) rfl<|qm U ?_
   iterate 3 refine Lk U U ?_
   refine Lq (oF U U U) rfl<|qm U ?_
   iterate 4 refine Lk U U ?_
   refine Lq (oF U U U) rfl<|qa rfl<|Ld ?_
   refine Aa (Er U ?_)
   refine Ah ?_
   rotate_left
   have h17:=dF g17
   refine Es<|Lq (o2 BB U U) rfl<|qa rfl<|Ld ?_
   refine Ec U (fun g22=>?_) (fun g22=>?_)
   have h22:=dT g22
   refine Es ?_
   iterate 2 refine qm U ?_
   refine Lb U (fun g23=>?_) (fun g23=>?_)
   refine Lh U ‹_› (of D5 U)<|Lg U ‹_› (l1 ag_56 E7 U)<|Lh U ‹_› (ol u_56 U)<|Lh U ‹_› (o2 u_3 U U)<|Lq (oT U ‹_› U) rfl<|qm U ?_
   refine Lb U (fun g24=>?_) (fun g24=>?_)
   have h24:=dT g24
   refine Lh U ‹_› (of Em U)<|Lg U ‹_› (l1 Dn BC U)<|Lh U ‹_› (ol D6 U)<|Lh U ‹_› (o2 u_3 U U)<|Lq (oT U ‹_› U) rfl<|qm U ?_
   refine Lb U (fun g25=>?_) (fun g25=>?_)
   have h25:=dT g25
   refine Lh U ‹_› (of DZ U)<|Lg U ‹_› (l1 B3 Bf U) ?_
   refine Lg U ‹_› (Ad U U (by kernel_rfl) U (Ac (hit_43)))<|Lq (oT U ‹_› U) rfl<|qa rfl<|Ld ?_
   refine Aa (Er U ?_)
   refine Ah ?_
   rotate_left
   have h25:=dF g25
   iterate 3 refine Lk U ‹_› ?_
   refine Lq (oF U ‹_› U) rfl<|qa rfl<|Ld ?_
   refine Aa (Er U ?_)
   refine Ah ?_
   rotate_left
   have h24:=dF g24
   iterate 4 refine Lk U ‹_› ?_
   refine Lq (oF U ‹_› U) rfl<|qm U ?_
   iterate 3 refine Lk U U ?_
   refine Lq (oF U U U) rfl<|qa rfl<|Ld ?_
   refine Aa (Er U ?_)
   refine Ah ?_
   rotate_left
   iterate 4 refine Lk U ‹_› ?_
   refine Lq (oF U ‹_› U) rfl<|qm U ?_
   iterate 4 refine Lk U U ?_
   refine Lq (oF U U U) rfl<|qm U ?_
   iterate 3 refine Lk U U ?_
   refine Lq (oF U U U) rfl<|qa rfl<|Ld ?_
   refine Aa (Er U ?_)
   refine Ah ?_
   rotate_left
   have h22:=dF g22
   refine Ae<|Es<|qa rfl<|Ld ?_
   refine Aa (Er U ?_)
   refine Ah ?_
   rotate_left
  all_goals clear hp0 ha ht hal hk1 hk2
  all_goals first|rw[insV_1 ‹_›]|rw[insV_2 ‹_›]|rw[insV_3 (by omega)]|rw[insV_5 ‹_›]|rw[insV_6 ‹_›]|rw[insV_0 (by omega)]
  all_goals simp only[*,Bool.true_and,Bool.false_and,Bool.and_self,decide_true,decide_false]
end Go.Proofs.YtpihdbhocgcbpaaGreatDoor
