/- Code: the types; strings, names, registers. -/
import Derived.Test.YtpihdbhocgcbpaaGreatDoorAmG
import Derived.Test.YtpihdbhocgcbpaaGreatDoorProg
import Derived.KernelRfl
set_option linter.unusedSectionVars false
set_option linter.unusedVariables false
set_option linter.unusedSimpArgs false
open Go Am
namespace Go.Proofs.YtpihdbhocgcbpaaGreatDoor
noncomputable abbrev CX (m:Nat) (K:FuncId→List AV→Option AV):Env:=lk Tryz.prog 1200 1200 m K
noncomputable abbrev EK (K:FuncId→List AV→Option AV):Env:=CX 0 K
section
variable {K : FuncId → List AV → Option AV} {m : Nat}
theorem nI:C7 (CX m K) 2=some (.int .i64):=by kernel_rfl
theorem Ck:C7 (CX m K) 3=some (.int .i64):=by kernel_rfl
theorem Bb:Am.sizeOf (CX m K) 3=some 1:=by kernel_rfl
theorem Bv:Am.isAgg (CX m K) 3=some false:=by kernel_rfl
theorem pD:Am.zeroOf (CX m K) 3=some (.int .i64 0):=by kernel_rfl
theorem wY:bytesOf (CX m K) 3=some 8:=by kernel_rfl
theorem wZ:Am.sizeOf (CX m K) 4=some 1:=by kernel_rfl
theorem z_4:Am.zeroOf (CX m K) 4=some (.bool false):=by kernel_rfl
theorem dU:C7 (CX m K) 5=some (.int .u8):=by kernel_rfl
theorem B3:Am.sizeOf (CX m K) 5=some 1:=by kernel_rfl
theorem z_5:Am.zeroOf (CX m K) 5=some (.int .u8 0):=by kernel_rfl
theorem xc:bytesOf (CX m K) 5=some 1:=by kernel_rfl
theorem OM:isByte (CX m K) 5=true:=by kernel_rfl
theorem Wl:C7 (CX m K) 9=some .string:=by kernel_rfl
theorem D0:Am.sizeOf (CX m K) 9=some 1:=by kernel_rfl
theorem Gs:Am.isAgg (CX m K) 9=some false:=by kernel_rfl
theorem pE:Am.zeroOf (CX m K) 9=some (.str []):=by kernel_rfl
theorem nJ:bytesOf (CX m K) 9=some 16:=by kernel_rfl
theorem xd:Y9 (CX m K) 9=some (.one .string):=by kernel_rfl
theorem oI:CC (CX m K) 20=some true:=by kernel_rfl
theorem SN:C7 (CX m K) 21=some (.int .i32):=by kernel_rfl
theorem D3:C7 (CX m K) 22=some (.slice 54):=by kernel_rfl
theorem Bk:Am.sizeOf (CX m K) 22=some 1:=by kernel_rfl
theorem Bn:Am.isAgg (CX m K) 22=some false:=by kernel_rfl
theorem BA:Cf (CX m K) 24 0=some (0,1,false):=by kernel_rfl
theorem BF:Cf (CX m K) 24 1=some (1,1,false):=by kernel_rfl
theorem Ma:Am.sizeOf (CX m K) 24=some 2:=by kernel_rfl
theorem MU:Am.isAgg (CX m K) 24=some true:=by kernel_rfl
theorem FR:C7 (CX m K) 25=some (.slice 58):=by kernel_rfl
theorem Dd:Am.sizeOf (CX m K) 25=some 1:=by kernel_rfl
theorem Dg:Am.isAgg (CX m K) 25=some false:=by kernel_rfl
theorem Ea:C7 (CX m K) 26=some (.slice 3):=by kernel_rfl
theorem B9:Am.sizeOf (CX m K) 26=some 1:=by kernel_rfl
theorem BJ:Am.isAgg (CX m K) 26=some false:=by kernel_rfl
theorem BI:Cf (CX m K) 28 0=some (0,2,true):=by kernel_rfl
theorem Bf:Cf (CX m K) 28 1=some (2,1,false):=by kernel_rfl
theorem EA:Cf (CX m K) 28 2=some (3,1,false):=by kernel_rfl
theorem D5:Am.sizeOf (CX m K) 28=some 4:=by kernel_rfl
theorem Em:Am.isAgg (CX m K) 28=some true:=by kernel_rfl
theorem pF:Am.zeroOf (CX m K) 28=some (.agg [.Ca,.Ca,.Ca,.Ca]):=by kernel_rfl
theorem sX:Am.Ct (CX m K) 28=some ([.Ca,.Ca,.Ca,.Ca],nth [(0,2),(2,1),(3,1)]):=by kernel_rfl
theorem RA:C7 (CX m K) 31=some (.int .i64):=by kernel_rfl
theorem Hx:C7 (CX m K) 37=some (.int .i64):=by kernel_rfl
theorem Jh:Am.sizeOf (CX m K) 37=some 1:=by kernel_rfl
theorem KJ:Am.isAgg (CX m K) 37=some false:=by kernel_rfl
theorem DO:C7 (CX m K) 52=some (.slice 5):=by kernel_rfl
theorem HG:Am.sizeOf (CX m K) 52=some 1:=by kernel_rfl
theorem KI:Am.isAgg (CX m K) 52=some false:=by kernel_rfl
theorem OW:Yg (CX m K) 54=true:=by kernel_rfl
theorem Fb:Cf (CX m K) 54 0=some (0,1,false):=by kernel_rfl
theorem Fw:Cf (CX m K) 54 1=some (1,1,false):=by kernel_rfl
theorem BB:Am.sizeOf (CX m K) 54=some 2:=by kernel_rfl
theorem Jj:Am.isAgg (CX m K) 54=some true:=by kernel_rfl
theorem lu:Am.zeroOf (CX m K) 54=some (.agg [.str [],.int .i64 0]):=by kernel_rfl
theorem oJ:bytesOf (CX m K) 54=some 24:=by kernel_rfl
theorem Pv:Y9 (CX m K) 54=some (.flat [.string,.int .i64]):=by kernel_rfl
theorem N6:Am.Ct (CX m K) 54=some ([.str [],.int .i64 0],nth [(0,1),(1,1)]):=by kernel_rfl
theorem Gp:C7 (CX m K) 55=some (.int .i64):=by kernel_rfl
theorem E6:Am.sizeOf (CX m K) 55=some 1:=by kernel_rfl
theorem E8:Am.isAgg (CX m K) 55=some false:=by kernel_rfl
theorem Hm:C7 (CX m K) 56=some (.slice 60):=by kernel_rfl
theorem Ee:Am.sizeOf (CX m K) 56=some 1:=by kernel_rfl
theorem E7:Am.isAgg (CX m K) 56=some false:=by kernel_rfl
theorem Df:Cf (CX m K) 58 0=some (0,1,false):=by kernel_rfl
theorem E1:Cf (CX m K) 58 1=some (1,1,false):=by kernel_rfl
theorem Dm:Cf (CX m K) 58 2=some (2,1,false):=by kernel_rfl
theorem E9:Cf (CX m K) 58 3=some (3,1,false):=by kernel_rfl
theorem Hs:Cf (CX m K) 58 4=some (4,1,false):=by kernel_rfl
theorem De:Cf (CX m K) 58 5=some (5,1,false):=by kernel_rfl
theorem FG:Cf (CX m K) 58 6=some (6,1,false):=by kernel_rfl
theorem BV:Am.sizeOf (CX m K) 58=some 7:=by kernel_rfl
theorem Gr:Am.isAgg (CX m K) 58=some true:=by kernel_rfl
theorem mI:Am.zeroOf (CX m K) 58=some (.agg [.int .i64 0,.int .i64 0,.Ca,.Ca,.int .i64 0,.int .i64 0,.Ca]):=by kernel_rfl
theorem sY:bytesOf (CX m K) 58=some 104:=by kernel_rfl
theorem sZ:Am.Ct (CX m K) 58=some ([.int .i64 0,.int .i64 0,.Ca,.Ca,.int .i64 0,.int .i64 0,.Ca],nth [(0,1),(1,1),(2,1),(3,1),(4,1),(5,1),(6,1)]):=by kernel_rfl
theorem ta:Yg (CX m K) 60=true:=by kernel_rfl
theorem Hr:Cf (CX m K) 60 0=some (0,1,false):=by kernel_rfl
theorem Je:Cf (CX m K) 60 1=some (1,1,false):=by kernel_rfl
theorem Fo:Am.sizeOf (CX m K) 60=some 2:=by kernel_rfl
theorem SC:Am.isAgg (CX m K) 60=some true:=by kernel_rfl
theorem pG:Am.zeroOf (CX m K) 60=some (.agg [.int .i64 0,.int .i64 0]):=by kernel_rfl
theorem tb:bytesOf (CX m K) 60=some 16:=by kernel_rfl
theorem tc:Y9 (CX m K) 60=some (.flat [.int .i64,.int .i64]):=by kernel_rfl
theorem td:Am.Ct (CX m K) 60=some ([.int .i64 0,.int .i64 0],nth [(0,1),(1,1)]):=by kernel_rfl
theorem OP:C7 (CX m K) 100=some (.pointer 102):=by kernel_rfl
theorem Lp:Am.sizeOf (CX m K) 100=some 1:=by kernel_rfl
theorem O6:Am.isAgg (CX m K) 100=some false:=by kernel_rfl
theorem IE:Cf (CX m K) 102 0=some (0,1,false):=by kernel_rfl
theorem DW:Cf (CX m K) 102 1=some (1,1,false):=by kernel_rfl
theorem J6:Am.sizeOf (CX m K) 102=some 2:=by kernel_rfl
theorem tf:Am.zeroOf (CX m K) 102=some (.agg [.CJ,.Ca]):=by kernel_rfl
theorem Kt:Cf (CX m K) 104 0=some (0,2,true):=by kernel_rfl
theorem oK:Am.zeroOf (CX m K) 104=some (.agg [.CJ,.Ca]):=by kernel_rfl
theorem B2:C7 (CX m K) 106=some (.slice 9):=by kernel_rfl
theorem EM:Am.sizeOf (CX m K) 106=some 1:=by kernel_rfl
theorem FM:Am.isAgg (CX m K) 106=some false:=by kernel_rfl
theorem KV:C7 (CX m K) 108=some (.array 7 9):=by kernel_rfl
theorem Ih:CC (CX m K) 111=some true:=by kernel_rfl
theorem MF:Cf (CX m K) 114 0=some (0,1,false):=by kernel_rfl
theorem Ks:Cf (CX m K) 114 1=some (1,1,false):=by kernel_rfl
theorem Q1:Am.sizeOf (CX m K) 114=some 2:=by kernel_rfl
theorem Hk:Am.zeroOf (CX m K) 114=some (.agg [.int .i64 0,.Ca]):=by kernel_rfl
theorem EY:CC (CX m K) 114=some false:=by kernel_rfl
theorem TL:Am.Ct (CX m K) 114=some ([.int .i64 0,.Ca],nth [(0,1),(1,1)]):=by kernel_rfl
theorem Kr:Cf (CX m K) 117 0=some (0,1,false):=by kernel_rfl
theorem Q0:Am.sizeOf (CX m K) 117=some 1:=by kernel_rfl
theorem HC:Am.zeroOf (CX m K) 117=some (.agg [.Ca]):=by kernel_rfl
theorem FE:CC (CX m K) 117=some false:=by kernel_rfl
theorem TK:Am.Ct (CX m K) 117=some ([.Ca],nth [(0,1)]):=by kernel_rfl
theorem ME:Cf (CX m K) 119 0=some (0,1,false):=by kernel_rfl
theorem Da:Cf (CX m K) 119 1=some (1,1,false):=by kernel_rfl
theorem Kq:Cf (CX m K) 119 2=some (2,1,false):=by kernel_rfl
theorem Nf:Am.sizeOf (CX m K) 119=some 3:=by kernel_rfl
theorem Vx:Am.isAgg (CX m K) 119=some true:=by kernel_rfl
theorem Jg:Am.zeroOf (CX m K) 119=some (.agg [.int .i64 0,.int .i64 0,.Ca]):=by kernel_rfl
theorem G8:CC (CX m K) 119=some false:=by kernel_rfl
theorem TJ:Am.Ct (CX m K) 119=some ([.int .i64 0,.int .i64 0,.Ca],nth [(0,1),(1,1),(2,1)]):=by kernel_rfl
theorem MD:Cf (CX m K) 121 0=some (0,1,false):=by kernel_rfl
theorem Tc:Am.sizeOf (CX m K) 121=some 1:=by kernel_rfl
theorem Rx:Am.zeroOf (CX m K) 121=some (.agg [.int .i64 0]):=by kernel_rfl
theorem LC:CC (CX m K) 121=some false:=by kernel_rfl
theorem TI:Am.Ct (CX m K) 121=some ([.int .i64 0],nth [(0,1)]):=by kernel_rfl
theorem Gw:Am.sizeOf (CX m K) 146=some 1:=by kernel_rfl
theorem O5:Am.isAgg (CX m K) 146=some false:=by kernel_rfl
theorem Na:Am.zeroOf (CX m K) 146=some .Cu:=by kernel_rfl
theorem SU:C7 (CX m K) 155=some (.map 9 4):=by kernel_rfl
theorem Nd:Am.sizeOf (CX m K) 155=some 1:=by kernel_rfl
theorem Rq:Am.isAgg (CX m K) 155=some false:=by kernel_rfl
theorem tg:Am.zeroOf (CX m K) 155=some .VU:=by kernel_rfl
theorem U6:CC (CX m K) 166=some false:=by kernel_rfl
theorem TH:Am.Ct (CX m K) 166=some ([],nth []):=by kernel_rfl
theorem U5:CC (CX m K) 167=some false:=by kernel_rfl
theorem TG:Am.Ct (CX m K) 167=some ([],nth []):=by kernel_rfl
theorem Tb:Am.sizeOf (CX m K) 181=some 0:=by kernel_rfl
theorem oL:Am.zeroOf (CX m K) 181=some (.agg []):=by kernel_rfl
theorem QS:CC (CX m K) 181=some false:=by kernel_rfl
theorem TF:Am.Ct (CX m K) 181=some ([],nth []):=by kernel_rfl
theorem Fc:Cf (CX m K) 184 0=some (0,4,true):=by kernel_rfl
theorem DE:Cf (CX m K) 184 1=some (4,1,false):=by kernel_rfl
theorem TE:Am.Ct (CX m K) 184=some ([.Ca,.Ca,.Ca,.Ca,.Ca],nth [(0,4),(4,1)]):=by kernel_rfl
theorem IR:Am.sizeOf (CX m K) 185=some 1:=by kernel_rfl
theorem O4:Am.isAgg (CX m K) 185=some false:=by kernel_rfl
theorem SS:C7 (CX m K) 222=some (.array 3 185):=by kernel_rfl
theorem Ta:Am.sizeOf (CX m K) 222=some 3:=by kernel_rfl
theorem th:Am.zeroOf (CX m K) 222=some (.agg [.Cu,.Cu,.Cu]):=by kernel_rfl
theorem TD:Am.Ct (CX m K) 222=some ([.Cu,.Cu,.Cu],fun i=>some (i*1,1)):=by kernel_rfl
theorem AX:C7 (CX m K) 250=some (.int .u32):=by kernel_rfl
theorem Fm:C7 (CX m K) 253=some (.int .u64):=by kernel_rfl
theorem Qz:Am.sizeOf (CX m K) 253=some 1:=by kernel_rfl
theorem Vw:Am.isAgg (CX m K) 253=some false:=by kernel_rfl
theorem oM:C7 (CX m K) 257=some .unsafePointer:=by kernel_rfl
theorem Eb:C7 (CX m K) 259=some (.array 24 5):=by kernel_rfl
theorem ti:Am.zeroOf (CX m K) 259=some (.agg [.int .u8 0,.int .u8 0,.int .u8 0,.int .u8 0,.int .u8 0,.int .u8 0,.int .u8 0,.int .u8 0,.int .u8 0,.int .u8 0,.int .u8 0,.int .u8 0,.int .u8 0,.int .u8 0,.int .u8 0,.int .u8 0,.int .u8 0,.int .u8 0,.int .u8 0,.int .u8 0,.int .u8 0,.int .u8 0,.int .u8 0,.int .u8 0]):=by kernel_rfl
theorem tj:C7 (CX m K) 305=some (.array 20 253):=by kernel_rfl
theorem EW:methodOf (CX m K) 114 "swingle/code.registers" =some (341,.mk none none):=by kernel_rfl
theorem EV:methodOf (CX m K) 117 "swingle/code.registers" =some (342,.mk none none):=by kernel_rfl
theorem EU:methodOf (CX m K) 119 "swingle/code.registers" =some (343,.mk none none):=by kernel_rfl
theorem ET:methodOf (CX m K) 121 "swingle/code.registers" =some (344,.mk none none):=by kernel_rfl
theorem ES:methodOf (CX m K) 166 "swingle/code.registers" =some (345,.mk none none):=by kernel_rfl
theorem ER:methodOf (CX m K) 167 "swingle/code.registers" =some (346,.mk none none):=by kernel_rfl
end
def K0:FuncId→List AV→Option AV:=fun f args=>match f with
 |10=>match args with
  | []=>some (.bool true)
  |_=>none
 |_=>none
theorem AC:X8 Tryz.prog 1200 1200:=⟨dT (by kernel_rfl),dT (by kernel_rfl),by kernel_rfl,by kernel_rfl⟩
theorem tk (h:VG Tryz.prog 10 [] (.bool true)):CK Tryz.prog K0:=by
 intro f args v hv;unfold K0 at hv;split at hv
 ·split at hv
  ·cases hv;exact h
  ·cases hv
 ·cases hv
def YK (n a b:Int):Bool:=decide (a≤n)&&decide (n≤b)
section
variable {K : FuncId → List AV → Option AV} (n a b : Int)
theorem in0_to (hK:K 76=fun _=>none):Cb (EK K) 76 [.int .i64 n,.int .i64 a,.int .i64 b] S0 (.bool (YK n a b)):=by
 refine Aq (fn:=Tryz.f76) U (by show K 76 _=none;rw[hK]) (by kernel_rfl) U U U U ?_;focus
  refine Es<|qa rfl<|Ld<|Es ?_;iterate 2 refine qm U ?_
  refine Lq (o2 Ck U U) rfl<|qm U ?_;refine Lb U (fun g1=>?_) (fun g1=>?_);have h1:=dT g1;iterate 2 refine Lh U ‹_› (om U) ?_
  refine Lh U ‹_› (o2 Ck U U)<|Lq (oT U ‹_› U) rfl<|qa rfl<|Ld ?_;refine Ab (Er U ?_);refine Ag ?_;rotate_left;have h1:=dF g1;iterate 3 refine Lk U ‹_› ?_
  refine Lq (oF U ‹_› U) rfl<|qa rfl<|Ld ?_;refine Ab (Er U ?_);refine Ag ?_;rotate_left
 all_goals (unfold YK;rw[g1];rfl)
theorem in1_to (hK:K 43=fun _=>none):Cb (EK K) 43 [.int .i64 n,.int .i64 a,.int .i64 b] S0 (.bool (YK n a b)):=by
 refine Aq (fn:=Tryz.f43) U (by show K 43 _=none;rw[hK]) (by kernel_rfl) U U U U ?_;focus
  refine Es<|qa rfl<|Ld<|Es ?_;iterate 2 refine qm U ?_
  refine Lq (o2 Ck U U) rfl<|qm U ?_;refine Lb U (fun g1=>?_) (fun g1=>?_);have h1:=dT g1;iterate 2 refine Lh U ‹_› (om U) ?_
  refine Lh U ‹_› (o2 Ck U U)<|Lq (oT U ‹_› U) rfl<|qa rfl<|Ld ?_;refine Ab (Er U ?_);refine Ag ?_;rotate_left;have h1:=dF g1;iterate 3 refine Lk U ‹_› ?_
  refine Lq (oF U ‹_› U) rfl<|qa rfl<|Ld ?_;refine Ab (Er U ?_);refine Ag ?_;rotate_left
 all_goals (unfold YK;rw[g1];rfl)
theorem in2_to (hK:K 104=fun _=>none):Cb (EK K) 104 [.int .i64 n,.int .i64 a,.int .i64 b] S0 (.bool (YK n a b)):=by
 refine Aq (fn:=Tryz.f104) U (by show K 104 _=none;rw[hK]) (by kernel_rfl) U U U U ?_;focus
  refine Es<|qa rfl<|Ld<|Es ?_;iterate 2 refine qm U ?_
  refine Lq (o2 Ck U U) rfl<|qm U ?_;refine Lb U (fun g1=>?_) (fun g1=>?_);have h1:=dT g1;iterate 2 refine Lh U ‹_› (om U) ?_
  refine Lh U ‹_› (o2 Ck U U)<|Lq (oT U ‹_› U) rfl<|qa rfl<|Ld ?_;refine Ab (Er U ?_);refine Ag ?_;rotate_left;have h1:=dF g1;iterate 3 refine Lk U ‹_› ?_
  refine Lq (oF U ‹_› U) rfl<|qa rfl<|Ld ?_;refine Ab (Er U ?_);refine Ag ?_;rotate_left
 all_goals (unfold YK;rw[g1];rfl)
theorem in3_to (hK:K 37=fun _=>none):Cb (EK K) 37 [.int .i64 n,.int .i64 a,.int .i64 b] S0 (.bool (YK n a b)):=by
 refine Aq (fn:=Tryz.f37) U (by show K 37 _=none;rw[hK]) (by kernel_rfl) U U U U ?_;focus
  refine Es<|qa rfl<|Ld<|Es ?_;iterate 2 refine qm U ?_
  refine Lq (o2 Ck U U) rfl<|qm U ?_;refine Lb U (fun g1=>?_) (fun g1=>?_);have h1:=dT g1;iterate 2 refine Lh U ‹_› (om U) ?_
  refine Lh U ‹_› (o2 Ck U U)<|Lq (oT U ‹_› U) rfl<|qa rfl<|Ld ?_;refine Ab (Er U ?_);refine Ag ?_;rotate_left;have h1:=dF g1;iterate 3 refine Lk U ‹_› ?_
  refine Lq (oF U ‹_› U) rfl<|qa rfl<|Ld ?_;refine Ab (Er U ?_);refine Ag ?_;rotate_left
 all_goals (unfold YK;rw[g1];rfl)
end
noncomputable def K1a:=Wa K0 76 (fun p:Int×Int×Int=>[.int .i64 p.1,.int .i64 p.2.1,.int .i64 p.2.2]) (fun p=> .bool (YK p.1 p.2.1 p.2.2))
noncomputable def K1b:=Wa K1a 43 (fun p:Int×Int×Int=>[.int .i64 p.1,.int .i64 p.2.1,.int .i64 p.2.2]) (fun p=> .bool (YK p.1 p.2.1 p.2.2))
noncomputable def K1c:=Wa K1b 104 (fun p:Int×Int×Int=>[.int .i64 p.1,.int .i64 p.2.1,.int .i64 p.2.2]) (fun p=> .bool (YK p.1 p.2.1 p.2.2))
noncomputable def K1:=Wa K1c 37 (fun p:Int×Int×Int=>[.int .i64 p.1,.int .i64 p.2.1,.int .i64 p.2.2]) (fun p=> .bool (YK p.1 p.2.1 p.2.2))
section
variable {n a b : Int}
theorem UB:K1a 76 [.int .i64 n,.int .i64 a,.int .i64 b]=some (.bool (YK n a b)):=A3 (f:=76) (enc:=fun p:Int×Int×Int=>[.int .i64 p.1,.int .i64 p.2.1,.int .i64 p.2.2]) (res:=fun p=> .bool (YK p.1 p.2.1 p.2.2)) (by rintro⟨a,b,c⟩ ⟨d,e,f⟩ h;cases h;rfl) (n,a,b)
theorem Gq:K1b 43 [.int .i64 n,.int .i64 a,.int .i64 b]=some (.bool (YK n a b)):=A3 (f:=43) (enc:=fun p:Int×Int×Int=>[.int .i64 p.1,.int .i64 p.2.1,.int .i64 p.2.2]) (res:=fun p=> .bool (YK p.1 p.2.1 p.2.2)) (by rintro⟨a,b,c⟩ ⟨d,e,f⟩ h;cases h;rfl) (n,a,b)
theorem P5:K1c 104 [.int .i64 n,.int .i64 a,.int .i64 b]=some (.bool (YK n a b)):=A3 (f:=104) (enc:=fun p:Int×Int×Int=>[.int .i64 p.1,.int .i64 p.2.1,.int .i64 p.2.2]) (res:=fun p=> .bool (YK p.1 p.2.1 p.2.2)) (by rintro⟨a,b,c⟩ ⟨d,e,f⟩ h;cases h;rfl) (n,a,b)
theorem Jb:K1 37 [.int .i64 n,.int .i64 a,.int .i64 b]=some (.bool (YK n a b)):=A3 (f:=37) (enc:=fun p:Int×Int×Int=>[.int .i64 p.1,.int .i64 p.2.1,.int .i64 p.2.2]) (res:=fun p=> .bool (YK p.1 p.2.1 p.2.2)) (by rintro⟨a,b,c⟩ ⟨d,e,f⟩ h;cases h;rfl) (n,a,b)
end
theorem all1 (h:VG Tryz.prog 10 [] (.bool true)):CK Tryz.prog K1:=by
 have a0:=tk h;have a1:CK Tryz.prog K1a:=BO a0 fun p=>DT AC a0 (in0_to p.1 p.2.1 p.2.2 rfl) rfl rfl;have a2:CK Tryz.prog K1b:=BO a1 fun p=>DT AC a1 (in1_to p.1 p.2.1 p.2.2 rfl) rfl rfl;have a3:CK Tryz.prog K1c:=BO a2 fun p=>DT AC a2 (in2_to p.1 p.2.1 p.2.2 rfl) rfl rfl;exact BO a3 fun p=>DT AC a3 (in3_to p.1 p.2.1 p.2.2 U) U U
def WT (n:Int):Bool:=(decide (97≤n)&&decide (n≤122))||(decide (65≤n)&&decide (n≤90))
def YU (w:List UInt8):Bool:=decide (tw WT w=w.length)&&YK w.length 1 8
theorem Po {w:List UInt8} (h:tw WT w<w.length):YU w=false:=by
 unfold YU;rw[decide_eq_false (by omega)];rfl
theorem EX {w:List UInt8} {i:Nat} (hi:i≤tw WT w) (h:i<w.length) (hn:WT (w.getD i 0).toNat=false):YU w=false:=
 Po (by
  have:=(OQ hi h).2;have:¬i<tw WT w:=fun C6=>by rw[this C6]at hn;cases hn
  omega)
theorem GX {w:List UInt8} {i:Nat} (hi:i≤tw WT w) (h:i<w.length) (hn:WT (w.getD i 0).toNat=true):i+1≤tw WT w:=(OQ hi h).1 hn
theorem L7 (n:Int):WT n=true↔(97≤n∧n≤122)∨(65≤n∧n≤90):=by
 unfold WT;simp only[Bool.or_eq_true,Qf,decide_eq_true_eq]
theorem Ib {n:Int} (h:(97≤n∧n≤122)∨(65≤n∧n≤90)):WT n=true:=(L7 n).2 h
theorem Ei {n:Int} (h:¬((97≤n∧n≤122)∨(65≤n∧n≤90))):WT n=false:=by
 cases hb:WT n with
 |false=>rfl
 |true=>exact absurd ((L7 n).1 hb) h
theorem xe (w:List UInt8) (hw:w.length≤4000):Cb (EK K1) 140 [.str w] S0 (.bool (YU w)):=by
 refine Aq (fn:=Tryz.f140) U U (by kernel_rfl) U U U U ?_;have hle:=yZ WT w;refine Es<|qa rfl<|Ld<|Aa<|Es<|qa rfl<|Ld<|Ch.block ?_;refine Aw (fun i:Nat=>([(3,.int .i64 (i:Nat)),(0,.str w)],WZ 0 0 [] [])) (fun i=>w.length-i) (fun i=>i≤tw WT w) 0 (Qo _) U (Ao (by repeat' constructor)) fun i hi=>?_;focus
  refine Aa<|Es ?_;iterate 2 refine qm U ?_
  refine Lq (AD U U U U Wl U) rfl<|Lq (o2 Ck U U) rfl<|Ld ?_;refine Ec U (fun g1=>?_) (fun g1=>?_);have h1:=dT g1;refine Ac<|Aa<|Ch.block<|Es ?_;iterate 2 refine qm U ?_
  refine Lq (AU U Wl U U (by omega)) U ?_;refine Lq (o2 dU U U) rfl<|qm U ?_;refine Lb U (fun g2=>?_) (fun g2=>?_);have h2:=dT g2;iterate 4 refine Lk U ‹_› ?_
  refine Lq (oT U ‹_› U) rfl<|qm U ?_;iterate 2 refine Lh U U (om U) ?_
  refine Lh U U (AU U Wl U U (by omega)) ?_;refine Lh U U (o2 dU U U)<|Lh U U (om U) ?_;refine Lb U (fun g3=>?_) (fun g3=>?_);have h3:=dT g3;iterate 4 refine Lk U ‹_› ?_
  refine Lh U U (oT U ‹_› U)<|Lq (oT U U U) rfl<|Ld<|Ah U rfl<|Es<|qa rfl<|Ld ?_;refine Ab (Er U ?_);refine Ag ?_;rotate_left;have h3:=dF g3;iterate 2 refine Lh U ‹_› (om U) ?_
  refine Lh U ‹_› (AU U Wl U U (by omega)) ?_;refine Lh U ‹_› (o2 dU U U)<|Lh U U (oF U ‹_› U)<|Lq (oT U U U) rfl<|Ld ?_;refine Ec U (fun g4=>?_) (fun g4=>?_);have h4:=dT g4;refine Es<|qa rfl<|Ld ?_;refine Ab (Er U ?_);refine Ag ?_;rotate_left;have h4:=dF g4;refine Ac<|Ai<|qm U ?_;refine Lq (Ap (b:=1) U Ck U U (by omega)) U ?_;refine qa rfl<|Ld ?_;rotate_left;have h2:=dF g2;iterate 2 refine Lh U ‹_› (om U) ?_
  refine Lh U ‹_› (AU U Wl U U (by omega)) ?_;refine Lh U ‹_› (o2 dU U U)<|Lq (oF U ‹_› U) rfl<|qm U ?_;refine Lb U (fun g5=>?_) (fun g5=>?_);have h5:=dT g5;iterate 2 refine Lh U ‹_› (om U) ?_
  refine Lh U ‹_› (AU U Wl U U (by omega)) ?_;refine Lh U ‹_› (o2 dU U U)<|Lh U ‹_› (om U) ?_;refine Lb U (fun g6=>?_) (fun g6=>?_);have h6:=dT g6;exact absurd h6 (by omega);have h6:=dF g6;iterate 2 refine Lh U ‹_› (om U) ?_
  refine Lh U ‹_› (AU U Wl U U (by omega)) ?_;refine Lh U ‹_› (o2 dU U U)<|Lh U ‹_› (oF U ‹_› U)<|Lq (oT U ‹_› U) rfl<|Ld ?_;refine Ec U (fun g7=>?_) (fun g7=>?_);have h7:=dT g7;refine Es<|qa rfl<|Ld ?_;refine Ab (Er U ?_);refine Ag ?_;rotate_left;have h7:=dF g7;exact absurd h7 (by omega);have h5:=dF g5;iterate 5 refine Lk U ‹_› ?_
  iterate 4 refine FP U U U U U U ?_
  refine Lk U ‹_›<|Lq (oF U ‹_› U) rfl<|Ld<|Af U rfl<|Ac<|Ai<|qm U ?_;refine Lq (Ap (b:=1) U Ck U U (by omega)) U ?_;refine qa rfl<|Ld ?_;rotate_left;have h1:=dF g1;refine A1<|AS rfl<|Es<|qm rfl<|Lq (AD U U U U Wl U) U ?_;refine Lo (Ad U U (by kernel_rfl) U (Cb.Cs (P5))) rfl<|qa rfl<|Ld ?_;refine Ab (Er U ?_);refine Ag ?_;rotate_left
 ·exact(EX hi (by omega) (Ei (by omega))).symm
 ·exact(EX hi (by omega) (Ei (by omega))).symm
 ·exact⟨i+1,GX hi (by omega) (Ib (by omega)),by show w.length-(i+1)<w.length-i;omega,rfl,rfl,Ao (by repeat' constructor)⟩
 ·exact(EX hi (by omega) (Ei (by omega))).symm
 ·exact⟨i+1,GX hi (by omega) (Ib (by omega)),by show w.length-(i+1)<w.length-i;omega,rfl,rfl,Ao (by repeat' constructor)⟩
 ·have e:tw WT w=w.length:=by omega
  unfold YU;rw[decide_eq_true e];rfl
noncomputable def K1n:=Wa K1 140 (fun w: {w:List UInt8//w.length≤4000}=>[.str w.1]) (fun w=> .bool (YU w.1))
theorem xf {w:List UInt8} (hw:w.length≤4000):K1n 140 [.str w]=some (.bool (YU w)):=
 A3 (f:=140) (enc:=fun w: {w:List UInt8//w.length≤4000}=>[.str w.1]) (res:=fun w=> .bool (YU w.1)) (by rintro⟨a,_⟩ ⟨b,_⟩ h;cases h;rfl) ⟨w,hw⟩
theorem RF (w:List UInt8) (hw:w.length≤4000):Cb (EK K1n) 75 [.str w] S0 (.bool (YU w)):=by
 refine Aq (fn:=Tryz.f75) U U (by kernel_rfl) U U U U ?_;have hle:=yZ WT w;refine Es<|qa rfl<|Ld<|Aa<|Es<|qm rfl<|Lo (MX 1 U Wl U U) rfl<|Ld<|Ch.block ?_;refine Aw (fun x:Nat×St=>([(6,.ptr 0 0),(0,.str w)],x.2)) (fun x=>w.length-x.1) (fun x=>x.1≤tw WT w∧x.2.bound=0∧x.2.log=[]∧x.2.heap.get 0=some (.X5 w x.1)) (0,WZ 1 0 [] [(0,some (.X5 w 0))]) ⟨Qo _,rfl,rfl,DD 0⟩ U (Ao (by repeat' constructor)) ?_;rintro⟨i,st⟩ ⟨hi,dz,YR,hg⟩;dsimp only at hi dz YR hg⊢;refine Es ?_;rcases Nat.lt_or_ge i w.length with h|h
 ·by_cases hc:(w.getD i 0).toNat<128
  ·refine Lo (PV U U hg h hc) U ?_;focus
    refine Lq (oe U) rfl<|Ld<|Aa<|Ah U rfl<|Ac<|Ch.block<|Es<|Lq (oe U) rfl<|qa rfl<|Ld<|Es<|qm rfl<|Lq (o2 SN U U) rfl<|qm U ?_;refine Lb U (fun g1=>?_) (fun g1=>?_);have h1:=dT g1;refine Lh U ‹_› (om U)<|Lh U ‹_› (o2 SN U U)<|Lq (oT U ‹_› U) rfl<|qm U ?_;refine Lb U (fun g2=>?_) (fun g2=>?_);have h2:=dT g2;iterate 3 refine Lk U ‹_› ?_
    iterate 2 refine FP U U U U U U ?_
    refine Lk U ‹_›<|Lq (oT U ‹_› U) rfl<|Lq (on U) rfl<|Ld<|Af U rfl<|Ac ?_;rotate_left;have h2:=dF g2;refine Lh U ‹_› (om U)<|Lh U ‹_› (o2 SN U U)<|Lh U ‹_› (om U) ?_;refine Lb U (fun g3=>?_) (fun g3=>?_);have h3:=dT g3;refine Lh U ‹_› (om U)<|Lh U ‹_› (o2 SN U U)<|Lh U ‹_› (oT U ‹_› U)<|Lq (oF U ‹_› U) rfl<|Lq (on U) rfl<|Ld ?_;refine Ec U (fun g4=>?_) (fun g4=>?_);have h4:=nT g4;refine Es<|qa rfl<|Ld ?_;rotate_left;have h4:=nF g4;exact absurd h4 (by omega);have h3:=dF g3;exact absurd h3 (by omega);have h1:=dF g1;iterate 2 refine Lk U ‹_› ?_
    refine Lq (oF U ‹_› U) rfl<|qm rfl<|Lh U U (om U)<|Lh U U (o2 SN U U)<|Lh U U (om U) ?_;refine Lb U (fun g5=>?_) (fun g5=>?_);have h5:=dT g5;refine Lh U ‹_› (om U)<|Lh U ‹_› (o2 SN U U)<|Lh U U (oT U ‹_› U)<|Lq (oF U U U) rfl<|Lq (on U) rfl<|Ld ?_;refine Ec U (fun g6=>?_) (fun g6=>?_);have h6:=nT g6;refine Es<|qa rfl<|Ld ?_;rotate_left;have h6:=nF g6;refine Ac ?_;rotate_left;have h5:=dF g5;iterate 2 refine Lk U ‹_› ?_
    refine Lh U U (oF U ‹_› U)<|Lq (oF U U U) rfl<|Lq (on U) rfl<|Ld<|Ah U rfl<|Es<|qa rfl<|Ld ?_;rotate_left
   ·exact⟨(i+1,st.put 0 (some (.X5 w (i+1)))),⟨GX hi h (Ib (by omega)),dz,(Gy dz).trans YR,by rw[AL,if_pos rfl]⟩,by show w.length-(i+1)<w.length-i;omega,rfl,rfl,Ao (by repeat' constructor)⟩
   ·try refine Ab ⟨.inl rfl,rfl,(Gy dz).trans YR,dz,_,_,_,(An rfl rfl),rfl,rfl,?_⟩
    rw[EX hi h (Ei (by omega))];rfl
   ·try refine Ab ⟨.inl rfl,rfl,(Gy dz).trans YR,dz,_,_,_,(An rfl rfl),rfl,rfl,?_⟩
    rw[EX hi h (Ei (by omega))];rfl
   ·exact⟨(i+1,st.put 0 (some (.X5 w (i+1)))),⟨GX hi h (Ib (by omega)),dz,(Gy dz).trans YR,by rw[AL,if_pos rfl]⟩,by show w.length-(i+1)<w.length-i;omega,rfl,rfl,Ao (by repeat' constructor)⟩
   ·try refine Ab ⟨.inl rfl,rfl,(Gy dz).trans YR,dz,_,_,_,(An rfl rfl),rfl,rfl,?_⟩
    rw[EX hi h (Ei (by omega))];rfl
  ·obtain⟨r,d,hr,ho⟩:=OI hg h hc;refine Lo (ho U U) U ?_;focus
    refine Lq (oe U) rfl<|Ld<|Aa<|Ah U rfl<|Ac<|Ch.block<|Es<|Lq (oe U) rfl<|qa rfl<|Ld<|Es<|qm rfl<|Lq (o2 SN U U) rfl<|qm U ?_;refine Lb U (fun g1=>?_) (fun g1=>?_);have h1:=dT g1;refine Lh U ‹_› (om U)<|Lh U ‹_› (o2 SN U U)<|Lq (oT U ‹_› U) rfl<|qm U ?_;refine Lb U (fun g2=>?_) (fun g2=>?_);have h2:=dT g2;exact absurd h2 (by omega);have h2:=dF g2;refine Lh U ‹_› (om U)<|Lh U ‹_› (o2 SN U U)<|Lh U ‹_› (om U) ?_;refine Lb U (fun g3=>?_) (fun g3=>?_);have h3:=dT g3;refine Lh U ‹_› (om U)<|Lh U ‹_› (o2 SN U U)<|Lh U ‹_› (oT U ‹_› U)<|Lq (oF U ‹_› U) rfl<|Lq (on U) rfl<|Ld ?_;refine Ec U (fun g4=>?_) (fun g4=>?_);have h4:=nT g4;refine Es<|qa rfl<|Ld ?_;rotate_left;have h4:=nF g4;exact absurd h4 (by omega);have h3:=dF g3;exact absurd h3 (by omega);have h1:=dF g1;exact absurd h1 (by omega)
   ·try refine Ab ⟨.inl rfl,rfl,(Gy dz).trans YR,dz,_,_,_,(An rfl rfl),rfl,rfl,?_⟩
    rw[EX hi h (Ei (by omega))];rfl
 ·refine Lo (PW U U hg (by omega)) U ?_;refine Lq (oe U) rfl<|Ld<|Aa<|Af U rfl<|A1<|AS rfl<|Es<|qm rfl<|Lq (AD U U U U Wl U) U ?_;refine Lo (Ad U U (by kernel_rfl) U (Cb.Cs (UB))) rfl<|qa rfl<|Ld ?_;refine Ab ⟨.inl U,rfl,‹_›,‹_›,_,_,_,(An U U),rfl,rfl,?_⟩;refine Ag ?_;try refine Ab ⟨.inl rfl,rfl,YR,dz,_,_,_,(An rfl rfl),rfl,rfl,?_⟩
  have e:tw WT w=w.length:=by omega
  unfold YU;rw[decide_eq_true e];rfl
noncomputable def K1s:=Wa K1n 75 (fun w: {w:List UInt8//w.length≤4000}=>[.str w.1]) (fun w=> .bool (YU w.1))
theorem hit_75 {w:List UInt8} (hw:w.length≤4000):K1s 75 [.str w]=some (.bool (YU w)):=
 A3 (f:=75) (enc:=fun w: {w:List UInt8//w.length≤4000}=>[.str w.1]) (res:=fun w=> .bool (YU w.1)) (by rintro⟨a,_⟩ ⟨b,_⟩ h;cases h;rfl) ⟨w,hw⟩
theorem all1s (h:VG Tryz.prog 10 [] (.bool true)):CK Tryz.prog K1s:=by
 have a1:CK Tryz.prog K1n:=BO (all1 h) fun p=>DT AC (all1 h) (xe p.1 p.2) rfl rfl;exact BO a1 fun p=>DT AC a1 (RF p.1 p.2) U U
theorem QX {α:Type} {enc:α→List AV} {k:Nat} (hi:∀a b,enc a=enc b→a=b) (hl:∀a,(enc a).length=k+1):∀ {l m:List α},l.flatMap enc=m.flatMap enc→l=m
 | [],[],_=>rfl
 | [],b::m,h=>by
  have:=congrArg List.length h;rw[List.flatMap_cons,Qm,hl b,List.flatMap_nil,List.length_nil]at this;omega
 |a::l,[],h=>by
  have:=congrArg List.length h;rw[List.flatMap_cons,Qm,hl a,List.flatMap_nil,List.length_nil]at this;omega
 |a::l,b::m,h=>by
  rw[List.flatMap_cons,List.flatMap_cons]at h;obtain⟨h1,h2⟩:=List.append_inj h ((hl a).trans (hl b).symm);rw[hi a b h1,QX hi hl h2]
theorem By {α:Type} {enc:α→List AV} {k:Nat} (hi:∀a b,enc a=enc b→a=b) (hl:∀a,(enc a).length=k+1) {l m:List α} (h:Cq enc (k+1) l=Cq enc (k+1) m):l=m:=by
 unfold Cq at h;exact QX hi hl (AV.Cd.inj h).1
abbrev CD:=List UInt8×Int
def Cy (p:CD):List AV:=[.str p.1,.int .i64 p.2]
theorem AN (p:CD):(Cy p).length=1+1:=rfl
theorem Dy (a b:CD) (h:Cy a=Cy b):a=b:=by
 obtain⟨a1,a2⟩:=a;obtain⟨b1,b2⟩:=b;cases h;rfl
def Yo (l:List CD) (i:Nat):Bool:=(l.take i).all fun p=>decide (p.1.length≤30)
theorem I2 {l:List CD} {i:Nat} (h:i<l.length):Yo l (i+1)=(Yo l i&&decide (l[i].1.length≤30)):=by
 unfold Yo;rw[List.take_add_one,Qi h,Option.toList_some,List.all_append];simp
theorem Tn {l:List CD} {i:Nat} (h:Yo l l.length=true) (hi:i≤l.length):Yo l i=true:=by
 unfold Yo at h⊢;rw[List.take_length]at h;exact List.all_eq_true.2 fun x hx=>List.all_eq_true.1 h x (List.mem_of_mem_take hx)
theorem Q4 {l:List CD} {i:Nat} (h:i<l.length) (hn:¬l[i].1.length≤30):Yo l l.length=false:=by
 cases hb:Yo l l.length with
 |false=>rfl
 |true=>
  have:=Tn hb h;rw[I2 h,decide_eq_false hn,Bool.and_false]at this;cases this
def Xn (c f:List CD):Bool:= !(decide (16<(c.length:Int))||decide (12<(f.length:Int)))&&(Yo c c.length&&Yo f f.length)
theorem OZ (c f:List CD):Cb (EK K1s) 25 [.agg [Cq Cy 2 c,Cq Cy 2 f]] S0 (.bool (Xn c f)):=by
 refine Aq (fn:=Tryz.f25) U U (by kernel_rfl) U U U U ?_;focus
  refine Es<|Lo (A4 1 U U U U) rfl<|qa rfl<|Ld<|Aa<|Es<|Lq (of BA U) rfl<|Lo (l1 Bn Bk U) rfl<|Lq (ol D3 U) rfl<|Lq (o2 Ck U U) rfl<|qm U ?_;refine Lb U (fun g1=>?_) (fun g1=>?_);have h1:=dT g1;iterate 4 refine Lk U ‹_› ?_
  refine Lq (oT U ‹_› U) rfl<|Ld<|Ah U rfl<|Es<|qa rfl<|Ld ?_;refine Ab (Er U ?_);refine Ag ?_;rotate_left;have h1:=dF g1;refine Lh U ‹_› (of BF U)<|Lg U ‹_› (l1 Bn Bk U)<|Lh U ‹_› (ol D3 U)<|Lh U ‹_› (o2 Ck U U)<|Lq (oF U ‹_› U) rfl<|Ld ?_;refine Ec U (fun g2=>?_) (fun g2=>?_);have h2:=dT g2;refine Es<|qa rfl<|Ld ?_;refine Ab (Er U ?_);refine Ag ?_;rotate_left;have h2:=dF g2;refine Ac<|Aa<|Es<|qa rfl<|Ld<|Ch.block ?_;rotate_left
 ·unfold Xn;rw[g1];rfl
 ·unfold Xn;rw[g1,g2];rfl
 refine Aw (fun i:Nat=>([(3,.int .i64 (i:Nat)),(1,.ptr 0 0)],WZ 1 0 [] [(0,some (.cells [Cq Cy 2 c,Cq Cy 2 f] 24 false))])) (fun i=>c.length-i) (fun i=>i≤c.length∧Yo c i=true) 0 ⟨Qo _,rfl⟩ U (Ao (by repeat' constructor)) ?_;rintro i ⟨hi,hs⟩;dsimp only at hi hs⊢;by_cases h:i<c.length
 ·have hp:=A7 AN h;focus
   refine Aa<|Es<|qm rfl<|Lq (of BA U) rfl<|Lo (l1 Bn Bk U) rfl<|Lq (ol D3 U) rfl<|Lq (o2 Ck U U) rfl<|Ld ?_;refine Ec U (fun g3=>?_) (fun g3=>?_);have h3:=dT g3;refine Ac<|Aa<|Ch.block<|Es<|Lq (of BA U) rfl<|Lo (l1 Bn Bk U) rfl<|qm rfl<|Lq (Ae U D3 BB U U ‹_›) rfl<|Lq (Az U Fb U (Qc U)) rfl<|Lq (Av U U Gs D0) rfl<|Lq (AD U U U U Wl U) rfl<|Lq (o2 Ck U U) rfl<|Ld ?_;refine Ec U (fun g4=>?_) (fun g4=>?_);have h4:=dT g4;refine Es<|qa rfl<|Ld ?_;refine Ab (Er U ?_);refine Ag ?_;rotate_left;have h4:=dF g4;refine Ac<|Ai<|qm U ?_;refine Lq (Ap (b:=1) U Ck U U (by omega)) U ?_;refine qa rfl<|Ld ?_;rotate_left;have h3:=dF g3;exact absurd h3 (by omega)
  ·have hc:Yo c c.length=false:=Q4 h (by omega);unfold Xn;rw[hc,Bool.false_and,Bool.and_false]
  ·exact⟨i+1,⟨h,by rw[I2 h,hs,decide_eq_true (show c[i].1.length≤30 by omega)];rfl⟩,by show c.length-(i+1)<c.length-i;omega,rfl,rfl,Ao (by repeat' constructor)⟩
 ·focus
   refine Aa<|Es<|qm rfl<|Lq (of BA U) rfl<|Lo (l1 Bn Bk U) rfl<|Lq (ol D3 U) rfl<|Lq (o2 Ck U U) rfl<|Ld ?_;refine Ec U (fun g3=>?_) (fun g3=>?_);have h3:=dT g3;exact absurd h3 (by omega);have h3:=dF g3;refine A1<|AS rfl<|Aa<|Es<|qa rfl<|Ld<|Ch.block ?_;rotate_left
  obtain rfl:i=c.length:=by omega
  refine Aw (fun i:Nat=>([(4,.int .i64 (i:Nat)),(1,.ptr 0 0)],WZ 1 0 [] [(0,some (.cells [Cq Cy 2 c,Cq Cy 2 f] 24 false))])) (fun i=>f.length-i) (fun i=>i≤f.length∧Yo f i=true) 0 ⟨Qo _,rfl⟩ U (Ao (by repeat' constructor)) ?_;rintro j ⟨hj,jw⟩;dsimp only at hj jw⊢;by_cases h2:j<f.length
  ·have hp:=A7 AN h2;focus
    refine Aa<|Es<|qm rfl<|Lq (of BF U) rfl<|Lo (l1 Bn Bk U) rfl<|Lq (ol D3 U) rfl<|Lq (o2 Ck U U) rfl<|Ld ?_;refine Ec U (fun g4=>?_) (fun g4=>?_);have h4:=dT g4;refine Ac<|Aa<|Ch.block<|Es<|Lq (of BF U) rfl<|Lo (l1 Bn Bk U) rfl<|qm rfl<|Lq (Ae U D3 BB U U ‹_›) rfl<|Lq (Az U Fb U (Qc U)) rfl<|Lq (Av U U Gs D0) rfl<|Lq (AD U U U U Wl U) rfl<|Lq (o2 Ck U U) rfl<|Ld ?_;refine Ec U (fun g5=>?_) (fun g5=>?_);have h5:=dT g5;refine Es<|qa rfl<|Ld ?_;refine Ab (Er U ?_);refine Ag ?_;rotate_left;have h5:=dF g5;refine Ac<|Ai<|qm U ?_;refine Lq (Ap (b:=1) U Ck U U (by omega)) U ?_;refine qa rfl<|Ld ?_;rotate_left;have h4:=dF g4;exact absurd h4 (by omega)
   ·have hc:Yo f f.length=false:=Q4 h2 (by omega);unfold Xn;rw[hc,Bool.and_false,Bool.and_false]
   ·exact⟨j+1,⟨h2,by rw[I2 h2,jw,decide_eq_true (show f[j].1.length≤30 by omega)];rfl⟩,by show f.length-(j+1)<f.length-j;omega,rfl,rfl,Ao (by repeat' constructor)⟩
  ·focus
    refine Aa<|Es<|qm rfl<|Lq (of BF U) rfl<|Lo (l1 Bn Bk U) rfl<|Lq (ol D3 U) rfl<|Lq (o2 Ck U U) rfl<|Ld ?_;refine Ec U (fun g4=>?_) (fun g4=>?_);have h4:=dT g4;exact absurd h4 (by omega);have h4:=dF g4;refine A1<|AS rfl<|Es<|qa rfl<|Ld ?_;refine Ab (Er U ?_);refine Ag ?_;rotate_left
   obtain rfl:j=f.length:=by omega
   unfold Xn;rw[g1,g2,hs,jw];rfl
noncomputable def K2:=Wa K1s 25 (fun p:List CD×List CD=>[.agg [Cq Cy 2 p.1,Cq Cy 2 p.2]]) (fun p=> .bool (Xn p.1 p.2))
theorem MI {p q:List CD×List CD} (h:([.agg [Cq Cy 2 p.1,Cq Cy 2 p.2]]:List AV)=[.agg [Cq Cy 2 q.1,Cq Cy 2 q.2]]):p=q:=by
 simp only[List.cons.injEq,AV.agg.injEq,and_true]at h;exact Prod.ext (By Dy AN h.1) (By Dy AN h.2)
theorem hit_25 {c f:List CD}:K2 25 [.agg [Cq Cy 2 c,Cq Cy 2 f]]=some (.bool (Xn c f)):=
 A3 (f:=25) (enc:=fun p:List CD×List CD=>[.agg [Cq Cy 2 p.1,Cq Cy 2 p.2]]) (res:=fun p=> .bool (Xn p.1 p.2)) (fun p q h=>by rw[MI h]) (c,f)
theorem all2 (h:VG Tryz.prog 10 [] (.bool true)):CK Tryz.prog K2:=Do AC (all1s h) (fun p=>OZ p.1 p.2) (fun _=>rfl) (fun _=>rfl)
def j1 (before:List (List UInt8)) (p:CD):Bool:= !(before.contains p.1)&&(YU p.1&&YK p.2 0 4)
def VO:List (List UInt8)→List CD→Option (List (List UInt8))
 |bs,[]=>some bs
 |bs,p::l=>if j1 bs p then VO (bs++[p.1]) l else none
def CF:List (List UInt8)→AV
 | []=> .Ca
 |a::l=> .Cd ((a::l).map .str) (a::l).length 1 true
theorem Q3 {l:List (List UInt8)} (h:l≠ []):CF l= .Cd (l.map .str) l.length 1 true:=by
 cases l with
 |nil=>exact absurd rfl h
 |cons a l=>rfl
theorem J8 (l:List (List UInt8)):(l.map AV.str).all (Cr 40)=true:=by
 rw[List.all_map];exact List.all_eq_true.2 fun _ _=>rfl
theorem Lr (l:List (List UInt8)):(l.map AV.str).all gk=true:=by
 rw[List.all_map];exact List.all_eq_true.2 fun _ _=>rfl
theorem Xr.nX {s:St} {v:AV} {l:List (List UInt8)} (h:Xr s v l) (hn:l=[]→v= .Ca) (m:Nat):∃ks,CH s 0 (m+2) v []=some (CF l,ks):=by
 rcases h with⟨rfl,rfl⟩|⟨cl,rfl⟩|⟨b,off,cap,cs,e,part,rfl,hb,hg,h1,h2,h3⟩
 ·exact⟨[],rfl⟩
 ·have Xl:l≠ []:=fun e=>by have:=hn e;cases this
  rw[Q3 Xl];cases cl with
  |true=>exact⟨[],rfl⟩
  |false=>
   refine⟨[],?_⟩;show(CH.many (CH s 0 (m+1)) (l.map .str) []).bind _=_;rw[M8 (Lr l)];show some (AV.Cd _ _ _ ((l.map AV.str).all (Cr 40)),_)=_;rw[J8]
 ·have Xl:l≠ []:=fun e=>by have:=hn e;cases this
  rw[Q3 Xl];refine⟨[b],?_⟩;show(VZ (s.heap.get b)).bind _=_;rw[hg];show(cut cs off (l.length*1)).bind _=_;have hc:cut cs off (l.length*1)=some (l.map .str):=by
   rw[Nat.mul_one];rw[Hu h1,h2]
  rw[hc];show(CH.many (CH s 0 (m+1)) (l.map .str) []).bind _=_;rw[M8 (Lr l)];show some (AV.Cd _ _ _ ((l.map AV.str).all (Cr 40)),_)=_;rw[J8]
def iU:Option (List (List UInt8))→AV
 |some bs=> .tuple [CF bs,.bool true]
 |none=> .tuple [.Ca,.bool false]
theorem tm {cs:List (List UInt8)} {j:Nat} {w:List UInt8} (h:j<cs.length) (e:cs[j]=w):cs.contains w=true:=by
 rw[←e];simp
theorem tn {cs:List (List UInt8)} {j:Nat} {w:List UInt8} (h:j<cs.length) (XG:(cs.take j).contains w=false) (e:cs[j]≠w):(cs.take (j+1)).contains w=false:=by
 rw[List.take_add_one,Qi h,Option.toList_some];simp only[List.contains_eq_mem,List.mem_append,Qp,decide_eq_false_iff_not]at XG⊢;rintro(h1|h1)
 ·exact XG h1
 ·exact e h1.symm
theorem tp (l:List CD) (bs:List (List UInt8)) (hl:∀p∈l,p.1.length≤4000) (hn:l.length≤4000∧bs.length≤4000):
 Cb (EK K2) 105 [Cq Cy 2 l,CF bs] S0 (iU (VO bs l)):=by
 refine Aq (fn:=Tryz.f105) U U (by kernel_rfl) U U U rfl<|Es ?_;iterate 2 refine qa U ?_
 refine Ld<|Aa<|Es<|qa rfl<|Ld<|Ch.block ?_;refine Aw (fun x:Nat×AV×List (List UInt8)×St=>([(6,.int .i64 (x.1:Nat)),(0,Cq Cy 2 l),(1,x.2.1)],x.2.2.2)) (fun x=>l.length-x.1)
  (fun x=>x.1≤l.length∧x.2.2.2.bound=0∧x.2.2.2.log=[]∧Xr x.2.2.2 x.2.1 x.2.2.1∧VO bs l=VO x.2.2.1 (l.drop x.1)∧x.2.2.1.length=bs.length+x.1∧(x.2.2.1=[]→x.2.1= .Ca)) (0,CF bs,bs,WZ 0 0 [] []) ⟨Qo _,rfl,rfl,?_,rfl,rfl,?_⟩ rfl (Ao (by repeat' constructor)) ?_
 ·cases bs with
  |nil=>exact .inl ⟨rfl,rfl⟩
  |cons a t=>exact .inr (.inl ⟨true,rfl⟩)
 ·rintro rfl;rfl
 rintro⟨i,v,cs,st⟩ ⟨hi,dz,YR,Xp,tq,XK,hnn⟩;dsimp only at hi dz YR Xp tq XK hnn⊢;by_cases h:i<l.length
 ·have hp:=A7 AN h;have X3:=hl _ (Ql h);have xg:j1 cs l[i]=false→VO bs l=none:=fun hb=>by
   rw[tq,List.drop_eq_getElem_cons h];show(if j1 cs l[i]then _ else none)=none;rw[hb];rfl
  focus
   refine Aa<|Es ?_;iterate 2 refine qm U ?_
   refine Lq (ol D3 U) rfl<|Lq (o2 Ck U U) rfl<|Ld ?_;refine Ec U (fun g1=>?_) (fun g1=>?_);have h1:=dT g1;refine Ac<|Aa<|Ch.block<|Aa<|Es<|qa rfl<|Ld<|Ch.block ?_;rotate_left;have h1:=dF g1;exact absurd h1 (by omega)
  refine Aw (fun j:Nat=>([(7,.int .i64 (j:Nat)),(6,.int .i64 (i:Nat)),(0,Cq Cy 2 l),(1,v)],st)) (fun j=>cs.length-j) (fun j=>j≤cs.length∧(cs.take j).contains l[i].1=false) 0 ⟨Qo _,rfl⟩ U (Ao (by repeat' constructor)) ?_;rintro j ⟨hj,XG⟩;dsimp only at hj XG⊢;have hlen:=Xp.len;by_cases ze:j<cs.length
  ·rcases Xp.at2 (E:=EK K2) ze Gs D0 with⟨rest,pd⟩|⟨b,off,pd,hld⟩
   ·focus
     refine Aa<|Es ?_;iterate 2 refine qm U ?_
     refine Lq (Ep U U U U B2 U ‹_›) rfl<|Lq (o2 Ck U U) rfl<|Ld ?_;refine Ec U (fun g2=>?_) (fun g2=>?_);have h2:=dT g2;refine Ac<|Aa<|Ch.block<|As (by kernel_rfl) ?_;iterate 2 refine Nq (om U) U ?_
     refine Nq (Ae U B2 D0 U U ‹_›) rfl<|Nq (Av U U Gs D0) U ?_;iterate 2 refine Nq (om U) U ?_
     refine Nq (Ae U D3 BB U U ‹_›) rfl<|Nq (Az U Fb U (Qc U)) rfl<|Nq (Av U U Gs D0) rfl<|Nq (Bd U Wl U U U U) rfl<|Au ?_;refine Ec U (fun g3=>?_) (fun g3=>?_);have h3:=bT g3;refine Es ?_;iterate 2 refine qa U ?_
     refine Ld ?_;refine Ab ⟨.inl U,rfl,‹_›,‹_›,_,_,_,(An U (An U U)),rfl,rfl,?_⟩;rotate_left;have h3:=bF g3;refine Ac<|Ai<|qm U ?_;refine Lq (Ap (b:=1) U Ck U U (by omega)) U ?_;refine qa rfl<|Ld ?_;rotate_left;have h2:=dF g2;exact absurd h2 (by omega)
    ·try refine Ab ⟨.inl rfl,rfl,YR,dz,_,_,_,(An rfl (An rfl rfl)),rfl,rfl,?_⟩
     rw[xg (by unfold j1;rw[tm ze h3];rfl)];rfl
    ·exact⟨j+1,⟨ze,tn ze XG h3⟩,by show cs.length-(j+1)<cs.length-j;omega,rfl,rfl,Ao (by repeat' constructor)⟩
   ·focus
     refine Aa<|Es ?_;iterate 2 refine qm U ?_
     refine Lq (Ep U U U U B2 U ‹_›) rfl<|Lq (o2 Ck U U) rfl<|Ld ?_;refine Ec U (fun g2=>?_) (fun g2=>?_);have h2:=dT g2;refine Ac<|Aa<|Ch.block<|As (by kernel_rfl) ?_;iterate 2 refine Nq (om U) U ?_
     refine Nq (Ae U B2 D0 U U ‹_›) rfl<|AO U U ‹_› U (.inl U) U U ?_;iterate 2 refine Nq (om U) U ?_
     refine Nq (Ae U D3 BB U U ‹_›) rfl<|Nq (Az U Fb U (Qc U)) rfl<|Nq (Av U U Gs D0) rfl<|Nq (Bd U Wl U U U U) rfl<|Au ?_;refine Ec U (fun g3=>?_) (fun g3=>?_);have h3:=bT g3;refine Es ?_;iterate 2 refine qa U ?_
     refine Ld ?_;refine Ab ⟨.inl U,rfl,‹_›,‹_›,_,_,_,(An U (An U U)),rfl,rfl,?_⟩;rotate_left;have h3:=bF g3;refine Ac<|Ai<|qm U ?_;refine Lq (Ap (b:=1) U Ck U U (by omega)) U ?_;refine qa rfl<|Ld ?_;rotate_left;have h2:=dF g2;exact absurd h2 (by omega)
    ·try refine Ab ⟨.inl rfl,rfl,YR,dz,_,_,_,(An rfl (An rfl rfl)),rfl,rfl,?_⟩
     rw[xg (by unfold j1;rw[tm ze h3];rfl)];rfl
    ·exact⟨j+1,⟨ze,tn ze XG h3⟩,by show cs.length-(j+1)<cs.length-j;omega,rfl,rfl,Ao (by repeat' constructor)⟩
  ·obtain rfl:j=cs.length:=by omega
   rw[List.take_length]at XG;focus
    refine Aa<|Es ?_;iterate 2 refine qm U ?_
    refine Lq (Ep U U U U B2 U ‹_›) rfl<|Lq (o2 Ck U U) rfl<|Ld ?_;refine Ec U (fun g2=>?_) (fun g2=>?_);have h2:=dT g2;exact absurd h2 (by omega);have h2:=dF g2;refine A1<|AS rfl<|Aa<|Es ?_;iterate 2 refine qm U ?_
    refine Lq (Ae U D3 BB U U ‹_›) rfl<|Lq (Az U Fb U (Qc U)) rfl<|Lq (Av U U Gs D0) U ?_;refine Lo (Ad U U (by kernel_rfl) U (Cb.Cs (xf (by omega)))) U ?_;refine Lq (on U) rfl<|qm U ?_;refine Lb U (fun g3=>?_) (fun g3=>?_);have h3:=FB g3;iterate 7 refine Lk U ‹_› ?_
    refine Lq (oT U ‹_› U) rfl<|Ld<|Ah U rfl<|Es ?_;iterate 2 refine qa U ?_
    refine Ld ?_;refine Ab ⟨.inl U,rfl,‹_›,‹_›,_,_,_,(An U (An U U)),rfl,rfl,?_⟩;rotate_left;have h3:=FC g3;iterate 2 refine Lh U ‹_› (om U) ?_
    refine Lh U ‹_› (Ae U D3 BB U U ‹_›)<|Lh U ‹_› (Az U Fw U (Qc U))<|Lh U ‹_› (Av U U Bv Bb) ?_;refine Lg U ‹_› (Ad U U (by kernel_rfl) U (Cb.Cs (P5)))<|Lh U ‹_› (on U)<|Lq (oF U ‹_› U) rfl<|Ld ?_;refine Ec U (fun g4=>?_) (fun g4=>?_);have h4:=FB g4;refine Es ?_;iterate 2 refine qa U ?_
    refine Ld ?_;refine Ab ⟨.inl U,rfl,‹_›,‹_›,_,_,_,(An U (An U U)),rfl,rfl,?_⟩;rotate_left;have h4:=FC g4;refine Ac<|Bt (by kernel_rfl)<|Nq (om U) U ?_;rotate_left
   ·try refine Ab ⟨.inl rfl,rfl,YR,dz,_,_,_,(An rfl (An rfl rfl)),rfl,rfl,?_⟩
    rw[xg (by unfold j1;rw[h3,Bool.false_and,Bool.and_false])];rfl
   ·try refine Ab ⟨.inl rfl,rfl,YR,dz,_,_,_,(An rfl (An rfl rfl)),rfl,rfl,?_⟩
    rw[xg (by unfold j1;rw[h4,Bool.and_false,Bool.and_false])];rfl
   have WX:j1 cs l[i]=true:=by unfold j1;rw[XG,h3,h4];rfl
   have Y1:small (cs.map AV.str).length 16=true:=by
    rw[Qn];exact BW (by omega) (by decide)
   obtain⟨v1,s2,qS,fB,mv,aB,hG1,ho1,rT,hml1,hmb1⟩:=Of (st:=st) (e:=9) (WJ:=16) (new:=cs.map .str) Y1 dz;refine VH.append U U U U B2 D0 nJ pE U U U U (Li (Xp.CW (Qj _) fun _ _=>rfl)) (by rw[Qn]at qS;exact qS) fB (by rw[aB];intro b hb;cases hb) (by kernel_rfl) U (.inl U) U U ?_;rw[aB];iterate 2 refine Nq (om U) U ?_
   refine Nq (Ae U D3 BB U U ‹_›) rfl<|Nq (Az U Fb U (Qc U)) rfl<|Nq (Av U U Gs D0) rfl<|AZ U B2 D0 pE U U U (.inl U) U U ?_;generalize wT:st.merged s2=jY at*;have hG2:Grown (jY.alloc (.cells [.str l[i].1] 9 false)) 9 1 v1 (cs.map .str) (cs.map AV.str).length:=hG1.CW (Nat.le_succ _) fun c hc=>by
    have:=ho1 c hc;have C6:c≠jY.next:=by
     intro e;rcases hG1 with⟨rfl,_⟩|⟨b,rfl,hb,_⟩
     ·cases hc
     ·have:=Qb hc;omega
    show(jY.heap.set jY.next _).get c=_;rw[AF,if_neg C6]
   have jw:small ((cs.map AV.str).length+1) 16=true:=by
    rw[Qn];exact BW (by omega) (by decide)
   obtain⟨v2,s3,yD,vo,xh,hG3,ho3,vt,hlg3⟩:=hG2.wV (WJ:=16) (new:=[.str l[i].1]) rfl (by decide) rfl jw;refine VH.append U U U U B2 D0 nJ pE U U U U (n:=1) (new:=[.str l[i].1]) ?_ yD (by rw[vo];exact Nat.le_succ _) (fun b hb=>⟨xh b hb,?_⟩) (by kernel_rfl) ?_ (.inl U) U U ?_
   ·show(VZ ((jY.heap.set jY.next _).get jY.next)).bind _=_;rw[AF,if_pos rfl];rfl
   ·exact Dr (Ri (by kernel_rfl) (J5 (by kernel_rfl) (J5 (by kernel_rfl) U _) _))
   ·exact Ri (by kernel_rfl) (J5 (by kernel_rfl) (J5 (by kernel_rfl) U _) _)
   refine Nq (oa U) rfl<|Au<|Ai<|qm U ?_;refine Lq (Ap (b:=1) U Ck U U (by omega)) U ?_;refine qa rfl<|Ld ?_;have gV:(jY.alloc (.cells [.str l[i].1] 9 false)).bound=0:=hmb1;refine⟨(i+1,v2,cs++[l[i].1],(jY.alloc (.cells [.str l[i].1] 9 false)).merged s3),⟨h,gV,(hlg3 gV).trans (hml1.trans YR),Grown.strs (n:=(cs.map AV.str).length+1) (by rw[List.map_append];exact hG3) (by simp),?_,by simp;omega,fun e=>by simp at e⟩,by show l.length-(i+1)<l.length-i;omega,rfl,rfl,Ao (by repeat' constructor)⟩;rw[tq,List.drop_eq_getElem_cons h];show(if j1 cs l[i]then _ else none)=_;rw[WX];rfl
 ·focus
   refine Aa<|Es ?_;iterate 2 refine qm U ?_
   refine Lq (ol D3 U) rfl<|Lq (o2 Ck U U) rfl<|Ld ?_;refine Ec U (fun g1=>?_) (fun g1=>?_);have h1:=dT g1;exact absurd h1 (by omega);have h1:=dF g1;refine A1<|AS rfl<|Es<|qm U ?_;iterate 2 refine qa U ?_
   refine Ld ?_;rotate_left
  obtain rfl:i=l.length:=by omega
  rw[List.drop_length]at tq;have hr:VO bs l=some cs:=tq;rw[hr];obtain⟨ks,hf⟩:=Xr.nX Xp hnn 37;refine Ab ⟨.inl U,rfl,YR,dz,_,.tuple [CF cs,.bool true],ks,(An U (An U U)),?_,?_,rfl⟩
  ·show(CH.many (CH st 0 39) [v,.bool true] []).bind _=_;unfold CH.many CH.many CH.many;rw[hf];rfl
  ·cases cs with
   |nil=>rfl
   |cons a t=>rfl
theorem Te {a b:List (List UInt8)} (h:CF a=CF b):a=b:=by
 have hm:∀ {x y:List (List UInt8)},x.map AV.str=y.map AV.str→x=y:=fun {x y} h=>List.map_inj_right (fun _ _ h=>AV.str.inj h)|>.1 h;cases a with
 |nil=>cases b with
  |nil=>rfl
  |cons x y=>cases h
 |cons x y=>cases b with
  |nil=>cases h
  |cons z w=>exact hm (AV.Cd.inj h).1
abbrev nK:= {p:List CD×List (List UInt8)//(∀q∈p.1,q.1.length≤4000)∧p.1.length≤4000∧p.2.length≤4000}
noncomputable def K4:=Wa K2 105 (fun p:nK=>[Cq Cy 2 p.1.1,CF p.1.2]) (fun p=>iU (VO p.1.2 p.1.1))
theorem UI {l:List CD} {bs:List (List UInt8)} (h1:∀q∈l,q.1.length≤4000) (h2:l.length≤4000) (h3:bs.length≤4000):K4 105 [Cq Cy 2 l,CF bs]=some (iU (VO bs l)):=
 A3 (f:=105) (enc:=fun p:nK=>[Cq Cy 2 p.1.1,CF p.1.2]) (res:=fun p=>iU (VO p.1.2 p.1.1)) (by
  rintro⟨⟨a,b⟩,_⟩ ⟨⟨c,d⟩,_⟩ h;simp only[List.cons.injEq,and_true]at h;obtain rfl:=By Dy AN h.1;obtain rfl:=Te h.2;rfl) ⟨(l,bs),h1,h2,h3⟩
theorem Mw (o:Option (List (List UInt8))):Cr 40 (iU o)=true:=by
 rcases o with _|_|⟨a,l⟩<;>rfl
theorem aA {n a b:Int}:YK n a b=true↔a≤n∧n≤b:=by
 unfold YK;simp only[Qf,decide_eq_true_eq]
theorem all4 (h:VG Tryz.prog 10 [] (.bool true)):CK Tryz.prog K4:=Do AC (all2 h) (fun p:nK=>tp p.1.1 p.1.2 p.2.1 p.2.2) (fun p=>by obtain⟨⟨a,_|⟨b,c⟩⟩,_⟩:=p<;>rfl) (fun _=>Mw _)
theorem eqN (a b:CD):WE true (ZE (.flat [.string,.int .i64]) (.agg (Cy a)) (.agg (Cy b)))=some (.bool (!(decide (a=b)))):=by
 obtain⟨a1,a2⟩:=a;obtain⟨b1,b2⟩:=b;show WE true ((some (Wo a1 b1)).bind fun r=>bif r then(some (decide (a2=b2))).bind (fun r=>bif r then some true else some false)else some false)=_;by_cases h1:a1=b1
 ·subst h1;rw[Bu,decide_eq_true rfl];by_cases h2:a2=b2
  ·subst h2;simp[WE]
  ·simp[WE,h2]
 ·rw[Bu,decide_eq_false h1];simp[WE,h1]
def eA:CD:=([70,97,108,115,101],0)
def iV:CD:=([84,114,117,101],0)
def Zc (c f:List CD):Bool:=(YK c.length 2 12&&decide ((f.length:Int)≤8)&&decide (c[0]?=some eA)&&decide (c[1]?=some iV))&&
 match VO [] c with
 |some l=>(VO l f).isSome
 |none=>false
theorem L4 {l:List CD} {bs cs:List (List UInt8)} (h:VO bs l=some cs):cs.length=bs.length+l.length:=by
 induction l generalizing bs with
 |nil=>cases h;rfl
 |cons p l ih=>
  unfold VO at h;split at h
  ·rw[ih h,Qm];show bs.length+1+l.length=bs.length+(l.length+1)
   omega
  ·cases h
theorem sig_to (c f:List CD) (hc:∀p∈c,p.1.length≤4000) (hf:∀p∈f,p.1.length≤4000):Cb (EK K4) 59 [.agg [Cq Cy 2 c,Cq Cy 2 f]] S0 (.bool (Zc c f)):=by
 refine Aq (fn:=Tryz.f59) U U (by kernel_rfl) U U U U ?_;focus
  refine Es<|Lo (A4 1 U U U U) rfl<|qa rfl<|Ld<|Aa<|Es<|Lq (of BA U) rfl<|Lo (l1 Bn Bk U) rfl<|Lq (ol D3 U) U ?_;refine Lo (Ad U U (by kernel_rfl) U (Cb.Cs (P5))) rfl<|Lq (on U) rfl<|qm U ?_;refine Lb U (fun g1=>?_) (fun g1=>?_);have h1:=FB g1;iterate 4 refine Lk U ‹_› ?_
  refine Lq (oT U ‹_› U) rfl<|qm U ?_;iterate 6 refine Lk U U ?_
  refine Lq (oT U U U) rfl<|qm U ?_;iterate 6 refine Lk U U ?_
  refine Lq (oT U U U) rfl<|Ld<|Ah U rfl<|Es<|qa rfl<|Ld ?_;refine Ab (Er U ?_);refine Ag ?_;rotate_left;have h1:=FC g1;refine Lh U ‹_› (of BF U)<|Lg U ‹_› (l1 Bn Bk U)<|Lh U ‹_› (ol D3 U)<|Lh U ‹_› (o2 Ck U U)<|Lq (oF U ‹_› U) rfl<|qm U ?_;refine Lb U (fun g2=>?_) (fun g2=>?_);have h2:=dT g2;iterate 6 refine Lk U ‹_› ?_
  refine Lq (oT U ‹_› U) rfl<|qm U ?_;iterate 6 refine Lk U U ?_
  refine Lq (oT U U U) rfl<|Ld<|Ah U rfl<|Es<|qa rfl<|Ld ?_;refine Ab (Er U ?_);refine Ag ?_;rotate_left;have h2:=dF g2;refine Lh U ‹_› (of BA U)<|Lg U ‹_› (l1 Bn Bk U) ?_;rotate_left
 ·unfold Zc;rw[h1];rfl
 ·unfold Zc;rw[decide_eq_false (by omega:¬((f.length:Nat):Int)≤8),Bool.and_false];rfl
 have h0:=aA.1 h1;have gM:=A7 AN (l:=c) (i:=0) (by omega);have ek:=A7 AN (l:=c) (i:=1) (by omega);have vn:=eqN c[0] eA;have he1:=eqN c[1] iV;focus
  refine Lh U ‹_› (Ae (k:=0) U D3 BB U U ‹_›)<|Lh U ‹_› (AP U U Jj BB (Qc U))<|Lh U ‹_› (Bj U N6 U U)<|Lh U ‹_› (DN (neg:=true) U OW Pv U U ‹_›)<|Lq (oF U ‹_› U) rfl<|qm U ?_;refine Lb U (fun g3=>?_) (fun g3=>?_);have h3:=nT g3;iterate 6 refine Lk U ‹_› ?_
  refine Lq (oT U ‹_› U) rfl<|Ld<|Ah U rfl<|Es<|qa rfl<|Ld ?_;refine Ab (Er U ?_);refine Ag ?_;rotate_left;have h3:=nF g3;refine Lh U ‹_› (of BA U)<|Lg U ‹_› (l1 Bn Bk U)<|Lh U ‹_› (Ae (k:=1) U D3 BB U U ‹_›)<|Lh U ‹_› (AP U U Jj BB (Qc U))<|Lh U ‹_› (Bj U N6 U U)<|Lh U ‹_› (DN (neg:=true) U OW Pv U U ‹_›)<|Lq (oF U ‹_› U) rfl<|Ld ?_;refine Ec U (fun g4=>?_) (fun g4=>?_);have h4:=nT g4;refine Es<|qa rfl<|Ld ?_;refine Ab (Er U ?_);refine Ag ?_;rotate_left;have h4:=nF g4;refine Ac<|Es<|Lq (of BA U) rfl<|Lo (l1 Bn Bk U) U ?_;rotate_left
 ·unfold Zc;rw[Qi (by omega),decide_eq_false (by intro h;exact h3 (Option.some.inj h):¬some c[0]=some eA),Bool.and_false,Bool.false_and];rfl
 ·unfold Zc;rw[Qi (i:=1) (by omega),decide_eq_false (by intro h;exact h4 (Option.some.inj h):¬some c[1]=some iV),Bool.and_false];rfl
 have gO:(YK c.length 2 12&&decide ((f.length:Int)≤8)&&decide (c[0]?=some eA)&&decide (c[1]?=some iV))=true:=by
  rw[h1,decide_eq_true (by omega:((f.length:Nat):Int)≤8),Qi (i:=0) (by omega),Qi (i:=1) (by omega),h3,h4];simp
 refine Lo (Ad U U (by kernel_rfl) U (Cb.Cs (UI (l:=c) (bs:=[]) hc (by omega) (Qo _)))) U ?_;rcases hn:VO [] c with _|l
 ·refine qm U ?_;iterate 2 refine Lq (oe U) U ?_
  iterate 2 refine qa U ?_
  refine Ld<|Aa<|Es<|qm rfl<|Lq (on U) rfl<|Ld<|Ah U rfl<|Es<|qa rfl<|Ld ?_;refine Ab (Er U ?_);refine Ag ?_;unfold Zc;rw[gO,hn];rfl
 ·have hl:=L4 hn;refine qm U ?_;iterate 2 refine Lq (oe U) U ?_
  iterate 2 refine qa U ?_
  refine Ld<|Aa<|Es<|qm rfl<|Lq (on U) rfl<|Ld<|Af U rfl<|Ac<|Es<|Lq (of BF U) rfl<|Lo (l1 Bn Bk U) rfl<|qm U ?_;refine Lo (Ad U U (by kernel_rfl) U (Cb.Cs (UI (l:=f) (bs:=l) hf (by omega) (by simp at hl;omega)))) U ?_;rcases mv:VO l f with _|m
  ·refine qm U ?_;iterate 2 refine Lq (oe U) U ?_
   refine qa rfl<|Ld<|Es<|qm rfl<|qa rfl<|Ld ?_;refine Ab (Er U ?_);refine Ag ?_;unfold Zc;rw[gO,hn];show false=(true&&(VO l f).isSome)
   rw[mv];rfl
  ·refine qm U ?_;iterate 2 refine Lq (oe U) U ?_
   refine qa rfl<|Ld<|Es<|qm rfl<|qa rfl<|Ld ?_;refine Ab (Er U ?_);refine Ag ?_;unfold Zc;rw[gO,hn];show true=(true&&(VO l f).isSome)
   rw[mv];rfl
abbrev pH:= {p:List CD×List CD//(∀q∈p.1,q.1.length≤4000)∧(∀q∈p.2,q.1.length≤4000)}
noncomputable def K5:=Wa K4 59 (fun p:pH=>[.agg [Cq Cy 2 p.1.1,Cq Cy 2 p.1.2]]) (fun p=> .bool (Zc p.1.1 p.1.2))
theorem hit_59 {c f:List CD} (hc:∀p∈c,p.1.length≤4000) (hf:∀p∈f,p.1.length≤4000):K5 59 [.agg [Cq Cy 2 c,Cq Cy 2 f]]=some (.bool (Zc c f)):=
 A3 (f:=59) (enc:=fun p:pH=>[.agg [Cq Cy 2 p.1.1,Cq Cy 2 p.1.2]]) (res:=fun p=> .bool (Zc p.1.1 p.1.2)) (by
  rintro⟨p,_⟩ ⟨q,_⟩ h;obtain rfl:=MI h;rfl) ⟨(c,f),hc,hf⟩
theorem all5 (h:VG Tryz.prog 10 [] (.bool true)):CK Tryz.prog K5:=Do AC (all4 h) (fun p:pH=>sig_to p.1.1 p.1.2 p.2.1 p.2.2) (fun _=>rfl) (fun _=>rfl)
def zf (st:St) (cs:List (List UInt8)):Prop:=st.heap.get 2=some (.cells [.map 1] 155 false)∧st.heap.get 1=some (.map (Zy 0 cs) cs.length)∧2<st.next
theorem tt {st:St} {cs:List (List UInt8)} (hm:zf st cs) (p:CD) (hw:p.1.length≤4000) {R:AV→St→Prop}
 (hR:∀Zw,CL st Zw (fun c=>c=1)→(j1 cs p=true→zf Zw (cs++[p.1]))→(1<st.bound→Zw.log≠ [])→R (.bool (j1 cs p)) Zw):Wf (EK K5) 74 [.agg [.str p.1,.int .i64 p.2],.ptr 2 0] st R:=by
 obtain⟨gI,eE,hn⟩:=hm;refine Wf.gen (fn:=Tryz.f74) U (by kernel_rfl) U U U U ?_;have ha0:(st.enter.alloc (.cells [.str p.1,.int .i64 p.2] 54 false)).heap.get st.enter.next=some (.cells [.str p.1,.int .i64 p.2] 54 false):=BZ;have qS:(st.enter.alloc (.cells [.str p.1,.int .i64 p.2] 54 false)).heap.get 1=some (.map (Zy 0 cs) cs.length):=(AT (by show 1<st.next;omega)).trans eE;have yD:(st.enter.alloc (.cells [.str p.1,.int .i64 p.2] 54 false)).heap.get 2=some (.cells [.map 1] 155 false):=(AT (by show 2<st.next;omega)).trans gI;have hl:=Ot (w:=p.1) qS;obtain⟨ob,ae,mV⟩:=Vd (w:=p.1) qS;have ha3:((st.enter.alloc (.cells [.str p.1,.int .i64 p.2] 54 false)).put 1 (some ob)).heap.get st.enter.next=some (.cells [.str p.1,.int .i64 p.2] 54 false):=by
  rw[AL,if_neg (by show st.next≠1;omega)];exact ha0
 have Wm:((st.enter.alloc (.cells [.str p.1,.int .i64 p.2] 54 false)).put 1 (some ob)).log≠ []:=F8 (by show 1<st.next;omega);have ic:CL st (st.back ((st.enter.alloc (.cells [.str p.1,.int .i64 p.2] 54 false)).put 1 (some ob))) (fun c=>c=1):=
  (CL.trans (s:=st.enter) CL.alloc (CL.put (b:=1) (o:=some ob)) (own:=fun c=>c=1) (o1:=fun c=>c=1) (fun _ h=>h) (fun _ h=> .inl h) (Qj _)).back
 have hmet:cs.contains p.1=false→zf (st.back ((st.enter.alloc (.cells [.str p.1,.int .i64 p.2] 54 false)).put 1 (some ob))) (cs++[p.1]):=fun h=>⟨by
  show((st.enter.alloc (.cells [.str p.1,.int .i64 p.2] 54 false)).put 1 (some ob)).heap.get 2=_;rw[AL,if_neg (by decide)];exact yD,by
  show((st.enter.alloc (.cells [.str p.1,.int .i64 p.2] 54 false)).put 1 (some ob)).heap.get 1=_;rw[AL,if_pos rfl,mV h],by show 2<st.next+1;omega⟩
 have Zb:∀b,b=j1 cs p→R (.bool b) (st.back ((st.enter.alloc (.cells [.str p.1,.int .i64 p.2] 54 false)).put 1 (some ob))):=fun b h=>by
  rw[h];exact hR _ ic (fun h=>hmet (by
   unfold j1 at h;cases hc:cs.contains p.1 with
   |false=>rfl
   |true=>rw[hc]at h;cases h)) fun h=>MS (DJ (by show 1<st.next;omega)) h
 focus
  refine Es<|Lo (PY U U U) rfl<|qa rfl<|Ld<|Es<|Lo (A2 U U (Aj Rq Nd ‹_› U)) rfl<|Lq (of Fb U) rfl<|Lo (A2 U U (Aj Gs D0 ‹_› U)) rfl<|Lo (SK U SU z_4 xd U U ‹_›) rfl<|qa rfl<|Ld<|Es<|Lo (A2 U U (Aj Rq Nd ‹_› U)) rfl<|Lq (of Fb U) rfl<|Lo (A2 U U (Aj Gs D0 ‹_› U)) rfl<|Ax (SJ (.inl U) SU xd U U U ‹_›) U U ?_;refine Ld<|Es<|qm rfl<|Lq (on U) rfl<|qm U ?_;refine Lb U (fun g1=>?_) (fun g1=>?_);have h1:=FB g1;refine Lh U ‹_› (of Fb U)<|Lg U ‹_› (A2 U U (Aj Gs D0 ‹_› U)) ?_;refine Lg U ‹_› (Ad U U (by kernel_rfl) U (Cb.Cs (hit_75 (by omega)))) ?_;refine Lq (oT U ‹_› U) rfl<|qm U ?_;refine Lb U (fun g2=>?_) (fun g2=>?_);refine Lh U ‹_› (of Fw U)<|Lg U ‹_› (A2 U U (Aj Bv Bb ‹_› U)) ?_;refine Lg U ‹_› (Ad U U (by kernel_rfl) U (Cb.Cs (UB)))<|Lq (oT U ‹_› U) rfl<|qa rfl<|Ld ?_;rotate_left;iterate 3 refine Lk U ‹_› ?_
  refine Lq (oF U ‹_› U) rfl<|qa rfl<|Ld ?_;rotate_left;have h1:=FC g1;iterate 3 refine Lk U ‹_› ?_
  refine Lq (oF U ‹_› U) rfl<|qm U ?_;iterate 3 refine Lk U U ?_
  refine Lq (oF U U U) rfl<|qa rfl<|Ld ?_;rotate_left
 ·refine Ab ?_;refine⟨.inl U,_,rfl,_,An U U,_,Ez U Wm,Zb _ ?_⟩;unfold j1;rw[h1,g2];rfl
 ·refine Ab ?_;refine⟨.inl U,_,rfl,_,An U U,_,Ez U Wm,Zb _ ?_⟩;unfold j1;rw[h1,g2];rfl
 ·refine Ab ?_;refine⟨.inl U,_,rfl,_,An U U,_,Ez U Wm,Zb _ ?_⟩;unfold j1;rw[h1];rfl
theorem Om {st:St} {cs:List (List UInt8)} (hm:zf st cs) (l:List CD) (hl:∀p∈l,p.1.length≤4000) (hn:l.length≤4000) {R:AV→St→Prop}
 (hR:∀Zw,CL st Zw (fun c=>c=1)→(∀ds,VO cs l=some ds→zf Zw ds)→R (.bool (VO cs l).isSome) Zw):Wf (EK K5) 77 [Cq Cy 2 l,.func (.func 74) [] [.ptr 2 0]] st R:=by
 refine Wf.gen (fn:=Tryz.f77) U (by kernel_rfl) U U U rfl<|Es<|qa rfl<|Ld<|Aa<|Es<|qm rfl<|Lq (ol D3 U) rfl<|qm rfl<|Ld<|Ch.block ?_;refine Aw (fun x:Nat×List (List UInt8)×St=>([(9,.int .i64 (x.1:Nat)),(8,.int .i64 (l.length:Nat)),(7,Cq Cy 2 l),(1,.func (.func 74) [] [.ptr 2 0])],x.2.2)) (fun x=>l.length-x.1)
  (fun x=>x.1≤l.length∧zf x.2.2 x.2.1∧VO cs l=VO x.2.1 (l.drop x.1)∧CL st.enter x.2.2 (fun c=>c=1)∧(x.1=0∧x.2.1=cs∨x.2.2.log≠ [])) (0,cs,st.enter) ⟨Qo _,hm,rfl,CL.refl,.inl ⟨rfl,rfl⟩⟩ rfl (Ao (by repeat' constructor)) ?_
 rintro⟨i,ds,s1⟩ ⟨hi,hmt,tq,ic,YR⟩;dsimp only at hi hmt tq ic YR⊢;by_cases h:i<l.length
 ·have hp:=A7 AN h;have ha0:(s1.alloc (.cells [.str [],.int .i64 0] 54 false)).heap.get s1.next=some (.cells [.str [],.int .i64 0] 54 false):=BZ;have qS:((s1.alloc (.cells [.str [],.int .i64 0] 54 false)).put s1.next (some (.cells [.str l[i].1,.int .i64 l[i].2] 54 false))).heap.get s1.next=some (.cells [.str l[i].1,.int .i64 l[i].2] 54 false):=by rw[AL,if_pos rfl]
  have hch1:CL st.enter ((s1.alloc (.cells [.str [],.int .i64 0] 54 false)).put s1.next (some (.cells [.str l[i].1,.int .i64 l[i].2] 54 false))) (fun c=>c=1):=
   (ic.trans CL.alloc (o2:=fun _=>False) (own:=fun c=>c=1) (fun _ h=>h) (fun _ h=>h.elim) (Qj _)).trans CL.put (own:=fun c=>c=1) (fun _ h=>h) (fun c h=> .inr (by rw[h];exact ic.next)) (Qj _)
  have hmt1:zf ((s1.alloc (.cells [.str [],.int .i64 0] 54 false)).put s1.next (some (.cells [.str l[i].1,.int .i64 l[i].2] 54 false))) ds:=by
   obtain⟨h2,h1,hn⟩:=hmt;refine⟨?_,?_,?_⟩
   ·rw[AL,if_neg (by omega),AT hn];exact h2
   ·rw[AL,if_neg (by omega),AT (by omega)];exact h1
   ·show 2<s1.next+1;omega
  focus
   refine Es<|Lq (o2 Ck U U) rfl<|Ld<|Aa ?_;refine Ec U (fun g1=>?_) (fun g1=>?_);have h1:=dT g1;refine Ac<|Aa<|Ch.block<|Es<|Lq (Ae U D3 BB U U ‹_›) rfl<|Lq (AP U U Jj BB (Qc U)) rfl<|Lo (Ws.alloc U lu) rfl<|Ax (Ws.store U BB U U (AB ‹_› U U U)) U rfl<|Ld<|Es<|qm rfl<|Lo (A2 U U (Eh Jj BB ‹_› (Qc U))) U ?_;rotate_left;have h1:=dF g1;exact absurd h1 (by omega)
  refine OB (by kernel_rfl) U U U U U U U U (tt hmt1 l[i] (hl _ (Ql h)) ?_);intro s2 ia Zj nL;have xi:CL st.enter s2 (fun c=>c=1):=hch1.trans ia (own:=fun c=>c=1) (fun _ h=>h) (fun _ h=> .inl h) (Qj _);focus
   refine Lq (on U) rfl<|Ld ?_;refine Ec U (fun g2=>?_) (fun g2=>?_);have h2:=FB g2;refine Es<|qa rfl<|Ld ?_;rotate_left;have h2:=FC g2;refine Ac<|Ai ?_;refine Lq (Ap (b:=1) U Ck U U (by omega)) U ?_;refine qm rfl<|Ld ?_;rotate_left
  ·refine Ab ?_;have hr:VO cs l=none:=by
    rw[tq,List.drop_eq_getElem_cons h];show(if j1 ds l[i]then _ else none)=none;rw[h2];rfl
   have Yn:∀Zw,CL st Zw (fun c=>c=1)→R (.bool false) Zw:=fun Zw hc=>by
    have:=hR Zw hc (fun ds hd=>by rw[hr]at hd;cases hd);rw[hr]at this;exact this
   exact⟨.inl U,_,rfl,_,An U U,DS (R:=R) U (fun _ _=>rfl) (fun _=>rfl) (fun _=>Yn st CL.refl) fun _=>Yn _ xi.back⟩
  ·refine⟨(i+1,ds++[l[i].1],s2),⟨h,Zj h2,?_,xi,.inr (nL ?_)⟩,by show l.length-(i+1)<l.length-i;omega,rfl,rfl,Ao (by repeat' constructor)⟩
   ·rw[tq,List.drop_eq_getElem_cons h];show(if j1 ds l[i]then _ else none)=_;rw[h2];rfl
   ·have:st.enter.bound=st.next:=rfl;rw[hch1.bound,this];exact Nat.lt_of_succ_lt hm.2.2
 ·focus
   refine Es<|Lq (o2 Ck U U) rfl<|Ld<|Aa ?_;refine Ec U (fun g1=>?_) (fun g1=>?_);have h1:=dT g1;exact absurd h1 (by omega);have h1:=dF g1;refine A1<|AS rfl<|Es<|qa rfl<|Ld ?_;rotate_left
  obtain rfl:i=l.length:=by omega
  rw[List.drop_length]at tq;have hr:VO cs l=some ds:=tq;refine Ab ?_;have Yn:∀Zw,CL st Zw (fun c=>c=1)→zf Zw ds→R (.bool true) Zw:=fun Zw hc hm=>by
   have:=hR Zw hc (fun ds hd=>by rw[hr]at hd;cases hd;exact hm);rw[hr]at this;exact this
  refine⟨.inl U,_,rfl,_,An U U,DS (R:=R) U (fun _ _=>rfl) (fun _=>rfl) (fun h=>Yn st CL.refl ?_) fun _=>Yn _ ic.back hmt⟩;rcases YR with⟨_,rfl⟩|YR
  ·exact hm
  ·exact absurd h YR
theorem PM (c f:List CD) (hc:∀p∈c,p.1.length≤4000) (hf:∀p∈f,p.1.length≤4000):Cb (EK K5) 36 [.agg [Cq Cy 2 c,Cq Cy 2 f]] S0 (.int .i64 (if Zc c f then 0 else 2)):=by
 refine Aq (fn:=Tryz.f36) U U (by kernel_rfl) U U U U ?_;have XG:∀b:Bool,(YK c.length 2 12&&decide ((f.length:Int)≤8)&&decide (c[0]?=some eA)&&decide (c[1]?=some iV))=false→Zc c f=false:=fun b h=>by unfold Zc;rw[h];rfl
 focus
  refine Es<|Lo (A4 1 U U U U) rfl<|qa rfl<|Ld<|Es<|Lo (OJ 2 U SU U) rfl<|Lo (Bc 3 U tg U) rfl<|Ax (AK U Nd U U U U U U) U rfl<|Ld<|Es<|Lq (Bh U U U) rfl<|qa rfl<|Ld<|Aa<|Es<|Lq (of BA U) U ?_;refine Lo (l1 Bn Bk U) rfl<|Lq (ol D3 U) U ?_;refine Lo (Ad U U (by kernel_rfl) U (Cb.Cs (UB))) rfl<|Lq (on U) rfl<|qm U ?_;refine Lb U (fun g1=>?_) (fun g1=>?_);have h1:=FB g1;iterate 4 refine Lk U ‹_› ?_
  refine Lq (oT U ‹_› U) rfl<|qm U ?_;iterate 5 refine Lk U U ?_
  refine Lq (oT U U U) rfl<|qm U ?_;iterate 5 refine Lk U U ?_
  refine Lq (oT U U U) rfl<|Ld<|Ah U rfl<|Es<|qa rfl<|Ld ?_;refine Ab (Er U ?_);rotate_left;have h1:=FC g1;refine Lh U ‹_› (of BF U)<|Lg U ‹_› (l1 Bn Bk U)<|Lh U ‹_› (ol D3 U)<|Lh U ‹_› (o2 Ck U U)<|Lq (oF U ‹_› U) rfl<|qm U ?_;refine Lb U (fun g2=>?_) (fun g2=>?_);have h2:=dT g2;iterate 5 refine Lk U ‹_› ?_
  refine Lq (oT U ‹_› U) rfl<|qm U ?_;iterate 5 refine Lk U U ?_
  refine Lq (oT U U U) rfl<|Ld<|Ah U rfl<|Es<|qa rfl<|Ld ?_;refine Ab (Er U ?_);rotate_left;have h2:=dF g2;refine Lh U ‹_› (of BA U)<|Lg U ‹_› (l1 Bn Bk U)<|Lh U ‹_› (om U) ?_;rotate_left
 ·rw[XG true (by rw[h1];rfl)];rfl
 ·rw[XG true (by rw[decide_eq_false (by omega:¬((f.length:Nat):Int)≤8),Bool.and_false];rfl)];rfl
 have h0:=aA.1 h1;have gM:=A7 AN (l:=c) (i:=0) (by omega);have ek:=A7 AN (l:=c) (i:=1) (by omega);have vn:=eqN c[0] eA;have he1:=eqN c[1] iV;have gO:(YK c.length 2 12&&decide ((f.length:Int)≤8))=true:=by
  rw[h1,decide_eq_true (by omega:((f.length:Nat):Int)≤8)];rfl
 have zg:∀ {s s1:St} {own:Nat→Prop},CL s s1 own→s.bound=0→s.log=[]→s1.bound=0∧s1.log=[]:=fun {s s1 own} hc hb hl=>⟨hc.bound.trans hb,List.eq_nil_iff_forall_not_mem.2 fun x hx=>by
  rcases hc.log x hx with h|⟨h,_⟩
  ·rw[hl]at h;cases h
  ·rw[hb]at h;omega⟩
 refine H9 U U U U g2 ?_;refine AQ U U (by kernel_rfl) U U U U (Om (cs:=[]) ⟨rfl,rfl,Nat.lt_succ_self 2⟩ c hc (by omega) ?_);intro s1 dy gR;have gi:s1.heap.get 0=some (.cells [Cq Cy 2 c,Cq Cy 2 f] 24 false):=(dy.heap 0 (Nat.succ_pos 2) (by decide)).trans (DD 0);obtain⟨bW,aB⟩:=zg dy rfl rfl;have hx1:3≤s1.next:=dy.next;rcases hn:VO [] c with _|ds
 ·refine Lh U ‹_› (on U) ?_;refine Lq (oF U ‹_› U) rfl<|qm U ?_;iterate 5 refine Lk U U ?_
  refine Lq (oT U U U) rfl<|Ld<|Ah U rfl<|Es<|qa rfl<|Ld ?_;refine Ab ⟨.inl U,rfl,‹_›,‹_›,_,_,_,(An U U),rfl,rfl,?_⟩;try refine Ab ⟨.inl rfl,rfl,aB,bW,_,_,_,(An rfl rfl),rfl,rfl,?_⟩
  have:Zc c f=false:=by unfold Zc;rw[hn,Bool.and_false]
  rw[this];rfl
 ·have hlen:=L4 hn;refine Lh U ‹_› (on U)<|Lq (oF U ‹_› U) rfl<|qm rfl<|Lh U U (of BF U)<|Lg U U (A2 U U (Aj Bn Bk ‹_› U))<|Lh U U (om U)<|H9 U U U U U ?_;refine AQ U U (by kernel_rfl) U U U U (Om (gR ds hn) f hf (by omega) ?_);intro s2 ia Zj;have eE:s2.heap.get 0=some (.cells [Cq Cy 2 c,Cq Cy 2 f] 24 false):=(ia.heap 0 (by omega) (by decide)).trans gi;obtain⟨dw,aZ⟩:=zg ia bW aB;rcases mv:VO ds f with _|es
  ·refine Lh U U (on U) ?_;refine Lq (oF U U U) rfl<|Ld<|Ah U rfl<|Es<|qa rfl<|Ld ?_;refine Ab ⟨.inl U,rfl,‹_›,‹_›,_,_,_,(An U U),rfl,rfl,?_⟩;try refine Ab ⟨.inl rfl,rfl,aZ,dw,_,_,_,(An rfl rfl),rfl,rfl,?_⟩
   have:Zc c f=false:=by
    unfold Zc;rw[hn];show(_&&(VO ds f).isSome)=false;rw[mv];simp
   rw[this];rfl
  ·focus
    refine Lh U U (on U)<|Lq (oF U U U) rfl<|Ld<|Af U rfl<|Ac<|Aa<|Es<|Lq (of BA U) rfl<|Lo (A2 U U (Aj Bn Bk ‹_› U)) rfl<|Lq (Ae (k:=0) U D3 BB U U ‹_›) rfl<|Lq (AP U U Jj BB (Qc U)) rfl<|Lq (Bj U N6 U U) rfl<|Lq (DN (neg:=true) U OW Pv U U ‹_›) rfl<|qm U ?_;refine Lb U (fun g3=>?_) (fun g3=>?_);have h3:=nT g3;iterate 6 refine Lk U ‹_› ?_
    refine Lq (oT U ‹_› U) rfl<|Ld<|Ah U rfl<|Es<|qa rfl<|Ld ?_;refine Ab ⟨.inl U,rfl,‹_›,‹_›,_,_,_,(An U U),rfl,rfl,?_⟩;rotate_left;have h3:=nF g3;refine Lh U ‹_› (of BA U)<|Lg U ‹_› (A2 U U (Aj Bn Bk ‹_› U))<|Lh U ‹_› (Ae (k:=1) U D3 BB U U ‹_›)<|Lh U ‹_› (AP U U Jj BB (Qc U))<|Lh U ‹_› (Bj U N6 U U)<|Lh U ‹_› (DN (neg:=true) U OW Pv U U ‹_›)<|Lq (oF U ‹_› U) rfl<|Ld ?_;refine Ec U (fun g4=>?_) (fun g4=>?_);have h4:=nT g4;refine Es<|qa rfl<|Ld ?_;refine Ab ⟨.inl U,rfl,‹_›,‹_›,_,_,_,(An U U),rfl,rfl,?_⟩;rotate_left;have h4:=nF g4;refine Ac<|Es<|qa rfl<|Ld ?_;refine Ab ⟨.inl U,rfl,‹_›,‹_›,_,_,_,(An U U),rfl,rfl,?_⟩;rotate_left
   ·try refine Ab ⟨.inl rfl,rfl,aZ,dw,_,_,_,(An rfl rfl),rfl,rfl,?_⟩
    rw[XG true (by rw[Qi (i:=0) (by omega),decide_eq_false (by intro h;exact h3 (Option.some.inj h):¬some c[0]=some eA),Bool.and_false,Bool.false_and])];rfl
   ·try refine Ab ⟨.inl rfl,rfl,aZ,dw,_,_,_,(An rfl rfl),rfl,rfl,?_⟩
    rw[XG true (by rw[Qi (i:=1) (by omega),decide_eq_false (by intro h;exact h4 (Option.some.inj h):¬some c[1]=some iV),Bool.and_false])];rfl
   ·try refine Ab ⟨.inl rfl,rfl,aZ,dw,_,_,_,(An rfl rfl),rfl,rfl,?_⟩
    have:Zc c f=true:=by
     unfold Zc;rw[gO,Qi (i:=0) (by omega),Qi (i:=1) (by omega),h3,h4,hn];show(_&&(VO ds f).isSome)=true;rw[mv];simp
    rw[this];rfl
noncomputable def K6:=Wa K5 36 (fun p:pH=>[.agg [Cq Cy 2 p.1.1,Cq Cy 2 p.1.2]]) (fun p=> .int .i64 (if Zc p.1.1 p.1.2 then 0 else 2))
theorem hit_36 {c f:List CD} (hc:∀p∈c,p.1.length≤4000) (hf:∀p∈f,p.1.length≤4000):K6 36 [.agg [Cq Cy 2 c,Cq Cy 2 f]]=some (.int .i64 (if Zc c f then 0 else 2)):=
 A3 (f:=36) (enc:=fun p:pH=>[.agg [Cq Cy 2 p.1.1,Cq Cy 2 p.1.2]]) (res:=fun p=> .int .i64 (if Zc p.1.1 p.1.2 then 0 else 2)) (by
  rintro⟨p,_⟩ ⟨q,_⟩ h;obtain rfl:=MI h;rfl) ⟨(c,f),hc,hf⟩
theorem all6 (h:VG Tryz.prog 10 [] (.bool true)):CK Tryz.prog K6:=Do AC (all5 h) (fun p:pH=>PM p.1.1 p.1.2 p.2.1 p.2.2) (fun _=>rfl) (fun _=>rfl)
theorem EN {f:Nat→Bool} {i:Nat} (h:(List.range i).all f=true) (hf:f i=true):(List.range (i+1)).all f=true:=by
 rw[List.range_succ,List.all_append,h,List.all_cons,hf];rfl
theorem Mj {f:Nat→Bool} {n i:Nat} (h:i<n) (hf:f i=false):(List.range n).all f=false:=by
 cases hb:(List.range n).all f with
 |false=>rfl
 |true=>
  have:=List.all_eq_true.1 hb i (List.mem_range.2 h);rw[hf]at this;cases this
theorem RU {f:Nat→Bool} {n i:Nat} (h:(List.range n).all f=true) (hi:i<n):f i=true:=List.all_eq_true.1 h i (List.mem_range.2 hi)
def CY (n:Int):List AV:=[.int .i64 n]
theorem Bi (n:Int):(CY n).length=0+1:=rfl
theorem Dx (a b:Int) (h:CY a=CY b):a=b:=by cases h;rfl
abbrev Zl:=Int×Int
def XB (p:Zl):List AV:=[.int .i64 p.1,.int .i64 p.2]
theorem Eo (p:Zl):(XB p).length=1+1:=rfl
theorem MJ (a b:Zl) (h:XB a=XB b):a=b:=by
 obtain⟨a1,a2⟩:=a;obtain⟨b1,b2⟩:=b;cases h;rfl
structure VI where
 op:Int
 a:Int
 alts:List Zl
 to:List Int
 term:Int
 n:Int
 args:List Int
def WN (x:VI):List AV:=[.int .i64 x.op,.int .i64 x.a,Cq XB 2 x.alts,Cq CY 1 x.to,.int .i64 x.term,.int .i64 x.n,Cq CY 1 x.args]
theorem Db (x:VI):(WN x).length=6+1:=rfl
theorem Js (x y:VI) (h:WN x=WN y):x=y:=by
 obtain⟨a,b,c,d,e,f,g⟩:=x;obtain⟨a',b',c',d',e',f',g'⟩:=y;simp only[WN,List.cons.injEq,AV.int.injEq,and_true,true_and]at h;obtain⟨rfl,rfl,h3,h4,rfl,rfl,h7⟩:=h;rw[By MJ Eo h3,By Dx Bi h4,By Dx Bi h7]
structure Cm where
 cons:List CD
 Co:List CD
 ins:List VI
 Cj:List Int
def CG (c:Cm):List AV:=[Cq Cy 2 c.cons,Cq Cy 2 c.Co,Cq WN 7 c.ins,Cq CY 1 c.Cj]
theorem Hb {x y:Cm} (h:(AV.agg (CG x))=AV.agg (CG y)):x=y:=by
 obtain⟨a,b,c,d⟩:=x;obtain⟨a',b',c',d'⟩:=y;simp only[CG,AV.agg.injEq,List.cons.injEq,and_true]at h;rw[By Dy AN h.1,By Dy AN h.2.1,By Js Db h.2.2.1,By Dx Bi h.2.2.2]
def cT (x:VI):Bool:= !(decide (20<(x.alts.length:Int))||(decide (40<(x.to.length:Int))||decide (10<(x.args.length:Int))))
def iAt (c:Cm) (i:Nat):VI:=c.ins.getD i ⟨0,0,[],[],0,0,[]⟩
theorem NZ {c:Cm} {i:Nat} (h:i<c.ins.length):iAt c i=c.ins[i]:=by unfold iAt;rw[List.getD_eq_getElem?_getD,Qi h];rfl
def WL (c:Cm):Bool:=(Xn c.cons c.Co&& !(decide (1020<(c.ins.length:Int))||decide (20<(c.Cj.length:Int))))&&(List.range c.ins.length).all fun i=>cT (iAt c i)
structure Copied (st s1 s2:St) (z cs:List AV) (T:TypeId):Prop where
 new:s1.heap.get st.next=some (.cells z T false)
 put:s2.heap.get st.next=some (.cells cs T false)
 old1:∀c,c<st.next→s1.heap.get c=st.heap.get c
 jC:∀c,c<st.next→s2.heap.get c=st.heap.get c
 bound:s2.bound=st.bound
 log:st.bound≤st.next→s2.log=st.log
 next:s2.next=st.next+1
theorem Hv {st:St} {z cs:List AV} {T:TypeId}:Copied st (st.alloc (.cells z T false)) ((st.alloc (.cells z T false)).put st.next (some (.cells cs T false))) z cs T:=
 ⟨BZ,by rw[AL,if_pos rfl],fun _ h=>AT h,fun c h=>by rw[AL,if_neg (Nat.ne_of_lt h),AT h],rfl,fun h=>by
  show(bif Nat.blt st.next st.bound then _ else st.log)=st.log;cases hb:Nat.blt st.next st.bound with
  |false=>rfl
  |true=>
   have:st.next<st.bound:=Qc hb;omega,rfl⟩
theorem Ni (c:Cm):Cb (EK K6) 9 [.agg (CG c)] S0 (.bool (WL c)):=by
 refine Aq (fn:=Tryz.f9) U U (by kernel_rfl) U U U U ?_;have XG:(Xn c.cons c.Co&& !(decide (1020<(c.ins.length:Int))||decide (20<(c.Cj.length:Int))))=false→WL c=false:=fun h=>by unfold WL;rw[h];rfl
 focus
  refine Es<|Lo (A4 1 U U U U) rfl<|qa rfl<|Ld<|Aa<|Es<|Lq (of BI U) rfl<|Lo (AA U MU Ma U U (Qc U)) U ?_;refine Lo (Ad U U (by kernel_rfl) U (Cb.Cs (hit_25))) rfl<|Lq (on U) rfl<|qm U ?_;refine Lb U (fun g1=>?_) (fun g1=>?_);have h1:=FB g1;iterate 4 refine Lk U ‹_› ?_
  refine Lq (oT U ‹_› U) rfl<|qm U ?_;iterate 4 refine Lk U U ?_
  refine Lq (oT U U U) rfl<|Ld<|Ah U rfl<|Es<|qa rfl<|Ld ?_;refine Ab (Er U ?_);refine Ag ?_;rotate_left;have h1:=FC g1;refine Lh U ‹_› (of Bf U)<|Lg U ‹_› (l1 Dg Dd U)<|Lh U ‹_› (ol FR U)<|Lh U ‹_› (o2 Ck U U)<|Lq (oF U ‹_› U) rfl<|qm U ?_;refine Lb U (fun g2=>?_) (fun g2=>?_);have h2:=dT g2;iterate 4 refine Lk U ‹_› ?_
  refine Lq (oT U ‹_› U) rfl<|Ld<|Ah U rfl<|Es<|qa rfl<|Ld ?_;refine Ab (Er U ?_);refine Ag ?_;rotate_left;have h2:=dF g2;refine Lh U ‹_› (of EA U)<|Lg U ‹_› (l1 BJ B9 U)<|Lh U ‹_› (ol Ea U)<|Lh U ‹_› (o2 Ck U U)<|Lq (oF U ‹_› U) rfl<|Ld ?_;refine Ec U (fun g3=>?_) (fun g3=>?_);have h3:=dT g3;refine Es<|qa rfl<|Ld ?_;refine Ab (Er U ?_);refine Ag ?_;rotate_left;have h3:=dF g3;refine Ac<|Aa<|Es<|qa rfl<|Ld<|Ch.block ?_;rotate_left
 ·rw[XG (by rw[h1];rfl)]
 ·rw[XG (by rw[g2];simp)]
 ·rw[XG (by rw[g3];simp)]
 refine Aw (fun x:Nat×St=>([(3,.int .i64 (x.1:Nat)),(1,.ptr 0 0)],x.2)) (fun x=>c.ins.length-x.1)
  (fun x=>x.1≤c.ins.length∧(List.range x.1).all (fun i=>cT (iAt c i))=true∧x.2.heap.get 0=some (.cells (CG c) 28 false)∧0<x.2.next∧x.2.bound=0∧x.2.log=[]) (0,WZ 1 0 [] [(0,some (.cells (CG c) 28 false))]) ⟨Qo _,rfl,rfl,Nat.one_pos,rfl,rfl⟩ rfl (Ao (by repeat' constructor)) ?_
 rintro⟨i,st⟩ ⟨hi,hs,hg,hn,hb,hl⟩;dsimp only at hi hs hg hn hb hl⊢;by_cases h:i<c.ins.length
 ·have hp:=A7 Db h;obtain⟨dy,ia,hc3,xj,vu,hc6,hc7⟩:=Hv (st:=st) (z:=[.int .i64 0,.int .i64 0,.Ca,.Ca,.int .i64 0,.int .i64 0,.Ca]) (cs:=WN c.ins[i]) (T:=58);have Wm:=(hc6 (by omega)).trans hl;have dz:=vu.trans hb;have gI:=(xj 0 hn).trans hg;have mJ:cT c.ins[i]=false→false=WL c:=fun h2=>by
   unfold WL;rw[Mj (i:=i) h (by rw[NZ h];exact h2),Bool.and_false]
  focus
   refine Aa<|Es<|qm rfl<|Lq (of Bf U) rfl<|Lo (A2 U U (Aj Dg Dd ‹_› U)) rfl<|Lq (ol FR U) rfl<|Lq (o2 Ck U U) rfl<|Ld ?_;refine Ec U (fun g4=>?_) (fun g4=>?_);have h4:=dT g4;refine Ac<|Aa<|Ch.block<|Es<|Lq (of Bf U) rfl<|Lo (A2 U U (Aj Dg Dd ‹_› U)) rfl<|qm rfl<|Lq (Ae U FR BV U U ‹_›) rfl<|Lq (AP U U Gr BV (Qc U)) rfl<|Lo (Ws.alloc U mI) rfl<|Ax (Ws.store U BV U U (AB ‹_› U U U)) U rfl<|Ld<|Es<|Lq (of Dm U) rfl<|Lo (A2 U U (Aj E7 Ee ‹_› U)) rfl<|Lq (ol Hm U) U ?_;refine Lq (o2 Ck U U) rfl<|qm U ?_;refine Lb U (fun g5=>?_) (fun g5=>?_);have h5:=dT g5;iterate 4 refine Lk U ‹_› ?_
   refine Lq (oT U ‹_› U) rfl<|qm U ?_;iterate 4 refine Lk U U ?_
   refine Lq (oT U U U) rfl<|Ld<|Ah U rfl<|Es<|qa rfl<|Ld ?_;refine Ab ⟨.inl U,rfl,‹_›,‹_›,_,_,_,(An U U),rfl,rfl,?_⟩;refine Ag ?_;rotate_left;have h5:=dF g5;refine Lh U ‹_› (of E9 U)<|Lg U ‹_› (A2 U U (Aj BJ B9 ‹_› U))<|Lh U ‹_› (ol Ea U)<|Lh U ‹_› (o2 Ck U U)<|Lq (oF U ‹_› U) rfl<|qm U ?_;refine Lb U (fun g6=>?_) (fun g6=>?_);have h6:=dT g6;iterate 4 refine Lk U ‹_› ?_
   refine Lq (oT U ‹_› U) rfl<|Ld<|Ah U rfl<|Es<|qa rfl<|Ld ?_;refine Ab ⟨.inl U,rfl,‹_›,‹_›,_,_,_,(An U U),rfl,rfl,?_⟩;refine Ag ?_;rotate_left;have h6:=dF g6;refine Lh U ‹_› (of FG U)<|Lg U ‹_› (A2 U U (Aj BJ B9 ‹_› U))<|Lh U ‹_› (ol Ea U)<|Lh U ‹_› (o2 Ck U U)<|Lq (oF U ‹_› U) rfl<|Ld ?_;refine Ec U (fun g7=>?_) (fun g7=>?_);have h7:=dT g7;refine Es<|qa rfl<|Ld ?_;refine Ab ⟨.inl U,rfl,‹_›,‹_›,_,_,_,(An U U),rfl,rfl,?_⟩;refine Ag ?_;rotate_left;have h7:=dF g7;refine Ac<|Ai<|qm U ?_;refine Lq (Ap (b:=1) U Ck U U (by omega)) U ?_;refine qa rfl<|Ld ?_;rotate_left;have h4:=dF g4;exact absurd h4 (by omega)
  ·exact mJ (by unfold cT;rw[g5];rfl)
  ·exact mJ (by unfold cT;rw[g6];simp)
  ·exact mJ (by unfold cT;rw[g7];simp)
  ·refine⟨(i+1,_),⟨h,EN hs (by rw[NZ h];unfold cT;rw[g5,g6,g7];rfl),gI,Nat.succ_pos _,vu.trans hb,Wm⟩,by show c.ins.length-(i+1)<c.ins.length-i;omega,rfl,rfl,Ao (by repeat' constructor)⟩
 ·focus
   refine Aa<|Es<|qm rfl<|Lq (of Bf U) rfl<|Lo (A2 U U (Aj Dg Dd ‹_› U)) rfl<|Lq (ol FR U) rfl<|Lq (o2 Ck U U) rfl<|Ld ?_;refine Ec U (fun g4=>?_) (fun g4=>?_);have h4:=dT g4;exact absurd h4 (by omega);have h4:=dF g4;refine A1<|AS rfl<|Es<|qa rfl<|Ld ?_;refine Ab ⟨.inl U,rfl,‹_›,‹_›,_,_,_,(An U U),rfl,rfl,?_⟩;refine Ag ?_;rotate_left
  obtain rfl:i=c.ins.length:=by omega
  unfold WL;rw[hs,h1,g2,g3];rfl
noncomputable def K7:=Wa K6 9 (fun c:Cm=>[.agg (CG c)]) (fun c=> .bool (WL c))
theorem oN {c:Cm}:K7 9 [.agg (CG c)]=some (.bool (WL c)):=
 A3 (f:=9) (enc:=fun c:Cm=>[.agg (CG c)]) (res:=fun c=> .bool (WL c)) (fun a b h=>by rw[Hb (List.cons.inj h).1]) c
theorem all7 (h:VG Tryz.prog 10 [] (.bool true)):CK Tryz.prog K7:=Do AC (all6 h) (fun c=>Ni c) (fun _=>rfl) (fun _=>rfl)
def bg (l:List Int):Bool:=(List.range l.length).all fun i=>YK (l.getD i 0) 0 59
theorem Dj {α:Type} {l:List α} {i:Nat} {d:α} (h:i<l.length):l.getD i d=l[i]:=by rw[List.getD_eq_getElem?_getD,Qi h];rfl
structure Fits (c:Cm):Prop where
 cons:c.cons.length≤4000
 Co:c.Co.length≤4000
 ins:c.ins.length≤4000
 Cj:c.Cj.length≤4000
 alts:∀x∈c.ins,x.alts.length≤4000
 to:∀x∈c.ins,x.to.length≤4000
 args:∀x∈c.ins,x.args.length≤4000
 iW:∀p∈c.cons,p.1.length≤4000
 iX:∀p∈c.Co,p.1.length≤4000
abbrev pI:= {p:Cm×Nat//Fits p.1∧p.2<p.1.ins.length}
def pI.x (p:pI):VI:=p.1.1.ins[p.1.2]'p.2.2
theorem Ir {p q:pI} (h:([.agg (CG p.1.1),.int .i64 (p.1.2:Nat)]:List AV)=[.agg (CG q.1.1),.int .i64 (q.1.2:Nat)]):p=q:=by
 obtain⟨⟨a,b⟩,_⟩:=p;obtain⟨⟨c,d⟩,_⟩:=q;simp only[List.cons.injEq,and_true,AV.int.injEq,true_and]at h;obtain rfl:=Hb h.1;obtain rfl:b=d:=by omega
 rfl
abbrev zh:= {l:List Int//l.length≤4000}
abbrev zi:= {p:List CD×List CD×VI//p.1.length≤4000∧p.2.1.length≤4000}
theorem xk (l:List Int) (hn:l.length≤4000):Cb (EK K7) 108 [Cq CY 1 l] S0 (.bool (bg l)):=by
 refine Aq (fn:=Tryz.f108) U U (by kernel_rfl) U U U rfl<|Es<|qa rfl<|Ld<|Aa<|Es<|qa rfl<|Ld<|Ch.block ?_;refine Aw (fun i:Nat=>([(3,.int .i64 (i:Nat)),(0,Cq CY 1 l)],WZ 0 0 [] [])) (fun i=>l.length-i) (fun i=>i≤l.length∧(List.range i).all (fun i=>YK (l.getD i 0) 0 59)=true) 0 ⟨Qo _,rfl⟩ U (Ao (by repeat' constructor)) ?_;rintro i ⟨hi,hs⟩;dsimp only at hi hs⊢;by_cases h:i<l.length
 ·have hp:=A7 Bi h;focus
   refine Aa<|Es ?_;iterate 2 refine qm U ?_
   refine Lq (ol Ea U) rfl<|Lq (o2 Ck U U) rfl<|Ld ?_;refine Ec U (fun g1=>?_) (fun g1=>?_);have h1:=dT g1;refine Ac<|Aa<|Ch.block<|Es ?_;iterate 2 refine qm U ?_
   refine Lq (Ae U Ea Bb U U ‹_›) rfl<|Lq (Av U U Bv Bb) U ?_;refine Lo (Ad U U (by kernel_rfl) U (Cb.Cs (Gq))) rfl<|Lq (on U) rfl<|Ld ?_;refine Ec U (fun g2=>?_) (fun g2=>?_);have h2:=FB g2;refine Es<|qa rfl<|Ld ?_;refine Ab (Er U ?_);refine Ag ?_;rotate_left;have h2:=FC g2;refine Ac<|Ai<|qm U ?_;refine Lq (Ap (b:=1) U Ck U U (by omega)) U ?_;refine qa rfl<|Ld ?_;rotate_left;have h1:=dF g1;exact absurd h1 (by omega)
  ·unfold bg;rw[Mj (i:=i) h (by rw[Dj h];assumption)]
  ·exact⟨i+1,⟨h,EN hs (by rw[Dj h];assumption)⟩,by show l.length-(i+1)<l.length-i;omega,rfl,rfl,Ao (by repeat' constructor)⟩
 ·focus
   refine Aa<|Es ?_;iterate 2 refine qm U ?_
   refine Lq (ol Ea U) rfl<|Lq (o2 Ck U U) rfl<|Ld ?_;refine Ec U (fun g1=>?_) (fun g1=>?_);have h1:=dT g1;exact absurd h1 (by omega);have h1:=dF g1;refine A1<|AS rfl<|Es<|qa rfl<|Ld ?_;refine Ab (Er U ?_);refine Ag ?_;rotate_left
  obtain rfl:i=l.length:=by omega
  exact hs.symm
noncomputable def K8a:=Wa K7 108 (fun l:zh=>[Cq CY 1 l.1]) (fun l=> .bool (bg l.1))
theorem xl {l:List Int} (h:l.length≤4000):K8a 108 [Cq CY 1 l]=some (.bool (bg l)):=
 A3 (f:=108) (enc:=fun l:zh=>[Cq CY 1 l.1]) (res:=fun l=> .bool (bg l.1)) (by
  rintro⟨a,_⟩ ⟨b,_⟩ h;obtain rfl:=By Dx Bi (List.cons.inj h).1;rfl) ⟨l,h⟩
def arity (l:List CD) (n:Int):Int:=(l.getD n.toNat ([],0)).2
def Xf (cons Co:List CD) (term n:Int) (k:Nat):Bool:=
 if term=2 then decide ((k:Int)=0)&&YK n (-1000000) 1000000
 else if term=3 then YK n 0 (cons.length-1)&&decide ((k:Int)=arity cons n)
 else if term=4 then YK n 0 (Co.length-1)&&decide ((k:Int)=arity Co n)
 else if term=5 then YK n 0 (Co.length-1)&&decide ((k:Int)<arity Co n)
 else if term=6∨term=7∨9≤term∧term≤15 then decide (n=0)&&decide ((k:Int)=2)
 else false
def Yt (cons Co:List CD) (x:VI):Bool:=Xf cons Co x.term x.n x.args.length
theorem NM {cons Co:List CD} {x:VI} (ht:x.term=6∨x.term=7∨9≤x.term∧x.term≤15):Yt cons Co x=(decide (x.n=0)&&decide ((x.args.length:Int)=2)):=by
 unfold Yt Xf;rw[if_neg (by omega),if_neg (by omega),if_neg (by omega),if_neg (by omega),if_pos ht]
theorem So {cons Co:List CD} {x:VI} (ht:x.term=6∨x.term=7∨9≤x.term∧x.term≤15) (hn:x.n=0):decide ((x.args.length:Int)=2)=Yt cons Co x:=by rw[NM ht,decide_eq_true hn];rfl
theorem Sp {cons Co:List CD} {x:VI} (ht:x.term=6∨x.term=7∨9≤x.term∧x.term≤15) (hn:¬x.n=0):false=Yt cons Co x:=by rw[NM ht,decide_eq_false hn];rfl
theorem Ut {cons Co:List CD} {x:VI} (ht:¬(x.term=2∨x.term=3∨x.term=4∨x.term=5∨x.term=6∨x.term=7∨9≤x.term∧x.term≤15)):false=Yt cons Co x:=by
 unfold Yt Xf;rw[if_neg (by omega),if_neg (by omega),if_neg (by omega),if_neg (by omega),if_neg (by omega)]
theorem xm (cons Co:List CD) (x:VI) (hc:cons.length≤4000) (hf:Co.length≤4000):Cb (EK K8a) 109 [.agg [Cq Cy 2 cons,Cq Cy 2 Co],.agg (WN x)] S0 (.bool (Yt cons Co x)):=by
 refine Aq (fn:=Tryz.f109) U U (by kernel_rfl) U U U U ?_;focus
  refine Es<|Lo (A4 1 U U U U) rfl<|Lo (A4 2 U U U U) rfl<|qa rfl<|Ld<|Es<|Lq (of FG U) rfl<|Lo (l1 BJ B9 U) rfl<|Lq (ol Ea U) rfl<|qa rfl<|Ld<|Aa<|Es<|Lq (of Hs U) rfl<|Lo (l1 KJ Jh U) rfl<|Ld ?_;refine Ch.block<|Es<|Lq (o2 Hx U U) rfl<|qa rfl<|Ld ?_;refine Ec U (fun g1=>?_) (fun g1=>?_);have h1:=dT g1;refine Es<|qm rfl<|Lq (o2 Ck U U) rfl<|qm U ?_;refine Lb U (fun g2=>?_) (fun g2=>?_);have h2:=dT g2;refine Lh U ‹_› (of De U)<|Lg U ‹_› (l1 Bv Bb U) ?_;refine Lg U ‹_› (Ad U U (by kernel_rfl) U (Cb.Cs (Gq)))<|Lq (oT U ‹_› U) rfl<|qa rfl<|Ld ?_;refine Ab (Er U ?_);refine Ag ?_;rotate_left;have h2:=dF g2;iterate 3 refine Lk U ‹_› ?_
  refine Lq (oF U ‹_› U) rfl<|qa rfl<|Ld ?_;refine Ab (Er U ?_);refine Ag ?_;rotate_left;have h1:=dF g1;refine Es<|Lq (o2 Hx U U) rfl<|qa rfl<|Ld ?_;refine Ec U (fun g3=>?_) (fun g3=>?_);have h3:=dT g3;refine Es<|Lq (of De U) rfl<|Lo (l1 Bv Bb U) rfl<|Lq (of BA U) rfl<|Lo (l1 Bn Bk U) rfl<|Lq (ol D3 U) rfl<|Lq (Wj.sub U Ck U U (by omega)) U ?_;refine Lo (Ad U U (by kernel_rfl) U (Cb.Cs (Gq))) rfl<|qm U ?_;refine Lb U (fun g4=>?_) (fun g4=>?_);refine Lh U ‹_› (om U)<|Lh U ‹_› (of BA U)<|Lg U ‹_› (l1 Bn Bk U)<|Lh U ‹_› (of De U)<|Lg U ‹_› (l1 Bv Bb U) ?_;rotate_left;iterate 9 refine Lk U ‹_› ?_
  refine Lq (oF U ‹_› U) rfl<|qa rfl<|Ld ?_;refine Ab (Er U ?_);refine Ag ?_;rotate_left;have h3:=dF g3;refine Es<|Lq (o2 Hx U U) rfl<|qa rfl<|Ld ?_;refine Ec U (fun g5=>?_) (fun g5=>?_);have h5:=dT g5;refine Es<|Lq (of De U) rfl<|Lo (l1 Bv Bb U) rfl<|Lq (of BF U) rfl<|Lo (l1 Bn Bk U) rfl<|Lq (ol D3 U) rfl<|Lq (Wj.sub U Ck U U (by omega)) U ?_;refine Lo (Ad U U (by kernel_rfl) U (Cb.Cs (Gq))) rfl<|qm U ?_;refine Lb U (fun g6=>?_) (fun g6=>?_);refine Lh U ‹_› (om U)<|Lh U ‹_› (of BF U)<|Lg U ‹_› (l1 Bn Bk U)<|Lh U ‹_› (of De U)<|Lg U ‹_› (l1 Bv Bb U) ?_;rotate_left;iterate 9 refine Lk U ‹_› ?_
  refine Lq (oF U ‹_› U) rfl<|qa rfl<|Ld ?_;refine Ab (Er U ?_);refine Ag ?_;rotate_left;have h5:=dF g5;refine Es<|Lq (o2 Hx U U) rfl<|qa rfl<|Ld ?_;refine Ec U (fun g7=>?_) (fun g7=>?_);have h7:=dT g7;refine Es<|Lq (of De U) rfl<|Lo (l1 Bv Bb U) rfl<|Lq (of BF U) rfl<|Lo (l1 Bn Bk U) rfl<|Lq (ol D3 U) rfl<|Lq (Wj.sub U Ck U U (by omega)) U ?_;refine Lo (Ad U U (by kernel_rfl) U (Cb.Cs (Gq))) rfl<|qm U ?_;refine Lb U (fun g8=>?_) (fun g8=>?_);refine Lh U ‹_› (om U)<|Lh U ‹_› (of BF U)<|Lg U ‹_› (l1 Bn Bk U)<|Lh U ‹_› (of De U)<|Lg U ‹_› (l1 Bv Bb U) ?_;rotate_left;iterate 9 refine Lk U ‹_› ?_
  refine Lq (oF U ‹_› U) rfl<|qa rfl<|Ld ?_;refine Ab (Er U ?_);refine Ag ?_;rotate_left;have h7:=dF g7;refine Aa<|Es<|Lq (o2 Hx U U) rfl<|qa rfl<|Ld ?_;refine Ec U (fun g9=>?_) (fun g9=>?_);have h9:=dT g9;refine Ac<|Ah U ‹_›<|Es<|Lq (of De U) rfl<|Lo (l1 Bv Bb U) rfl<|Lq (o2 Ck U U) rfl<|qm U ?_;refine Lb U (fun xn=>?_) (fun xn=>?_);have h10:=dT xn;refine Lh U ‹_› (om U)<|Lh U ‹_› (o2 Ck U U)<|Lq (oT U ‹_› U) rfl<|qa rfl<|Ld ?_;refine Ab (Er U ?_);refine Ag ?_;rotate_left;have h10:=dF xn;iterate 2 refine Lk U ‹_› ?_
  refine Lq (oF U ‹_› U) rfl<|qa rfl<|Ld ?_;refine Ab (Er U ?_);refine Ag ?_;rotate_left;have h9:=dF g9;refine Es<|Lq (o2 Hx U U) rfl<|qa rfl<|Ld ?_;refine Ec U (fun tu=>?_) (fun tu=>?_);have h11:=dT tu;refine Ac<|Ah U ‹_›<|Es<|Lq (of De U) rfl<|Lo (l1 Bv Bb U) rfl<|Lq (o2 Ck U U) rfl<|qm U ?_;refine Lb U (fun pY=>?_) (fun pY=>?_);have xp:=dT pY;refine Lh U ‹_› (om U)<|Lh U ‹_› (o2 Ck U U)<|Lq (oT U ‹_› U) rfl<|qa rfl<|Ld ?_;refine Ab (Er U ?_);refine Ag ?_;rotate_left;have xp:=dF pY;iterate 2 refine Lk U ‹_› ?_
  refine Lq (oF U ‹_› U) rfl<|qa rfl<|Ld ?_;refine Ab (Er U ?_);refine Ag ?_;rotate_left;have h11:=dF tu;refine Es<|Lq (o2 Hx U U) rfl<|qa rfl<|Ld ?_;refine Ec U (fun lv=>?_) (fun lv=>?_);have tv:=dT lv;refine Ac<|Ah U ‹_›<|Es<|Lq (of De U) rfl<|Lo (l1 Bv Bb U) rfl<|Lq (o2 Ck U U) rfl<|qm U ?_;refine Lb U (fun xq=>?_) (fun xq=>?_);have h14:=dT xq;refine Lh U ‹_› (om U)<|Lh U ‹_› (o2 Ck U U)<|Lq (oT U ‹_› U) rfl<|qa rfl<|Ld ?_;refine Ab (Er U ?_);refine Ag ?_;rotate_left;have h14:=dF xq;iterate 2 refine Lk U ‹_› ?_
  refine Lq (oF U ‹_› U) rfl<|qa rfl<|Ld ?_;refine Ab (Er U ?_);refine Ag ?_;rotate_left;have tv:=dF lv;refine Es<|Lq (o2 Hx U U) rfl<|qa rfl<|Ld ?_;refine Ec U (fun tx=>?_) (fun tx=>?_);have xr:=dT tx;refine Ac<|Ah U ‹_›<|Es<|Lq (of De U) rfl<|Lo (l1 Bv Bb U) rfl<|Lq (o2 Ck U U) rfl<|qm U ?_;refine Lb U (fun pJ=>?_) (fun pJ=>?_);have h16:=dT pJ;refine Lh U ‹_› (om U)<|Lh U ‹_› (o2 Ck U U)<|Lq (oT U ‹_› U) rfl<|qa rfl<|Ld ?_;refine Ab (Er U ?_);refine Ag ?_;rotate_left;have h16:=dF pJ;iterate 2 refine Lk U ‹_› ?_
  refine Lq (oF U ‹_› U) rfl<|qa rfl<|Ld ?_;refine Ab (Er U ?_);refine Ag ?_;rotate_left;have xr:=dF tx;refine Es<|Lq (o2 Hx U U) rfl<|qa rfl<|Ld ?_;refine Ec U (fun tz=>?_) (fun tz=>?_);have h17:=dT tz;refine Ac<|Ah U ‹_›<|Es<|Lq (of De U) rfl<|Lo (l1 Bv Bb U) rfl<|Lq (o2 Ck U U) rfl<|qm U ?_;refine Lb U (fun tA=>?_) (fun tA=>?_);have h18:=dT tA;refine Lh U ‹_› (om U)<|Lh U ‹_› (o2 Ck U U)<|Lq (oT U ‹_› U) rfl<|qa rfl<|Ld ?_;refine Ab (Er U ?_);refine Ag ?_;rotate_left;have h18:=dF tA;iterate 2 refine Lk U ‹_› ?_
  refine Lq (oF U ‹_› U) rfl<|qa rfl<|Ld ?_;refine Ab (Er U ?_);refine Ag ?_;rotate_left;have h17:=dF tz;refine Es<|Lq (o2 Hx U U) rfl<|qa rfl<|Ld ?_;refine Ec U (fun tB=>?_) (fun tB=>?_);have h19:=dT tB;refine Ac<|Ah U ‹_›<|Es<|Lq (of De U) rfl<|Lo (l1 Bv Bb U) rfl<|Lq (o2 Ck U U) rfl<|qm U ?_;refine Lb U (fun tC=>?_) (fun tC=>?_);have h20:=dT tC;refine Lh U ‹_› (om U)<|Lh U ‹_› (o2 Ck U U)<|Lq (oT U ‹_› U) rfl<|qa rfl<|Ld ?_;refine Ab (Er U ?_);refine Ag ?_;rotate_left;have h20:=dF tC;iterate 2 refine Lk U ‹_› ?_
  refine Lq (oF U ‹_› U) rfl<|qa rfl<|Ld ?_;refine Ab (Er U ?_);refine Ag ?_;rotate_left;have h19:=dF tB;refine Es<|Lq (o2 Hx U U) rfl<|qa rfl<|Ld ?_;refine Ec U (fun xu=>?_) (fun xu=>?_);have h21:=dT xu;refine Ac<|Ah U ‹_›<|Es<|Lq (of De U) rfl<|Lo (l1 Bv Bb U) rfl<|Lq (o2 Ck U U) rfl<|qm U ?_;refine Lb U (fun tD=>?_) (fun tD=>?_);have h22:=dT tD;refine Lh U ‹_› (om U)<|Lh U ‹_› (o2 Ck U U)<|Lq (oT U ‹_› U) rfl<|qa rfl<|Ld ?_;refine Ab (Er U ?_);refine Ag ?_;rotate_left;have h22:=dF tD;iterate 2 refine Lk U ‹_› ?_
  refine Lq (oF U ‹_› U) rfl<|qa rfl<|Ld ?_;refine Ab (Er U ?_);refine Ag ?_;rotate_left;have h21:=dF xu;refine Es<|Lq (o2 Hx U U) rfl<|qa rfl<|Ld ?_;refine Ec U (fun xw=>?_) (fun xw=>?_);have h23:=dT xw;refine Ac<|Ah U ‹_›<|Es<|Lq (of De U) rfl<|Lo (l1 Bv Bb U) rfl<|Lq (o2 Ck U U) rfl<|qm U ?_;refine Lb U (fun tE=>?_) (fun tE=>?_);have h24:=dT tE;refine Lh U ‹_› (om U)<|Lh U ‹_› (o2 Ck U U)<|Lq (oT U ‹_› U) rfl<|qa rfl<|Ld ?_;refine Ab (Er U ?_);refine Ag ?_;rotate_left;have h24:=dF tE;iterate 2 refine Lk U ‹_› ?_
  refine Lq (oF U ‹_› U) rfl<|qa rfl<|Ld ?_;refine Ab (Er U ?_);refine Ag ?_;rotate_left;have h23:=dF xw;refine Ai<|Lq (o2 Hx U U) rfl<|qa rfl<|Ld ?_;refine Ec U (fun tF=>?_) (fun tF=>?_);have h25:=dT tF;refine Es<|Lq (of De U) rfl<|Lo (l1 Bv Bb U) rfl<|Lq (o2 Ck U U) rfl<|qm U ?_;refine Lb U (fun g26=>?_) (fun g26=>?_);have h26:=dT g26;refine Lh U ‹_› (om U)<|Lh U ‹_› (o2 Ck U U)<|Lq (oT U ‹_› U) rfl<|qa rfl<|Ld ?_;refine Ab (Er U ?_);refine Ag ?_;rotate_left;have h26:=dF g26;iterate 2 refine Lk U ‹_› ?_
  refine Lq (oF U ‹_› U) rfl<|qa rfl<|Ld ?_;refine Ab (Er U ?_);refine Ag ?_;rotate_left;have h25:=dF tF;refine Ac<|Es<|qa rfl<|Ld ?_;refine Ab (Er U ?_);refine Ag ?_;rotate_left
 ·simp only[Yt,Xf,h1,if_true,decide_eq_true h2,Bool.true_and]
 ·simp only[Yt,Xf,h1,if_true,decide_eq_false h2,Bool.false_and]
 ·obtain⟨hz,C6⟩:=aA.1 g4;have hp:=A7 AN (l:=cons) (i:=x.n.toNat) (by omega);refine Lh U ‹_› (Dh U D3 BB U U (by first|assumption|omega) ‹_›)<|Lh U ‹_› (Az U Fw U (Qc U))<|Lh U ‹_› (Av U U Bv Bb)<|Lh U ‹_› (o2 Ck U U)<|Lq (oT U ‹_› U) rfl<|qa rfl<|Ld ?_;refine Ab (Er U ?_);refine Ag ?_;simp only[Yt,Xf,h3,g4,arity,Dj (l:=cons) (i:=x.n.toNat) (d:=([],0)) (by omega)];rfl
 ·simp only[Yt,Xf,h3,g4];rfl
 ·obtain⟨hz,C6⟩:=aA.1 g6;have hp:=A7 AN (l:=Co) (i:=x.n.toNat) (by omega);refine Lh U ‹_› (Dh U D3 BB U U (by first|assumption|omega) ‹_›)<|Lh U ‹_› (Az U Fw U (Qc U))<|Lh U ‹_› (Av U U Bv Bb)<|Lh U ‹_› (o2 Ck U U)<|Lq (oT U ‹_› U) rfl<|qa rfl<|Ld ?_;refine Ab (Er U ?_);refine Ag ?_;simp only[Yt,Xf,h5,g6,arity,Dj (l:=Co) (i:=x.n.toNat) (d:=([],0)) (by omega)];rfl
 ·simp only[Yt,Xf,h5,g6];rfl
 ·obtain⟨hz,C6⟩:=aA.1 g8;have hp:=A7 AN (l:=Co) (i:=x.n.toNat) (by omega);refine Lh U ‹_› (Dh U D3 BB U U (by first|assumption|omega) ‹_›)<|Lh U ‹_› (Az U Fw U (Qc U))<|Lh U ‹_› (Av U U Bv Bb)<|Lh U ‹_› (o2 Ck U U)<|Lq (oT U ‹_› U) rfl<|qa rfl<|Ld ?_;refine Ab (Er U ?_);refine Ag ?_;simp only[Yt,Xf,h7,g8,arity,Dj (l:=Co) (i:=x.n.toNat) (d:=([],0)) (by omega)];rfl
 ·simp only[Yt,Xf,h7,g8];rfl
 all_goals first|exact So (by omega) ‹_›|exact Sp (by omega) ‹_›|exact Ut (by omega)
noncomputable def K8b:=Wa K8a 109 (fun p:zi=>[.agg [Cq Cy 2 p.1.1,Cq Cy 2 p.1.2.1],.agg (WN p.1.2.2)]) (fun p=> .bool (Yt p.1.1 p.1.2.1 p.1.2.2))
theorem xx {cons Co:List CD} {x:VI} (h1:cons.length≤4000) (h2:Co.length≤4000):K8b 109 [.agg [Cq Cy 2 cons,Cq Cy 2 Co],.agg (WN x)]=some (.bool (Yt cons Co x)):=
 A3 (f:=109) (enc:=fun p:zi=>[.agg [Cq Cy 2 p.1.1,Cq Cy 2 p.1.2.1],.agg (WN p.1.2.2)]) (res:=fun p=> .bool (Yt p.1.1 p.1.2.1 p.1.2.2)) (by
  rintro⟨⟨a,b,c⟩,_⟩ ⟨⟨d,e,f⟩,_⟩ h;simp only[List.cons.injEq,and_true,AV.agg.injEq]at h;obtain rfl:=By Dy AN h.1.1;obtain rfl:=By Dy AN h.1.2;obtain rfl:=Js _ _ h.2;rfl) ⟨(cons,Co,x),h1,h2⟩
def cU (nc ni k:Nat) (l:List Zl) (i:Nat):Bool:=
 (YK (l.getD i (0,0)).1 0 (nc-1)&& !(decide (0<(i:Int))&&decide ((l.getD i (0,0)).1≤(l.getD (i-1) (0,0)).1)))&&YK (l.getD i (0,0)).2 ((k+1:Nat):Int) ((ni-1:Nat):Int)
def fF (nc ni k:Nat) (l:List Zl):Bool:=(List.range l.length).all (cU nc ni k l)
theorem xy (c:Cm) (k:Nat) (hk:k<c.ins.length) (h1:c.cons.length≤4000) (h2:c.ins.length≤4000) (h3:c.ins[k].alts.length≤4000):Cb (EK K8b) 106 [.agg (CG c),.int .i64 (k:Nat)] S0 (.bool (fF c.cons.length c.ins.length k c.ins[k].alts)):=by
 refine Aq (fn:=Tryz.f106) U U (by kernel_rfl) U U U U ?_;have gM:=A7 Db hk;refine Es<|Lo (A4 1 U U U U) rfl<|qa rfl<|Ld<|Es<|Lq (of Bf U) rfl<|Lo (l1 Dg Dd U) rfl<|qm rfl<|Lq (Ae U FR BV U U ‹_›) rfl<|Lq (Az U Dm U (Qc U)) rfl<|Lq (Av U U E7 Ee) rfl<|qa rfl<|Ld<|Aa<|Es<|qa U ?_;refine Ld<|Ch.block ?_;generalize hl:c.ins[k].alts=l at*;refine Aw (fun i:Nat=>([(6,.int .i64 (i:Nat)),(5,Cq XB 2 l),(2,.ptr 0 0),(1,.int .i64 (k:Nat))],WZ 1 0 [] [(0,some (.cells (CG c) 28 false))])) (fun i=>l.length-i) (fun i=>i≤l.length∧(List.range i).all (cU c.cons.length c.ins.length k l)=true) 0 ⟨Qo _,rfl⟩ U (Ao (by repeat' constructor)) ?_;rintro i ⟨hi,hs⟩;dsimp only at hi hs⊢;by_cases h:i<l.length
 ·have hp:=A7 Eo h;have ek:=A7 Eo (l:=l) (i:=i-1) (by omega);have ZZ:cU c.cons.length c.ins.length k l i=((YK l[i].1 0 (c.cons.length-1)&& !(decide (0<(i:Int))&&decide (l[i].1≤l[i-1].1)))&&YK l[i].2 ((k+1:Nat):Int) ((c.ins.length-1:Nat):Int)):=by
   unfold cU;rw[Dj h,Dj (by omega)]
  have XG:cU c.cons.length c.ins.length k l i=false→false=fF c.cons.length c.ins.length k l:=fun hf=>(Mj h hf).symm;focus
   refine Aa<|Es ?_;iterate 2 refine qm U ?_
   refine Lq (ol Hm U) rfl<|Lq (o2 Ck U U) rfl<|Ld ?_;refine Ec U (fun g1=>?_) (fun g1=>?_);have h1:=dT g1;refine Ac<|Aa<|Ch.block<|As (by kernel_rfl) ?_;iterate 2 refine Nq (om U) U ?_
   refine Nq (Ae U Hm Fo U U ‹_›) rfl<|Nq (Az U Hr U (Qc U)) rfl<|Nq (Av U U Bv Bb) rfl<|Nq (of BI U) rfl<|Nq (of BA U) rfl<|A6 U Bn Bk U U U (by kernel_rfl) (.inl U) U rfl<|Nq (ol D3 U) rfl<|Nq (Wj.sub U Ck U U (by omega)) U ?_;refine Bp (AI U U (by kernel_rfl) U (Gq)) (.inl U) U rfl<|Nq (on U) rfl<|Nq (om U) U ?_;refine E5 U U U U (fun g2=>?_) (fun g2=>?_);have h2:=FB g2;iterate 3 refine Nk U ‹_› ?_
   iterate 12 refine Nt U ?_
   refine Nk U ‹_›<|Nq (oT U ‹_› U) rfl<|Nq (om U) U ?_;iterate 13 refine Nk U U ?_
   refine Nq (oT U U U) rfl<|Au<|Ah U rfl<|Es<|qa rfl<|Ld ?_;refine Ab (Er U ?_);refine Ag ?_;rotate_left;have h2:=FC g2;refine Ng U ‹_› (om U)<|Ng U ‹_› (o2 Ck U U)<|Ng U ‹_› (om U) ?_;refine E5 U U U U (fun g3=>?_) (fun g3=>?_);have h3:=dT g3;iterate 2 refine Ng U ‹_› (om U) ?_
   refine Ng U ‹_› (Ae U Hm Fo U U ‹_›)<|Ng U ‹_› (Az U Hr U (Qc U))<|Ng U ‹_› (Av U U Bv Bb) ?_;iterate 2 refine Ng U ‹_› (om U) ?_
   refine Ng U ‹_› (A8 (b:=1) U Ck U U (by omega))<|Ng U ‹_› (Ae U Hm Fo U U ‹_›)<|Ng U ‹_› (Az U Hr U (Qc U))<|Ng U ‹_› (Av U U Bv Bb)<|Ng U ‹_› (o2 Ck U U)<|Ng U ‹_› (oT U ‹_› U)<|Nq (oF U ‹_› U) rfl<|Nq (om U) U ?_;refine E5 U U U U (fun g4=>?_) (fun g4=>?_);have h4:=dT g4;iterate 13 refine Nk U ‹_› ?_
   refine Nq (oT U ‹_› U) rfl<|Au<|Ah U rfl<|Es<|qa rfl<|Ld ?_;refine Ab (Er U ?_);refine Ag ?_;rotate_left;have h4:=dF g4;iterate 2 refine Ng U ‹_› (om U) ?_
   refine Ng U ‹_› (Ae U Hm Fo U U ‹_›)<|Ng U ‹_› (Az U Je U (Qc U))<|Ng U ‹_› (Av U U Bv Bb)<|Ng U ‹_› (om U) ?_;refine Ng U ‹_› (Ap (b:=1) U Ck U U (by omega)) ?_;refine Ng U ‹_› (of Bf U)<|A6 U Dg Dd U U U (by kernel_rfl) (Bl U U U U ‹_›) U rfl<|Ng U ‹_› (ol FR U)<|Ng U ‹_› (A8 (b:=1) U Ck U U (by omega)) ?_;refine Bp (AI U U (by kernel_rfl) U (Gq)) (Bl U U U U ‹_›) U rfl<|Ng U ‹_› (on U)<|Nq (oF U ‹_› U) rfl<|Au ?_;refine Ec U (fun g5=>?_) (fun g5=>?_);have h5:=FB g5;refine Es<|qa rfl<|Ld ?_;refine Ab (Er U ?_);refine Ag ?_;rotate_left;have h5:=FC g5;refine Ac<|Ai<|qm U ?_;refine Lq (Ap (b:=1) U Ck U U (by omega)) U ?_;refine qa rfl<|Ld ?_;rotate_left;have h3:=dF g3;iterate 12 refine Nk U ‹_› ?_
   refine Ng U ‹_› (oF U ‹_› U)<|Nq (oF U ‹_› U) rfl<|Nq (om U) U ?_;iterate 2 refine Ng U U (om U) ?_
   refine Ng U U (Ae U Hm Fo U U ‹_›)<|Ng U U (Az U Je U (Qc U))<|Ng U U (Av U U Bv Bb)<|Ng U U (om U) ?_;refine Ng U U (Ap (b:=1) U Ck U U (by omega)) ?_;refine Ng U U (of Bf U)<|A6 U Dg Dd U U U (by kernel_rfl) (Bl U U U U U) U rfl<|Ng U U (ol FR U)<|Ng U U (A8 (b:=1) U Ck U U (by omega)) ?_;refine Bp (AI U U (by kernel_rfl) U (Gq)) (Bl U U U U U) U rfl<|Ng U U (on U)<|Nq (oF U U U) rfl<|Au ?_;refine Ec U (fun g6=>?_) (fun g6=>?_);have h6:=FB g6;refine Es<|qa rfl<|Ld ?_;refine Ab (Er U ?_);refine Ag ?_;rotate_left;have h6:=FC g6;refine Ac<|Ai<|qm U ?_;refine Lq (Ap (b:=1) U Ck U U (by omega)) U ?_;refine qa rfl<|Ld ?_;rotate_left;have h1:=dF g1;exact absurd h1 (by omega)
  ·exact XG (by rw[ZZ,h2];rfl)
  ·exact XG (by rw[ZZ,h2,g3,g4];rfl)
  ·exact XG (by rw[ZZ,h5,Bool.and_false])
  ·exact⟨i+1,⟨h,EN hs (by rw[ZZ,h2,g3,g4,h5];rfl)⟩,by show l.length-(i+1)<l.length-i;omega,rfl,rfl,Ao (by repeat' constructor)⟩
  ·exact XG (by rw[ZZ,h6,Bool.and_false])
  ·exact⟨i+1,⟨h,EN hs (by rw[ZZ,h2,g3,h6];rfl)⟩,by show l.length-(i+1)<l.length-i;omega,rfl,rfl,Ao (by repeat' constructor)⟩
 ·focus
   refine Aa<|Es ?_;iterate 2 refine qm U ?_
   refine Lq (ol Hm U) rfl<|Lq (o2 Ck U U) rfl<|Ld ?_;refine Ec U (fun g1=>?_) (fun g1=>?_);have h1:=dT g1;exact absurd h1 (by omega);have h1:=dF g1;refine A1<|AS rfl<|Es<|qa rfl<|Ld ?_;refine Ab (Er U ?_);refine Ag ?_;rotate_left
  obtain rfl:i=l.length:=by omega
  exact hs.symm
noncomputable def K8c:=Wa K8b 106 (fun p:pI=>[.agg (CG p.1.1),.int .i64 (p.1.2:Nat)]) (fun p=> .bool (fF p.1.1.cons.length p.1.1.ins.length p.1.2 p.x.alts))
theorem xz {c:Cm} {k:Nat} (h:Fits c) (hk:k<c.ins.length):K8c 106 [.agg (CG c),.int .i64 (k:Nat)]=some (.bool (fF c.cons.length c.ins.length k c.ins[k].alts)):=
 A3 (f:=106) (enc:=fun p:pI=>[.agg (CG p.1.1),.int .i64 (p.1.2:Nat)]) (res:=fun p=> .bool (fF p.1.1.cons.length p.1.1.ins.length p.1.2 p.x.alts)) (fun p q h=>by rw[Ir h]) ⟨(c,k),h,hk⟩
def cV (ni k:Nat) (l:List Int) (i:Nat):Bool:=YK (l.getD i 0) ((k+1:Nat):Int) ((ni-1:Nat):Int)
def XP (ni k:Nat) (l:List Int):Bool:=(List.range l.length).all (cV ni k l)&&decide (2≤(l.length:Int))
theorem RE (c:Cm) (k:Nat) (hk:k<c.ins.length) (h2:c.ins.length≤4000) (h3:c.ins[k].to.length≤4000):Cb (EK K8c) 107 [.agg (CG c),.int .i64 (k:Nat)] S0 (.bool (XP c.ins.length k c.ins[k].to)):=by
 refine Aq (fn:=Tryz.f107) U U (by kernel_rfl) U U U U ?_;have gM:=A7 Db hk;refine Es<|Lo (A4 1 U U U U) rfl<|qa rfl<|Ld<|Es<|Lq (of Bf U) rfl<|Lo (l1 Dg Dd U) rfl<|qm rfl<|Lq (Ae U FR BV U U ‹_›) rfl<|Lq (Az U E9 U (Qc U)) rfl<|Lq (Av U U BJ B9) rfl<|qa rfl<|Ld<|Aa<|Es<|qa U ?_;refine Ld<|Ch.block ?_;generalize hl:c.ins[k].to=l at*;refine Aw (fun i:Nat=>([(6,.int .i64 (i:Nat)),(5,Cq CY 1 l),(2,.ptr 0 0),(1,.int .i64 (k:Nat))],WZ 1 0 [] [(0,some (.cells (CG c) 28 false))])) (fun i=>l.length-i) (fun i=>i≤l.length∧(List.range i).all (cV c.ins.length k l)=true) 0 ⟨Qo _,rfl⟩ U (Ao (by repeat' constructor)) ?_;rintro i ⟨hi,hs⟩;dsimp only at hi hs⊢;by_cases h:i<l.length
 ·have hp:=A7 Bi h;have ZZ:cV c.ins.length k l i=YK l[i] ((k+1:Nat):Int) ((c.ins.length-1:Nat):Int):=by
   unfold cV;rw[Dj h]
  focus
   refine Aa<|Es ?_;iterate 2 refine qm U ?_
   refine Lq (ol Ea U) rfl<|Lq (o2 Ck U U) rfl<|Ld ?_;refine Ec U (fun g1=>?_) (fun g1=>?_);have h1:=dT g1;refine Ac<|Aa<|Ch.block<|As (by kernel_rfl) ?_;iterate 2 refine Nq (om U) U ?_
   refine Nq (Ae U Ea Bb U U ‹_›) rfl<|Nq (Av U U Bv Bb) rfl<|Nq (om U) U ?_;refine Nq (Ap (b:=1) U Ck U U (by omega)) U ?_;refine Nq (of Bf U) rfl<|A6 U Dg Dd U U U (by kernel_rfl) (.inl U) U rfl<|Nq (ol FR U) rfl<|Nq (A8 (b:=1) U Ck U U (by omega)) U ?_;refine Bp (AI U U (by kernel_rfl) U (Gq)) (.inl U) U rfl<|Nq (on U) rfl<|Au ?_;refine Ec U (fun g2=>?_) (fun g2=>?_);have h2:=FB g2;refine Es<|qa rfl<|Ld ?_;refine Ab (Er U ?_);refine Ag ?_;rotate_left;have h2:=FC g2;refine Ac<|Ai<|qm U ?_;refine Lq (Ap (b:=1) U Ck U U (by omega)) U ?_;refine qa rfl<|Ld ?_;rotate_left;have h1:=dF g1;exact absurd h1 (by omega)
  ·unfold XP;rw[Mj h (ZZ.trans h2)];rfl
  ·exact⟨i+1,⟨h,EN hs (ZZ.trans h2)⟩,by show l.length-(i+1)<l.length-i;omega,rfl,rfl,Ao (by repeat' constructor)⟩
 ·focus
   refine Aa<|Es ?_;iterate 2 refine qm U ?_
   refine Lq (ol Ea U) rfl<|Lq (o2 Ck U U) rfl<|Ld ?_;refine Ec U (fun g1=>?_) (fun g1=>?_);have h1:=dT g1;exact absurd h1 (by omega);have h1:=dF g1;refine A1<|AS rfl<|Es<|qm rfl<|Lq (ol Ea U) rfl<|Lq (o2 Ck U U) rfl<|qa rfl<|Ld ?_;refine Ab (Er U ?_);refine Ag ?_;rotate_left
  obtain rfl:i=l.length:=by omega
  unfold XP;rw[hs];rfl
noncomputable def K8:=Wa K8c 107 (fun p:pI=>[.agg (CG p.1.1),.int .i64 (p.1.2:Nat)]) (fun p=> .bool (XP p.1.1.ins.length p.1.2 p.x.to))
theorem xA {c:Cm} {k:Nat} (h:Fits c) (hk:k<c.ins.length):K8 107 [.agg (CG c),.int .i64 (k:Nat)]=some (.bool (XP c.ins.length k c.ins[k].to)):=
 A3 (f:=107) (enc:=fun p:pI=>[.agg (CG p.1.1),.int .i64 (p.1.2:Nat)]) (res:=fun p=> .bool (XP p.1.1.ins.length p.1.2 p.x.to)) (fun p q h=>by rw[Ir h]) ⟨(c,k),h,hk⟩
theorem all8 (h:VG Tryz.prog 10 [] (.bool true)):CK Tryz.prog K8:=by
 have a1:CK Tryz.prog K8a:=BO (all7 h) fun p=>DT AC (all7 h) (xk p.1 p.2) rfl rfl;have a2:CK Tryz.prog K8b:=BO a1 fun p=>DT AC a1 (xm p.1.1 p.1.2.1 p.1.2.2 p.2.1 p.2.2) rfl rfl;have a3:CK Tryz.prog K8c:=BO a2 fun p=>DT AC a2 (xy p.1.1 p.1.2 p.2.2 p.2.1.cons p.2.1.ins (p.2.1.alts _ (Ql _))) rfl rfl;exact BO a3 fun p=>DT AC a3 (RE p.1.1 p.1.2 p.2.2 p.2.1.ins (p.2.1.to _ (Ql _))) U U
def Xs (x:VI):Bool:=decide (x.term=0)&&(decide (x.n=0)&&decide ((x.args.length:Int)=0))
def Yh (c:Cm) (k:Nat) (x:VI):Bool:=
 if x.op=1 then Xs x&&(decide ((x.to.length:Int)=0)&&(YK x.a 0 59&&fF c.cons.length c.ins.length k x.alts))
 else if x.op=2 then Xs x&&(decide (x.a=0)&&(decide ((x.alts.length:Int)=0)&&XP c.ins.length k x.to))
 else if x.op=3∨x.op=4 then Xs x&&(decide (x.a=0)&&(decide ((x.alts.length:Int)=0)&&decide ((x.to.length:Int)=0)))
 else if x.op=5 then decide (x.a=0)&&(decide ((x.alts.length:Int)=0)&&(decide ((x.to.length:Int)=0)&&(bg x.args&&Yt c.cons c.Co x)))
 else if x.op=6 then Xs x&&(decide ((x.alts.length:Int)=0)&&(decide ((x.to.length:Int)=0)&&YK x.a 0 59))
 else false
section
variable {c : Cm} {k : Nat} {x : VI}
theorem tG (h:x.op=1):Yh c k x=(Xs x&&(decide ((x.to.length:Int)=0)&&(YK x.a 0 59&&fF c.cons.length c.ins.length k x.alts))):=by unfold Yh;rw[if_pos h]
theorem tH (h:x.op=2):Yh c k x=(Xs x&&(decide (x.a=0)&&(decide ((x.alts.length:Int)=0)&&XP c.ins.length k x.to))):=by unfold Yh;rw[if_neg (by omega),if_pos h]
theorem U3 (h:x.op=3∨x.op=4):Yh c k x=(Xs x&&(decide (x.a=0)&&(decide ((x.alts.length:Int)=0)&&decide ((x.to.length:Int)=0)))):=by unfold Yh;rw[if_neg (by omega),if_neg (by omega),if_pos h]
theorem tI (h:x.op=5):Yh c k x=(decide (x.a=0)&&(decide ((x.alts.length:Int)=0)&&(decide ((x.to.length:Int)=0)&&(bg x.args&&Yt c.cons c.Co x)))):=by unfold Yh;rw[if_neg (by omega),if_neg (by omega),if_neg (by omega),if_pos h]
theorem tJ (h:x.op=6):Yh c k x=(Xs x&&(decide ((x.alts.length:Int)=0)&&(decide ((x.to.length:Int)=0)&&YK x.a 0 59))):=by unfold Yh;rw[if_neg (by omega),if_neg (by omega),if_neg (by omega),if_neg (by omega),if_pos h]
theorem tK (h:¬(x.op=1∨x.op=2∨x.op=3∨x.op=4∨x.op=5∨x.op=6)):Yh c k x=false:=by unfold Yh;rw[if_neg (by omega),if_neg (by omega),if_neg (by omega),if_neg (by omega),if_neg (by omega)]
end
theorem ins_to (c:Cm) (k:Nat) (hf:Fits c) (hk:k<c.ins.length):Cb (EK K8) 60 [.agg (CG c),.int .i64 (k:Nat)] S0 (.bool (Yh c k c.ins[k])):=by
 refine Aq (fn:=Tryz.f60) U U (by kernel_rfl) U U U U ?_;have gM:=A7 Db hk;have ha:=hf.args _ (Ql hk);have rT:=hf.cons;have mW:=hf.Co;have ht:=hf.to _ (Ql hk);have jj:=hf.alts _ (Ql hk);refine Es<|Lo (A4 1 U U U U) rfl<|qa rfl<|Ld<|Es<|Lq (of Bf U) rfl<|Lo (l1 Dg Dd U) rfl<|qm rfl<|Lq (Ae U FR BV U U ‹_›) rfl<|Lq (AP U U Gr BV (Qc U)) rfl<|Lo (Bc 2 U mI U) rfl<|Ax (AK U BV U U U U U U) U rfl<|Ld ?_;generalize hx:c.ins[k]=x at*;refine Ch.cut [(6,.bool (Xs x)),(5,.ptr 1 0),(2,.ptr 0 0),(1,.int .i64 (k:Nat))] (WZ 2 0 [] [(1,some (.cells (WN x) 58 false)),(1,some (.cells [.int .i64 0,.int .i64 0,.Ca,.Ca,.int .i64 0,.int .i64 0,.Ca] 58 false)),(0,some (.cells (CG c) 28 false))]) ?_ ?_
 ·focus
   refine Ai<|Lq (of Hs U) rfl<|Lo (l1 KJ Jh U) rfl<|Lq (o2 Hx U U) rfl<|qm U ?_;refine Lb U (fun g1=>?_) (fun g1=>?_);have h1:=dT g1;refine Lh U ‹_› (of De U)<|Lg U ‹_› (l1 Bv Bb U)<|Lh U ‹_› (o2 Ck U U)<|Lq (oT U ‹_› U) rfl<|qm U ?_;refine Lb U (fun g2=>?_) (fun g2=>?_);have h2:=dT g2;refine Lh U ‹_› (of FG U)<|Lg U ‹_› (l1 BJ B9 U)<|Lh U ‹_› (ol Ea U)<|Lh U ‹_› (o2 Ck U U)<|Lq (oT U ‹_› U) rfl<|qa rfl<|Ld ?_;rotate_left;have h2:=dF g2;iterate 4 refine Lk U ‹_› ?_
   refine Lq (oF U ‹_› U) rfl<|qa rfl<|Ld ?_;rotate_left;have h1:=dF g1;iterate 3 refine Lk U ‹_› ?_
   refine Lq (oF U ‹_› U) rfl<|qm U ?_;iterate 4 refine Lk U U ?_
   refine Lq (oF U U U) rfl<|qa rfl<|Ld ?_;rotate_left
  ·refine⟨rfl,rfl,rfl,?_⟩;have e:Xs x=decide ((x.args.length:Int)=0):=by unfold Xs;rw[g1,g2];rfl
   rw[e]
   (refine Am.Ao ?_;repeat (first|exact trivial|refine⟨rfl,?_⟩))
  ·refine⟨rfl,rfl,rfl,?_⟩;have e:Xs x=false:=by unfold Xs;rw[g1,g2];rfl
   rw[e]
   (refine Am.Ao ?_;repeat (first|exact trivial|refine⟨rfl,?_⟩))
  ·refine⟨rfl,rfl,rfl,?_⟩;have e:Xs x=false:=by unfold Xs;rw[g1];rfl
   rw[e]
   (refine Am.Ao ?_;repeat (first|exact trivial|refine⟨rfl,?_⟩))
 ·focus
   refine Aa<|Es<|Lq (of Df U) rfl<|Lo (l1 E8 E6 U) rfl<|Ld<|Ch.block<|Es<|Lq (o2 Gp U U) rfl<|qa rfl<|Ld ?_;refine Ec U (fun g1=>?_) (fun g1=>?_);have h1:=dT g1;refine Es ?_;iterate 2 refine qm U ?_
   refine Lb U (fun g2=>?_) (fun g2=>?_);refine Lh U ‹_› (of E9 U)<|Lg U ‹_› (l1 BJ B9 U)<|Lh U ‹_› (ol Ea U)<|Lh U ‹_› (o2 Ck U U)<|Lq (oT U ‹_› U) rfl<|qm U ?_;refine Lb U (fun g3=>?_) (fun g3=>?_);have h3:=dT g3;refine Lh U ‹_› (of E1 U)<|Lg U ‹_› (l1 Bv Bb U) ?_;refine Lg U ‹_› (Ad U U (by kernel_rfl) U (Cb.Cs (Gq)))<|Lq (oT U ‹_› U) rfl<|qm U ?_;refine Lb U (fun g4=>?_) (fun g4=>?_);refine Lg U ‹_› (AA U Em D5 U U (Qc U))<|Lh U ‹_› (om U) ?_;refine Lg U ‹_› (Ad U U (by kernel_rfl) U (Cb.Cs (xz (by omega) (by omega)))) ?_;refine Lq (oT U ‹_› U) rfl<|qa rfl<|Ld ?_;refine Ab (Er U ?_);refine Ag ?_;rotate_left;iterate 3 refine Lk U ‹_› ?_
   refine Lq (oF U ‹_› U) rfl<|qa rfl<|Ld ?_;refine Ab (Er U ?_);refine Ag ?_;rotate_left;have h3:=dF g3;iterate 3 refine Lk U ‹_› ?_
   refine Lq (oF U ‹_› U) rfl<|qm U ?_;iterate 3 refine Lk U U ?_
   refine Lq (oF U U U) rfl<|qa rfl<|Ld ?_;refine Ab (Er U ?_);refine Ag ?_;rotate_left;iterate 4 refine Lk U ‹_› ?_
   refine Lq (oF U ‹_› U) rfl<|qm U ?_;iterate 3 refine Lk U U ?_
   refine Lq (oF U U U) rfl<|qm U ?_;iterate 3 refine Lk U U ?_
   refine Lq (oF U U U) rfl<|qa rfl<|Ld ?_;refine Ab (Er U ?_);refine Ag ?_;rotate_left;have h1:=dF g1;refine Es<|Lq (o2 Gp U U) rfl<|qa rfl<|Ld ?_;refine Ec U (fun g5=>?_) (fun g5=>?_);have h5:=dT g5;refine Es ?_;iterate 2 refine qm U ?_
   refine Lb U (fun g6=>?_) (fun g6=>?_);refine Lh U ‹_› (of E1 U)<|Lg U ‹_› (l1 Bv Bb U)<|Lh U ‹_› (o2 Ck U U)<|Lq (oT U ‹_› U) rfl<|qm U ?_;refine Lb U (fun g7=>?_) (fun g7=>?_);have h7:=dT g7;refine Lh U ‹_› (of Dm U)<|Lg U ‹_› (l1 E7 Ee U)<|Lh U ‹_› (ol Hm U)<|Lh U ‹_› (o2 Ck U U)<|Lq (oT U ‹_› U) rfl<|qm U ?_;refine Lb U (fun g8=>?_) (fun g8=>?_);have h8:=dT g8;refine Lg U ‹_› (AA U Em D5 U U (Qc U))<|Lh U ‹_› (om U) ?_;refine Lg U ‹_› (Ad U U (by kernel_rfl) U (Cb.Cs (xA (by omega) (by omega)))) ?_;refine Lq (oT U ‹_› U) rfl<|qa rfl<|Ld ?_;refine Ab (Er U ?_);refine Ag ?_;rotate_left;have h8:=dF g8;iterate 3 refine Lk U ‹_› ?_
   refine Lq (oF U ‹_› U) rfl<|qa rfl<|Ld ?_;refine Ab (Er U ?_);refine Ag ?_;rotate_left;have h7:=dF g7;iterate 4 refine Lk U ‹_› ?_
   refine Lq (oF U ‹_› U) rfl<|qm U ?_;iterate 3 refine Lk U U ?_
   refine Lq (oF U U U) rfl<|qa rfl<|Ld ?_;refine Ab (Er U ?_);refine Ag ?_;rotate_left;iterate 3 refine Lk U ‹_› ?_
   refine Lq (oF U ‹_› U) rfl<|qm U ?_;iterate 4 refine Lk U U ?_
   refine Lq (oF U U U) rfl<|qm U ?_;iterate 3 refine Lk U U ?_
   refine Lq (oF U U U) rfl<|qa rfl<|Ld ?_;refine Ab (Er U ?_);refine Ag ?_;rotate_left;have h5:=dF g5;refine Aa<|Es<|Lq (o2 Gp U U) rfl<|qa rfl<|Ld ?_;refine Ec U (fun g9=>?_) (fun g9=>?_);have h9:=dT g9;refine Ac<|Ah U ‹_›<|Es ?_;iterate 2 refine qm U ?_
   refine Lb U (fun xn=>?_) (fun xn=>?_);refine Lh U ‹_› (of E1 U)<|Lg U ‹_› (l1 Bv Bb U)<|Lh U ‹_› (o2 Ck U U)<|Lq (oT U ‹_› U) rfl<|qm U ?_;refine Lb U (fun tu=>?_) (fun tu=>?_);have h11:=dT tu;refine Lh U ‹_› (of Dm U)<|Lg U ‹_› (l1 E7 Ee U)<|Lh U ‹_› (ol Hm U)<|Lh U ‹_› (o2 Ck U U)<|Lq (oT U ‹_› U) rfl<|qm U ?_;refine Lb U (fun pY=>?_) (fun pY=>?_);have xp:=dT pY;refine Lh U ‹_› (of E9 U)<|Lg U ‹_› (l1 BJ B9 U)<|Lh U ‹_› (ol Ea U)<|Lh U ‹_› (o2 Ck U U)<|Lq (oT U ‹_› U) rfl<|qa rfl<|Ld ?_;refine Ab (Er U ?_);refine Ag ?_;rotate_left;have xp:=dF pY;iterate 4 refine Lk U ‹_› ?_
   refine Lq (oF U ‹_› U) rfl<|qa rfl<|Ld ?_;refine Ab (Er U ?_);refine Ag ?_;rotate_left;have h11:=dF tu;iterate 4 refine Lk U ‹_› ?_
   refine Lq (oF U ‹_› U) rfl<|qm U ?_;iterate 4 refine Lk U U ?_
   refine Lq (oF U U U) rfl<|qa rfl<|Ld ?_;refine Ab (Er U ?_);refine Ag ?_;rotate_left;iterate 3 refine Lk U ‹_› ?_
   refine Lq (oF U ‹_› U) rfl<|qm U ?_;iterate 4 refine Lk U U ?_
   refine Lq (oF U U U) rfl<|qm U ?_;iterate 4 refine Lk U U ?_
   refine Lq (oF U U U) rfl<|qa rfl<|Ld ?_;refine Ab (Er U ?_);refine Ag ?_;rotate_left;have h9:=dF g9;refine Ai<|Lq (o2 Gp U U) rfl<|qa rfl<|Ld ?_;refine Ec U (fun lv=>?_) (fun lv=>?_);have tv:=dT lv;refine Es ?_;iterate 2 refine qm U ?_
   refine Lb U (fun xq=>?_) (fun xq=>?_);refine Lh U ‹_› (of E1 U)<|Lg U ‹_› (l1 Bv Bb U)<|Lh U ‹_› (o2 Ck U U)<|Lq (oT U ‹_› U) rfl<|qm U ?_;refine Lb U (fun tx=>?_) (fun tx=>?_);have xr:=dT tx;refine Lh U ‹_› (of Dm U)<|Lg U ‹_› (l1 E7 Ee U)<|Lh U ‹_› (ol Hm U)<|Lh U ‹_› (o2 Ck U U)<|Lq (oT U ‹_› U) rfl<|qm U ?_;refine Lb U (fun pJ=>?_) (fun pJ=>?_);have h16:=dT pJ;refine Lh U ‹_› (of E9 U)<|Lg U ‹_› (l1 BJ B9 U)<|Lh U ‹_› (ol Ea U)<|Lh U ‹_› (o2 Ck U U)<|Lq (oT U ‹_› U) rfl<|qa rfl<|Ld ?_;refine Ab (Er U ?_);refine Ag ?_;rotate_left;have h16:=dF pJ;iterate 4 refine Lk U ‹_› ?_
   refine Lq (oF U ‹_› U) rfl<|qa rfl<|Ld ?_;refine Ab (Er U ?_);refine Ag ?_;rotate_left;have xr:=dF tx;iterate 4 refine Lk U ‹_› ?_
   refine Lq (oF U ‹_› U) rfl<|qm U ?_;iterate 4 refine Lk U U ?_
   refine Lq (oF U U U) rfl<|qa rfl<|Ld ?_;refine Ab (Er U ?_);refine Ag ?_;rotate_left;iterate 3 refine Lk U ‹_› ?_
   refine Lq (oF U ‹_› U) rfl<|qm U ?_;iterate 4 refine Lk U U ?_
   refine Lq (oF U U U) rfl<|qm U ?_;iterate 4 refine Lk U U ?_
   refine Lq (oF U U U) rfl<|qa rfl<|Ld ?_;refine Ab (Er U ?_);refine Ag ?_;rotate_left;have tv:=dF lv;refine Es<|Lq (o2 Gp U U) rfl<|qa rfl<|Ld ?_;refine Ec U (fun tz=>?_) (fun tz=>?_);have h17:=dT tz;refine Es<|Lq (of E1 U) rfl<|Lo (l1 Bv Bb U) rfl<|Lq (o2 Ck U U) rfl<|qm U ?_;refine Lb U (fun tA=>?_) (fun tA=>?_);have h18:=dT tA;refine Lh U ‹_› (of Dm U)<|Lg U ‹_› (l1 E7 Ee U)<|Lh U ‹_› (ol Hm U)<|Lh U ‹_› (o2 Ck U U)<|Lq (oT U ‹_› U) rfl<|qm U ?_;refine Lb U (fun tB=>?_) (fun tB=>?_);have h19:=dT tB;refine Lh U ‹_› (of E9 U)<|Lg U ‹_› (l1 BJ B9 U)<|Lh U ‹_› (ol Ea U)<|Lh U ‹_› (o2 Ck U U)<|Lq (oT U ‹_› U) rfl<|qm U ?_;refine Lb U (fun tC=>?_) (fun tC=>?_);have h20:=dT tC;refine Lh U ‹_› (of FG U)<|Lg U ‹_› (l1 BJ B9 U) ?_;refine Lg U ‹_› (Ad U U (by kernel_rfl) U (Cb.Cs (xl (by omega)))) ?_;refine Lq (oT U ‹_› U) rfl<|qm U ?_
   refine Lb U (fun xu=>?_) (fun xu=>?_);refine Lh U ‹_› (of BI U)<|Lg U ‹_› (AA U MU Ma U U (Qc U))<|Lg U ‹_› (AA U Gr BV U U (Qc U)) ?_;refine Lg U ‹_› (Ad U U (by kernel_rfl) U (Cb.Cs (xx (by omega) (by omega)))) ?_;refine Lq (oT U ‹_› U) rfl<|qa rfl<|Ld ?_;refine Ab (Er U ?_);refine Ag ?_;rotate_left;iterate 4 refine Lk U ‹_› ?_
   refine Lq (oF U ‹_› U) rfl<|qa rfl<|Ld ?_;refine Ab (Er U ?_);refine Ag ?_;rotate_left;have h20:=dF tC;iterate 3 refine Lk U ‹_› ?_
   refine Lq (oF U ‹_› U) rfl<|qm U ?_;iterate 4 refine Lk U U ?_
   refine Lq (oF U U U) rfl<|qa rfl<|Ld ?_;refine Ab (Er U ?_);refine Ag ?_;rotate_left;have h19:=dF tB;iterate 4 refine Lk U ‹_› ?_
   refine Lq (oF U ‹_› U) rfl<|qm U ?_;iterate 3 refine Lk U U ?_
   refine Lq (oF U U U) rfl<|qm U ?_;iterate 4 refine Lk U U ?_
   refine Lq (oF U U U) rfl<|qa rfl<|Ld ?_;refine Ab (Er U ?_);refine Ag ?_;rotate_left;have h18:=dF tA;iterate 4 refine Lk U ‹_› ?_
   refine Lq (oF U ‹_› U) rfl<|qm U ?_;iterate 4 refine Lk U U ?_
   refine Lq (oF U U U) rfl<|qm U ?_;iterate 3 refine Lk U U ?_
   refine Lq (oF U U U) rfl<|qm U ?_;iterate 4 refine Lk U U ?_
   refine Lq (oF U U U) rfl<|qa rfl<|Ld ?_;refine Ab (Er U ?_);refine Ag ?_;rotate_left;have h17:=dF tz;refine Es<|Lq (o2 Gp U U) rfl<|qa rfl<|Ld ?_;refine Ec U (fun tD=>?_) (fun tD=>?_);have h22:=dT tD;refine Es ?_;iterate 2 refine qm U ?_
   refine Lb U (fun xw=>?_) (fun xw=>?_);refine Lh U ‹_› (of Dm U)<|Lg U ‹_› (l1 E7 Ee U)<|Lh U ‹_› (ol Hm U)<|Lh U ‹_› (o2 Ck U U)<|Lq (oT U ‹_› U) rfl<|qm U ?_;refine Lb U (fun tE=>?_) (fun tE=>?_);have h24:=dT tE;refine Lh U ‹_› (of E9 U)<|Lg U ‹_› (l1 BJ B9 U)<|Lh U ‹_› (ol Ea U)<|Lh U ‹_› (o2 Ck U U)<|Lq (oT U ‹_› U) rfl<|qm U ?_;refine Lb U (fun tF=>?_) (fun tF=>?_);have h25:=dT tF;refine Lh U ‹_› (of E1 U)<|Lg U ‹_› (l1 Bv Bb U) ?_;refine Lg U ‹_› (Ad U U (by kernel_rfl) U (Cb.Cs (Gq)))<|Lq (oT U ‹_› U) rfl<|qa rfl<|Ld ?_;refine Ab (Er U ?_);refine Ag ?_;rotate_left;have h25:=dF tF;iterate 3 refine Lk U ‹_› ?_
   refine Lq (oF U ‹_› U) rfl<|qa rfl<|Ld ?_;refine Ab (Er U ?_);refine Ag ?_;rotate_left;have h24:=dF tE;iterate 4 refine Lk U ‹_› ?_
   refine Lq (oF U ‹_› U) rfl<|qm U ?_;iterate 3 refine Lk U U ?_
   refine Lq (oF U U U) rfl<|qa rfl<|Ld ?_;refine Ab (Er U ?_);refine Ag ?_;rotate_left;iterate 4 refine Lk U ‹_› ?_
   refine Lq (oF U ‹_› U) rfl<|qm U ?_;iterate 4 refine Lk U U ?_
   refine Lq (oF U U U) rfl<|qm U ?_;iterate 3 refine Lk U U ?_
   refine Lq (oF U U U) rfl<|qa rfl<|Ld ?_;refine Ab (Er U ?_);refine Ag ?_;rotate_left;have h22:=dF tD;refine Ac<|Es<|qa rfl<|Ld ?_;refine Ab (Er U ?_);refine Ag ?_;rotate_left
  all_goals clear gM ha ht jj rT mW
  all_goals first|rw[tG ‹_›]|rw[tH ‹_›]|rw[U3 (by omega)]|rw[tI ‹_›]|rw[tJ ‹_›]|rw[tK (by omega)]
  all_goals simp only[*,Bool.true_and,Bool.false_and,Bool.and_self,decide_true,decide_false]
end Go.Proofs.YtpihdbhocgcbpaaGreatDoor
