/- Code: numbers as texts; builders; a line of words; code.Print. -/
import Derived.Test.YtpihdbhocgcbpaaGreatDoorAmH
import Derived.Test.YtpihdbhocgcbpaaGreatDoorProg
import Derived.KernelRfl
import Derived.Test.YtpihdbhocgcbpaaGreatDoorCdB
import Derived.Test.YtpihdbhocgcbpaaGreatDoorAmE
set_option linter.unusedSectionVars false
set_option linter.unusedVariables false
set_option linter.unusedSimpArgs false
open Go Am
namespace Go.Proofs.YtpihdbhocgcbpaaGreatDoor.Gl
noncomputable abbrev VD (gl:dG) (m:Nat) (K:FuncId→List AV→Option AV):Env:=jz Tryz.prog 1200 1200 m K gl
noncomputable abbrev EG (gl:dG) (K:FuncId→List AV→Option AV):Env:=VD gl 0 K
section
variable {K : FuncId → List AV → Option AV} {m : Nat} {gl : dG}
theorem nI:C7 (VD gl m K) 2=some (.int .i64):=by kernel_rfl
theorem Ck:C7 (VD gl m K) 3=some (.int .i64):=by kernel_rfl
theorem Bb:Am.sizeOf (VD gl m K) 3=some 1:=by kernel_rfl
theorem Bv:Am.isAgg (VD gl m K) 3=some false:=by kernel_rfl
theorem pD:Am.zeroOf (VD gl m K) 3=some (.int .i64 0):=by kernel_rfl
theorem wY:bytesOf (VD gl m K) 3=some 8:=by kernel_rfl
theorem wZ:Am.sizeOf (VD gl m K) 4=some 1:=by kernel_rfl
theorem z_4:Am.zeroOf (VD gl m K) 4=some (.bool false):=by kernel_rfl
theorem dU:C7 (VD gl m K) 5=some (.int .u8):=by kernel_rfl
theorem B3:Am.sizeOf (VD gl m K) 5=some 1:=by kernel_rfl
theorem z_5:Am.zeroOf (VD gl m K) 5=some (.int .u8 0):=by kernel_rfl
theorem xc:bytesOf (VD gl m K) 5=some 1:=by kernel_rfl
theorem OM:isByte (VD gl m K) 5=true:=by kernel_rfl
theorem Wl:C7 (VD gl m K) 9=some .string:=by kernel_rfl
theorem D0:Am.sizeOf (VD gl m K) 9=some 1:=by kernel_rfl
theorem Gs:Am.isAgg (VD gl m K) 9=some false:=by kernel_rfl
theorem pE:Am.zeroOf (VD gl m K) 9=some (.str []):=by kernel_rfl
theorem nJ:bytesOf (VD gl m K) 9=some 16:=by kernel_rfl
theorem xd:Y9 (VD gl m K) 9=some (.one .string):=by kernel_rfl
theorem oI:CC (VD gl m K) 20=some true:=by kernel_rfl
theorem SN:C7 (VD gl m K) 21=some (.int .i32):=by kernel_rfl
theorem D3:C7 (VD gl m K) 22=some (.slice 54):=by kernel_rfl
theorem Bk:Am.sizeOf (VD gl m K) 22=some 1:=by kernel_rfl
theorem Bn:Am.isAgg (VD gl m K) 22=some false:=by kernel_rfl
theorem BA:Cf (VD gl m K) 24 0=some (0,1,false):=by kernel_rfl
theorem BF:Cf (VD gl m K) 24 1=some (1,1,false):=by kernel_rfl
theorem Ma:Am.sizeOf (VD gl m K) 24=some 2:=by kernel_rfl
theorem MU:Am.isAgg (VD gl m K) 24=some true:=by kernel_rfl
theorem FR:C7 (VD gl m K) 25=some (.slice 58):=by kernel_rfl
theorem Dd:Am.sizeOf (VD gl m K) 25=some 1:=by kernel_rfl
theorem Dg:Am.isAgg (VD gl m K) 25=some false:=by kernel_rfl
theorem Ea:C7 (VD gl m K) 26=some (.slice 3):=by kernel_rfl
theorem B9:Am.sizeOf (VD gl m K) 26=some 1:=by kernel_rfl
theorem BJ:Am.isAgg (VD gl m K) 26=some false:=by kernel_rfl
theorem BI:Cf (VD gl m K) 28 0=some (0,2,true):=by kernel_rfl
theorem Bf:Cf (VD gl m K) 28 1=some (2,1,false):=by kernel_rfl
theorem EA:Cf (VD gl m K) 28 2=some (3,1,false):=by kernel_rfl
theorem D5:Am.sizeOf (VD gl m K) 28=some 4:=by kernel_rfl
theorem Em:Am.isAgg (VD gl m K) 28=some true:=by kernel_rfl
theorem pF:Am.zeroOf (VD gl m K) 28=some (.agg [.Ca,.Ca,.Ca,.Ca]):=by kernel_rfl
theorem sX:Am.Ct (VD gl m K) 28=some ([.Ca,.Ca,.Ca,.Ca],nth [(0,2),(2,1),(3,1)]):=by kernel_rfl
theorem RA:C7 (VD gl m K) 31=some (.int .i64):=by kernel_rfl
theorem Hx:C7 (VD gl m K) 37=some (.int .i64):=by kernel_rfl
theorem Jh:Am.sizeOf (VD gl m K) 37=some 1:=by kernel_rfl
theorem KJ:Am.isAgg (VD gl m K) 37=some false:=by kernel_rfl
theorem DO:C7 (VD gl m K) 52=some (.slice 5):=by kernel_rfl
theorem HG:Am.sizeOf (VD gl m K) 52=some 1:=by kernel_rfl
theorem KI:Am.isAgg (VD gl m K) 52=some false:=by kernel_rfl
theorem OW:Yg (VD gl m K) 54=true:=by kernel_rfl
theorem Fb:Cf (VD gl m K) 54 0=some (0,1,false):=by kernel_rfl
theorem Fw:Cf (VD gl m K) 54 1=some (1,1,false):=by kernel_rfl
theorem BB:Am.sizeOf (VD gl m K) 54=some 2:=by kernel_rfl
theorem Jj:Am.isAgg (VD gl m K) 54=some true:=by kernel_rfl
theorem lu:Am.zeroOf (VD gl m K) 54=some (.agg [.str [],.int .i64 0]):=by kernel_rfl
theorem oJ:bytesOf (VD gl m K) 54=some 24:=by kernel_rfl
theorem Pv:Y9 (VD gl m K) 54=some (.flat [.string,.int .i64]):=by kernel_rfl
theorem N6:Am.Ct (VD gl m K) 54=some ([.str [],.int .i64 0],nth [(0,1),(1,1)]):=by kernel_rfl
theorem Gp:C7 (VD gl m K) 55=some (.int .i64):=by kernel_rfl
theorem E6:Am.sizeOf (VD gl m K) 55=some 1:=by kernel_rfl
theorem E8:Am.isAgg (VD gl m K) 55=some false:=by kernel_rfl
theorem Hm:C7 (VD gl m K) 56=some (.slice 60):=by kernel_rfl
theorem Ee:Am.sizeOf (VD gl m K) 56=some 1:=by kernel_rfl
theorem E7:Am.isAgg (VD gl m K) 56=some false:=by kernel_rfl
theorem Df:Cf (VD gl m K) 58 0=some (0,1,false):=by kernel_rfl
theorem E1:Cf (VD gl m K) 58 1=some (1,1,false):=by kernel_rfl
theorem Dm:Cf (VD gl m K) 58 2=some (2,1,false):=by kernel_rfl
theorem E9:Cf (VD gl m K) 58 3=some (3,1,false):=by kernel_rfl
theorem Hs:Cf (VD gl m K) 58 4=some (4,1,false):=by kernel_rfl
theorem De:Cf (VD gl m K) 58 5=some (5,1,false):=by kernel_rfl
theorem FG:Cf (VD gl m K) 58 6=some (6,1,false):=by kernel_rfl
theorem BV:Am.sizeOf (VD gl m K) 58=some 7:=by kernel_rfl
theorem Gr:Am.isAgg (VD gl m K) 58=some true:=by kernel_rfl
theorem mI:Am.zeroOf (VD gl m K) 58=some (.agg [.int .i64 0,.int .i64 0,.Ca,.Ca,.int .i64 0,.int .i64 0,.Ca]):=by kernel_rfl
theorem sY:bytesOf (VD gl m K) 58=some 104:=by kernel_rfl
theorem sZ:Am.Ct (VD gl m K) 58=some ([.int .i64 0,.int .i64 0,.Ca,.Ca,.int .i64 0,.int .i64 0,.Ca],nth [(0,1),(1,1),(2,1),(3,1),(4,1),(5,1),(6,1)]):=by kernel_rfl
theorem ta:Yg (VD gl m K) 60=true:=by kernel_rfl
theorem Hr:Cf (VD gl m K) 60 0=some (0,1,false):=by kernel_rfl
theorem Je:Cf (VD gl m K) 60 1=some (1,1,false):=by kernel_rfl
theorem Fo:Am.sizeOf (VD gl m K) 60=some 2:=by kernel_rfl
theorem SC:Am.isAgg (VD gl m K) 60=some true:=by kernel_rfl
theorem pG:Am.zeroOf (VD gl m K) 60=some (.agg [.int .i64 0,.int .i64 0]):=by kernel_rfl
theorem tb:bytesOf (VD gl m K) 60=some 16:=by kernel_rfl
theorem tc:Y9 (VD gl m K) 60=some (.flat [.int .i64,.int .i64]):=by kernel_rfl
theorem td:Am.Ct (VD gl m K) 60=some ([.int .i64 0,.int .i64 0],nth [(0,1),(1,1)]):=by kernel_rfl
theorem OP:C7 (VD gl m K) 100=some (.pointer 102):=by kernel_rfl
theorem Lp:Am.sizeOf (VD gl m K) 100=some 1:=by kernel_rfl
theorem O6:Am.isAgg (VD gl m K) 100=some false:=by kernel_rfl
theorem IE:Cf (VD gl m K) 102 0=some (0,1,false):=by kernel_rfl
theorem DW:Cf (VD gl m K) 102 1=some (1,1,false):=by kernel_rfl
theorem J6:Am.sizeOf (VD gl m K) 102=some 2:=by kernel_rfl
theorem tf:Am.zeroOf (VD gl m K) 102=some (.agg [.CJ,.Ca]):=by kernel_rfl
theorem Kt:Cf (VD gl m K) 104 0=some (0,2,true):=by kernel_rfl
theorem oK:Am.zeroOf (VD gl m K) 104=some (.agg [.CJ,.Ca]):=by kernel_rfl
theorem B2:C7 (VD gl m K) 106=some (.slice 9):=by kernel_rfl
theorem EM:Am.sizeOf (VD gl m K) 106=some 1:=by kernel_rfl
theorem FM:Am.isAgg (VD gl m K) 106=some false:=by kernel_rfl
theorem KV:C7 (VD gl m K) 108=some (.array 7 9):=by kernel_rfl
theorem Ih:CC (VD gl m K) 111=some true:=by kernel_rfl
theorem MF:Cf (VD gl m K) 114 0=some (0,1,false):=by kernel_rfl
theorem Ks:Cf (VD gl m K) 114 1=some (1,1,false):=by kernel_rfl
theorem Q1:Am.sizeOf (VD gl m K) 114=some 2:=by kernel_rfl
theorem Hk:Am.zeroOf (VD gl m K) 114=some (.agg [.int .i64 0,.Ca]):=by kernel_rfl
theorem EY:CC (VD gl m K) 114=some false:=by kernel_rfl
theorem TL:Am.Ct (VD gl m K) 114=some ([.int .i64 0,.Ca],nth [(0,1),(1,1)]):=by kernel_rfl
theorem Kr:Cf (VD gl m K) 117 0=some (0,1,false):=by kernel_rfl
theorem Q0:Am.sizeOf (VD gl m K) 117=some 1:=by kernel_rfl
theorem HC:Am.zeroOf (VD gl m K) 117=some (.agg [.Ca]):=by kernel_rfl
theorem FE:CC (VD gl m K) 117=some false:=by kernel_rfl
theorem TK:Am.Ct (VD gl m K) 117=some ([.Ca],nth [(0,1)]):=by kernel_rfl
theorem ME:Cf (VD gl m K) 119 0=some (0,1,false):=by kernel_rfl
theorem Da:Cf (VD gl m K) 119 1=some (1,1,false):=by kernel_rfl
theorem Kq:Cf (VD gl m K) 119 2=some (2,1,false):=by kernel_rfl
theorem Nf:Am.sizeOf (VD gl m K) 119=some 3:=by kernel_rfl
theorem Vx:Am.isAgg (VD gl m K) 119=some true:=by kernel_rfl
theorem Jg:Am.zeroOf (VD gl m K) 119=some (.agg [.int .i64 0,.int .i64 0,.Ca]):=by kernel_rfl
theorem G8:CC (VD gl m K) 119=some false:=by kernel_rfl
theorem TJ:Am.Ct (VD gl m K) 119=some ([.int .i64 0,.int .i64 0,.Ca],nth [(0,1),(1,1),(2,1)]):=by kernel_rfl
theorem MD:Cf (VD gl m K) 121 0=some (0,1,false):=by kernel_rfl
theorem Tc:Am.sizeOf (VD gl m K) 121=some 1:=by kernel_rfl
theorem Rx:Am.zeroOf (VD gl m K) 121=some (.agg [.int .i64 0]):=by kernel_rfl
theorem LC:CC (VD gl m K) 121=some false:=by kernel_rfl
theorem TI:Am.Ct (VD gl m K) 121=some ([.int .i64 0],nth [(0,1)]):=by kernel_rfl
theorem Gw:Am.sizeOf (VD gl m K) 146=some 1:=by kernel_rfl
theorem O5:Am.isAgg (VD gl m K) 146=some false:=by kernel_rfl
theorem Na:Am.zeroOf (VD gl m K) 146=some .Cu:=by kernel_rfl
theorem SU:C7 (VD gl m K) 155=some (.map 9 4):=by kernel_rfl
theorem Nd:Am.sizeOf (VD gl m K) 155=some 1:=by kernel_rfl
theorem Rq:Am.isAgg (VD gl m K) 155=some false:=by kernel_rfl
theorem tg:Am.zeroOf (VD gl m K) 155=some .VU:=by kernel_rfl
theorem U6:CC (VD gl m K) 166=some false:=by kernel_rfl
theorem TH:Am.Ct (VD gl m K) 166=some ([],nth []):=by kernel_rfl
theorem U5:CC (VD gl m K) 167=some false:=by kernel_rfl
theorem TG:Am.Ct (VD gl m K) 167=some ([],nth []):=by kernel_rfl
theorem Tb:Am.sizeOf (VD gl m K) 181=some 0:=by kernel_rfl
theorem oL:Am.zeroOf (VD gl m K) 181=some (.agg []):=by kernel_rfl
theorem QS:CC (VD gl m K) 181=some false:=by kernel_rfl
theorem TF:Am.Ct (VD gl m K) 181=some ([],nth []):=by kernel_rfl
theorem Fc:Cf (VD gl m K) 184 0=some (0,4,true):=by kernel_rfl
theorem DE:Cf (VD gl m K) 184 1=some (4,1,false):=by kernel_rfl
theorem TE:Am.Ct (VD gl m K) 184=some ([.Ca,.Ca,.Ca,.Ca,.Ca],nth [(0,4),(4,1)]):=by kernel_rfl
theorem IR:Am.sizeOf (VD gl m K) 185=some 1:=by kernel_rfl
theorem O4:Am.isAgg (VD gl m K) 185=some false:=by kernel_rfl
theorem SS:C7 (VD gl m K) 222=some (.array 3 185):=by kernel_rfl
theorem Ta:Am.sizeOf (VD gl m K) 222=some 3:=by kernel_rfl
theorem th:Am.zeroOf (VD gl m K) 222=some (.agg [.Cu,.Cu,.Cu]):=by kernel_rfl
theorem TD:Am.Ct (VD gl m K) 222=some ([.Cu,.Cu,.Cu],fun i=>some (i*1,1)):=by kernel_rfl
theorem AX:C7 (VD gl m K) 250=some (.int .u32):=by kernel_rfl
theorem Fm:C7 (VD gl m K) 253=some (.int .u64):=by kernel_rfl
theorem Qz:Am.sizeOf (VD gl m K) 253=some 1:=by kernel_rfl
theorem Vw:Am.isAgg (VD gl m K) 253=some false:=by kernel_rfl
theorem oM:C7 (VD gl m K) 257=some .unsafePointer:=by kernel_rfl
theorem Eb:C7 (VD gl m K) 259=some (.array 24 5):=by kernel_rfl
theorem ti:Am.zeroOf (VD gl m K) 259=some (.agg [.int .u8 0,.int .u8 0,.int .u8 0,.int .u8 0,.int .u8 0,.int .u8 0,.int .u8 0,.int .u8 0,.int .u8 0,.int .u8 0,.int .u8 0,.int .u8 0,.int .u8 0,.int .u8 0,.int .u8 0,.int .u8 0,.int .u8 0,.int .u8 0,.int .u8 0,.int .u8 0,.int .u8 0,.int .u8 0,.int .u8 0,.int .u8 0]):=by kernel_rfl
theorem tj:C7 (VD gl m K) 305=some (.array 20 253):=by kernel_rfl
theorem EW:methodOf (VD gl m K) 114 "swingle/code.registers" =some (341,.mk none none):=by kernel_rfl
theorem EV:methodOf (VD gl m K) 117 "swingle/code.registers" =some (342,.mk none none):=by kernel_rfl
theorem EU:methodOf (VD gl m K) 119 "swingle/code.registers" =some (343,.mk none none):=by kernel_rfl
theorem ET:methodOf (VD gl m K) 121 "swingle/code.registers" =some (344,.mk none none):=by kernel_rfl
theorem ES:methodOf (VD gl m K) 166 "swingle/code.registers" =some (345,.mk none none):=by kernel_rfl
theorem ER:methodOf (VD gl m K) 167 "swingle/code.registers" =some (346,.mk none none):=by kernel_rfl
end
noncomputable def kc:List AV:=[.int .u64 1,.int .u64 10,.int .u64 100,.int .u64 1000,.int .u64 10000,.int .u64 100000,.int .u64 1000000,.int .u64 10000000,.int .u64 100000000,.int .u64 1000000000,.int .u64 10000000000,.int .u64 100000000000,.int .u64 1000000000000,.int .u64 10000000000000,.int .u64 100000000000000,.int .u64 1000000000000000,.int .u64 10000000000000000,.int .u64 100000000000000000,.int .u64 1000000000000000000,.int .u64 10000000000000000000]
noncomputable def eB:dG:=fun g=>bif Nat.beq g 0 then some kc else none
def cW (n:Nat):Nat:=if n=0 then 0 else Nat.log2 n+1
def pK:List UInt8:=(List.range 256).map fun n=>UInt8.ofNat (cW n)
theorem FZ {n:Nat} (h:n<256):cW n≤8:=by
 unfold cW;split
 ·omega
 ·next h0=>
  have:=(Nat.log2_lt h0 (k:=8)).2 h;omega
theorem xK {K:FuncId→List AV→Option AV} {l:Sl} {o:Oper} {x i:Operand} {k:IntKind} {n:Nat} (ho:o.op= .index 9 x i) (hx:Ce x l=some (.str pK)) (hi:Ce i l=some (.int k (n:Nat))) (hn:n<256):Wj (EG eB K) o l (.int .u8 ((cW n:Nat):Int)):=by
 have h1:n<pK.length:=by unfold pK;rw[Qn,List.length_range];exact hn
 have h2:pK[n]?=some (UInt8.ofNat (cW n)):=by unfold pK;rw[List.getElem?_map,List.getElem?_range hn];rfl
 have:=AU (E:=EG eB K) ho Wl hx hi h1;have e:(pK.getD n 0).toNat=cW n:=by
  rw[List.getD_eq_getElem?_getD,h2];show(UInt8.ofNat (cW n)).toNat=_;have:=FZ hn;exact UInt8.toNat_ofNat_of_lt (show cW n<256 by omega)
 rwa[e]at this
def ZW (m:Nat):Nat:=if 65536≤m then(if 256≤m/2^16 then 24+cW (m/2^16/2^8)else 16+cW (m/2^16))else if 256≤m then 8+cW (m/2^8)else cW m
theorem tW (m:Nat) (hm:m<4294967296):Cb (EG eB K15) 205 [.int .u64 (m:Nat)] S0 (.int .i64 (ZW m:Nat)):=by
 refine Aq (fn:=Tryz.f205) U U (by kernel_rfl) U U U U ?_;focus
  refine Es<|qa rfl<|Ld<|Aa<|Es<|qm rfl<|Lq (o2 Fm U U) rfl<|Ld ?_;refine Ec U (fun g1=>?_) (fun g1=>?_);have h1:=dT g1;exact absurd h1 (by omega);have h1:=dF g1;refine Ac<|Aa<|Es<|qm rfl<|Lq (o2 Fm U U) rfl<|Ld ?_;refine Ec U (fun g2=>?_) (fun g2=>?_);have h2:=dT g2;refine Es<|qm rfl<|Lq (Jx (b:=16) U Fm U U (by decide)) rfl<|qa rfl<|Ld<|Ai<|qm U ?_;refine Lq (Ap (a:=0) (b:=16) U Ck U U (by omega)) U ?_;refine qa rfl<|Ld<|Aa<|Es<|qm rfl<|Lq (o2 Fm U U) rfl<|Ld ?_;refine Ec U (fun g3=>?_) (fun g3=>?_);have h3:=dT g3;refine Es<|qm rfl<|Lq (Jx (b:=8) U Fm U U (by decide)) rfl<|qa rfl<|Ld<|Ai<|qm U ?_;refine Lq (Ap (a:=16) (b:=8) U Ck U U (by omega)) U ?_;refine qa rfl<|Ld<|Es ?_;iterate 2 refine qm U ?_
  refine Lq (DZ U Fm dU U (by omega)) U ?_;rotate_left;have h3:=dF g3;refine Ac<|Es ?_;iterate 2 refine qm U ?_
  refine Lq (DZ U Fm dU U (by omega)) U ?_;rotate_left;have h2:=dF g2;refine Ac<|Aa<|Es<|qm rfl<|Lq (o2 Fm U U) rfl<|Ld ?_;refine Ec U (fun g4=>?_) (fun g4=>?_);have h4:=dT g4;refine Es<|qm rfl<|Lq (Jx (b:=8) U Fm U U (by decide)) rfl<|qa rfl<|Ld<|Ai<|qm U ?_;refine Lq (Ap (a:=0) (b:=8) U Ck U U (by omega)) U ?_;refine qa rfl<|Ld<|Es ?_;iterate 2 refine qm U ?_
  refine Lq (DZ U Fm dU U (by omega)) U ?_;rotate_left;have h4:=dF g4;refine Ac<|Es ?_;iterate 2 refine qm U ?_
  refine Lq (DZ U Fm dU U (by omega)) U ?_;rotate_left
 ·have hb:=FZ (n:=m/2^16/2^8) (by omega);refine Lq (xK U (by kernel_rfl) U (by omega)) rfl<|Lq (GJ U dU Ck U ⟨by omega,by omega⟩) U ?_;refine Lq (Ap (a:=24) U Ck U U (by omega)) U ?_;refine qa rfl<|Ld ?_;refine Ab (Er U ?_);unfold ZW;rw[if_pos (by omega),if_pos (by omega)];try rfl
 ·have hb:=FZ (n:=m/2^16) (by omega);refine Lq (xK U (by kernel_rfl) U (by omega)) rfl<|Lq (GJ U dU Ck U ⟨by omega,by omega⟩) U ?_;refine Lq (Ap (a:=16) U Ck U U (by omega)) U ?_;refine qa rfl<|Ld ?_;refine Ab (Er U ?_);unfold ZW;rw[if_pos (by omega),if_neg (by omega)];try rfl
 ·have hb:=FZ (n:=m/2^8) (by omega);refine Lq (xK U (by kernel_rfl) U (by omega)) rfl<|Lq (GJ U dU Ck U ⟨by omega,by omega⟩) U ?_;refine Lq (Ap (a:=8) U Ck U U (by omega)) U ?_;refine qa rfl<|Ld ?_;refine Ab (Er U ?_);unfold ZW;rw[if_neg (by omega),if_pos (by omega)];try rfl
 ·have hb:=FZ (n:=m) (by omega);refine Lq (xK U (by kernel_rfl) U (by omega)) rfl<|Lq (GJ U dU Ck U ⟨by omega,by omega⟩) U ?_;refine Lq (Ap (a:=0) U Ck U U (by omega)) U ?_;refine qa rfl<|Ld ?_;refine Ab (Er U ?_);unfold ZW;rw[if_neg (by omega),if_neg (by omega)];show AV.int .i64 ((0+cW m:Nat):Int)=_;rw[Nat.zero_add]
abbrev nO:= {m:Nat//m<4294967296}
noncomputable def KL1:=Wa K15 205 (fun p:nO=>[.int .u64 (p.1:Nat)]) (fun p=> .int .i64 (ZW p.1:Nat))
theorem SV {k:IntKind} {p q:nO} (h:([.int k (p.1:Nat)]:List AV)=[.int k (q.1:Nat)]):p=q:=by
 have:=(AV.int.inj (List.cons.inj h).1).2;exact Subtype.ext (by omega)
theorem xL {m:Nat} (h:m<4294967296):KL1 205 [.int .u64 (m:Nat)]=some (.int .i64 (ZW m:Nat)):=
 A3 (f:=205) (enc:=fun p:nO=>[.int .u64 (p.1:Nat)]) (res:=fun p=> .int .i64 (ZW p.1:Nat)) (fun p q h=>by rw[SV h]) ⟨m,h⟩
theorem Bm:∀g cs,eB g=some cs→cs.all (Cr 40)=true:=fun g cs h=>by
 unfold eB at h;cases hb:Nat.beq g 0 with
 |false=>rw[hb]at h;cases h
 |true=>rw[hb]at h;cases h;rfl
theorem gall1 (h:VG Tryz.prog 10 [] (.bool true)):C9 Tryz.prog eB KL1:=
 BG AC Bm (zk h).g (fun p:nO=>tW p.1 p.2) (fun _=>rfl) (fun _=>rfl)
theorem xM {m:Nat} (h:m<4294967296):ZW m≤32:=by
 unfold ZW;split
 ·split
  ·have:=FZ (n:=m/2^16/2^8) (by omega);omega
  ·have:=FZ (n:=m/2^16) (by omega);omega
 ·split
  ·have:=FZ (n:=m/2^8) (by omega);omega
  ·have:=FZ (n:=m) (by omega);omega
theorem idx10 {K:FuncId→List AV→Option AV} {l:Sl} {o:Oper} {i:Operand} {t:Nat} (ho:o.op= .indexAddr 305 (.global 0) i) (hi:Ce i l=some (.int .i64 (t:Nat))) (ht:t<20):Wj (EG eB K) o l (.WO (.int .u64 ((10^t:Nat):Int)::kc.drop (t+1))):=by
 have:=Lj (E:=EG eB K) ho tj Qz rfl hi ht (by show t*(0+1)≤20;omega);have e:kc.drop (t*(0+1))= .int .u64 ((10^t:Nat):Int)::kc.drop (t+1):=by
  rw[Nat.zero_add,Nat.mul_one];clear this hi
  match t with
  |0|1|2|3|4|5|6|7|8|9|10|11|12|13|14|15|16|17|18|19=>rfl
  |t+20=>omega
 rwa[e]at this
def VQ (m:Nat):Nat:=if 10^(ZW m*78913/2^18)≤m then ZW m*78913/2^18+1 else ZW m*78913/2^18
theorem num_to (m:Nat) (hm:m<4294967296):Cb (EG eB KL1) 165 [.int .u64 (m:Nat)] S0 (.int .i64 (VQ m:Nat)):=by
 refine Aq (fn:=Tryz.f165) U U (by kernel_rfl) U U U U ?_;have hl:=xM hm;refine Es<|qa rfl<|Ld<|Es<|qm U ?_;refine Lo (Ad U U (by kernel_rfl) U (Cb.Cs (xL (by omega)))) U ?_;refine B8 (fn:=Tryz.f204) (by kernel_rfl) (by kernel_rfl) U U U U U U U U U U rfl<|Es<|qa rfl<|Ld<|Es<|qm U ?_;refine Lq (Jy (b:=78913) U Ck U U (by omega)) U ?_;refine Lq (Jx (b:=18) U Ck U U (by decide)) rfl<|qa rfl<|Ld ?_;refine Ab (Dv (Yc.same U (An U U) U U U U ?_));refine qa rfl<|Ld<|Es ?_;iterate 3 refine qm U ?_
 refine Lq (idx10 U U (by omega)) U ?_;focus
  refine Lq (Av U U Vw Qz) rfl<|Lq (o2 Fm U U) rfl<|B8 (fn:=Tryz.f206) (by kernel_rfl) (by kernel_rfl) U U U U U U U U U U rfl<|Es<|qa rfl<|Ld<|Aa<|Es<|qm rfl<|Ld ?_;refine Ec U (fun g1=>?_) (fun g1=>?_);have h1:=dT g1;refine Es<|qa rfl<|Ld ?_;refine Ab (Dv (Yc.same U (An U U) U U U U ?_));refine Lq (Ap (b:=1) U Ck U U (by omega)) U ?_;refine qa rfl<|Ld ?_;refine Ab (Er U ?_);rotate_left;have h1:=dF g1;refine Ac<|Es<|qa rfl<|Ld ?_;refine Ab (Dv (Yc.same U (An U U) U U U U ?_));refine Lq (Ap (b:=0) U Ck U U (by omega)) U ?_;refine qa rfl<|Ld ?_;refine Ab (Er U ?_);rotate_left
 ·unfold VQ;rw[if_pos (Int.ofNat_le.1 h1)];try rfl
 ·unfold VQ;rw[if_neg (fun h=>h1 (Int.ofNat_le.2 h))];try rfl
theorem Jm {n:Nat} (h0:0<n):0<cW n∧2^(cW n-1)≤n∧n<2^cW n:=by
 unfold cW;rw[if_neg (by omega)];exact⟨Nat.succ_pos _,Nat.log2_self_le (by omega),Nat.lt_log2_self⟩
theorem JB {m k b:Nat} (hb:0<b) (h1:2^(b-1)≤m/2^k) (h2:m/2^k<2^b):2^(k+b-1)≤m∧m<2^(k+b):=by
 rw[Nat.le_div_iff_mul_le (Nat.pow_pos (by decide)),←Nat.pow_add]at h1;rw[Nat.div_lt_iff_lt_mul (Nat.pow_pos (by decide)),←Nat.pow_add]at h2;rw[show k+b-1=b-1+k from by omega,Nat.add_comm k b];exact⟨h1,h2⟩
theorem tX {m:Nat} (h0:0<m):2^(ZW m-1)≤m∧m<2^ZW m:=by
 unfold ZW;split
 ·split
  ·obtain⟨h3,h4,h5⟩:=Jm (n:=m/2^16/2^8) (by omega);rw[Nat.div_div_eq_div_mul,←Nat.pow_add]at h3 h4 h5⊢;exact JB h3 h4 h5
  ·obtain⟨h3,h4,h5⟩:=Jm (n:=m/2^16) (by omega);exact JB h3 h4 h5
 ·split
  ·obtain⟨h3,h4,h5⟩:=Jm (n:=m/2^8) (by omega);exact JB h3 h4 h5
  ·exact(Jm h0).2
theorem JR {m:Nat} (h0:1≤m) (h1:m<10000000):1≤VQ m∧VQ m≤7∧10^(VQ m-1)≤m∧m<10^VQ m:=by
 obtain⟨h2,h3⟩:=tX (m:=m) (by omega);have h4:ZW m<25:=by
  rcases Nat.lt_or_ge (ZW m) 25 with h|h
  ·exact h
  ·have:=Nat.pow_le_pow_right (n:=2) (by decide) (show 24≤ZW m-1 by omega);omega
 have h5:1≤ZW m:=by
  rcases Nat.lt_or_ge (ZW m) 1 with h|h
  ·have:=Nat.pow_le_pow_right (n:=2) (by decide) (show ZW m≤0 by omega);omega
  ·exact h
 unfold VQ;generalize ZW m=L at*;have:L=1∨L=2∨L=3∨L=4∨L=5∨L=6∨L=7∨L=8∨L=9∨L=10∨L=11∨L=12∨L=13∨L=14∨L=15∨L=16∨L=17∨L=18∨L=19∨L=20∨L=21∨L=22∨L=23∨L=24:=by omega
 rcases this with rfl|rfl|rfl|rfl|rfl|rfl|rfl|rfl|rfl|rfl|rfl|rfl|rfl|rfl|rfl|rfl|rfl|rfl|rfl|rfl|rfl|rfl|rfl|rfl<;>
  (simp only[Nat.reduceMul,Nat.reducePow,Nat.reduceDiv,Nat.reduceAdd,Nat.reduceSub]at*;split<;>simp only[Nat.reduceAdd,Nat.reduceSub,Nat.reducePow]<;>omega)
noncomputable abbrev EK (K:FuncId→List AV→Option AV):Env:=VD eB 562949953421312 K
def Zq (n:Nat):List UInt8:=if n<10 then [UInt8.ofNat (48+n)]else [UInt8.ofNat (48+n/10),UInt8.ofNat (48+n % 10)]
theorem Tk:((List.range 100).all fun n=>X1 (Y3 Tryz.prog 1200 1200 0 []) 100 ⟨164,[.int .i64 (n:Nat)],.str (Zq n)⟩)=true:=by kernel_rfl
theorem OY {n:Nat} (h:n<100):VG Tryz.prog 164 [.int .i64 (n:Nat)] (.str (Zq n)):=by
 have h1:=List.all_eq_true.1 Tk n (List.mem_range.2 h);have h2:=Dl AC (m:=[]) (fun e he=>by cases he) h1;exact fun C S w xs c cs hv hS=>h2 [] C S w xs c cs (fun g cs hg=>by cases hg) hv hS
noncomputable def KL2:=Wa KL1 165 (fun p:nO=>[.int .u64 (p.1:Nat)]) (fun p=> .int .i64 (VQ p.1:Nat))
theorem xN {m:Nat} (h:m<4294967296):KL2 165 [.int .u64 (m:Nat)]=some (.int .i64 (VQ m:Nat)):=
 A3 (f:=165) (enc:=fun p:nO=>[.int .u64 (p.1:Nat)]) (res:=fun p=> .int .i64 (VQ p.1:Nat)) (fun p q h=>by rw[SV h]) ⟨m,h⟩
theorem gall2 (h:VG Tryz.prog 10 [] (.bool true)):C9 Tryz.prog eB KL2:=
 BG AC Bm (gall1 h) (fun p:nO=>num_to p.1 p.2) (fun _=>rfl) (fun _=>rfl)
abbrev tY:= {m:Nat//m<100}
noncomputable def KL3:=Wa KL2 164 (fun p:tY=>[.int .i64 (p.1:Nat)]) (fun p=> .str (Zq p.1))
theorem tZ {k:IntKind} {p q:tY} (h:([.int k (p.1:Nat)]:List AV)=[.int k (q.1:Nat)]):p=q:=by
 have:=(AV.int.inj (List.cons.inj h).1).2;exact Subtype.ext (by omega)
theorem xO {m:Nat} (h:m<100):KL3 164 [.int .i64 (m:Nat)]=some (.str (Zq m)):=
 A3 (f:=164) (enc:=fun p:tY=>[.int .i64 (p.1:Nat)]) (res:=fun p=> .str (Zq p.1)) (fun p q h=>by rw[tZ h]) ⟨m,h⟩
theorem gall3 (h:VG Tryz.prog 10 [] (.bool true)):C9 Tryz.prog eB KL3:=
 Bo (gall2 h) fun p=>(OY p.2).g
def Zd (m:Nat):Nat→List UInt8
 |0=>[]
 |d+1=>Zd (m/10) d++[UInt8.ofNat (48+m % 10)]
def Cp (n:Int):List UInt8:=if 0≤n∧n<100 then Zq n.toNat else if n<0 then 45::Zd n.natAbs (VQ n.natAbs)else Zd n.natAbs (VQ n.natAbs)
theorem xP {n:Int} (h:n<0) (h2: -10000000<n):Y4 .u64 (0-IntKind.u64.wrap n)= .int .u64 ((n.natAbs:Nat):Int):=by
 have e:IntKind.u64.wrap n=n+18446744073709551616:=by simp[IntKind.wrap,IntKind.bits,IntKind.signed];omega
 unfold Y4;rw[e];have:IntKind.u64.wrap (0-(n+18446744073709551616))= -n:=by simp[IntKind.wrap,IntKind.bits,IntKind.signed];omega
 rw[this,show((n.natAbs:Nat):Int)= -n from by omega]
def iZ (n:Nat):Nat:=if n % 2=0 then 48+n/20 else 48+n/2 % 10
def pL:List UInt8:=(List.range 200).map fun n=>UInt8.ofNat (iZ n)
theorem Jt {K:FuncId→List AV→Option AV} {l:Sl} {o:Oper} {x i:Operand} {k:IntKind} {n:Nat} (ho:o.op= .index 9 x i) (hx:Ce x l=some (.str pL)) (hi:Ce i l=some (.int k (n:Nat))) (hn:n<200):Wj (EK K) o l (.int .u8 ((iZ n:Nat):Int)):=by
 have h1:n<pL.length:=by unfold pL;rw[Qn,List.length_range];exact hn
 have h2:pL[n]?=some (UInt8.ofNat (iZ n)):=by unfold pL;rw[List.getElem?_map,List.getElem?_range hn];rfl
 have:=AU (E:=EK K) ho Wl hx hi h1;have e:(pL.getD n 0).toNat=iZ n:=by
  rw[List.getD_eq_getElem?_getD,h2];show(UInt8.ofNat (iZ n)).toNat=_;exact UInt8.toNat_ofNat_of_lt (show iZ n<256 by unfold iZ;split<;>omega)
 rwa[e]at this
theorem Gh {α:Type} {a b:α} {l m:List α} (h1:a=b) (h2:l=m):a::l=b::m:=by rw[h1,h2]
theorem SP (r:Nat):iZ (r*2)=48+r/10:=by
 unfold iZ;rw[if_pos (by omega)];omega
theorem SO (r:Nat):iZ (r*2+1)=48+r % 10:=by
 unfold iZ;rw[if_neg (by omega)];omega
theorem fmt_to (n:Int) (h0: -10000000<n∧n<10000000):Cb (EK KL3) 128 [.int .i64 n,.int .i64 10] S0 (.str (Cp n)):=by
 refine Aq (fn:=Tryz.f128) U U (by kernel_rfl) U U U U ?_;by_cases hs:0≤n∧n<100
 ·obtain⟨m,rfl⟩:∃m:Nat,n=m:=⟨n.toNat,by omega⟩
  have hm:m<100:=by omega
  focus
   refine Es<|qa rfl<|Ld<|Aa<|Es<|qm rfl<|Lq (o2 Ck U U) rfl<|Ld<|Ah U rfl<|Aa<|Es<|qm rfl<|Lq (o2 nI U U) rfl<|qm rfl<|Lh U U (om U)<|Lh U U (o2 nI U U) ?_;refine Lq (oT U U U) rfl<|Ld ?_;refine Ec U (fun g1=>?_) (fun g1=>?_);have h1:=dT g1;refine Es<|qm U ?_;refine Lo (Ad U U (by kernel_rfl) U (Cb.Cs (xO (by omega)))) U ?_;refine qa rfl<|Ld ?_;refine Ab (Er U ?_);rotate_left;have h1:=dF g1;exact absurd h1 (by omega)
  unfold Cp;rw[if_pos hs];rfl
 ·obtain⟨m,hm⟩:∃m:Nat,n.natAbs=m:=⟨_,rfl⟩
  have hv:Cp n=if n<0 then 45::Zd m (VQ m)else Zd m (VQ m):=by unfold Cp;rw[if_neg hs,hm]
  have h1:100≤m∨n<0:=by omega
  have iN:n<0→Y4 .u64 (0-IntKind.u64.wrap n)= .int .u64 ((m:Nat):Int):=fun h=>by rw[xP h h0.1,hm]
  refine Es<|qa rfl<|Ld<|Aa<|Es<|qm rfl<|Lq (o2 Ck U U) rfl<|Ld<|Ah U rfl<|Aa ?_;refine Ch.cut [(17,.bool false),(0,.int .i64 n)] (WZ 0 0 [] []) ?_ ?_
  ·focus
    refine Ai<|qm rfl<|Lq (o2 nI U U) rfl<|qm U ?_;refine Lb U (fun g1=>?_) (fun g1=>?_);have h1:=dT g1;refine Lh U ‹_› (om U)<|Lh U ‹_› (o2 nI U U)<|Lq (oT U ‹_› U) rfl<|Ld ?_;rotate_left;have h1:=dF g1;iterate 2 refine Lk U ‹_› ?_
    refine Lq (oF U ‹_› U) rfl<|Ld ?_;rotate_left
   ·refine⟨rfl,rfl,rfl,?_⟩;rw[show decide (n<100)=false from decide_eq_false (by omega)]
    (refine Am.Ao ?_;repeat (first|exact trivial|refine⟨rfl,?_⟩))
   ·refine⟨rfl,rfl,rfl,?_⟩
    (refine Am.Ao ?_;repeat (first|exact trivial|refine⟨rfl,?_⟩))
  refine Af U rfl<|Ac<|Es<|Lo (Bc 1 U ti U) rfl<|Ld<|Es<|qm rfl<|Lq (Gm U nI Fm U) rfl<|qa rfl<|Ld ?_;refine Ch.cut [(6,.int .u64 (m:Nat)),(5,.ptr 0 0),(0,.int .i64 n)] (WZ 1 0 [] [(0,some (.cells (List.replicate 24 (.int .u8 0)) 259 false))]) ?_ ?_
  ·focus
    refine Es<|qm rfl<|Lq (o2 nI U U) rfl<|Ld ?_;refine Ec U (fun g1=>?_) (fun g1=>?_);have h1:=dT g1;refine Ai<|qm U ?_;rotate_left;have h1:=dF g1;refine Ac ?_;rotate_left
   ·have hh:=iN h1;refine Lq (Wj.negE U U ‹_›) rfl<|qa rfl<|Ld ?_;refine⟨rfl,rfl,rfl,?_⟩
    (refine Am.Ao ?_;repeat (first|exact trivial|refine⟨rfl,?_⟩))
   ·refine⟨rfl,rfl,rfl,?_⟩;rw[show n=((m:Nat):Int)from by omega,SQ (k:= .u64) rfl (by omega) (by omega)]
    (refine Am.Ao ?_;repeat (first|exact trivial|refine⟨rfl,?_⟩))
  have hm7:m<10000000:=by omega
  obtain⟨lH,oB,hv3,hv4⟩:=JR (m:=m) (by omega) hm7;refine Es<|qm U ?_;refine Lo (Ad U U (by kernel_rfl) U (Cb.Cs (xN (by omega)))) U ?_;refine qa rfl<|Ld<|Es<|qm U ?_;refine Lq (Ap (a:=1) U Ck U U (by omega)) U ?_;generalize VQ m=d at*;have hd:d=1∨d=2∨d=3∨d=4∨d=5∨d=6∨d=7:=by omega
  rcases hd with rfl|rfl|rfl|rfl|rfl|rfl|rfl
  ·refine Lq (AW U Eb B3 U U U U) U ?_;refine qm rfl<|B8 (fn:=Tryz.f166) (by kernel_rfl) (by kernel_rfl) U U U U U U U U U U rfl<|Es<|qm rfl<|Lq (En U U U U DO U) rfl<|qa rfl<|Ld<|Aa<|Ch.block ?_;refine Aw (fun _:Unit=>([(4,.int .i64 (1:Nat)),(1,.int .u64 (m:Nat)),(0,.slice 0 1 1 1 (some 23))],WZ 1 1 [] [(0,some (.cells (List.replicate 24 (.int .u8 0)) 259 false))])) (fun _=>0) (fun _=>True) () trivial U (Ao (by repeat' constructor)) ?_;intro _ _;focus
    refine Aa<|Es<|qm rfl<|Lq (o2 Ck U U) rfl<|Ld<|Af U rfl<|A1<|AS rfl<|Es<|qm rfl<|Lq (Fj U Fm AX U U (by omega)) rfl<|qa rfl<|Ld<|Aa<|Es<|qm U ?_;refine Lq (o2 Ck U U) rfl<|Ld<|Af U rfl<|Ac<|Aa<|Es<|qm rfl<|Lq (o2 Ck U U) rfl<|Ld<|Af U rfl<|Ac<|Es<|qm rfl<|Lq (o2 Ck U U) rfl<|Ld<|Ah U U ?_;refine Ai ?_;iterate 2 refine qm U ?_
    refine Lq (BK (a:=48) U AX U U U (by omega)) rfl<|Lq (DZ U AX dU U (by omega)) U ?_;refine Lq (At (k:=0) U DO B3 U U (by omega)) U ?_;refine Ax (AK U B3 U U U U U U) U rfl<|Ld ?_;refine HB (Fl (Yc.val U U U U ?_));refine Ld<|Aa<|Es<|qm rfl<|Lq (o2 nI U U) rfl<|Ld ?_;refine Ec U (fun g1=>?_) (fun g1=>?_);have h1:=dT g1;refine Es<|Lq (Be (m:=0) U Eb B3 U U (by omega) U) rfl<|Ax (AK U B3 U U U U U U) U rfl<|Ld<|Es<|qm U ?_;refine Lq (Ap (a:=1) (b:=1) U Ck U U (by omega)) U ?_;refine Lq (AW U Eb B3 U U U U) rfl<|Lo (BP U DO Wl OM U U) rfl<|qa rfl<|Ld ?_;refine Ab (Er U ?_);rotate_left;have h1:=dF g1;exact absurd h1 (by omega)
   ·rw[hv,if_pos h1];show AV.str _=AV.str _;simp only[Zd,List.nil_append,List.cons_append,Int.toNat_natCast,SP,SO];refine congrArg AV.str<|Gh U ?_;repeat refine Gh (congrArg UInt8.ofNat (by omega)) ?_
    all_goals rfl
  ·refine Lq (AW U Eb B3 U U U U) U ?_;refine qm rfl<|B8 (fn:=Tryz.f166) (by kernel_rfl) (by kernel_rfl) U U U U U U U U U U rfl<|Es<|qm rfl<|Lq (En U U U U DO U) rfl<|qa rfl<|Ld<|Aa<|Ch.block ?_;refine Aw (fun _:Unit=>([(4,.int .i64 (2:Nat)),(1,.int .u64 (m:Nat)),(0,.slice 0 1 2 1 (some 23))],WZ 1 1 [] [(0,some (.cells (List.replicate 24 (.int .u8 0)) 259 false))])) (fun _=>0) (fun _=>True) () trivial U (Ao (by repeat' constructor)) ?_;intro _ _;focus
    refine Aa<|Es<|qm rfl<|Lq (o2 Ck U U) rfl<|Ld<|Af U rfl<|A1<|AS rfl<|Es<|qm rfl<|Lq (Fj U Fm AX U U (by omega)) rfl<|qa rfl<|Ld<|Aa<|Es<|qm U ?_;refine Lq (o2 Ck U U) rfl<|Ld<|Af U rfl<|Ac<|Aa<|Es<|qm rfl<|Lq (o2 Ck U U) rfl<|Ld<|Ah U rfl<|Es<|qm rfl<|Lq (D9 (b:=100) U AX U U (by omega)) rfl<|Lq (DB (b:=2) U AX U U U (by omega)) rfl<|qa rfl<|Ld ?_;refine Es<|qm rfl<|Lq (DA (b:=100) U AX U U U (by omega)) rfl<|qa rfl<|Ld<|As (by kernel_rfl) ?_;iterate 2 refine Nq (om U) U ?_
    refine Nq (A8 (a:=2) (b:=1) U Ck U U (by omega)) U ?_;iterate 2 refine Nq (om U) U ?_
    refine Nq (A8 (a:=2) (b:=2) U Ck U U (by omega)) rfl<|Nq (om U) rfl<|Nq (BK (b:=1) U AX U U U (by omega)) rfl<|Nq (Jt U (by kernel_rfl) U (by omega)) rfl<|Nq (om U) rfl<|Nq (Jt U (by kernel_rfl) U (by omega)) U ?_;refine Nq (At (k:=1) U DO B3 U U (by omega)) U ?_;refine AG U B3 U U U U U U U (by kernel_rfl) (by kernel_rfl) (.inl U) U U ?_;refine Nq (At (k:=0) U DO B3 U U (by omega)) U ?_;refine AG U B3 U U U U U U U (by kernel_rfl) (by kernel_rfl) (.inl U) U rfl<|Au<|Ai<|qm rfl<|Lq (A8 (a:=2) (b:=2) U Ck U U (by omega)) rfl<|qa rfl<|Ld<|Es<|qm rfl<|Lq (o2 Ck U U) rfl<|Ld<|Af U rfl<|Ac ?_;refine HB (Fl (Yc.val U U U U ?_));refine Ld<|Aa<|Es<|qm rfl<|Lq (o2 nI U U) rfl<|Ld ?_;refine Ec U (fun g1=>?_) (fun g1=>?_);have h1:=dT g1;refine Es<|Lq (Be (m:=0) U Eb B3 U U (by omega) U) rfl<|Ax (AK U B3 U U U U U U) U rfl<|Ld<|Es<|qm U ?_
    refine Lq (Ap (a:=1) (b:=2) U Ck U U (by omega)) U ?_;refine Lq (AW U Eb B3 U U U U) rfl<|Lo (BP U DO Wl OM U U) rfl<|qa rfl<|Ld ?_;refine Ab (Er U ?_);rotate_left;have h1:=dF g1;exact absurd h1 (by omega)
   ·rw[hv,if_pos h1];show AV.str _=AV.str _;simp only[Zd,List.nil_append,List.cons_append,Int.toNat_natCast,SP,SO];refine congrArg AV.str<|Gh U ?_;repeat refine Gh (congrArg UInt8.ofNat (by omega)) ?_
    all_goals rfl
  ·refine Lq (AW U Eb B3 U U U U) U ?_;refine qm rfl<|B8 (fn:=Tryz.f166) (by kernel_rfl) (by kernel_rfl) U U U U U U U U U U rfl<|Es<|qm rfl<|Lq (En U U U U DO U) rfl<|qa rfl<|Ld<|Aa<|Ch.block ?_;refine Aw (fun _:Unit=>([(4,.int .i64 (3:Nat)),(1,.int .u64 (m:Nat)),(0,.slice 0 1 3 1 (some 23))],WZ 1 1 [] [(0,some (.cells (List.replicate 24 (.int .u8 0)) 259 false))])) (fun _=>0) (fun _=>True) () trivial U (Ao (by repeat' constructor)) ?_;intro _ _;focus
    refine Aa<|Es<|qm rfl<|Lq (o2 Ck U U) rfl<|Ld<|Af U rfl<|A1<|AS rfl<|Es<|qm rfl<|Lq (Fj U Fm AX U U (by omega)) rfl<|qa rfl<|Ld<|Aa<|Es<|qm U ?_;refine Lq (o2 Ck U U) rfl<|Ld<|Af U rfl<|Ac<|Aa<|Es<|qm rfl<|Lq (o2 Ck U U) rfl<|Ld<|Ah U rfl<|Es<|qm rfl<|Lq (D9 (b:=100) U AX U U (by omega)) rfl<|Lq (DB (b:=2) U AX U U U (by omega)) rfl<|qa rfl<|Ld ?_;refine Es<|qm rfl<|Lq (DA (b:=100) U AX U U U (by omega)) rfl<|qa rfl<|Ld<|As (by kernel_rfl) ?_;iterate 2 refine Nq (om U) U ?_
    refine Nq (A8 (a:=3) (b:=1) U Ck U U (by omega)) U ?_;iterate 2 refine Nq (om U) U ?_
    refine Nq (A8 (a:=3) (b:=2) U Ck U U (by omega)) rfl<|Nq (om U) rfl<|Nq (BK (b:=1) U AX U U U (by omega)) rfl<|Nq (Jt U (by kernel_rfl) U (by omega)) rfl<|Nq (om U) rfl<|Nq (Jt U (by kernel_rfl) U (by omega)) U ?_;refine Nq (At (k:=2) U DO B3 U U (by omega)) U ?_;refine AG U B3 U U U U U U U (by kernel_rfl) (by kernel_rfl) (.inl U) U U ?_;refine Nq (At (k:=1) U DO B3 U U (by omega)) U ?_;refine AG U B3 U U U U U U U (by kernel_rfl) (by kernel_rfl) (.inl U) U rfl<|Au<|Ai<|qm rfl<|Lq (A8 (a:=3) (b:=2) U Ck U U (by omega)) rfl<|qa rfl<|Ld<|Es<|qm rfl<|Lq (o2 Ck U U) rfl<|Ld<|Ah U rfl<|Ai ?_;iterate 2 refine qm U ?_
    refine Lq (BK (a:=48) U AX U U U (by omega)) rfl<|Lq (DZ U AX dU U (by omega)) U ?_;refine Lq (At (k:=0) U DO B3 U U (by omega)) U ?_;refine Ax (AK U B3 U U U U U U) U rfl<|Ld ?_;refine HB (Fl (Yc.val U U U U ?_));refine Ld<|Aa<|Es<|qm rfl<|Lq (o2 nI U U) rfl<|Ld ?_;refine Ec U (fun g1=>?_) (fun g1=>?_);have h1:=dT g1;refine Es<|Lq (Be (m:=0) U Eb B3 U U (by omega) U) rfl<|Ax (AK U B3 U U U U U U) U rfl<|Ld<|Es<|qm U ?_;refine Lq (Ap (a:=1) (b:=3) U Ck U U (by omega)) U ?_;refine Lq (AW U Eb B3 U U U U) rfl<|Lo (BP U DO Wl OM U U) rfl<|qa rfl<|Ld ?_;refine Ab (Er U ?_);rotate_left;have h1:=dF g1;refine Ac<|Es<|qm U ?_;refine Lq (Ap (a:=1) (b:=3) U Ck U U (by omega)) U ?_;refine Lq (AW U Eb B3 U U U U) rfl<|Lo (BP U DO Wl OM U U) rfl<|qa rfl<|Ld ?_;refine Ab (Er U ?_);rotate_left
   ·rw[hv,if_pos h1];show AV.str _=AV.str _;simp only[Zd,List.nil_append,List.cons_append,Int.toNat_natCast,SP,SO];refine congrArg AV.str<|Gh U ?_;repeat refine Gh (congrArg UInt8.ofNat (by omega)) ?_
    all_goals rfl
   ·rw[hv,if_neg h1];show AV.str _=AV.str _;simp only[Zd,List.nil_append,List.cons_append,Int.toNat_natCast,SP,SO];refine congrArg AV.str ?_;repeat refine Gh (congrArg UInt8.ofNat (by omega)) ?_
    all_goals rfl
  ·refine Lq (AW U Eb B3 U U U U) U ?_;refine qm rfl<|B8 (fn:=Tryz.f166) (by kernel_rfl) (by kernel_rfl) U U U U U U U U U U rfl<|Es<|qm rfl<|Lq (En U U U U DO U) rfl<|qa rfl<|Ld<|Aa<|Ch.block ?_;refine Aw (fun _:Unit=>([(4,.int .i64 (4:Nat)),(1,.int .u64 (m:Nat)),(0,.slice 0 1 4 1 (some 23))],WZ 1 1 [] [(0,some (.cells (List.replicate 24 (.int .u8 0)) 259 false))])) (fun _=>0) (fun _=>True) () trivial U (Ao (by repeat' constructor)) ?_;intro _ _;focus
    refine Aa<|Es<|qm rfl<|Lq (o2 Ck U U) rfl<|Ld<|Af U rfl<|A1<|AS rfl<|Es<|qm rfl<|Lq (Fj U Fm AX U U (by omega)) rfl<|qa rfl<|Ld<|Aa<|Es<|qm U ?_;refine Lq (o2 Ck U U) rfl<|Ld<|Ah U rfl<|Es<|qm rfl<|Lq (D9 (b:=10000) U AX U U (by omega)) rfl<|qa rfl<|Ld<|Es<|qm rfl<|Lq (DA (b:=10000) U AX U U U (by omega)) rfl<|qa rfl<|Ld<|Es<|qm rfl<|Lq (DA (b:=100) U AX U U U (by omega)) U ?_;refine Lq (DB (b:=2) U AX U U U (by omega)) rfl<|qm rfl<|Lq (D9 (b:=100) U AX U U (by omega)) rfl<|Lq (DB (b:=2) U AX U U U (by omega)) U ?_;iterate 2 refine qa U ?_
    refine Ld<|As (by kernel_rfl) ?_;iterate 2 refine Nq (om U) U ?_
    refine Nq (A8 (a:=4) (b:=1) U Ck U U (by omega)) U ?_;iterate 2 refine Nq (om U) U ?_
    refine Nq (A8 (a:=4) (b:=2) U Ck U U (by omega)) rfl<|Nq (om U) rfl<|Nq (BK (b:=1) U AX U U U (by omega)) rfl<|Nq (Jt U (by kernel_rfl) U (by omega)) rfl<|Nq (om U) rfl<|Nq (Jt U (by kernel_rfl) U (by omega)) U ?_;refine Nq (At (k:=3) U DO B3 U U (by omega)) U ?_;refine AG U B3 U U U U U U U (by kernel_rfl) (by kernel_rfl) (.inl U) U U ?_;refine Nq (At (k:=2) U DO B3 U U (by omega)) U ?_;refine AG U B3 U U U U U U U (by kernel_rfl) (by kernel_rfl) (.inl U) U rfl<|Au<|As (by kernel_rfl) ?_;iterate 2 refine Nq (om U) U ?_
    refine Nq (A8 (a:=4) (b:=3) U Ck U U (by omega)) U ?_;iterate 2 refine Nq (om U) U ?_
    refine Nq (A8 (a:=4) (b:=4) U Ck U U (by omega)) rfl<|Nq (om U) rfl<|Nq (BK (b:=1) U AX U U U (by omega)) rfl<|Nq (Jt U (by kernel_rfl) U (by omega)) rfl<|Nq (om U) rfl<|Nq (Jt U (by kernel_rfl) U (by omega)) U ?_;refine Nq (At (k:=1) U DO B3 U U (by omega)) U ?_;refine AG U B3 U U U U U U U (by kernel_rfl) (by kernel_rfl) (.inl U) U U ?_;refine Nq (At (k:=0) U DO B3 U U (by omega)) U ?_;refine AG U B3 U U U U U U U (by kernel_rfl) (by kernel_rfl) (.inl U) U rfl<|Au<|Ai<|qm rfl<|Lq (A8 (a:=4) (b:=4) U Ck U U (by omega)) rfl<|qa rfl<|Ld<|Aa<|Es<|qm rfl<|Lq (o2 Ck U U) rfl<|Ld<|Af U rfl<|Ac<|Es<|qm U ?_;refine Lq (o2 Ck U U) rfl<|Ld<|Af U rfl<|Ac ?_;refine HB (Fl (Yc.val U U U U ?_));refine Ld<|Aa<|Es<|qm rfl<|Lq (o2 nI U U) rfl<|Ld ?_;refine Ec U (fun g1=>?_) (fun g1=>?_);have h1:=dT g1
    refine Es<|Lq (Be (m:=0) U Eb B3 U U (by omega) U) rfl<|Ax (AK U B3 U U U U U U) U rfl<|Ld<|Es<|qm U ?_;refine Lq (Ap (a:=1) (b:=4) U Ck U U (by omega)) U ?_;refine Lq (AW U Eb B3 U U U U) rfl<|Lo (BP U DO Wl OM U U) rfl<|qa rfl<|Ld ?_;refine Ab (Er U ?_);rotate_left;have h1:=dF g1;refine Ac<|Es<|qm U ?_;refine Lq (Ap (a:=1) (b:=4) U Ck U U (by omega)) U ?_;refine Lq (AW U Eb B3 U U U U) rfl<|Lo (BP U DO Wl OM U U) rfl<|qa rfl<|Ld ?_;refine Ab (Er U ?_);rotate_left
   ·rw[hv,if_pos h1];show AV.str _=AV.str _;simp only[Zd,List.nil_append,List.cons_append,Int.toNat_natCast,SP,SO];refine congrArg AV.str<|Gh U ?_;repeat refine Gh (congrArg UInt8.ofNat (by omega)) ?_
    all_goals rfl
   ·rw[hv,if_neg h1];show AV.str _=AV.str _;simp only[Zd,List.nil_append,List.cons_append,Int.toNat_natCast,SP,SO];refine congrArg AV.str ?_;repeat refine Gh (congrArg UInt8.ofNat (by omega)) ?_
    all_goals rfl
  ·refine Lq (AW U Eb B3 U U U U) U ?_;refine qm rfl<|B8 (fn:=Tryz.f166) (by kernel_rfl) (by kernel_rfl) U U U U U U U U U U rfl<|Es<|qm rfl<|Lq (En U U U U DO U) rfl<|qa rfl<|Ld<|Aa<|Ch.block ?_;refine Aw (fun _:Unit=>([(4,.int .i64 (5:Nat)),(1,.int .u64 (m:Nat)),(0,.slice 0 1 5 1 (some 23))],WZ 1 1 [] [(0,some (.cells (List.replicate 24 (.int .u8 0)) 259 false))])) (fun _=>0) (fun _=>True) () trivial U (Ao (by repeat' constructor)) ?_;intro _ _;focus
    refine Aa<|Es<|qm rfl<|Lq (o2 Ck U U) rfl<|Ld<|Af U rfl<|A1<|AS rfl<|Es<|qm rfl<|Lq (Fj U Fm AX U U (by omega)) rfl<|qa rfl<|Ld<|Aa<|Es<|qm U ?_;refine Lq (o2 Ck U U) rfl<|Ld<|Ah U rfl<|Es<|qm rfl<|Lq (D9 (b:=10000) U AX U U (by omega)) rfl<|qa rfl<|Ld<|Es<|qm rfl<|Lq (DA (b:=10000) U AX U U U (by omega)) rfl<|qa rfl<|Ld<|Es<|qm rfl<|Lq (DA (b:=100) U AX U U U (by omega)) U ?_;refine Lq (DB (b:=2) U AX U U U (by omega)) rfl<|qm rfl<|Lq (D9 (b:=100) U AX U U (by omega)) rfl<|Lq (DB (b:=2) U AX U U U (by omega)) U ?_;iterate 2 refine qa U ?_
    refine Ld<|As (by kernel_rfl) ?_;iterate 2 refine Nq (om U) U ?_
    refine Nq (A8 (a:=5) (b:=1) U Ck U U (by omega)) U ?_;iterate 2 refine Nq (om U) U ?_
    refine Nq (A8 (a:=5) (b:=2) U Ck U U (by omega)) rfl<|Nq (om U) rfl<|Nq (BK (b:=1) U AX U U U (by omega)) rfl<|Nq (Jt U (by kernel_rfl) U (by omega)) rfl<|Nq (om U) rfl<|Nq (Jt U (by kernel_rfl) U (by omega)) U ?_;refine Nq (At (k:=4) U DO B3 U U (by omega)) U ?_;refine AG U B3 U U U U U U U (by kernel_rfl) (by kernel_rfl) (.inl U) U U ?_;refine Nq (At (k:=3) U DO B3 U U (by omega)) U ?_;refine AG U B3 U U U U U U U (by kernel_rfl) (by kernel_rfl) (.inl U) U rfl<|Au<|As (by kernel_rfl) ?_;iterate 2 refine Nq (om U) U ?_
    refine Nq (A8 (a:=5) (b:=3) U Ck U U (by omega)) U ?_;iterate 2 refine Nq (om U) U ?_
    refine Nq (A8 (a:=5) (b:=4) U Ck U U (by omega)) rfl<|Nq (om U) rfl<|Nq (BK (b:=1) U AX U U U (by omega)) rfl<|Nq (Jt U (by kernel_rfl) U (by omega)) rfl<|Nq (om U) rfl<|Nq (Jt U (by kernel_rfl) U (by omega)) U ?_;refine Nq (At (k:=2) U DO B3 U U (by omega)) U ?_;refine AG U B3 U U U U U U U (by kernel_rfl) (by kernel_rfl) (.inl U) U U ?_;refine Nq (At (k:=1) U DO B3 U U (by omega)) U ?_;refine AG U B3 U U U U U U U (by kernel_rfl) (by kernel_rfl) (.inl U) U rfl<|Au<|Ai<|qm rfl<|Lq (A8 (a:=5) (b:=4) U Ck U U (by omega)) rfl<|qa rfl<|Ld<|Aa<|Es<|qm rfl<|Lq (o2 Ck U U) rfl<|Ld<|Af U rfl<|Ac<|Es<|qm U ?_;refine Lq (o2 Ck U U) rfl<|Ld<|Ah U rfl<|Ai ?_;iterate 2 refine qm U ?_
    refine Lq (BK (a:=48) U AX U U U (by omega)) rfl<|Lq (DZ U AX dU U (by omega)) U ?_;refine Lq (At (k:=0) U DO B3 U U (by omega)) U ?_;refine Ax (AK U B3 U U U U U U) U rfl<|Ld ?_;refine HB (Fl (Yc.val U U U U ?_));refine Ld<|Aa<|Es<|qm rfl<|Lq (o2 nI U U) rfl<|Ld ?_;refine Ec U (fun g1=>?_) (fun g1=>?_);have h1:=dT g1;refine Es<|Lq (Be (m:=0) U Eb B3 U U (by omega) U) rfl<|Ax (AK U B3 U U U U U U) U rfl<|Ld<|Es<|qm U ?_;refine Lq (Ap (a:=1) (b:=5) U Ck U U (by omega)) U ?_;refine Lq (AW U Eb B3 U U U U) rfl<|Lo (BP U DO Wl OM U U) rfl<|qa rfl<|Ld ?_;refine Ab (Er U ?_);rotate_left;have h1:=dF g1;refine Ac<|Es<|qm U ?_;refine Lq (Ap (a:=1) (b:=5) U Ck U U (by omega)) U ?_;refine Lq (AW U Eb B3 U U U U) rfl<|Lo (BP U DO Wl OM U U) rfl<|qa rfl<|Ld ?_;refine Ab (Er U ?_);rotate_left
   ·rw[hv,if_pos h1];show AV.str _=AV.str _;simp only[Zd,List.nil_append,List.cons_append,Int.toNat_natCast,SP,SO];refine congrArg AV.str<|Gh U ?_;repeat refine Gh (congrArg UInt8.ofNat (by omega)) ?_
    all_goals rfl
   ·rw[hv,if_neg h1];show AV.str _=AV.str _;simp only[Zd,List.nil_append,List.cons_append,Int.toNat_natCast,SP,SO];refine congrArg AV.str ?_;repeat refine Gh (congrArg UInt8.ofNat (by omega)) ?_
    all_goals rfl
  ·refine Lq (AW U Eb B3 U U U U) U ?_;refine qm rfl<|B8 (fn:=Tryz.f166) (by kernel_rfl) (by kernel_rfl) U U U U U U U U U U rfl<|Es<|qm rfl<|Lq (En U U U U DO U) rfl<|qa rfl<|Ld<|Aa<|Ch.block ?_;refine Aw (fun _:Unit=>([(4,.int .i64 (6:Nat)),(1,.int .u64 (m:Nat)),(0,.slice 0 1 6 1 (some 23))],WZ 1 1 [] [(0,some (.cells (List.replicate 24 (.int .u8 0)) 259 false))])) (fun _=>0) (fun _=>True) () trivial U (Ao (by repeat' constructor)) ?_;intro _ _;focus
    refine Aa<|Es<|qm rfl<|Lq (o2 Ck U U) rfl<|Ld<|Af U rfl<|A1<|AS rfl<|Es<|qm rfl<|Lq (Fj U Fm AX U U (by omega)) rfl<|qa rfl<|Ld<|Aa<|Es<|qm U ?_;refine Lq (o2 Ck U U) rfl<|Ld<|Ah U rfl<|Es<|qm rfl<|Lq (D9 (b:=10000) U AX U U (by omega)) rfl<|qa rfl<|Ld<|Es<|qm rfl<|Lq (DA (b:=10000) U AX U U U (by omega)) rfl<|qa rfl<|Ld<|Es<|qm rfl<|Lq (DA (b:=100) U AX U U U (by omega)) U ?_;refine Lq (DB (b:=2) U AX U U U (by omega)) rfl<|qm rfl<|Lq (D9 (b:=100) U AX U U (by omega)) rfl<|Lq (DB (b:=2) U AX U U U (by omega)) U ?_;iterate 2 refine qa U ?_
    refine Ld<|As (by kernel_rfl) ?_;iterate 2 refine Nq (om U) U ?_
    refine Nq (A8 (a:=6) (b:=1) U Ck U U (by omega)) U ?_;iterate 2 refine Nq (om U) U ?_
    refine Nq (A8 (a:=6) (b:=2) U Ck U U (by omega)) rfl<|Nq (om U) rfl<|Nq (BK (b:=1) U AX U U U (by omega)) rfl<|Nq (Jt U (by kernel_rfl) U (by omega)) rfl<|Nq (om U) rfl<|Nq (Jt U (by kernel_rfl) U (by omega)) U ?_;refine Nq (At (k:=5) U DO B3 U U (by omega)) U ?_;refine AG U B3 U U U U U U U (by kernel_rfl) (by kernel_rfl) (.inl U) U U ?_;refine Nq (At (k:=4) U DO B3 U U (by omega)) U ?_;refine AG U B3 U U U U U U U (by kernel_rfl) (by kernel_rfl) (.inl U) U rfl<|Au<|As (by kernel_rfl) ?_;iterate 2 refine Nq (om U) U ?_
    refine Nq (A8 (a:=6) (b:=3) U Ck U U (by omega)) U ?_;iterate 2 refine Nq (om U) U ?_
    refine Nq (A8 (a:=6) (b:=4) U Ck U U (by omega)) rfl<|Nq (om U) rfl<|Nq (BK (b:=1) U AX U U U (by omega)) rfl<|Nq (Jt U (by kernel_rfl) U (by omega)) rfl<|Nq (om U) rfl<|Nq (Jt U (by kernel_rfl) U (by omega)) U ?_;refine Nq (At (k:=3) U DO B3 U U (by omega)) U ?_;refine AG U B3 U U U U U U U (by kernel_rfl) (by kernel_rfl) (.inl U) U U ?_;refine Nq (At (k:=2) U DO B3 U U (by omega)) U ?_;refine AG U B3 U U U U U U U (by kernel_rfl) (by kernel_rfl) (.inl U) U rfl<|Au<|Ai<|qm rfl<|Lq (A8 (a:=6) (b:=4) U Ck U U (by omega)) rfl<|qa rfl<|Ld<|Aa<|Es<|qm rfl<|Lq (o2 Ck U U) rfl<|Ld<|Ah U rfl<|Es<|qm rfl<|Lq (D9 (b:=100) U AX U U (by omega)) U ?_;refine Lq (DB (b:=2) U AX U U U (by omega)) rfl<|qa rfl<|Ld<|Es<|qm rfl<|Lq (DA (b:=100) U AX U U U (by omega)) rfl<|qa rfl<|Ld<|As (by kernel_rfl) ?_;iterate 2 refine Nq (om U) U ?_
    refine Nq (A8 (a:=2) (b:=1) U Ck U U (by omega)) U ?_;iterate 2 refine Nq (om U) U ?_
    refine Nq (A8 (a:=2) (b:=2) U Ck U U (by omega)) rfl<|Nq (om U) rfl<|Nq (BK (b:=1) U AX U U U (by omega)) rfl<|Nq (Jt U (by kernel_rfl) U (by omega)) rfl<|Nq (om U) rfl<|Nq (Jt U (by kernel_rfl) U (by omega)) U ?_;refine Nq (At (k:=1) U DO B3 U U (by omega)) U ?_;refine AG U B3 U U U U U U U (by kernel_rfl) (by kernel_rfl) (.inl U) U U ?_;refine Nq (At (k:=0) U DO B3 U U (by omega)) U ?_;refine AG U B3 U U U U U U U (by kernel_rfl) (by kernel_rfl) (.inl U) U rfl<|Au<|Ai<|qm rfl<|Lq (A8 (a:=2) (b:=2) U Ck U U (by omega)) rfl<|qa rfl<|Ld<|Es<|qm rfl<|Lq (o2 Ck U U) rfl<|Ld<|Af U rfl<|Ac ?_;refine HB (Fl (Yc.val U U U U ?_));refine Ld<|Aa<|Es<|qm rfl<|Lq (o2 nI U U) rfl<|Ld ?_;refine Ec U (fun g1=>?_) (fun g1=>?_);have h1:=dT g1;refine Es<|Lq (Be (m:=0) U Eb B3 U U (by omega) U) rfl<|Ax (AK U B3 U U U U U U) U rfl<|Ld<|Es<|qm U ?_
    refine Lq (Ap (a:=1) (b:=6) U Ck U U (by omega)) U ?_;refine Lq (AW U Eb B3 U U U U) rfl<|Lo (BP U DO Wl OM U U) rfl<|qa rfl<|Ld ?_;refine Ab (Er U ?_);rotate_left;have h1:=dF g1;refine Ac<|Es<|qm U ?_;refine Lq (Ap (a:=1) (b:=6) U Ck U U (by omega)) U ?_;refine Lq (AW U Eb B3 U U U U) rfl<|Lo (BP U DO Wl OM U U) rfl<|qa rfl<|Ld ?_;refine Ab (Er U ?_);rotate_left
   ·rw[hv,if_pos h1];show AV.str _=AV.str _;simp only[Zd,List.nil_append,List.cons_append,Int.toNat_natCast,SP,SO];refine congrArg AV.str<|Gh U ?_;repeat refine Gh (congrArg UInt8.ofNat (by omega)) ?_
    all_goals rfl
   ·rw[hv,if_neg h1];show AV.str _=AV.str _;simp only[Zd,List.nil_append,List.cons_append,Int.toNat_natCast,SP,SO];refine congrArg AV.str ?_;repeat refine Gh (congrArg UInt8.ofNat (by omega)) ?_
    all_goals rfl
  ·refine Lq (AW U Eb B3 U U U U) U ?_;refine qm rfl<|B8 (fn:=Tryz.f166) (by kernel_rfl) (by kernel_rfl) U U U U U U U U U U rfl<|Es<|qm rfl<|Lq (En U U U U DO U) rfl<|qa rfl<|Ld<|Aa<|Ch.block ?_;refine Aw (fun _:Unit=>([(4,.int .i64 (7:Nat)),(1,.int .u64 (m:Nat)),(0,.slice 0 1 7 1 (some 23))],WZ 1 1 [] [(0,some (.cells (List.replicate 24 (.int .u8 0)) 259 false))])) (fun _=>0) (fun _=>True) () trivial U (Ao (by repeat' constructor)) ?_;intro _ _;focus
    refine Aa<|Es<|qm rfl<|Lq (o2 Ck U U) rfl<|Ld<|Af U rfl<|A1<|AS rfl<|Es<|qm rfl<|Lq (Fj U Fm AX U U (by omega)) rfl<|qa rfl<|Ld<|Aa<|Es<|qm U ?_;refine Lq (o2 Ck U U) rfl<|Ld<|Ah U rfl<|Es<|qm rfl<|Lq (D9 (b:=10000) U AX U U (by omega)) rfl<|qa rfl<|Ld<|Es<|qm rfl<|Lq (DA (b:=10000) U AX U U U (by omega)) rfl<|qa rfl<|Ld<|Es<|qm rfl<|Lq (DA (b:=100) U AX U U U (by omega)) U ?_;refine Lq (DB (b:=2) U AX U U U (by omega)) rfl<|qm rfl<|Lq (D9 (b:=100) U AX U U (by omega)) rfl<|Lq (DB (b:=2) U AX U U U (by omega)) U ?_;iterate 2 refine qa U ?_
    refine Ld<|As (by kernel_rfl) ?_;iterate 2 refine Nq (om U) U ?_
    refine Nq (A8 (a:=7) (b:=1) U Ck U U (by omega)) U ?_;iterate 2 refine Nq (om U) U ?_
    refine Nq (A8 (a:=7) (b:=2) U Ck U U (by omega)) rfl<|Nq (om U) rfl<|Nq (BK (b:=1) U AX U U U (by omega)) rfl<|Nq (Jt U (by kernel_rfl) U (by omega)) rfl<|Nq (om U) rfl<|Nq (Jt U (by kernel_rfl) U (by omega)) U ?_;refine Nq (At (k:=6) U DO B3 U U (by omega)) U ?_;refine AG U B3 U U U U U U U (by kernel_rfl) (by kernel_rfl) (.inl U) U U ?_;refine Nq (At (k:=5) U DO B3 U U (by omega)) U ?_;refine AG U B3 U U U U U U U (by kernel_rfl) (by kernel_rfl) (.inl U) U rfl<|Au<|As (by kernel_rfl) ?_;iterate 2 refine Nq (om U) U ?_
    refine Nq (A8 (a:=7) (b:=3) U Ck U U (by omega)) U ?_;iterate 2 refine Nq (om U) U ?_
    refine Nq (A8 (a:=7) (b:=4) U Ck U U (by omega)) rfl<|Nq (om U) rfl<|Nq (BK (b:=1) U AX U U U (by omega)) rfl<|Nq (Jt U (by kernel_rfl) U (by omega)) rfl<|Nq (om U) rfl<|Nq (Jt U (by kernel_rfl) U (by omega)) U ?_;refine Nq (At (k:=4) U DO B3 U U (by omega)) U ?_;refine AG U B3 U U U U U U U (by kernel_rfl) (by kernel_rfl) (.inl U) U U ?_;refine Nq (At (k:=3) U DO B3 U U (by omega)) U ?_;refine AG U B3 U U U U U U U (by kernel_rfl) (by kernel_rfl) (.inl U) U rfl<|Au<|Ai<|qm rfl<|Lq (A8 (a:=7) (b:=4) U Ck U U (by omega)) rfl<|qa rfl<|Ld<|Aa<|Es<|qm rfl<|Lq (o2 Ck U U) rfl<|Ld<|Ah U rfl<|Es<|qm rfl<|Lq (D9 (b:=100) U AX U U (by omega)) U ?_;refine Lq (DB (b:=2) U AX U U U (by omega)) rfl<|qa rfl<|Ld<|Es<|qm rfl<|Lq (DA (b:=100) U AX U U U (by omega)) rfl<|qa rfl<|Ld<|As (by kernel_rfl) ?_;iterate 2 refine Nq (om U) U ?_
    refine Nq (A8 (a:=3) (b:=1) U Ck U U (by omega)) U ?_;iterate 2 refine Nq (om U) U ?_
    refine Nq (A8 (a:=3) (b:=2) U Ck U U (by omega)) rfl<|Nq (om U) rfl<|Nq (BK (b:=1) U AX U U U (by omega)) rfl<|Nq (Jt U (by kernel_rfl) U (by omega)) rfl<|Nq (om U) rfl<|Nq (Jt U (by kernel_rfl) U (by omega)) U ?_;refine Nq (At (k:=2) U DO B3 U U (by omega)) U ?_;refine AG U B3 U U U U U U U (by kernel_rfl) (by kernel_rfl) (.inl U) U U ?_;refine Nq (At (k:=1) U DO B3 U U (by omega)) U ?_;refine AG U B3 U U U U U U U (by kernel_rfl) (by kernel_rfl) (.inl U) U rfl<|Au<|Ai<|qm rfl<|Lq (A8 (a:=3) (b:=2) U Ck U U (by omega)) rfl<|qa rfl<|Ld<|Es<|qm rfl<|Lq (o2 Ck U U) rfl<|Ld<|Ah U rfl<|Ai ?_;iterate 2 refine qm U ?_
    refine Lq (BK (a:=48) U AX U U U (by omega)) rfl<|Lq (DZ U AX dU U (by omega)) U ?_;refine Lq (At (k:=0) U DO B3 U U (by omega)) U ?_;refine Ax (AK U B3 U U U U U U) U rfl<|Ld ?_;refine HB (Fl (Yc.val U U U U ?_));refine Ld<|Aa<|Es<|qm rfl<|Lq (o2 nI U U) rfl<|Ld ?_;refine Ec U (fun g1=>?_) (fun g1=>?_);have h1:=dT g1;refine Es<|Lq (Be (m:=0) U Eb B3 U U (by omega) U) rfl<|Ax (AK U B3 U U U U U U) U rfl<|Ld<|Es<|qm U ?_;refine Lq (Ap (a:=1) (b:=7) U Ck U U (by omega)) U ?_;refine Lq (AW U Eb B3 U U U U) rfl<|Lo (BP U DO Wl OM U U) rfl<|qa rfl<|Ld ?_;refine Ab (Er U ?_);rotate_left;have h1:=dF g1;refine Ac<|Es<|qm U ?_;refine Lq (Ap (a:=1) (b:=7) U Ck U U (by omega)) U ?_;refine Lq (AW U Eb B3 U U U U) rfl<|Lo (BP U DO Wl OM U U) rfl<|qa rfl<|Ld ?_;refine Ab (Er U ?_);rotate_left
   ·rw[hv,if_pos h1];show AV.str _=AV.str _;simp only[Zd,List.nil_append,List.cons_append,Int.toNat_natCast,SP,SO];refine congrArg AV.str<|Gh U ?_;repeat refine Gh (congrArg UInt8.ofNat (by omega)) ?_
    all_goals rfl
   ·rw[hv,if_neg h1];show AV.str _=AV.str _;simp only[Zd,List.nil_append,List.cons_append,Int.toNat_natCast,SP,SO];refine congrArg AV.str ?_;repeat refine Gh (congrArg UInt8.ofNat (by omega)) ?_
    all_goals rfl
abbrev j3:= {n:Int// -10000000<n∧n<10000000}
noncomputable def KL4:=Wa KL3 128 (fun p:j3=>[.int .i64 p.1,.int .i64 10]) (fun p=> .str (Cp p.1))
theorem xQ {n:Int} (h: -10000000<n∧n<10000000):KL4 128 [.int .i64 n,.int .i64 10]=some (.str (Cp n)):=
 A3 (f:=128) (enc:=fun p:j3=>[.int .i64 p.1,.int .i64 10]) (res:=fun p=> .str (Cp p.1)) (fun p q h=>by rw[(AV.int.inj (List.cons.inj h).1).2]) ⟨n,h⟩
theorem gall4 (h:VG Tryz.prog 10 [] (.bool true)):C9 Tryz.prog eB KL4:=
 BG AC Bm (gall3 h) (fun p:j3=>fmt_to p.1 p.2) (fun _=>rfl) (fun _=>rfl)
theorem ua (n:Int) (h0: -10000000<n∧n<10000000):Cb (EK KL4) 52 [.int .i64 n] S0 (.str (Cp n)):=by
 refine Aq (fn:=Tryz.f52) U U (by kernel_rfl) U U U rfl<|Es<|qa rfl<|Ld<|Es<|qm rfl<|B8 (fn:=Tryz.f93) (by kernel_rfl) (by kernel_rfl) U U U U U U U U U U rfl<|Es<|qa rfl<|Ld<|Es<|qm U ?_;refine Lo (Ad U U (by kernel_rfl) U (Cb.Cs (xQ (by omega)))) U ?_;refine qa rfl<|Ld ?_;refine Ab (Dv (Yc.same U (An U U) U U U U ?_));refine qa rfl<|Ld ?_;refine Ab (Er U ?_);rfl
noncomputable def KL5:=Wa KL4 52 (fun p:j3=>[.int .i64 p.1]) (fun p=> .str (Cp p.1))
theorem UD {n:Int} (h: -10000000<n∧n<10000000):KL5 52 [.int .i64 n]=some (.str (Cp n)):=
 A3 (f:=52) (enc:=fun p:j3=>[.int .i64 p.1]) (res:=fun p=> .str (Cp p.1)) (fun p q h=>by rw[(AV.int.inj (List.cons.inj h).1).2]) ⟨n,h⟩
theorem gall5 (h:VG Tryz.prog 10 [] (.bool true)):C9 Tryz.prog eB KL5:=
 BG AC Bm (gall4 h) (fun p:j3=>ua p.1 p.2) (fun _=>rfl) (fun _=>rfl)
class ub (e:TypeId):Prop where
 ok:e=102∨e=104
instance:ub 102:=⟨.inl rfl⟩
instance:ub 104:=⟨.inr rfl⟩
section
variable {K : FuncId → List AV → Option AV} {e0 : TypeId} [ub e0]
theorem Gg (hK:K 126=fun _=>none) {s:St} {b0:Nat} {a v:AV} (hg:s.heap.get b0=some (.cells [a,v] e0 false)) (ha:a= .CJ∨a= .ptr b0 0) (hn:b0<s.next) {R:AV→St→Prop}
 (hR:∀s',CL s s' (fun c=>c=b0)→s'.next=s.next→s'.heap.get b0=some (.cells [.ptr b0 0,v] e0 false)→(b0<s.bound→s'.log≠ []∨a= .ptr b0 0)→(s.bound≤s.next→Cg s s')→R (.tuple []) s'):Wf (EK K) 126 [.ptr b0 0] s R:=by
 refine Wf.unit (fn:=Tryz.f126) (by show K 126 _=none;rw[hK]) (by kernel_rfl) U U U U ?_;have hU:s.enter.heap.get b0=some (.cells [a,v] e0 false):=hg;rcases ha with rfl|rfl
 ·refine Es ?_;refine qm rfl<|Lq (Ar U U U) rfl<|Lq (of IE U) rfl<|Lo (A2 U U (Aj O6 Lp ‹_› U)) rfl<|Lo (KR (neg:=false) U OP J6 U U U) rfl<|Ld<|Ah U rfl<|Ai ?_;iterate 2 refine qm U ?_
  refine Lo (OF U OP oM J6 U (v:= .ptr b0 0) (by show(VZ (s.enter.heap.get b0)).bind _=_;rw[hU];rfl)) U ?_;refine Lq (Wj.same (x:= .tmp 9) (by kernel_rfl) U) U ?_;refine Lo (Ll U oM OP J6 U (v:= .ptr b0 0) (by show bm _ _ _ _ (s.enter.heap.get b0)=_;rw[hU];rcases ub.ok (e:=e0)with rfl|rfl<;>kernel_rfl)) U ?_;refine Lq (Ar U U U) rfl<|Lq (of IE U) rfl<|Ax (Ws.store U Lp U U (AB ‹_› U U U)) U rfl<|Ld ?_;refine⟨.inr U,rfl,fun h=>absurd h (F8 (s:=s.enter) hn),hR _ (CL.put (s:=s.enter)).back U ?_ ?_ fun h=>Cg.put.back h⟩
  ·show(s.enter.put b0 _).heap.get b0=_;rw[AL,if_pos rfl]
  ·intro hb;refine .inl ?_;have lM:Nat.blt b0 s.next=true:=Qd hn;have pR:Nat.blt b0 s.bound=true:=Qd hb;show below s.bound (bif Nat.blt b0 s.next then [b0]else []) s.log≠ [];rw[lM];show(bif Nat.blt b0 s.bound then b0::s.log else s.log)≠ [];rw[pR];simp
 ·refine Es ?_;refine qm rfl<|Lq (Ar U U U) rfl<|Lq (of IE U) rfl<|Lo (A2 U U (Aj O6 Lp ‹_› U)) rfl<|Lo (KR (neg:=false) U OP J6 U U U) rfl<|Ld<|Af U rfl<|Es<|qm rfl<|Lq (Ar U U U) rfl<|Lq (of IE U) rfl<|Lo (A2 U U (Aj O6 Lp ‹_› U)) rfl<|qm U ?_;refine Lo (KR (neg:=true) U OP J6 U U (v:= .bool false) (by show WE true (bif Nat.beq b0 b0 then some (Nat.beq 0 0)else _)=_;rw[Nat.beq_refl];rfl)) U ?_;refine Ld<|Af U rfl<|Ac ?_;exact⟨.inr U,rfl,fun _=>hR s ⟨Qj _,rfl,fun _ h=> .inl h,fun _ _ _=>rfl⟩ U hg (fun _=> .inr U) fun _=>Cg.refl,hR _ ⟨Qj _,rfl,fun _ h=> .inl h,fun _ _ _=>rfl⟩ U hg (fun _=> .inr U) fun h=>Cg.back (st:=s.enter) Cg.refl h⟩
theorem HD (hK:K 90=fun _=>none) (xR:K 126=fun _=>none) {s:St} {b0:Nat} {a v:AV} {w x:List UInt8} (hg:s.heap.get b0=some (.cells [a,v] e0 false)) (ha:a= .CJ∨a= .ptr b0 0)
 (hn:b0<s.next) (hv:YJ s 5 v w) (fo:Ci b0 v=false) (Y1:w.length+x.length≤1099511627776) {R:AV→St→Prop}
 (hR:∀s' v',CL s s' (fun c=>c=b0∨Ci c v=true)→s'.heap.get b0=some (.cells [.ptr b0 0,v'] e0 false)→YJ s' 5 v' (w++x)→(∀c,Ci c v'=true→Ci c v=true∨s.next≤c)→(b0<s.bound→s'.log≠ [])→(s.bound≤s.next→Cg s s')→R (.tuple [.int .i64 (x.length:Nat),.C8]) s'):
 Wf (EK K) 90 [.ptr b0 0,.str x] s R:=by
 refine Wf.gen (fn:=Tryz.f90) (by show K 90 _=none;rw[hK]) (by kernel_rfl) U U U U ?_;refine Es ?_;iterate 2 refine qa U ?_
 refine Ld<|Es<|qm U ?_;refine AQ U U (by kernel_rfl) U U U U (Gg xR (s:=s.enter) hg ha hn ?_);intro s1 dy fB eE aB hL1;have lH:YJ s1 5 v w:=hv.CW (s:=s.enter) dy.next fun c hc=>dy.heap c (hv.own hc) fun h=>by rw[h,fo]at hc;cases hc
 refine Ld<|Es ?_;iterate 2 refine qm U ?_
 refine Lq (Ar U U U) rfl<|Lq (of DW U) rfl<|Lo (A2 U U (Aj KI HG ‹_› U)) rfl<|qm U ?_;obtain⟨v',s2,ju,dw,uc,gV,gp,nL,nP⟩:=lH.append Y1;have gI:s2.heap.get b0=some (.cells [.ptr b0 0,v] e0 false):=(nP b0 (by rw[fB];exact hn) fo).trans eE;refine Lo (Ws.append U U U U DO B3 xc z_5 (by kernel_rfl) (by kernel_rfl) U U (new:=byteCells x) (n:=x.length) (by show(bif Nat.beq 1 1 then some (byteCells x,W6 x)else none)=_;rw[D1];rfl) ju) U ?_;have pV:v'.isTuple=false∧v'.cells.length=1∧over v'.cells (0+1) [.ptr b0 0,v]=some [.ptr b0 0,v']:=by
  rcases dw with⟨rfl,_⟩|⟨_,rfl,_⟩|⟨_,rfl,_⟩<;>exact⟨rfl,rfl,rfl⟩
 refine Lq (Ar U U U) rfl<|Lq (of DW U) rfl<|Ax (Ws.store U HG U U (AB gI pV.2.1 pV.1 pV.2.2)) U rfl<|Ld<|Es<|qm rfl<|Lq (AD U U U U Wl U) U ?_;iterate 2 refine qa U ?_
 refine Ld<|Ab ?_;have xp:CL s1 s2 (fun c=>Ci c v=true):=⟨uc,gV,nL,fun c hc ho=>nP c hc (by simpa using ho)⟩
 have h3:=(dy.trans xp (own:=fun c=>c=b0∨Ci c v=true) (fun _ h=> .inl h) (fun _ h=> .inl (.inr h)) (Qj _)).trans (CL.put (s:=s2) (b:=b0) (o:=some (.cells [.ptr b0 0,v'] e0 false))) (own:=fun c=>c=b0∨Ci c v=true) (fun _ h=>h) (fun _ h=> .inl (.inl h)) (Qj _);have mV:∀c,Ci c v'=true→c≠b0:=fun c hc h=>by
  rcases gp c hc with h1|h1
  ·rw[h,fo]at h1;cases h1
  ·have:s1.next=s.next:=fB;omega
 refine⟨.inl U,_,rfl,_,An U (An U U),_,Ez U (F8 (by rw[gV,dy.bound];exact hn)),hR _ v' h3.back ?_ ?_ ?_ (fun h=>MS (DJ (by rw[gV,dy.bound];exact hn)) h) fun h=>Cg.back (((hL1 (Qj _)).trans (El (by rw[dy.bound,fB];exact Qj _) ju)).trans Cg.put) h⟩
 ·show(s2.put b0 _).heap.get b0=_;rw[AL,if_pos rfl]
 ·exact dw.CW (Qj _) fun c hc=>by
   show(s2.put b0 _).heap.get c=_;rw[AL,if_neg (mV c hc)]
 ·intro c hc;refine(gp c hc).imp id fun h=>?_;have:s1.next=s.next:=fB;omega
theorem Qx (hK:K 53=fun _=>none) {s:St} {b0:Nat} {a v:AV} {w:List UInt8} (hg:s.heap.get b0=some (.cells [a,v] e0 false))
 (hn:b0<s.next) (hv:YJ s 5 v w) (Y1:w.length≤1099511627776) {R:AV→St→Prop} (hR:∀s',CL s s' (fun c=>Ci c v=true)→R (.str w) s'):
 Wf (EK K) 53 [.ptr b0 0] s R:=by
 refine Wf.gen (fn:=Tryz.f53) (by show K 53 _=none;rw[hK]) (by kernel_rfl) U U U U ?_;have hU:s.enter.heap.get b0=some (.cells [a,v] e0 false):=hg;refine Es<|qa rfl<|Ld<|As (by kernel_rfl)<|Nq (om U) rfl<|Nq (Ar U U U) rfl<|Nq (of DW U) rfl<|AO U U (Aj KI HG ‹_› U) U (.inl U) U U ?_;obtain⟨d,s2,hd,hraw,az,dz,YR,hhp,hlen⟩:=(show YJ (s.enter.sub s.enter.heap) 5 v w from hv.CW (Qj _) fun _ _=>rfl).text (E:=EK K) OM;refine PT (V8 (f:=fun T=>(Cc (EK K) (.tmp 6) T).bind jF) (v:=d) (by kernel_rfl) fun T hT=>by
  rw[Al (x:= .tmp 6) (v:=v) hT rfl];show jF v=_;unfold jF;rw[hd]) (.inl rfl) rfl rfl ?_
 refine Nq (om U) rfl<|Nq (Ar U U U) rfl<|Nq (of DW U) rfl<|AO U U (Aj KI HG ‹_› U) U (.inl U) U rfl<|Nq (Ep U U U U DO U ‹_›) U ?_;have hble:Nat.ble w.length 1099511627776=true:=Qd Y1;have ic:CL (s.enter.sub s.enter.heap) s2 (fun c=>Ci c v=true):=⟨Nat.le_of_eq az.symm,dz,YR,fun c _ ho=>hhp c (by simpa using ho)⟩
 refine Rr (x:=Cc (EK K) (.tmp 7)) (f:=fun T s=>(Cc (EK K) (.tmp 7) T).bind fun a=>(Cc (EK K) (.tmp 12) T).bind fun b=>(VW b).bind fun n=>bif Nat.ble n 1099511627776 then dj s (EK K) 5 n a else none) (v:= .str w) (s2:=s2) (by kernel_rfl)
  (fun T hT=>Hj (b:=false) (x:=Cc (EK K) (.tmp 7)) (f:=fun T s=>(Cc (EK K) (.tmp 7) T).bind fun a=>(Cc (EK K) (.tmp 12) T).bind fun b=>(VW b).bind fun n=>bif Nat.ble n 1099511627776 then dj s (EK K) 5 n a else none) (by kernel_rfl) (by
   rw[Al (x:= .tmp 7) (v:=d) hT rfl,Al (x:= .tmp 12) (v:= .int .i64 (w.length:Nat)) hT rfl];have hnat:VW (.int .i64 (w.length:Nat))=some w.length:=rfl;simp only[Qe,hnat,hble,cond_true,hraw]))
  (Nat.le_of_eq az.symm) (fun c hc=>⟨by
   rcases YR c hc with h|⟨h,_⟩
   ·cases h
   ·exact h,rfl⟩) (by kernel_rfl) U (.inl U) U U ?_
 refine Nq (oa U) rfl<|Au<|Ab ?_;exact⟨.inl U,_,rfl,_,rfl,DS U (fun _ _=>rfl) (fun _=>rfl) (fun _=>hR s CL.refl) fun _=>hR _ (CL.back (CL.merged ic))⟩
theorem Sx (hK:K 163=fun _=>none) {s:St} {b0:Nat} {a:AV} {n:Nat} (hg:s.heap.get b0=some (.cells [a,.Ca] e0 false)) (hn:b0<s.next) (h0:0<n) (Y1:n≤1099511627776) {R:AV→St→Prop}
 (hR:∀s' v,CL s s' (fun c=>c=b0)→s'.heap.get b0=some (.cells [a,v] e0 false)→YJ s' 5 v []→(∀c,Ci c v=true→s.next≤c)→(b0<s.bound→s'.log≠ [])→R (.tuple []) s'):
 Wf (EK K) 163 [.ptr b0 0,.int .i64 (n:Nat)] s R:=by
 refine Wf.gen (fn:=Tryz.f163) (by show K 163 _=none;rw[hK]) (by kernel_rfl) U U U U ?_;have hU:s.enter.heap.get b0=some (.cells [a,.Ca] e0 false):=hg;refine As (by kernel_rfl)<|Nq (om U) rfl<|Nq (Ar U U U) rfl<|Nq (of DW U) rfl<|AO U U (Aj KI HG ‹_› U) U (.inl U) U rfl<|Nq (VA U U U U DO U U) U ?_;refine Nq (Jy (a:=2) (b:=0) U Ck U U (by omega)) U ?_;refine Nq (om U) U ?_;refine Nq (Ap (a:=0) U Ck U U (by omega)) U ?_;rw[show 0+n=n from Nat.zero_add n];have hblt:Nat.blt 0 n=true:=Qd h0;have hble:Nat.ble n 1099511627776=true:=Qd Y1;refine O8 (f:=fun T=>(Cc (EK K) (.tmp 12) T).bind (gZ 5)) (ob:= .cells [] 5 true) (g:=fun i=> .slice i 0 n 1 none) (by kernel_rfl) (fun T hT=>by
  rw[Al (x:= .tmp 12) (v:= .int .i64 (n:Nat)) hT rfl];show(bif Nat.blt 0 n&&Nat.ble n 1099511627776 then _ else _)=_;rw[hblt,hble];rfl) (.inl rfl) rfl rfl ?_
 have Xl:b0≠s.enter.next:=Nat.ne_of_lt hn;have gI:(s.enter.alloc (.cells [] 5 true)).heap.get b0=some (.cells [a,.Ca] e0 false):=by
  show(s.heap.set s.next _).get b0=_;rw[AF,if_neg (show b0≠s.next from Xl)];exact hg
 have zj:(s.enter.alloc (.cells [] 5 true)).heap.get s.enter.next=some (.cells [] 5 true):=by
  show(s.heap.set s.next _).get s.next=_;rw[AF,if_pos rfl]
 refine Nq (om U) rfl<|Nq (Ar U U U) rfl<|Nq (of DW U) rfl<|AO U U (Aj KI HG gI U) (MP Xl U) (.inl U) U rfl<|Nq (IP U U U U DO U) U ?_;refine VH.rd (x:=Cc (EK K) (.tmp 13)) (f:=fun T s=>(Cc (EK K) (.tmp 13) T).bind fun a=>(WI (EK K) none T).bind fun l=>(WI (EK K) (some (.tmp 18)) T).bind fun h=>(WI (EK K) none T).bind fun m=>W7 s 1 l h m a) (b:=s.enter.next) (v:= .slice s.enter.next 0 0 1 (some 0)) (by kernel_rfl)
  (fun T hT=>Al (x:= .tmp 13) (v:= .slice s.enter.next 0 n 1 none) hT rfl) rfl (fun T hT=>by
   rw[Al (x:= .tmp 13) (v:= .slice s.enter.next 0 n 1 none) hT rfl];have h18:WI (EK K) (some (.tmp 18)) T=some (some (.int .i64 ((0:Nat):Int))):=Ly (Al (x:= .tmp 18) hT rfl);have XG:WI (EK K) none T=some none:=rfl;simp only[Qe,XG,h18];have VX:VZ (((s.enter.alloc (.cells [] 5 true)).sub (Tr.set .nil s.enter.next ((s.enter.alloc (.cells [] 5 true)).heap.get s.enter.next))).heap.get s.enter.next)=some []:=by
    show VZ ((Tr.set .nil s.enter.next ((s.enter.alloc (.cells [] 5 true)).heap.get s.enter.next)).get s.enter.next)=_;rw[AF,if_pos rfl,zj];rfl
   unfold W7;simp only[Nat.beq_refl,cond_true,VX,Qe];rfl) (Ox (by kernel_rfl) rfl) (.inl rfl) rfl rfl ?_
 refine Nq (oa U) rfl<|Au<|Es ?_;iterate 2 refine qm U ?_
 refine Lq (Ar U U U) rfl<|Lq (of DW U) rfl<|Lo (A2 U U (Aj KI HG ‹_› U)) U ?_;generalize Xm:s.enter.alloc (.cells [] 5 true)=s1 at gI zj⊢;have bW:s1.next=s.next+1:=by rw[←Xm];rfl
 have hcp:copyV s1 1 ([],0) (.slice s.enter.next 0 0 1 (some 0))=some (.int .i64 ((0:Nat):Int),s1.put s.enter.next (some (.cells [] 5 true))):=by
  show(cZ s1 s.enter.next 0 [] (s1.heap.get s.enter.next)).bind _=_;rw[zj];rfl
 refine Lo (Ws.copy U U U U DO B3 U U U hcp) U ?_;have hg4:(s1.put s.enter.next (some (.cells [] 5 true))).heap.get b0=some (.cells [a,.Ca] e0 false):=by rw[AL,if_neg Xl];exact gI
 refine Ld<|Ai ?_;iterate 2 refine qm U ?_
 refine Lq (Ar U U U) rfl<|Lq (of DW U) rfl<|Ax (Ws.store U HG U U (AB ‹_› U U U)) U rfl<|Ld ?_;have ae:(s1.put s.enter.next (some (.cells [] 5 true))).bound=s.next:=by rw[←Xm];rfl
 have ic:CL s.enter ((s1.put s.enter.next (some (.cells [] 5 true))).put b0 (some (.cells [a,.slice s.enter.next 0 0 1 (some 0)] e0 false))) (fun c=>c=b0):=by
  refine⟨by show s.next≤s1.next;omega,ae,fun c hc=>?_,fun c hc ho=>?_⟩
  ·rcases H2 hc with h|⟨h,h2⟩
   ·rcases H2 h with h|⟨h,h2⟩
    ·rw[←Xm]at h;exact .inl h
    ·rw[←Xm]at h2;have:c<s.next:=h2;have h':c=s.next:=h;omega
   ·exact .inr ⟨by rw[ae]at h2;exact h2,h⟩
  ·have za:c≠s.enter.next:=Nat.ne_of_lt hc;rw[AL,if_neg ho,AL,if_neg za,←Xm];show(s.heap.set s.next _).get c=_;rw[AF,if_neg (show c≠s.next from za)];rfl
 refine⟨.inr U,_,rfl,[],rfl,DS U (fun _ _=>rfl) (fun _=>rfl) (fun h=>absurd h (F8 (by rw[ae];exact hn))) fun _=>hR _ (.slice s.enter.next 0 0 1 (some 0)) ic.back ?_ ?_ ?_ fun h=>MS (DJ (by rw[ae];exact hn)) h⟩
 ·show(St.put _ b0 _).heap.get b0=_;rw[AL,if_pos rfl]
 ·refine .inr (.inl ⟨s.enter.next,rfl,rfl,by show s.next<s1.next;omega,?_⟩);show(St.put (St.put s1 _ _) b0 _).heap.get s.enter.next=_;rw[AL,if_neg Xl.symm,AL,if_pos rfl]
 ·intro c hc;have:s.next=c:=Qb hc;omega
theorem ud (hK:K 127=fun _=>none) (xR:K 126=fun _=>none) (oP:K 163=fun _=>none) {s:St} {b0:Nat} {a:AV} {n:Nat} (hg:s.heap.get b0=some (.cells [a,.Ca] e0 false))
 (ha:a= .CJ∨a= .ptr b0 0) (hn:b0<s.next) (Y1:n≤1099511627776) {R:AV→St→Prop}
 (hR:∀s' v,CL s s' (fun c=>c=b0)→s'.heap.get b0=some (.cells [.ptr b0 0,v] e0 false)→YJ s' 5 v []→(∀c,Ci c v=true→s.next≤c)→R (.tuple []) s'):
 Wf (EK K) 127 [.ptr b0 0,.int .i64 (n:Nat)] s R:=by
 refine Wf.gen (fn:=Tryz.f127) (by show K 127 _=none;rw[hK]) (by kernel_rfl) U U U U ?_;refine Es<|qm U ?_;refine AQ U U (by kernel_rfl) U U U U (Gg xR (s:=s.enter) hg ha hn ?_);intro s1 dy fB eE aB _;refine Ld<|Aa<|Es<|qm rfl<|Lq (o2 Ck U U) rfl<|Ld<|Af U rfl<|Ac<|As (by kernel_rfl)<|Nq (om U) rfl<|Nq (Ar U U U) rfl<|Nq (of DW U) rfl<|AO U U (Aj KI HG ‹_› U) U (.inl U) U rfl<|Nq (VA U U U U DO U U) U ?_;focus
  refine Nq (om U) rfl<|Nq (Ar U U U) rfl<|Nq (of DW U) rfl<|AO U U (Aj KI HG ‹_› U) U (.inl U) U rfl<|Nq (IP U U U U DO U) rfl<|Nq (A8 (a:=0) (b:=0) U Ck U U (by omega)) rfl<|Nq (om U) rfl<|Nq (o2 Ck U U) rfl<|Au ?_;refine Ec U (fun g1=>?_) (fun g1=>?_);have h1:=dT g1;refine Ai ?_;iterate 2 refine qm U ?_
  rotate_left;have h1:=dF g1;refine Ac ?_;rotate_left
 ·have h0:0<n:=by simpa using h1
  refine AQ U U (by kernel_rfl) U U U U (Sx oP eE (by rw[fB];exact hn) h0 Y1 ?_);intro s2 v ia gI dw gp aZ;refine Ld ?_;have hc:=dy.trans ia (own:=fun c=>c=b0) (fun _ h=>h) (fun _ h=> .inl h) (Qj _);have how:∀c,Ci c v=true→s.next≤c:=fun c h=>by have:=gp c h;rw[fB]at this;exact this
  refine⟨.inr U,_,rfl,[],rfl,DS U (fun _ _=>rfl) (fun _=>rfl) (fun h=>?_) fun _=>hR _ v hc.back gI (dw.CW (Qj _) fun _ _=>rfl) how⟩;exact absurd h (aZ (by rw[dy.bound];exact hn))
 ·have h0:n=0:=by simpa using h1
  refine⟨.inr U,_,rfl,[],rfl,DS U (fun _ _=>rfl) (fun _=>rfl) (fun h=>?_) fun _=>hR _ .Ca dy.back eE (.inl ⟨rfl,rfl⟩) fun c hc=>by cases hc⟩;rcases aB hn with h'|h'
  ·exact absurd h h'
  ·rw[h']at hg;exact hR s .Ca CL.refl hg (.inl ⟨rfl,rfl⟩) fun c hc=>by cases hc
end
def Xv (l:List (List UInt8)):Nat:=(l.map List.length).sum
theorem Hp {l:List (List UInt8)} {i:Nat} (h:i<l.length):Xv (l.take (i+1))=Xv (l.take i)+l[i].length:=by
 unfold Xv;rw[List.take_succ_eq_append_getElem h,List.map_append,List.sum_append];simp
theorem Fq {l:List (List UInt8)} (i:Nat):Xv (l.take i)≤Xv l:=by
 have:Xv l=Xv (l.take i)+Xv (l.drop i):=by
  unfold Xv;rw[←List.sum_append,←List.map_append,List.take_append_drop]
 omega
theorem Fv (sep:List UInt8):∀l:List (List UInt8),(l.flatMap (sep++·)).length=Xv l+l.length*sep.length
 | []=>by simp[Xv]
 |a::l=>by
  have ih:=Fv sep l;rw[List.flatMap_cons,Qm,Qm,ih,List.length_cons,Nat.succ_mul];rw[show Xv (a::l)=a.length+Xv l by simp[Xv]];omega
theorem Le {sep:List UInt8} {l:List (List UInt8)} {i:Nat} (h:i<l.length):(l.take (i+1)).flatMap (sep++·)=(l.take i).flatMap (sep++·)++sep++l[i]:=by
 rw[List.take_succ_eq_append_getElem h,List.flatMap_append];simp
section
variable {K : FuncId → List AV → Option AV}
theorem ue (hK:K 91=fun _=>none) (xR:K 127=fun _=>none) (oP:K 126=fun _=>none) (hK3:K 163=fun _=>none) (hK4:K 90=fun _=>none)
 (hK5:K 53=fun _=>none) {s:St} {v:AV} {l:List (List UInt8)} {sep:List UInt8} (hv:Xr s v l) (ei:Xv l+(sep.length+1)*(l.length+1)≤1099511627776) {R:AV→St→Prop} (hR:R (.str (OK sep l)) s):
 Wf (EK K) 91 [v,.str sep] s R:=by
 refine Wf.gen (fn:=Tryz.f91) (by show K 91 _=none;rw[hK]) (by kernel_rfl) U U U U ?_;have hve:Xr s.enter v l:=hv.CW (Qj _) fun _ _=>rfl;have hlen:=hve.len;focus
  refine Es<|qa rfl<|Ld<|Aa<|Es<|qm rfl<|Lq (Ep U U U U B2 U ‹_›) rfl<|Ld<|Ch.block<|Es<|Lq (o2 Ck U U) rfl<|qa rfl<|Ld ?_;refine Ec U (fun g1=>?_) (fun g1=>?_);have h1:=dT g1;refine Es<|qa rfl<|Ld ?_;rotate_left;have h1:=dF g1;refine Es<|Lq (o2 Ck U U) rfl<|qa rfl<|Ld ?_;refine Ec U (fun g2=>?_) (fun g2=>?_);have h2:=dT g2;refine Es<|qm U ?_;rotate_left;have h2:=dF g2;refine Ac<|Es<|qa rfl<|Ld ?_;rotate_left
 ·
  have hl:l=[]:=by cases l with|nil=>rfl|cons _ _=>simp at h1;omega
  subst hl;refine Ab ?_;exact⟨.inl U,_,rfl,_,An U U,DS U (fun _ _=>rfl) (fun _=>rfl) (fun _=>hR) fun h=>absurd U h⟩
 ·
  obtain⟨a,rfl⟩:∃a,l=[a]:=by
   match l,h2 with
   | [a],_=>exact⟨a,rfl⟩
  obtain⟨p,hp,X3⟩:=hve.at (E:=EK K) (i:=0) (by simp) Gs D0;refine Lq (Ae (k:=0) U B2 D0 U U ‹_›) rfl<|Lo (A2 U U ‹_›) rfl<|qa rfl<|Ld<|Ab ?_;refine⟨.inl U,_,rfl,_,An U U,DS U (fun _ _=>rfl) (fun _=>rfl) (fun _=>?_) fun h=>absurd U h⟩;have:OK sep [a]=a:=List.append_nil a;rw[this]at hR;exact hR
 ·
  have hm:2≤l.length:=by omega
  have hprod:sep.length*(l.length-1)+l.length≤(sep.length+1)*(l.length+1):=by
   have h1:sep.length*(l.length-1)≤sep.length*(l.length+1):=Nat.mul_le_mul_left _ (by omega);rw[Nat.add_mul,Nat.one_mul];omega
  have zV:Xv l+sep.length*(l.length-1)+l.length≤1099511627776:=by omega
  have hsep:sep.length≤sep.length*(l.length-1):=Nat.le_mul_of_pos_right _ (by omega);have hq:sep.length<9223372036854775807/(l.length-1):=by
   refine Nat.lt_of_succ_le ((Nat.le_div_iff_mul_le (by omega)).2 ?_);rw[Nat.succ_mul];omega
  refine Ch.cut [(5,.int .i64 ((sep.length*(l.length-1):Nat):Int)),(0,v),(1,.str sep)] s.enter ?_ ?_
  ·focus
    refine Es<|qm rfl<|Lq (AD U U U U Wl U) rfl<|Lq (o2 Ck U U) rfl<|Ld ?_;refine Ec U (fun g3=>?_) (fun g3=>?_);have h3:=dT g3;refine Aa<|Es<|qm rfl<|Lq (AD U U U U Wl U) rfl<|qm rfl<|Lq (Ep U U U U B2 U ‹_›) rfl<|Lq (A8 (b:=1) U Ck U U (by omega)) rfl<|Lq (Rv (a:=9223372036854775807) U Ck U U (by omega)) rfl<|Lq (o2 Ck U U) rfl<|Ld ?_;refine Ec U (fun g4=>?_) (fun g4=>?_);have h4:=dT g4;exact absurd h4 (by omega);have h4:=dF g4;refine Ac<|Ai ?_;iterate 2 refine qm U ?_
    refine Lq (AD U U U U Wl U) rfl<|qm rfl<|Lq (Ep U U U U B2 U ‹_›) rfl<|Lq (A8 (b:=1) U Ck U U (by omega)) U ?_;refine Lq (Jy U Ck U U (by omega)) U ?_;refine Lq (Ap (a:=0) U Ck U U (by omega)) U ?_;refine qa rfl<|Ld ?_;rotate_left;have h3:=dF g3;refine Ac ?_;rotate_left
   ·refine⟨rfl,rfl,rfl,?_⟩;rw[show 0+sep.length*(l.length-1)=sep.length*(l.length-1)from Nat.zero_add _]
    (refine Am.Ao ?_;repeat (first|exact trivial|refine⟨rfl,?_⟩))
   ·have h0:sep.length=0:=by omega
    refine⟨rfl,rfl,rfl,?_⟩;rw[h0,Nat.zero_mul]
    (refine Am.Ao ?_;repeat (first|exact trivial|refine⟨rfl,?_⟩))
  ·refine Aa ?_;refine Es<|qm rfl<|Lq (Ep U U U U B2 U ‹_›) rfl<|qm rfl<|Ld<|Ch.block ?_;generalize mn:sep.length*(l.length-1)=n0 at*;refine Aw (fun i:Nat=>([(41,.int .i64 (i:Nat)),(40,.int .i64 (l.length:Nat)),(39,v),(5,.int .i64 ((n0+Xv (l.take i):Nat):Int)),(0,v),(1,.str sep)],s.enter)) (fun i=>l.length-i) (fun i=>i≤l.length) 0 (Qo _) U (by rw[show Xv (l.take 0)=0 from rfl,Nat.add_zero];(refine Am.Ao ?_;repeat (first|exact trivial|refine⟨rfl,?_⟩))) fun i hi=>?_;have h6:=Fq (l:=l) i;focus
    refine Es<|Lq (o2 Ck U U) rfl<|Ld<|Aa ?_;refine Ec U (fun g3=>?_) (fun g3=>?_);have h3:=dT g3;refine Ac<|Aa<|Ch.block<|Es ?_;rotate_left;have h3:=dF g3;refine A1<|AS rfl<|Es<|Lo (Ws.alloc U tf) rfl<|Ld<|Es<|qm U ?_;rotate_left
   ·have C6:i<l.length:=by omega
    obtain⟨p,hp,X3⟩:=hve.at (E:=EK K) C6 Gs D0;have h5:=Hp C6;have h7:=Fq (l:=l) (i+1);focus
     refine Lq (Ae U B2 D0 U U ‹_›) rfl<|Lo (A2 U U ‹_›) rfl<|qa rfl<|Ld<|Aa<|Es<|qm rfl<|Lq (AD U U U U Wl U) rfl<|qm rfl<|Lq (A8 (a:=9223372036854775807) U Ck U U (by omega)) rfl<|Lq (o2 Ck U U) rfl<|Ld ?_;refine Ec U (fun g4=>?_) (fun g4=>?_);have h4:=dT g4;exact absurd h4 (by omega);have h4:=dF g4;refine Ac<|Ai ?_;iterate 2 refine qm U ?_
     refine Lq (AD U U U U Wl U) U ?_;refine Lq (Ap U Ck U U (by omega)) U ?_;refine qa rfl<|Ld<|Ai ?_;refine Lq (Ap (b:=1) U Ck U U (by omega)) U ?_;refine qm rfl<|Ld ?_;rotate_left
    refine⟨i+1,C6,by omega,rfl,rfl,?_⟩;rw[h5,←Nat.add_assoc]
    (refine Am.Ao ?_;repeat (first|exact trivial|refine⟨rfl,?_⟩))
   ·have vg:i=l.length:=by omega
    rw[vg,List.take_length]
    match l,hm with
    |a::b::l',_=>
    have hrl:(a::b::l').length=(b::l').length+1:=rfl;have qM:Xv (a::b::l')=a.length+Xv (b::l'):=by simp[Xv]
    have fB:n0=(b::l').length*sep.length:=by rw[←mn,Nat.mul_comm];rfl
    let s1:St:=s.enter.alloc (.cells [.CJ,.Ca] 102 false)
    have bW:s1.heap.get s.next=some (.cells [.CJ,.Ca] 102 false):=by
     show(s.heap.set s.next _).get s.next=_;rw[AF,if_pos rfl]
    have zm:∀c,c<s.next→s1.heap.get c=s.heap.get c:=fun c hc=>by
     show(s.heap.set s.next _).get c=_;rw[AF,if_neg (by omega)]
    have xS:s1.next=s.next+1:=rfl;refine AQ U U (by kernel_rfl) U U U U (ud xR oP hK3 (s:=s1) bW (.inl U) (Nat.lt_succ_self _) (by omega) ?_);intro s2 bv2 ia gI dw gp;have oB:Xr s2 v (a::b::l'):=hv.CW (by have:=ia.next;omega) fun c hc=>by
     have:=hv.own hc;rw[ia.heap c (by omega) (by omega),zm c this]
    obtain⟨p,hp,X3⟩:=oB.at (E:=EK K) (i:=0) (by simp) Gs D0;refine Ld<|Es<|qm rfl<|Lq (Ae (k:=0) U B2 D0 U U ‹_›) rfl<|Lo (A2 U U ‹_›) U ?_;have hov2:Ci s.next bv2=false:=by
     cases h:Ci s.next bv2 with
     |false=>rfl
     |true=>have:=gp _ h;omega
    refine AQ U U (by kernel_rfl) U U U U (HD hK4 oP gI (.inr U) (by have:=ia.next;omega) dw hov2 (by simp only[List.length_nil,List.getElem_cons_zero];omega) ?_);intro s3 bv3 hc3 zj mj how3 _ _;have xU:CL s1 s3 (fun c=>c=s.next∨s1.next≤c):=ia.trans hc3 (fun _ h=> .inl h) (fun c h=>h.elim (fun h=> .inl (.inl h)) fun h=> .inl (.inr (gp c h))) (by show s.next≤s.next+1;omega);have hv3:Xr s3 v (a::b::l'):=hv.CW (by have:=xU.next;omega) fun c hc=>by
     have:=hv.own hc;rw[xU.heap c (by omega) (by omega),zm c this]
    obtain⟨v',hsl',hvt',hovt'⟩:=hv3.tail;have hlen':=hvt'.len;refine Ld<|Aa<|Es<|qm rfl<|Lo (IQ U B2 D0 U U U ‹_›) rfl<|Lq (Ep U U U U B2 U ‹_›) rfl<|qm rfl<|Ld<|Ch.block ?_;refine Aw (fun x:Nat×AV×St=>([(65,.int .i64 (x.1:Nat)),(64,.int .i64 ((b::l').length:Nat)),(63,v'),(8,.ptr s.next 0),(1,.str sep)],x.2.2)) (fun x=>(b::l').length-x.1)
     (fun x=>x.1≤(b::l').length∧s3.next≤x.2.2.next∧CL s1 x.2.2 (fun c=>c=s.next∨s1.next≤c)∧x.2.2.heap.get s.next=some (.cells [.ptr s.next 0,x.2.1] 102 false)∧YJ x.2.2 5 x.2.1 (a++((b::l').take x.1).flatMap (sep++·))∧(∀c,Ci c x.2.1=true→s1.next≤c))
     (0,bv3,s3) ⟨Qo _,Qj _,xU,zj,?_,?_⟩ rfl (Ao (by repeat' constructor)) ?_
    ·show YJ s3 5 bv3 (a++[]);rw[List.append_nil];exact mj
    ·intro c hc;rcases how3 c hc with h|h
     ·exact gp c h
     ·have:=ia.next;show s1.next≤c;omega
    rintro⟨j,bv,st⟩ ⟨hj,vo,hcj,hgj,hbj,uf⟩;dsimp only at hj vo hcj hgj hbj uf⊢;have az:=hcj.next;have hvj:Xr st v' (b::l'):=hvt'.CW vo fun c hc=>by
     have:=hv.own (hovt' c hc);rw[hcj.heap c (by omega) (by omega),xU.heap c (by omega) (by omega)]
    have hwl:(a++((b::l').take j).flatMap (sep++·)).length=a.length+(Xv ((b::l').take j)+j*sep.length):=by
     rw[Qm,Fv,List.length_take,Nat.min_eq_left hj]
    have hsj:=Fq (l:=b::l') j;have hjm:j*sep.length≤n0:=by rw[fB];exact Nat.mul_le_mul_right _ hj
    have hnj:s.next<st.next:=by omega
    have hovj:Ci s.next bv=false:=by
     cases h:Ci s.next bv with
     |false=>rfl
     |true=>have:=uf _ h;omega
    generalize hw:a++((b::l').take j).flatMap (sep++·)=w at*;focus
     refine Es<|Lq (o2 Ck U U) rfl<|Ld<|Aa ?_;refine Ec U (fun g4=>?_) (fun g4=>?_);have h4:=dT g4;refine Ac<|Aa<|Ch.block<|Es ?_;rotate_left;have h4:=dF g4;refine A1<|AS rfl<|Es ?_;rotate_left
    ·have C6:j<(b::l').length:=by omega
     obtain⟨p,hp,X3⟩:=hvj.at (E:=EK K) C6 Gs D0;have hsj1:=Fq (l:=b::l') (j+1);have hsj2:=Hp C6;have hjm1:j*sep.length+sep.length≤n0:=by rw[fB,←Nat.succ_mul];exact Nat.mul_le_mul_right _ C6
     refine Lq (Ae U B2 D0 U U ‹_›) rfl<|Lo (A2 U U ‹_›) rfl<|qa rfl<|Ld<|Es<|qm U ?_;refine AQ U U (by kernel_rfl) U U U U (HD hK4 oP hgj (.inr U) hnj hbj hovj (by omega) ?_);intro s4 bv4 xj hg4 hb4 how4 _ _;have hn4:=xj.next;have ug:∀c,Ci c bv4=true→s1.next≤c:=fun c hc=>by
      rcases how4 c hc with h|h
      ·exact uf c h
      ·omega
     have hov4:Ci s.next bv4=false:=by
      cases h:Ci s.next bv4 with
      |false=>rfl
      |true=>have:=ug _ h;omega
     refine Ld<|Ai<|qm U ?_;refine AQ U U (by kernel_rfl) U U U U (HD hK4 oP hg4 (.inr U) (by omega) hb4 hov4 (by rw[Qm];omega) ?_);intro s5 bv5 vu hg5 hb5 how5 _ _;have hn5:=vu.next;refine Ld<|Ai ?_;refine Lq (Ap (b:=1) U Ck U U (by omega)) U ?_;refine qm rfl<|Ld ?_;refine⟨(j+1,bv5,s5),⟨C6,by show s3.next≤s5.next;omega,?_,hg5,?_,?_⟩,by show(b::l').length-(j+1)<_;omega,rfl,rfl,Ao (by repeat' constructor)⟩
     ·have e1:CL s1 s4 (fun c=>c=s.next∨s1.next≤c):=hcj.trans xj (fun _ h=>h) (fun c h=>h.elim (fun h=> .inl (.inl h)) fun h=> .inl (.inr (uf c h))) (by show s.next≤s.next+1;omega);exact e1.trans vu (fun _ h=>h) (fun c h=>h.elim (fun h=> .inl (.inl h)) fun h=> .inl (.inr (ug c h))) (by show s.next≤s.next+1;omega)
     ·show YJ s5 5 bv5 (a++((b::l').take (j+1)).flatMap (sep++·));rw[Le C6,←List.append_assoc,←List.append_assoc,hw];exact hb5
     ·intro c hc;show s1.next≤c;rcases how5 c hc with h|h
      ·exact ug c h
      ·omega
    ·have hje:j=(b::l').length:=by omega
     refine AQ U U (by kernel_rfl) U U U U (Qx hK5 hgj hnj hbj (by omega) ?_);intro s6 hc6;refine qa rfl<|Ld<|Ab ?_;have hc7:CL s1 s6 (fun c=>c=s.next∨s1.next≤c):=hcj.trans hc6 (fun _ h=>h) (fun c h=> .inl (.inr (uf c h))) (by show s.next≤s.next+1;omega);have Wm:s6.log=[]:=by
      cases hl:s6.log with
      |nil=>rfl
      |cons c lg=>
       have:=hc7.log c (by rw[hl];exact Qh ..);rcases this with h|⟨h,h'⟩
       ·cases h
       ·have h2:c<s.next:=h;omega
     refine⟨.inl U,_,rfl,_,An U U,DS U (fun _ _=>rfl) (fun _=>rfl) (fun _=>?_) fun h=>absurd Wm h⟩;show R (.str w) s;rw[←hw,hje,List.take_length];exact hR
end
section
variable {K : FuncId → List AV → Option AV} {e0 : TypeId} [ub e0]
theorem uh (hK:K 92=fun _=>none) (xR:K 126=fun _=>none) {s:St} {b0:Nat} {a v:AV} {w:List UInt8} {x:UInt8} (hg:s.heap.get b0=some (.cells [a,v] e0 false)) (ha:a= .CJ∨a= .ptr b0 0)
 (hn:b0<s.next) (hv:YJ s 5 v w) (fo:Ci b0 v=false) (Y1:w.length+1≤1099511627776) {R:AV→St→Prop}
 (hR:∀s' v',CL s s' (fun c=>c=b0∨Ci c v=true)→s'.heap.get b0=some (.cells [.ptr b0 0,v'] e0 false)→YJ s' 5 v' (w++[x])→(∀c,Ci c v'=true→Ci c v=true∨s.next≤c)→(b0<s.bound→s'.log≠ [])→(s.bound≤s.next→Cg s s')→R .C8 s'):
 Wf (EK K) 92 [.ptr b0 0,.int .u8 (x.toNat:Nat)] s R:=by
 refine Wf.gen (fn:=Tryz.f92) (by show K 92 _=none;rw[hK]) (by kernel_rfl) U U U U ?_;refine Es<|qa rfl<|Ld<|Es<|qm U ?_;refine AQ U U (by kernel_rfl) U U U U (Gg xR (s:=s.enter) hg ha hn ?_);intro s1 dy fB eE aB hL1;have lH:YJ s1 5 v w:=hv.CW (s:=s.enter) dy.next fun c hc=>dy.heap c (hv.own hc) fun h=>by rw[h,fo]at hc;cases hc
 have hn1':b0<s1.next:=by rw[fB];exact hn
 refine Ld<|Es ?_;iterate 2 refine qm U ?_
 refine Lq (Ar U U U) rfl<|Lq (of DW U) rfl<|Lo (A2 U U (Aj KI HG ‹_› U)) rfl<|qm rfl<|Lo (Br U DO B3 z_5 U U U) U ?_;have oB:YJ (s1.alloc (.cells [.int .u8 (x.toNat:Nat)] 5 false)) 5 v w:=lH.CW (Nat.le_succ _) fun c hc=>AT (lH.own hc);obtain⟨v',s2,ju,dw,uc,gV,gp,nL,nP⟩:=oB.append (x:=[x]) Y1;have gI:s2.heap.get b0=some (.cells [.ptr b0 0,v] e0 false):=(nP b0 (Nat.lt_succ_of_lt hn1') fo).trans ((AT hn1').trans eE);refine Lo (Ws.append U U U U DO B3 xc z_5 (by kernel_rfl) (by kernel_rfl) U U (new:=byteCells [x]) (n:=1) (E3 (e:=5) (part:=false) BZ U) ju) U ?_;have pV:v'.isTuple=false∧v'.cells.length=1∧over v'.cells (0+1) [.ptr b0 0,v]=some [.ptr b0 0,v']:=by
  rcases dw with⟨rfl,_⟩|⟨_,rfl,_⟩|⟨_,rfl,_⟩<;>exact⟨rfl,rfl,rfl⟩
 refine Lq (Ar U U U) rfl<|Lq (of DW U) rfl<|Ax (Ws.store U HG U U (AB gI pV.2.1 pV.1 pV.2.2)) U rfl<|Ld<|Es<|qa rfl<|Ld<|Ab ?_;have xp:CL s1 s2 (fun c=>Ci c v=true):=⟨Nat.le_trans (Nat.le_succ _) uc,gV,nL,fun c hc ho=>(nP c (Nat.lt_succ_of_lt hc) (by simpa using ho)).trans (AT hc)⟩
 have h3:=(dy.trans xp (own:=fun c=>c=b0∨Ci c v=true) (fun _ h=> .inl h) (fun _ h=> .inl (.inr h)) (Qj _)).trans (CL.put (s:=s2) (b:=b0) (o:=some (.cells [.ptr b0 0,v'] e0 false))) (own:=fun c=>c=b0∨Ci c v=true) (fun _ h=>h) (fun _ h=> .inl (.inl h)) (Qj _);have mV:∀c,Ci c v'=true→c≠b0:=fun c hc h=>by
  rcases gp c hc with h1|h1
  ·rw[h,fo]at h1;cases h1
  ·have:s1.next=s.next:=fB;have e:(s1.alloc (.cells [.int .u8 (x.toNat:Nat)] 5 false)).next=s1.next+1:=rfl;omega
 refine⟨.inl U,_,rfl,_,An U U,_,Ez U (F8 (by rw[show s2.bound=s1.bound from gV,dy.bound];exact hn)),hR _ v' h3.back ?_ ?_ ?_ (fun h=>MS (DJ (by rw[show s2.bound=s1.bound from gV,dy.bound];exact hn)) h) fun h=>Cg.back ((((hL1 (Qj _)).trans (Cg.alloc (by rw[dy.bound,fB];exact Qj _))).trans (El (s:=s1.alloc _) (by rw[show(s1.alloc (.cells [.int .u8 (x.toNat:Nat)] 5 false)).bound=s1.bound from rfl,dy.bound,show(s1.alloc (.cells [.int .u8 (x.toNat:Nat)] 5 false)).next=s1.next+1 from rfl,fB];exact Nat.le_succ _) ju)).trans Cg.put) h⟩
 ·show(s2.put b0 _).heap.get b0=_;rw[AL,if_pos rfl]
 ·exact dw.CW (Qj _) fun c hc=>by
   show(s2.put b0 _).heap.get c=_;rw[AL,if_neg (mV c hc)]
 ·intro c hc;refine(gp c hc).imp id fun h=>?_;have:s1.next=s.next:=fB;have e:(s1.alloc (.cells [.int .u8 (x.toNat:Nat)] 5 false)).next=s1.next+1:=rfl;omega
end
def XI:List (List UInt8):=[[],[99,97,115,101],[111,114],[102,97,105,108],[102,114,101,101],[110,111,100,101],[101,110,116,101,114]]
def Zr:AV:= .agg (XI.map AV.str)
theorem ON:X1 (Y3 Tryz.prog 1200 1200 0 []) 100 ⟨50,[],Zr⟩=true:=by kernel_rfl
theorem eC:VG Tryz.prog 50 [] Zr:=by
 have h2:=Dl AC (m:=[]) (fun e he=>by cases he) ON;exact fun C S w xs c cs hv hS=>h2 [] C S w xs c cs (fun g cs hg=>by cases hg) hv hS
noncomputable def qc:=Wa KL5 50 (fun _:Unit=>[]) (fun _=>Zr)
theorem UE:qc 50 []=some Zr:=
 A3 (f:=50) (enc:=fun _:Unit=>[]) (res:=fun _=>Zr) (fun _ _ _=>rfl) ()
theorem gall6 (h:VG Tryz.prog 10 [] (.bool true)):C9 Tryz.prog eB qc:=
 Bo (gall5 h) fun _=>eC.g
section
variable {K : FuncId → List AV → Option AV}
theorem QL (hK:K 48=fun _=>none) (hJ:K 91=fun _=>none) (xR:K 127=fun _=>none) (oP:K 126=fun _=>none) (hK3:K 163=fun _=>none) (hK4:K 90=fun _=>none)
 (hK5:K 53=fun _=>none) (hK6:K 92=fun _=>none) {s:St} {b0:Nat} {a bv v:AV} {w:List UInt8} {l:List (List UInt8)} (hg:s.heap.get b0=some (.cells [a,bv] 104 false)) (ha:a= .CJ∨a= .ptr b0 0)
 (hn:b0<s.next) (hv:YJ s 5 bv w) (fo:Ci b0 bv=false) (hl:Xr s v l) (ei:Xv l+2*(l.length+1)≤1099511627776) (Y1:w.length+(OK [32] l).length+1≤1099511627776) {R:AV→St→Prop}
 (hR:∀s' v',CL s s' (fun c=>c=b0∨Ci c bv=true)→s'.heap.get b0=some (.cells [.ptr b0 0,v'] 104 false)→YJ s' 5 v' (w++OK [32] l++[10])→(∀c,Ci c v'=true→Ci c bv=true∨s.next≤c)→(s.bound≤s.next→Cg s s')→R (.tuple []) s'):
 Wf (EK K) 48 [.ptr b0 0,v] s R:=by
 refine Wf.unit (fn:=Tryz.f48) (by show K 48 _=none;rw[hK]) (by kernel_rfl) U U U U ?_
 refine As (by kernel_rfl)<|Nq (om U) rfl<|Nq (Ar U U U) rfl<|Nq (of Kt U) rfl<|Nq (om U) rfl<|SF (v:= .str (OK [32] l)) (by kernel_rfl) U U U (ue hJ xR oP hK3 hK4 hK5 (s:=s.enter.sub s.enter.heap) (sep:=[32]) (l:=l) (R:=fun x s2=>x= .str (OK [32] l)∧s2=s.enter.sub s.enter.heap) (hl.CW (Qj _) fun _ _=>rfl) ei ⟨rfl,rfl⟩) (by kernel_rfl) (.inl U) U rfl<|SE (by kernel_rfl) U U U (HD hK4 oP (s:=s.enter.sub s.enter.heap) (b0:=b0) (a:=a) (v:=bv) (w:=w) (x:=OK [32] l) (R:=fun x s2=>∃v',CL (s.enter.sub s.enter.heap) s2 (fun c=>c=b0∨Ci c bv=true)∧s2.heap.get b0=some (.cells [.ptr b0 0,v'] 104 false)∧YJ s2 5 v' (w++OK [32] l)∧(∀c,Ci c v'=true→Ci c bv=true∨s.enter.next≤c)∧Cg (s.enter.sub s.enter.heap) s2) hg ha hn (hv.CW (Qj _) fun _ _=>rfl) fo (by omega) (fun s' v' h1 h2 h3 h4 _ h5=>⟨v',h1,h2,h3,h4,h5 (Qj _)⟩)) (by kernel_rfl) (by kernel_rfl) (.inl U) U U ?_
 rintro x s2 ⟨v1,c1,c2,c3,c4,c5⟩;have lO:=DG (st:=s.enter) c1.next c5 rfl;have mv:s.next≤s2.next:=c1.next;refine⟨c1.next,fun b hb=>?_,fun ez=>?_⟩
 ·rcases c1.log b hb with h|⟨h,_⟩
  ·cases h
  ·exact h
 have ic:=CL.merged (st:=s.enter) c1;have YR:=Cg.region (st:=s.enter) c1.next c5 (Qj _);generalize Xm:s.enter.merged s2=s1 at*;have az:s1.next=s2.next:=by rw[←Xm];rfl
 have eE:s1.heap.get b0=some (.cells [.ptr b0 0,v1] 104 false):=(lO b0 (by omega)).trans c2;have bW:YJ s1 5 v1 (w++OK [32] l):=c3.CW (Nat.le_of_eq az.symm) fun c hc=>lO c (c3.own hc);refine Au<|Ai<|qm rfl<|Lq (Ar U U U) rfl<|Lq (of Kt U) U ?_;have hov1:Ci b0 v1=false:=by
  cases h:Ci b0 v1 with
  |false=>rfl
  |true=>
   rcases c4 b0 h with h|h
   ·rw[h]at fo;cases fo
   ·have:s.enter.next=s.next:=rfl;omega
 refine AQ U U (by kernel_rfl) U U U U (uh hK6 oP (x:=10) eE (.inr U) (by omega) bW hov1 (by rw[Qm];omega) ?_);intro s3 v3 d1 d2 d3 d4 d6 d5;have dz:s1.bound=s.next:=by rw[←Xm];rfl
 have Ym:CL s.enter s3 (fun c=>c=b0∨Ci c bv=true):=ic.trans d1 (fun _ h=>h) (fun c h=>h.elim (fun h=> .inl (.inl h)) fun h=>(c4 c h).imp .inr id) (Qj _);have hsn:s.enter.next=s.next:=rfl;refine Ld ?_;refine⟨.inr U,rfl,fun h=>absurd h (d6 (by omega)),hR _ v3 Ym.back d2 d3 (fun c hc=>?_) fun h=>Cg.back (YR.trans (d5 (by omega))) h⟩;rcases d4 c hc with h|h
 ·rcases c4 c h with h|h
  ·exact .inl h
  ·exact .inr (by omega)
 ·exact .inr (by omega)
end
def xV (l:List UInt8):Nat:=l.foldl (fun a b=>10*a+(b.toNat-48)) 0
theorem RB {n:Nat} (h:n<256):(UInt8.ofNat n).toNat=n:=by
 rw[UInt8.toNat_ofNat'];exact Nat.mod_eq_of_lt h
theorem Rf:∀(d m:Nat),m<10^d→xV (Zd m d)=m
 |0,m,h=>by
  have:m=0:=by simpa using h
  subst this;rfl
 |d+1,m,h=>by
  have ih:=Rf d (m/10) (by rw[Nat.pow_succ]at h;omega);unfold xV at ih⊢;rw[Zd,List.foldl_append,ih];simp only[List.foldl_cons,List.foldl_nil];rw[RB (by omega)];omega
def ui (b:UInt8):Prop:=b.toNat=45∨(48≤b.toNat∧b.toNat≤57)
theorem Hd:∀(d m:Nat),∀b∈Zd m d,48≤b.toNat∧b.toNat≤57
 |0,m,b,h=>by cases h
 |d+1,m,b,h=>by
  rw[Zd,List.mem_append]at h;rcases h with h|h
  ·exact Hd d _ b h
  ·rw[Qp.1 h,RB (by omega)];omega
theorem Nh {n:Nat} (h:n<100):∀b∈Zq n,48≤b.toNat∧b.toNat≤57:=by
 intro b hb;unfold Zq at hb;split at hb
 ·rw[Qp.1 hb,RB (by omega)];omega
 ·rcases Qk.1 hb with hb|hb
  ·rw[hb,RB (by omega)];omega
  ·rw[Qp.1 hb,RB (by omega)];omega
theorem Ss (n:Int):∀b∈Cp n,ui b:=by
 intro b hb;unfold Cp at hb;split at hb
 ·exact .inr (Nh (by omega) b hb)
 ·split at hb
  ·rcases Qk.1 hb with hb|hb
   ·exact .inl (by rw[hb];rfl)
   ·exact .inr (Hd _ _ b hb)
  ·exact .inr (Hd _ _ b hb)
def ival (l:List UInt8):Int:=if l.head?=some 45 then-(xV l.tail:Nat)else(xV l:Nat)
theorem uj {x:UInt8} {A:List (List UInt8)} {b:UInt8} (h:b∈OK [x] A):b=x∨∃w∈A,b∈w:=by
 cases A with
 |nil=>cases h
 |cons a A=>
  rw[OK,List.mem_append]at h;rcases h with h|h
  ·exact .inr ⟨a,Qh,h⟩
  ·obtain⟨w,hw,hb⟩:=List.mem_flatMap.1 h;rcases List.mem_append.1 hb with hb|hb
   ·exact .inl (Qp.1 hb)
   ·exact .inr ⟨w,Qg _ hw,hb⟩
def YV (w:List UInt8):Prop:=32∉w∧10∉w
def CU (L:List (List (List UInt8))):List UInt8:=L.flatMap fun l=>OK [32] l++[10]
def Y8 (p:Zl):List UInt8:=Cp p.1++[58]++Cp p.2
def ke (op:Int):List UInt8:=XI.getD op.toNat []
def zn (x:VI):List (List UInt8):=if x.op=1 then Cp x.a::x.alts.map Y8 else if x.op=2 then x.to.map Cp else if x.op=5 then Cp x.term::Cp x.n::x.args.map Cp else if x.op=6 then [Cp x.a]else []
def af (x:VI):List (List UInt8):=ke x.op::zn x
def ja (p:CD):List (List UInt8):=[[99,111,110],p.1,Cp p.2]
def jb (p:CD) (n:Int):List (List UInt8):=[[102,117,110],p.1,Cp p.2,Cp n]
def lz (c:Cm):List (List (List UInt8)):=c.cons.map ja++(List.zipWith jb c.Co c.Cj++c.ins.map af)
def XD (c:Cm):List UInt8:=CU (lz c)
def Xw (n:Int):Prop:= -10000000<n∧n<10000000
theorem Pw {n:Int} {b:UInt8} (hb:¬ui b):b∉Cp n:=fun h=>hb (Ss n b h)
theorem D6 (n:Int):YV (Cp n):=⟨Pw (by unfold ui;decide),Pw (by unfold ui;decide)⟩
theorem uk (p:Zl):YV (Y8 p):=by
 have h1:=D6 p.1;have h2:=D6 p.2;unfold Y8;constructor
 ·simp only[List.mem_append,Qp,not_or];exact⟨⟨h1.1,by decide⟩,h2.1⟩
 ·simp only[List.mem_append,Qp,not_or];exact⟨⟨h1.2,by decide⟩,h2.2⟩
def altP (p:Zl):Prop:=Xw p.1∧Xw p.2
structure l5 (x:VI):Prop where
 op:1≤x.op∧x.op≤6
 a:Xw x.a
 alts:∀p∈x.alts,altP p
 to:∀n∈x.to,Xw n
 term:Xw x.term
 n:Xw x.n
 args:∀n∈x.args,Xw n
 a0:x.op≠1→x.op≠6→x.a=0
 alts0:x.op≠1→x.alts=[]
 to0:x.op≠2→x.to=[]
 node0:x.op≠5→x.term=0∧x.n=0∧x.args=[]
structure CodeP (c:Cm):Prop where
 cons:∀p∈c.cons,YV p.1∧Xw p.2
 Co:∀p∈c.Co,YV p.1∧Xw p.2
 Cj:∀n∈c.Cj,Xw n
 len:c.Cj.length=c.Co.length
 ins:∀x∈c.ins,l5 x
theorem um (o:Int):YV (ke o):=by
 unfold ke;generalize o.toNat=k;rcases k with _|_|_|_|_|_|_|k;all_goals first|(unfold YV;decide)|(simp[XI,List.getD,YV])
theorem U1 (x:VI):af x≠ []∧∀w∈af x,YV w:=by
 refine⟨by simp[af],fun w hw=>?_⟩;rcases Qk.1 hw with rfl|hw
 ·exact um _
 ·have hl:∀(l:List Int),∀w∈l.map Cp,YV w:=fun l w hw=>by
   obtain⟨n,_,rfl⟩:=List.mem_map.1 hw;exact D6 n
  unfold zn at hw;split at hw
  ·rcases Qk.1 hw with rfl|hw
   ·exact D6 _
   ·obtain⟨n,_,rfl⟩:=List.mem_map.1 hw;exact uk n
  ·split at hw
   ·exact hl _ w hw
   ·split at hw
    ·rcases Qk.1 hw with rfl|hw
     ·exact D6 _
     ·rcases Qk.1 hw with rfl|hw
      ·exact D6 _
      ·exact hl _ w hw
    ·split at hw
     ·rw[Qp.1 hw];exact D6 _
     ·cases hw
theorem Ig {n a b:Int} (h:YK n a b=true):a≤n∧n≤b:=by
 unfold YK at h;rw[Qf]at h;exact⟨dT h.1,dT h.2⟩
theorem SW {p:Int→Bool}:∀ {w:List UInt8},tw p w=w.length→∀b∈w,p b.toNat=true
 | [],_,_,h=>by cases h
 |c::w,h,b,hb=>by
  cases hc:p c.toNat with
  |false=>simp[tw,hc]at h
  |true=>
   have e:tw p (c::w)=tw p w+1:=by simp[tw,hc]
   rcases Qk.1 hb with rfl|hb
   ·exact hc
   ·exact SW (by rw[e]at h;simpa using h) b hb
theorem Uj {w:List UInt8} (h:YU w=true):YV w:=by
 unfold YU at h;rw[Qf]at h;have h1:=SW (dT h.1);exact⟨fun hb=>absurd (h1 _ hb) (by decide),fun hb=>absurd (h1 _ hb) (by decide)⟩
theorem Mv:∀ {l:List CD} {bs cs:List (List UInt8)},VO bs l=some cs→∀p∈l,YV p.1∧Xw p.2
 | [],_,_,_,_,hp=>by cases hp
 |q::l,bs,cs,h,p,hp=>by
  unfold VO at h;split at h
  ·next ho=>
   rcases Qk.1 hp with rfl|hp
   ·unfold j1 at ho;rw[Qf,Qf]at ho;have:=Ig ho.2.2;exact⟨Uj ho.2.1,by unfold Xw;omega⟩
   ·exact Mv h p hp
  ·cases h
theorem NN {α:Type} {l:List α} (h:decide ((l.length:Int)=0)=true):l=[]:=by
 have:=dT h;exact List.length_eq_zero_iff.1 (by omega)
theorem Mt {x:VI} (h:Xs x=true):x.term=0∧x.n=0∧x.args=[]:=by
 unfold Xs at h;rw[Qf,Qf]at h;exact⟨dT h.1,dT h.2.1,NN h.2.2⟩
theorem NL {α:Type} {l:List α} {d:α} {q:α→Prop} (h:∀i,i<l.length→q (l.getD i d)):∀p∈l,q p:=by
 intro p hp;obtain⟨i,hi,rfl⟩:=List.getElem_of_mem hp;have:=h i hi;rwa[Dj hi]at this
theorem Ui:Xw 0:=by unfold Xw;omega
theorem xW {c : Cm} {k : Nat} {x : VI} (hc : c.cons.length ≤ 12) (hf : c.Co.length ≤ 8) (hi : c.ins.length ≤ 1000) (h : Yh c k x = true) : l5 x := by
 have nil : ∀ {α : Type} {l : List α} {q : α → Prop}, l = [] → ∀ p ∈ l, q p := fun e p hp => by rw [e] at hp; cases hp
 unfold Yh at h;split at h
 ·next ho =>
  rw [Qf, Qf, Qf] at h;obtain ⟨h1, h2, h3, h4⟩ := h;obtain ⟨e1, e2, e3⟩ := Mt h1;have ha := Ig h3;refine ⟨by omega, by unfold Xw; omega, NL (d := (0, 0)) fun i hi => ?_, nil (NN h2), by rw [e1]; exact Ui, by rw [e2]; exact Ui, nil e3, fun hh => absurd ho hh, fun hh => absurd ho hh, fun _ => NN h2, fun _ => ⟨e1, e2, e3⟩⟩;have := RU h4 hi;unfold cU at this;rw [Qf, Qf] at this;have h5 := Ig this.1.1;have h6 := Ig this.2;unfold altP Xw;omega
 ·split at h
  ·next ho1 ho =>
   rw [Qf, Qf, Qf] at h;obtain ⟨h1, h2, h3, h4⟩ := h;obtain ⟨e1, e2, e3⟩ := Mt h1;have ha := dT h2;refine ⟨by omega, by rw [ha]; exact Ui, nil (NN h3), NL (d := 0) fun i hi => ?_, by rw [e1]; exact Ui, by rw [e2]; exact Ui, nil e3, fun _ _ => ha, fun _ => NN h3, fun hh => absurd ho hh, fun _ => ⟨e1, e2, e3⟩⟩;unfold XP at h4;rw [Qf] at h4;have h5 := RU h4.1 hi;unfold cV at h5;have h6 := Ig h5;unfold Xw;omega
  ·split at h
   ·next ho =>
    rw [Qf, Qf, Qf] at h;obtain ⟨h1, h2, h3, h4⟩ := h;obtain ⟨e1, e2, e3⟩ := Mt h1;have ha := dT h2;exact ⟨by omega, by rw [ha]; exact Ui, nil (NN h3), nil (NN h4), by rw [e1]; exact Ui, by rw [e2]; exact Ui, nil e3, fun _ _ => ha, fun _ => NN h3, fun _ => NN h4, fun _ => ⟨e1, e2, e3⟩⟩
   ·split at h
    ·next ho =>
     rw [Qf, Qf, Qf, Qf] at h;obtain ⟨h1, h2, h3, h4, h5⟩ := h;have ha := dT h1;have hn : Xw x.term ∧ Xw x.n := by
      unfold Yt Xf at h5;unfold Xw;split at h5
      ·rw [Qf] at h5;have := Ig h5.2;omega
      ·split at h5
       ·rw [Qf] at h5;have := Ig h5.1;omega
       ·split at h5
        ·rw [Qf] at h5;have := Ig h5.1;omega
        ·split at h5
         ·rw [Qf] at h5;have := Ig h5.1;omega
         ·split at h5
          ·rw [Qf] at h5;have := dT h5.1;omega
          ·cases h5
     refine ⟨by omega, by rw [ha]; exact Ui, nil (NN h2), nil (NN h3), hn.1, hn.2, NL (d := 0) fun i hi => ?_, fun _ _ => ha, fun _ => NN h2, fun _ => NN h3, fun hh => absurd ho hh⟩;unfold bg at h4;have := Ig (RU h4 hi);unfold Xw;omega
    ·split at h
     ·next ho =>
      rw [Qf, Qf, Qf] at h;obtain ⟨h1, h2, h3, h4⟩ := h;obtain ⟨e1, e2, e3⟩ := Mt h1;have ha := Ig h4;exact ⟨by omega, by unfold Xw; omega, nil (NN h2), nil (NN h3), by rw [e1]; exact Ui, by rw [e2]; exact Ui, nil e3, fun _ hh => absurd ho hh, fun _ => NN h2, fun _ => NN h3, fun _ => ⟨e1, e2, e3⟩⟩
     ·cases h
structure CodeS (c:Cm):Prop where
 cons:c.cons.length≤12
 Co:c.Co.length≤8
 ins:c.ins.length≤1000
 Cj:c.Cj.length=c.Co.length
theorem MN {c:Cm} (h:CV c=true):CodeS c:=by
 unfold CV Zz Zc at h;simp only[Qf,Bool.not_eq_true',Bool.or_eq_false_iff]at h;obtain⟨⟨⟨⟨⟨⟨h1,h2⟩,_⟩,_⟩,_⟩,h3,h4⟩,_⟩:=h;have h1:=Ig h1;have h2:=dT h2;have h3:=dF h3;have h4:((c.Cj.length:Nat):Int)=c.Co.length:=by
  cases hd:decide (((c.Cj.length:Nat):Int)=c.Co.length)with
  |true=>exact dT hd
  |false=>rw[hd]at h4;cases h4
 exact⟨by omega,by omega,by omega,by omega⟩
theorem MO {c:Cm} (h:CV c=true):CodeP c:=by
 have hs:=MN h;unfold CV Zz Zc at h;rw[Qf,Qf (a:=(List.range _).all _),Qf,Qf]at h;obtain⟨⟨⟨_,hn⟩,_⟩,Xp,yE⟩:=h;have hN:∃l l',VO [] c.cons=some l∧VO l c.Co=some l':=by
  cases h1:VO [] c.cons with
  |none=>rw[h1]at hn;cases hn
  |some l=>
   rw[h1]at hn;dsimp only at hn;cases h2:VO l c.Co with
   |none=>rw[h2]at hn;cases hn
   |some l'=>exact⟨l,l',rfl,h2⟩
 obtain⟨l,l',h1,h2⟩:=hN;refine⟨Mv h1,Mv h2,NL (d:=0) fun i hi=>?_,hs.Cj,?_⟩
 ·have:=Ig (RU Xp hi);have:=hs.ins;unfold Xw;omega
 ·exact NL (d:=(⟨0,0,[],[],0,0,[]⟩:VI)) fun i hi=>xW (k:=i) hs.cons hs.Co hs.ins (RU yE hi)
theorem JP {s:St} {v iv:AV} {ws:List (List UInt8)} {l:List Int} (hv:Wt s 9 v (ws.map .str)) (hl:X2 s iv (l.map (.int .i64))) (hd:∀c,Ci c v=true→Ci c iv=false) (aE:∀n∈l,Xw n) (Y1:ws.length+l.length≤8000) {R:AV→St→Prop}
 (hR:∀s' v',CL s s' (fun c=>Ci c v=true)→Wt s' 9 v' ((ws++l.map Cp).map .str)→(∀c,Ci c v'=true→Ci c v=true∨s.next≤c)→(s.bound≤s.next→Cg s s')→R v' s'):
 Wf (EK qc) 49 [v,iv] s R:=by
 refine Wf.gen (fn:=Tryz.f49) (by rfl) (by kernel_rfl) U U U U ?_;have hlen:=(show X2 s.enter iv (l.map (.int .i64))from hl).len;rw[Qn]at hlen;refine Es<|qa rfl<|Ld<|Aa<|Es<|qm rfl<|Lq (Ep U U U U Ea U ‹_›) rfl<|qm rfl<|Ld<|Ch.block ?_;refine Aw (fun x:Nat×AV×St=>([(9,.int .i64 (x.1:Nat)),(8,.int .i64 (l.length:Nat)),(7,iv),(0,x.2.1)],x.2.2)) (fun x=>l.length-x.1)
  (fun x=>x.1≤l.length∧CL s.enter x.2.2 (fun c=>Ci c v=true)∧Cg s.enter x.2.2∧Wt x.2.2 9 x.2.1 ((ws++(l.take x.1).map Cp).map .str)∧((x.1=0∧x.2.1=v)∨∀c,Ci c x.2.1=true→s.next≤c))
  (0,v,s.enter) ⟨Qo _,CL.refl,Cg.refl,by rw[List.take_zero,List.map_nil,List.append_nil];exact hv,.inl ⟨rfl,rfl⟩⟩ rfl (Ao (by repeat' constructor)) ?_
 rintro⟨i,vi,st⟩ ⟨hi,hc,YR,hf,ho⟩;dsimp only at hi hc YR hf ho⊢;have dE:∀c,Ci c vi=true→Ci c v=true∨s.next≤c:=fun c h=>by
  rcases ho with⟨_,rfl⟩|ho
  ·exact .inl h
  ·exact .inr (ho c h)
 have hli:X2 st iv (l.map (.int .i64)):=hl.CW hc.next fun c h=>hc.heap c (hl.own h) fun h2=>by rw[hd c h2]at h;cases h
 by_cases h:i<l.length
 ·obtain⟨p,hp,X3⟩:=hli.at (E:=EK qc) (i:=i) (by rw[Qn];exact h) Bv Bb;rw[List.getElem_map]at X3;have hn:=aE l[i] (Ql _);focus
   refine Es<|Lq (o2 Ck U U) rfl<|Ld<|Aa ?_;refine Ec U (fun g1=>?_) (fun g1=>?_);have h1:=dT g1;refine Ac<|Aa<|Ch.block<|Es<|Lq (Ae U Ea Bb U U ‹_›) rfl<|Lo (A2 U U ‹_›) rfl<|qa rfl<|Ld<|Ai ?_;iterate 2 refine qm U ?_
   refine Lo (Ad U U (by kernel_rfl) U (Cb.Cs (UD (by first|omega|assumption)))) U ?_;refine Lo (Br U B2 D0 pE U U U) U ?_;rotate_left;have h1:=dF g1;exact absurd h1 (by omega)
  have hf1:Wt (st.alloc (.cells [.str (Cp l[i])] 9 false)) 9 vi ((ws++(l.take i).map Cp).map .str):=hf.CW (Nat.le_succ _) fun c hc=>AT (hf.own hc);have VX:((ws++(l.take i).map Cp).map AV.str).length=ws.length+i:=by rw[Qn,Qm,Qn,List.length_take,Nat.min_eq_left hi]
  obtain⟨v',s2,ju,hf2,gp,uc,gV,nL,nP⟩:=hf1.append (WJ:=16) (x:= .str (Cp l[i])) (by
   rw[VX];unfold small;rw[Qd (by omega:(ws.length+i+1)*16≤1099511627776),Qd (by omega:ws.length+i+1≤1099511627776)];rfl)
  have hnx2':s2.next=st.next+1+1:=uc;refine Lo (Ws.append U U U U B2 D0 nJ pE (by kernel_rfl) (by kernel_rfl) U U (new:=[.str (Cp l[i])]) (n:=1) (E3 (e:=9) (part:=false) BZ U) ju) rfl<|qa rfl<|Ld<|Ai ?_;refine Lq (Ap (b:=1) U Ck U U (by omega)) U ?_;refine qm rfl<|Ld ?_;have xi:CL st s2 (fun c=>Ci c vi=true):=⟨by omega,gV,nL,fun c hc ho=>(nP c (Nat.lt_succ_of_lt hc) (by simpa using ho)).trans (AT hc)⟩
  have az:=hc.next;refine⟨(i+1,v',s2),⟨h,hc.trans xi (fun _ h=>h) (fun c h=>dE c h) (Qj _),YR.trans ((Cg.alloc (by rw[hc.bound];exact az)).trans (El (s:=st.alloc _) (by
   show st.bound≤st.next+1;rw[hc.bound];exact Nat.le_trans az (Nat.le_succ _)) ju)),?_,.inr fun c h=>?_⟩,by show l.length-(i+1)<l.length-i;omega,rfl,rfl,Ao (by repeat' constructor)⟩
  ·have e:(ws++(l.take (i+1)).map Cp).map AV.str=(ws++(l.take i).map Cp).map .str++[.str (Cp l[i])]:=by
    rw[List.take_succ_eq_append_getElem h,List.map_append (l₂:=[l[i]]),←List.append_assoc,List.map_append (l₂:=[l[i]].map Cp)];rfl
   show Wt s2 9 v' ((ws++(l.take (i+1)).map Cp).map .str);rw[e];exact hf2
  ·have:=gp c h;have e:(st.alloc (.cells [.str (Cp l[i])] 9 false)).next=st.next+1:=rfl;have e2:s.enter.next=s.next:=rfl;omega
 ·focus
   refine Es<|Lq (o2 Ck U U) rfl<|Ld<|Aa ?_;refine Ec U (fun g1=>?_) (fun g1=>?_);have h1:=dT g1;exact absurd h1 (by omega);have h1:=dF g1;refine A1<|AS rfl<|Es<|qm rfl<|qa rfl<|Ld ?_;rotate_left
  have vg:i=l.length:=by omega
  subst vg;rw[List.take_length]at hf;refine Ab ?_;refine⟨.inl U,_,rfl,_,An U U,Uw U (fun X9 hu=>?_) (hR _ vi hc.back hf dE fun hb=>Cg.back YR hb)⟩;rcases ho with⟨h0,rfl⟩|ho
  ·have:l=[]:=List.length_eq_zero_iff.1 h0;subst this;exact hR s vi CL.refl (by rw[List.map_nil,List.append_nil];exact hv) (fun c h=> .inl h) fun _=>Cg.refl
  ·rw[ZM,hf.under ho 39]at hu;cases hu
structure Wr (c:Cm) (n:Nat) (st:St) (w:List UInt8):Prop where
 code:st.heap.get 0=some (.cells (CG c) 28 false)
 ex:∃a bv,st.heap.get 1=some (.cells [a,bv] 104 false)∧(a= .CJ∨a= .ptr 1 0)∧YJ st 5 bv w∧∀k,Ci k bv=true→2≤k∧k<n
 two:2≤n
 le:n≤st.next
 bound:st.bound=0
 log:st.log=[]
theorem Wr.CW {c:Cm} {n:Nat} {st Zw:St} {w:List UInt8} (h:Wr c n st w) (hh:∀k,k<n→Zw.heap.get k=st.heap.get k) (hn:st.next≤Zw.next) (hb:Zw.bound=0) (hl:Zw.log=[]):Wr c n Zw w:=by
 obtain⟨h1,⟨a,bv,h2,h3,h4,h5⟩,h6,h7,_,_⟩:=h;exact⟨(hh 0 (by omega)).trans h1,⟨a,bv,(hh 1 (by omega)).trans h2,h3,h4.CW hn fun k hk=>hh k (h5 k hk).2,h5⟩,h6,by omega,hb,hl⟩
theorem Wr.alloc {c:Cm} {n:Nat} {st:St} {w:List UInt8} {o:CB} (h:Wr c n st w):Wr c n (st.alloc o) w:=
 h.CW (fun k hk=>AT (by have:=h.le;omega)) (Nat.le_succ _) h.bound h.log
theorem Wr.put {c:Cm} {n b:Nat} {st:St} {w:List UInt8} {o:Option CB} (h:Wr c n st w) (hb:n≤b):Wr c n (st.put b o) w:=
 h.CW (fun k hk=>by rw[AL,if_neg (by omega)]) (Qj _) h.bound (by
  show(bif Nat.blt b st.bound then Xt b st.log else st.log)=[]
  rw[h.bound];exact h.log)
theorem I9 {s s':St} {own:Nat→Prop} (h:CL s s' own) (hb:s.bound=0) (hl:s.log=[]):s'.log=[]:=by
 cases hs:s'.log with
 |nil=>rfl
 |cons k r=>
  rcases h.log k (by rw[hs];exact Qh)with h|⟨h,_⟩
  ·rw[hl]at h;cases h
  ·omega
theorem Wr.bJ {c:Cm} {n:Nat} {s s':St} {w:List UInt8} {own:Nat→Prop} (h:Wr c n s w) (hc:CL s s' own) (ho:∀k,own k→n≤k):Wr c n s' w:=
 h.CW (fun k hk=>hc.heap k (by have:=h.le;omega) fun hh=>by have:=ho k hh;omega) hc.next (hc.bound.trans h.bound) (I9 hc h.bound h.log)
theorem Wr.lists {c:Cm} {n:Nat} {st:St} {w:List UInt8} (h:Wr c n st w) {A:List (List UInt8)} {B:List Int} (hA:A≠ []) {ka kb:Nat} (ha:ka=A.length) (hb:kb=B.length):
 Wr c n ((st.alloc (.cells (A.map .str) 9 false)).alloc (.cells (B.map (.int .i64)) 3 false)) w∧
 Wt ((st.alloc (.cells (A.map .str) 9 false)).alloc (.cells (B.map (.int .i64)) 3 false)) 9 (.slice st.next 0 ka 1 (some ka)) (A.map .str)∧
 X2 ((st.alloc (.cells (A.map .str) 9 false)).alloc (.cells (B.map (.int .i64)) 3 false)) (.slice (st.next+1) 0 kb 1 (some kb)) (B.map (.int .i64))∧
 (∀k,Ci k (.slice st.next 0 ka 1 (some ka))=true→n≤k)∧(∀k,Ci k (.slice st.next 0 ka 1 (some ka))=true→Ci k (.slice (st.next+1) 0 kb 1 (some kb))=false):=
 ⟨h.alloc.alloc,Wt.new (part:=false) ((AT (Nat.lt_succ_self _)).trans BZ) (by show st.next<st.next+1+1;omega) (by simpa using hA) (by rw[Qn];exact ha),X2.new (e:=3) (part:=false) BZ (Nat.lt_succ_self _) (by rw[Qn];exact hb),
  fun k hk=>by have:st.next=k:=Qb hk;have:=h.le;omega,fun k hk=>by
   have:st.next=k:=Qb hk;show Nat.beq (st.next+1) k=false;cases hb:Nat.beq (st.next+1) k with
   |false=>rfl
   |true=>have:=Qb hb;omega⟩
theorem Wr.line {c:Cm} {n:Nat} {s:St} {w:List UInt8} (h:Wr c n s w) {v:AV} {l:List (List UInt8)} (hl:Xr s v l) (ei:Xv l+2*(l.length+1)≤1000000) (Y1:w.length≤100000000000) {R:AV→St→Prop}
 (hR:∀s',Wr c s'.next s' (w++(OK [32] l++[10]))→(OK [32] l).length≤1000000→R (.tuple []) s'):Wf (EK qc) 48 [.ptr 1 0,v] s R:=by
 obtain⟨h1,⟨a,bv,h2,h3,h4,h5⟩,h6,h7,h8,h9⟩:=h;have fo:Ci 1 bv=false:=by
  cases hh:Ci 1 bv with
  |false=>rfl
  |true=>have:=(h5 1 hh).1;omega
 have hj:(OK [32] l).length≤1000000:=by
  cases l with
  |nil=>show 0≤1000000;omega
  |cons a l=>
   rw[OK,Qm,Fv];rw[show Xv (a::l)=a.length+Xv l by simp[Xv]]at ei;simp only[List.length_cons,List.length_nil]at ei⊢;omega
 refine QL U U U U U U U U h2 h3 (by omega) h4 fo hl (by omega) (by omega) fun s' v' c1 c2 c3 c4 _=>hR s' ?_ hj;have az:=c1.next;refine⟨(c1.heap 0 (by omega) ?_).trans h1,⟨_,v',c2,.inr U,by rw[←List.append_assoc];exact c3,fun k hk=>⟨?_,c3.own hk⟩⟩,by omega,Qj _,c1.bound.trans h8,I9 c1 h8 h9⟩
 ·rintro(h|h)
  ·cases h
  ·have:=(h5 0 h).1;omega
 ·rcases c4 k hk with h|h
  ·exact(h5 k h).1
  ·omega
theorem Wr.numbers {c:Cm} {n:Nat} {s:St} {w:List UInt8} (h:Wr c n s w) {v iv:AV} {ws:List (List UInt8)} {l:List Int} (hv:Wt s 9 v (ws.map .str)) (hvn:∀k,Ci k v=true→n≤k) (hl:X2 s iv (l.map (.int .i64))) (hd:∀c,Ci c v=true→Ci c iv=false) (aE:∀n∈l,Xw n)
 (Y1:ws.length+l.length≤8000) {R:AV→St→Prop} (hR:∀s' v',Wr c n s' w→Wt s' 9 v' ((ws++l.map Cp).map .str)→(∀k,Ci k v'=true→n≤k)→s.next≤s'.next→(∀k,k<s.next→Ci k v=false→s'.heap.get k=s.heap.get k)→R v' s'):
 Wf (EK qc) 49 [v,iv] s R:=by
 have hle:=h.le;refine JP hv hl hd aE Y1 fun s' v' c1 c2 c3 _=>hR s' v' (h.CW (fun k hk=>c1.heap k (by omega) fun ho=>by have:=hvn k ho;omega) c1.next (c1.bound.trans h.bound) (I9 c1 h.bound h.log)) c2 (fun k hk=>?_) c1.next fun k hk ho=>c1.heap k hk (by simpa using ho);rcases c3 k hk with h|h
 ·exact hvn k h
 ·omega
theorem Wr.jc {c:Cm} {n:Nat} {st:St} {w:List UInt8} (h:Wr c n st w) {v iv:AV} {ws:List (List UInt8)} {l:List Int} (hv:Wt st 9 v (ws.map .str)) (hvn:∀k,Ci k v=true→n≤k) (hl:X2 st iv (l.map (.int .i64))) (hd:∀c,Ci c v=true→Ci c iv=false) (aE:∀n∈l,Xw n)
 (Y1:ws.length+l.length≤8000):
 Wf (EK qc) 49 [v,iv] (st.sub st.heap) fun v' s2=>st.next≤s2.next∧(∀b∈s2.log,b<st.next)∧Wr c n (st.merged s2) w∧Wt (st.merged s2) 9 v' ((ws++l.map Cp).map .str)∧(∀k,Ci k v'=true→n≤k)∧(∀k,k<st.next→Ci k v=false→(st.merged s2).heap.get k=st.heap.get k)∧(∀b∈s2.log,Ci b v=true):=by
 have hle:=h.le;refine JP (s:=st.sub st.heap) (hv.CW (Qj _) fun _ _=>rfl) (hl.CW (Qj _) fun _ _=>rfl) hd aE Y1 fun s' v' c1 c2 c3 c5=>?_;have c5:=c5 (Qj _);have lO:=DG (st:=st) c1.next c5 rfl;have ic:=CL.merged (st:=st) c1;have az:st.next≤s'.next:=c1.next;refine⟨az,fun b hb=>?_,h.CW (fun k hk=>ic.heap k (by omega) fun ho=>by have:=hvn k ho;omega) ic.next (ic.bound.trans h.bound) (I9 ic h.bound h.log),c2.CW (Qj _) fun k hk=>lO k (c2.own hk),fun k hk=>?_,fun k hk ho=>ic.heap k hk (by simpa using ho),fun b hb=>?_⟩
 ·rcases c1.log b hb with h|⟨h,_⟩
  ·cases h
  ·exact h
 ·rcases c3 k hk with h|h
  ·exact hvn k h
  ·have:(st.sub st.heap).next=st.next:=rfl;omega
 ·rcases c1.log b hb with h|⟨_,h⟩
  ·cases h
  ·exact h
theorem Wr.mN {c:Cm} {n:Nat} {C:St} {w:List UInt8} (h:Wr c n C w) {v:AV} {ws:List (List UInt8)} {B:List Int} {kb:Nat} (hv:Wt C 9 v (ws.map .str)) (hvn:∀k,Ci k v=true→n≤k) (hb:kb=B.length) (aE:∀n∈B,Xw n) (Y1:ws.length+B.length≤8000)
 {R:AV→St→Prop} (hR:∀s' v',Wr c n s' w→Wt s' 9 v' ((ws++B.map Cp).map .str)→(∀k,Ci k v'=true→n≤k)→C.next≤s'.next→(∀k,k<C.next→Ci k v=false→s'.heap.get k=C.heap.get k)→R v' s'):
 Wf (EK qc) 49 [v,.slice C.next 0 kb 1 (some kb)] (C.alloc (.cells (B.map (.int .i64)) 3 false)) R:=
 h.alloc.numbers (hv.CW (Nat.le_succ _) fun k hk=>AT (hv.own hk)) hvn (X2.new (e:=3) (part:=false) BZ (Nat.lt_succ_self _) (by rw[Qn];exact hb)) (fun k hk=>by
  have:=hv.own hk;show Nat.beq C.next k=false;cases hb:Nat.beq C.next k with
  |false=>rfl
  |true=>have:=Qb hb;omega) aE Y1 fun s' v' h1 h2 h3 h4 h5=>hR s' v' h1 h2 h3 (Nat.le_of_succ_le h4) fun k hk ho=>(h5 k (Nat.lt_succ_of_lt hk) ho).trans (AT hk)
theorem X2.fresh {C:St} {v:AV} {e:TypeId} {cs:List AV} {kb:Nat} (hv:Wt C e v cs):∀k,Ci k v=true→Ci k (.slice C.next 0 kb 1 (some kb))=false:=fun k hk=>by
 have:=hv.own hk;show Nat.beq C.next k=false;cases hb:Nat.beq C.next k with
 |false=>rfl
 |true=>have:=Qb hb;omega
theorem Wr.lineN {c:Cm} {n:Nat} {st:St} {w:List UInt8} (h:Wr c n st w) {v:AV} {l:List (List UInt8)} (hl:Xr st v l) (ei:Xv l+2*(l.length+1)≤1000000) (Y1:w.length≤100000000000):
 Wf (EK qc) 48 [.ptr 1 0,v] (st.sub st.heap) fun _ s2=>st.next≤s2.next∧(∀b∈s2.log,b<st.next)∧Wr c (st.merged s2).next (st.merged s2) (w++(OK [32] l++[10]))∧(OK [32] l).length≤1000000:=by
 obtain⟨h1,⟨a,bv,h2,h3,h4,h5⟩,h6,h7,h8,h9⟩:=h;have fo:Ci 1 bv=false:=by
  cases hh:Ci 1 bv with
  |false=>rfl
  |true=>have:=(h5 1 hh).1;omega
 have hj:(OK [32] l).length≤1000000:=by
  cases l with
  |nil=>show 0≤1000000;omega
  |cons a l=>
   rw[OK,Qm,Fv];rw[show Xv (a::l)=a.length+Xv l by simp[Xv]]at ei;simp only[List.length_cons,List.length_nil]at ei⊢;omega
 refine QL (s:=st.sub st.heap) U U U U U U U U h2 h3 (show 1<st.next by omega) (h4.CW (Qj _) fun _ _=>rfl) fo (hl.CW (Qj _) fun _ _=>rfl) (by omega) (by omega) fun s' v' c1 c2 c3 c4 c5=>?_;have c5:=c5 (Qj _);have lO:=DG (st:=st) c1.next c5 rfl;have ic:=CL.merged (st:=st) c1;have az:st.next≤s'.next:=c1.next;have hmn:(st.merged s').next=s'.next:=rfl;refine⟨az,fun b hb=>?_,⟨(ic.heap 0 (by omega) ?_).trans h1,⟨_,v',(lO 1 (by omega)).trans c2,.inr U,?_,fun k hk=>⟨?_,c3.own hk⟩⟩,by omega,Qj _,ic.bound.trans h8,I9 ic h8 h9⟩,hj⟩
 ·rcases c1.log b hb with h|⟨h,_⟩
  ·cases h
  ·exact h
 ·rintro(h|h)
  ·cases h
  ·have:=(h5 0 h).1;omega
 ·rw[←List.append_assoc];exact c3.CW (Qj _) fun k hk=>lO k (c3.own hk)
 ·rcases c4 k hk with h|h
  ·exact(h5 k h).1
  ·have:(st.sub st.heap).next=st.next:=rfl;omega
theorem Ky:∀(d m:Nat),(Zd m d).length=d
 |0,_=>rfl
 |d+1,m=>by rw[Zd,Qm,Ky d];rfl
theorem B6 {n:Int} (h:Xw n):(Cp n).length≤8:=by
 obtain⟨h0,h1⟩:=h;unfold Cp;split
 ·unfold Zq;split
  ·show 1≤8;omega
  ·show 2≤8;omega
 ·split
  ·rw[List.length_cons,Ky];have:=(JR (m:=n.natAbs) (by omega) (by omega)).2.1;omega
  ·rw[Ky];have:=(JR (m:=n.natAbs) (by omega) (by omega)).2.1;omega
theorem uo {k:Nat}:∀ {l:List (List UInt8)},(∀w∈l,w.length≤k)→Xv l≤l.length*k
 | [],_=>Qo _
 |a::l,h=>by
  have:=uo (k:=k) (l:=l) fun w hw=>h w (Qg _ hw);have h1:=h a Qh;rw[show Xv (a::l)=a.length+Xv l by simp[Xv],List.length_cons,Nat.succ_mul];omega
theorem DP (A B:List (List (List UInt8))):CU (A++B)=CU A++CU B:=by unfold CU;rw[List.flatMap_append]
theorem J2 (l:List (List UInt8)):CU [l]=OK [32] l++[10]:=by unfold CU;simp
def Zm (c:Cm) (i:Nat):List (List (List UInt8)):=(c.cons.take i).map ja
theorem KB {c:Cm} {i:Nat} (h:i<c.cons.length):CU (Zm c (i+1))=CU (Zm c i)++(OK [32] (ja c.cons[i])++[10]):=by
 unfold Zm;rw[List.take_succ_eq_append_getElem h,List.map_append,DP,←J2];rfl
def cf (c:Cm) (i:Nat):List (List (List UInt8)):=(List.zipWith jb c.Co c.Cj).take i
theorem M7 {c:Cm} {i:Nat} (h:i<c.Co.length) (h':i<c.Cj.length):CU (cf c (i+1))=CU (cf c i)++(OK [32] (jb c.Co[i] c.Cj[i])++[10]):=by
 unfold cf;rw[List.take_succ_eq_append_getElem (by rw[List.length_zipWith];omega),DP,←J2,List.getElem_zipWith]
def cg (c:Cm) (i:Nat):List (List (List UInt8)):=(c.ins.take i).map af
theorem M0 {c:Cm} {i:Nat} (h:i<c.ins.length):CU (cg c (i+1))=CU (cg c i)++(OK [32] (af c.ins[i])++[10]):=by
 unfold cg;rw[List.take_succ_eq_append_getElem h,List.map_append,DP,←J2];rfl
theorem word7 {K:FuncId→List AV→Option AV} {l:Sl} {o:Oper} {y i:Operand} {k:IntKind} {op:Int} (h:1≤op∧op≤6) (ho:o.op= .index 108 y i) (hx:Ce y l=some Zr) (hi:Ce i l=some (.int k op)):Wj (EK K) o l (.str (ke op)):=by
 obtain⟨n,rfl⟩:∃n:Nat,op=n:=⟨op.toNat,by omega⟩
 refine BU ho KV Gs D0 hx hi (by omega) ?_;obtain rfl|rfl|rfl|rfl|rfl|rfl:n=1∨n=2∨n=3∨n=4∨n=5∨n=6:=by omega
 all_goals rfl
theorem JT {x:VI} (h:x.term=0∧x.n=0∧x.args=[]):Xs x=true:=by
 unfold Xs;rw[h.1,h.2.1,h.2.2];rfl
theorem uq {x:VI} (h:l5 x):VY x=if x.op=1 then .looks x.a x.alts else if x.op=2 then .goes x.to else if x.op=3 then .mL else if x.op=4 then .mM else if x.op=5 then .makes x.term x.n x.args else .enters x.a:=by
 obtain⟨o,a,al,to,te,n,ar⟩:=x;obtain⟨x1,x2,x3,x4,x5,x6,x7,x8,x9,x10,x11⟩:=h;dsimp only at*;obtain rfl|rfl|rfl|rfl|rfl|rfl:o=1∨o=2∨o=3∨o=4∨o=5∨o=6:=by omega
 ·have:=x10 (by omega);have:=x11 (by omega);have:=JT (x:=⟨1,a,al,to,te,n,ar⟩) this;subst to;unfold VY oO mZ eF;rw[this];rfl
 ·have:=x8 (by omega) (by omega);have:=x9 (by omega);have:=x11 (by omega);have:=JT (x:=⟨2,a,al,to,te,n,ar⟩) this;subst a al;unfold VY oO nM mK lQ eF;rw[this];rfl
 ·have:=x8 (by omega) (by omega);have:=x9 (by omega);have:=x10 (by omega);have:=x11 (by omega);have:=JT (x:=⟨3,a,al,to,te,n,ar⟩) this;subst a al to;unfold VY oO nM na mK lQ eF;rw[this];rfl
 ·have:=x8 (by omega) (by omega);have:=x9 (by omega);have:=x10 (by omega);have:=x11 (by omega);have:=JT (x:=⟨4,a,al,to,te,n,ar⟩) this;subst a al to;unfold VY oO nM na nN mK lQ eF;rw[this];rfl
 ·have:=x8 (by omega) (by omega);have:=x9 (by omega);have:=x10 (by omega);subst a al to;rfl
 ·have:=x9 (by omega);have:=x10 (by omega);have:=x11 (by omega);have:=JT (x:=⟨6,a,al,to,te,n,ar⟩) this;subst al to;unfold VY oO nM na nN pZ qb mK lQ eF;rw[this];rfl
theorem op_len (o:Int):(ke o).length≤17:=by
 unfold ke;generalize o.toNat=k;rcases k with _|_|_|_|_|_|_|k;all_goals first|decide|(rw[List.getD_eq_getElem?_getD];simp[XI])
theorem U2 {x:VI} (h:l5 x) (h1:x.alts.length≤4000) (h2:x.to.length≤4000) (h3:x.args.length≤4000):Xv (af x)+2*((af x).length+1)≤1000000:=by
 have hn:∀n,Xw n→(Cp n).length≤17:=fun n hn=>by have:=B6 hn;omega
 have hl:(af x).length≤4003:=by
  unfold af zn;split
  ·simp only[List.length_cons,Qn];omega
  ·split
   ·simp only[List.length_cons,Qn];omega
   ·split
    ·simp only[List.length_cons,Qn];omega
    ·split
     ·simp only[List.length_cons,List.length_nil];omega
     ·simp only[List.length_cons,List.length_nil];omega
 have hs:Xv (af x)≤(af x).length*17:=uo fun w hw=>by
  rcases Qk.1 hw with rfl|hw
  ·exact op_len _
  ·unfold zn at hw;split at hw
   ·rcases Qk.1 hw with rfl|hw
    ·exact hn _ h.a
    ·obtain⟨p,hp,rfl⟩:=List.mem_map.1 hw;have h1:=B6 (h.alts p hp).1;have h2:=B6 (h.alts p hp).2;unfold Y8;simp only[Qm,List.length_cons,List.length_nil];omega
   ·split at hw
    ·obtain⟨p,hp,rfl⟩:=List.mem_map.1 hw;exact hn _ (h.to p hp)
    ·split at hw
     ·rcases Qk.1 hw with rfl|hw
      ·exact hn _ h.term
      ·rcases Qk.1 hw with rfl|hw
       ·exact hn _ h.n
       ·obtain⟨p,hp,rfl⟩:=List.mem_map.1 hw;exact hn _ (h.args p hp)
     ·split at hw
      ·rw[Qp.1 hw];exact hn _ h.a
      ·cases hw
 omega
theorem ur (c:Cm) (hf:Fits c) (hc:CV c=true):Cb (EK qc) 19 [.agg (CG c)] S0 (.tuple [.str (XD c),.int .i64 0]):=by
 refine Aq (fn:=Tryz.f19) U U (by kernel_rfl) U U U U ?_;have hs:=MN hc;have hp:=MO hc;focus
  refine Es<|Lo (A4 1 U U U U) U ?_;iterate 2 refine qa U ?_
  refine Ld<|Aa<|Es<|Lo (AA U Em D5 U U (Qc U)) U ?_;refine Lo (Ad U U (by kernel_rfl) U (Cb.Cs (Jc (by omega)))) U ?_;refine Lq (o2 RA U U) rfl<|Ld ?_;refine Ec U (fun g1=>?_) (fun g1=>?_);have h1:=nT g1;refine Es ?_;iterate 2 refine qa U ?_
  refine Ld ?_;refine Ab ⟨.inl U,rfl,rfl,rfl,_,_,_,(An U (An U U)),rfl,rfl,?_⟩;rotate_left;have h1:=nF g1;refine Ac<|Es<|Lo (Bc 2 U oK U) rfl<|Ld<|Aa<|Es<|Lq (of BI U) rfl<|Lq (of BA U) rfl<|Lo (l1 Bn Bk U) rfl<|Lq (ol D3 U) rfl<|qm rfl<|Ld<|Ch.block ?_;rotate_left
 ·rw[hc]at h1;exact absurd rfl h1
 refine Aw (fun x:Nat×St=>([(25,.int .i64 (x.1:Nat)),(24,.int .i64 (c.cons.length:Nat)),(23,Cq Cy 2 c.cons),(4,.ptr 1 0),(1,.ptr 0 0)],x.2)) (fun x=>c.cons.length-x.1)
  (fun x=>x.1≤c.cons.length∧Wr c x.2.next x.2 (CU (Zm c x.1))∧(CU (Zm c x.1)).length≤1000001*x.1) (0,_) ⟨Qo _,⟨rfl,⟨.CJ,.Ca,rfl,.inl rfl,.inl ⟨rfl,rfl⟩,fun k hk=>by cases hk⟩,Qj _,Qj _,rfl,rfl⟩,Qj _⟩ rfl (Ao (by repeat' constructor)) ?_
 rintro⟨i,st⟩ ⟨hi,hw,hwl⟩;dsimp only at hi hw hwl⊢;have aB:=hf.cons;have aZ:=hf.Co;have xh:=hf.ins;by_cases h:i<c.cons.length
 ·have ek:=A7 AN h;have hcp:=hp.cons _ (Ql h);have XK:=hf.iW _ (Ql h);obtain⟨a1,a2,a3,a4,a5,a6,a7⟩:=Hv (st:=st) (z:=[.str [],.int .i64 0]) (cs:=Cy c.cons[i]) (T:=54);have gN:Wr c st.next ((st.alloc (.cells [.str [],.int .i64 0] 54 false)).put st.next (some (.cells (Cy c.cons[i]) 54 false))) (CU (Zm c i)):=hw.alloc.put (Qj _);have a8:(((st.alloc (.cells [.str [],.int .i64 0] 54 false)).put st.next (some (.cells (Cy c.cons[i]) 54 false))).alloc (.cells [.str [99,111,110],.str c.cons[i].1] 9 false)).heap.get st.next=some (.cells (Cy c.cons[i]) 54 false):=(AT (by rw[a7];omega)).trans a2;obtain⟨b1,b2,b3,b4,b5⟩:=gN.lists (A:=[[99,111,110],c.cons[i].1]) (B:=[c.cons[i].2]) (by simp) (ka:=2) (kb:=1) rfl rfl;focus
   refine Es<|Lq (o2 Ck U U) rfl<|Ld<|Aa ?_;refine Ec U (fun g2=>?_) (fun g2=>?_);have h2:=dT g2;refine Ac<|Aa<|Ch.block<|Es<|Lq (Ae U D3 BB U U ‹_›) rfl<|Lq (AP U U Jj BB (Qc U)) rfl<|Lo (Ws.alloc U lu) rfl<|Ax (Ws.store U BB U U (AB ‹_› U U U)) U rfl<|Ld<|Ai<|Lq (of Fb U) rfl<|Lo (A2 U U (Aj Gs D0 ‹_› U)) rfl<|Lo (Br U B2 D0 pE U U U) rfl<|Lq (of Fw U) rfl<|Lo (A2 U U (Aj Bv Bb ‹_› U)) rfl<|Lo (Br U Ea Bb pD U U U) U ?_;rotate_left;have h2:=dF g2;exact absurd h2 (by omega)
  refine AQ U U (by kernel_rfl) U U U U (b1.numbers b2 b4 b3 b5 (fun n hn=>by rw[Qp.1 hn];exact hcp.2) (by simp) ?_);intro s4 v4 c1 c2 c3 c4 _;have hlen:Xv (ja c.cons[i])≤8000:=by
   have:=B6 hcp.2;simp only[ja,Xv,List.map_cons,List.map_nil,List.sum_cons,List.sum_nil,List.length_cons,List.length_nil];omega
  skip
  refine AQ U U (by kernel_rfl) U U U U (c1.line (l:=ja c.cons[i]) c2.strs (by show _+2*(3+1)≤_;omega) (by omega) ?_);intro s5 d1 d2;refine Ld<|Ai ?_;refine Lq (Ap (b:=1) U Ck U U (by omega)) U ?_;refine qm rfl<|Ld ?_;exact⟨(i+1,s5),⟨h,by rw[KB h];exact d1,by rw[KB h,Qm,Qm];simp only[List.length_cons,List.length_nil];omega⟩,by show c.cons.length-(i+1)<c.cons.length-i;omega,rfl,rfl,Ao (by repeat' constructor)⟩
 ·have gi:=hw.code;focus
   refine Es<|Lq (o2 Ck U U) rfl<|Ld<|Aa ?_;refine Ec U (fun g2=>?_) (fun g2=>?_);have h2:=dT g2;exact absurd h2 (by omega);have h2:=dF g2;refine A1<|AS rfl<|Aa<|Es<|Lq (of BI U) rfl<|Lq (of BF U) rfl<|Lo (A2 U U (Aj Bn Bk ‹_› U)) rfl<|Lq (ol D3 U) rfl<|qm rfl<|Ld<|Ch.block ?_;rotate_left
  obtain rfl:i=c.cons.length:=by omega
  refine Aw (fun x:Nat×St=>([(42,.int .i64 (x.1:Nat)),(41,.int .i64 (c.Co.length:Nat)),(40,Cq Cy 2 c.Co),(4,.ptr 1 0),(1,.ptr 0 0)],x.2)) (fun x=>c.Co.length-x.1)
   (fun x=>x.1≤c.Co.length∧Wr c x.2.next x.2 (CU (Zm c c.cons.length)++CU (cf c x.1))∧(CU (cf c x.1)).length≤1000001*x.1) (0,_) ⟨Qo _,by rw[show CU (cf c 0)=[]from rfl,List.append_nil];exact hw,Qj _⟩ rfl (Ao (by repeat' constructor)) ?_
  clear hw gi;rintro⟨i,st⟩ ⟨hi,hw,uu⟩;dsimp only at hi hw uu⊢;by_cases h:i<c.Co.length
  ·have ek:=A7 AN h;have h':i<c.Cj.length:=by rw[hs.Cj];exact h
   have pd:=A7 Bi h';have hcp:=hp.Co _ (Ql h);have XK:=hf.iX _ (Ql h);have Xp:=hp.Cj _ (Ql h');obtain⟨a1,a2,a3,a4,a5,a6,a7⟩:=Hv (st:=st) (z:=[.str [],.int .i64 0]) (cs:=Cy c.Co[i]) (T:=54);have gN:Wr c st.next ((st.alloc (.cells [.str [],.int .i64 0] 54 false)).put st.next (some (.cells (Cy c.Co[i]) 54 false))) (CU (Zm c c.cons.length)++CU (cf c i)):=hw.alloc.put (Qj _);have a8:(((st.alloc (.cells [.str [],.int .i64 0] 54 false)).put st.next (some (.cells (Cy c.Co[i]) 54 false))).alloc (.cells [.str [102,117,110],.str c.Co[i].1] 9 false)).heap.get st.next=some (.cells (Cy c.Co[i]) 54 false):=(AT (by rw[a7];omega)).trans a2;have a9:=gN.alloc (o:= .cells [.str [102,117,110],.str c.Co[i].1] 9 false)|>.code;obtain⟨b1,b2,b3,b4,b5⟩:=gN.lists (A:=[[102,117,110],c.Co[i].1]) (B:=[c.Co[i].2,c.Cj[i]]) (by simp) (ka:=2) (kb:=2) rfl rfl
   have hne1:st.next≠((st.alloc (.cells [.str [],.int .i64 0] 54 false)).put st.next (some (.cells (Cy c.Co[i]) 54 false))).next:=by rw[a7];omega
   have hne0:0≠((st.alloc (.cells [.str [],.int .i64 0] 54 false)).put st.next (some (.cells (Cy c.Co[i]) 54 false))).next:=by rw[a7];omega
   focus
    refine Es<|Lq (o2 Ck U U) rfl<|Ld<|Aa ?_;refine Ec U (fun g3=>?_) (fun g3=>?_);have h3:=dT g3;refine Ac<|Aa<|Ch.block<|Es<|qm rfl<|Lq (Ae U D3 BB U U ‹_›) rfl<|Lq (AP U U Jj BB (Qc U)) rfl<|Lo (Ws.alloc U lu) rfl<|qa rfl<|Ax (Ws.store U BB U U (AB ‹_› U U U)) U rfl<|Ld<|Bt (by kernel_rfl)<|Nq (of Fb U) rfl<|AO U U (Aj Gs D0 ‹_› U) U (.inl U) U rfl<|AZ U B2 D0 pE U U U (.inl U) U rfl<|Nq (of Fw U) U ?_;rotate_left;have h3:=dF g3;exact absurd h3 (by omega)
   refine AO U U (Aj Bv Bb a8 U) (MP hne1 U) (.inl U) U rfl<|Nq (of EA U) rfl<|AO U U (Aj BJ B9 ‹_› U) U (.inl U) U rfl<|Nq (om U) rfl<|Nq (Ae U Ea Bb U U ‹_›) rfl<|Nq (Av U U Bv Bb) rfl<|AZ U Ea Bb pD U U U (.inl U) U U ?_;refine Gj (by kernel_rfl) U U U (b1.jc b2 b4 b3 b5 (fun n hn=>by
    simp only[Qk,List.not_mem_nil,or_false]at hn;rcases hn with rfl|rfl
    ·exact hcp.2
    ·exact Xp) (by simp)) (by kernel_rfl) (by kernel_rfl) (.inl U) U U ?_
   rintro v4 s4 ⟨c0,c0',c1,c2,c3,_,_⟩;refine⟨c0,c0',fun ez mv=>?_⟩;have hlen:Xv (jb c.Co[i] c.Cj[i])≤8000:=by
    have:=B6 hcp.2;have:=B6 Xp;simp only[jb,Xv,List.map_cons,List.map_nil,List.sum_cons,List.sum_nil,List.length_cons,List.length_nil];omega
   refine Gj (by kernel_rfl) U U U (c1.lineN (l:=jb c.Co[i] c.Cj[i]) c2.strs (by show _+2*(4+1)≤_;omega) (by rw[Qm];omega)) (by kernel_rfl) (mv.all (by kernel_rfl) (by kernel_rfl)) (.inl U) U U ?_;rintro v5 s5 ⟨e0,e0',d1,d2⟩;refine⟨e0,e0',fun nl3 _=>?_⟩;refine Au<|Ai ?_;refine Lq (Ap (b:=1) U Ck U U (by omega)) U ?_;refine qm rfl<|Ld ?_;exact⟨(i+1,_),⟨h,by rw[M7 h h',←List.append_assoc];exact d1,by rw[M7 h h',Qm,Qm];simp only[List.length_cons,List.length_nil];omega⟩,by show c.Co.length-(i+1)<c.Co.length-i;omega,rfl,rfl,Ao (by repeat' constructor)⟩
  ·have gi:=hw.code;focus
    refine Es<|Lq (o2 Ck U U) rfl<|Ld<|Aa ?_;refine Ec U (fun g3=>?_) (fun g3=>?_);have h3:=dT g3;exact absurd h3 (by omega);have h3:=dF g3;refine A1<|AS rfl<|Aa<|Es<|Lq (of Bf U) rfl<|Lo (A2 U U (Aj Dg Dd ‹_› U)) rfl<|Lq (ol FR U) rfl<|qm rfl<|Ld<|Ch.block ?_;rotate_left
   obtain rfl:i=c.Co.length:=by omega
   have hW0:(CU (Zm c c.cons.length)++CU (cf c c.Co.length)).length≤8000008000:=by rw[Qm];omega
   generalize hW:CU (Zm c c.cons.length)++CU (cf c c.Co.length)=W0 at hW0 hw;refine Aw (fun x:Nat×St=>([(64,.int .i64 (x.1:Nat)),(63,.int .i64 (c.ins.length:Nat)),(62,Cq WN 7 c.ins),(4,.ptr 1 0),(1,.ptr 0 0)],x.2)) (fun x=>c.ins.length-x.1)
    (fun x=>x.1≤c.ins.length∧Wr c x.2.next x.2 (W0++CU (cg c x.1))∧(CU (cg c x.1)).length≤1000001*x.1) (0,_) ⟨Qo _,by rw[show CU (cg c 0)=[]from rfl,List.append_nil];exact hw,Qj _⟩ rfl (Ao (by repeat' constructor)) ?_
   clear hw gi uu;rintro⟨i,st⟩ ⟨hi,hw,uu⟩;dsimp only at hi hw uu⊢;by_cases h:i<c.ins.length
   ·have ek:=A7 Db h;have qd:=hp.ins _ (Ql h);have jj:=hf.alts _ (Ql h);have my:=hf.to _ (Ql h);have har:=hf.args _ (Ql h);generalize hx:c.ins[i]=x at qd jj my har;rw[hx]at ek;obtain⟨a1,a2,a3,a4,a5,a6,a7⟩:=Hv (st:=st) (z:=[.int .i64 0,.int .i64 0,.Ca,.Ca,.int .i64 0,.int .i64 0,.Ca]) (cs:=WN x) (T:=58);have gN:Wr c st.next ((st.alloc (.cells [.int .i64 0,.int .i64 0,.Ca,.Ca,.int .i64 0,.int .i64 0,.Ca] 58 false)).put st.next (some (.cells (WN x) 58 false))) (W0++CU (cg c i)):=hw.alloc.put (Qj _);have b1:=gN.alloc (o:= .cells [.str (ke x.op)] 9 false)
    have b2:Wt (((st.alloc (.cells [.int .i64 0,.int .i64 0,.Ca,.Ca,.int .i64 0,.int .i64 0,.Ca] 58 false)).put st.next (some (.cells (WN x) 58 false))).alloc (.cells [.str (ke x.op)] 9 false)) 9 (.slice (st.next+1) 0 1 1 (some 1)) ([ke x.op].map .str):=Wt.new (part:=false) BZ (Nat.lt_succ_self _) (by simp) rfl;have b3:=(AT (st:=(st.alloc (.cells [.int .i64 0,.int .i64 0,.Ca,.Ca,.int .i64 0,.int .i64 0,.Ca] 58 false)).put st.next (some (.cells (WN x) 58 false))) (ob:= .cells [.str (ke x.op)] 9 false) (by rw[a7];omega)).trans a2;focus
     refine Es<|Lq (o2 Ck U U) rfl<|Ld<|Aa ?_;refine Ec U (fun g4=>?_) (fun g4=>?_);have h4:=dT g4;refine Ac<|Aa<|Ch.block<|Es<|Lq (Ae U FR BV U U ‹_›) rfl<|Lq (AP U U Gr BV (Qc U)) rfl<|Lo (Ws.alloc U mI) rfl<|Ax (Ws.store U BV U U (AB ‹_› U U U)) U rfl<|Ld<|As (by kernel_rfl) ?_;refine Bp (AI U U (by kernel_rfl) U (UE)) (.inl U) U rfl<|Nq (of Df U) rfl<|AO U U (Aj E8 E6 ‹_› U) U (.inl U) U U ?_;rotate_left;have h4:=dF g4;exact absurd h4 (by omega)
    refine Nq (word7 qd.op U U U) rfl<|AZ U B2 D0 pE U U U (.inl U) U rfl<|Nq (oa U) rfl<|Au<|Aa<|Es<|Lo (A2 U U (Eh Gr BV ‹_› (Qc U))) U ?_;refine Lo (Ad U U (by kernel_rfl) U (Cb.Cs (Ja))) rfl<|Ld<|Ch.block ?_;obtain⟨s0,jh⟩:∃s0:St,((st.alloc (.cells [.int .i64 0,.int .i64 0,.Ca,.Ca,.int .i64 0,.int .i64 0,.Ca] 58 false)).put st.next (some (.cells (WN x) 58 false))).alloc (.cells [.str (ke x.op)] 9 false)=s0:=⟨_,rfl⟩
    rw[jh]at b1 b2;refine Ch.at (l':=[(74,shA (VY x)),(11,.slice (st.next+1) 0 1 1 (some 1)),(64,.int .i64 (i:Nat)),(63,.int .i64 (c.ins.length:Nat)),(62,Cq WN 7 c.ins),(4,.ptr 1 0),(1,.ptr 0 0)]) jh (Ao (by repeat' constructor)) ?_;have b4:∀k,Ci k (.slice (st.next+1) 0 1 1 (some 1))=true→st.next≤k:=fun k hk=>by have:st.next+1=k:=Qb hk;omega
    have xX:st.next≤s0.next:=b1.le;clear a1 a2 a3 a4 a5 a6 a7 gN b3 jh ek;generalize AV.slice (st.next+1) 0 1 1 (some 1)=v0 at b2 b4⊢;refine VC (fun y:AV×St=>([(11,y.1),(64,.int .i64 (i:Nat)),(63,.int .i64 (c.ins.length:Nat)),(62,Cq WN 7 c.ins),(4,.ptr 1 0),(1,.ptr 0 0)],y.2)) (fun y=>Wr c st.next y.2 (W0++CU (cg c i))∧Wt y.2 9 y.1 ((af x).map .str)∧∀k,Ci k y.1=true→st.next≤k) ?_ ?_
    ·rw[uq qd];unfold af zn;by_cases o1:x.op=1
     ·rw[if_pos o1,if_pos o1];obtain⟨d1,d2,d3,d4,d5,d6,d7⟩:=Hv (st:=s0) (z:=[.int .i64 0,.Ca]) (cs:=[.int .i64 x.a,Cq XB 2 x.alts]) (T:=114);have e1:=b1.alloc (o:= .cells [.int .i64 0,.Ca] 114 false)|>.put (o:=some (.cells [.int .i64 x.a,Cq XB 2 x.alts] 114 false)) xX;have e2:=b2.CW (by rw[d7];omega) fun k hk=>d4 k (b2.own hk);refine Es<|Lq (A9 U EY Hk U U) U ?_;iterate 2 refine Lq (oe U) U ?_
      refine Ld<|Ah U rfl<|Es<|Lo (Ws.alloc U Hk) rfl<|Ax (Ws.store U Q1 U U (AB ‹_› U U U)) U rfl<|Ld<|Es<|qm rfl<|Lq (of MF U) rfl<|Lo (A2 U U (Aj Bv Bb ‹_› U)) rfl<|Lo (Br U Ea Bb pD U U U) U ?_;refine AQ U U (by kernel_rfl) U U U U (e1.mN e2 b4 (B:=[x.a]) U (fun n hn=>by rw[Qp.1 hn];exact qd.a) (by simp) ?_);intro s4 v4 c1 c2 c3 c4 c5;have pY:s4.heap.get s0.next=some (.cells [.int .i64 x.a,Cq XB 2 x.alts] 114 false):=(c5 s0.next (by rw[d7];omega) (by
       cases hh:Ci s0.next v0 with
       |false=>rfl
       |true=>have:=b2.own hh;omega)).trans d2
      refine qa rfl<|Ld<|Es<|Lq (of Ks U) rfl<|Lo (A2 U U (Aj E7 Ee ‹_› U)) rfl<|Lq (ol Hm U) rfl<|qm rfl<|Ld<|Ch.block ?_;refine Aw (fun y:Nat×AV×St=>([(86,.int .i64 (y.1:Nat)),(85,.int .i64 (x.alts.length:Nat)),(84,Cq XB 2 x.alts),(11,y.2.1),(64,.int .i64 (i:Nat)),(63,.int .i64 (c.ins.length:Nat)),(62,Cq WN 7 c.ins),(4,.ptr 1 0),(1,.ptr 0 0)],y.2.2)) (fun y=>x.alts.length-y.1)
       (fun y=>y.1≤x.alts.length∧Wr c st.next y.2.2 (W0++CU (cg c i))∧Wt y.2.2 9 y.2.1 ((ke x.op::Cp x.a::(x.alts.take y.1).map Y8).map .str)∧∀k,Ci k y.2.1=true→st.next≤k) (0,v4,s4) ⟨Qo _,c1,c2,c3⟩ rfl (Ao (by repeat' constructor)) ?_
      rintro⟨j,vj,sj⟩ ⟨hj,q1,q2,q3⟩;dsimp only at hj q1 q2 q3⊢;by_cases hjl:j<x.alts.length
      ·have hp3:=A7 Eo hjl;obtain⟨hap1,hap2⟩:=qd.alts _ (Ql hjl);obtain⟨r1,r2,r3,r4,r5,r6,r7⟩:=Hv (st:=sj) (z:=[.int .i64 0,.int .i64 0]) (cs:=XB x.alts[j]) (T:=60);have e3:=q1.alloc (o:= .cells [.int .i64 0,.int .i64 0] 60 false)|>.put (b:=sj.next) (o:=some (.cells (XB x.alts[j]) 60 false)) q1.le;have e4:=q2.CW (by rw[r7];omega) fun k hk=>r4 k (q2.own hk);have hi1:=B6 hap1;have hi2:=B6 hap2;have XK:((ke x.op::Cp x.a::(x.alts.take j).map Y8).map AV.str).length=j+2:=by
        rw[Qn,List.length_cons,List.length_cons,Qn,List.length_take,Nat.min_eq_left hj]
       obtain⟨v',s2,t1,t2,t3,t4,t5,t6⟩:=e4.one (WJ:=16) (x:= .str (Y8 x.alts[j])) (by
        rw[XK];unfold small;rw[Qd (by omega:(j+2+1)*16≤1099511627776),Qd (by omega:j+2+1≤1099511627776)];rfl)
       focus
        refine Es<|Lq (o2 Ck U U) rfl<|Ld<|Aa ?_;refine Ec U (fun lv=>?_) (fun lv=>?_);have tv:=dT lv;refine Ac<|Aa<|Ch.block<|Es<|Lq (Ae U Hm Fo U U ‹_›) rfl<|Lq (AP U U SC Fo (Qc U)) rfl<|Lo (Ws.alloc U pG) rfl<|Ax (Ws.store U Fo U U (AB ‹_› U U U)) U rfl<|Ld<|Bt (by kernel_rfl)<|Nq (om U) rfl<|Nq (of Hr U) rfl<|AO U U (Aj Bv Bb ‹_› U) U (.inl U) U U ?_;refine Bp (AI U U (by kernel_rfl) U (UD (by first|omega|assumption))) (.inl U) U U ?_;refine Nq (AH U Wl U U (by first|assumption|omega|(simp only[LL];omega))) U ?_;refine Nq (of Je U) rfl<|AO U U (Aj Bv Bb ‹_› U) U (.inl U) U U ?_;refine Bp (AI U U (by kernel_rfl) U (UD (by first|omega|assumption))) (.inl U) U U ?_;refine Nq (AH U Wl U U (by first|assumption|omega|(simp only[LL];omega))) U ?_;refine AZ U B2 D0 pE U U U (.inl U) U U ?_;rotate_left;have tv:=dF lv;exact absurd tv (by omega)
       refine VH.append U U U U B2 D0 nJ pE (by kernel_rfl) (by kernel_rfl) U U (E3 (e:=9) (part:=false) BZ U) t1 t2 (fun b hb=>⟨t3 b hb,Dr (by kernel_rfl)⟩) (by kernel_rfl) (by kernel_rfl) (.inl U) U rfl<|Nq (oa U) rfl<|Au<|Ai ?_;refine Lq (Ap (b:=1) U Ck U U (by omega)) U ?_;refine qm rfl<|Ld ?_;have e5:(ke x.op::Cp x.a::(x.alts.take (j+1)).map Y8).map AV.str=(ke x.op::Cp x.a::(x.alts.take j).map Y8).map AV.str++[.str (Y8 x.alts[j])]:=by
        rw[List.take_succ_eq_append_getElem hjl,List.map_append (l₂:=[x.alts[j]]),←List.cons_append,←List.cons_append,List.map_append (l₂:=[x.alts[j]].map Y8)];rfl
       have hq:=q1.le;exact⟨(j+1,v',_),⟨hjl,(Wr.alloc (o:= .cells [.str (Y8 x.alts[j])] 9 false) e3).bJ t6 q3,by
        show Wt _ 9 v' ((ke x.op::Cp x.a::(x.alts.take (j+1)).map Y8).map AV.str);rw[e5];exact t4,fun k hk=>by have:=t5 k hk;rw[r7]at this;omega⟩,by show x.alts.length-(j+1)<x.alts.length-j;omega,rfl,rfl,Ao (by repeat' constructor)⟩
      ·focus
        refine Es<|Lq (o2 Ck U U) rfl<|Ld<|Aa ?_;refine Ec U (fun lv=>?_) (fun lv=>?_);have tv:=dT lv;exact absurd tv (by omega);have tv:=dF lv;refine A1<|AS U ?_;rotate_left
       obtain rfl:j=x.alts.length:=by omega
       rw[List.take_length]at q2;exact⟨rfl,rfl,(vj,sj),⟨q1,q2,q3⟩,rfl,Ao (by repeat' constructor)⟩
     ·rw[if_neg o1,if_neg o1];by_cases o2:x.op=2
      ·rw[if_pos o2,if_pos o2];obtain⟨d1,d2,d3,d4,d5,d6,d7⟩:=Hv (st:=s0) (z:=[.Ca]) (cs:=[Cq CY 1 x.to]) (T:=117);have e1:=b1.alloc (o:= .cells [.Ca] 117 false)|>.put (o:=some (.cells [Cq CY 1 x.to] 117 false)) xX;have e2:=b2.CW (by rw[d7];omega) fun k hk=>d4 k (b2.own hk);refine Es<|Lq (A9 U EY Hk U U) U ?_;iterate 2 refine Lq (oe U) U ?_
       refine Ld<|Af U rfl<|Es<|Lq (A9 U FE HC U U) U ?_;iterate 2 refine Lq (oe U) U ?_
       refine Ld<|Ah U rfl<|Es<|Lo (Ws.alloc U HC) rfl<|Ax (Ws.store U Q0 U U (AB ‹_› U U U)) U rfl<|Ld<|Ai<|qm rfl<|Lq (of Kr U) rfl<|Lo (A2 U U (Aj BJ B9 ‹_› U)) U ?_;refine AQ U U (by kernel_rfl) U U U U (e1.numbers e2 b4 (X2.Cq (enc:=AV.int .i64) x.to) (fun _ _=>rfl) qd.to (by simp only[List.length_cons,List.length_nil];omega) ?_);intro s4 v4 c1 c2 c3 c4 c5;refine qa rfl<|Ld ?_;exact⟨rfl,rfl,(v4,s4),⟨c1,c2,c3⟩,rfl,Ao (by repeat' constructor)⟩
      ·rw[if_neg o2,if_neg o2];by_cases o3:x.op=3
       ·rw[if_pos o3,if_neg (by omega),if_neg (by omega)];refine Es<|Lq (A9 U EY Hk U U) U ?_;iterate 2 refine Lq (oe U) U ?_
        refine Ld<|Af U rfl<|Es<|Lq (A9 U FE HC U U) U ?_;iterate 2 refine Lq (oe U) U ?_
        refine Ld<|Af U rfl<|Es<|Lq (A9 U G8 Jg U U) U ?_;iterate 2 refine Lq (oe U) U ?_
        refine Ld<|Af U rfl<|Es<|Lq (A9 U LC Rx U U) U ?_;iterate 2 refine Lq (oe U) U ?_
        refine Ld<|Af U rfl<|Ac ?_;exact⟨rfl,rfl,(v0,s0),⟨b1,b2,b4⟩,rfl,Ao (by repeat' constructor)⟩
       ·rw[if_neg o3];by_cases o4:x.op=4
        ·rw[if_pos o4,if_neg (by omega),if_neg (by omega)];refine Es<|Lq (A9 U EY Hk U U) U ?_;iterate 2 refine Lq (oe U) U ?_
         refine Ld<|Af U rfl<|Es<|Lq (A9 U FE HC U U) U ?_;iterate 2 refine Lq (oe U) U ?_
         refine Ld<|Af U rfl<|Es<|Lq (A9 U G8 Jg U U) U ?_;iterate 2 refine Lq (oe U) U ?_
         refine Ld<|Af U rfl<|Es<|Lq (A9 U LC Rx U U) U ?_;iterate 2 refine Lq (oe U) U ?_
         refine Ld<|Af U rfl<|Ac ?_;exact⟨rfl,rfl,(v0,s0),⟨b1,b2,b4⟩,rfl,Ao (by repeat' constructor)⟩
        ·rw[if_neg o4];by_cases o5:x.op=5
         ·rw[if_pos o5,if_pos o5];obtain⟨d1,d2,d3,d4,d5,d6,d7⟩:=Hv (st:=s0) (z:=[.int .i64 0,.int .i64 0,.Ca]) (cs:=[.int .i64 x.term,.int .i64 x.n,Cq CY 1 x.args]) (T:=119);have e1:=b1.alloc (o:= .cells [.int .i64 0,.int .i64 0,.Ca] 119 false)|>.put (o:=some (.cells [.int .i64 x.term,.int .i64 x.n,Cq CY 1 x.args] 119 false)) xX;have e2:=b2.CW (by rw[d7];omega) fun k hk=>d4 k (b2.own hk);have e3:=e1.alloc (o:= .cells [.int .i64 x.term,.int .i64 x.n] 3 false);have e4:=e2.CW (s':=(((s0.alloc (.cells [.int .i64 0,.int .i64 0,.Ca] 119 false)).put s0.next (some (.cells [.int .i64 x.term,.int .i64 x.n,Cq CY 1 x.args] 119 false))).alloc (.cells [.int .i64 x.term,.int .i64 x.n] 3 false))) (Nat.le_succ _) fun k hk=>AT (e2.own hk)
          have d8:s0.next<((s0.alloc (.cells [.int .i64 0,.int .i64 0,.Ca] 119 false)).put s0.next (some (.cells [.int .i64 x.term,.int .i64 x.n,Cq CY 1 x.args] 119 false))).next:=by rw[d7];omega
          refine Es<|Lq (A9 U EY Hk U U) U ?_;iterate 2 refine Lq (oe U) U ?_
          refine Ld<|Af U rfl<|Es<|Lq (A9 U FE HC U U) U ?_;iterate 2 refine Lq (oe U) U ?_
          refine Ld<|Af U rfl<|Es<|Lq (A9 U G8 Jg U U) U ?_;iterate 2 refine Lq (oe U) U ?_
          refine Ld<|Ah U rfl<|Es<|Lo (Ws.alloc U Jg) rfl<|Ax (Ws.store U Nf U U (AB ‹_› U U U)) U rfl<|Ld<|Bt (by kernel_rfl)<|Nq (om U) rfl<|Nq (of ME U) rfl<|AO U U (Aj KJ Jh ‹_› U) U (.inl U) U rfl<|Nq (of Da U) rfl<|AO U U (Aj Bv Bb ‹_› U) U (.inl U) U rfl<|AZ U Ea Bb pD U U U (.inl U) U U ?_;refine Gj (by kernel_rfl) U U U (e3.jc (l:=[x.term,x.n]) e4 b4 (X2.new (e:=3) (part:=false) BZ (Nat.lt_succ_self _) U) (X2.fresh e2) (fun n hn=>by
           simp only[Qk,List.not_mem_nil,or_false]at hn;rcases hn with rfl|rfl
           ·exact qd.term
           ·exact qd.n) (by simp)) (by kernel_rfl) (by kernel_rfl) (.inl U) U U ?_
          rintro v4 s4 ⟨f0,f0',f1,f2,f3,f4,f5⟩;refine⟨f0,f0',fun ez mv=>?_⟩;have fo:Ci s0.next v0=false:=by
           cases hh:Ci s0.next v0 with
           |false=>rfl
           |true=>have:=b2.own hh;omega
          have pJ:=(f4 s0.next (Nat.lt_succ_of_lt d8) fo).trans ((AT d8).trans d2);refine Nq (of Kq U) U ?_;refine AO U U (Aj BJ B9 pJ U) (mv.clear (MP (Nat.ne_of_lt d8) U) (Nat.lt_succ_of_lt d8) fun hh=>by rw[f5 _ hh]at fo;cases fo) (.inl U) U U ?_;refine Gj (by kernel_rfl) U U U (f1.jc (l:=x.args) f2 f3 (X2.Cq (enc:=AV.int .i64) x.args) (fun _ _=>rfl) qd.args (by simp only[Qm,Qn,List.length_cons,List.length_nil];omega)) (by kernel_rfl) (mv.all (by kernel_rfl) (by kernel_rfl)) (.inl U) U U ?_;rintro v5 s5 ⟨u0,u0',u1,u2,u3,_,_⟩;refine⟨u0,u0',fun nl3 _=>?_⟩;refine Nq (oa U) rfl<|Au ?_;exact⟨rfl,rfl,(v5,_),⟨u1,u2,u3⟩,rfl,Ao (by repeat' constructor)⟩
         ·rw[if_neg o5,if_neg o5,if_pos (by have:=qd.op;omega)];obtain⟨d1,d2,d3,d4,d5,d6,d7⟩:=Hv (st:=s0) (z:=[.int .i64 0]) (cs:=[.int .i64 x.a]) (T:=121);have e1:=b1.alloc (o:= .cells [.int .i64 0] 121 false)|>.put (o:=some (.cells [.int .i64 x.a] 121 false)) xX;have e2:=b2.CW (by rw[d7];omega) fun k hk=>d4 k (b2.own hk);refine Es<|Lq (A9 U EY Hk U U) U ?_;iterate 2 refine Lq (oe U) U ?_
          refine Ld<|Af U rfl<|Es<|Lq (A9 U FE HC U U) U ?_;iterate 2 refine Lq (oe U) U ?_
          refine Ld<|Af U rfl<|Es<|Lq (A9 U G8 Jg U U) U ?_;iterate 2 refine Lq (oe U) U ?_
          refine Ld<|Af U rfl<|Es<|Lq (A9 U LC Rx U U) U ?_;iterate 2 refine Lq (oe U) U ?_
          refine Ld<|Ah U rfl<|Es<|Lo (Ws.alloc U Rx) rfl<|Ax (Ws.store U Tc U U (AB ‹_› U U U)) U rfl<|Ld<|Ai<|qm rfl<|Lq (of MD U) rfl<|Lo (A2 U U (Aj Bv Bb ‹_› U)) rfl<|Lo (Br U Ea Bb pD U U U) U ?_;refine AQ U U (by kernel_rfl) U U U U (e1.mN e2 b4 (B:=[x.a]) U (fun n hn=>by rw[Qp.1 hn];exact qd.a) (by simp) ?_);intro s4 v4 c1 c2 c3 c4 c5;refine qa rfl<|Ld ?_;exact⟨rfl,rfl,(v4,s4),⟨c1,c2,c3⟩,rfl,Ao (by repeat' constructor)⟩
    ·rintro⟨v1,s1⟩ l1 ⟨f1,f2,f3⟩ aB;dsimp only at f1 f2 f3 aB⊢
     skip
     refine Ch.sub ?_ aB;refine Ai<|qm U ?_;refine AQ U U (by kernel_rfl) U U U U (f1.line (l:=af x) f2.strs (U2 qd jj my har) (by rw[Qm];omega) ?_);intro s5 d1 d2;refine Ld<|Ai ?_;refine Lq (Ap (b:=1) U Ck U U (by omega)) U ?_;refine qm rfl<|Ld ?_;subst hx;exact⟨(i+1,s5),⟨h,by rw[M0 h,←List.append_assoc];exact d1,by rw[M0 h,Qm,Qm];simp only[List.length_cons,List.length_nil];omega⟩,by show c.ins.length-(i+1)<c.ins.length-i;omega,rfl,rfl,Ao (by repeat' constructor)⟩
   ·focus
     refine Es<|Lq (o2 Ck U U) rfl<|Ld<|Aa ?_;refine Ec U (fun g4=>?_) (fun g4=>?_);have h4:=dT g4;exact absurd h4 (by omega);have h4:=dF g4;refine A1<|AS rfl<|Es<|Lq (of Kt U) U ?_;rotate_left
    obtain rfl:i=c.ins.length:=by omega
    obtain⟨w1,⟨a,bv,w2,w3,w4,w5⟩,w6,w7,w8,w9⟩:=hw;refine AQ U U (by kernel_rfl) U U U U (Qx U w2 (by omega) w4 (by rw[Qm];omega) ?_);intro s5 vu;have zo:=I9 vu w8 w9;have hb5:=vu.bound.trans w8;iterate 2 refine qa U ?_
    refine Ld ?_;refine Ab ⟨.inl U,rfl,‹_›,‹_›,_,_,_,(An U (An U U)),rfl,rfl,?_⟩;show AV.tuple [.str (W0++CU (cg c c.ins.length)),.int .i64 0]=_;rw[←hW,←DP,←DP];unfold XD lz Zm cf cg;rw[List.take_length,List.take_length,List.take_of_length_le (by rw[List.length_zipWith];omega),List.append_assoc]
end Go.Proofs.YtpihdbhocgcbpaaGreatDoor.Gl
