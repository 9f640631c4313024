/- Code: reading. -/
import Derived.Test.YtpihdbhocgcbpaaGreatDoorAmH
import Derived.Test.YtpihdbhocgcbpaaGreatDoorProg
import Derived.KernelRfl
import Derived.Test.YtpihdbhocgcbpaaGreatDoorCdB
set_option linter.unusedSectionVars false
set_option linter.unusedVariables false
set_option linter.unusedSimpArgs false
open Go Am
namespace Go.Proofs.YtpihdbhocgcbpaaGreatDoor.Rd
def frzR (f:FuncId):Nat:=bif Nat.beq f 171||Nat.beq f 172 then 2 else 1
noncomputable abbrev EK (K:FuncId→List AV→Option AV):Env:=lq Tryz.prog 1200 1200 frzR K (fun _=>none)
section
variable {K : FuncId → List AV → Option AV}
theorem nI:C7 (EK K) 2=some (.int .i64):=by kernel_rfl
theorem Ck:C7 (EK K) 3=some (.int .i64):=by kernel_rfl
theorem Bb:Am.sizeOf (EK K) 3=some 1:=by kernel_rfl
theorem Bv:Am.isAgg (EK K) 3=some false:=by kernel_rfl
theorem pD:Am.zeroOf (EK K) 3=some (.int .i64 0):=by kernel_rfl
theorem wY:bytesOf (EK K) 3=some 8:=by kernel_rfl
theorem wZ:Am.sizeOf (EK K) 4=some 1:=by kernel_rfl
theorem z_4:Am.zeroOf (EK K) 4=some (.bool false):=by kernel_rfl
theorem dU:C7 (EK K) 5=some (.int .u8):=by kernel_rfl
theorem B3:Am.sizeOf (EK K) 5=some 1:=by kernel_rfl
theorem z_5:Am.zeroOf (EK K) 5=some (.int .u8 0):=by kernel_rfl
theorem xc:bytesOf (EK K) 5=some 1:=by kernel_rfl
theorem OM:isByte (EK K) 5=true:=by kernel_rfl
theorem Wl:C7 (EK K) 9=some .string:=by kernel_rfl
theorem D0:Am.sizeOf (EK K) 9=some 1:=by kernel_rfl
theorem Gs:Am.isAgg (EK K) 9=some false:=by kernel_rfl
theorem pE:Am.zeroOf (EK K) 9=some (.str []):=by kernel_rfl
theorem nJ:bytesOf (EK K) 9=some 16:=by kernel_rfl
theorem xd:Y9 (EK K) 9=some (.one .string):=by kernel_rfl
theorem oI:CC (EK K) 20=some true:=by kernel_rfl
theorem SN:C7 (EK K) 21=some (.int .i32):=by kernel_rfl
theorem D3:C7 (EK K) 22=some (.slice 54):=by kernel_rfl
theorem Bk:Am.sizeOf (EK K) 22=some 1:=by kernel_rfl
theorem Bn:Am.isAgg (EK K) 22=some false:=by kernel_rfl
theorem BA:Cf (EK K) 24 0=some (0,1,false):=by kernel_rfl
theorem BF:Cf (EK K) 24 1=some (1,1,false):=by kernel_rfl
theorem Ma:Am.sizeOf (EK K) 24=some 2:=by kernel_rfl
theorem MU:Am.isAgg (EK K) 24=some true:=by kernel_rfl
theorem FR:C7 (EK K) 25=some (.slice 58):=by kernel_rfl
theorem Dd:Am.sizeOf (EK K) 25=some 1:=by kernel_rfl
theorem Dg:Am.isAgg (EK K) 25=some false:=by kernel_rfl
theorem Ea:C7 (EK K) 26=some (.slice 3):=by kernel_rfl
theorem B9:Am.sizeOf (EK K) 26=some 1:=by kernel_rfl
theorem BJ:Am.isAgg (EK K) 26=some false:=by kernel_rfl
theorem BI:Cf (EK K) 28 0=some (0,2,true):=by kernel_rfl
theorem Bf:Cf (EK K) 28 1=some (2,1,false):=by kernel_rfl
theorem EA:Cf (EK K) 28 2=some (3,1,false):=by kernel_rfl
theorem D5:Am.sizeOf (EK K) 28=some 4:=by kernel_rfl
theorem Em:Am.isAgg (EK K) 28=some true:=by kernel_rfl
theorem pF:Am.zeroOf (EK K) 28=some (.agg [.Ca,.Ca,.Ca,.Ca]):=by kernel_rfl
theorem sX:Am.Ct (EK K) 28=some ([.Ca,.Ca,.Ca,.Ca],nth [(0,2),(2,1),(3,1)]):=by kernel_rfl
theorem RA:C7 (EK K) 31=some (.int .i64):=by kernel_rfl
theorem Hx:C7 (EK K) 37=some (.int .i64):=by kernel_rfl
theorem Jh:Am.sizeOf (EK K) 37=some 1:=by kernel_rfl
theorem KJ:Am.isAgg (EK K) 37=some false:=by kernel_rfl
theorem DO:C7 (EK K) 52=some (.slice 5):=by kernel_rfl
theorem HG:Am.sizeOf (EK K) 52=some 1:=by kernel_rfl
theorem KI:Am.isAgg (EK K) 52=some false:=by kernel_rfl
theorem OW:Yg (EK K) 54=true:=by kernel_rfl
theorem Fb:Cf (EK K) 54 0=some (0,1,false):=by kernel_rfl
theorem Fw:Cf (EK K) 54 1=some (1,1,false):=by kernel_rfl
theorem BB:Am.sizeOf (EK K) 54=some 2:=by kernel_rfl
theorem Jj:Am.isAgg (EK K) 54=some true:=by kernel_rfl
theorem lu:Am.zeroOf (EK K) 54=some (.agg [.str [],.int .i64 0]):=by kernel_rfl
theorem oJ:bytesOf (EK K) 54=some 24:=by kernel_rfl
theorem Pv:Y9 (EK K) 54=some (.flat [.string,.int .i64]):=by kernel_rfl
theorem N6:Am.Ct (EK K) 54=some ([.str [],.int .i64 0],nth [(0,1),(1,1)]):=by kernel_rfl
theorem Gp:C7 (EK K) 55=some (.int .i64):=by kernel_rfl
theorem E6:Am.sizeOf (EK K) 55=some 1:=by kernel_rfl
theorem E8:Am.isAgg (EK K) 55=some false:=by kernel_rfl
theorem Hm:C7 (EK K) 56=some (.slice 60):=by kernel_rfl
theorem Ee:Am.sizeOf (EK K) 56=some 1:=by kernel_rfl
theorem E7:Am.isAgg (EK K) 56=some false:=by kernel_rfl
theorem Df:Cf (EK K) 58 0=some (0,1,false):=by kernel_rfl
theorem E1:Cf (EK K) 58 1=some (1,1,false):=by kernel_rfl
theorem Dm:Cf (EK K) 58 2=some (2,1,false):=by kernel_rfl
theorem E9:Cf (EK K) 58 3=some (3,1,false):=by kernel_rfl
theorem Hs:Cf (EK K) 58 4=some (4,1,false):=by kernel_rfl
theorem De:Cf (EK K) 58 5=some (5,1,false):=by kernel_rfl
theorem FG:Cf (EK K) 58 6=some (6,1,false):=by kernel_rfl
theorem BV:Am.sizeOf (EK K) 58=some 7:=by kernel_rfl
theorem Gr:Am.isAgg (EK K) 58=some true:=by kernel_rfl
theorem mI:Am.zeroOf (EK K) 58=some (.agg [.int .i64 0,.int .i64 0,.Ca,.Ca,.int .i64 0,.int .i64 0,.Ca]):=by kernel_rfl
theorem sY:bytesOf (EK K) 58=some 104:=by kernel_rfl
theorem sZ:Am.Ct (EK K) 58=some ([.int .i64 0,.int .i64 0,.Ca,.Ca,.int .i64 0,.int .i64 0,.Ca],nth [(0,1),(1,1),(2,1),(3,1),(4,1),(5,1),(6,1)]):=by kernel_rfl
theorem ta:Yg (EK K) 60=true:=by kernel_rfl
theorem Hr:Cf (EK K) 60 0=some (0,1,false):=by kernel_rfl
theorem Je:Cf (EK K) 60 1=some (1,1,false):=by kernel_rfl
theorem Fo:Am.sizeOf (EK K) 60=some 2:=by kernel_rfl
theorem SC:Am.isAgg (EK K) 60=some true:=by kernel_rfl
theorem pG:Am.zeroOf (EK K) 60=some (.agg [.int .i64 0,.int .i64 0]):=by kernel_rfl
theorem tb:bytesOf (EK K) 60=some 16:=by kernel_rfl
theorem tc:Y9 (EK K) 60=some (.flat [.int .i64,.int .i64]):=by kernel_rfl
theorem td:Am.Ct (EK K) 60=some ([.int .i64 0,.int .i64 0],nth [(0,1),(1,1)]):=by kernel_rfl
theorem OP:C7 (EK K) 100=some (.pointer 102):=by kernel_rfl
theorem Lp:Am.sizeOf (EK K) 100=some 1:=by kernel_rfl
theorem O6:Am.isAgg (EK K) 100=some false:=by kernel_rfl
theorem IE:Cf (EK K) 102 0=some (0,1,false):=by kernel_rfl
theorem DW:Cf (EK K) 102 1=some (1,1,false):=by kernel_rfl
theorem J6:Am.sizeOf (EK K) 102=some 2:=by kernel_rfl
theorem tf:Am.zeroOf (EK K) 102=some (.agg [.CJ,.Ca]):=by kernel_rfl
theorem Kt:Cf (EK K) 104 0=some (0,2,true):=by kernel_rfl
theorem oK:Am.zeroOf (EK K) 104=some (.agg [.CJ,.Ca]):=by kernel_rfl
theorem B2:C7 (EK K) 106=some (.slice 9):=by kernel_rfl
theorem EM:Am.sizeOf (EK K) 106=some 1:=by kernel_rfl
theorem FM:Am.isAgg (EK K) 106=some false:=by kernel_rfl
theorem KV:C7 (EK K) 108=some (.array 7 9):=by kernel_rfl
theorem Ih:CC (EK K) 111=some true:=by kernel_rfl
theorem MF:Cf (EK K) 114 0=some (0,1,false):=by kernel_rfl
theorem Ks:Cf (EK K) 114 1=some (1,1,false):=by kernel_rfl
theorem Q1:Am.sizeOf (EK K) 114=some 2:=by kernel_rfl
theorem Hk:Am.zeroOf (EK K) 114=some (.agg [.int .i64 0,.Ca]):=by kernel_rfl
theorem EY:CC (EK K) 114=some false:=by kernel_rfl
theorem TL:Am.Ct (EK K) 114=some ([.int .i64 0,.Ca],nth [(0,1),(1,1)]):=by kernel_rfl
theorem Kr:Cf (EK K) 117 0=some (0,1,false):=by kernel_rfl
theorem Q0:Am.sizeOf (EK K) 117=some 1:=by kernel_rfl
theorem HC:Am.zeroOf (EK K) 117=some (.agg [.Ca]):=by kernel_rfl
theorem FE:CC (EK K) 117=some false:=by kernel_rfl
theorem TK:Am.Ct (EK K) 117=some ([.Ca],nth [(0,1)]):=by kernel_rfl
theorem ME:Cf (EK K) 119 0=some (0,1,false):=by kernel_rfl
theorem Da:Cf (EK K) 119 1=some (1,1,false):=by kernel_rfl
theorem Kq:Cf (EK K) 119 2=some (2,1,false):=by kernel_rfl
theorem Nf:Am.sizeOf (EK K) 119=some 3:=by kernel_rfl
theorem Vx:Am.isAgg (EK K) 119=some true:=by kernel_rfl
theorem Jg:Am.zeroOf (EK K) 119=some (.agg [.int .i64 0,.int .i64 0,.Ca]):=by kernel_rfl
theorem G8:CC (EK K) 119=some false:=by kernel_rfl
theorem TJ:Am.Ct (EK K) 119=some ([.int .i64 0,.int .i64 0,.Ca],nth [(0,1),(1,1),(2,1)]):=by kernel_rfl
theorem MD:Cf (EK K) 121 0=some (0,1,false):=by kernel_rfl
theorem Tc:Am.sizeOf (EK K) 121=some 1:=by kernel_rfl
theorem Rx:Am.zeroOf (EK K) 121=some (.agg [.int .i64 0]):=by kernel_rfl
theorem LC:CC (EK K) 121=some false:=by kernel_rfl
theorem TI:Am.Ct (EK K) 121=some ([.int .i64 0],nth [(0,1)]):=by kernel_rfl
theorem Gw:Am.sizeOf (EK K) 146=some 1:=by kernel_rfl
theorem O5:Am.isAgg (EK K) 146=some false:=by kernel_rfl
theorem Na:Am.zeroOf (EK K) 146=some .Cu:=by kernel_rfl
theorem SU:C7 (EK K) 155=some (.map 9 4):=by kernel_rfl
theorem Nd:Am.sizeOf (EK K) 155=some 1:=by kernel_rfl
theorem Rq:Am.isAgg (EK K) 155=some false:=by kernel_rfl
theorem tg:Am.zeroOf (EK K) 155=some .VU:=by kernel_rfl
theorem U6:CC (EK K) 166=some false:=by kernel_rfl
theorem TH:Am.Ct (EK K) 166=some ([],nth []):=by kernel_rfl
theorem U5:CC (EK K) 167=some false:=by kernel_rfl
theorem TG:Am.Ct (EK K) 167=some ([],nth []):=by kernel_rfl
theorem Tb:Am.sizeOf (EK K) 181=some 0:=by kernel_rfl
theorem oL:Am.zeroOf (EK K) 181=some (.agg []):=by kernel_rfl
theorem QS:CC (EK K) 181=some false:=by kernel_rfl
theorem TF:Am.Ct (EK K) 181=some ([],nth []):=by kernel_rfl
theorem Fc:Cf (EK K) 184 0=some (0,4,true):=by kernel_rfl
theorem DE:Cf (EK K) 184 1=some (4,1,false):=by kernel_rfl
theorem TE:Am.Ct (EK K) 184=some ([.Ca,.Ca,.Ca,.Ca,.Ca],nth [(0,4),(4,1)]):=by kernel_rfl
theorem IR:Am.sizeOf (EK K) 185=some 1:=by kernel_rfl
theorem O4:Am.isAgg (EK K) 185=some false:=by kernel_rfl
theorem SS:C7 (EK K) 222=some (.array 3 185):=by kernel_rfl
theorem Ta:Am.sizeOf (EK K) 222=some 3:=by kernel_rfl
theorem th:Am.zeroOf (EK K) 222=some (.agg [.Cu,.Cu,.Cu]):=by kernel_rfl
theorem TD:Am.Ct (EK K) 222=some ([.Cu,.Cu,.Cu],fun i=>some (i*1,1)):=by kernel_rfl
theorem AX:C7 (EK K) 250=some (.int .u32):=by kernel_rfl
theorem Fm:C7 (EK K) 253=some (.int .u64):=by kernel_rfl
theorem Qz:Am.sizeOf (EK K) 253=some 1:=by kernel_rfl
theorem Vw:Am.isAgg (EK K) 253=some false:=by kernel_rfl
theorem oM:C7 (EK K) 257=some .unsafePointer:=by kernel_rfl
theorem Eb:C7 (EK K) 259=some (.array 24 5):=by kernel_rfl
theorem ti:Am.zeroOf (EK K) 259=some (.agg [.int .u8 0,.int .u8 0,.int .u8 0,.int .u8 0,.int .u8 0,.int .u8 0,.int .u8 0,.int .u8 0,.int .u8 0,.int .u8 0,.int .u8 0,.int .u8 0,.int .u8 0,.int .u8 0,.int .u8 0,.int .u8 0,.int .u8 0,.int .u8 0,.int .u8 0,.int .u8 0,.int .u8 0,.int .u8 0,.int .u8 0,.int .u8 0]):=by kernel_rfl
theorem tj:C7 (EK K) 305=some (.array 20 253):=by kernel_rfl
theorem EW:methodOf (EK K) 114 "swingle/code.registers" =some (341,.mk none none):=by kernel_rfl
theorem EV:methodOf (EK K) 117 "swingle/code.registers" =some (342,.mk none none):=by kernel_rfl
theorem EU:methodOf (EK K) 119 "swingle/code.registers" =some (343,.mk none none):=by kernel_rfl
theorem ET:methodOf (EK K) 121 "swingle/code.registers" =some (344,.mk none none):=by kernel_rfl
theorem ES:methodOf (EK K) 166 "swingle/code.registers" =some (345,.mk none none):=by kernel_rfl
theorem ER:methodOf (EK K) 167 "swingle/code.registers" =some (346,.mk none none):=by kernel_rfl
end
def fG {α:Type} (enc:α→List AV) (k:Nat) (l:List α):AV:=match l with
 | []=> .Ca
 |a::l=>Cq enc k (a::l)
theorem DR {α:Type} {enc:α→List AV} {k:Nat} (hi:∀a b,enc a=enc b→a=b) (hl:∀a,(enc a).length=k+1) {l m:List α} (h:fG enc (k+1) l=fG enc (k+1) m):l=m:=by
 cases l with
 |nil=>cases m with
  |nil=>rfl
  |cons a m=>cases h
 |cons a l=>cases m with
  |nil=>cases h
  |cons b m=>exact By hi hl h
def Z0 (x:VI):List AV:=[.int .i64 x.op,.int .i64 x.a,fG XB 2 x.alts,fG CY 1 x.to,.int .i64 x.term,.int .i64 x.n,fG CY 1 x.args]
def mO (x:VI):List AV:=[.int .i64 x.op,.int .i64 x.a,fG XB 2 x.alts,fG CY 1 x.to,.int .i64 x.term,.int .i64 x.n,if x.op=5 then Cq CY 1 x.args else fG CY 1 x.args]
def XQ (c:Cm):List AV:=[fG Cy 2 c.cons,fG Cy 2 c.Co,fG Z0 7 c.ins,fG CY 1 c.Cj]
def nQ (c:Cm):List AV:=[fG Cy 2 c.cons,fG Cy 2 c.Co,fG mO 7 c.ins,fG CY 1 c.Cj]
theorem SR {α:Type} {enc mP:α→List AV} (h:∀a,XO (enc a) (mP a)):∀l:List α,XO (l.flatMap enc) (l.flatMap mP)
 | []=> .nil
 |a::l=>(h a).app (SR h l)
theorem xY {α:Type} {enc mP:α→List AV} {k:Nat} (h:∀a,XO (enc a) (mP a)) (l:List α):dH (Cq enc k l) (Cq mP k l):= .Cd (SR h l)
theorem Nb {α:Type} {enc mP:α→List AV} {k:Nat} (h:∀a,XO (enc a) (mP a)) (l:List α):dH (fG enc k l) (Cq mP k l):=by
 cases l with
 |nil=>exact .nil k
 |cons a l=>exact xY h (a::l)
theorem wk_a (l:List Zl):dH (fG XB 2 l) (Cq XB 2 l):=Nb (fun _=> .refl _) l
theorem pM (l:List Int):dH (fG CY 1 l) (Cq CY 1 l):=Nb (fun _=> .refl _) l
theorem xZ (l:List CD):dH (fG Cy 2 l) (Cq Cy 2 l):=Nb (fun _=> .refl _) l
theorem wk_ir (x:VI):XO (Z0 x) (WN x):= .cons (.refl _) (.cons (.refl _) (.cons (wk_a _) (.cons (pM _) (.cons (.refl _) (.cons (.refl _) (.cons (pM _) .nil))))))
theorem wk_if (x:VI):XO (mO x) (WN x):= .cons (.refl _) (.cons (.refl _) (.cons (wk_a _) (.cons (pM _) (.cons (.refl _) (.cons (.refl _) (.cons (by
 split
 ·exact .refl _
 ·exact pM _) .nil))))))
theorem wk_r (c:Cm):dH (.agg (XQ c)) (.agg (CG c)):= .agg (.cons (xZ _) (.cons (xZ _) (.cons (Nb wk_ir _) (.cons (pM _) .nil))))
theorem wk_f (c:Cm):dH (.agg (nQ c)) (.agg (CG c)):= .agg (.cons (xZ _) (.cons (xZ _) (.cons (Nb wk_if _) (.cons (pM _) .nil))))
theorem Vf (x y:VI) (h:Z0 x=Z0 y):x=y:=by
 obtain⟨a,b,c,d,e,f,g⟩:=x;obtain⟨a',b',c',d',e',f',g'⟩:=y;simp only[Z0,List.cons.injEq,AV.int.injEq,and_true,true_and]at h;obtain⟨rfl,rfl,h3,h4,rfl,rfl,h7⟩:=h;rw[DR MJ Eo h3,DR Dx Bi h4,DR Dx Bi h7]
theorem Vg (x y:VI) (h:mO x=mO y):x=y:=by
 obtain⟨a,b,c,d,e,f,g⟩:=x;obtain⟨a',b',c',d',e',f',g'⟩:=y;simp only[mO,List.cons.injEq,AV.int.injEq,and_true,true_and]at h;obtain⟨rfl,rfl,h3,h4,rfl,rfl,h7⟩:=h;have:g=g':=by
  split at h7
  ·exact By Dx Bi h7
  ·exact DR Dx Bi h7
 rw[DR MJ Eo h3,DR Dx Bi h4,this]
theorem uv {x y:Cm} (h:XQ x=XQ y):x=y:=by
 obtain⟨a,b,c,d⟩:=x;obtain⟨a',b',c',d'⟩:=y;simp only[XQ,List.cons.injEq,and_true]at h;rw[DR Dy AN h.1,DR Dy AN h.2.1,DR Vf (k:=6) (fun _=>rfl) h.2.2.1,DR Dx Bi h.2.2.2]
theorem Ve {x y:Cm} (h:nQ x=nQ y):x=y:=by
 obtain⟨a,b,c,d⟩:=x;obtain⟨a',b',c',d'⟩:=y;simp only[nQ,List.cons.injEq,and_true]at h;rw[DR Dy AN h.1,DR Dy AN h.2.1,DR Vg (k:=6) (fun _=>rfl) h.2.2.1,DR Dx Bi h.2.2.2]
noncomputable def R0a:=Wa K15 13 (fun p:Z7=>[.agg (XQ p.1)]) (fun p=> .int .i64 (if CV p.1 then 0 else 2))
theorem Jc {c:Cm} (h:Fits c):R0a 13 [.agg (XQ c)]=some (.int .i64 (if CV c then 0 else 2)):=
 A3 (f:=13) (enc:=fun p:Z7=>[.agg (XQ p.1)]) (res:=fun p=> .int .i64 (if CV p.1 then 0 else 2)) (by
  rintro⟨a,_⟩ ⟨b,_⟩ h;obtain rfl:=uv (AV.agg.inj (List.cons.inj h).1);rfl) ⟨c,h⟩
noncomputable def R0:=Wa R0a 24 (fun p:Z7=>[.agg (nQ p.1)]) (fun p=> .bool (CV p.1))
theorem G9 {c:Cm} (h:Fits c):R0 24 [.agg (nQ c)]=some (.bool (CV c)):=
 A3 (f:=24) (enc:=fun p:Z7=>[.agg (nQ p.1)]) (res:=fun p=> .bool (CV p.1)) (by
  rintro⟨a,_⟩ ⟨b,_⟩ h;obtain rfl:=Ve (AV.agg.inj (List.cons.inj h).1);rfl) ⟨c,h⟩
theorem rall0 (h:VG Tryz.prog 10 [] (.bool true)):C9 Tryz.prog (fun _=>none) R0:=by
 have xr:C9 Tryz.prog (fun _=>none) K15:=(zk h).g;have ha:C9 Tryz.prog (fun _=>none) R0a:=Bo xr fun p=>(xr 13 [.agg (CG p.1)] _ (Go.Proofs.YtpihdbhocgcbpaaGreatDoor.Jc p.2)).weak (.cons (wk_r _) .nil);exact Bo ha fun p=>(xr 24 [.agg (CG p.1)] (.bool (CV p.1)) (Go.Proofs.YtpihdbhocgcbpaaGreatDoor.G9 p.2)).weak (.cons (wk_f _) .nil)
def jd (c:UInt8) (w:List UInt8):AV:=match Yd c w with
 |some n=> .tuple [.str (w.take n),.str (w.drop (n+1)),.bool true]
 |none=> .tuple [.str w,.str [],.bool false]
theorem uw {c:UInt8}:bZ c [c]=0:=by unfold bZ Yd;rw[if_pos rfl];rfl
theorem M1 (w:List UInt8) (c:UInt8):Cb (EK R0) 210 [.str w,.str [c]] S0 (.int .i64 (bZ c w)):=by
 refine Aq (fn:=Tryz.f210) U U (by kernel_rfl) U U U U ?_;focus
  refine Es<|qa rfl<|Ld<|Es<|qm rfl<|Lq (AD U U U U Wl U) rfl<|qa rfl<|Ld<|Aa<|Ch.block<|Es<|qm rfl<|Lq (o2 Ck U U) rfl<|qm U ?_;iterate 2 refine Lh U U (om U) ?_
  refine Lh U U (Bd U Wl U U U U)<|Lq (oF U U U) rfl<|qa rfl<|Ld ?_;refine Ec U (fun g1=>?_) (fun g1=>?_);have h1:=bT g1;refine Es<|qa rfl<|Ld ?_;refine Ab (Er U ?_);rotate_left;have h1:=bF g1;refine Es<|qm rfl<|Lq (o2 Ck U U) rfl<|qa rfl<|Ld<|Ah U rfl<|Es ?_;iterate 2 refine qm U ?_
  refine Lq (AU (n:=0) U Wl U U (by first|assumption|omega|(simp only[LL];omega))) U ?_;refine B8 (fn:=Tryz.f242) (by kernel_rfl) (by kernel_rfl) U U U U U U U U U U rfl<|Es<|qa rfl<|Ld<|Es ?_;iterate 2 refine qm U ?_
  refine Lq (OD (f:=ZI) (x:= .tmp 5) (y:= .tmp 6) (by kernel_rfl) U U (M3 _ _)) rfl<|qa rfl<|Ld ?_;refine Ab (Dv (Yc.same U (An U U) U U U U ?_));refine qa rfl<|Ld ?_;refine Ab (Er U ?_);rotate_left
 ·show AV.int .i64 0=_;rw[←h1,uw]
 ·rfl
noncomputable def R1:=Wa R0 210 (fun p:List UInt8×UInt8=>[.str p.1,.str [p.2]]) (fun p=> .int .i64 (bZ p.2 p.1))
theorem P2 {w:List UInt8} {c:UInt8}:R1 210 [.str w,.str [c]]=some (.int .i64 (bZ c w)):=
 A3 (f:=210) (enc:=fun p:List UInt8×UInt8=>[.str p.1,.str [p.2]]) (res:=fun p=> .int .i64 (bZ p.2 p.1)) (by rintro⟨a,b⟩ ⟨c,d⟩ h;cases h;rfl) (w,c)
theorem Tl (w:List UInt8) (c:UInt8):Cb (EK R1) 213 [.str w,.str [c]] S0 (.int .i64 (bZ c w)):=by
 refine Aq (fn:=Tryz.f213) U U (by kernel_rfl) U U U rfl<|Es<|qa rfl<|Ld<|Es ?_;iterate 2 refine qm U ?_
 refine Lo (Ad U U (by kernel_rfl) U (Cb.Cs (P2))) rfl<|qa rfl<|Ld ?_;refine Ab (Er U ?_);rfl
noncomputable def R1s:=Wa R1 213 (fun p:List UInt8×UInt8=>[.str p.1,.str [p.2]]) (fun p=> .int .i64 (bZ p.2 p.1))
theorem ya {w:List UInt8} {c:UInt8}:R1s 213 [.str w,.str [c]]=some (.int .i64 (bZ c w)):=
 A3 (f:=213) (enc:=fun p:List UInt8×UInt8=>[.str p.1,.str [p.2]]) (res:=fun p=> .int .i64 (bZ p.2 p.1)) (by rintro⟨a,b⟩ ⟨c,d⟩ h;cases h;rfl) (w,c)
theorem cut_to (w:List UInt8) (c:UInt8) (hw:w.length≤50000):Cb (EK R1s) 134 [.str w,.str [c]] S0 (jd c w):=by
 refine Aq (fn:=Tryz.f134) U U (by kernel_rfl) U U U U ?_;cases h:Yd c w with
 |none=>
  have hix:bZ c w= -1:=by unfold bZ;rw[h]
  focus
   refine Es ?_;iterate 3 refine qa U ?_
   refine Ld<|Es ?_;iterate 2 refine qm U ?_
   refine B8 (fn:=Tryz.f173) (by kernel_rfl) (by kernel_rfl) U U U U U U U U U U rfl<|Es ?_;iterate 3 refine qa U ?_
   refine Ld<|Aa<|Es ?_;iterate 2 refine qm U ?_
   refine Lo (Ad U U (by kernel_rfl) U (Cb.Cs (P2))) rfl<|qa rfl<|Ld<|Es<|qm rfl<|Lq (o2 Ck U U) rfl<|Ld ?_;refine Ec U (fun g1=>?_) (fun g1=>?_);have h1:=dT g1;exact absurd h1 (by omega);have h1:=dF g1;refine Ac<|Es<|qm U ?_;iterate 3 refine qa U ?_
   refine Ld ?_;refine Ab (Dv (Yc.same U (An U (An U (An U U))) U U U U ?_));iterate 3 refine Lq (oe U) U ?_
   iterate 3 refine qa U ?_
   refine Ld ?_;refine Ab ⟨.inl U,rfl,rfl,rfl,_,_,_,(An U (An U (An U U))),rfl,rfl,?_⟩;rotate_left
  show AV.tuple _=_;unfold jd;rw[h]
 |some n=>
  have hn:=H4 h;have hix:bZ c w=(n:Int):=by unfold bZ;rw[h]
  focus
   refine Es ?_;iterate 3 refine qa U ?_
   refine Ld<|Es ?_;iterate 2 refine qm U ?_
   refine B8 (fn:=Tryz.f173) (by kernel_rfl) (by kernel_rfl) U U U U U U U U U U rfl<|Es ?_;iterate 3 refine qa U ?_
   refine Ld<|Aa<|Es ?_;iterate 2 refine qm U ?_
   refine Lo (Ad U U (by kernel_rfl) U (Cb.Cs (P2))) rfl<|qa rfl<|Ld<|Es<|qm rfl<|Lq (o2 Ck U U) rfl<|Ld ?_;refine Ec U (fun g1=>?_) (fun g1=>?_);have h1:=dT g1;refine As (by kernel_rfl) ?_;iterate 2 refine Nq (om U) U ?_
   rotate_left;have h1:=dF g1;exact absurd h1 (by omega)
  rw[hix];refine Nq (DM U Wl U U U (BH (by omega)) U ⟨by omega,by omega⟩) U ?_;iterate 3 refine Nq (om U) U ?_
  refine Nq (AD U U U U Wl U) U ?_;refine Nq (Ap (b:=1) U Ck U U (by omega)) U ?_;refine Nq (DM U Wl U U U U (BH (by omega)) ⟨by omega,by omega⟩) U ?_;iterate 3 refine Nq (oa U) U ?_
  refine Au ?_;refine Ab (Dv (Yc.same U (An U (An U (An U U))) U U U U ?_));iterate 3 refine Lq (oe U) U ?_
  iterate 3 refine qa U ?_
  refine Ld ?_;refine Ab ⟨.inl U,rfl,rfl,rfl,_,_,_,(An U (An U (An U U))),rfl,rfl,?_⟩;show AV.tuple [.str ((w.drop 0).take (n-0)),.str ((w.drop (n+1)).take (w.length-(n+1))),.bool true]=_;unfold jd;rw[h,List.drop_zero,Nat.sub_zero,List.take_of_length_le (l:=w.drop (n+1)) (by rw[List.length_drop];omega)]
abbrev nR:= {w:List UInt8//w.length≤50000}
noncomputable def R2:=Wa R1s 134 (fun p:nR×UInt8=>[.str p.1.1,.str [p.2]]) (fun p=>jd p.2 p.1.1)
theorem DV {w:List UInt8} {c:UInt8} (hw:w.length≤50000):R2 134 [.str w,.str [c]]=some (jd c w):=
 A3 (f:=134) (enc:=fun p:nR×UInt8=>[.str p.1.1,.str [p.2]]) (res:=fun p=>jd p.2 p.1.1) (by rintro⟨⟨a,_⟩,b⟩ ⟨⟨c,_⟩,d⟩ h;cases h;rfl) (⟨w,hw⟩,c)
def dV (c:UInt8):List UInt8→List (List UInt8)
 | []=>[[]]
 |b::w=>if b=c then []::dV c w else match dV c w with
  |p::ps=>(b::p)::ps
  | []=>[[b]]
theorem TM (c:UInt8):∀w,dV c w≠ []
 | []=>by simp[dV]
 |b::w=>by
  unfold dV;split
  ·simp
  ·split<;>simp
theorem GP {c:UInt8}:∀ {w:List UInt8},Yd c w=none→dV c w=[w]
 | [],_=>rfl
 |b::w,h=>by
  unfold Yd at h;split at h
  ·cases h
  ·next hb=>
   have:=GP (w:=w) (by simpa using h);unfold dV;rw[if_neg hb,this]
theorem HQ {c:UInt8}:∀ {w:List UInt8} {n:Nat},Yd c w=some n→dV c w=w.take n::dV c (w.drop (n+1))
 |b::w,n,h=>by
  unfold Yd at h;split at h
  ·next hb=>
   cases h
   conv=>lhs;unfold dV
   rw[if_pos hb];rfl
  ·next hb=>
   obtain⟨m,hm,rfl⟩:=Option.map_eq_some_iff.1 h;rw[List.take_succ_cons,List.drop_succ_cons]
   conv=>lhs;unfold dV
   rw[if_neg hb,HQ hm]
theorem H1 (c:UInt8):∀w,(dV c w).length=aN c.toNat w+1
 | []=>rfl
 |b::w=>by
  have ih:=H1 c w;show _=(bif Nat.beq b.toNat c.toNat then aN c.toNat w+1 else aN c.toNat w)+1;unfold dV;by_cases h:b=c
  ·rw[if_pos h,h,Nat.beq_refl,List.length_cons,ih];rfl
  ·rw[if_neg h];have:Nat.beq b.toNat c.toNat=false:=by
    cases hb:Nat.beq b.toNat c.toNat with
    |false=>rfl
    |true=>exact absurd (UInt8.toNat_inj.1 (Qb hb)) h
   rw[this];cases hp:dV c w with
   |nil=>exact absurd hp (TM c w)
   |cons p ps=>rw[hp]at ih;exact ih
def CF (l:List (List UInt8)):AV:= .Cd (l.map .str) l.length 1 true
theorem T4 (z:AV):∀n,WQ [z] n=List.replicate n z
 |0=>rfl
 |n+1=>by rw[List.replicate_succ,←T4 z n];rfl
theorem P7 (w:List UInt8) (c:UInt8) (hw:w.length≤50000):Cb (EK R2) 174 [.str w,.str [c],.int .i64 0,.int .i64 (-1)] S0 (CF (dV c w)):=by
 refine Aq (fn:=Tryz.f174) U U (by kernel_rfl) U U U U ?_;have iL:aN ([c].getD 0 0).toNat w≤w.length:=Vm _ w;have hln:(dV c w).length=aN ([c].getD 0 0).toNat w+1:=H1 c w;refine Es<|qa rfl<|Ld<|Aa<|Es<|qm rfl<|Lq (o2 Ck U U) rfl<|Ld<|Af U rfl<|Ac<|Aa<|Es<|qm rfl<|Lq (Bd U Wl U U U U) rfl<|Ld<|Af U U ?_;refine Ac<|Aa<|Es<|qm rfl<|Lq (o2 Ck U U) rfl<|Ld<|Ah U rfl<|Ai ?_;iterate 2 refine qm U ?_
 refine B8 (fn:=Tryz.f212) (by kernel_rfl) (by kernel_rfl) U U U U U U U U U U rfl<|Es<|qa rfl<|Ld<|Aa<|Es<|qm rfl<|Lq (AD U U U U Wl U) rfl<|Lq (o2 Ck U U) rfl<|Ld<|Af U rfl<|Ac<|Aa<|Es<|qm rfl<|Lq (AD U U U U Wl U) U ?_;refine Lq (o2 Ck U U) rfl<|Ld<|Ah U rfl<|Es ?_;iterate 2 refine qm U ?_
 refine Lq (AU (n:=0) U Wl U U (by first|assumption|omega|(simp only[LL];omega))) U ?_;refine Lq (OD (f:=ix) (x:= .tmp 16) (y:= .tmp 18) (by kernel_rfl) U U (Vk _ _)) rfl<|qa rfl<|Ld ?_;refine Ab (Dv (Yc.same U (An U U) U U U U ?_));refine Lq (Ap (b:=1) U Ck U U (by omega)) U ?_;refine qa rfl<|Ld<|Es ?_;iterate 2 refine qm U ?_
 refine Lq (AD U U U U Wl U) U ?_;refine Lq (Ap (b:=1) U Ck U U (by omega)) U ?_;refine Lq (Wj.minL U U U U U (by omega)) rfl<|qa rfl<|Ld<|Es<|qm rfl<|Lo (MY U B2 D0 nJ pE U U U (Nat.succ_ne_zero _) (BW (by omega) (by decide))) rfl<|qa rfl<|Ld<|Es<|qm rfl<|Lq (A8 (b:=1) U Ck U U (by omega)) rfl<|qa rfl<|Ld<|Es<|qa rfl<|Ld ?_;generalize hN:aN ([c].getD 0 0).toNat w=N at*;have rj:WQ (AV.str []).cells (N+1)=List.replicate (N+1) (.str []):=T4 _ _;refine Aa (Ch.block (Aw (fun x:Nat×List UInt8×St=>([(10,.int .i64 (x.1:Nat)),(3,.int .i64 (N:Nat)),(9,.slice 0 0 (N+1) 1 (some (N+1))),(2,.int .i64 0),(1,.str [c]),(0,.str x.2.1)],x.2.2)) (fun x=>N-x.1)
  (fun x=>x.1≤N∧x.2.1.length≤w.length∧aN c.toNat x.2.1=N-x.1∧x.2.2.next=1∧x.2.2.bound=0∧x.2.2.log=[]∧∃D:List (List UInt8),D.length=x.1∧dV c w=D++dV c x.2.1∧x.2.2.heap.get 0=some (.cells (D.map .str++List.replicate (N+1-x.1) (.str [])) 9 false))
  (0,w,_) ⟨Qo _,Qj _,hN,rfl,rfl,rfl,[],rfl,rfl,by rw[rj];rfl⟩ rfl (Ao (by repeat' constructor)) ?_))
 rintro⟨i,s,st⟩ ⟨hi,zV,VX,fB,du,X9,D,hD,hp,hg⟩;dsimp only at hi zV VX fB du X9 hD hp hg⊢;have iM:∀v,over [v] i (D.map AV.str++List.replicate (N+1-i) (.str []))=some (D.map AV.str++v::List.replicate (N-i) (.str [])):=by
  intro v;have:=QC (vs:=[v]) (b7:=[.str []]) (post:=List.replicate (N-i) (AV.str [])) rfl (pre:=D.map AV.str);rw[Qn,hD]at this;rw[show N+1-i=N-i+1 by omega,List.replicate_succ];exact this
 by_cases h:i<N
 ·obtain⟨m,hm⟩:∃m,Yd c s=some m:=by
   cases hx:Yd c s with
   |some m=>exact⟨m,rfl⟩
   |none=>
    have h1:=H1 c s;rw[GP hx,VX]at h1;simp only[List.length_cons,List.length_nil]at h1;omega
  have jr:=H4 hm;have hix:bZ c s=(m:Int):=by unfold bZ;rw[hm]
  focus
   refine Aa<|Es ?_;iterate 2 refine qm U ?_
   refine Lq (o2 Ck U U) rfl<|Ld ?_;refine Ec U (fun g1=>?_) (fun g1=>?_);have h1:=dT g1;refine Ac<|Ch.block<|Es ?_;iterate 2 refine qm U ?_
   refine Lo (Ad U U (by kernel_rfl) U (Cb.Cs (ya))) rfl<|qa rfl<|Ld<|Aa<|Es<|qm rfl<|Lq (o2 Ck U U) rfl<|Ld ?_;refine Ec U (fun g2=>?_) (fun g2=>?_);have h2:=dT g2;exact absurd h2 (by omega);have h2:=dF g2;refine Ac<|Es ?_;iterate 5 refine qm U ?_
   refine Lq (Wj.add U Ck U U (by omega)) U ?_;rotate_left;have h1:=dF g1;exact absurd h1 (by omega)
  rw[hix,Int.add_zero];refine Lq (DM U Wl U U U (BH (by omega)) U ⟨by omega,by omega⟩) U ?_;refine Lq (At U B2 D0 U U (by omega)) U ?_;refine Ax (Ws.store U D0 U U (AB hg U U (by rw[Nat.zero_add,Nat.zero_add,Nat.mul_one];exact iM _))) U U ?_;refine Ld<|Es ?_;iterate 3 refine qm U ?_
  refine Lq (AD U U U U Wl U) U ?_;refine Lq (Ap (b:=1) U Ck U U (by omega)) U ?_;refine Lq (DM U Wl U U U U (BH (by omega)) ⟨by omega,by omega⟩) rfl<|qa rfl<|Ld<|Ai<|qm U ?_;refine Lq (Ap (b:=1) U Ck U U (by omega)) U ?_;refine qa rfl<|Ld ?_;have gN:s.take m=(s.drop 0).take (m-0):=by rw[List.drop_zero,Nat.sub_zero]
  have ek:=HQ hm;have ZR:(s.drop (m+1)).take (s.length-(m+1))=s.drop (m+1):=List.take_of_length_le (by rw[List.length_drop];exact Qj _);refine⟨(i+1,s.drop (m+1),st.put 0 (some (.cells (D.map AV.str++AV.str ((s.drop 0).take (m-0))::List.replicate (N-i) (.str [])) 9 false))),⟨h,by rw[List.length_drop];omega,?_,fB,du,(Gy du).trans X9,D++[s.take m],by rw[Qm,hD];rfl,by rw[hp,ek,List.append_assoc];rfl,?_⟩,by show N-(i+1)<N-i;omega,rfl,rfl,?_⟩
  ·have h1:=H1 c s;have h2:=H1 c (s.drop (m+1));rw[ek,List.length_cons,VX,h2]at h1;show aN c.toNat (s.drop (m+1))=N-(i+1);omega
  ·rw[AL,if_pos rfl];rw[List.map_append,List.append_assoc,show N+1-(i+1)=N-i by omega,gN];rfl
  ·refine Ao ⟨rfl,rfl,rfl,rfl,rfl,?_,trivial⟩;show some (AV.str ((s.drop (m+1)).take (s.length-(m+1))))=some (.str (s.drop (m+1)));rw[ZR]
 ·have e:i=N:=by omega
  subst e;have jh:Yd c s=none:=by
   cases hx:Yd c s with
   |none=>rfl
   |some m=>
    have h1:=H1 c s;rw[HQ hx,VX,List.length_cons]at h1;have:=List.length_pos_iff.2 (TM c (s.drop (m+1)));omega
  focus
   refine Aa<|Es ?_;iterate 2 refine qm U ?_
   refine Lq (o2 Ck U U) rfl<|Ld ?_;refine Ec U (fun g1=>?_) (fun g1=>?_);have h1:=dT g1;exact absurd h1 (by omega);have h1:=dF g1;refine A1<|AS rfl<|Es ?_;iterate 3 refine qm U ?_
   refine Lq (At U B2 D0 U U (by omega)) U ?_;rotate_left
  refine Ax (Ws.store U D0 U U (AB hg U U (by rw[Nat.zero_add,Nat.zero_add,Nat.mul_one];exact iM _))) U U ?_;refine Ld<|Es ?_;iterate 2 refine qm U ?_
  refine Lq (Ap (b:=1) U Ck U U (by omega)) U ?_;have ek:=GP jh;rw[ek]at hp;rw[Nat.sub_self,List.replicate_zero]at*;have aG:∀x,(D.map AV.str++[x]).length=i+1:=fun x=>by rw[Qm,Qn,hD];rfl
  have zV:∀(st:St) (x:AV),st.heap.get 0=some (.cells (D.map AV.str++[x]) 9 false)→W7 st 1 none (some (.int .i64 ((i+1:Nat):Int))) none (.slice 0 0 (i+1) 1 (some (i+1)))=some (.slice 0 0 (i+1) 1 (some (i+1))):=by
   intro st x hg;show((VZ (st.heap.get 0)).bind fun cs=>bn 1 none (some (.int .i64 ((i+1:Nat):Int))) none 0 0 (i+1) (some (i+1)) (ZF 1 0 (i+1) (some (i+1)) cs))=_;rw[hg];show((CM (i+1) (i+1) (some (.int .i64 ((i+1:Nat):Int)))).bind fun h=>(CM 0 h none).bind fun l=>sliceFrom 1 0 0 (h-l) (some (i+1)) (i+1) l)=_;rw[BH (Qj _)];rfl
  refine Lo (IQ U B2 D0 U U U (zV _ _ (by rw[AL,if_pos rfl]))) rfl<|qa rfl<|Ld ?_;have pX:CH (st.put 0 (some (.cells (D.map AV.str++[.str s]) 9 false))) 0 40 (.slice 0 0 (i+1) 1 (some (i+1))) []=some (CF (dV c w),[0]):=by
   have e:D.map AV.str++[AV.str s]=(D++[s]).map AV.str:=by rw[List.map_append];rfl
   rw[e,hp];refine(Ko (XS:=(D++[s]).map AV.str) (Qo _) (by rw[AL,if_pos rfl]) (by rw[Qn,Qm,hD,Nat.mul_one];rfl) (QV _ _)).trans ?_;rw[Ls];unfold CF;rw[Qm,hD];rfl
  refine Ab ⟨.inl U,rfl,(Gy du).trans X9,du,_,_,_,An U U,pX,rfl,rfl⟩
abbrev gq:=nR×UInt8
noncomputable def R3:=Wa R2 174 (fun p:gq=>[.str p.1.1,.str [p.2],.int .i64 0,.int .i64 (-1)]) (fun p=>CF (dV p.2 p.1.1))
theorem yb {w:List UInt8} {c:UInt8} (hw:w.length≤50000):R3 174 [.str w,.str [c],.int .i64 0,.int .i64 (-1)]=some (CF (dV c w)):=
 A3 (f:=174) (enc:=fun p:gq=>[.str p.1.1,.str [p.2],.int .i64 0,.int .i64 (-1)]) (res:=fun p=>CF (dV p.2 p.1.1)) (by rintro⟨⟨a,_⟩,b⟩ ⟨⟨c,_⟩,d⟩ h;cases h;rfl) (⟨w,hw⟩,c)
theorem ux (w:List UInt8) (c:UInt8) (hw:w.length≤50000):Cb (EK R3) 136 [.str w,.str [c]] S0 (CF (dV c w)):=by
 refine Aq (fn:=Tryz.f136) U U (by kernel_rfl) U U U rfl<|Es<|qa rfl<|Ld<|Es ?_;iterate 2 refine qm U ?_
 refine Lo (Ad U U (by kernel_rfl) U (Cb.Cs (yb (by omega)))) U ?_;refine qa rfl<|Ld ?_;refine Ab (Er U ?_);rfl
noncomputable def R4:=Wa R3 136 (fun p:gq=>[.str p.1.1,.str [p.2]]) (fun p=>CF (dV p.2 p.1.1))
theorem P4 {w:List UInt8} {c:UInt8} (hw:w.length≤50000):R4 136 [.str w,.str [c]]=some (CF (dV c w)):=
 A3 (f:=136) (enc:=fun p:gq=>[.str p.1.1,.str [p.2]]) (res:=fun p=>CF (dV p.2 p.1.1)) (by rintro⟨⟨a,_⟩,b⟩ ⟨⟨c,_⟩,d⟩ h;cases h;rfl) (⟨w,hw⟩,c)
def bad:AV:= .iface 181 (.agg [])
theorem yc:Cb (EK R4) 135 [.bool true] S0 (.tuple []):=by
 refine Aq (fn:=Tryz.f135) U U (by kernel_rfl) U U U rfl<|Es<|qm rfl<|Lq (on U) rfl<|Ld<|Af U rfl<|Ac ?_;exact⟨.inr U,rfl,rfl,rfl,[],.tuple [],[],rfl,rfl,rfl,rfl⟩
def W3:List UInt8→List UInt8
 | []=>[]
 |b::w=>if b=45 then w else b::w
theorem yd (w:List UInt8) (hw:w.length≤50000):Cb (EK R4) 209 [.str w,.str [45]] S0 (.str (W3 w)):=by
 refine Aq (fn:=Tryz.f209) U U (by kernel_rfl) U U U U ?_;have h45:([45]:List UInt8).length=1:=rfl;cases w with
 |nil=>
  refine Es<|qa rfl<|Ld<|Es ?_;iterate 2 refine qm U ?_
  refine B8 (fn:=Tryz.f241) (by kernel_rfl) (by kernel_rfl) U U U U U U U U U U rfl<|Es<|qa rfl<|Ld<|Aa<|Es ?_;iterate 2 refine qm U ?_
  refine B8 (fn:=Tryz.f294) (by kernel_rfl) (by kernel_rfl) U U U U U U U U U U rfl<|Es<|qa rfl<|Ld<|Es<|qm rfl<|Lq (AD U U U U Wl U) rfl<|qm rfl<|Lq (AD U U U U Wl U) rfl<|Lq (o2 Ck U U) rfl<|qm U ?_;iterate 6 refine Lk U U ?_
  refine Lq (oF U U U) rfl<|qa rfl<|Ld ?_;refine Ab (Dv (Yc.same U (An U U) U U U U ?_));refine Ld<|Af U rfl<|Ac<|Es<|qm rfl<|qa rfl<|Ld ?_;refine Ab (Dv (Yc.same U (An U U) U U U U ?_));refine qa rfl<|Ld ?_;refine Ab (Er U ?_);rfl
 |cons b w=>
  have hb:(b::w).length=w.length+1:=rfl;focus
   refine Es<|qa rfl<|Ld<|Es ?_;iterate 2 refine qm U ?_
   refine B8 (fn:=Tryz.f241) (by kernel_rfl) (by kernel_rfl) U U U U U U U U U U rfl<|Es<|qa rfl<|Ld<|Aa<|Es ?_;iterate 2 refine qm U ?_
   refine B8 (fn:=Tryz.f294) (by kernel_rfl) (by kernel_rfl) U U U U U U U U U U rfl<|Es<|qa rfl<|Ld<|Es<|qm rfl<|Lq (AD U U U U Wl U) rfl<|qm rfl<|Lq (AD U U U U Wl U) rfl<|Lq (o2 Ck U U) rfl<|qm U ?_;refine Lb U (fun g1=>?_) (fun g1=>?_);have h1:=dT g1;iterate 2 refine Lh U ‹_› (om U) ?_
   refine Lh U ‹_› (AD U U U U Wl U)<|Lh U ‹_› (DM U Wl U U U (BH (n:=1) (by omega)) U ⟨by omega,by omega⟩)<|Lh U ‹_› (om U)<|Lh U ‹_› (Bd U Wl U U U U)<|Lq (oT U ‹_› U) rfl<|qa rfl<|Ld ?_;refine Ab (Dv (Yc.same U (An U U) U U U U ?_));refine Ld ?_;refine Ec U (fun g2=>?_) (fun g2=>?_);have h2:=bT g2;refine Es ?_;iterate 2 refine qm U ?_
   refine Lq (AD U U U U Wl U) rfl<|Lq (DM U Wl U U U U (BH (n:=1) (by omega)) ⟨by omega,by omega⟩) rfl<|qa rfl<|Ld ?_;refine Ab (Dv (Yc.same U (An U U) U U U U ?_));refine qa rfl<|Ld ?_;refine Ab (Er U ?_);rotate_left;have h2:=bF g2;refine Ac<|Es<|qm rfl<|qa rfl<|Ld ?_;refine Ab (Dv (Yc.same U (An U U) U U U U ?_));refine qa rfl<|Ld ?_;refine Ab (Er U ?_);rotate_left;have h1:=dF g1;exact absurd h1 (by omega)
  ·have e:b=45:=by simpa using h2
   show AV.str (((b::w).drop 1).take ((b::w).length-1))= .str (W3 (b::w));show _=AV.str (if b=45 then w else b::w);rw[if_pos e,List.drop_succ_cons,List.drop_zero,hb,Nat.add_sub_cancel,List.take_length]
  ·have e:b≠45:=fun e=>h2 (by rw[e];rfl);show AV.str (b::w)= .str (W3 (b::w));show _=AV.str (if b=45 then w else b::w);rw[if_neg e]
noncomputable def R5a:=Wa R4 135 (fun _:Unit=>[.bool true]) (fun _=> .tuple [])
theorem Bz:R5a 135 [.bool true]=some (.tuple []):=
 A3 (f:=135) (enc:=fun _:Unit=>[.bool true]) (res:=fun _=> .tuple []) (fun _ _ _=>rfl) ()
noncomputable def R5:=Wa R5a 209 (fun w:nR=>[.str w.1,.str [45]]) (fun w=> .str (W3 w.1))
theorem M5 {w:List UInt8} (hw:w.length≤50000):R5 209 [.str w,.str [45]]=some (.str (W3 w)):=
 A3 (f:=209) (enc:=fun w:nR=>[.str w.1,.str [45]]) (res:=fun w=> .str (W3 w.1)) (by rintro⟨a,_⟩ ⟨b,_⟩ h;cases h;rfl) ⟨w,hw⟩
theorem ye {K:FuncId→List AV→Option AV} (hK:K 135 [.bool false]=none) (s:St):ZV (EK K) 135 [.bool false] s (fun _=>False) (fun v=>v=bad):=by
 refine ZV.gen (fn:=Tryz.f135) hK (by kernel_rfl) U U U rfl<|Es<|qm rfl<|Lq (on U) rfl<|Ld<|Ah U rfl<|Ai<|Lq (Bj U TF U U) rfl<|Lq (DF U QS U) rfl<|VE.raise U U U ?_;exact⟨rfl,rfl,rfl⟩
theorem Ba:R5a 135 [.bool false]=none:=KK fun _ h=>by cases h
theorem BX {K:FuncId→List AV→Option AV} {s:St} {R RP:AV→St→Prop} (hK:K 135 [.bool false]=none) (h:RP bad s):VK (EK K) 135 [.bool false] s R RP:=(ye hK s).WD (fun _ h=>h) (fun _ h=>h) h
def cX (b:UInt8):Bool:=decide (48≤(b.toNat:Int))&&decide ((b.toNat:Int)≤57)
def j4 (d:List UInt8):Nat:=d.foldl (fun n b=>10*n+(b.toNat-48)) 0
def WU (w:List UInt8):Prop:=1≤(W3 w).length∧(W3 w).length≤7∧(¬(W3 w).getD 0 0=48∨w=[48])∧∀i,i<(W3 w).length→cX ((W3 w).getD i 0)=true
def VQ (w:List UInt8):Int:=if W3 w=w then(j4 (W3 w):Int)else-(j4 (W3 w):Int)
open Classical in
noncomputable def nS (w:List UInt8):Option Int:=if WU w then some (VQ w)else none
theorem G0 {w:List UInt8} (h:¬WU w):nS w=none:=by unfold nS;rw[if_neg h]
theorem HU {w:List UInt8} (h:WU w):nS w=some (VQ w):=by unfold nS;rw[if_pos h]
theorem uy {d:List UInt8} {i:Nat} (h:i<d.length):j4 (d.take (i+1))=10*j4 (d.take i)+((d.getD i 0).toNat-48):=by
 unfold j4;rw[List.take_succ_eq_append_getElem h,List.foldl_append,List.getD_eq_getElem?_getD,Qi h];rfl
theorem uz {b:UInt8}:(b.toNat:Int)=48↔b=48:=⟨fun h=>UInt8.toNat_inj.1 (by simpa using(show b.toNat=48 by omega)),fun h=>by rw[h];rfl⟩
theorem NF {K:FuncId→List AV→Option AV} (M5:∀w:List UInt8,w.length≤50000→K 209 [.str w,.str [45]]=some (.str (W3 w))) (Bz:K 135 [.bool true]=some (.tuple [])) (Ba:K 135 [.bool false]=none)
 (w:List UInt8) (hK:K 169 [.str w]=none) (hw:w.length≤50000) (s:St):ZV (EK K) 169 [.str w] s (fun v=>∃n,nS w=some n∧v= .int .i64 n) (fun v=>v=bad∧nS w=none):=by
 refine ZV.gen (fn:=Tryz.f169) hK (by kernel_rfl) U U U rfl<|Es<|qa rfl<|Ld<|Es<|qm U ?_;refine Lo (Ad U U (by kernel_rfl) U (Cb.Cs (M5 _ (by omega)))) U ?_;refine qa rfl<|Ld ?_;refine VB [(3,.str (W3 w)),(0,.str w)] s.enter (1≤(W3 w).length∧(W3 w).length≤7∧(¬(W3 w).getD 0 0=48∨w=[48])) ?_ fun⟨aB,hl7,hh⟩=>?_
 ·focus
   refine Ai<|qm rfl<|Lq (AD U U U U Wl U) rfl<|Lq (o2 Ck U U) rfl<|qm U ?_;refine Lb U (fun g1=>?_) (fun g1=>?_);have h1:=dT g1;refine Lh U ‹_› (om U)<|Lh U ‹_› (AD U U U U Wl U)<|Lh U ‹_› (o2 Ck U U)<|Lq (oT U ‹_› U) rfl<|qm U ?_;refine Lb U (fun g2=>?_) (fun g2=>?_);have h2:=dT g2;refine Lh U ‹_› (om U) ?_;refine Lh U ‹_› (AU (n:=0) U Wl U U (by omega)) ?_;refine Lh U ‹_› (o2 dU U U)<|Lh U ‹_› (om U) ?_;refine Lb U (fun g3=>?_) (fun g3=>?_);have h3:=nT g3;iterate 2 refine Lk U ‹_› ?_
   refine Lh U ‹_› (oT U ‹_› U)<|Lq (oT U ‹_› U) U ?_;refine Lo (Ad U U (by kernel_rfl) U (Cb.Cs (Bz))) rfl<|Ld ?_;rotate_left;have h3:=nF g3;refine Lh U ‹_› (om U)<|Lh U ‹_› (Bd U Wl U U U U)<|Lh U ‹_› (oF U ‹_› U)<|Lq (oT U ‹_› U) U ?_;refine Bq (k:=24) U (fun g4=>?_) (fun g4=>?_);have h4:=bT g4;refine Lo (Ad U U (by kernel_rfl) U (Cb.Cs (Bz))) rfl<|Ld ?_;rotate_left;have h4:=bF g4;refine A0 U U (by kernel_rfl) U U U U (BX Ba ?_);rotate_left;have h2:=dF g2;iterate 4 refine Lk U ‹_› ?_
   iterate 2 refine FP U U U U U U ?_
   refine Lk U ‹_›<|Lq (oF U ‹_› U) U ?_;refine A0 U U (by kernel_rfl) U U U U (BX Ba ?_);rotate_left;have h1:=dF g1;iterate 3 refine Lk U ‹_› ?_
   refine Lq (oF U ‹_› U) rfl<|qm U ?_;iterate 4 refine Lk U U ?_
   iterate 2 refine FP U U U U U U ?_
   refine Lk U rfl<|Lq (oF U U U) U ?_;refine A0 U U (by kernel_rfl) U U U U (BX Ba ?_);rotate_left
  ·exact⟨rfl,rfl,⟨by omega,by omega,.inl fun e=>h3 (uz.2 e)⟩,Ao (by repeat' constructor)⟩
  ·exact⟨rfl,rfl,⟨by omega,by omega,.inr h4⟩,Ao (by repeat' constructor)⟩
  ·exact⟨rfl,rfl,rfl,G0 fun h=>h.2.2.1.elim (fun h=>h (uz.1 h3)) h4⟩
  ·exact⟨rfl,rfl,rfl,G0 fun h=>by have:=h.2.1;omega⟩
  ·exact⟨rfl,rfl,rfl,G0 fun h=>by have:=h.1;omega⟩
 ·refine Es ?_;refine qa rfl<|Ld<|Aa<|Es<|qm rfl<|Lq (AD U U U U Wl U) rfl<|qm rfl<|Ld<|Ch.block ?_;refine Aw (fun i:Nat=>([(28,.int .i64 (i:Nat)),(27,.int .i64 ((W3 w).length:Nat)),(4,.int .i64 (j4 ((W3 w).take i):Nat)),(3,.str (W3 w)),(0,.str w)],s.enter)) (fun i=>(W3 w).length-i)
   (fun i=>i≤(W3 w).length∧j4 ((W3 w).take i)<10^i∧∀j,j<i→cX ((W3 w).getD j 0)=true) 0 ⟨Qo _,Nat.zero_lt_one,fun j hj=>absurd hj (Nat.not_lt_zero _)⟩ rfl (Ao (by repeat' constructor)) ?_
  rintro i ⟨hi,hv,hd⟩;dsimp only at hi hv hd⊢;have hv7:j4 ((W3 w).take i)<10000000:=Nat.lt_of_lt_of_le hv (Nat.pow_le_pow_right (by decide) (show i≤7 by omega));by_cases h:i<(W3 w).length
  ·have dR:=uy h;have hb:=((W3 w).getD i 0).toNat_lt;have notP:cX ((W3 w).getD i 0)=false→nS w=none:=fun hx=>G0 fun hp=>by
    have:=hp.2.2.2 i h;rw[hx]at this;cases this
   focus
    refine Es<|Lq (o2 Ck U U) rfl<|Ld<|Aa ?_;refine Ec U (fun g1=>?_) (fun g1=>?_);have h1:=dT g1;refine Ac<|Aa<|Ch.block<|Es<|qm rfl<|qa rfl<|Ld<|Es ?_;iterate 2 refine qm U ?_
    refine Lq (AU U Wl U U (by omega)) U ?_;refine Lq (o2 dU U U) rfl<|qm U ?_;refine Lb U (fun g2=>?_) (fun g2=>?_);have h2:=dT g2;iterate 2 refine Lh U ‹_› (om U) ?_
    refine Lh U ‹_› (AU U Wl U U (by omega)) ?_;refine Lh U ‹_› (o2 dU U U)<|Lq (oT U ‹_› U) U ?_;refine Bq (k:=40) U (fun g3=>?_) (fun g3=>?_);have h3:=dT g3;refine Lo (Ad U U (by kernel_rfl) U (Cb.Cs (Bz))) rfl<|Ld<|Ai<|qm U ?_;refine Lq (Jy (a:=10) U Ck U U (by omega)) U ?_;iterate 2 refine qm U ?_
    refine Lq (AU U Wl U U (by omega)) U ?_;refine Lq (Wj.subB (b:=48) U dU U U (by omega)) rfl<|Lq (GJ U dU Ck U ⟨by omega,by omega⟩) U ?_;refine Lq (Ap U Ck U U (by omega)) U ?_;refine qa rfl<|Ld<|Ai ?_;refine Lq (Ap (b:=1) U Ck U U (by omega)) U ?_;refine qm rfl<|Ld ?_;rotate_left;have h3:=dF g3;refine A0 U U (by kernel_rfl) U U U U (BX Ba ?_);rotate_left;have h2:=dF g2;iterate 4 refine Lk U ‹_› ?_
    refine Lq (oF U ‹_› U) U ?_;refine A0 U U (by kernel_rfl) U U U U (BX Ba ?_);rotate_left;have h1:=dF g1;exact absurd h1 (by omega)
   ·refine⟨i+1,⟨h,?_,fun j hj=>?_⟩,by show(W3 w).length-(i+1)<(W3 w).length-i;omega,rfl,rfl,Ao ⟨rfl,rfl,?_,rfl,rfl,trivial⟩⟩
    ·rw[dR,Nat.pow_succ];omega
    ·rcases Nat.lt_or_ge j i with hj|hj
     ·exact hd j hj
     ·obtain rfl:j=i:=by omega
      unfold cX;rw[g2,g3];rfl
    ·show some (AV.int .i64 _)=some (.int .i64 ((j4 ((W3 w).take (i+1)):Nat):Int));rw[dR]
   ·exact⟨rfl,rfl,rfl,notP (by unfold cX;rw[g2,g3];rfl)⟩
   ·exact⟨rfl,rfl,rfl,notP (by unfold cX;rw[g2];rfl)⟩
  ·obtain rfl:i=(W3 w).length:=by omega
   have hP:WU w:=⟨aB,hl7,hh,hd⟩
   rw[List.take_length]at*;focus
    refine Es<|Lq (o2 Ck U U) rfl<|Ld<|Aa ?_;refine Ec U (fun g1=>?_) (fun g1=>?_);have h1:=dT g1;exact absurd h1 (by omega);have h1:=dF g1;refine A1<|AS rfl<|Aa<|Es ?_;iterate 2 refine qm U ?_
    refine Lq (Bd U Wl U U U U) rfl<|Ld ?_;refine Ec U (fun g2=>?_) (fun g2=>?_);have h2:=bnT g2;refine Es<|qm U ?_;refine Lq (V7 U U (by omega)) U ?_;refine qa rfl<|Ld ?_;rotate_left;have h2:=bnF g2;refine Ac<|Es<|qm rfl<|qa rfl<|Ld ?_;rotate_left
   ·refine Ab ⟨.inl U,rfl,rfl,_,An U U,rfl,_,HU hP,?_⟩;unfold VQ;rw[if_neg h2];rfl
   ·refine Ab ⟨.inl U,rfl,rfl,_,An U U,rfl,_,HU hP,?_⟩;unfold VQ;rw[if_pos h2];rfl
abbrev j3:= {w:List UInt8//w.length≤50000∧WU w}
noncomputable def R6:=Wa R5 169 (fun w:j3=>[.str w.1]) (fun w=> .int .i64 (VQ w.1))
theorem EZ {w:List UInt8} (hw:w.length≤50000) (h:WU w):R6 169 [.str w]=some (.int .i64 (VQ w)):=
 A3 (f:=169) (enc:=fun w:j3=>[.str w.1]) (res:=fun w=> .int .i64 (VQ w.1)) (by rintro⟨a,_⟩ ⟨b,_⟩ h;cases h;rfl) ⟨w,hw,h⟩
theorem JQ (w:List UInt8) (hw:w.length≤50000) (h:WU w):Cb (EK R5) 169 [.str w] S0 (.int .i64 (VQ w)):=
 (NF (K:=R5) (fun _ h=>M5 h) Bz Ba w rfl hw S0).value (fun u ⟨n,h1,h2⟩=>by rw[HU h]at h1;cases h1;exact h2) fun u hu=>by rw[HU h]at hu;cases hu.2
def XI:List (List UInt8):=[[],[99,97,115,101],[111,114],[102,97,105,108],[102,114,101,101],[110,111,100,101],[101,110,116,101,114]]
def Zr:AV:= .agg (XI.map AV.str)
theorem ON:X1 (Y3 Tryz.prog 1200 1200 0 []) 100 ⟨50,[],Zr⟩=true:=by kernel_rfl
theorem eC:VG Tryz.prog 50 [] Zr:=by
 have h2:=Dl AC (m:=[]) (fun e he=>by cases he) ON;exact fun C S w xs c cs hv hS=>h2 [] C S w xs c cs (fun g cs hg=>by cases hg) hv hS
noncomputable def R7:=Wa R6 50 (fun _:Unit=>[]) (fun _=>Zr)
theorem UE:R7 50 []=some Zr:=
 A3 (f:=50) (enc:=fun _:Unit=>[]) (res:=fun _=>Zr) (fun _ _ _=>rfl) ()
def bQ (w:List UInt8):Int:=if w=[99,97,115,101]then 1 else if w=[111,114]then 2 else if w=[102,97,105,108]then 3 else if w=[102,114,101,101]then 4 else if w=[110,111,100,101]then 5 else if w=[101,110,116,101,114]then 6 else 0
theorem yf:(XI.all fun w=>X1 (Y3 Tryz.prog 1200 1200 0 []) 1000 ⟨170,[.str w],.int .i64 (bQ w)⟩)=true:=by kernel_rfl
theorem RY {w:List UInt8} (h:w∈XI):VG Tryz.prog 170 [.str w] (.int .i64 (bQ w)):=by
 have h2:=Dl AC (m:=[]) (fun e he=>by cases he) (List.all_eq_true.1 yf w h);exact fun C S w xs c cs hv hS=>h2 [] C S w xs c cs (fun g cs hg=>by cases hg) hv hS
theorem yg (w:List UInt8) (h:w∉XI):Cb (EK R7) 170 [.str w] S0 (.int .i64 (bQ w)):=by
 refine Aq (fn:=Tryz.f170) U U (by kernel_rfl) U U U U ?_;have nb:∀x∈XI,Wo x w=false:=fun x hx=>by
  cases hb:Wo x w with
  |false=>rfl
  |true=>exact absurd (bT hb▸hx) h
 have f0:=nb [] (by simp[XI]);have f1:=nb [99,97,115,101] (by simp[XI]);have f2:=nb [111,114] (by simp[XI]);have f3:=nb [102,97,105,108] (by simp[XI]);have f4:=nb [102,114,101,101] (by simp[XI]);have f5:=nb [110,111,100,101] (by simp[XI]);have f6:=nb [101,110,116,101,114] (by simp[XI]);refine Es<|qa rfl<|Ld<|Aa<|Es ?_;refine Lo (Ad U U (by kernel_rfl) U (Cb.Cs (UE))) rfl<|qm rfl<|Ld<|Ch.block<|Dw<|Es<|Lq (o2 Ck U U) rfl<|Ld<|Aa<|Ah U rfl<|Ac<|Aa<|Ch.block<|Es<|qm rfl<|Lq (BU (k:=0) U KV Gs D0 U U (by decide) U) U ?_;iterate 2 refine qa U ?_
 refine Ld<|Es ?_;iterate 2 refine qm U ?_
 refine Lq (Bd U Wl U U U U) rfl<|qm U ?_;iterate 2 refine Lk U ‹_› ?_
 refine Lq (oF U ‹_› U) rfl<|Ld<|Af U rfl<|Ac<|Ai ?_;refine Lq (Ap (a:=0) (b:=1) U Ck U U (by omega)) U ?_;refine qm rfl<|Ld<|Dw<|Es<|Lq (o2 Ck U U) rfl<|Ld<|Aa<|Ah U rfl<|Ac<|Aa<|Ch.block<|Es<|qm rfl<|Lq (BU (k:=1) U KV Gs D0 U U (by decide) U) U ?_;iterate 2 refine qa U ?_
 refine Ld<|Es ?_;iterate 2 refine qm U ?_
 refine Lq (Bd U Wl U U U U) rfl<|qm U ?_;iterate 2 refine Lk U ‹_› ?_
 refine Lq (oF U ‹_› U) rfl<|Ld<|Af U rfl<|Ac<|Ai ?_;refine Lq (Ap (a:=1) (b:=1) U Ck U U (by omega)) U ?_;refine qm rfl<|Ld<|Dw<|Es<|Lq (o2 Ck U U) rfl<|Ld<|Aa<|Ah U rfl<|Ac<|Aa<|Ch.block<|Es<|qm rfl<|Lq (BU (k:=2) U KV Gs D0 U U (by decide) U) U ?_;iterate 2 refine qa U ?_
 refine Ld<|Es ?_;iterate 2 refine qm U ?_
 refine Lq (Bd U Wl U U U U) rfl<|qm U ?_;iterate 2 refine Lk U ‹_› ?_
 refine Lq (oF U ‹_› U) rfl<|Ld<|Af U rfl<|Ac<|Ai ?_;refine Lq (Ap (a:=2) (b:=1) U Ck U U (by omega)) U ?_;refine qm rfl<|Ld<|Dw<|Es<|Lq (o2 Ck U U) rfl<|Ld<|Aa<|Ah U rfl<|Ac<|Aa<|Ch.block<|Es<|qm rfl<|Lq (BU (k:=3) U KV Gs D0 U U (by decide) U) U ?_;iterate 2 refine qa U ?_
 refine Ld<|Es ?_;iterate 2 refine qm U ?_
 refine Lq (Bd U Wl U U U U) rfl<|qm U ?_;iterate 2 refine Lk U ‹_› ?_
 refine Lq (oF U ‹_› U) rfl<|Ld<|Af U rfl<|Ac<|Ai ?_;refine Lq (Ap (a:=3) (b:=1) U Ck U U (by omega)) U ?_;refine qm rfl<|Ld<|Dw<|Es<|Lq (o2 Ck U U) rfl<|Ld<|Aa<|Ah U rfl<|Ac<|Aa<|Ch.block<|Es<|qm rfl<|Lq (BU (k:=4) U KV Gs D0 U U (by decide) U) U ?_;iterate 2 refine qa U ?_
 refine Ld<|Es ?_;iterate 2 refine qm U ?_
 refine Lq (Bd U Wl U U U U) rfl<|qm U ?_;iterate 2 refine Lk U ‹_› ?_
 refine Lq (oF U ‹_› U) rfl<|Ld<|Af U rfl<|Ac<|Ai ?_;refine Lq (Ap (a:=4) (b:=1) U Ck U U (by omega)) U ?_;refine qm rfl<|Ld<|Dw<|Es<|Lq (o2 Ck U U) rfl<|Ld<|Aa<|Ah U rfl<|Ac<|Aa<|Ch.block<|Es<|qm rfl<|Lq (BU (k:=5) U KV Gs D0 U U (by decide) U) U ?_;iterate 2 refine qa U ?_
 refine Ld<|Es ?_;iterate 2 refine qm U ?_
 refine Lq (Bd U Wl U U U U) rfl<|qm U ?_;iterate 2 refine Lk U ‹_› ?_
 refine Lq (oF U ‹_› U) rfl<|Ld<|Af U rfl<|Ac<|Ai ?_;refine Lq (Ap (a:=5) (b:=1) U Ck U U (by omega)) U ?_;refine qm rfl<|Ld<|Dw<|Es<|Lq (o2 Ck U U) rfl<|Ld<|Aa<|Ah U rfl<|Ac<|Aa<|Ch.block<|Es<|qm rfl<|Lq (BU (k:=6) U KV Gs D0 U U (by decide) U) U ?_;iterate 2 refine qa U ?_
 refine Ld<|Es ?_;iterate 2 refine qm U ?_
 refine Lq (Bd U Wl U U U U) rfl<|qm U ?_;iterate 2 refine Lk U ‹_› ?_
 refine Lq (oF U ‹_› U) rfl<|Ld<|Af U rfl<|Ac<|Ai ?_;refine Lq (Ap (a:=6) (b:=1) U Ck U U (by omega)) U ?_;refine qm rfl<|Ld<|Dw<|Es<|Lq (o2 Ck U U) rfl<|Ld<|Aa<|Af U rfl<|A1<|AS rfl<|Es<|qa rfl<|Ld ?_;refine Ab (Er U ?_);show AV.int .i64 0=_;unfold bQ;simp only[XI,Qk,not_or]at h;rw[if_neg h.2.1,if_neg h.2.2.1,if_neg h.2.2.2.1,if_neg h.2.2.2.2.1,if_neg h.2.2.2.2.2.1,if_neg h.2.2.2.2.2.2.1]
noncomputable def R8:=Wa R7 170 (fun w:List UInt8=>[.str w]) (fun w=> .int .i64 (bQ w))
theorem Kj {w:List UInt8}:R8 170 [.str w]=some (.int .i64 (bQ w)):=
 A3 (f:=170) (enc:=fun w:List UInt8=>[.str w]) (res:=fun w=> .int .i64 (bQ w)) (by intro a b h;cases h;rfl) w
def bh (w:List UInt8):Option Int:=if w=[99,111,110]then some 0 else if w=[102,117,110]then some 1 else if bQ w=0 then none else some 2
theorem NS {K:FuncId→List AV→Option AV} (Kj:∀w:List UInt8,K 170 [.str w]=some (.int .i64 (bQ w))) (Bz:K 135 [.bool true]=some (.tuple [])) (Ba:K 135 [.bool false]=none)
 (w:List UInt8) (hK:K 138 [.str w]=none) (s:St):ZV (EK K) 138 [.str w] s (fun v=>∃n,bh w=some n∧v= .int .i64 n) (fun v=>v=bad∧bh w=none):=by
 refine ZV.gen (fn:=Tryz.f138) hK (by kernel_rfl) U U U U ?_;focus
  refine Es<|qa rfl<|Ld<|Aa<|Es<|qm rfl<|Ld<|Ch.block<|Es<|Lq (Bd U Wl U U U U) rfl<|qa rfl<|Ld ?_;refine Ec U (fun g1=>?_) (fun g1=>?_);have h1:=bT g1;refine Es<|qa rfl<|Ld ?_;rotate_left;have h1:=bF g1;refine Es<|Lq (Bd U Wl U U U U) rfl<|qa rfl<|Ld ?_;refine Ec U (fun g2=>?_) (fun g2=>?_);have h2:=bT g2;refine Es<|qa rfl<|Ld ?_;rotate_left;have h2:=bF g2;refine Ac<|Es<|qm U ?_;refine Lo (Ad U U (by kernel_rfl) U (Cb.Cs (Kj _))) rfl<|Lq (o2 Gp U U) U ?_;refine Bq (k:=10) U (fun g3=>?_) (fun g3=>?_);have h3:=nT g3;refine Lo (Ad U U (by kernel_rfl) U (Cb.Cs (Bz))) rfl<|Ld<|Es<|qa rfl<|Ld ?_;rotate_left;have h3:=nF g3;refine A0 U U (by kernel_rfl) U U U U (BX Ba ?_);rotate_left
 ·exact Ab ⟨.inl U,rfl,rfl,_,An U U,rfl,0,by rw[h1];rfl,rfl⟩
 ·exact Ab ⟨.inl U,rfl,rfl,_,An U U,rfl,1,by rw[h2];rfl,rfl⟩
 ·refine Ab ⟨.inl U,rfl,rfl,_,An U U,rfl,2,?_,rfl⟩;unfold bh;rw[if_neg h1,if_neg h2,if_neg h3]
 ·refine⟨rfl,rfl,rfl,?_⟩;unfold bh;rw[if_neg h1,if_neg h2,if_pos h3]
abbrev u5:= {p:List UInt8×Int//bh p.1=some p.2}
noncomputable def R9:=Wa R8 138 (fun p:u5=>[.str p.1.1]) (fun p=> .int .i64 p.1.2)
theorem P3 {w:List UInt8} {n:Int} (h:bh w=some n):R9 138 [.str w]=some (.int .i64 n):=
 A3 (f:=138) (enc:=fun p:u5=>[.str p.1.1]) (res:=fun p=> .int .i64 p.1.2) (by rintro⟨⟨a,b⟩,h1⟩ ⟨⟨c,d⟩,h2⟩ h;cases h;rw[h1]at h2;cases h2;rfl) ⟨(w,n),h⟩
theorem Ux (p:u5):Cb (EK R8) 138 [.str p.1.1] S0 (.int .i64 p.1.2):=
 (NS (K:=R8) (fun _=>Kj) Bz Ba p.1.1 rfl S0).value (fun u ⟨n,h1,h2⟩=>by rw[p.2]at h1;cases h1;exact h2) fun u hu=>by rw[p.2]at hu;cases hu.2
theorem u6 {w:List UInt8} (h:¬WU w):R6 169 [.str w]=none:=KK fun⟨a,_,h2⟩ he=>by cases he;exact h h2
theorem u7 {w:List UInt8} (h:bh w=none):R9 138 [.str w]=none:=KK fun⟨⟨a,b⟩,h2⟩ he=>by cases he;rw[h]at h2;cases h2
theorem F5 {w:List UInt8} {s:St} {R RP:AV→St→Prop} (h1:¬WU w) (hw:w.length≤50000) (h:RP bad s):VK (EK R9) 169 [.str w] s R RP:=
 (NF (K:=R9) (fun _ h=>M5 h) Bz Ba w (u6 h1) hw s).WD (fun u ⟨n,h2,_⟩=>by rw[G0 h1]at h2;cases h2) (fun u h=>h.1) h
theorem yh {w:List UInt8} {s:St} {R RP:AV→St→Prop} (h1:bh w=none) (h:RP bad s):VK (EK R9) 138 [.str w] s R RP:=
 (NS (K:=R9) (fun _=>Kj) Bz Ba w (u7 h1) s).WD (fun u ⟨n,h2,_⟩=>by rw[h1]at h2;cases h2) (fun u h=>h.1) h
def Wz (s:St) (rb:Nat) (q:List AV) (ws:List (List UInt8)):Prop:=s.heap.get rb=some (.cells (q++[CF ws]) 184 false)∧q.length=4∧rb<s.next
theorem u9 {w:List UInt8} {ws:List (List UInt8)}:CQ (0+1) 0 (CF (w::ws))=some (.WO ((w::ws).map .str)):=by
 unfold CF;rfl
theorem RH {s:St} {w:List UInt8} {ws:List (List UInt8)}:W7 s 1 (some (.int .i64 1)) none none (CF (w::ws))=some (CF ws):=by
 have hb:CM 0 (ws.length+1) (some (.int .i64 ((1:Nat):Int)))=some 1:=BH (by omega);have hc:cut ((w::ws).map AV.str) (1*1) ((ws.length+1-1)*1)=some (ws.map .str):=by
  rw[Hu (by simp;omega),Nat.add_sub_cancel,List.map_cons];show some ((ws.map AV.str).take _)=_;rw[List.take_of_length_le (by simp)]
 show((CM 0 (ws.length+1) (some (.int .i64 ((1:Nat):Int)))).bind fun l=>(cut ((w::ws).map AV.str) (l*1) ((ws.length+1-l)*1)).bind fun q=>some (AV.Cd q (ws.length+1-l) 1 true))=_;rw[hb];show((cut ((w::ws).map AV.str) (1*1) ((ws.length+1-1)*1)).bind _)=_;rw[hc];rfl
theorem FY {ws:List (List UInt8)}:ao (CF ws)=some (.int .i64 (ws.length:Nat)):=rfl
theorem HV {s:St} {rb:Nat} {q:List AV} {w:List UInt8} {ws:List (List UInt8)} (h:Wz s rb q (w::ws)) (hn:ws.length≤100000) {R RP:AV→St→Prop}
 (hR:∀s',CL s s' (fun c=>c=rb)→Wz s' rb q ws→(s.bound≤s.next→Cg s s')→R (.str w) s'):VK (EK R9) 137 [.ptr rb 0] s R RP:=by
 obtain⟨hg,hq,hb⟩:=h;obtain⟨a,b,c,d,rfl⟩:∃a b c d,q=[a,b,c,d]:=by
  match q,hq with
  | [a,b,c,d],_=>exact⟨a,b,c,d,rfl⟩
 refine VK.gen (fn:=Tryz.f137) U (by kernel_rfl) U U U U ?_;have eE:s.enter.heap.get rb=some (.cells [a,b,c,d,CF (w::ws)] 184 false):=hg;have hl:=FY (ws:=w::ws);have hlen:(w::ws).length=ws.length+1:=rfl;have hix:=u9 (w:=w) (ws:=ws);have zV:=RH (s:=s.enter) (w:=w) (ws:=ws);focus
  refine Es<|qa rfl<|Ld<|Es<|qm rfl<|Lq (Ar U U U) rfl<|Lq (of DE U) rfl<|Lo (A2 U U (Aj FM EM ‹_› U)) rfl<|Lq (ol B2 U) rfl<|Lq (o2 Ck U U) U ?_;refine Bq (k:=9) U (fun g1=>?_) (fun g1=>?_);have h1:=dT g1;refine Lo (Ad U U (by kernel_rfl) U (Cb.Cs (Bz))) rfl<|Ld<|Es<|qm rfl<|Lq (Ar U U U) rfl<|Lq (of DE U) rfl<|Lo (A2 U U (Aj FM EM ‹_› U)) rfl<|Lq (Ae (k:=0) U B2 D0 U U ‹_›) rfl<|Lq (Av U U Gs D0) rfl<|qa rfl<|Ld<|Es ?_;iterate 2 refine qm U ?_
  refine Lq (Ar U U U) rfl<|Lq (of DE U) rfl<|Lo (A2 U U (Aj FM EM ‹_› U)) rfl<|Lo (IQ U B2 D0 U U U ‹_›) rfl<|Lq (Ar U U U) rfl<|Lq (of DE U) rfl<|Ax (Ws.store U EM U U (AB ‹_› U U U)) U rfl<|Ld<|Es<|qm rfl<|qa rfl<|Ld ?_;rotate_left;have h1:=dF g1;exact absurd h1 (by omega)
 refine Ab (Dv ⟨.inl U,_,rfl,_,An U U,_,Ez U (RV (.inr hb)),?_⟩);exact hR _ (CL.back CL.put) ⟨by
  show(s.enter.put rb _).heap.get rb=_;rw[AL,if_pos rfl];rfl,rfl,hb⟩ (Cg.back Cg.put)
theorem NH {s:St} {rb:Nat} {q:List AV} (h:Wz s rb q []) {R RP:AV→St→Prop} (hp:RP bad s):VK (EK R9) 137 [.ptr rb 0] s R RP:=by
 obtain⟨hg,hq,hb⟩:=h;obtain⟨a,b,c,d,rfl⟩:∃a b c d,q=[a,b,c,d]:=by
  match q,hq with
  | [a,b,c,d],_=>exact⟨a,b,c,d,rfl⟩
 refine VK.gen (fn:=Tryz.f137) U (by kernel_rfl) U U U U ?_;have eE:s.enter.heap.get rb=some (.cells [a,b,c,d,CF []] 184 false):=hg;have hl:=FY (ws:=[]);refine Es<|qa rfl<|Ld<|Es<|qm rfl<|Lq (Ar U U U) rfl<|Lq (of DE U) rfl<|Lo (A2 U U (Aj FM EM ‹_› U)) rfl<|Lq (ol B2 U) rfl<|Lq (o2 Ck U U) U ?_;refine A0 U U (by kernel_rfl) U U U U (BX Ba ?_);exact⟨rfl,hp⟩
theorem G5 {s s1:St} {rb:Nat} {q q':List AV} {ws j5:List (List UInt8)} (l1:s.enter.bound≤s.enter.next→Cg s.enter s1) (h0:Wz s.enter rb q ws) (r1:Wz s1 rb q' j5) (Xl:ws.length≠j5.length:=by exact Nat.succ_ne_self _):s1.log≠ []:=by
 intro hl;have aZ:=(l1 (Qj _)).same rb h0.2.2 (by rw[hl];exact List.not_mem_nil);have h1:=r1.1;rw[aZ,h0.1]at h1;simp only[Option.some.injEq,CB.cells.injEq]at h1;have h2:=(List.append_inj h1.1 (h0.2.1.trans r1.2.1.symm)).2;unfold CF at h2;simp only[List.cons.injEq,AV.Cd.injEq]at h2;exact Xl h2.1.2.1
def bK (b:UInt8):Bool:=(decide (97≤(b.toNat:Int))&&decide ((b.toNat:Int)≤122))||(decide (65≤(b.toNat:Int))&&decide ((b.toNat:Int)≤90))
def Yu (w:List UInt8):Prop:=w≠ []∧∀i,i<w.length→bK (w.getD i 0)=true
theorem uA {s:St} {rb:Nat} {q:List AV} {w:List UInt8} {ws:List (List UInt8)} (h:Wz s rb q (w::ws)) (hn:ws.length≤100000) (hw:w.length≤50000) {R RP:AV→St→Prop}
 (hR:Yu w→∀s',CL s s' (fun c=>c=rb)→Wz s' rb q ws→(s.bound≤s.next→Cg s s')→R (.str w) s') (hP:¬Yu w→∀s',CL s s' (fun c=>c=rb)→Wz s' rb q ws→(s.bound≤s.next→Cg s s')→RP bad s'):VK (EK R9) 168 [.ptr rb 0] s R RP:=by
 refine VK.gen (fn:=Tryz.f168) U (by kernel_rfl) U U U U ?_;have h0:Wz s.enter rb q (w::ws):=h;refine Es<|qa rfl<|Ld<|Es<|qm U ?_;refine A0 U U (by kernel_rfl) U U U U (HV h0 hn fun s1 c1 h1 l1=>?_);have r1:Wz s1 rb q ws:=by assumption
 focus
  refine qa rfl<|Ld<|Es<|qm rfl<|Lq (Bd U Wl U U U U) U ?_;refine Bq (k:=8) U (fun g1=>?_) (fun g1=>?_);have h1:=bnT g1;refine Lo (Ad U U (by kernel_rfl) U (Cb.Cs (Bz))) rfl<|Ld<|Aa<|Es<|qm rfl<|Lq (AD U U U U Wl U) rfl<|qm rfl<|Ld<|Ch.block ?_;rotate_left;have h1:=bnF g1;refine A0 U U (by kernel_rfl) U U U U (BX Ba ?_);rotate_left
 rotate_left
 ·exact⟨rfl,hP (fun h=>h.1 ‹_›) _ (CL.back c1) r1 fun hb=>Cg.back (l1 (Qj _)) hb⟩
 have Xl:w≠ []:=by assumption
 refine Aw (fun i:Nat=>([(12,.int .i64 (i:Nat)),(11,.int .i64 (w.length:Nat)),(3,.str w)],s1)) (fun i=>w.length-i)
  (fun i=>i≤w.length∧∀j,j<i→bK (w.getD j 0)=true) 0 ⟨Qo _,fun j hj=>absurd hj (Nat.not_lt_zero _)⟩ rfl (Ao (by repeat' constructor)) ?_
 rintro i ⟨hi,hd⟩;dsimp only at hi hd⊢;by_cases h:i<w.length
 ·have yes:bK (w.getD i 0)=true→i+1≤w.length∧∀j,j<i+1→bK (w.getD j 0)=true:=fun hx=>⟨h,fun j hj=>by
   rcases Nat.lt_or_ge j i with hj|hj
   ·exact hd j hj
   ·obtain rfl:j=i:=by omega
    exact hx⟩
  have no:bK (w.getD i 0)=false→¬Yu w:=fun hx hp=>by
   have:=hp.2 i h;rw[hx]at this;cases this
  focus
   refine Es<|Lq (o2 Ck U U) rfl<|Ld<|Aa ?_;refine Ec U (fun g2=>?_) (fun g2=>?_);have h2:=dT g2;refine Ac<|Aa<|Ch.block<|Es<|qm rfl<|qa rfl<|Ld<|Ai ?_;iterate 2 refine qm U ?_
   refine Lq (AU U Wl U U (by omega)) U ?_;refine Lq (o2 dU U U) rfl<|qm U ?_;refine Lb U (fun g3=>?_) (fun g3=>?_);have h3:=dT g3;iterate 2 refine Lh U ‹_› (om U) ?_
   refine Lh U ‹_› (AU U Wl U U (by omega)) ?_;refine Lh U ‹_› (o2 dU U U)<|Lq (oT U ‹_› U) rfl<|qm U ?_;refine Lb U (fun g4=>?_) (fun g4=>?_);have h4:=dT g4;iterate 5 refine Lk U ‹_› ?_
   iterate 4 refine FP U U U U U U ?_
   refine Lk U ‹_›<|Lq (oT U ‹_› U) U ?_;refine Lo (Ad U U (by kernel_rfl) U (Cb.Cs (Bz))) rfl<|Ld<|Ai ?_;refine Lq (Ap (b:=1) U Ck U U (by omega)) U ?_;refine qm rfl<|Ld ?_;rotate_left;have h4:=dF g4;iterate 2 refine Lh U ‹_› (om U) ?_
   refine Lh U ‹_› (AU U Wl U U (by omega)) ?_;refine Lh U ‹_› (o2 dU U U)<|Lh U ‹_› (om U) ?_;refine Lb U (fun g5=>?_) (fun g5=>?_);have h5:=dT g5;iterate 2 refine Lh U ‹_› (om U) ?_
   refine Lh U ‹_› (AU U Wl U U (by omega)) ?_;refine Lh U ‹_› (o2 dU U U)<|Lh U ‹_› (oT U ‹_› U)<|Lq (oF U ‹_› U) U ?_;refine Bq (k:=36) U (fun g6=>?_) (fun g6=>?_);have h6:=dT g6;exact absurd h6 (by omega);have h6:=dF g6;refine A0 U U (by kernel_rfl) U U U U (BX Ba ?_);rotate_left;have h5:=dF g5;exact absurd h5 (by omega);have h3:=dF g3;iterate 4 refine Lk U ‹_› ?_
   refine Lq (oF U ‹_› U) rfl<|qm U ?_;iterate 2 refine Lh U U (om U) ?_
   refine Lh U U (AU U Wl U U (by omega)) ?_;refine Lh U U (o2 dU U U)<|Lh U U (om U) ?_;refine Lb U (fun g7=>?_) (fun g7=>?_);have h7:=dT g7;iterate 2 refine Lh U ‹_› (om U) ?_
   refine Lh U ‹_› (AU U Wl U U (by omega)) ?_;refine Lh U ‹_› (o2 dU U U)<|Lh U U (oT U ‹_› U)<|Lq (oF U U U) U ?_;refine Bq (k:=36) U (fun g8=>?_) (fun g8=>?_);have h8:=dT g8;refine Lo (Ad U U (by kernel_rfl) U (Cb.Cs (Bz))) rfl<|Ld<|Ai ?_;refine Lq (Ap (b:=1) U Ck U U (by omega)) U ?_;refine qm rfl<|Ld ?_;rotate_left;have h8:=dF g8;refine A0 U U (by kernel_rfl) U U U U (BX Ba ?_);rotate_left;have h7:=dF g7;iterate 4 refine Lk U ‹_› ?_
   refine Lh U U (oF U ‹_› U)<|Lq (oF U U U) U ?_;refine A0 U U (by kernel_rfl) U U U U (BX Ba ?_);rotate_left;have h2:=dF g2;exact absurd h2 (by omega)
  all_goals first
   |exact⟨i+1,yes (by unfold bK;first|(rw[g3,g4];rfl)|(rw[g3,g4,g5,g6];rfl)|(rw[g3,g4,g5];rfl)|(rw[g3,g7,g8];rfl)|(rw[g3,g7];rfl)),by show w.length-(i+1)<w.length-i;omega,rfl,rfl,Ao (by repeat' constructor)⟩
   |exact⟨rfl,hP (no (by unfold bK;first|(rw[g3,g4];rfl)|(rw[g3,g4,g5,g6];rfl)|(rw[g3,g4,g5];rfl)|(rw[g3,g7,g8];rfl)|(rw[g3,g7];rfl))) _ (CL.back c1) r1 fun hb=>Cg.back (l1 (Qj _)) hb⟩
 ·obtain rfl:i=w.length:=by omega
  focus
   refine Es<|Lq (o2 Ck U U) rfl<|Ld<|Aa ?_;refine Ec U (fun g2=>?_) (fun g2=>?_);have h2:=dT g2;exact absurd h2 (by omega);have h2:=dF g2;refine A1<|AS rfl<|Es<|qm rfl<|qa rfl<|Ld ?_;rotate_left
  refine Ab (Dv ⟨.inl U,_,rfl,_,An U U,_,Ez U (G5 l1 h0 r1),?_⟩);exact hR ⟨Xl,hd⟩ _ (CL.back c1) r1 fun hb=>Cg.back (l1 (Qj _)) hb
theorem FW {s:St} {rb:Nat} {q:List AV} {ws:List (List UInt8)} (h:Wz s rb q ws) (hn:ws.length≤50001) {R RP:AV→St→Prop}
 (hR:∀w r,ws=w::r→∀s',CL s s' (fun c=>c=rb)→Wz s' rb q r→(s.bound≤s.next→Cg s s')→R (.str w) s') (hP:ws=[]→RP bad s):VK (EK R9) 137 [.ptr rb 0] s R RP:=by
 cases ws with
 |nil=>exact NH h (hP rfl)
 |cons w r=>exact HV h (by rw[List.length_cons]at hn;omega) (hR w r rfl)
theorem Uk {s:St} {rb:Nat} {q:List AV} (h:Wz s rb q []) {R RP:AV→St→Prop} (hp:RP bad s):VK (EK R9) 168 [.ptr rb 0] s R RP:=by
 refine VK.gen (fn:=Tryz.f168) U (by kernel_rfl) U U U U ?_;have h0:Wz s.enter rb q []:=h;refine Es<|qa rfl<|Ld<|Es<|qm U ?_;refine A0 U U (by kernel_rfl) U U U U (NH h0 ?_);exact⟨rfl,hp⟩
theorem QF {s:St} {rb:Nat} {q:List AV} {ws:List (List UInt8)} (h:Wz s rb q ws) (hn:ws.length≤50001) (hw:∀w∈ws,w.length≤50000) {R RP:AV→St→Prop}
 (hR:∀w r,ws=w::r→Yu w→∀s',CL s s' (fun c=>c=rb)→Wz s' rb q r→(s.bound≤s.next→Cg s s')→R (.str w) s') (hP:(¬∃w r,ws=w::r∧Yu w)→∀s',CL s s' (fun c=>c=rb)→(s.bound≤s.next→Cg s s')→(∃j5,Wz s' rb q j5)→RP bad s'):VK (EK R9) 168 [.ptr rb 0] s R RP:=by
 cases ws with
 |nil=>exact Uk h (hP (fun⟨_,_,h,_⟩=>by cases h) s CL.refl (fun _=>Cg.refl) ⟨_,h⟩)
 |cons w r=>exact uA h (by rw[List.length_cons]at hn;omega) (hw w (Qh ..)) (hR w r rfl) (fun hx s' c1 r1 l1=>hP (fun⟨_,_,h,h2⟩=>by cases h;exact hx h2) s' c1 l1 ⟨r,r1⟩)
theorem J0:∀l:List Int,(l.flatMap CY).all (Cr 40)=true
 | []=>rfl
 |_::l=>J0 l
theorem UM {s:St} {m n:Nat}:∀(l:List Int) (ks:List Nat),CH.many (CH s m (n+1)) (l.flatMap CY) ks=some (l.flatMap CY,ks)
 | [],_=>rfl
 |a::l,ks=>by
  show((CH.many (CH s m (n+1)) (l.flatMap CY) ks).bind _)=_;rw[UM l ks];rfl
theorem Q7 {s:St} {rb:Nat} {q:List AV} {ws:List (List UInt8)} (h:Wz s rb q ws) (hn:ws.length≤50001) (hw:∀w∈ws,w.length≤50000) {R RP:AV→St→Prop}
 (hR:(∀w∈ws,WU w)→∀s',CL s s' (fun c=>c=rb)→Wz s' rb q []→(s.bound≤s.next→Cg s s')→R (fG CY 1 (ws.map VQ)) s') (hP:¬(∀w∈ws,WU w)→∀s',CL s s' (fun c=>c=rb)→(s.bound≤s.next→Cg s s')→RP bad s'):VK (EK R9) 172 [.ptr rb 0] s R RP:=by
 refine VK.gen (fn:=Tryz.f172) U (by kernel_rfl) U U U U ?_;have h0:Wz s.enter rb q ws:=h;refine Es<|qa rfl<|Ld<|Es<|qa rfl<|Ld<|Aa<|Ch.block ?_;refine Aw (fun x:Nat×AV×St=>([(3,x.2.1),(0,.ptr rb 0)],x.2.2)) (fun x=>ws.length-x.1)
  (fun x=>x.1≤ws.length∧CL s.enter x.2.2 (fun c=>c=rb)∧Cg s.enter x.2.2∧Wz x.2.2 rb q (ws.drop x.1)∧Grown x.2.2 3 1 x.2.1 (((ws.take x.1).map VQ).flatMap CY) x.1∧(∀c,Ci c x.2.1=true→s.next≤c)∧∀w∈ws.take x.1,WU w)
  (0,.Ca,s.enter) ⟨Qo _,CL.refl,Cg.refl,h0,Grown.nil _ _ _,(fun c hc=>by cases hc),fun w hw=>by cases hw⟩ rfl (Ao (by repeat' constructor)) ?_
 rintro⟨i,v,st⟩ ⟨hi,hc,YR,hr,j0,dE,aE⟩;dsimp only at hi hc YR hr j0 dE aE⊢;have az:=hc.next;have hsn:s.enter.next=s.next:=rfl;obtain⟨a,b,c,d,rfl⟩:∃a b c d,q=[a,b,c,d]:=by
  match q,h.2.1 with
  | [a,b,c,d],_=>exact⟨a,b,c,d,rfl⟩
 have eE:st.heap.get rb=some (.cells [a,b,c,d,CF (ws.drop i)] 184 false):=hr.1;have hl:=FY (ws:=ws.drop i);by_cases h:i<ws.length
 ·have hd:ws.drop i=ws[i]::ws.drop (i+1):=List.drop_eq_getElem_cons h;have hlen:(ws.drop i).length=ws.length-i:=List.length_drop;have hwi:=hw ws[i] (Ql _);focus
   refine Aa<|Es<|qm rfl<|Lq (Ar U U U) rfl<|Lq (of DE U) rfl<|Lo (A2 U U (Aj FM EM ‹_› U)) rfl<|Lq (ol B2 U) rfl<|Lq (o2 Ck U U) rfl<|Ld ?_;refine Ec U (fun g1=>?_) (fun g1=>?_);have h1:=dT g1;refine Ac<|Ch.block<|Ai ?_;iterate 2 refine qm U ?_
   rotate_left;have h1:=dF g1;exact absurd h1 (by omega)
  rw[hd]at hr;refine A0 U U (by kernel_rfl) U U U U (HV hr (by rw[List.length_drop];omega) fun s1 c1 r1 l1=>?_);by_cases hN:WU ws[i]
  ·refine Lo (Ad U U (by kernel_rfl) U (Cb.Cs (EZ (by omega) (by omega)))) U ?_;refine Lo (Br U Ea Bb pD U U U) U ?_;have hgr1:Grown s1 3 1 v (((ws.take i).map VQ).flatMap CY) i:=j0.CW c1.next fun c hc=>c1.heap c (j0.own hc) fun e=>by have:=dE c hc;have:=h0.2.2;omega
   refine LS hgr1 U (by decide) (BW (by omega) (by decide)) (BW (by omega) (by decide)) U U U U Ea Bb wY pD (by kernel_rfl) (by kernel_rfl) U U U U U fun v2 s2 g2 o2 c2 l2=>?_;refine qa rfl<|Ld ?_;have dy:CL s.enter s1 (fun c=>c=rb):=hc.trans c1 (fun _ h=>h) (fun _ h=> .inl h) (Qj _);have xS:=dy.next;have n8:Wz s2 rb [a,b,c,d] (ws.drop (i+1)):=⟨(c2.heap rb r1.2.2 fun e=>by have:=dE rb e;have:=h0.2.2;omega).trans r1.1,rfl,Nat.lt_of_lt_of_le r1.2.2 c2.next⟩
   have et:ws.take (i+1)=ws.take i++[ws[i]]:=List.take_succ_eq_append_getElem h;refine⟨(i+1,v2,s2),⟨h,dy.trans c2 (fun _ h=>h) (fun c h=> .inr (dE c h)) (Qj _),(YR.trans (l1 (by rw[hc.bound];exact az))).trans (l2 (by rw[dy.bound];exact xS)),n8,?_,fun c hc=>by have:=o2 c hc;omega,fun w lP=>?_⟩,by show ws.length-(i+1)<ws.length-i;omega,rfl,rfl,Ao (by repeat' constructor)⟩
   ·show Grown s2 3 1 v2 (((ws.take (i+1)).map VQ).flatMap CY) (i+1);rw[et,List.map_append,List.flatMap_append];exact g2
   ·rw[et,List.mem_append]at lP;rcases lP with h1|h1
    ·exact aE w h1
    ·rw[Qp.1 h1];exact hN
  ·refine A0 U U (by kernel_rfl) U U U U (F5 (by omega) (by omega) ?_);exact⟨rfl,hP (fun Ym=>hN (Ym _ (Ql _))) _ (CL.back (hc.trans c1 (fun _ h=>h) (fun _ h=> .inl h) (Qj _))) fun hb=>Cg.back (YR.trans (l1 (by rw[hc.bound];exact az))) hb⟩
 ·obtain rfl:i=ws.length:=by omega
  have hlen:(ws.drop ws.length).length=0:=by rw[List.drop_length];rfl
  focus
   refine Aa<|Es<|qm rfl<|Lq (Ar U U U) rfl<|Lq (of DE U) rfl<|Lo (A2 U U (Aj FM EM ‹_› U)) rfl<|Lq (ol B2 U) rfl<|Lq (o2 Ck U U) rfl<|Ld ?_;refine Ec U (fun g1=>?_) (fun g1=>?_);have h1:=dT g1;exact absurd h1 (by omega);have h1:=dF g1;refine A1<|AS rfl<|Es<|qm rfl<|qa rfl<|Ld ?_;rotate_left
  rw[List.take_length]at j0 aE;rw[List.drop_length]at hr;cases ws with
  |nil=>
   obtain⟨rfl,_⟩:=j0.zero;refine Ab (Dv ⟨.inl U,_,rfl,_,An U U,?_⟩);by_cases X9:st.log=[]
   ·refine⟨.same .Ca,?_,hR aE _ CL.refl h0 fun _=>Cg.refl⟩;unfold leave;show some (Yx s .Ca st st.log)=_;rw[X9];rfl
   ·exact⟨_,Ic (ks:=[]) U X9 U (fun b hb=>by cases hb),hR aE _ (CL.back hc) hr fun hb=>Cg.back YR hb⟩
  |cons w ws=>
   obtain⟨b2,pX,mV,dw⟩:=j0.fz (Nat.succ_ne_zero _) 39 (UM _ _) (J0 _);have mj:=dE b2 mV;have dz:st.bound=s.next:=hc.bound;refine Ab (Dv ⟨.inl U,_,rfl,_,An U U,_,Ic U (G5 (fun _=>YR) h0 hr (Nat.succ_ne_zero _)) pX (fun b hb=>by rw[Qp.1 hb,dz];exact mj),?_⟩);have yU:=hR aE (s.back (kill st [b2])) (CL.back (CL.kill hc (fun b hb=>by rw[Qp.1 hb];exact mj) (Qj _))) ⟨(QN (fun hm=>by have:=Qp.1 hm;have:=h0.2.2;omega)).trans hr.1,rfl,by show rb<(kill st [b2]).next;rw[Kg];exact hr.2.2⟩ fun hb=>Cg.back YR.kill hb;have:fG CY 1 ((w::ws).map VQ)= .Cd (((w::ws).map VQ).flatMap CY) (w::ws).length 1 true:=by
    show Cq CY 1 (VQ w::ws.map VQ)=_;unfold Cq;rw[List.length_cons,Qn];rfl
   rw[this]at yU;exact yU
def l8 (w:List UInt8):Prop:=∃n,Yd 58 w=some n∧WU (w.take n)∧WU (w.drop (n+1))
def dI (w:List UInt8):Zl:=match Yd 58 w with
 |some n=>(VQ (w.take n),VQ (w.drop (n+1)))
 |none=>(0,0)
theorem Oy:∀l:List Zl,(l.flatMap XB).all (Cr 40)=true
 | []=>rfl
 |_::l=>Oy l
theorem uB {s:St} {m n:Nat}:∀(l:List Zl) (ks:List Nat),CH.many (CH s m (n+1)) (l.flatMap XB) ks=some (l.flatMap XB,ks)
 | [],_=>rfl
 |a::l,ks=>by
  show((((CH.many (CH s m (n+1)) (l.flatMap XB) ks).bind _)).bind _)=_;rw[uB l ks];rfl
theorem uC {s:St} {rb:Nat} {q:List AV} {ws:List (List UInt8)} (h:Wz s rb q ws) (hn:ws.length≤50001) (hw:∀w∈ws,w.length≤50000) {R RP:AV→St→Prop}
 (hR:(∀w∈ws,l8 w)→∀s',CL s s' (fun c=>c=rb)→Wz s' rb q []→(s.bound≤s.next→Cg s s')→R (fG XB 2 (ws.map dI)) s') (hP:¬(∀w∈ws,l8 w)→∀s',CL s s' (fun c=>c=rb)→(s.bound≤s.next→Cg s s')→RP bad s'):VK (EK R9) 171 [.ptr rb 0] s R RP:=by
 refine VK.gen (fn:=Tryz.f171) U (by kernel_rfl) U U U U ?_;have h0:Wz s.enter rb q ws:=h;refine Es<|qa rfl<|Ld<|Es<|qa rfl<|Ld<|Aa<|Ch.block ?_;refine Aw (fun x:Nat×AV×St=>([(3,x.2.1),(0,.ptr rb 0)],x.2.2)) (fun x=>ws.length-x.1)
  (fun x=>x.1≤ws.length∧CL s.enter x.2.2 (fun c=>c=rb)∧Cg s.enter x.2.2∧Wz x.2.2 rb q (ws.drop x.1)∧Grown x.2.2 60 2 x.2.1 (((ws.take x.1).map dI).flatMap XB) x.1∧(∀c,Ci c x.2.1=true→s.next≤c)∧∀w∈ws.take x.1,l8 w)
  (0,.Ca,s.enter) ⟨Qo _,CL.refl,Cg.refl,h0,Grown.nil _ _ _,(fun c hc=>by cases hc),fun w hw=>by cases hw⟩ rfl (Ao (by repeat' constructor)) ?_
 rintro⟨i,v,st⟩ ⟨hi,hc,YR,hr,j0,dE,aE⟩;dsimp only at hi hc YR hr j0 dE aE⊢;have az:=hc.next;have hsn:s.enter.next=s.next:=rfl;obtain⟨a,b,c,d,rfl⟩:∃a b c d,q=[a,b,c,d]:=by
  match q,h.2.1 with
  | [a,b,c,d],_=>exact⟨a,b,c,d,rfl⟩
 have eE:st.heap.get rb=some (.cells [a,b,c,d,CF (ws.drop i)] 184 false):=hr.1;have hl:=FY (ws:=ws.drop i);by_cases h:i<ws.length
 ·have hd:ws.drop i=ws[i]::ws.drop (i+1):=List.drop_eq_getElem_cons h;have hlen:(ws.drop i).length=ws.length-i:=List.length_drop;have hwi:=hw ws[i] (Ql _);focus
   refine Aa<|Es<|qm rfl<|Lq (Ar U U U) rfl<|Lq (of DE U) rfl<|Lo (A2 U U (Aj FM EM ‹_› U)) rfl<|Lq (ol B2 U) rfl<|Lq (o2 Ck U U) rfl<|Ld ?_;refine Ec U (fun g1=>?_) (fun g1=>?_);have h1:=dT g1;refine Ac<|Ch.block<|Es<|qm U ?_;rotate_left;have h1:=dF g1;exact absurd h1 (by omega)
  rw[hd]at hr;refine A0 U U (by kernel_rfl) U U U U (HV hr (by rw[List.length_drop];omega) fun s1 c1 r1 l1=>?_);have no:¬l8 ws[i]→RP bad (s.back s1):=fun hN=>hP (fun Ym=>hN (Ym _ (Ql _))) _ (CL.back (hc.trans c1 (fun _ h=>h) (fun _ h=> .inl h) (Qj _))) fun hb=>Cg.back (YR.trans (l1 (by rw[hc.bound];exact az))) hb;cases hx:Yd 58 ws[i]with
  |none=>
   have DV:R9 134 [.str ws[i],.str [58]]=some (.tuple [.str ws[i],.str [],.bool false]):=by
    have:=DV (c:=58) hwi;unfold jd at this;rw[hx]at this;exact this
   refine Lo (Ad U U (by kernel_rfl) U (Cb.Cs (DV))) rfl<|qm U ?_;iterate 3 refine Lq (oe U) U ?_
   iterate 3 refine qa U ?_
   refine Ld<|Es<|qm U ?_;refine A0 U U (by kernel_rfl) U U U U (BX Ba ?_);exact⟨rfl,no fun⟨n,h1,_⟩=>by rw[hx]at h1;cases h1⟩
  |some n=>
  have aC:=H4 hx;have DV:R9 134 [.str ws[i],.str [58]]=some (.tuple [.str (ws[i].take n),.str (ws[i].drop (n+1)),.bool true]):=by
   have:=DV (c:=58) hwi;unfold jd at this;rw[hx]at this;exact this
  have gN:(ws[i].take n).length≤50000:=Nat.le_trans (List.length_take_le _ _) (by omega);have pW:(ws[i].drop (n+1)).length≤50000:=by rw[List.length_drop];omega
  by_cases hN1:WU (ws[i].take n);rotate_left
  ·refine Lo (Ad U U (by kernel_rfl) U (Cb.Cs (DV))) U ?_;refine qm U ?_;iterate 3 refine Lq (oe U) U ?_
   iterate 3 refine qa U ?_
   refine Ld<|Es<|qm U ?_;refine Lo (Ad U U (by kernel_rfl) U (Cb.Cs (Bz))) rfl<|Ld<|Ai ?_;iterate 2 refine qm U ?_
   refine A0 U U (by kernel_rfl) U U U U (F5 (by omega) (by omega) ?_);exact⟨rfl,no fun⟨m,h1,h2,_⟩=>by rw[hx]at h1;cases h1;exact hN1 h2⟩
  by_cases mQ:WU (ws[i].drop (n+1))
  ·have hN:l8 ws[i]:=⟨n,hx,hN1,mQ⟩
   have cj:dI ws[i]=(VQ (ws[i].take n),VQ (ws[i].drop (n+1))):=by unfold dI;rw[hx]
   refine Lo (Ad U U (by kernel_rfl) U (Cb.Cs (DV))) rfl<|qm U ?_;iterate 3 refine Lq (oe U) U ?_
   iterate 3 refine qa U ?_
   refine Ld<|Es<|qm U ?_;refine Lo (Ad U U (by kernel_rfl) U (Cb.Cs (Bz))) rfl<|Ld<|Ai ?_;iterate 2 refine qm U ?_
   refine Lo (Ad U U (by kernel_rfl) U (Cb.Cs (EZ (by omega) (by omega)))) U ?_;refine qm U ?_;refine Lo (Ad U U (by kernel_rfl) U (Cb.Cs (EZ (by omega) (by omega)))) U ?_;refine Lq (Bj U td U U) rfl<|Lo (Br U Hm Fo pG U U U) U ?_;have hgr1:Grown s1 60 2 v (((ws.take i).map dI).flatMap XB) i:=j0.CW c1.next fun c hc=>c1.heap c (j0.own hc) fun e=>by have:=dE c hc;have:=h0.2.2;omega
   refine LS hgr1 U (by decide) (BW (by omega) (by decide)) (BW (by omega) (by decide)) U U U U Hm Fo tb pG (by kernel_rfl) (by kernel_rfl) U U U U U fun v2 s2 g2 o2 c2 l2=>?_;refine qa rfl<|Ld ?_;have dy:CL s.enter s1 (fun c=>c=rb):=hc.trans c1 (fun _ h=>h) (fun _ h=> .inl h) (Qj _);have xS:=dy.next;have n8:Wz s2 rb [a,b,c,d] (ws.drop (i+1)):=⟨(c2.heap rb r1.2.2 fun e=>by have:=dE rb e;have:=h0.2.2;omega).trans r1.1,rfl,Nat.lt_of_lt_of_le r1.2.2 c2.next⟩
   have et:ws.take (i+1)=ws.take i++[ws[i]]:=List.take_succ_eq_append_getElem h;refine⟨(i+1,v2,s2),⟨h,dy.trans c2 (fun _ h=>h) (fun c h=> .inr (dE c h)) (Qj _),(YR.trans (l1 (by rw[hc.bound];exact az))).trans (l2 (by rw[dy.bound];exact xS)),n8,?_,fun c hc=>by have:=o2 c hc;omega,fun w lP=>?_⟩,by show ws.length-(i+1)<ws.length-i;omega,rfl,rfl,Ao (by repeat' constructor)⟩
   ·show Grown s2 60 2 v2 (((ws.take (i+1)).map dI).flatMap XB) (i+1);rw[et,List.map_append,List.flatMap_append];rw[List.map_cons,cj];exact g2
   ·rw[et,List.mem_append]at lP;rcases lP with h1|h1
    ·exact aE w h1
    ·rw[Qp.1 h1];exact hN
  ·refine Lo (Ad U U (by kernel_rfl) U (Cb.Cs (DV))) U ?_;refine qm U ?_;iterate 3 refine Lq (oe U) U ?_
   iterate 3 refine qa U ?_
   refine Ld<|Es<|qm U ?_;refine Lo (Ad U U (by kernel_rfl) U (Cb.Cs (Bz))) rfl<|Ld<|Ai ?_;iterate 2 refine qm U ?_
   refine Lo (Ad U U (by kernel_rfl) U (Cb.Cs (EZ (by omega) (by omega)))) U ?_;refine qm U ?_;refine A0 U U (by kernel_rfl) U U U U (F5 (by omega) (by omega) ?_);exact⟨rfl,no fun⟨m,h1,_,h2⟩=>by rw[hx]at h1;cases h1;exact mQ h2⟩
 ·obtain rfl:i=ws.length:=by omega
  have hlen:(ws.drop ws.length).length=0:=by rw[List.drop_length];rfl
  focus
   refine Aa<|Es<|qm rfl<|Lq (Ar U U U) rfl<|Lq (of DE U) rfl<|Lo (A2 U U (Aj FM EM ‹_› U)) rfl<|Lq (ol B2 U) rfl<|Lq (o2 Ck U U) rfl<|Ld ?_;refine Ec U (fun g1=>?_) (fun g1=>?_);have h1:=dT g1;exact absurd h1 (by omega);have h1:=dF g1;refine A1<|AS rfl<|Es<|qm rfl<|qa rfl<|Ld ?_;rotate_left
  rw[List.take_length]at j0 aE;rw[List.drop_length]at hr;cases ws with
  |nil=>
   obtain⟨rfl,_⟩:=j0.zero;refine Ab (Dv ⟨.inl U,_,rfl,_,An U U,?_⟩);by_cases X9:st.log=[]
   ·refine⟨.same .Ca,?_,hR aE _ CL.refl h0 fun _=>Cg.refl⟩;unfold leave;show some (Yx s .Ca st st.log)=_;rw[X9];rfl
   ·exact⟨_,Ic (ks:=[]) U X9 U (fun b hb=>by cases hb),hR aE _ (CL.back hc) hr fun hb=>Cg.back YR hb⟩
  |cons w ws=>
   obtain⟨b2,pX,mV,dw⟩:=j0.fz (Nat.succ_ne_zero _) 39 (uB _ _) (Oy _);have mj:=dE b2 mV;have dz:st.bound=s.next:=hc.bound;refine Ab (Dv ⟨.inl U,_,rfl,_,An U U,_,Ic U (G5 (fun _=>YR) h0 hr (Nat.succ_ne_zero _)) pX (fun b hb=>by rw[Qp.1 hb,dz];exact mj),?_⟩);have yU:=hR aE (s.back (kill st [b2])) (CL.back (CL.kill hc (fun b hb=>by rw[Qp.1 hb];exact mj) (Qj _))) ⟨(QN (fun hm=>by have:=Qp.1 hm;have:=h0.2.2;omega)).trans hr.1,rfl,by show rb<(kill st [b2]).next;rw[Kg];exact hr.2.2⟩ fun hb=>Cg.back YR.kill hb;have:fG XB 2 ((w::ws).map dI)= .Cd (((w::ws).map dI).flatMap XB) (w::ws).length 2 true:=by
    show Cq XB 2 (dI w::ws.map dI)=_;unfold Cq;rw[List.length_cons,Qn];rfl
   rw[this]at yU;exact yU
structure XJ (E:VI→List AV) (s:St) (rb:Nat) (c:Cm) (vc vf vi vs:AV):Prop where
 cons:Grown s 54 2 vc (c.cons.flatMap Cy) c.cons.length
 Co:Grown s 54 2 vf (c.Co.flatMap Cy) c.Co.length
 ins:Grown s 58 7 vi (c.ins.flatMap E) c.ins.length
 Cj:Grown s 3 1 vs (c.Cj.flatMap CY) c.Cj.length
 dc:∀b,Ci b vc=true→rb<b∧Ci b vf=false∧Ci b vi=false∧Ci b vs=false
 df:∀b,Ci b vf=true→rb<b∧Ci b vi=false∧Ci b vs=false
 di:∀b,Ci b vi=true→rb<b∧Ci b vs=false
 ds:∀b,Ci b vs=true→rb<b
abbrev ZX:=XJ Z0
theorem XJ.CW {E:VI→List AV} {s s':St} {rb:Nat} {c:Cm} {vc vf vi vs:AV} (h:XJ E s rb c vc vf vi vs) (hc:CL s s' (fun c=>c=rb)):XJ E s' rb c vc vf vi vs:=
 ⟨h.cons.CW hc.next fun b hb=>hc.heap b (h.cons.own hb) fun e=>by have:=(h.dc b hb).1;omega,h.Co.CW hc.next fun b hb=>hc.heap b (h.Co.own hb) fun e=>by have:=(h.df b hb).1;omega,h.ins.CW hc.next fun b hb=>hc.heap b (h.ins.own hb) fun e=>by have:=(h.di b hb).1;omega,h.Cj.CW hc.next fun b hb=>hc.heap b (h.Cj.own hb) fun e=>by have:=h.ds b hb;omega,h.dc,h.df,h.di,h.ds⟩
theorem Jp {s:St} {e:TypeId} {k n:Nat} {v:AV} {cs:List AV} (h:Grown s e k v cs n):eqU v v=true:=by
 rcases h with⟨rfl,_,_⟩|⟨b,rfl,_⟩
 ·rfl
 ·exact Lf
theorem Gd {s:St} {e:TypeId} {k n m:Nat} {v:AV} {cs:List AV} (h:Grown s e k v cs n) (hm:s.next≤m:=by exact Qj _):Cz m 40 v=true:=by
 rcases h with⟨rfl,_,_⟩|⟨b,rfl,hb,_⟩
 ·rfl
 ·exact Qd (show b+1≤m by omega)
theorem NU {js:List Nat} {a:Nat} {KN:PN} (h:(js.all fun j=>Nat.testBit a j||KN.rl.any fun e=>Nat.beq e.1 j)=true):∀j∈js,Nat.testBit a j=true∨∃e∈KN.rl,e.1=j:=fun j hj=>by
 have:=List.all_eq_true.1 h j hj;rw[Bool.or_eq_true]at this;refine this.imp id fun h=>?_;obtain⟨e,he,h2⟩:=List.any_eq_true.1 h;exact⟨(e),(he),(Qb h2)⟩
theorem Gx {S s2:St} {rb:Nat} {q:List AV} {r:List (List UInt8)} (c1:CL (S.sub S.heap) s2 (fun c=>c=rb)) (r1:Wz s2 rb q r) (l1:Cg (S.sub S.heap) s2) (hb:S.bound≤S.next) (jP:rb<S.next):S.next≤s2.next∧(∀b∈s2.log,b<S.next)∧CL S (S.merged s2) (fun c=>c=rb)∧Wz (S.merged s2) rb q r∧Cg S (S.merged s2):=
 have hn:S.next≤s2.next:=c1.next
 ⟨hn,fun b hb=>by
  rcases c1.log b hb with h|⟨h,_⟩
  ·cases h
  ·exact h,c1.merged,⟨(DG hn l1 U rb (by omega)).trans r1.1,r1.2.1,r1.2.2⟩,Cg.region hn l1 hb⟩
theorem B0 {s s':St} {o o':Nat→Prop} (h:CL s s' o) (e:∀c,o c→o' c):CL s s' o':=⟨h.next,h.bound,fun c hc=>(h.log c hc).imp id fun⟨a,b⟩=>⟨a,e c b⟩,fun c hc ho=>h.heap c hc fun h=>ho (e c h)⟩
attribute [local irreducible] WB
theorem D8 {S:St} {rb:Nat} {q:List AV} {r:List (List UInt8)} (r1:Wz S rb q r) (hb:S.bound≤S.next):CL S (S.merged (S.sub S.heap)) (fun c=>c=rb)∧Cg S (S.merged (S.sub S.heap)):=
 have⟨_,_,c,_,l⟩:=Gx (S:=S) (s2:=S.sub S.heap) CL.refl r1 Cg.refl hb r1.2.2
 ⟨c,l⟩
theorem Ge {s:St} {e:TypeId} {k n:Nat} {v:AV} {cs:List AV} (h:Grown s e k v cs n):v.cells=[v]∧v.isTuple=false:=by
 rcases h with⟨rfl,_,_⟩|⟨b,rfl,_⟩<;>exact⟨rfl,rfl⟩
theorem NG {s:St} {e:TypeId} {k n b:Nat} {v:AV} {cs:List AV} (h:Grown s e k v cs n) (hb:s.next≤b):Ci b v=false:=by
 cases ho:Ci b v with
 |false=>rfl
 |true=>have:=h.own ho;omega
theorem XJ.cons' {E:VI→List AV} {s s4:St} {rb:Nat} {c:Cm} {vc vf vi vs v2:AV} {a:(List UInt8×Int)} (hl:XJ E s rb c vc vf vi vs) (c4:CL s s4 (fun c=>Ci c vc=true)) (g4:Grown s4 54 2 v2 (c.cons.flatMap Cy++Cy a) (c.cons.length+1)) (o4:∀c,Ci c v2=true→s.next≤c) (jP:rb<s.next):XJ E s4 rb {c with cons:=c.cons++[a]} v2 vf vi vs:=by
 have e1:(c.cons++[a]).flatMap Cy=c.cons.flatMap Cy++Cy a:=by rw[List.flatMap_append];show _++(Cy a++[])=_;rw[List.append_nil]
 have e2:(c.cons++[a]).length=c.cons.length+1:=by rw[Qm];rfl
 have no:∀b,Ci b v2=true→∀ {e:TypeId} {k n:Nat} {v:AV} {cs:List AV},Grown s e k v cs n→Ci b v=false:=fun b hb _ _ _ _ _ h=>NG h (o4 b hb);have dc:=hl.dc;have df:=hl.df;have di:=hl.di;have ds:=hl.ds;have kg:∀b {e:TypeId} {k n:Nat} {v:AV} {cs:List AV},Grown s e k v cs n→Ci b v=true→Ci b v2=false:=fun b _ _ _ _ _ h hb=>by
  cases h2:Ci b v2 with
  |false=>rfl
  |true=>rw[no b h2 h]at hb;cases hb
 have lo:∀b,Ci b v2=true→rb<b:=fun b hb=>Nat.lt_of_lt_of_le jP (o4 b hb);exact⟨(by rw[e1,e2];exact g4),(hl.Co.CW c4.next fun b hb=>c4.heap b (hl.Co.own hb) fun e=>by rw[(dc b e).2.1]at hb;cases hb),(hl.ins.CW c4.next fun b hb=>c4.heap b (hl.ins.own hb) fun e=>by rw[(dc b e).2.2.1]at hb;cases hb),(hl.Cj.CW c4.next fun b hb=>c4.heap b (hl.Cj.own hb) fun e=>by rw[(dc b e).2.2.2]at hb;cases hb),(fun b hb=>⟨lo b hb,no b hb hl.Co,no b hb hl.ins,no b hb hl.Cj⟩),(df),(di),(ds)⟩
theorem XJ.funs' {E:VI→List AV} {s s4:St} {rb:Nat} {c:Cm} {vc vf vi vs v2:AV} {a:(List UInt8×Int)} (hl:XJ E s rb c vc vf vi vs) (c4:CL s s4 (fun c=>Ci c vf=true)) (g4:Grown s4 54 2 v2 (c.Co.flatMap Cy++Cy a) (c.Co.length+1)) (o4:∀c,Ci c v2=true→s.next≤c) (jP:rb<s.next):XJ E s4 rb {c with Co:=c.Co++[a]} vc v2 vi vs:=by
 have e1:(c.Co++[a]).flatMap Cy=c.Co.flatMap Cy++Cy a:=by rw[List.flatMap_append];show _++(Cy a++[])=_;rw[List.append_nil]
 have e2:(c.Co++[a]).length=c.Co.length+1:=by rw[Qm];rfl
 have no:∀b,Ci b v2=true→∀ {e:TypeId} {k n:Nat} {v:AV} {cs:List AV},Grown s e k v cs n→Ci b v=false:=fun b hb _ _ _ _ _ h=>NG h (o4 b hb);have dc:=hl.dc;have df:=hl.df;have di:=hl.di;have ds:=hl.ds;have kg:∀b {e:TypeId} {k n:Nat} {v:AV} {cs:List AV},Grown s e k v cs n→Ci b v=true→Ci b v2=false:=fun b _ _ _ _ _ h hb=>by
  cases h2:Ci b v2 with
  |false=>rfl
  |true=>rw[no b h2 h]at hb;cases hb
 have lo:∀b,Ci b v2=true→rb<b:=fun b hb=>Nat.lt_of_lt_of_le jP (o4 b hb);exact⟨(hl.cons.CW c4.next fun b hb=>c4.heap b (hl.cons.own hb) fun e=>by rw[(dc b hb).2.1]at e;cases e),(by rw[e1,e2];exact g4),(hl.ins.CW c4.next fun b hb=>c4.heap b (hl.ins.own hb) fun e=>by rw[(df b e).2.1]at hb;cases hb),(hl.Cj.CW c4.next fun b hb=>c4.heap b (hl.Cj.own hb) fun e=>by rw[(df b e).2.2]at hb;cases hb),(fun b hb=>⟨(dc b hb).1,kg b hl.cons hb,(dc b hb).2.2.1,(dc b hb).2.2.2⟩),(fun b hb=>⟨lo b hb,no b hb hl.ins,no b hb hl.Cj⟩),(di),(ds)⟩
theorem XJ.ins' {E:VI→List AV} {s s4:St} {rb:Nat} {c:Cm} {vc vf vi vs v2:AV} {a:VI} (hl:XJ E s rb c vc vf vi vs) (c4:CL s s4 (fun c=>Ci c vi=true)) (g4:Grown s4 58 7 v2 (c.ins.flatMap E++E a) (c.ins.length+1)) (o4:∀c,Ci c v2=true→s.next≤c) (jP:rb<s.next):XJ E s4 rb {c with ins:=c.ins++[a]} vc vf v2 vs:=by
 have e1:(c.ins++[a]).flatMap E=c.ins.flatMap E++E a:=by rw[List.flatMap_append];show _++(E a++[])=_;rw[List.append_nil]
 have e2:(c.ins++[a]).length=c.ins.length+1:=by rw[Qm];rfl
 have no:∀b,Ci b v2=true→∀ {e:TypeId} {k n:Nat} {v:AV} {cs:List AV},Grown s e k v cs n→Ci b v=false:=fun b hb _ _ _ _ _ h=>NG h (o4 b hb);have dc:=hl.dc;have df:=hl.df;have di:=hl.di;have ds:=hl.ds;have kg:∀b {e:TypeId} {k n:Nat} {v:AV} {cs:List AV},Grown s e k v cs n→Ci b v=true→Ci b v2=false:=fun b _ _ _ _ _ h hb=>by
  cases h2:Ci b v2 with
  |false=>rfl
  |true=>rw[no b h2 h]at hb;cases hb
 have lo:∀b,Ci b v2=true→rb<b:=fun b hb=>Nat.lt_of_lt_of_le jP (o4 b hb);exact⟨(hl.cons.CW c4.next fun b hb=>c4.heap b (hl.cons.own hb) fun e=>by rw[(dc b hb).2.2.1]at e;cases e),(hl.Co.CW c4.next fun b hb=>c4.heap b (hl.Co.own hb) fun e=>by rw[(df b hb).2.1]at e;cases e),(by rw[e1,e2];exact g4),(hl.Cj.CW c4.next fun b hb=>c4.heap b (hl.Cj.own hb) fun e=>by rw[(di b e).2]at hb;cases hb),(fun b hb=>⟨(dc b hb).1,(dc b hb).2.1,kg b hl.cons hb,(dc b hb).2.2.2⟩),(fun b hb=>⟨(df b hb).1,kg b hl.Co hb,(df b hb).2.2⟩),(fun b hb=>⟨lo b hb,no b hb hl.Cj⟩),(ds)⟩
theorem XJ.yi {E:VI→List AV} {s s4:St} {rb:Nat} {c:Cm} {vc vf vi vs v2:AV} {a:Int} (hl:XJ E s rb c vc vf vi vs) (c4:CL s s4 (fun c=>Ci c vs=true)) (g4:Grown s4 3 1 v2 (c.Cj.flatMap CY++CY a) (c.Cj.length+1)) (o4:∀c,Ci c v2=true→s.next≤c) (jP:rb<s.next):XJ E s4 rb {c with Cj:=c.Cj++[a]} vc vf vi v2:=by
 have e1:(c.Cj++[a]).flatMap CY=c.Cj.flatMap CY++CY a:=by rw[List.flatMap_append];show _++(CY a++[])=_;rw[List.append_nil]
 have e2:(c.Cj++[a]).length=c.Cj.length+1:=by rw[Qm];rfl
 have no:∀b,Ci b v2=true→∀ {e:TypeId} {k n:Nat} {v:AV} {cs:List AV},Grown s e k v cs n→Ci b v=false:=fun b hb _ _ _ _ _ h=>NG h (o4 b hb);have dc:=hl.dc;have df:=hl.df;have di:=hl.di;have ds:=hl.ds;have kg:∀b {e:TypeId} {k n:Nat} {v:AV} {cs:List AV},Grown s e k v cs n→Ci b v=true→Ci b v2=false:=fun b _ _ _ _ _ h hb=>by
  cases h2:Ci b v2 with
  |false=>rfl
  |true=>rw[no b h2 h]at hb;cases hb
 have lo:∀b,Ci b v2=true→rb<b:=fun b hb=>Nat.lt_of_lt_of_le jP (o4 b hb);exact⟨(hl.cons.CW c4.next fun b hb=>c4.heap b (hl.cons.own hb) fun e=>by rw[(dc b hb).2.2.2]at e;cases e),(hl.Co.CW c4.next fun b hb=>c4.heap b (hl.Co.own hb) fun e=>by rw[(df b hb).2.2]at e;cases e),(hl.ins.CW c4.next fun b hb=>c4.heap b (hl.ins.own hb) fun e=>by rw[(di b hb).2]at e;cases e),(by rw[e1,e2];exact g4),(fun b hb=>⟨(dc b hb).1,(dc b hb).2.1,(dc b hb).2.2.1,kg b hl.cons hb⟩),(fun b hb=>⟨(df b hb).1,(df b hb).2.1,kg b hl.Co hb⟩),(fun b hb=>⟨(di b hb).1,kg b hl.ins hb⟩),(lo)⟩
noncomputable def aF (s:St) (b:Nat) (o:Option CB):St:= {s with log:=bif Nat.blt b s.bound then b::s.log else s.log,heap:=s.heap.set b o}
theorem je {s:St} {b c:Nat} {o:Option CB}:(aF s b o).heap.get c=if c=b then o else s.heap.get c:=AF ..
theorem fH {s:St} {b c:Nat} {o:Option CB}:c∈(aF s b o).log↔(c=b∧c<s.bound)∨c∈s.log:=by
 show c∈(bif Nat.blt b s.bound then b::s.log else s.log)↔_;cases h:Nat.blt b s.bound with
 |true=>
  have h:b<s.bound:=Qc h;rw[cond_true,Qk];exact or_congr ⟨fun e=>⟨e,by omega⟩,fun e=>e.1⟩ Iff.rfl
 |false=>
  rw[cond_false];refine⟨.inr,fun h2=>h2.elim (fun⟨e,h3⟩=>?_) id⟩;have:=Qd (show c+1≤s.bound from h3);rw[e]at this;rw[show Nat.blt b s.bound=Nat.ble (b+1) s.bound from rfl,this]at h;cases h
theorem F0 {s:St} {b:Nat} {o:Option CB}:CL s (aF s b o) (fun c=>c=b):=⟨Qj _,rfl,fun c hc=>by
 rcases fH.1 hc with h|h
 ·exact .inr ⟨h.2,h.1⟩
 ·exact .inl h,fun c _ h=>je.trans (if_neg h)⟩
theorem Mx {s:St} {b:Nat} {o:Option CB}:Cg s (aF s b o):=⟨rfl,fun c hc=>fH.2 (.inr hc),fun c hc hn=>je.trans (if_neg fun e=>hn (fH.2 (.inl ⟨e,hc⟩)))⟩
theorem Q8 {s:St} {rb:Nat} {q':List AV} {ws:List (List UInt8)} {o:CB} (jP:rb<s.next) (ho:o= .cells (q'++[CF ws]) 184 false) (hq:q'.length=4):Wz (aF s rb (some o)) rb q' ws:=⟨by rw[je,if_pos rfl,ho],hq,jP⟩
theorem XJ.back {E:VI→List AV} {s st:St} {rb:Nat} {c:Cm} {vc vf vi vs:AV} (h:XJ E st rb c vc vf vi vs):XJ E (s.back st) rb c vc vf vi vs:=⟨h.cons,h.Co,h.ins,h.Cj,h.dc,h.df,h.di,h.ds⟩
theorem yj {s:St} {rb:Nat} {c:Cm} {vc vf vi vs:AV} {ws:List (List UInt8)} {w0:List UInt8} (h:Wz s rb [vc,vf,vi,vs] ws) (hl:ZX s rb c vc vf vi vs) (hn:ws.length≤50001) (hw:∀w∈ws,w.length≤50000) (iL:c.cons.length≤50000) {R RP:AV→St→Prop}
 (hR:∀w1 w2 r,ws=w1::w2::r→Yu w1→WU w2→∀s' v',CL s s' (fun c=>c=rb∨Ci c vc=true)→(∀b,Ci b v'=true→s.next≤b)→Wz s' rb [v',vf,vi,vs] r→ZX s' rb {c with cons:=c.cons++[(w1,VQ w2)]} v' vf vi vs→(s.bound≤s.next→Cg s s')→R (.tuple []) s')
 (hP:(¬∃w1 w2 r,ws=w1::w2::r∧Yu w1∧WU w2)→∀s',CL s s' (fun c=>rb≤c)→(s.bound≤s.next→Cg s s')→RP bad s'):VK (EK R9) 131 [.ptr rb 0,.str w0] s R RP:=by
 refine VK.unit (fn:=Tryz.f131) U (by kernel_rfl) U U U U ?_;have h0:Wz s.enter rb [vc,vf,vi,vs] ws:=h;have X9:ZX s.enter rb c vc vf vi vs:=⟨hl.cons,hl.Co,hl.ins,hl.Cj,hl.dc,hl.df,hl.di,hl.ds⟩
 have hb:=h.2.2;refine Bt (by kernel_rfl) ?_;iterate 2 refine Nq (om U) U ?_
 refine Nq (Ar U U U) rfl<|Nq (of Fc U) rfl<|Nq (of BI U) rfl<|Nq (of BA U) rfl<|Hh U Bn Bk U h0.1 U (Jp X9.cons) (Gd X9.cons) U (.inl U) U rfl<|Nq (om U) U ?_;refine DL (by kernel_rfl) U U U (QF (s:=s.enter.sub s.enter.heap) h0 hn hw (R:=fun v s2=>∃w r,ws=w::r∧Yu w∧v= .str w∧CL (s.enter.sub s.enter.heap) s2 (fun c=>c=rb)∧Wz s2 rb [vc,vf,vi,vs] r∧Cg (s.enter.sub s.enter.heap) s2)
  (RP:=fun v s2=>(¬∃w r,ws=w::r∧Yu w)∧v=bad∧CL (s.enter.sub s.enter.heap) s2 (fun c=>c=rb)∧(∃j5,Wz s2 rb [vc,vf,vi,vs] j5)∧Cg (s.enter.sub s.enter.heap) s2)
  (fun w r e hN s2 c1 r1 l1=>⟨w,r,e,hN,rfl,c1,r1,l1 (Qj _)⟩) (fun hx s2 c1 l1 r1=>⟨hx,rfl,c1,r1,l1 (Qj _)⟩)) ?_ rfl (.inl rfl) rfl rfl ?_ ?_
 ·exact NU (by kernel_rfl)
 ·rintro v s2 ⟨w,r,e,hN,rfl,c1,r1,l1⟩;obtain⟨a1,a2,c1,r2,l1⟩:=Gx c1 r1 l1 (Qj _) h0.2.2;refine⟨a1,a2,fun e he=>?_,fun ez aC=>?_⟩
  ·rw[Qp.1 he];exact .inr (.inr ⟨_,_,_,r1.1,rfl⟩)
  generalize s.enter.merged s2=s1 at*;have bW:s1.bound≤s1.next:=by rw[c1.bound];exact c1.next
  refine Nq (om U) U ?_;refine DL (by kernel_rfl) U U U (FW (s:=s1.sub s1.heap) r2 (by rw[e]at hn;exact Nat.le_trans (Nat.le_succ _) hn) (R:=fun v s2=>∃w2 r2,r=w2::r2∧v= .str w2∧CL (s1.sub s1.heap) s2 (fun c=>c=rb)∧Wz s2 rb [vc,vf,vi,vs] r2∧Cg (s1.sub s1.heap) s2)
   (RP:=fun v s2=>r=[]∧v=bad∧s2=s1.sub s1.heap)
   (fun w r e s2 c1 r1 l1=>⟨w,r,e,rfl,c1,r1,l1 (Qj _)⟩) (fun hx=>⟨hx,rfl,rfl⟩)) ?_ (aC.all rfl (by kernel_rfl)) (.inl rfl) rfl rfl ?_ ?_
  ·exact NU (by kernel_rfl)
  ·rintro v s2 ⟨w2,r3,rfl,rfl,c2,r4,l2⟩;obtain⟨a1,a2,c2,r5,l2⟩:=Gx c2 r4 l2 bW r2.2.2;refine⟨a1,a2,fun e he=>?_,fun nl3 nU=>?_⟩
   ·rw[Qp.1 he];exact .inr (.inr ⟨_,_,_,r4.1,rfl⟩)
   generalize s1.merged s2=s3 at*;have mj:s3.bound≤s3.next:=by rw[c2.bound];exact Nat.le_trans bW c2.next
   have pW:w2.length≤50000:=hw _ (by rw[e];exact Qg _ (Qh ..));by_cases mQ:WU w2
   ·refine Bp (AI U U (by kernel_rfl) U (EZ (by omega) (by omega))) (.inl U) U U ?_;refine Nq (Bj U N6 U U) rfl<|AZ U D3 BB lu U U U (.inl U) U U ?_;have xh:=(X9.CW c1).CW c2;refine Hi (new:=[.str w,.int .i64 (VQ w2)]) xh.cons mj U (by decide) (BW (by omega) (by decide)) (BW (by omega) (by decide)) U U U U D3 BB oJ lu (by kernel_rfl) (by kernel_rfl) U U (by kernel_rfl) (by rw[List.all_cons,nU.all (aC.all U (by kernel_rfl)) (by kernel_rfl)];kernel_rfl) (.inl U) U U fun v2 s4 nl4 g4 o4 c4 l4 XK=>?_;refine Nq (Ar U U U) rfl<|Nq (of Fc U) rfl<|Nq (of BI U) rfl<|Nq (of BA U) U ?_;have o2:∀b,Ci b v2=true→rb<b:=fun b hb=>Nat.lt_of_lt_of_le r5.2.2 (o4 b hb);have gr4:s4.heap.get rb=some (.cells ([vc,vf,vi,vs]++[CF r3]) 184 false):=(c4.heap rb r5.2.2 fun h=>by have:=(X9.dc rb h).1;omega).trans r5.1;have mR:rb<s4.next:=Nat.lt_of_lt_of_le r5.2.2 c4.next;have pr:=Ge g4
    refine Fi mR U (by kernel_rfl) U U gr4 (by rw[pr.1]) pr.2 (by rw[pr.1];rfl) (XK rb r5.2.2 (by
     cases h:Ci rb vc with
     |false=>rfl
     |true=>have:=(X9.dc rb h).1;omega) _ ?_) (by kernel_rfl) (.inl rfl) rfl rfl ?_
    ·exact Dr (by rw[List.all_cons,nU.all (aC.all U (by kernel_rfl)) (by kernel_rfl)];kernel_rfl)
    refine Au ?_;have zo:=(xh.cons' (a:=(w,VQ w2)) c4 g4 o4 r5.2.2).CW (F0 (b:=rb) (o:=some (.cells [v2,vf,vi,vs,CF r3] 184 false)));have r6:Wz (aF s4 rb (some (.cells [v2,vf,vi,vs,CF r3] 184 false))) rb [v2,vf,vi,vs] r3:=Q8 mR rfl rfl;have c6:CL s.enter (aF s4 rb (some (.cells [v2,vf,vi,vs,CF r3] 184 false))) (fun c=>c=rb∨Ci c vc=true):=(((c1.trans c2 (fun _ h=>h) (fun _ h=> .inl h) (Qj _)).trans c4 (own:=fun c=>c=rb∨Ci c vc=true) (fun c hc=> .inl hc) (fun c hc=> .inl (.inr hc)) (Qj _))).trans F0 (fun _ h=>h) (fun c hc=> .inl (.inl hc)) (Qj _);have l6:Cg s.enter (aF s4 rb (some (.cells [v2,vf,vi,vs,CF r3] 184 false))):=((l1.trans l2).trans l4).trans Mx;have r7:=hR w w2 r3 e hN mQ _ _ (CL.back c6) (fun b hb=>Nat.le_trans (Nat.le_trans c1.next c2.next) (o4 b hb)) r6 zo.back (fun hb=>Cg.back l6 hb)
    exact⟨.inr U,rfl,fun h=>absurd h (G5 (fun _=>l6) h0 r6 (by rw[e,List.length_cons,List.length_cons];omega)),r7⟩
   ·refine DL (by kernel_rfl) U U U (F5 (s:=s3.sub s3.heap) (R:=fun _ _=>False) (RP:=fun v s2=>v=bad∧s2=s3.sub s3.heap) mQ pW ⟨rfl,rfl⟩) (NU (by kernel_rfl)) (nU.all (aC.all U (by kernel_rfl)) (by kernel_rfl)) (.inl U) U U (fun _ _ h=>h.elim) ?_;rintro v s2 ⟨rfl,rfl⟩;refine⟨Qj _,(fun b hb=>by cases hb),(fun e he=>?_),⟨rfl,hP (fun⟨w1,w2,r,e2,h1,h2⟩=>by rw[e]at e2;cases e2;exact mQ h2) _ ?_ ?_⟩,?_⟩
    ·rw[Qp.1 he];exact .inr (.inr ⟨_,_,_,r5.1,rfl⟩)
    ·exact CL.back (B0 ((c1.trans c2 (fun _ h=>h) (fun _ h=> .inl h) (Qj _)).trans (D8 r5 mj).1 (fun _ h=>h) (fun _ h=> .inl h) (Qj _)) fun c hc=>by omega)
    ·exact fun hb=>Cg.back ((l1.trans l2).trans (D8 r5 mj).2) hb
    ·(repeat (first|exact WB.done|refine WB.desc (by decide+kernel) rfl rfl ?_|refine WB.q (by kernel_rfl) (om rfl) (.inl rfl) rfl rfl ?_))
  ·rintro v s2 ⟨rfl,rfl,rfl⟩;refine⟨Qj _,(fun b hb=>by cases hb),(fun e he=>?_),⟨rfl,hP (fun⟨w1,w2,r,e2,h1,_⟩=>by rw[e]at e2;cases e2) _ ?_ ?_⟩,?_⟩
   ·rw[Qp.1 he];exact .inr (.inr ⟨_,_,_,r2.1,rfl⟩)
   ·exact CL.back (B0 (c1.trans (D8 r2 bW).1 (fun _ h=>h) (fun _ h=> .inl h) (Qj _)) fun c hc=>by omega)
   ·exact fun hb=>Cg.back (l1.trans (D8 r2 bW).2) hb
   ·(repeat (first|exact WB.done|refine WB.desc (by decide+kernel) rfl rfl ?_|refine WB.q (by kernel_rfl) (om rfl) (.inl rfl) rfl rfl ?_))
 ·rintro v s2 ⟨hx,rfl,c1,⟨j5,r1⟩,l1⟩;obtain⟨a1,a2,c1,r2,l1⟩:=Gx c1 r1 l1 (Qj _) h0.2.2;refine⟨a1,a2,fun e he=>?_,⟨rfl,hP (fun⟨w1,w2,r,e,h1,_⟩=>hx ⟨w1,_,e,h1⟩) _ ?_ ?_⟩,?_⟩
  ·rw[Qp.1 he];exact .inr (.inr ⟨_,_,_,r1.1,rfl⟩)
  ·exact CL.back (B0 c1 fun c hc=>by omega)
  ·exact fun hb=>Cg.back l1 hb
  ·(repeat (first|exact WB.done|refine WB.desc (by decide+kernel) rfl rfl ?_|refine WB.q (by kernel_rfl) (om rfl) (.inl rfl) rfl rfl ?_))
theorem yk {s:St} {rb:Nat} {c:Cm} {vc vf vi vs:AV} {ws:List (List UInt8)} {w0:List UInt8} (h:Wz s rb [vc,vf,vi,vs] ws) (hl:ZX s rb c vc vf vi vs) (hn:ws.length≤50001) (hw:∀w∈ws,w.length≤50000) (iL:c.Co.length≤50000∧c.Cj.length≤50000) {R RP:AV→St→Prop}
 (hR:∀w1 w2 w3 r,ws=w1::w2::w3::r→Yu w1→WU w2→WU w3→∀s' v' u',CL s s' (fun c=>c=rb∨Ci c vf=true∨Ci c vs=true)→(∀b,Ci b v'=true∨Ci b u'=true→s.next≤b)→Wz s' rb [vc,v',vi,u'] r→ZX s' rb {c with Co:=c.Co++[(w1,VQ w2)],Cj:=c.Cj++[VQ w3]} vc v' vi u'→(s.bound≤s.next→Cg s s')→R (.tuple []) s')
 (hP:(¬∃w1 w2 w3 r,ws=w1::w2::w3::r∧Yu w1∧WU w2∧WU w3)→∀s',CL s s' (fun c=>rb≤c)→(s.bound≤s.next→Cg s s')→RP bad s'):VK (EK R9) 132 [.ptr rb 0,.str w0] s R RP:=by
 refine VK.unit (fn:=Tryz.f132) U (by kernel_rfl) U U U U ?_;have h0:Wz s.enter rb [vc,vf,vi,vs] ws:=h;have X9:ZX s.enter rb c vc vf vi vs:=⟨hl.cons,hl.Co,hl.ins,hl.Cj,hl.dc,hl.df,hl.di,hl.ds⟩
 have hb:=h.2.2;refine As (by kernel_rfl) ?_;iterate 2 refine Nq (om U) U ?_
 refine Nq (Ar U U U) rfl<|Nq (of Fc U) rfl<|Nq (of BI U) rfl<|Nq (of BF U) rfl<|Hh U Bn Bk U h0.1 U (Jp X9.Co) (Gd X9.Co) U (.inl U) U rfl<|Nq (om U) U ?_;refine DL (by kernel_rfl) U U U (QF (s:=s.enter.sub s.enter.heap) h0 hn hw (R:=fun v s2=>∃w r,ws=w::r∧Yu w∧v= .str w∧CL (s.enter.sub s.enter.heap) s2 (fun c=>c=rb)∧Wz s2 rb [vc,vf,vi,vs] r∧Cg (s.enter.sub s.enter.heap) s2)
  (RP:=fun v s2=>(¬∃w r,ws=w::r∧Yu w)∧v=bad∧CL (s.enter.sub s.enter.heap) s2 (fun c=>c=rb)∧(∃j5,Wz s2 rb [vc,vf,vi,vs] j5)∧Cg (s.enter.sub s.enter.heap) s2)
  (fun w r e hN s2 c1 r1 l1=>⟨w,r,e,hN,rfl,c1,r1,l1 (Qj _)⟩) (fun hx s2 c1 l1 r1=>⟨hx,rfl,c1,r1,l1 (Qj _)⟩)) ?_ rfl (.inl rfl) rfl rfl ?_ ?_
 ·exact NU (by kernel_rfl)
 ·rintro v s2 ⟨w,r,e,hN,rfl,c1,r1,l1⟩;obtain⟨a1,a2,c1,r2,l1⟩:=Gx c1 r1 l1 (Qj _) h0.2.2;refine⟨a1,a2,fun e he=>?_,fun ez aC=>?_⟩
  ·rw[Qp.1 he];exact .inr (.inr ⟨_,_,_,r1.1,rfl⟩)
  generalize s.enter.merged s2=s1 at*;have bW:s1.bound≤s1.next:=by rw[c1.bound];exact c1.next
  refine Nq (om U) U ?_;refine DL (by kernel_rfl) U U U (FW (s:=s1.sub s1.heap) r2 (by rw[e]at hn;exact Nat.le_trans (Nat.le_succ _) hn) (R:=fun v s2=>∃w2 r2,r=w2::r2∧v= .str w2∧CL (s1.sub s1.heap) s2 (fun c=>c=rb)∧Wz s2 rb [vc,vf,vi,vs] r2∧Cg (s1.sub s1.heap) s2)
   (RP:=fun v s2=>r=[]∧v=bad∧s2=s1.sub s1.heap)
   (fun w r e s2 c1 r1 l1=>⟨w,r,e,rfl,c1,r1,l1 (Qj _)⟩) (fun hx=>⟨hx,rfl,rfl⟩)) ?_ (aC.all rfl (by kernel_rfl)) (.inl rfl) rfl rfl ?_ ?_
  ·exact NU (by kernel_rfl)
  ·rintro v s2 ⟨w2,r3,rfl,rfl,c2,r4,l2⟩;obtain⟨a1,a2,c2,r5,l2⟩:=Gx c2 r4 l2 bW r2.2.2;refine⟨a1,a2,fun e he=>?_,fun nl3 nU=>?_⟩
   ·rw[Qp.1 he];exact .inr (.inr ⟨_,_,_,r4.1,rfl⟩)
   generalize s1.merged s2=s3 at*;have mj:s3.bound≤s3.next:=by rw[c2.bound];exact Nat.le_trans bW c2.next
   have pW:w2.length≤50000:=hw _ (by rw[e];exact Qg _ (Qh ..));by_cases mQ:WU w2
   ·refine Bp (AI U U (by kernel_rfl) U (EZ (by omega) (by omega))) (.inl U) U U ?_;refine Nq (Bj U N6 U U) rfl<|AZ U D3 BB lu U U U (.inl U) U U ?_;have xh:=(X9.CW c1).CW c2;refine Hi (new:=[.str w,.int .i64 (VQ w2)]) xh.Co mj U (by decide) (BW (by omega) (by decide)) (BW (by omega) (by decide)) U U U U D3 BB oJ lu (by kernel_rfl) (by kernel_rfl) U U (by kernel_rfl) (by rw[List.all_cons,nU.all (aC.all U (by kernel_rfl)) (by kernel_rfl)];kernel_rfl) (.inl U) U U fun v2 s4 nl4 g4 o4 c4 l4 XK=>?_;refine Nq (Ar U U U) rfl<|Nq (of Fc U) rfl<|Nq (of BI U) rfl<|Nq (of BF U) U ?_;have o2:∀b,Ci b v2=true→rb<b:=fun b hb=>Nat.lt_of_lt_of_le r5.2.2 (o4 b hb);have gr4:s4.heap.get rb=some (.cells ([vc,vf,vi,vs]++[CF r3]) 184 false):=(c4.heap rb r5.2.2 fun h=>by have:=(X9.df rb h).1;omega).trans r5.1;have mR:rb<s4.next:=Nat.lt_of_lt_of_le r5.2.2 c4.next;have pr:=Ge g4
    refine Fi mR U (by kernel_rfl) U U gr4 (by rw[pr.1]) pr.2 (by rw[pr.1];rfl) (XK rb r5.2.2 (by
     cases h:Ci rb vf with
     |false=>rfl
     |true=>have:=(X9.df rb h).1;omega) _ ?_) (by kernel_rfl) (.inl rfl) rfl rfl ?_
    ·exact Dr (by rw[List.all_cons,nU.all (aC.all U (by kernel_rfl)) (by kernel_rfl)];kernel_rfl)
    show VH _ _ _ _ _ _ _ (aF s4 rb (some (.cells [vc,v2,vi,vs,CF r3] 184 false))) _ _ _;have zo:=(xh.funs' (a:=(w,VQ w2)) c4 g4 o4 r5.2.2).CW (F0 (b:=rb) (o:=some (.cells [vc,v2,vi,vs,CF r3] 184 false)));have r6:Wz (aF s4 rb (some (.cells [vc,v2,vi,vs,CF r3] 184 false))) rb [vc,v2,vi,vs] r3:=Q8 mR rfl rfl;have c6:CL s.enter (aF s4 rb (some (.cells [vc,v2,vi,vs,CF r3] 184 false))) (fun c=>c=rb∨Ci c vf=true∨Ci c vs=true):=(((c1.trans c2 (fun _ h=>h) (fun _ h=> .inl h) (Qj _)).trans c4 (own:=fun c=>c=rb∨Ci c vf=true∨Ci c vs=true) (fun c hc=> .inl hc) (fun c hc=> .inl (.inr (.inl hc))) (Qj _))).trans F0 (fun _ h=>h) (fun c hc=> .inl (.inl hc)) (Qj _);have l6:Cg s.enter (aF s4 rb (some (.cells [vc,v2,vi,vs,CF r3] 184 false))):=((l1.trans l2).trans l4).trans Mx;generalize aF s4 rb (some (.cells [vc,v2,vi,vs,CF r3] 184 false))=s5 at*
    have hb5:s5.bound≤s5.next:=by rw[c6.bound];exact c6.next
    refine Au<|Bt (by kernel_rfl) ?_;iterate 2 refine Nq (om U) U ?_
    refine Nq (Ar U U U) rfl<|Nq (of Fc U) rfl<|Nq (of EA U) rfl<|Hh U BJ B9 U r6.1 U (Jp zo.Cj) (Gd zo.Cj) U (.inl U) U rfl<|Nq (om U) U ?_;refine DL (by kernel_rfl) U U U (FW (s:=s5.sub s5.heap) r6 (by rw[e,List.length_cons,List.length_cons]at hn;omega) (R:=fun v s2=>∃w3 r7,r3=w3::r7∧v= .str w3∧CL (s5.sub s5.heap) s2 (fun c=>c=rb)∧Wz s2 rb [vc,v2,vi,vs] r7∧Cg (s5.sub s5.heap) s2)
     (RP:=fun v s2=>r3=[]∧v=bad∧s2=s5.sub s5.heap)
     (fun w r e s2 c1 r1 l1=>⟨w,r,e,rfl,c1,r1,l1 (Qj _)⟩) (fun hx=>⟨hx,rfl,rfl⟩)) (NU (by kernel_rfl)) rfl (.inl rfl) rfl rfl ?_ ?_
    ·rintro v s2 ⟨w3,r7,rfl,rfl,c7,r8,l7⟩;obtain⟨a1,a2,c7,r9,l7⟩:=Gx c7 r8 l7 hb5 r6.2.2;refine⟨a1,a2,fun e he=>?_,fun nl5 hnl5=>?_⟩
     ·rw[Qp.1 he];exact .inr (.inr ⟨_,_,_,r8.1,rfl⟩)
     generalize s5.merged s2=s6 at*;have hb6:s6.bound≤s6.next:=by rw[c7.bound];exact Nat.le_trans hb5 c7.next
     have hw3:w3.length≤50000:=hw _ (by rw[e];exact Qg _ (Qg _ (Qh ..)));have c8:CL s.enter s6 (fun c=>c=rb∨Ci c vf=true∨Ci c vs=true):=c6.trans c7 (fun _ h=>h) (fun c hc=> .inl (.inl hc)) (Qj _);have up:∀c,c=rb∨Ci c vf=true∨Ci c vs=true→rb≤c:=fun c hc=>by
      rcases hc with h|h|h
      ·omega
      ·exact Nat.le_of_lt (X9.df c h).1
      ·exact Nat.le_of_lt (X9.ds c h)
     by_cases hN3:WU w3
     ·refine Bp (AI U U (by kernel_rfl) U (EZ (by omega) (by omega))) (.inl U) U U ?_;refine AZ U Ea Bb pD U U U (.inl U) U U ?_;have hl6:=zo.CW c7;refine Hi (new:=[.int .i64 (VQ w3)]) hl6.Cj hb6 U (by decide) (BW (by omega) (by decide)) (BW (by have:=iL.2;dsimp only;omega) (by decide)) U U U U Ea Bb wY pD (by kernel_rfl) (by kernel_rfl) U U (by kernel_rfl) (by rw[List.all_cons,hnl5.all U (by kernel_rfl)];kernel_rfl) (.inl U) U U fun u2 s7 nl6 g7 o7 c9 l9 hcl7=>?_;refine Nq (Ar U U U) rfl<|Nq (of Fc U) rfl<|Nq (of EA U) U ?_;have gr7:s7.heap.get rb=some (.cells ([vc,v2,vi,vs]++[CF r7]) 184 false):=(c9.heap rb r9.2.2 fun h=>by have:=X9.ds rb h;omega).trans r9.1;have hrb7:rb<s7.next:=Nat.lt_of_lt_of_le r9.2.2 c9.next;have hcu:=Ge g7;refine Fi hrb7 U (by kernel_rfl) U U gr7 (by rw[hcu.1]) hcu.2 (by rw[hcu.1];rfl) (hcl7 rb r9.2.2 (by
       cases h:Ci rb vs with
       |false=>rfl
       |true=>have:=X9.ds rb h;omega) _ ?_) (by kernel_rfl) (.inl rfl) rfl rfl ?_
      ·exact Dr (by rw[List.all_cons,hnl5.all U (by kernel_rfl)];kernel_rfl)
      refine Au ?_;have hl8:=(hl6.yi (a:=VQ w3) c9 g7 o7 r9.2.2).CW (F0 (b:=rb) (o:=some (.cells [vc,v2,vi,u2,CF r7] 184 false)));have r10:Wz (aF s7 rb (some (.cells [vc,v2,vi,u2,CF r7] 184 false))) rb [vc,v2,vi,u2] r7:=Q8 hrb7 rfl rfl;have c10:CL s.enter (aF s7 rb (some (.cells [vc,v2,vi,u2,CF r7] 184 false))) (fun c=>c=rb∨Ci c vf=true∨Ci c vs=true):=(c8.trans c9 (own:=fun c=>c=rb∨Ci c vf=true∨Ci c vs=true) (fun c hc=>hc) (fun c hc=> .inl (.inr (.inr hc))) (Qj _)).trans F0 (fun _ h=>h) (fun c hc=> .inl (.inl hc)) (Qj _);have l10:Cg s.enter (aF s7 rb (some (.cells [vc,v2,vi,u2,CF r7] 184 false))):=((l6.trans l7).trans l9).trans Mx;have r11:=hR w w2 w3 r7 e hN mQ hN3 _ _ _ (CL.back c10) (fun b hb=>hb.elim (fun h=>Nat.le_trans (Nat.le_trans c1.next c2.next) (o4 b h)) fun h=>Nat.le_trans c8.next (o7 b h)) r10 hl8.back (fun hb=>Cg.back l10 hb)
      exact⟨.inr U,rfl,fun h=>absurd h (G5 (fun _=>l10) h0 r10 (by rw[e,List.length_cons,List.length_cons,List.length_cons];omega)),r11⟩
     ·refine DL (by kernel_rfl) U U U (F5 (s:=s6.sub s6.heap) (R:=fun _ _=>False) (RP:=fun v s2=>v=bad∧s2=s6.sub s6.heap) hN3 hw3 ⟨rfl,rfl⟩) (NU (by kernel_rfl)) (hnl5.all U (by kernel_rfl)) (.inl U) U U (fun _ _ h=>h.elim) ?_;rintro v s2 ⟨rfl,rfl⟩;refine⟨Qj _,(fun b hb=>by cases hb),(fun e he=>?_),⟨rfl,hP (fun⟨w1,w2,w3,r,e2,h1,h2,h3⟩=>by rw[e]at e2;cases e2;exact hN3 h3) _ ?_ ?_⟩,?_⟩
      ·rw[Qp.1 he];exact .inr (.inr ⟨_,_,_,r9.1,rfl⟩)
      ·exact CL.back (B0 (c8.trans (D8 r9 hb6).1 (fun _ h=>h) (fun c h=> .inl (.inl h)) (Qj _)) up)
      ·exact fun hb=>Cg.back ((l6.trans l7).trans (D8 r9 hb6).2) hb
      ·(repeat (first|exact WB.done|refine WB.desc (by decide+kernel) rfl rfl ?_|refine WB.q (by kernel_rfl) (om rfl) (.inl rfl) rfl rfl ?_))
    ·rintro v s2 ⟨rfl,rfl,rfl⟩;refine⟨Qj _,(fun b hb=>by cases hb),(fun e he=>?_),⟨rfl,hP (fun⟨w1,w2,w3,r,e2,h1,_⟩=>by rw[e]at e2;cases e2) _ ?_ ?_⟩,?_⟩
     ·rw[Qp.1 he];exact .inr (.inr ⟨_,_,_,r6.1,rfl⟩)
     ·exact CL.back (B0 (c6.trans (D8 r6 hb5).1 (fun _ h=>h) (fun c h=> .inl (.inl h)) (Qj _)) fun c hc=>by
      rcases hc with h|h|h
      ·omega
      ·exact Nat.le_of_lt (X9.df c h).1
      ·exact Nat.le_of_lt (X9.ds c h))
     ·exact fun hb=>Cg.back (l6.trans (D8 r6 hb5).2) hb
     ·(repeat (first|exact WB.done|refine WB.desc (by decide+kernel) rfl rfl ?_|refine WB.q (by kernel_rfl) (om rfl) (.inl rfl) rfl rfl ?_))
   ·refine DL (by kernel_rfl) U U U (F5 (s:=s3.sub s3.heap) (R:=fun _ _=>False) (RP:=fun v s2=>v=bad∧s2=s3.sub s3.heap) mQ pW ⟨rfl,rfl⟩) (NU (by kernel_rfl)) (nU.all (aC.all U (by kernel_rfl)) (by kernel_rfl)) (.inl U) U U (fun _ _ h=>h.elim) ?_;rintro v s2 ⟨rfl,rfl⟩;refine⟨Qj _,(fun b hb=>by cases hb),(fun e he=>?_),⟨rfl,hP (fun⟨w1,w2,w3,r,e2,h1,h2,_⟩=>by rw[e]at e2;cases e2;exact mQ h2) _ ?_ ?_⟩,?_⟩
    ·rw[Qp.1 he];exact .inr (.inr ⟨_,_,_,r5.1,rfl⟩)
    ·exact CL.back (B0 ((c1.trans c2 (fun _ h=>h) (fun _ h=> .inl h) (Qj _)).trans (D8 r5 mj).1 (fun _ h=>h) (fun _ h=> .inl h) (Qj _)) fun c hc=>by omega)
    ·exact fun hb=>Cg.back ((l1.trans l2).trans (D8 r5 mj).2) hb
    ·(repeat (first|exact WB.done|refine WB.desc (by decide+kernel) rfl rfl ?_|refine WB.q (by kernel_rfl) (om rfl) (.inl rfl) rfl rfl ?_))
  ·rintro v s2 ⟨rfl,rfl,rfl⟩;refine⟨Qj _,(fun b hb=>by cases hb),(fun e he=>?_),⟨rfl,hP (fun⟨w1,w2,w3,r,e2,h1,_⟩=>by rw[e]at e2;cases e2) _ ?_ ?_⟩,?_⟩
   ·rw[Qp.1 he];exact .inr (.inr ⟨_,_,_,r2.1,rfl⟩)
   ·exact CL.back (B0 (c1.trans (D8 r2 bW).1 (fun _ h=>h) (fun _ h=> .inl h) (Qj _)) fun c hc=>by omega)
   ·exact fun hb=>Cg.back (l1.trans (D8 r2 bW).2) hb
   ·(repeat (first|exact WB.done|refine WB.desc (by decide+kernel) rfl rfl ?_|refine WB.q (by kernel_rfl) (om rfl) (.inl rfl) rfl rfl ?_))
 ·rintro v s2 ⟨hx,rfl,c1,⟨j5,r1⟩,l1⟩;obtain⟨a1,a2,c1,r2,l1⟩:=Gx c1 r1 l1 (Qj _) h0.2.2;refine⟨a1,a2,fun e he=>?_,⟨rfl,hP (fun⟨w1,w2,w3,r,e,h1,_⟩=>hx ⟨w1,_,e,h1⟩) _ ?_ ?_⟩,?_⟩
  ·rw[Qp.1 he];exact .inr (.inr ⟨_,_,_,r1.1,rfl⟩)
  ·exact CL.back (B0 c1 fun c hc=>by omega)
  ·exact fun hb=>Cg.back l1 hb
  ·(repeat (first|exact WB.done|refine WB.desc (by decide+kernel) rfl rfl ?_|refine WB.q (by kernel_rfl) (om rfl) (.inl rfl) rfl rfl ?_))
end Go.Proofs.YtpihdbhocgcbpaaGreatDoor.Rd
open Go Am
namespace Am
theorem SM {E:Env} {fr:Fr} {l:Sl} {s:St} {Q:Ex→Fr→Sl→St→Prop} {a b:Code} {α:Type} (I:α→Sl×St) (G:α→Prop) (h1:Ch E a fr l s fun ex Xz l' s'=>match ex with
 | .normal=>Xz=fr∧∃x,G x∧s'=(I x).2∧∀p∈(I x).1,look p.1 l'=some p.2
 |ex=>Q ex Xz l' s') (h2:∀x,G x→Ch E b fr (I x).1 (I x).2 Q):Ch E a fr l s (s9 E b Q):=
 (h1.mono fun ex Xz l' s' h=>by
  cases ex with
  |normal=>
   obtain⟨e2,x,g,e3,e4⟩:=h;subst e2 e3;exact Ch.sub (h2 x g) e4
  |_=>exact h)
end Am
namespace Go.Proofs.YtpihdbhocgcbpaaGreatDoor.Rd
def Zs (op:Int) (ws:List (List UInt8)) (x:VI) (r:List (List UInt8)):Prop:=
 if op=1 then∃w,(∃u,ws=w::u∧WU w∧(∀w∈u,l8 w)∧x= {op:=op,a:=VQ w,alts:=u.map dI,to:=[],term:=0,n:=0,args:=[]})∧r=[]
 else if op=2 then(∀w∈ws,WU w)∧x= {op:=op,a:=0,alts:=[],to:=ws.map VQ,term:=0,n:=0,args:=[]}∧r=[]
 else if op=5 then∃w1 w2 u,ws=w1::w2::u∧WU w1∧WU w2∧(∀w∈u,WU w)∧x= {op:=op,a:=0,alts:=[],to:=[],term:=VQ w1,n:=VQ w2,args:=u.map VQ}∧r=[]
 else if op=6 then∃w,ws=w::r∧WU w∧x= {op:=op,a:=VQ w,alts:=[],to:=[],term:=0,n:=0,args:=[]}
 else x= {op:=op,a:=0,alts:=[],to:=[],term:=0,n:=0,args:=[]}∧r=ws
structure gJ (s0 s:St) (rb:Nat) (q x:List AV) (r:List (List UInt8)):Prop where
 bJ:CL s0 s (fun c=>c=rb)
 lg:Cg s0 s
 nx:s0.next<s.next
 rd:Wz s rb q r
 at_:s.heap.get s0.next=some (.cells x 58 false)
theorem gJ.call {s0 s s1:St} {rb:Nat} {q x:List AV} {r r':List (List UInt8)} (h:gJ s0 s rb q x r) (hb:s0.bound≤s0.next) (hr:rb<s0.next) (c1:CL s s1 (fun c=>c=rb)) (r1:Wz s1 rb q r') (l1:s.bound≤s.next→Cg s s1):gJ s0 s1 rb q x r':=
 have:=h.nx
 ⟨h.bJ.trans c1 (fun _ h=>h) (fun _ h=> .inl h) hb,h.lg.trans (l1 (by rw[h.bJ.bound];omega)),Nat.lt_of_lt_of_le h.nx c1.next,r1,(c1.heap _ h.nx (by omega)).trans h.at_⟩
theorem gJ.store {s0 s:St} {rb:Nat} {q x x':List AV} {r:List (List UInt8)} {o:CB} (h:gJ s0 s rb q x r) (hb:s0.bound≤s0.next) (hr:rb<s0.next) (ho:o= .cells x' 58 false):gJ s0 (s.put s0.next (some o)) rb q x' r:=
 ⟨h.bJ.trans CL.put (fun _ h=>h) (fun c h=> .inr (by omega)) hb,h.lg.trans Cg.put,h.nx,⟨(AL.trans (if_neg (by omega))).trans h.rd.1,h.rd.2.1,h.rd.2.2⟩,by rw[AL,if_pos rfl,ho]⟩
theorem yl {s:St} {rb:Nat} {c:Cm} {vc vf vi vs:AV} {ws:List (List UInt8)} {w0:List UInt8} (h:Wz s rb [vc,vf,vi,vs] ws) (hl:ZX s rb c vc vf vi vs) (hn:ws.length≤50001) (hw:∀w∈ws,w.length≤50000) (iL:c.ins.length≤50000) {R RP:AV→St→Prop}
 (hR:∀x r,Zs (bQ w0) ws x r→∀s' v',CL s s' (fun c=>c=rb∨Ci c vi=true)→(∀b,Ci b v'=true→s.next≤b)→Wz s' rb [vc,vf,v',vs] r→ZX s' rb {c with ins:=c.ins++[x]} vc vf v' vs→(s.bound≤s.next→Cg s s')→R (.tuple []) s')
 (hP:(¬∃x r,Zs (bQ w0) ws x r)→∀s',CL s s' (fun c=>rb≤c)→(s.bound≤s.next→Cg s s')→RP bad s'):VK (EK R9) 133 [.ptr rb 0,.str w0] s R RP:=by
 refine VK.unit (fn:=Tryz.f133) U (by kernel_rfl) U U U U ?_;have h0:Wz s.enter rb [vc,vf,vi,vs] ws:=h;have X9:ZX s.enter rb c vc vf vi vs:=⟨hl.cons,hl.Co,hl.ins,hl.Cj,hl.dc,hl.df,hl.di,hl.ds⟩
 have hb:=h.2.2;refine Es<|qm U ?_;refine Lo (Ad U U (by kernel_rfl) U (Cb.Cs (Kj))) rfl<|Lq (Bj U sZ U U) rfl<|Lo (Ws.alloc U mI) U ?_;have iA:gJ s.enter (s.enter.alloc (.cells [.int .i64 0,.int .i64 0,.Ca,.Ca,.int .i64 0,.int .i64 0,.Ca] 58 false)) rb [vc,vf,vi,vs] [.int .i64 0,.int .i64 0,.Ca,.Ca,.int .i64 0,.int .i64 0,.Ca] ws:=
  ⟨CL.alloc,Cg.alloc (Qj _),Nat.lt_succ_self _,⟨(AT h0.2.2).trans h0.1,rfl,Nat.lt_succ_of_lt h0.2.2⟩,BZ⟩
 show VE _ _ _ _ _ _ (s.enter.alloc (.cells [.int .i64 0,.int .i64 0,.Ca,.Ca,.int .i64 0,.int .i64 0,.Ca] 58 false)) _;generalize s.enter.alloc (.cells [.int .i64 0,.int .i64 0,.Ca,.Ca,.int .i64 0,.int .i64 0,.Ca] 58 false)=sA at*;have gA:=iA.at_;refine Ax (Ws.store U BV U U (AB ‹_› U U U)) U rfl<|Ld<|Aa ?_;have iB:=iA.store (x':=[.int .i64 (bQ w0),.int .i64 0,.Ca,.Ca,.int .i64 0,.int .i64 0,.Ca]) (Qj _) h0.2.2 rfl;show Ch _ _ _ _ (sA.put s.enter.next (some (.cells [.int .i64 (bQ w0),.int .i64 0,.Ca,.Ca,.int .i64 0,.int .i64 0,.Ca] 58 false))) _;generalize sA.put s.enter.next (some (.cells [.int .i64 (bQ w0),.int .i64 0,.Ca,.Ca,.int .i64 0,.int .i64 0,.Ca] 58 false))=sB at*;have gB:=iB.at_;refine Ch.cut [(9,.int .i64 (bQ w0)),(4,.ptr s.enter.next 0),(0,.ptr rb 0)] sB ?_ ?_
 ·refine Ai ?_;refine Lq (of Df U) rfl<|Lo (A2 U U (Aj E8 E6 ‹_› U)) rfl<|Ld ?_;exact⟨rfl,rfl,rfl,Ao (by repeat' constructor)⟩
 refine SM (fun y:VI×List (List UInt8)×St=>([(4,.ptr s.enter.next 0),(0,.ptr rb 0)],y.2.2)) (fun y=>Zs (bQ w0) ws y.1 y.2.1∧gJ s.enter y.2.2 rb [vc,vf,vi,vs] (Z0 y.1) y.2.1) ?_ ?_;rotate_left
 ·rintro⟨x,r,s1⟩ ⟨hx,iA⟩;dsimp only at hx iA⊢;have gA:=iA.at_;have aB:=X9.CW iA.bJ;have r1:=iA.rd;have bW:s1.bound≤s1.next:=by rw[iA.bJ.bound];exact iA.bJ.next
  refine Bt (by kernel_rfl) ?_;iterate 2 refine Nq (om U) U ?_
  refine Nq (Ar U U U) rfl<|Nq (of Fc U) rfl<|Nq (of Bf U) rfl<|Hh U Dg Dd U r1.1 U (Jp aB.ins) (Gd aB.ins) U (.inl U) U rfl<|AO U U (Eh Gr BV ‹_› (Qc U)) U (.inl U) U rfl<|AZ U FR BV mI U U U (.inl U) U U ?_;refine Hi (new:=Z0 x) aB.ins bW U (by decide) (BW (by omega) (by decide)) (BW (by omega) (by decide)) U U U U FR BV sY mI (by kernel_rfl) (by kernel_rfl) U U (by kernel_rfl) (by kernel_rfl) (.inl U) U U fun v2 s4 nl4 g4 o4 c4 l4 XK=>?_;refine Nq (Ar U U U) rfl<|Nq (of Fc U) rfl<|Nq (of Bf U) U ?_;have gr4:s4.heap.get rb=some (.cells ([vc,vf,vi,vs]++[CF r]) 184 false):=(c4.heap rb r1.2.2 fun h=>by have:=(X9.di rb h).1;omega).trans r1.1;have mR:rb<s4.next:=Nat.lt_of_lt_of_le r1.2.2 c4.next;have pr:=Ge g4;refine Fi mR U (by kernel_rfl) U U gr4 (by rw[pr.1]) pr.2 (by rw[pr.1];rfl) (XK rb r1.2.2 (by
   cases h:Ci rb vi with
   |false=>rfl
   |true=>have:=(X9.di rb h).1;omega) _ (Dr (by kernel_rfl))) (by kernel_rfl) (.inl rfl) rfl rfl ?_
  refine Au ?_;have zo:=(aB.ins' (a:=x) c4 g4 o4 r1.2.2).CW (F0 (b:=rb) (o:=some (.cells [vc,vf,v2,vs,CF r] 184 false)));have r6:Wz (aF s4 rb (some (.cells [vc,vf,v2,vs,CF r] 184 false))) rb [vc,vf,v2,vs] r:=Q8 mR rfl rfl;have c6:CL s.enter (aF s4 rb (some (.cells [vc,vf,v2,vs,CF r] 184 false))) (fun c=>c=rb∨Ci c vi=true):=(iA.bJ.trans c4 (own:=fun c=>c=rb∨Ci c vi=true) (fun c hc=> .inl hc) (fun c hc=> .inl (.inr hc)) (Qj _)).trans F0 (fun _ h=>h) (fun c hc=> .inl (.inl hc)) (Qj _);have l6:Cg s.enter (aF s4 rb (some (.cells [vc,vf,v2,vs,CF r] 184 false))):=(iA.lg.trans l4).trans Mx;have r7:=hR x r hx _ _ (CL.back c6) (fun b hb=>Nat.le_trans iA.bJ.next (o4 b hb)) r6 zo.back (fun hb=>Cg.back l6 hb);refine⟨.inr U,rfl,fun h=>?_,r7⟩
  have hm:rb∈(aF s4 rb (some (.cells [vc,vf,v2,vs,CF r] 184 false))).log:=fH.2 (.inl ⟨rfl,by rw[c4.bound,iA.bJ.bound];exact h0.2.2⟩);rw[show(aF s4 rb (some (.cells [vc,vf,v2,vs,CF r] 184 false))).log=[]from h]at hm;cases hm
 ·have no:(¬∃x r,Zs (bQ w0) ws x r)→∀s1,CL s.enter s1 (fun c=>c=rb)→Cg s.enter s1→RP bad (s.back s1):=fun h s1 c1 l1=>hP h _ (CL.back (B0 c1 fun c hc=>by omega)) (fun hb=>Cg.back l1 hb);focus
   refine Ch.block<|Es<|Lq (o2 Gp U U) rfl<|qa rfl<|Ld ?_;refine Ec U (fun g1=>?_) (fun g1=>?_);have h1:=dT g1;refine Es<|qm U ?_;rotate_left;have h1:=dF g1;refine Es<|Lq (o2 Gp U U) rfl<|qa rfl<|Ld ?_;refine Ec U (fun g2=>?_) (fun g2=>?_);have h2:=dT g2;refine Ai<|qm U ?_;rotate_left;have h2:=dF g2;refine Es<|Lq (o2 Gp U U) rfl<|qa rfl<|Ld ?_;refine Ec U (fun g3=>?_) (fun g3=>?_);have h3:=dT g3;refine Es<|qm U ?_;rotate_left;have h3:=dF g3;refine Es<|Lq (o2 Gp U U) rfl<|qa rfl<|Ld ?_;refine Ec U (fun g4=>?_) (fun g4=>?_);have h4:=dT g4;refine Ai<|qm U ?_;rotate_left;have h4:=dF g4;refine Ac ?_;rotate_left
  ·have hI:∀ {x r},Zs (bQ w0) ws x r↔∃w,(∃u,ws=w::u∧WU w∧(∀w∈u,l8 w)∧x= {op:=bQ w0,a:=VQ w,alts:=u.map dI,to:=[],term:=0,n:=0,args:=[]})∧r=[]:=by
    intro x r;unfold Zs;rw[if_pos h1]
   refine A0 U U (by kernel_rfl) U U U U (FW iB.rd hn (fun w r e s1 c1 r1 l1=>?_) fun e=>⟨rfl,no (fun⟨x,r,hx⟩=>by obtain⟨w,⟨u,h2,_⟩,_⟩:=hI.1 hx;rw[e]at h2;cases h2) _ iB.bJ iB.lg⟩);have i1:=iB.call (Qj _) h0.2.2 c1 r1 l1;have gC:=i1.at_;have hwl:=hw w (by rw[e];exact Qh ..);by_cases hN:WU w
   ·refine Lo (Ad U U (by kernel_rfl) U (Cb.Cs (EZ (by omega) (by omega)))) U ?_;refine Lq (of E1 U) rfl<|Ax (Ws.store U Bb U U (AB ‹_› U U U)) U rfl<|Ld<|Ai<|qm U ?_;have i2:=i1.store (x':=[.int .i64 (bQ w0),.int .i64 (VQ w),.Ca,.Ca,.int .i64 0,.int .i64 0,.Ca]) (Qj _) h0.2.2 rfl;refine A0 U U (by kernel_rfl) U U U U (uC i2.rd (by rw[e,List.length_cons]at hn;omega) (fun w h=>hw w (by rw[e];exact Qg _ h)) (fun hA s2 c2 r2 l2=>?_) fun hx s2 c2 l2=>⟨rfl,no (fun⟨x,r,yO⟩=>by obtain⟨w,⟨u,h2,_,h3,_⟩,_⟩:=hI.1 yO;rw[e]at h2;cases h2;exact hx h3) _ (i2.bJ.trans c2 (fun _ h=>h) (fun _ h=> .inl h) (Qj _)) (i2.lg.trans (l2 (by rw[i2.bJ.bound];exact i2.bJ.next)))⟩);have i3:=i2.call (Qj _) h0.2.2 c2 r2 l2;have gD:=i3.at_;have fin:Zs (bQ w0) ws {op:=bQ w0,a:=VQ w,alts:=r.map dI,to:=[],term:=0,n:=0,args:=[]} []:=hI.2 ⟨w,⟨r,e,hN,hA,rfl⟩,rfl⟩;cases r with
    |nil=>
     refine Lq (of Dm U) rfl<|Ax (Ws.store U Ee U U (AB ‹_› U U U)) U rfl<|Ld ?_;exact⟨rfl,(_,[],_),⟨fin,i3.store (Qj _) h0.2.2 U⟩,rfl,Ao (by repeat' constructor)⟩
    |cons w2 r=>
     refine Lq (of Dm U) rfl<|Ax (Ws.store U Ee U U (AB ‹_› U U U)) U rfl<|Ld ?_;exact⟨rfl,(_,[],_),⟨fin,i3.store (Qj _) h0.2.2 U⟩,rfl,Ao (by repeat' constructor)⟩
   ·refine A0 U U (by kernel_rfl) U U U U (F5 (by omega) (by omega) ?_);exact⟨rfl,no (fun⟨x,r,hx⟩=>by obtain⟨w,⟨u,h2,h3,_⟩,_⟩:=hI.1 hx;rw[e]at h2;cases h2;exact hN h3) _ i1.bJ i1.lg⟩
  ·have hI:∀ {x r},Zs (bQ w0) ws x r↔(∀w∈ws,WU w)∧x= {op:=bQ w0,a:=0,alts:=[],to:=ws.map VQ,term:=0,n:=0,args:=[]}∧r=[]:=by
    intro x r;unfold Zs;rw[if_neg h1,if_pos h2]
   refine A0 U U (by kernel_rfl) U U U U (Q7 iB.rd hn hw (fun hA s2 c2 r2 l2=>?_) fun hx s2 c2 l2=>⟨rfl,no (fun⟨x,r,yO⟩=>hx (hI.1 yO).1) _ (iB.bJ.trans c2 (fun _ h=>h) (fun _ h=> .inl h) (Qj _)) (iB.lg.trans (l2 (by rw[iB.bJ.bound];exact iB.bJ.next)))⟩);have i3:=iB.call (Qj _) h0.2.2 c2 r2 l2;have gD:=i3.at_;have fin:Zs (bQ w0) ws _ []:=hI.2 ⟨hA,rfl,rfl⟩;cases ws with
   |nil=>
    refine Lq (of E9 U) rfl<|Ax (Ws.store U B9 U U (AB ‹_› U U U)) U rfl<|Ld ?_;exact⟨rfl,(_,[],_),⟨fin,i3.store (Qj _) h0.2.2 U⟩,rfl,Ao (by repeat' constructor)⟩
   |cons w2 r=>
    refine Lq (of E9 U) rfl<|Ax (Ws.store U B9 U U (AB ‹_› U U U)) U rfl<|Ld ?_;exact⟨rfl,(_,[],_),⟨fin,i3.store (Qj _) h0.2.2 U⟩,rfl,Ao (by repeat' constructor)⟩
  ·have hI:∀ {x r},Zs (bQ w0) ws x r↔∃w1 w2 u,ws=w1::w2::u∧WU w1∧WU w2∧(∀w∈u,WU w)∧x= {op:=bQ w0,a:=0,alts:=[],to:=[],term:=VQ w1,n:=VQ w2,args:=u.map VQ}∧r=[]:=by
    intro x r;unfold Zs;rw[if_neg h1,if_neg h2,if_pos h3]
   refine A0 U U (by kernel_rfl) U U U U (FW iB.rd hn (fun w r e s1 c1 r1 l1=>?_) fun e=>⟨rfl,no (fun⟨x,r,hx⟩=>by obtain⟨w1,w2,u,h2,_⟩:=hI.1 hx;rw[e]at h2;cases h2) _ iB.bJ iB.lg⟩);have i1:=iB.call (Qj _) h0.2.2 c1 r1 l1;have gC:=i1.at_;have hwl:=hw w (by rw[e];exact Qh ..);by_cases hN:WU w;rotate_left
   ·refine A0 U U (by kernel_rfl) U U U U (F5 (by omega) (by omega) ?_);exact⟨rfl,no (fun⟨x,r,hx⟩=>by obtain⟨w1,w2,u,h2,h3,_⟩:=hI.1 hx;rw[e]at h2;cases h2;exact hN h3) _ i1.bJ i1.lg⟩
   refine Lo (Ad U U (by kernel_rfl) U (Cb.Cs (EZ (by omega) (by omega)))) U ?_;refine Lq (of Hs U) rfl<|Ax (Ws.store U Jh U U (AB ‹_› U U U)) U rfl<|Ld<|Es<|qm U ?_;have i2:=i1.store (x':=[.int .i64 (bQ w0),.int .i64 0,.Ca,.Ca,.int .i64 (VQ w),.int .i64 0,.Ca]) (Qj _) h0.2.2 rfl;refine A0 U U (by kernel_rfl) U U U U (FW i2.rd (by rw[e,List.length_cons]at hn;omega) (fun w2 r2 e2 s2 c2 rd2 l2=>?_) fun e2=>⟨rfl,no (fun⟨x,r,hx⟩=>by obtain⟨w1,w2,u,h2,_⟩:=hI.1 hx;rw[e,e2]at h2;cases h2) _ i2.bJ i2.lg⟩);have i3:=i2.call (Qj _) h0.2.2 c2 rd2 l2;have gD:=i3.at_;have uu:=hw w2 (by rw[e,e2];exact Qg _ (Qh ..));by_cases mQ:WU w2;rotate_left
   ·refine A0 U U (by kernel_rfl) U U U U (F5 (by omega) (by omega) ?_);exact⟨rfl,no (fun⟨x,r,hx⟩=>by obtain⟨w1,w2,u,h2,h3,h4,_⟩:=hI.1 hx;rw[e,e2]at h2;cases h2;exact mQ h4) _ i3.bJ i3.lg⟩
   refine Lo (Ad U U (by kernel_rfl) U (Cb.Cs (EZ (by omega) (by omega)))) U ?_;refine Lq (of De U) rfl<|Ax (Ws.store U Bb U U (AB ‹_› U U U)) U rfl<|Ld<|Ai<|qm U ?_;have i4:=i3.store (x':=[.int .i64 (bQ w0),.int .i64 0,.Ca,.Ca,.int .i64 (VQ w),.int .i64 (VQ w2),.Ca]) (Qj _) h0.2.2 rfl;refine A0 U U (by kernel_rfl) U U U U (Q7 i4.rd (by rw[e,e2,List.length_cons,List.length_cons]at hn;omega) (fun w h=>hw w (by rw[e,e2];exact Qg _ (Qg _ h))) (fun hA s2 c2 rd3 l2=>?_) fun hx s2 c2 l2=>⟨rfl,no (fun⟨x,r,yO⟩=>by obtain⟨w1,w2,u,h2,_,_,h3,_⟩:=hI.1 yO;rw[e,e2]at h2;cases h2;exact hx h3) _ (i4.bJ.trans c2 (fun _ h=>h) (fun _ h=> .inl h) (Qj _)) (i4.lg.trans (l2 (by rw[i4.bJ.bound];exact i4.bJ.next)))⟩);have i5:=i4.call (Qj _) h0.2.2 c2 rd3 l2;have gE:=i5.at_;have fin:Zs (bQ w0) ws _ []:=hI.2 ⟨w,w2,_,by rw[e,e2],hN,mQ,hA,rfl,rfl⟩;clear e2;cases r2 with
   |nil=>
    refine Lq (of FG U) rfl<|Ax (Ws.store U B9 U U (AB ‹_› U U U)) U rfl<|Ld ?_;exact⟨rfl,(_,[],_),⟨fin,i5.store (Qj _) h0.2.2 U⟩,rfl,Ao (by repeat' constructor)⟩
   |cons w2 r=>
    refine Lq (of FG U) rfl<|Ax (Ws.store U B9 U U (AB ‹_› U U U)) U rfl<|Ld ?_;exact⟨rfl,(_,[],_),⟨fin,i5.store (Qj _) h0.2.2 U⟩,rfl,Ao (by repeat' constructor)⟩
  ·have hI:∀ {x r},Zs (bQ w0) ws x r↔∃w,ws=w::r∧WU w∧x= {op:=bQ w0,a:=VQ w,alts:=[],to:=[],term:=0,n:=0,args:=[]}:=by
    intro x r;unfold Zs;rw[if_neg h1,if_neg h2,if_neg h3,if_pos h4]
   refine A0 U U (by kernel_rfl) U U U U (FW iB.rd hn (fun w r e s1 c1 r1 l1=>?_) fun e=>⟨rfl,no (fun⟨x,r,hx⟩=>by obtain⟨w,h2,_⟩:=hI.1 hx;rw[e]at h2;cases h2) _ iB.bJ iB.lg⟩);have i1:=iB.call (Qj _) h0.2.2 c1 r1 l1;have gC:=i1.at_;have hwl:=hw w (by rw[e];exact Qh ..);by_cases hN:WU w
   ·have fin:Zs (bQ w0) ws _ r:=hI.2 ⟨w,e,hN,rfl⟩;refine Lo (Ad U U (by kernel_rfl) U (Cb.Cs (EZ (by omega) (by omega)))) U ?_;refine Lq (of E1 U) rfl<|Ax (Ws.store U Bb U U (AB ‹_› U U U)) U rfl<|Ld ?_;exact⟨rfl,(_,r,_),⟨fin,i1.store (Qj _) h0.2.2 U⟩,rfl,Ao (by repeat' constructor)⟩
   ·refine A0 U U (by kernel_rfl) U U U U (F5 (by omega) (by omega) ?_);exact⟨rfl,no (fun⟨x,r,hx⟩=>by obtain⟨w,h2,h3,_⟩:=hI.1 hx;rw[e]at h2;cases h2;exact hN h3) _ i1.bJ i1.lg⟩
  ·have fin:Zs (bQ w0) ws {op:=bQ w0,a:=0,alts:=[],to:=[],term:=0,n:=0,args:=[]} ws:=by
    unfold Zs;rw[if_neg h1,if_neg h2,if_neg h3,if_neg h4];exact⟨rfl,rfl⟩
   exact⟨rfl,(_,ws,_),⟨fin,iB⟩,rfl,Ao (by repeat' constructor)⟩
def dW (last:Int) (c:Cm) (line:List UInt8) (c':Cm) (Z1:Int):Prop:=
 ∃w ws,dV 32 line=w::ws∧bh w=some Z1∧last≤Z1∧
  ((Z1=0∧∃w1 w2,ws=[w1,w2]∧Yu w1∧WU w2∧c'= {c with cons:=c.cons++[(w1,VQ w2)]})∨(Z1=1∧∃w1 w2 w3,ws=[w1,w2,w3]∧Yu w1∧WU w2∧WU w3∧c'= {c with Co:=c.Co++[(w1,VQ w2)],Cj:=c.Cj++[VQ w3]})∨(Z1=2∧∃x,Zs (bQ w) ws x []∧c'= {c with ins:=c.ins++[x]}))
theorem Zs.eq {op:Int} {ws:List (List UInt8)} {x y:VI} {r t:List (List UInt8)} (h:Zs op ws x r) (h2:Zs op ws y t):x=y∧r=t:=by
 unfold Zs at h h2;split at h
 ·next e=>
  rw[if_pos e]at h2;obtain⟨w,⟨u,rfl,_,_,rfl⟩,rfl⟩:=h;obtain⟨w,⟨u,e2,_,_,rfl⟩,rfl⟩:=h2;cases e2;exact⟨rfl,rfl⟩
 ·next e1=>
  rw[if_neg e1]at h2;split at h
  ·next e=>
   rw[if_pos e]at h2;obtain⟨_,rfl,rfl⟩:=h;obtain⟨_,rfl,rfl⟩:=h2;exact⟨rfl,rfl⟩
  ·next e2=>
   rw[if_neg e2]at h2;split at h
   ·next e=>
    rw[if_pos e]at h2;obtain⟨w1,w2,u,rfl,_,_,_,rfl,rfl⟩:=h;obtain⟨w1,w2,u,e3,_,_,_,rfl,rfl⟩:=h2;cases e3;exact⟨rfl,rfl⟩
   ·next e3=>
    rw[if_neg e3]at h2;split at h
    ·next e=>
     rw[if_pos e]at h2;obtain⟨w1,rfl,_,rfl⟩:=h;obtain⟨w1,e3,_,rfl⟩:=h2;cases e3;exact⟨rfl,rfl⟩
    ·next e=>
     rw[if_neg e]at h2;obtain⟨rfl,rfl⟩:=h;obtain⟨rfl,rfl⟩:=h2;exact⟨rfl,rfl⟩
theorem dW.eq {last:Int} {c c1 c2:Cm} {line:List UInt8} {l1 l2:Int} (h:dW last c line c1 l1) (h2:dW last c line c2 l2):c1=c2∧l1=l2:=by
 obtain⟨w,ws,e,k,_,h⟩:=h;obtain⟨w',j5,e',k',_,h2⟩:=h2;rw[e]at e';cases e';rw[k]at k';cases k';refine⟨?_,rfl⟩;rcases h with⟨h0,w1,w2,rfl,_,_,rfl⟩|⟨h0,w1,w2,w3,rfl,_,_,_,rfl⟩|⟨h0,x,hx,rfl⟩
 ·rcases h2 with⟨_,v1,v2,e,_,_,rfl⟩|⟨h1,_⟩|⟨h1,_⟩
  ·cases e;rfl
  ·omega
  ·omega
 ·rcases h2 with⟨h1,_⟩|⟨_,v1,v2,v3,e,_,_,_,rfl⟩|⟨h1,_⟩
  ·omega
  ·cases e;rfl
  ·omega
 ·rcases h2 with⟨h1,_⟩|⟨h1,_⟩|⟨_,y,hy,rfl⟩
  ·omega
  ·omega
  ·rw[(hx.eq hy).1]
inductive XR:Int→Cm→List UInt8→Cm→Prop
 |nil {last:Int} {c:Cm}:XR last c [] c
 |cons {last Z1:Int} {c c1 c2:Cm} {t:List UInt8} {n:Nat}:Yd 10 t=some n→dW last c (t.take n) c1 Z1→XR Z1 c1 (t.drop (n+1)) c2→XR last c t c2
theorem XR.step {last Z1:Int} {c c1 c2:Cm} {t:List UInt8} {n:Nat} (hi:Yd 10 t=some n) (hl:dW last c (t.take n) c1 Z1):XR last c t c2↔XR Z1 c1 (t.drop (n+1)) c2:=by
 refine⟨fun h=>?_,.cons hi hl⟩;cases h with
 |nil=>cases hi
 |cons hi2 aZ h=>
  rw[hi]at hi2;cases hi2;obtain⟨rfl,rfl⟩:=hl.eq aZ;exact h
theorem XR.none {last:Int} {c c2:Cm} {t:List UInt8} (ht:t≠ []) (h:∀n,Yd 10 t=some n→¬∃c1 l1,dW last c (t.take n) c1 l1):¬XR last c t c2:=fun hh=>by
 cases hh with
 |nil=>exact ht rfl
 |cons hi hl _=>exact h _ hi ⟨_,_,hl⟩
theorem XR.eq {last:Int} {c c1 c2:Cm} {t:List UInt8} (h:XR last c t c1):XR last c t c2→c1=c2:=by
 induction h with
 |nil=>intro h2;cases h2 with
  |nil=>rfl
  |cons hi _ _=>cases hi
 |cons hi hl _ ih=>exact fun h2=>ih ((XR.step hi hl).1 h2)
def uD (s:St) (rb:Nat) (q:List AV) (x:AV):Prop:=s.heap.get rb=some (.cells (q++[x]) 184 false)∧q.length=4∧rb<s.next
def pN (rb:Nat):List AV:=[.func (.func 131) [.ptr rb 0] [],.func (.func 132) [.ptr rb 0] [],.func (.func 133) [.ptr rb 0] []]
structure uE (s0 s:St) (rb:Nat) (c0:Cm) (t0:List UInt8) (t:List UInt8) (last:Int) (c:Cm) (vc vf vi vs x:AV):Prop where
 all:∀c2,XR 0 c0 t0 c2↔XR last c t c2
 bJ:CL s0 s (fun c=>rb≤c)
 lg:Cg s0 s
 nx:s0.next<s.next
 at_:∃e,s.heap.get s0.next=some (.cells (pN rb) e false)
 rd:uD s rb [vc,vf,vi,vs] x
 ls:ZX s rb c vc vf vi vs
 own:∀v∈[vc,vf,vi,vs],Ci s0.next v=false
 sz:c.cons.length+c.Co.length+c.ins.length+t.length≤50000
 st:c.Cj.length=c.Co.length
 lo:s.log=[]→t=t0∧c=c0
theorem yn {w:List UInt8} {k:Int} (h:bh w=some k):k=0∨k=1∨k=2:=by
 unfold bh at h;split at h
 ·cases h;exact .inl rfl
 ·split at h
  ·cases h;exact .inr (.inl rfl)
  ·split at h
   ·cases h
   ·cases h;exact .inr (.inr rfl)
theorem yo {c:UInt8}:∀ {n:Nat} {w:List UInt8},w.length≤n→∀v∈dV c w,v.length≤n:=by
 intro n;induction n with
 |zero=>
  intro w hw v hv;obtain rfl:w=[]:=List.eq_nil_of_length_eq_zero (by omega);rw[GP rfl]at hv;rw[Qp.1 hv];exact Qj _
 |succ n ih=>
  intro w hw v hv;cases h:Yd c w with
  |none=>
   rw[GP h]at hv;rw[Qp.1 hv];exact hw
  |some i=>
   rw[HQ h]at hv;have:=H4 h;rcases Qk.1 hv with rfl|hv
   ·exact Nat.le_trans (List.length_take_le _ _) (by omega)
   ·exact Nat.le_succ_of_le (ih (by rw[List.length_drop];omega) v hv)
theorem uE.step {s0 st s2 s3:St} {rb:Nat} {c0 c1 c2:Cm} {t0 t1:List UInt8} {last k:Int} {n:Nat} {vc vf vi vs x wc wf wi ws:AV} (hI:uE s0 st rb c0 t0 t1 last c1 vc vf vi vs x) (hb:s0.bound≤s0.next) (jP:rb<s0.next) (hx:Yd 10 t1=some n)
 (hL:dW last c1 (t1.take n) c2 k) (c3:CL st s2 (fun c=>c=rb)) (l3:Cg st s2) (m3:rb∈s2.log) (c4:CL s2 s3 (fun c=>c=rb∨Ci c vc=true∨Ci c vf=true∨Ci c vi=true∨Ci c vs=true)) (l4:s2.bound≤s2.next→Cg s2 s3) (r4:Wz s3 rb [wc,wf,wi,ws] []) (kh:ZX s3 rb c2 wc wf wi ws)
 (ho:∀v∈[wc,wf,wi,ws],v∈[vc,vf,vi,vs]∨∀b,Ci b v=true→s2.next≤b) (XA:c2.cons.length+c2.Co.length+c2.ins.length≤c1.cons.length+c1.Co.length+c1.ins.length+1) (Xp:c2.Cj.length=c2.Co.length):
 uE s0 s3 rb c0 t0 (t1.drop (n+1)) k c2 wc wf wi ws (CF []):=by
 have az:=hI.nx;have vo:=c3.next;have dw:s2.bound≤s2.next:=by rw[c3.bound,hI.bJ.bound];omega
 have hbs:st.bound≤st.next:=by rw[hI.bJ.bound];omega
 have up:∀c,(c=rb∨Ci c vc=true∨Ci c vf=true∨Ci c vi=true∨Ci c vs=true)→rb≤c:=fun c h=>by
  rcases h with h|h|h|h|h
  ·omega
  ·exact Nat.le_of_lt (hI.ls.dc c h).1
  ·exact Nat.le_of_lt (hI.ls.df c h).1
  ·exact Nat.le_of_lt (hI.ls.di c h).1
  ·exact Nat.le_of_lt (hI.ls.ds c h)
 have vg:=H4 hx;have Xm:=hI.sz;refine⟨fun c=>(hI.all c).trans (XR.step hx hL),(hI.bJ.trans c3 (fun _ h=>h) (fun c h=> .inl (by omega)) hb).trans c4 (fun _ h=>h) (fun c h=> .inl (up c h)) hb,(hI.lg.trans l3).trans (l4 dw),by have:=c4.next;omega,hI.at_.imp fun e he=>?_,r4,kh,fun v hv=>?_,by rw[List.length_drop];omega,Xp,fun h=>?_⟩
 ·refine(c4.heap _ (by omega) fun h=>?_).trans ((c3.heap _ az (by omega)).trans he);have XG:=hI.own;rcases h with h|h|h|h|h
  ·omega
  ·rw[XG vc (by simp)]at h;cases h
  ·rw[XG vf (by simp)]at h;cases h
  ·rw[XG vi (by simp)]at h;cases h
  ·rw[XG vs (by simp)]at h;cases h
 ·rcases ho v hv with h|h
  ·exact hI.own v h
  ·cases hh:Ci s0.next v with
   |false=>rfl
   |true=>have:=h _ hh;omega
 ·have:=(l4 dw).more _ m3;rw[h]at this;cases this
theorem yp {s:St} {rb:Nat} {c:Cm} {vc vf vi vs x:AV} {t:List UInt8} (h:uD s rb [vc,vf,vi,vs] x) (hl:ZX s rb c vc vf vi vs) (hn:c.cons.length+c.Co.length+c.ins.length+t.length≤50000) (hs:c.Cj.length=c.Co.length) {R RP:AV→St→Prop}
 (hR:∀c',XR 0 c t c'→∀s' vc vf vi vs x,CL s s' (fun c=>rb≤c)→uD s' rb [vc,vf,vi,vs] x→ZX s' rb c' vc vf vi vs→(s.bound≤s.next→Cg s s')→R (.tuple []) s')
 (hP:(¬∃c',XR 0 c t c')→∀s',CL s s' (fun c=>rb≤c)→(s.bound≤s.next→Cg s s')→RP bad s'):VK (EK R9) 97 [.ptr rb 0,.str t] s R RP:=by
 refine VK.unit (fn:=Tryz.f97) U (by kernel_rfl) U U U U ?_;have h0:uD s.enter rb [vc,vf,vi,vs] x:=h;have X9:ZX s.enter rb c vc vf vi vs:=⟨hl.cons,hl.Co,hl.ins,hl.Cj,hl.dc,hl.df,hl.di,hl.ds⟩
 have hb:=h.2.2;refine Es<|qm rfl<|Lq (Bh U U U) rfl<|qm rfl<|Lq (Bh U U U) rfl<|qm rfl<|Lq (Bh U U U) rfl<|Lq (Bj U TD U U) rfl<|Lo (Ws.alloc U th) U ?_;have iA:uE s.enter ((s.enter.alloc (.cells [.Cu,.Cu,.Cu] 222 false)).put s.next (some (.cells (pN rb) 222 false))) rb c t t 0 c vc vf vi vs x:=by
  have c1:CL s.enter (s.enter.alloc (.cells [.Cu,.Cu,.Cu] 222 false)) (fun c=>c=rb):=CL.alloc;have c2:CL s.enter ((s.enter.alloc (.cells [.Cu,.Cu,.Cu] 222 false)).put s.next (some (.cells (pN rb) 222 false))) (fun c=>c=rb):=c1.trans CL.put (fun _ h=>h) (fun c h=> .inr (by rw[h];exact Qj _)) (Qj _);exact⟨fun _=>Iff.rfl,B0 c2 fun c h=>by omega,(Cg.alloc (Qj _)).trans Cg.put,Nat.lt_succ_self _,⟨_,by rw[AL];exact if_pos U⟩,
   ⟨(AL.trans (if_neg (by omega))).trans ((AT h0.2.2).trans h0.1),rfl,Nat.lt_succ_of_lt h0.2.2⟩,X9.CW c2,fun v hv=>by
    have:∀ {e:TypeId} {k n:Nat} {v:AV} {cs:List AV},Grown s.enter e k v cs n→Ci s.enter.next v=false:=fun h=>NG h (Qj _);rcases Qk.1 hv with rfl|hv
    ·exact this X9.cons
    rcases Qk.1 hv with rfl|hv
    ·exact this X9.Co
    rcases Qk.1 hv with rfl|hv
    ·exact this X9.ins
    rw[Qp.1 hv];exact this X9.Cj,hn,hs,fun _=>⟨rfl,rfl⟩⟩
 have gA:(s.enter.alloc (.cells [.Cu,.Cu,.Cu] 222 false)).heap.get s.next=some (.cells [.Cu,.Cu,.Cu] 222 false):=BZ;show VE _ _ _ _ _ _ (s.enter.alloc (.cells [.Cu,.Cu,.Cu] 222 false)) _;generalize s.enter.alloc (.cells [.Cu,.Cu,.Cu] 222 false)=sA at*;refine Ax (Ws.store U Ta U U (AB ‹_› U U U)) U rfl<|Ld ?_;show Ch _ _ _ _ (sA.put s.next (some (.cells (pN rb) 222 false))) _;generalize sA.put s.next (some (.cells (pN rb) 222 false))=s0 at*;refine Es<|qa rfl<|Ld<|Ch.block ?_;refine Aw (fun y:List UInt8×Int×Cm×(AV×AV×AV×AV×AV)×St=>([(5,.int .i64 y.2.1),(4,.ptr s.next 0),(1,.str y.1),(0,.ptr rb 0)],y.2.2.2.2)) (fun y=>y.1.length)
  (fun y=>uE s.enter y.2.2.2.2 rb c t y.1 y.2.1 y.2.2.1 y.2.2.2.1.1 y.2.2.2.1.2.1 y.2.2.2.1.2.2.1 y.2.2.2.1.2.2.2.1 y.2.2.2.1.2.2.2.2) (t,0,c,(vc,vf,vi,vs,x),s0) iA rfl (Ao (by repeat' constructor)) ?_
 rintro⟨t1,last,c1,⟨vc,vf,vi,vs,x⟩,st⟩ hI;dsimp only at hI⊢;have up:∀ {s1:St},CL st s1 (fun c=>rb≤c)→(st.bound≤st.next→Cg st s1)→CL s.enter s1 (fun c=>rb≤c)∧Cg s.enter s1:=fun c1 l1=>
  ⟨hI.bJ.trans c1 (fun _ h=>h) (fun _ h=> .inl h) (Qj _),hI.lg.trans (l1 (by rw[hI.bJ.bound];exact hI.bJ.next))⟩
 by_cases ht:t1=[]
 ·subst ht;refine Aa<|Es<|qm rfl<|Lq (Bd U Wl U U U U) rfl<|Ld<|Af U rfl<|A1<|AS U ?_;refine⟨.inr U,rfl,fun h2=>?_,hR c1 ((hI.all c1).2 .nil) (s.back st) vc vf vi vs x (CL.back hI.bJ) hI.rd hI.ls.back (fun hb=>Cg.back hI.lg hb)⟩;obtain⟨h3,h4⟩:=hI.lo h2;subst h3 h4;exact hR _ .nil s _ _ _ _ _ CL.refl h hl fun _=>Cg.refl
 have no:(∀n,Yd 10 t1=some n→¬∃c2 l2,dW last c1 (t1.take n) c2 l2)→∀ {s1:St},CL s.enter s1 (fun c=>rb≤c)∧Cg s.enter s1→RP bad (s.back s1):=fun h s1 cl=>
  hP (fun⟨c2,h2⟩=>XR.none ht h ((hI.all c2).1 h2)) _ (CL.back cl.1) fun hb=>Cg.back cl.2 hb
 have XA:=hI.sz;have hwi:t1.length≤50000:=by omega
 cases hx:Yd 10 t1 with
 |none=>
  have DV:R9 134 [.str t1,.str [10]]=some (.tuple [.str t1,.str [],.bool false]):=by
   have:=DV (c:=10) hwi;unfold jd at this;rw[hx]at this;exact this
  focus
   refine Aa<|Es<|qm rfl<|Lq (Bd U Wl U U U U) rfl<|Ld ?_;refine Ec U (fun g1=>?_) (fun g1=>?_);have h1:=bnT g1;refine Ac<|Ch.block<|Es<|qm U ?_;refine Lo (Ad U U (by kernel_rfl) U (Cb.Cs (DV))) rfl<|qm U ?_;iterate 3 refine Lq (oe U) U ?_
   iterate 3 refine qa U ?_
   refine Ld<|Es<|qm U ?_;refine A0 U U (by kernel_rfl) U U U U (BX Ba ?_);rotate_left;have h1:=bnF g1;exact absurd h1 (by omega)
  ·exact⟨rfl,no (fun n h=>by rw[hx]at h;cases h) ⟨hI.bJ,hI.lg⟩⟩
 |some n=>
  have aC:=H4 hx;have DV:R9 134 [.str t1,.str [10]]=some (.tuple [.str (t1.take n),.str (t1.drop (n+1)),.bool true]):=by
   have:=DV (c:=10) hwi;unfold jd at this;rw[hx]at this;exact this
  have gN:(t1.take n).length≤50000:=Nat.le_trans (List.length_take_le _ _) (by omega);have dO:=hI.rd.1;have hbst:st.bound=s.next:=hI.bJ.bound;have hnst:=hI.bJ.next;have fK:s.enter.next=s.next:=rfl;have az:=hI.nx;obtain⟨w,ws,hp⟩:∃w ws,dV 32 (t1.take n)=w::ws:=by
   cases h:dV 32 (t1.take n)with
   |nil=>exact absurd h (TM _ _)
   |cons w ws=>exact⟨w,ws,rfl⟩
  have X3:=H1 32 (t1.take n);have XK:=Vm (32:UInt8).toNat (t1.take n);rw[hp,List.length_cons]at X3;have hws:ws.length≤50001:=by omega
  have XY:∀v∈w::ws,v.length≤50000:=fun v hv=>yo gN v (by rw[hp];exact hv);have P4:R9 136 [.str (t1.take n),.str [32]]=some (CF (w::ws)):=by
   rw[←hp];exact P4 (c:=32) gN
  focus
   refine Aa<|Es<|qm rfl<|Lq (Bd U Wl U U U U) rfl<|Ld ?_;refine Ec U (fun g1=>?_) (fun g1=>?_);have h1:=bnT g1;refine Ac<|Ch.block<|Es<|qm U ?_;refine Lo (Ad U U (by kernel_rfl) U (Cb.Cs (DV))) rfl<|qm U ?_;iterate 3 refine Lq (oe U) U ?_
   iterate 3 refine qa U ?_
   refine Ld<|Es<|qm U ?_;refine Lo (Ad U U (by kernel_rfl) U (Cb.Cs (Bz))) rfl<|Ld<|Es<|qm rfl<|qa rfl<|Ld<|Es ?_;iterate 2 refine qm U ?_
   refine Lo (Ad U U (by kernel_rfl) U (Cb.Cs (P4))) rfl<|Lq (Ar U U U) rfl<|Lq (of DE U) rfl<|Ax (Ws.store U EM U U (AB ‹_› U U U)) U rfl<|Ld<|Es<|qm U ?_;rotate_left;have h1:=bnF g1;exact absurd h1 (by omega)
  have c1:CL st (st.put rb (some (.cells [vc,vf,vi,vs,CF (w::ws)] 184 false))) (fun c=>c=rb):=CL.put;have l1:Cg st (st.put rb (some (.cells [vc,vf,vi,vs,CF (w::ws)] 184 false))):=Cg.put;have r1:Wz (st.put rb (some (.cells [vc,vf,vi,vs,CF (w::ws)] 184 false))) rb [vc,vf,vi,vs] (w::ws):=⟨by rw[AL,if_pos rfl];rfl,rfl,hI.rd.2.2⟩
  have m1:rb∈(st.put rb (some (.cells [vc,vf,vi,vs,CF (w::ws)] 184 false))).log:=DJ (by rw[hbst];exact hb);show VE _ _ _ _ _ _ (st.put rb (some (.cells [vc,vf,vi,vs,CF (w::ws)] 184 false))) _;generalize st.put rb (some (.cells [vc,vf,vi,vs,CF (w::ws)] 184 false))=sB at*;refine A0 U U (by kernel_rfl) U U U U (HV r1 (by omega) fun s2 c2 r2 l2=>?_);have c3:CL st s2 (fun c=>c=rb):=c1.trans c2 (fun _ h=>h) (fun _ h=> .inl h) (by omega);have l3:Cg st s2:=l1.trans (l2 (by rw[c1.bound];have:=c1.next;omega));have m3:rb∈s2.log:=(l2 (by rw[c1.bound];have:=c1.next;omega)).more _ m1;clear c1 l1 r1 m1 c2 l2;have u3:=up (B0 c3 fun c h=>by omega) fun _=>l3;have aZ:=hI.ls.CW c3;have at2:∃e,s2.heap.get s.next=some (.cells (pN rb) e false):=hI.at_.imp fun e he=>(c3.heap _ hI.nx (by show¬s.next=rb;omega)).trans he
  have kg:(¬∃c2 l2,dW last c1 (t1.take n) c2 l2)→∀ {s1:St},CL s.enter s1 (fun c=>rb≤c)∧Cg s.enter s1→RP bad (s.back s1):=fun h s1 cl=>no (fun m hm=>by rw[hx]at hm;cases hm;exact h) cl;have up2:∀ {s3:St},CL s2 s3 (fun c=>rb≤c)→(s2.bound≤s2.next→Cg s2 s3)→CL s.enter s3 (fun c=>rb≤c)∧Cg s.enter s3:=fun c4 l4=>
   ⟨u3.1.trans c4 (fun _ h=>h) (fun _ h=> .inl h) (Qj _),u3.2.trans (l4 (by rw[u3.1.bound];exact u3.1.next))⟩
  cases hk:bh w with
  |none=>
   refine qa rfl<|Ld<|Es<|qm U ?_;refine A0 U U (by kernel_rfl) U U U U (yh (by omega) ?_);exact⟨rfl,kg (fun⟨c2,l2,w',j5,e1,e2,_⟩=>by rw[hp]at e1;cases e1;rw[hk]at e2;cases e2) u3⟩
  |some k=>
   obtain⟨e,ga⟩:=at2;rcases yn hk with rfl|rfl|rfl
   ·focus
     refine qa rfl<|Ld<|Es<|qm U ?_;refine Lo (Ad U U (by kernel_rfl) U (Cb.Cs (P3 (by omega)))) U ?_;refine qa rfl<|Ld<|Es ?_;iterate 2 refine qm U ?_
     refine Lq (o2 Ck U U) U ?_;refine Bq (k:=40) U (fun g2=>?_) (fun g2=>?_);have h2:=dT g2;refine Lo (Ad U U (by kernel_rfl) U (Cb.Cs (Bz))) rfl<|Ld<|Es<|qm rfl<|qa rfl<|Ld<|Es<|qm rfl<|Lq (Be (m:=0) U SS IR U U (by omega) U) rfl<|Lo (A2 U U (Aj O4 IR ‹_› U)) rfl<|qm U ?_;rotate_left;have h2:=dF g2;refine A0 U U (by kernel_rfl) U U U U (BX Ba ?_);rotate_left
    rotate_left
    ·exact⟨rfl,kg (fun⟨c2,l2,w',j5,e1,e2,e3,_⟩=>by rw[hp]at e1;cases e1;rw[hk]at e2;cases e2;omega) u3⟩
    refine HA (f:=131) (by kernel_rfl) U U U U U U U U (yj r2 aZ hws (fun v hv=>XY v (Qg _ hv)) (by omega) (fun w1 w2 r e hN mQ s3 v3 c4 o4 r4 kh l4=>?_) fun hn s3 c4 l4=>⟨rfl,kg (fun⟨c2,l2,w',j5,e1,e2,e3,h⟩=>by
     rw[hp]at e1;cases e1;rw[hk]at e2;cases e2;rcases h with⟨_,w1,w2,e,h1,h2,_⟩|⟨h,_⟩|⟨h,_⟩
     ·exact hn ⟨w1,w2,[],e,h1,h2⟩
     ·cases h
     ·cases h) (up2 c4 l4)⟩)
    have rc:=r4.1;have hlr:=FY (ws:=r);focus
     refine Ld<|Ai<|qm rfl<|Lq (Ar U U U) rfl<|Lq (of DE U) rfl<|Lo (A2 U U (Aj FM EM ‹_› U)) rfl<|Lq (ol B2 U) rfl<|Lq (o2 Ck U U) U ?_;refine Bq (k:=53) U (fun g3=>?_) (fun g3=>?_);have h3:=dT g3;refine Lo (Ad U U (by kernel_rfl) U (Cb.Cs (Bz))) rfl<|Ld ?_;rotate_left;have h3:=dF g3;refine A0 U U (by kernel_rfl) U U U U (BX Ba ?_);rotate_left
    ·obtain rfl:r=[]:=List.eq_nil_of_length_eq_zero (by omega);exact⟨(t1.drop (n+1),0,_,(v3,vf,vi,vs,CF []),s3),hI.step (Qj _) hb hx ⟨w,[w1,w2],by rw[hp,e],hk,by omega,.inl ⟨rfl,w1,w2,rfl,hN,mQ,rfl⟩⟩ c3 l3 m3 (B0 c4 fun c h=>by rcases h with h|h<;>simp[h]) l4 r4 kh (fun v hv=>by
      rcases Qk.1 hv with rfl|hv
      ·exact .inr o4
      ·exact .inl (Qg _ hv)) (by simp only[Qm,List.length_singleton];omega) hI.st,by show(t1.drop (n+1)).length<_;rw[List.length_drop];omega,rfl,rfl,Ao (by repeat' constructor)⟩
    ·have Xl:¬r.length=0:=by omega
     refine⟨rfl,kg (fun⟨c2,l2,w',j5,e1,e2,e3,h⟩=>?_) (up2 (B0 c4 fun c h=>?_) l4)⟩
     ·rw[hp]at e1;cases e1;rw[hk]at e2;cases e2;rcases h with⟨_,v1,v2,e4,h1,h2,_⟩|⟨h,_⟩|⟨h,_⟩
      ·rw[e]at e4;cases e4;exact Xl U
      ·cases h
      ·cases h
     ·rcases h with h|h
      ·omega
      ·exact Nat.le_of_lt (aZ.dc c h).1
   ·focus
     refine qa rfl<|Ld<|Es<|qm U ?_;refine Lo (Ad U U (by kernel_rfl) U (Cb.Cs (P3 (by omega)))) U ?_;refine qa rfl<|Ld<|Es ?_;iterate 2 refine qm U ?_
     refine Lq (o2 Ck U U) U ?_;refine Bq (k:=40) U (fun g2=>?_) (fun g2=>?_);have h2:=dT g2;refine Lo (Ad U U (by kernel_rfl) U (Cb.Cs (Bz))) rfl<|Ld<|Es<|qm rfl<|qa rfl<|Ld<|Es<|qm rfl<|Lq (Be (m:=1) U SS IR U U (by omega) U) rfl<|Lo (A2 U U (Aj O4 IR ‹_› U)) rfl<|qm U ?_;rotate_left;have h2:=dF g2;refine A0 U U (by kernel_rfl) U U U U (BX Ba ?_);rotate_left
    rotate_left
    ·exact⟨rfl,kg (fun⟨c2,l2,w',j5,e1,e2,e3,_⟩=>by rw[hp]at e1;cases e1;rw[hk]at e2;cases e2;omega) u3⟩
    refine HA (f:=132) (by kernel_rfl) U U U U U U U U (yk r2 aZ hws (fun v hv=>XY v (Qg _ hv)) ⟨by omega,by rw[hI.st];omega⟩ (fun w1 w2 w3 r e hN mQ hN3 s3 v3 u4 c4 o4 r4 kh l4=>?_) fun hn s3 c4 l4=>⟨rfl,kg (fun⟨c2,l2,w',j5,e1,e2,e3,h⟩=>by
     rw[hp]at e1;cases e1;rw[hk]at e2;cases e2;rcases h with⟨h,_⟩|⟨_,w1,w2,w3,e,h1,h2,h3,_⟩|⟨h,_⟩
     ·cases h
     ·exact hn ⟨w1,w2,w3,[],e,h1,h2,h3⟩
     ·cases h) (up2 c4 l4)⟩)
    have rc:=r4.1;have hlr:=FY (ws:=r);focus
     refine Ld<|Ai<|qm rfl<|Lq (Ar U U U) rfl<|Lq (of DE U) rfl<|Lo (A2 U U (Aj FM EM ‹_› U)) rfl<|Lq (ol B2 U) rfl<|Lq (o2 Ck U U) U ?_;refine Bq (k:=53) U (fun g3=>?_) (fun g3=>?_);have h3:=dT g3;refine Lo (Ad U U (by kernel_rfl) U (Cb.Cs (Bz))) rfl<|Ld ?_;rotate_left;have h3:=dF g3;refine A0 U U (by kernel_rfl) U U U U (BX Ba ?_);rotate_left
    ·obtain rfl:r=[]:=List.eq_nil_of_length_eq_zero (by omega);exact⟨(t1.drop (n+1),1,_,(vc,v3,vi,u4,CF []),s3),hI.step (Qj _) hb hx ⟨w,[w1,w2,w3],by rw[hp,e],hk,by omega,.inr (.inl ⟨rfl,w1,w2,w3,rfl,hN,mQ,hN3,rfl⟩)⟩ c3 l3 m3 (B0 c4 fun c h=>by rcases h with h|h|h<;>simp[h]) l4 r4 kh (fun v hv=>by
      rcases Qk.1 hv with rfl|hv
      ·exact .inl (Qh ..)
      rcases Qk.1 hv with rfl|hv
      ·exact .inr fun b h=>o4 b (.inl h)
      rcases Qk.1 hv with rfl|hv
      ·exact .inl (by simp)
      ·rw[Qp.1 hv];exact .inr fun b h=>o4 b (.inr h)) (by simp only[Qm,List.length_singleton];omega) (by simp only[Qm,List.length_singleton];rw[hI.st]),by show(t1.drop (n+1)).length<_;rw[List.length_drop];omega,rfl,rfl,Ao (by repeat' constructor)⟩
    ·have Xl:¬r.length=0:=by omega
     refine⟨rfl,kg (fun⟨c2,l2,w',j5,e1,e2,e3,h⟩=>?_) (up2 (B0 c4 fun c h=>?_) l4)⟩
     ·rw[hp]at e1;cases e1;rw[hk]at e2;cases e2;rcases h with⟨h,_⟩|⟨_,v1,v2,v3,e4,h1,h2,_⟩|⟨h,_⟩
      ·cases h
      ·rw[e]at e4;cases e4;exact Xl U
      ·cases h
     ·rcases h with h|h|h
      ·omega
      ·exact Nat.le_of_lt (aZ.df c h).1
      ·exact Nat.le_of_lt (aZ.ds c h)
   ·focus
     refine qa rfl<|Ld<|Es<|qm U ?_;refine Lo (Ad U U (by kernel_rfl) U (Cb.Cs (P3 (by omega)))) U ?_;refine qa rfl<|Ld<|Es ?_;iterate 2 refine qm U ?_
     refine Lq (o2 Ck U U) U ?_;refine Bq (k:=40) U (fun g2=>?_) (fun g2=>?_);have h2:=dT g2;refine Lo (Ad U U (by kernel_rfl) U (Cb.Cs (Bz))) rfl<|Ld<|Es<|qm rfl<|qa rfl<|Ld<|Es<|qm rfl<|Lq (Be (m:=2) U SS IR U U (by omega) U) rfl<|Lo (A2 U U (Aj O4 IR ‹_› U)) rfl<|qm U ?_;rotate_left;have h2:=dF g2;refine A0 U U (by kernel_rfl) U U U U (BX Ba ?_);rotate_left
    rotate_left
    ·exact⟨rfl,kg (fun⟨c2,l2,w',j5,e1,e2,e3,_⟩=>by rw[hp]at e1;cases e1;rw[hk]at e2;cases e2;omega) u3⟩
    refine HA (f:=133) (by kernel_rfl) U U U U U U U U (yl r2 aZ hws (fun v hv=>XY v (Qg _ hv)) (by omega) (fun y r hy s3 v3 c4 o4 r4 kh l4=>?_) fun hn s3 c4 l4=>⟨rfl,kg (fun⟨c2,l2,w',j5,e1,e2,e3,h⟩=>by
     rw[hp]at e1;cases e1;rw[hk]at e2;cases e2;rcases h with⟨h,_⟩|⟨h,_⟩|⟨_,y,hy,_⟩
     ·cases h
     ·cases h
     ·exact hn ⟨y,[],hy⟩) (up2 c4 l4)⟩)
    have rc:=r4.1;have hlr:=FY (ws:=r);focus
     refine Ld<|Ai<|qm rfl<|Lq (Ar U U U) rfl<|Lq (of DE U) rfl<|Lo (A2 U U (Aj FM EM ‹_› U)) rfl<|Lq (ol B2 U) rfl<|Lq (o2 Ck U U) U ?_;refine Bq (k:=53) U (fun g3=>?_) (fun g3=>?_);have h3:=dT g3;refine Lo (Ad U U (by kernel_rfl) U (Cb.Cs (Bz))) rfl<|Ld ?_;rotate_left;have h3:=dF g3;refine A0 U U (by kernel_rfl) U U U U (BX Ba ?_);rotate_left
    ·obtain rfl:r=[]:=List.eq_nil_of_length_eq_zero (by omega);exact⟨(t1.drop (n+1),2,_,(vc,vf,v3,vs,CF []),s3),hI.step (Qj _) hb hx ⟨w,ws,hp,hk,by omega,.inr (.inr ⟨rfl,y,hy,rfl⟩)⟩ c3 l3 m3 (B0 c4 fun c h=>by rcases h with h|h<;>simp[h]) l4 r4 kh (fun v hv=>by
      rcases Qk.1 hv with rfl|hv
      ·exact .inl (Qh ..)
      rcases Qk.1 hv with rfl|hv
      ·exact .inl (by simp)
      rcases Qk.1 hv with rfl|hv
      ·exact .inr o4
      ·rw[Qp.1 hv];exact .inl (by simp)) (by simp only[Qm,List.length_singleton];omega) hI.st,by show(t1.drop (n+1)).length<_;rw[List.length_drop];omega,rfl,rfl,Ao (by repeat' constructor)⟩
    ·have Xl:¬r.length=0:=by omega
     refine⟨rfl,kg (fun⟨c2,l2,w',j5,e1,e2,e3,h⟩=>?_) (up2 (B0 c4 fun c h=>?_) l4)⟩
     ·rw[hp]at e1;cases e1;rw[hk]at e2;cases e2;rcases h with⟨h,_⟩|⟨h,_⟩|⟨_,z,hz,_⟩
      ·cases h
      ·cases h
      ·rw[(hy.eq hz).2]at Xl;exact Xl U
     ·rcases h with h|h
      ·omega
      ·exact Nat.le_of_lt (aZ.di c h).1
end Go.Proofs.YtpihdbhocgcbpaaGreatDoor.Rd
open Go Am
namespace Am
theorem NP {E:Env} {f:FuncId} {v w:AV} {s st:St} {ks:List Nat} (hf:E.nX f=1) (hl:st.log=[]) (hz:CH st s.next 40 v []=some (w,ks)) (hk:∀b∈ks,st.bound≤b) (hu:Cz s.next 40 w=true):leave E f s v st=some (.same w):=by
 unfold leave frozen;rw[hf];simp only;rw[hl];show((Wb s.next v st).bind _)=_;unfold Wb;rw[hz];simp only[Qe];have gU:(kill st ks).log=[]:=by
  rw[←hl];clear hz hl;revert st;induction ks with
  |nil=>intro st _;rfl
  |cons b ks ih=>
   intro st hk;have hb:(st.put b none).log=st.log:=by
    show(bif Nat.blt b st.bound then _ else st.log)=_;have:Nat.blt b st.bound=false:=by
     cases h:Nat.blt b st.bound with
     |false=>rfl
     |true=>
      have h2:b<st.bound:=Qc h;have:=hk b (Qh ..);omega
    rw[this];rfl
   show(kill (st.put b none) ks).log=_;rw[ih (st:=st.put b none) fun c hc=>hk c (Qg _ hc)];exact hb
 rw[gU];show some (bif Cz s.next 40 w then _ else _)=_;rw[hu];rfl
end Am
namespace Go.Proofs.YtpihdbhocgcbpaaGreatDoor.Rd
theorem JS:∀l:List (List UInt8×Int),(l.flatMap Cy).all (Cr 40)=true
 | []=>rfl
 |_::l=>JS l
theorem UO {s:St} {m n:Nat}:∀(l:List (List UInt8×Int)) (ks:List Nat),CH.many (CH s m (n+1)) (l.flatMap Cy) ks=some (l.flatMap Cy,ks)
 | [],_=>rfl
 |a::l,ks=>by
  show((((CH.many (CH s m (n+1)) (l.flatMap Cy) ks).bind _)).bind _)=_;rw[UO l ks];rfl
theorem Bw {α:Type} (enc:α→List AV) (k:Nat) (l:List α):fG enc k l= .Ca∨∃cs n,fG enc k l= .Cd cs n k true:=by
 cases l with
 |nil=>exact .inl rfl
 |cons a l=>exact .inr ⟨_,_,rfl⟩
theorem NV:∀l:List VI,(l.flatMap Z0).all (Cr 40)=true
 | []=>rfl
 |x::l=>by
  have h:=NV l;rw[List.flatMap_cons,List.all_append,h,Bool.and_true];unfold Z0;rcases Bw XB 2 x.alts with e1|⟨_,_,e1⟩<;>rcases Bw CY 1 x.to with e2|⟨_,_,e2⟩<;>rcases Bw CY 1 x.args with e3|⟨_,_,e3⟩<;>rw[e1,e2,e3]<;>rfl
theorem P8 {f:AV→List Nat→Option (AV×List Nat)}:∀ {L:List AV},(∀v∈L,∀ks,f v ks=some (v,ks))→∀ks,CH.many f L ks=some (L,ks)
 | [],_,_=>rfl
 |v::L,h,ks=>by
  show((f v ks).bind _)=_;rw[h v (Qh ..)];show((CH.many f L ks).bind _)=_;rw[P8 fun u hu=>h u (Qg _ hu)];rfl
theorem UP {s:St} {m n k:Nat} {α:Type} {enc:α→List AV} {l:List α} {ks:List Nat}:CH s m (n+1) (fG enc k l) ks=some (fG enc k l,ks):=by
 rcases Bw enc k l with e|⟨_,_,e⟩<;>rw[e]<;>rfl
theorem frz_is {s:St} {m n:Nat} (l:List VI) (ks:List Nat):CH.many (CH s m (n+1)) (l.flatMap Z0) ks=some (l.flatMap Z0,ks):=P8 (fun v hv ks=>by
 obtain⟨x,_,hx⟩:=List.mem_flatMap.1 hv;unfold Z0 at hx;simp only[Qk,List.not_mem_nil,or_false]at hx;rcases hx with rfl|rfl|rfl|rfl|rfl|rfl|rfl<;>first|rfl|exact UP) ks
theorem Ii {s:St} {e:TypeId} {α:Type} {enc:α→List AV} {k m j:Nat} {v:AV} {l:List α} (h:Grown s e k v (l.flatMap enc) l.length) (hm:∀b,Ci b v=true→m≤b) (hz:∀ks,CH.many (CH s m j) (l.flatMap enc) ks=some (l.flatMap enc,ks)) (hc:(l.flatMap enc).all (Cr 40)=true):
 ∃bs:List Nat,(∀b∈bs,m≤b)∧∀ks,CH s m (j+1) v ks=some (fG enc k l,bs++ks):=by
 cases l with
 |nil=>
  obtain⟨rfl,_⟩:=h.zero;exact⟨[],(fun b hb=>by cases hb),fun ks=>rfl⟩
 |cons a l=>
  rcases h with⟨_,h0,_⟩|⟨b,rfl,hb,hg,hl,_⟩
  ·cases h0
  ·refine⟨[b],fun c hc=>by rw[Qp.1 hc];exact hm b (Nat.beq_refl b),fun ks=>?_⟩;rw[Ko (hm b (Nat.beq_refl b)) hg hl (hz ks),hc];rfl
def ParsV (t:List UInt8) (v:AV):Prop:=(∃c,XR 0 ⟨[],[],[],[]⟩ t c∧v= .tuple [.agg (XQ c),.bool true])∨((¬∃c,XR 0 ⟨[],[],[],[]⟩ t c)∧v= .tuple [.agg [.Ca,.Ca,.Ca,.Ca],.bool false])
theorem RX {s:St} {t:List UInt8} (ht:t.length≤50000):VK (EK R9) 55 [.str t] s (fun v s'=>ParsV t v∧s'=s) (fun _ _=>False):=by
 refine VK.putOff (fn:=Tryz.f55) U (by kernel_rfl) U U U rfl<|Es<|Lo (Ws.alloc U pF) rfl<|Lo (Ws.alloc U z_4) rfl<|Ld<|Lm U (Bh U U U) U U U U U U U U U rfl<|Es<|Lq (Bj U TE U U) rfl<|Lo (PY U U U) rfl<|qa rfl<|Ld<|Es ?_;iterate 2 refine qm U ?_
 obtain⟨sC,hC⟩:∃x,x=((s.enter.alloc (.cells [.Ca,.Ca,.Ca,.Ca] 28 false)).alloc (.cells [.bool false] 4 false)).alloc (.cells [.Ca,.Ca,.Ca,.Ca,.Ca] 184 false):=⟨_,rfl⟩
 have nC:sC.next=s.next+3:=by rw[hC];rfl
 have bC:sC.bound=s.next:=by rw[hC];rfl
 have lC:sC.log=[]:=by rw[hC];rfl
 have g0:sC.heap.get s.next=some (.cells [.Ca,.Ca,.Ca,.Ca] 28 false):=by
  rw[hC];exact(AT (show s.next<s.next+2 by omega)).trans ((AT (show s.next<s.next+1 by omega)).trans BZ)
 have g1:sC.heap.get (s.next+1)=some (.cells [.bool false] 4 false):=by
  rw[hC];exact(AT (show s.next+1<s.next+2 by omega)).trans BZ
 have rC:uD sC (s.next+2) [.Ca,.Ca,.Ca,.Ca] .Ca:=⟨by rw[hC];exact BZ,rfl,by omega⟩
 have hlC:ZX sC (s.next+2) ⟨[],[],[],[]⟩ .Ca .Ca .Ca .Ca:=⟨Grown.nil _ _ _,Grown.nil _ _ _,Grown.nil _ _ _,Grown.nil _ _ _,(fun _ h=>by cases h),(fun _ h=>by cases h),(fun _ h=>by cases h),fun _ h=>by cases h⟩
 have oC:∀c,c<s.next→sC.heap.get c=s.heap.get c:=fun c hc=>by
  rw[hC];exact(AT (show c<s.next+2 by omega)).trans ((AT (show c<s.next+1 by omega)).trans (AT hc))
 show VE _ _ _ _ _ _ (((s.enter.alloc (.cells [.Ca,.Ca,.Ca,.Ca] 28 false)).alloc (.cells [.bool false] 4 false)).alloc (.cells [.Ca,.Ca,.Ca,.Ca,.Ca] 184 false)) _;rw[←hC];clear hC;refine A0 U U (by kernel_rfl) U U U U (yp (rb:=s.next+2) rC hlC (by show 0+0+0+t.length≤50000;omega) U (fun c hA s4 vc vf vi vs x c4 r4 kh l4=>?_) fun hn s4 c4 l4=>?_)
 ·have h0:s4.heap.get s.next=some (.cells [.Ca,.Ca,.Ca,.Ca] 28 false):=(c4.heap _ (by omega) (by omega)).trans g0;have h1:s4.heap.get (s.next+1)=some (.cells [.bool false] 4 false):=(c4.heap _ (by omega) (by omega)).trans g1;have h2:=r4.1;refine Ld<|Es<|qm rfl<|Lq (Ar U U U) rfl<|Lq (of Fc U) rfl<|Lo (A2 U U (Eh Em D5 ‹_› (Qc U))) rfl<|Ax (Ws.store U D5 U U (AB ‹_› U U U)) U U ?_;have g5:(s4.put s.next (some (.cells [vc,vf,vi,vs] 28 false))).heap.get (s.next+1)=some (.cells [.bool false] 4 false):=(AL.trans (if_neg (by omega))).trans h1;show VE _ _ _ _ _ _ (s4.put s.next (some (.cells [vc,vf,vi,vs] 28 false))) _;obtain⟨sD,hD⟩:∃x,x=s4.put s.next (some (.cells [vc,vf,vi,vs] 28 false)):=⟨_,rfl⟩
  rw[←hD]at g5⊢;refine Ax (Ws.store U wZ U U (AB ‹_› U U U)) U rfl<|Ld ?_;refine Ab ⟨none,96,_,_,Tryz.f96,_,rfl,rfl,by kernel_rfl,rfl,rfl,?_⟩;refine GK U U U U U U U rfl<|Ch.block<|Es<|Lq (EF (neg:=false) U oI U U U) rfl<|Ld<|Ah U rfl<|Ai<|qa rfl<|Ld ?_;have gD:sD.heap.get s.next=some (.cells [vc,vf,vi,vs] 28 false):=by rw[hD,AL,if_pos rfl]
  have cE:CL sC (sD.put (s.next+1) (some (.cells [.bool true] 4 false))) (fun c=>s.next≤c):=by
   rw[hD];exact((B0 c4 (fun c h=>(by omega:s.next≤c))).trans CL.put (fun _ h=>h) (fun c h=> .inl (by omega)) (by omega)).trans CL.put (fun _ h=>h) (fun c h=> .inl (by omega)) (by omega)
  have kE:∀b,s.next+2<b→(sD.put (s.next+1) (some (.cells [.bool true] 4 false))).heap.get b=s4.heap.get b:=fun b hb=>by
   rw[AL,if_neg (by omega),hD,AL,if_neg (by omega)]
  have e0:(sD.put (s.next+1) (some (.cells [.bool true] 4 false))).heap.get s.next=some (.cells [vc,vf,vi,vs] 28 false):=(AL.trans (if_neg (by omega))).trans gD;have e1:(sD.put (s.next+1) (some (.cells [.bool true] 4 false))).heap.get (s.next+1)=some (.cells [.bool true] 4 false):=AL.trans (if_pos rfl);have nE:s4.next=(sD.put (s.next+1) (some (.cells [.bool true] 4 false))).next:=by rw[hD];rfl
  refine⟨.inl U,rfl,?_⟩;show∃vs,CT _ (sD.put (s.next+1) (some (.cells [.bool true] 4 false))) _ _=some vs∧∃cr,leave _ _ _ _ (sD.put (s.next+1) (some (.cells [.bool true] 4 false)))=some cr∧_;generalize sD.put (s.next+1) (some (.cells [.bool true] 4 false))=sE at*;refine⟨[.agg [vc,vf,vi,vs],.bool true],Nw U U U e0 (Qj _) (Lu U U U e1 U U),?_⟩;have lE:sE.log=[]:=by
   cases h:sE.log with
   |nil=>rfl
   |cons b l=>
    rcases cE.log b (by rw[h];exact Qh ..)with h2|⟨h2,h3⟩
    ·rw[lC]at h2;cases h2
    ·omega
  have bE:sE.bound=s.next:=cE.bound.trans bC;obtain⟨b1,m1,z1⟩:=Ii (j:=37) (m:=s.next) (kh.cons.CW (Nat.le_of_eq nE) fun b hb=>kE b (kh.dc b hb).1) (fun b hb=>by have:=(kh.dc b hb).1;omega) (UO _) (JS _);obtain⟨b2,m2,z2⟩:=Ii (j:=37) (m:=s.next) (kh.Co.CW (Nat.le_of_eq nE) fun b hb=>kE b (kh.df b hb).1) (fun b hb=>by have:=(kh.df b hb).1;omega) (UO _) (JS _);obtain⟨b3,m3,z3⟩:=Ii (j:=37) (m:=s.next) (kh.ins.CW (Nat.le_of_eq nE) fun b hb=>kE b (kh.di b hb).1) (fun b hb=>by have:=(kh.di b hb).1;omega) (frz_is _) (NV _);obtain⟨b4,m4,z4⟩:=Ii (j:=37) (m:=s.next) (kh.Cj.CW (Nat.le_of_eq nE) fun b hb=>kE b (kh.ds b hb)) (fun b hb=>by have:=kh.ds b hb;omega) (UM _) (J0 _);refine⟨.same (.tuple [.agg (XQ c),.bool true]),NP U lE (ks:=b4++(b3++(b2++(b1++[])))) ?_ ?_ ?_,.inl ⟨c,hA,rfl⟩,rfl⟩
  ·have h1:CH.many (CH sE s.next 38) [vc,vf,vi,vs] []=some (XQ c,b4++(b3++(b2++(b1++[])))):=by
    simp only[CH.many,z1,z2,z3,z4,Qe];rfl
   have h2:CH sE s.next 39 (.agg [vc,vf,vi,vs]) []=some (.agg (XQ c),b4++(b3++(b2++(b1++[])))):=by
    show((CH.many (CH sE s.next 38) [vc,vf,vi,vs] []).bind _)=_;rw[h1];rfl
   show((((CH sE s.next 39 (.agg [vc,vf,vi,vs]) []).bind _)).bind _)=_;rw[h2];rfl
  ·intro b hb;rw[bE];simp only[List.mem_append,List.not_mem_nil,or_false]at hb;rcases hb with h|h|h|h
   ·exact m4 b h
   ·exact m3 b h
   ·exact m2 b h
   ·exact m1 b h
  ·unfold XQ;rcases Bw Cy 2 c.cons with e1|⟨_,_,e1⟩<;>rcases Bw Cy 2 c.Co with e2|⟨_,_,e2⟩<;>rcases Bw Z0 7 c.ins with e3|⟨_,_,e3⟩<;>rcases Bw CY 1 c.Cj with e4|⟨_,_,e4⟩<;>rw[e1,e2,e3,e4]<;>rfl
 ·refine⟨some bad,96,_,_,Tryz.f96,_,rfl,rfl,by kernel_rfl,rfl,rfl,?_⟩;refine GK U U U U U U U rfl<|Ch.block<|Es<|Lq (EF (neg:=false) U oI U U U) rfl<|Ld<|Af U rfl<|Es<|Lq (A9 U QS oL U U) U ?_;iterate 2 refine Lq (oe U) U ?_
  refine Ld<|Ah U rfl<|Es<|Lo (Ws.alloc U oL) U ?_;have hn4:=c4.next;have gF:(s4.alloc (.cells [] 181 false)).heap.get s4.next=some (.cells [] 181 false):=BZ;have gF0:(s4.alloc (.cells [] 181 false)).heap.get s.next=some (.cells [.Ca,.Ca,.Ca,.Ca] 28 false):=(AT (by omega)).trans ((c4.heap _ (by omega) (by omega)).trans g0);have gF1:(s4.alloc (.cells [] 181 false)).heap.get (s.next+1)=some (.cells [.bool false] 4 false):=(AT (by omega)).trans ((c4.heap _ (by omega) (by omega)).trans g1);have cF:CL sC (s4.alloc (.cells [] 181 false)) (fun c=>s.next≤c):=(B0 c4 (fun c h=>(by omega:s.next≤c))).trans CL.alloc (own:=fun c=>s.next≤c) (fun _ h=>h) (fun c h=> .inl h) (by omega);show VE _ _ _ _ _ _ (s4.alloc (.cells [] 181 false)) _;generalize s4.alloc (.cells [] 181 false)=sF at*;refine Ax (Ws.store U Tb U U (AB ‹_› U U U)) U rfl<|Ld<|Ai<|Lq (Bj U sX U U) U ?_
  have gG0:(sF.put s4.next (some (.cells [] 181 false))).heap.get s.next=some (.cells [.Ca,.Ca,.Ca,.Ca] 28 false):=(AL.trans (if_neg (by omega))).trans gF0;have gG1:(sF.put s4.next (some (.cells [] 181 false))).heap.get (s.next+1)=some (.cells [.bool false] 4 false):=(AL.trans (if_neg (by omega))).trans gF1;have cG:CL sC (sF.put s4.next (some (.cells [] 181 false))) (fun c=>s.next≤c):=cF.trans CL.put (fun _ h=>h) (fun c h=> .inl (by omega)) (by omega);show VE _ _ _ _ _ _ (sF.put s4.next (some (.cells [] 181 false))) _;generalize sF.put s4.next (some (.cells [] 181 false))=sG at*;refine Ax (Ws.store U D5 U U (AB ‹_› U U U)) U U ?_;have gH0:(sG.put s.next (some (.cells [.Ca,.Ca,.Ca,.Ca] 28 false))).heap.get s.next=some (.cells [.Ca,.Ca,.Ca,.Ca] 28 false):=AL.trans (if_pos rfl)
  have gH1:(sG.put s.next (some (.cells [.Ca,.Ca,.Ca,.Ca] 28 false))).heap.get (s.next+1)=some (.cells [.bool false] 4 false):=(AL.trans (if_neg (by omega))).trans gG1;have cH:CL sC (sG.put s.next (some (.cells [.Ca,.Ca,.Ca,.Ca] 28 false))) (fun c=>s.next≤c):=cG.trans CL.put (fun _ h=>h) (fun c h=> .inl (by omega)) (by omega);show VE _ _ _ _ _ _ (sG.put s.next (some (.cells [.Ca,.Ca,.Ca,.Ca] 28 false))) _;generalize sG.put s.next (some (.cells [.Ca,.Ca,.Ca,.Ca] 28 false))=sH at*;refine Ax (Ws.store U wZ U U (AB ‹_› U U U)) U rfl<|Ld ?_;have e0:(sH.put (s.next+1) (some (.cells [.bool false] 4 false))).heap.get s.next=some (.cells [.Ca,.Ca,.Ca,.Ca] 28 false):=(AL.trans (if_neg (by omega))).trans gH0
  have e1:(sH.put (s.next+1) (some (.cells [.bool false] 4 false))).heap.get (s.next+1)=some (.cells [.bool false] 4 false):=AL.trans (if_pos rfl);have cE:CL sC (sH.put (s.next+1) (some (.cells [.bool false] 4 false))) (fun c=>s.next≤c):=cH.trans CL.put (fun _ h=>h) (fun c h=> .inl (by omega)) (by omega);refine⟨.inl U,rfl,?_⟩;show∃vs,CT _ (sH.put (s.next+1) (some (.cells [.bool false] 4 false))) _ _=some vs∧∃cr,leave _ _ _ _ (sH.put (s.next+1) (some (.cells [.bool false] 4 false)))=some cr∧_;generalize sH.put (s.next+1) (some (.cells [.bool false] 4 false))=sE at*;refine⟨[.agg [.Ca,.Ca,.Ca,.Ca],.bool false],Nw U U U e0 (Qj _) (Lu U U U e1 U U),?_⟩;have lE:sE.log=[]:=by
   cases h:sE.log with
   |nil=>rfl
   |cons b l=>
    rcases cE.log b (by rw[h];exact Qh ..)with h2|⟨h2,h3⟩
    ·rw[lC]at h2;cases h2
    ·omega
  exact⟨.same (.tuple [.agg [.Ca,.Ca,.Ca,.Ca],.bool false]),NP U lE (ks:=[]) U (fun b hb=>by cases hb) U,.inr ⟨hn,rfl⟩,rfl⟩
def uF:AV:= .agg [.Ca,.Ca,.Ca,.Ca]
noncomputable def readV (enc:Cm→List AV) (t:List UInt8):AV:=
 if 40000<t.length then .tuple [uF,.int .i64 3]else
 @dite _ (∃c,XR 0 ⟨[],[],[],[]⟩ t c) (Classical.propDecidable _) (fun h=>if CV h.choose then .tuple [.agg (enc h.choose),.int .i64 0]else .tuple [uF,.int .i64 2]) (fun _=> .tuple [uF,.int .i64 4])
structure FitN (m:Nat) (c:Cm):Prop where
 cons:c.cons.length≤m
 Co:c.Co.length≤m
 ins:c.ins.length≤m
 Cj:c.Cj.length≤m
 lists:∀x∈c.ins,x.alts.length≤4000∧x.to.length≤4000∧x.args.length≤4000
 iW:∀p∈c.cons,p.1.length≤4000
 iX:∀p∈c.Co,p.1.length≤4000
theorem frz_R {s:St} {m:Nat} {c:Cm} {v:AV} (hv:CH s m 39 v []=some (v,[])):CH s m 40 (.tuple [.agg (XQ c),v]) []=some (.tuple [.agg (XQ c),v],[]):=by
 have h1:∀ks,CH.many (CH s m 38) (XQ c) ks=some (XQ c,ks):=P8 fun v hv ks=>by
  unfold XQ at hv;simp only[Qk,List.not_mem_nil,or_false]at hv;rcases hv with rfl|rfl|rfl|rfl<;>exact UP
 have h2:CH s m 39 (.agg (XQ c)) []=some (.agg (XQ c),[]):=by
  show((CH.many (CH s m 38) (XQ c) []).bind _)=_;rw[h1];rfl
 show((((CH s m 39 (.agg (XQ c)) []).bind _)).bind _)=_;rw[h2];show((((CH s m 39 v []).bind _).bind _).bind _)=_;rw[hv];rfl
theorem yq {m:Nat} {c:Cm} {v:AV} (hv:Cz m 39 v=true):Cz m 40 (.tuple [.agg (XQ c),v])=true:=by
 show(Cz m 39 (.agg (XQ c))&&(Cz m 39 v&&true))=true;rw[hv,Bool.and_true,Bool.and_true];unfold XQ;rcases Bw Cy 2 c.cons with e1|⟨_,_,e1⟩<;>rcases Bw Cy 2 c.Co with e2|⟨_,_,e2⟩<;>rcases Bw Z0 7 c.ins with e3|⟨_,_,e3⟩<;>rcases Bw CY 1 c.Cj with e4|⟨_,_,e4⟩<;>rw[e1,e2,e3,e4]<;>rfl
theorem yr (t:List UInt8) (c:Cm) (ht:t.length≤40000) (hA:XR 0 ⟨[],[],[],[]⟩ t c) (hf:Fits c) (hc:CV c=true):Cb (EK R9) 21 [.str t] S0 (.tuple [.agg (XQ c),.int .i64 0]):=by
 refine Aq (fn:=Tryz.f21) U U (by kernel_rfl) U U U U ?_;focus
  refine Es<|Lo (Bc 1 U pF U) rfl<|qa rfl<|Ld<|Aa<|Es<|qm rfl<|Lq (AD U U U U Wl U) rfl<|Lq (o2 Ck U U) rfl<|Ld ?_;refine Ec U (fun g1=>?_) (fun g1=>?_);have h1:=dT g1;exact absurd h1 (by omega);have h1:=dF g1;refine Ac<|Es<|qm U ?_;rotate_left
 refine A0 U U (by kernel_rfl) U U U U ((RX (by omega)).mono (fun v s' ⟨hv,hs⟩=>?_) fun _ _ h=>h.elim);subst hs;rcases hv with⟨c',hA',rfl⟩|⟨hn,rfl⟩
 ·obtain rfl:=hA.eq hA';have Jc:=Jc hf;rw[hc]at Jc;refine qm U ?_;iterate 2 refine Lq (oe U) U ?_
  refine Lo (Bc 2 U pF U) rfl<|Ax (AK U D5 U U U U U U) U rfl<|qa rfl<|Ld<|Aa<|Es<|qm rfl<|Lq (on U) rfl<|Ld<|Af U rfl<|Ac<|Aa<|Es<|Lo (AA U Em D5 U U (Qc U)) U ?_;refine Lo (Ad U U (by kernel_rfl) U (Cb.Cs (Jc))) rfl<|Lq (o2 RA U U) rfl<|Ld<|Af U rfl<|Ac<|Es<|Lo (AA U Em D5 U U (Qc U)) rfl<|Ax (AK U D5 U U U U U U) U rfl<|qa rfl<|Ld ?_;exact Ab ⟨.inl U,rfl,rfl,rfl,[.agg (XQ c),.int .i64 0],.tuple [.agg (XQ c),.int .i64 0],[],T3 (k:=4) (cs:=XQ c) U U U U (Qj 4) (An U U),frz_R U,yq U,rfl⟩
 ·exact absurd ⟨c,hA⟩ hn
abbrev gn:dG:=fun _=>none
theorem Dq:∀g cs,gn g=some cs→cs.all (Cr 40)=true:=fun _ _ h=>by cases h
theorem rall9 (h:VG Tryz.prog 10 [] (.bool true)):C9 Tryz.prog gn R9:=by
 have a0:=rall0 h;have a1:C9 Tryz.prog gn R1:=E4 AC Dq a0 (fun p:List UInt8×UInt8=>M1 p.1 p.2) (fun _=>rfl) (fun _=>rfl);have a1s:C9 Tryz.prog gn R1s:=E4 AC Dq a1 (fun p:List UInt8×UInt8=>Tl p.1 p.2) (fun _=>rfl) (fun _=>rfl);have a2:C9 Tryz.prog gn R2:=E4 AC Dq a1s (fun p:nR×UInt8=>cut_to p.1.1 p.2 p.1.2) (fun _=>rfl) (fun p=>by unfold jd;split<;>rfl);have a3:C9 Tryz.prog gn R3:=E4 AC Dq a2 (fun p:gq=>P7 p.1.1 p.2 p.1.2) (fun _=>rfl) (fun _=>rfl);have a4:C9 Tryz.prog gn R4:=E4 AC Dq a3 (fun p:gq=>ux p.1.1 p.2 p.1.2) (fun _=>rfl) (fun _=>rfl);have a5a:C9 Tryz.prog gn R5a:=E4 AC Dq a4 (fun _:Unit=>yc) (fun _=>rfl) (fun _=>rfl);have a5:C9 Tryz.prog gn R5:=Bo a5a fun w:nR=>Ie AC Dq a4 (yd w.1 w.2) rfl rfl;have a6:C9 Tryz.prog gn R6:=E4 AC Dq a5 (fun w:j3=>JQ w.1 w.2.1 w.2.2) (fun _=>rfl) (fun _=>rfl)
 have a7:C9 Tryz.prog gn R7:=Bo a6 fun _=>eC.g;have a8:C9 Tryz.prog gn R8:=Bo a7 fun w=>by
  by_cases h:w∈XI
  ·exact(RY h).g
  ·exact Ie AC Dq a7 (yg w h) U U
 exact E4 AC Dq a8 Ux (fun _=>rfl) (fun _=>rfl)
theorem OS (c:Cm):Cr 40 (.tuple [.agg (XQ c),.int .i64 0])=true:=by
 show((XQ c).all (Cr 38)&&(true&&true))=true;unfold XQ;rcases Bw Cy 2 c.cons with e1|⟨_,_,e1⟩<;>rcases Bw Cy 2 c.Co with e2|⟨_,_,e2⟩<;>rcases Bw Z0 7 c.ins with e3|⟨_,_,e3⟩<;>rcases Bw CY 1 c.Cj with e4|⟨_,_,e4⟩<;>rw[e1,e2,e3,e4]<;>rfl
theorem RT (h:VG Tryz.prog 10 [] (.bool true)) {t:List UInt8} {c:Cm} (ht:t.length≤40000) (hA:XR 0 ⟨[],[],[],[]⟩ t c) (hf:Fits c) (hc:CV c=true) {gl:dG}:bH Tryz.prog gl 21 [.str t] (.tuple [.agg (XQ c),.int .i64 0]):=
 have h2:=Ie AC Dq (rall9 h) (yr t c ht hA hf hc) rfl (OS c)
 fun C S w xs c cs _ hv hS=>h2 C S w xs c cs (fun _ _ h=>by cases h) hv hS
end Go.Proofs.YtpihdbhocgcbpaaGreatDoor.Rd
