/- Printing, part 3. -/
import Derived.Test.YtfhimfcbphepeaaGreatDoorCdA
import Derived.Test.YtfhimfcbphepeaaGreatDoorCdB
set_option linter.unusedSectionVars false
set_option linter.unusedVariables false
set_option linter.unusedSimpArgs false
open Go Am
namespace Go.Proofs.YtfhimfcbphepeaaGreatDoor.Ty
noncomputable def KF1:=CX KC7 189 (fun p:SgT=>[CH p.1.1.1 p.1.1.2,.agg (Cf p.1.2)]) (fun p=> .bool (CQ p.1.1.1 p.1.1.2 p.1.2))
theorem SZ {cs fs:List Ci} {t:Cc} (hc:cs.length<=4000) (hf:fs.length<=4000) (hs:YN t):KF1 189 [CH cs fs,.agg (Cf t)]=some (.bool (CQ cs fs t)):=
 Aj (f:=189) (enc:=fun p:SgT=>[CH p.1.1.1 p.1.1.2,.agg (Cf p.1.2)]) (res:=fun p=> .bool (CQ p.1.1.1 p.1.1.2 p.1.2)) (by
  rintro⟨⟨⟨a,b⟩,c⟩,_⟩ ⟨⟨⟨a',b'⟩,c'⟩,_⟩ h;simp only[List.cons.injEq,and_true]at h;obtain⟨rfl,rfl⟩:=Dr h.1;obtain rfl:=AO _ _ (AV.agg.inj h.2);rfl) ⟨((cs,fs),t),hc,hf,hs⟩
theorem allF1 (h:CM Tryz.prog 8 [] (.bool true)):Co Tryz.prog gn KF1:=
 Al Aw Ag (tall7 h) (fun p:SgT=>Xq p.1.1.1 p.1.1.2 p.1.2 p.2.1 p.2.2.1 p.2.2.2) Ol (fun _=>rfl)
theorem Vu (cs fs:List Ci) (t:Cc) (hc:cs.length<=4000) (hf:fs.length<=4000) (hs:YN t) (gM:∀p∈cs,p.1.length<=4000) (kP:∀p∈fs,p.1.length<=4000) (kG:al cs fs=true):Cj (EK KF1) 56 [CH cs fs,.agg (Cf t)] S0 (.int .i64 (if CQ cs fs t then 0 else 2)):=by
 have e0:=Ak t;have dz:KF1 115 [.agg [Cp Cq 2 cs,Cp Cq 2 fs]]=some (.int .i64 0):=by
  have:=Pq gM kP;rw[kG]at this;exact this
 have aT:=SZ hc hf hs;rw[e0]at aT|-;unfold CH at aT|-;refine As U ?_;focus
  refine Eh U<|Sq<|Es<|Ls 2 U<|Lo (AL 3 U u_45 Ic z_47 U U U U) U<|AR (fn:=Tryz.f119) U U U U U U U U U U U U U<|Eh U<|Es<|Ls 1 U<|Lo (kc U (dz)) U<|Lv 4 U<|Ge U U U U U<|AR (fn:=Tryz.f187) U U U U U U U U U U U U U<|Ew U<|Sq<|Ew U<|Sb<|A3<|Ew U<|Sq<|Tt U<|Sk<|Sq<|Sb<|Es<|Lq (kM (k:=0) U (by omega)) U<|Lx U<|Es<|Ls 2 U<|F5 (fn:=Tryz.f188) U U U U U U U U U U U U U U U<|Eh U<|Es<|Ls 2 U<|Lo (kc U (aT)) U<|Lw U<|Se (AC (Zx.same U (Aa U U) U U U U ?_));refine Lw U<|Cn U (fun h1=>?_) (fun h1=>?_);refine Ew U<|Se (AC (Zx.same U (Aa U U) U U U U ?_));refine Lw U<|Se (AC (Zx.same U (Aa U U) U U U U ?_));refine Lw U<|Tt U<|Ew U<|Se (Er U ?_);rotate_left;refine Sk<|Sr<|Lq (ka (a:=0) (b:=1) U (by omega)) U<|Lw U<|A3<|Ew U<|Sq<|Tf U<|Sx<|Ax U<|Ew U<|Se (AC (Zx.same U (Aa U U) U U U U ?_));refine Lw U<|Se (AC (Zx.same U (Aa U U) U U U U ?_));refine Lw U<|Tf U<|Sk<|Ew U<|Se (Er U ?_);rotate_left
 .rw[h1];rfl
 .rw[h1];rfl
abbrev CkT:= {p:(List Ci×List Ci)×Cc//p.1.1.length<=4000/\p.1.2.length<=4000/\YN p.2/\(∀q∈p.1.1,q.1.length<=4000)/\(∀q∈p.1.2,q.1.length<=4000)/\al p.1.1 p.1.2=true}
noncomputable def KF2:=CX KF1 56 (fun p:CkT=>[CH p.1.1.1 p.1.1.2,.agg (Cf p.1.2)]) (fun p=> .int .i64 (if CQ p.1.1.1 p.1.1.2 p.1.2 then 0 else 2))
theorem hq_56 {cs fs:List Ci} {t:Cc} (hc:cs.length<=4000) (hf:fs.length<=4000) (hs:YN t) (gM:∀p∈cs,p.1.length<=4000) (kP:∀p∈fs,p.1.length<=4000) (kG:al cs fs=true):KF2 56 [CH cs fs,.agg (Cf t)]=some (.int .i64 (if CQ cs fs t then 0 else 2)):=
 Aj (f:=56) (enc:=fun p:CkT=>[CH p.1.1.1 p.1.1.2,.agg (Cf p.1.2)]) (res:=fun p=> .int .i64 (if CQ p.1.1.1 p.1.1.2 p.1.2 then 0 else 2)) (by
  rintro⟨⟨⟨a,b⟩,c⟩,_⟩ ⟨⟨⟨a',b'⟩,c'⟩,_⟩ h;simp only[List.cons.injEq,and_true]at h;obtain⟨rfl,rfl⟩:=Dr h.1;obtain rfl:=AO _ _ (AV.agg.inj h.2);rfl) ⟨((cs,fs),t),hc,hf,hs,gM,kP,kG⟩
theorem allF2 (h:CM Tryz.prog 8 [] (.bool true)):Co Tryz.prog gn KF2:=
 Al Aw Ag (allF1 h) (fun p:CkT=>Vu p.1.1.1 p.1.1.2 p.1.2 p.2.1 p.2.2.1 p.2.2.2.1 p.2.2.2.2.1 p.2.2.2.2.2.1 p.2.2.2.2.2.2) (fun p=>by
  show(Cm 40 (CH _ _)&&(Cm 40 (.agg (Cf _))&&true))=true;rw[AU];rfl) (fun _=>rfl)
def jO (n:Nat):Nat:=if n=0 then 0 else Nat.log2 n+1
def xn:List UInt8:=(List.range 256).map fun n=>UInt8.ofNat (jO n)
theorem Fs {n:Nat} (h:n<256):jO n<=8:=by
 unfold jO;split
 .omega
 .next h0=>
  have:=(Nat.log2_lt h0 (k:=8)).2 h;omega
theorem len8 {K:FuncId->List AV->Option AV} {l:Sl} {o:Oper} {x i:Operand} {k:IntKind} {n:Nat} (ho:o.op= .index 9 x i) (hx:Cg x l=some (.J xn)) (hi:Cg i l=some (.int k (n:Nat))) (hn:n<256):Zm (EK K) o l (.int .u8 ((jO n:Nat):Int)):=by
 have h1:n<xn.length:=by unfold xn;rw[Qn,List.length_range];exact hn
 have h2:xn[n]?=some (UInt8.ofNat (jO n)):=by unfold xn;rw[List.getElem?_map,List.getElem?_range hn];rfl
 have:=Bf (E:=EK K) ho Zr hx hi h1;have e:(xn.getD n 0).toNat=jO n:=by
  rw[List.getD_eq_getElem?_getD,h2];show(UInt8.ofNat (jO n)).toNat=_;have:=Fs hn;exact UInt8.toNat_ofNat_of_lt (show jO n<256 by omega)
 rwa[e]at this
def fL (m:Nat):Nat:=if 65536<=m then(if 256<=m/2^16 then 24+jO (m/2^16/2^8)else 16+jO (m/2^16))else if 256<=m then 8+jO (m/2^8)else jO m
theorem len64_to (m:Nat) (hm:m<4294967296):Cj (EK KF2) 299 [.int .u64 (m:Nat)] S0 (.int .i64 (fL m:Nat)):=by
 refine As U ?_;focus
  refine Ew U<|Sq<|Ew U<|Cd U (fun h1=>?_) (fun h1=>?_);omega;refine Sk<|Sq<|Ew U<|Cd U (fun h2=>?_) (fun h2=>?_);refine Es<|qm U<|Lq (Jm (b:=16) U GU U U (by decide)) U<|Lw U<|Sr<|qm U<|Lq (ka (a:=0) (b:=16) U (by omega)) U<|Lw U<|Sq<|Ew U<|Cd U (fun h3=>?_) (fun h3=>?_);refine Es<|qm U<|Lq (Jm (b:=8) U GU U U (by decide)) U<|Lw U<|Sr<|qm U<|Lq (ka (a:=16) (b:=8) U (by omega)) U<|Lw U<|Es<|Lv 2 U<|Lq (B5 U GU ua U (by omega)) U ?_;rotate_left;refine Sk<|Es<|Lv 2 U<|Lq (B5 U GU ua U (by omega)) U ?_;rotate_left;refine Sk<|Sq<|Ew U<|Cd U (fun h4=>?_) (fun h4=>?_);refine Es<|qm U<|Lq (Jm (b:=8) U GU U U (by decide)) U<|Lw U<|Sr<|qm U<|Lq (ka (a:=0) (b:=8) U (by omega)) U<|Lw U<|Es<|Lv 2 U<|Lq (B5 U GU ua U (by omega)) U ?_;rotate_left
  refine Sk<|Es<|Lv 2 U<|Lq (B5 U GU ua U (by omega)) U ?_;rotate_left
 .have hb:=Fs (n:=m/2^16/2^8) (by omega);refine Lq (len8 U (by kernel_rfl) U (by omega)) U<|Lq (HW U ua aP U ⟨by omega,by omega⟩) U<|Lq (ka (a:=24) U (by omega)) U<|Lw U<|Se (Er U ?_);unfold fL;rw[if_pos (by omega),if_pos (by omega)];try rfl
 .have hb:=Fs (n:=m/2^16) (by omega);refine Lq (len8 U (by kernel_rfl) U (by omega)) U<|Lq (HW U ua aP U ⟨by omega,by omega⟩) U<|Lq (ka (a:=16) U (by omega)) U<|Lw U<|Se (Er U ?_);unfold fL;rw[if_pos (by omega),if_neg (by omega)];try rfl
 .have hb:=Fs (n:=m/2^8) (by omega);refine Lq (len8 U (by kernel_rfl) U (by omega)) U<|Lq (HW U ua aP U ⟨by omega,by omega⟩) U<|Lq (ka (a:=8) U (by omega)) U<|Lw U<|Se (Er U ?_);unfold fL;rw[if_neg (by omega),if_pos (by omega)];try rfl
 .have hb:=Fs (n:=m) (by omega);refine Lq (len8 U (by kernel_rfl) U (by omega)) U<|Lq (HW U ua aP U ⟨by omega,by omega⟩) U<|Lq (ka (a:=0) U (by omega)) U<|Lw U<|Se (Er U ?_);unfold fL;rw[if_neg (by omega),if_neg (by omega)];show AV.int .i64 ((0+jO m:Nat):Int)=_;rw[Nat.zero_add]
abbrev vc:= {m:Nat//m<4294967296}
noncomputable def KL1:=CX KF2 299 (fun p:vc=>[.int .u64 (p.1:Nat)]) (fun p=> .int .i64 (fL p.1:Nat))
theorem Vo {k:IntKind} {p q:vc} (h:([.int k (p.1:Nat)]:List AV)=[.int k (q.1:Nat)]):p=q:=by
 have:=(AV.int.inj (List.cons.inj h).1).2;exact Subtype.ext (by omega)
theorem hit_299 {m:Nat} (h:m<4294967296):KL1 299 [.int .u64 (m:Nat)]=some (.int .i64 (fL m:Nat)):=
 Aj (enc:=fun p:vc=>[.int .u64 (p.1:Nat)]) (fun p q h=>by rw[Vo h]) ⟨m,h⟩
theorem gall1 (h:CM Tryz.prog 8 [] (.bool true)):Co Tryz.prog gn KL1:=
 Al Aw Ag (allF2 h) (fun p:vc=>len64_to p.1 p.2) (fun _=>rfl) (fun _=>rfl)
theorem lenV_le {m:Nat} (h:m<4294967296):fL m<=32:=by
 unfold fL;split
 .split
  .have:=Fs (n:=m/2^16/2^8) (by omega);omega
  .have:=Fs (n:=m/2^16) (by omega);omega
 .split
  .have:=Fs (n:=m/2^8) (by omega);omega
  .have:=Fs (n:=m) (by omega);omega
theorem idx10 {K:FuncId->List AV->Option AV} {l:Sl} {o:Oper} {i:Operand} {t:Nat} (ho:o.op= .indexAddr 345 (.global 1) i) (hi:Cg i l=some (.int .i64 (t:Nat))) (ht:t<20):Zm (EK K) o l (.Zu (.int .u64 ((10^t:Nat):Int)::ry.drop (t+1))):=by
 have:=L0 (E:=EK K) ho u_345 sz_325 rfl hi ht (by show t*(0+1)<=20;omega);have e:ry.drop (t*(0+1))= .int .u64 ((10^t:Nat):Int)::ry.drop (t+1):=by
  rw[Nat.zero_add,Nat.mul_one];clear this hi
  match t with
  |0|1|2|3|4|5|6|7|8|9|10|11|12|13|14|15|16|17|18|19=>rfl
  |t+20=>omega
 rwa[e]at this
def jP (m:Nat):Nat:=if 10^(fL m*78913/2^18)<=m then fL m*78913/2^18+1 else fL m*78913/2^18
theorem num_to (m:Nat) (hm:m<4294967296):Cj (EK KL1) 313 [.int .u64 (m:Nat)] S0 (.int .i64 (jP m:Nat)):=by
 refine As U ?_;have hl:=lenV_le hm;refine Ew U<|Es<|qm U<|Lo (kc U (hit_299 (by omega))) U<|AR (fn:=Tryz.f318) U U U U U U U U U U U U U<|Ew U<|Es<|qm U<|Lq (NT (b:=78913) U aP U U (by omega)) U<|Lq (Jm (b:=18) U aP U U (by decide)) U<|Lw U<|Se (AC (Zx.same U (Aa U U) U U U U ?_));refine Lw U<|Es<|Lv 3 U<|Lq (idx10 U U (by omega)) U ?_;focus
  refine Lv 2 U<|AR (fn:=Tryz.f319) U U U U U U U U U U U U U<|Ew U<|Sq<|Ew U<|Cd U (fun h1=>?_) (fun h1=>?_);refine Ew U<|Se (AC (Zx.same U (Aa U U) U U U U ?_));refine Lq (ka (b:=1) U (by omega)) U<|Lw U<|Se (Er U ?_);rotate_left;refine Sk<|Ew U<|Se (AC (Zx.same U (Aa U U) U U U U ?_));refine Lq (ka (b:=0) U (by omega)) U<|Lw U<|Se (Er U ?_);rotate_left
 .unfold jP;rw[if_pos (Int.ofNat_le.1 h1)];try rfl
 .unfold jP;rw[if_neg (fun h=>h1 (Int.ofNat_le.2 h))];try rfl
theorem Jb {n:Nat} (h0:0<n):0<jO n/\2^(jO n-1)<=n/\n<2^jO n:=by
 unfold jO;rw[if_neg (by omega)];exact⟨Nat.succ_pos _,Nat.log2_self_le (by omega),Nat.lt_log2_self⟩
theorem J4 {m k b:Nat} (hb:0<b) (h1:2^(b-1)<=m/2^k) (h2:m/2^k<2^b):2^(k+b-1)<=m/\m<2^(k+b):=by
 rw[Nat.le_div_iff_mul_le (Nat.pow_pos (by decide)),<-Nat.pow_add]at h1;rw[Nat.div_lt_iff_lt_mul (Nat.pow_pos (by decide)),<-Nat.pow_add]at h2;rw[show k+b-1=b-1+k from by omega,Nat.add_comm k b];exact⟨h1,h2⟩
theorem lenV_law {m:Nat} (h0:0<m):2^(fL m-1)<=m/\m<2^fL m:=by
 unfold fL;split
 .split
  .obtain⟨h3,h4,h5⟩:=Jb (n:=m/2^16/2^8) (by omega);rw[Nat.div_div_eq_div_mul,<-Nat.pow_add]at h3 h4 h5|-;exact J4 h3 h4 h5
  .obtain⟨h3,h4,h5⟩:=Jb (n:=m/2^16) (by omega);exact J4 h3 h4 h5
 .split
  .obtain⟨h3,h4,h5⟩:=Jb (n:=m/2^8) (by omega);exact J4 h3 h4 h5
  .exact(Jb h0).2
theorem Wv {m:Nat} (h0:1<=m) (h1:m<10000000):1<=jP m/\jP m<=7/\10^(jP m-1)<=m/\m<10^jP m:=by
 obtain⟨h2,h3⟩:=lenV_law (m:=m) (by omega);have h4:fL m<25:=by
  rcases Nat.lt_or_ge (fL m) 25 with h|h
  .exact h
  .have:=Nat.pow_le_pow_right (n:=2) (by decide) (show 24<=fL m-1 by omega);omega
 have h5:1<=fL m:=by
  rcases Nat.lt_or_ge (fL m) 1 with h|h
  .have:=Nat.pow_le_pow_right (n:=2) (by decide) (show fL m<=0 by omega);omega
  .exact h
 unfold jP;generalize fL m=L at*;have:L=1\/L=2\/L=3\/L=4\/L=5\/L=6\/L=7\/L=8\/L=9\/L=10\/L=11\/L=12\/L=13\/L=14\/L=15\/L=16\/L=17\/L=18\/L=19\/L=20\/L=21\/L=22\/L=23\/L=24:=by omega
 rcases this with rfl|rfl|rfl|rfl|rfl|rfl|rfl|rfl|rfl|rfl|rfl|rfl|rfl|rfl|rfl|rfl|rfl|rfl|rfl|rfl|rfl|rfl|rfl|rfl<;>
  (simp only[Nat.reduceMul,Nat.reducePow,Nat.reduceDiv,Nat.reduceAdd,Nat.reduceSub]at*;split<;>simp only[Nat.reduceAdd,Nat.reduceSub,Nat.reducePow]<;>omega)
def jQ (n:Nat):List UInt8:=if n<10 then [UInt8.ofNat (48+n)]else [UInt8.ofNat (48+n/10),UInt8.ofNat (48+n % 10)]
theorem V8:((List.range 100).all fun n=>ZL (bJ Tryz.prog 1200 1200 0 []) 100 ⟨312,[.int .i64 (n:Nat)],.J (jQ n)⟩)=true:=by kernel_rfl
theorem QM {n:Nat} (h:n<100):CM Tryz.prog 312 [.int .i64 (n:Nat)] (.J (jQ n)):=by
 have h1:=List.all_eq_true.1 V8 n (List.mem_range.2 h);have h2:=Bw Bm (m:=[]) (fun e he=>by cases he) h1;exact fun C S w xs c cs hv hS=>h2 [] C S w xs c cs (fun g cs hg=>by cases hg) hv hS
noncomputable def KL2:=CX KL1 313 (fun p:vc=>[.int .u64 (p.1:Nat)]) (fun p=> .int .i64 (jP p.1:Nat))
theorem hit_313 {m:Nat} (h:m<4294967296):KL2 313 [.int .u64 (m:Nat)]=some (.int .i64 (jP m:Nat)):=
 Aj (enc:=fun p:vc=>[.int .u64 (p.1:Nat)]) (fun p q h=>by rw[Vo h]) ⟨m,h⟩
theorem gall2 (h:CM Tryz.prog 8 [] (.bool true)):Co Tryz.prog gn KL2:=
 Al Aw Ag (gall1 h) (fun p:vc=>num_to p.1 p.2) (fun _=>rfl) (fun _=>rfl)
abbrev CentT:= {m:Nat//m<100}
noncomputable def KL3:=CX KL2 312 (fun p:CentT=>[.int .i64 (p.1:Nat)]) (fun p=> .J (jQ p.1))
theorem cent_inj {k:IntKind} {p q:CentT} (h:([.int k (p.1:Nat)]:List AV)=[.int k (q.1:Nat)]):p=q:=by
 have:=(AV.int.inj (List.cons.inj h).1).2;exact Subtype.ext (by omega)
theorem hit_312 {m:Nat} (h:m<100):KL3 312 [.int .i64 (m:Nat)]=some (.J (jQ m)):=
 Aj (enc:=fun p:CentT=>[.int .i64 (p.1:Nat)]) (fun p q h=>by rw[cent_inj h]) ⟨m,h⟩
theorem gall3 (h:CM Tryz.prog 8 [] (.bool true)):Co Tryz.prog gn KL3:=
 AE (gall2 h) fun p=>(QM p.2).g
def jo (m:Nat):Nat->List UInt8
 |0=>[]
 |d+1=>jo (m/10) d++[UInt8.ofNat (48+m % 10)]
def eu (n:Int):List UInt8:=if 0<=n/\n<100 then jQ n.toNat else if n<0 then 45::jo n.natAbs (jP n.natAbs)else jo n.natAbs (jP n.natAbs)
theorem neg_u64 {n:Int} (h:n<0) (h2: -10000000<n):dO .u64 (0-IntKind.u64.wrap n)= .int .u64 ((n.natAbs:Nat):Int):=by
 have e:IntKind.u64.wrap n=n+18446744073709551616:=by simp[IntKind.wrap,IntKind.bits,IntKind.signed];omega
 unfold dO;rw[e];have:IntKind.u64.wrap (0-(n+18446744073709551616))= -n:=by simp[IntKind.wrap,IntKind.bits,IntKind.signed];omega
 rw[this,show((n.natAbs:Nat):Int)= -n from by omega]
def qh (n:Nat):Nat:=if n % 2=0 then 48+n/20 else 48+n/2 % 10
def xp:List UInt8:=(List.range 200).map fun n=>UInt8.ofNat (qh n)
theorem Jg {K:FuncId->List AV->Option AV} {l:Sl} {o:Oper} {x i:Operand} {k:IntKind} {n:Nat} (ho:o.op= .index 9 x i) (hx:Cg x l=some (.J xp)) (hi:Cg i l=some (.int k (n:Nat))) (hn:n<200):Zm (EK K) o l (.int .u8 ((qh n:Nat):Int)):=by
 have h1:n<xp.length:=by unfold xp;rw[Qn,List.length_range];exact hn
 have h2:xp[n]?=some (UInt8.ofNat (qh n)):=by unfold xp;rw[List.getElem?_map,List.getElem?_range hn];rfl
 have:=Bf (E:=EK K) ho Zr hx hi h1;have e:(xp.getD n 0).toNat=qh n:=by
  rw[List.getD_eq_getElem?_getD,h2];show(UInt8.ofNat (qh n)).toNat=_;exact UInt8.toNat_ofNat_of_lt (show qh n<256 by unfold qh;split<;>omega)
 rwa[e]at this
theorem Fz {α:Type} {a b:α} {l m:List α} (h1:a=b) (h2:l=m):a::l=b::m:=by rw[h1,h2]
theorem Vh (r:Nat):qh (r*2)=48+r/10:=by
 unfold qh;rw[if_pos (by omega)];omega
theorem Vg (r:Nat):qh (r*2+1)=48+r % 10:=by
 unfold qh;rw[if_neg (by omega)];omega
theorem fmt_to (n:Int) (h0: -10000000<n/\n<10000000):Cj (EK KL3) 301 [.int .i64 n,.int .i64 10] S0 (.J (eu n)):=by
 refine As U ?_;by_cases hs:0<=n/\n<100
 .obtain⟨m,rfl⟩:∃m:Nat,n=m:=⟨n.toNat,by omega⟩
  have hm:m<100:=by omega
  focus
   refine Ew U<|Sq<|Ew U<|Tt U<|Sq<|Ew U<|Cd U (fun h1=>?_) (fun h1=>?_);refine Es<|qm U<|Lo (kc U (hit_312 (by omega))) U<|Lw U<|Se (Er U ?_);rotate_left;omega
  unfold eu;rw[if_pos hs];rfl
 .obtain⟨m,hm⟩:∃m:Nat,n.natAbs=m:=⟨_,rfl⟩
  have hv:eu n=if n<0 then 45::jo m (jP m)else jo m (jP m):=by unfold eu;rw[if_neg hs,hm]
  have h1:100<=m\/n<0:=by omega
  have mG:n<0->dO .u64 (0-IntKind.u64.wrap n)= .int .u64 ((m:Nat):Int):=fun h=>by rw[neg_u64 h h0.1,hm]
  refine Ew U<|Sq<|Ew U<|Tt U<|Sq<|CA.cut [(17,.bool false),(0,.int .i64 n)] (Y9 0 0 [] []) ?_ ?_
  .focus
    refine Sr<|Lv 3 U<|Bd U (fun h1=>?_) (fun h1=>?_);refine Lw U ?_;rotate_left;refine Lw U ?_;rotate_left
   .refine⟨U,U,U,?_⟩;rw[show decide (n<100)=false from decide_eq_false (by omega)]
    (refine Am.Ac ?_;repeat (first|exact trivial|refine⟨rfl,?_⟩))
   .refine⟨U,U,U,?_⟩
    (refine Am.Ac ?_;repeat (first|exact trivial|refine⟨rfl,?_⟩))
  refine Tf U<|Sk<|Eh U<|Es<|qm U<|Lq (F7 U u_2 GU U) U<|Lw U<|CA.cut [(6,.int .u64 (m:Nat)),(5,.Z 0 0),(0,.int .i64 n)] (Y9 1 0 [] [(0,some (.J (List.replicate 24 (.int .u8 0)) 337 false))]) ?_ ?_
  .focus
    refine Ew U<|Cd U (fun h1=>?_) (fun h1=>?_);refine Sr<|qm U ?_;rotate_left;refine Sk ?_;rotate_left
   .have hh:=mG h1;refine Lq (Zm.negE U U hh) U<|Lw U ?_;refine⟨U,U,U,?_⟩
    (refine Am.Ac ?_;repeat (first|exact trivial|refine⟨rfl,?_⟩))
   .refine⟨U,U,U,?_⟩;rw[show n=((m:Nat):Int)from by omega,Vk (k:= .u64) rfl (by omega) (by omega)]
    (refine Am.Ac ?_;repeat (first|exact trivial|refine⟨rfl,?_⟩))
  have hm7:m<10000000:=by omega
  obtain⟨qG,vQ,hv3,hv4⟩:=Wv (m:=m) (by omega) hm7;refine Es<|qm U<|Lo (kc U (hit_313 (by omega))) U<|Lw U<|Es<|qm U<|Lq (ka (a:=1) U (by omega)) U ?_;generalize jP m=d at*;have hd:d=1\/d=2\/d=3\/d=4\/d=5\/d=6\/d=7:=by omega
  rcases hd with rfl|rfl|rfl|rfl|rfl|rfl|rfl
  .refine Lq (AH U Fg DF U U U U) U<|qm U<|AR (fn:=Tryz.f314) (by kernel_rfl) (by kernel_rfl) U U U U U U U U U U U<|Ew U<|Sq<|Sb<|Ai (fun _:Unit=>([(4,.int .i64 (1:Nat)),(1,.int .u64 (m:Nat)),(0,.slice 0 1 1 1 (some 23))],Y9 1 1 [] [(0,some (.J (List.replicate 24 (.int .u8 0)) 337 false))])) (fun _=>0) (fun _=>True) () trivial U (Ac (by repeat' constructor)) ?_;intro _ _;focus
    refine Sq<|Ew U<|Tf U<|Sx<|Ax U<|Es<|qm U<|Lq (Ej U GU AM U U (by omega)) U<|Lw U<|Sq<|Ew U<|Tf U<|Sk<|Sq<|Ew U<|Tf U<|Sk<|Ew U<|Tt U<|Sr<|Lv 2 U<|Lq (By (a:=48) U AM U U U (by omega)) U<|Lq (B5 U AM ua U (by omega)) U<|Lq (kM (k:=0) U (by omega)) U<|Lx U<|lS.nm (Em (Zx.val U U U U ?_));refine Ld<|Sq<|Ew U<|Cd U (fun h1=>?_) (fun h1=>?_);refine Es<|Lq (kX (m:=0) U (by omega) U) U<|Lx U<|Es<|qm U<|Lq (ka (a:=1) (b:=1) U (by omega)) U<|Lq (AH U Fg DF U U U U) U<|Lo (Ba U D8 Zr Po U U) U<|Lw U<|Se (Er U ?_);rotate_left;omega
   .rw[hv,if_pos h1];show AV.J _=AV.J _;simp only[jo,List.nil_append,List.cons_append,Int.toNat_natCast,Vh,Vg];refine congrArg AV.J<|Fz U ?_;repeat refine Fz (congrArg UInt8.ofNat (by omega)) ?_
    all_goals rfl
  .refine Lq (AH U Fg DF U U U U) U<|qm U<|AR (fn:=Tryz.f314) (by kernel_rfl) (by kernel_rfl) U U U U U U U U U U U<|Ew U<|Sq<|Sb<|Ai (fun _:Unit=>([(4,.int .i64 (2:Nat)),(1,.int .u64 (m:Nat)),(0,.slice 0 1 2 1 (some 23))],Y9 1 1 [] [(0,some (.J (List.replicate 24 (.int .u8 0)) 337 false))])) (fun _=>0) (fun _=>True) () trivial U (Ac (by repeat' constructor)) ?_;intro _ _;focus
    refine Sq<|Ew U<|Tf U<|Sx<|Ax U<|Es<|qm U<|Lq (Ej U GU AM U U (by omega)) U<|Lw U<|Sq<|Ew U<|Tf U<|Sk<|Sq<|Ew U<|Tt U<|Es<|qm U<|Lq (Df (b:=100) U AM U U (by omega)) U<|Lq (Dh (b:=2) U AM U U U (by omega)) U<|Lw U<|Es<|qm U<|Lq (Dg (b:=100) U AM U U U (by omega)) U<|Lw U<|Af (by kernel_rfl)<|Nv 2 U<|Nq (Aq (a:=2) (b:=1) U aP U U (by omega)) U<|Nv 2 U<|Nq (Aq (a:=2) (b:=2) U aP U U (by omega)) U<|Nv 1 U<|Nq (By (b:=1) U AM U U U (by omega)) U<|Nq (Jg U (by kernel_rfl) U (by omega)) U<|Nv 1 U<|Nq (Jg U (by kernel_rfl) U (by omega)) U<|Nq (kM (k:=1) U (by omega)) U<|A2 U DF U U U U U U U (by kernel_rfl) (by kernel_rfl) (.inl U) U U<|Nq (kM (k:=0) U (by omega)) U<|A2 U DF U U U U U U U (by kernel_rfl) (by kernel_rfl) (.inl U) U U<|CF.done<|Sr<|qm U<|Lq (Aq (a:=2) (b:=2) U aP U U (by omega)) U<|Lw U<|Ew U<|Tf U<|Sk<|lS.nm (Em (Zx.val U U U U ?_));refine Ld<|Sq<|Ew U<|Cd U (fun h1=>?_) (fun h1=>?_);refine Es<|Lq (kX (m:=0) U (by omega) U) U<|Lx U<|Es<|qm U<|Lq (ka (a:=1) (b:=2) U (by omega)) U<|Lq (AH U Fg DF U U U U) U<|Lo (Ba U D8 Zr Po U U) U<|Lw U<|Se (Er U ?_);rotate_left;omega
   .rw[hv,if_pos h1];show AV.J _=AV.J _;simp only[jo,List.nil_append,List.cons_append,Int.toNat_natCast,Vh,Vg];refine congrArg AV.J<|Fz U ?_;repeat refine Fz (congrArg UInt8.ofNat (by omega)) ?_
    all_goals rfl
  .refine Lq (AH U Fg DF U U U U) U<|qm U<|AR (fn:=Tryz.f314) (by kernel_rfl) (by kernel_rfl) U U U U U U U U U U U<|Ew U<|Sq<|Sb<|Ai (fun _:Unit=>([(4,.int .i64 (3:Nat)),(1,.int .u64 (m:Nat)),(0,.slice 0 1 3 1 (some 23))],Y9 1 1 [] [(0,some (.J (List.replicate 24 (.int .u8 0)) 337 false))])) (fun _=>0) (fun _=>True) () trivial U (Ac (by repeat' constructor)) ?_;intro _ _;focus
    refine Sq<|Ew U<|Tf U<|Sx<|Ax U<|Es<|qm U<|Lq (Ej U GU AM U U (by omega)) U<|Lw U<|Sq<|Ew U<|Tf U<|Sk<|Sq<|Ew U<|Tt U<|Es<|qm U<|Lq (Df (b:=100) U AM U U (by omega)) U<|Lq (Dh (b:=2) U AM U U U (by omega)) U<|Lw U<|Es<|qm U<|Lq (Dg (b:=100) U AM U U U (by omega)) U<|Lw U<|Af (by kernel_rfl)<|Nv 2 U<|Nq (Aq (a:=3) (b:=1) U aP U U (by omega)) U<|Nv 2 U<|Nq (Aq (a:=3) (b:=2) U aP U U (by omega)) U<|Nv 1 U<|Nq (By (b:=1) U AM U U U (by omega)) U<|Nq (Jg U (by kernel_rfl) U (by omega)) U<|Nv 1 U<|Nq (Jg U (by kernel_rfl) U (by omega)) U<|Nq (kM (k:=2) U (by omega)) U<|A2 U DF U U U U U U U (by kernel_rfl) (by kernel_rfl) (.inl U) U U<|Nq (kM (k:=1) U (by omega)) U<|A2 U DF U U U U U U U (by kernel_rfl) (by kernel_rfl) (.inl U) U U<|CF.done<|Sr<|qm U<|Lq (Aq (a:=3) (b:=2) U aP U U (by omega)) U<|Lw U<|Ew U<|Tt U<|Sr<|Lv 2 U<|Lq (By (a:=48) U AM U U U (by omega)) U<|Lq (B5 U AM ua U (by omega)) U<|Lq (kM (k:=0) U (by omega)) U<|Lx U<|lS.nm (Em (Zx.val U U U U ?_));refine Ld<|Sq<|Ew U<|Cd U (fun h1=>?_) (fun h1=>?_);refine Es<|Lq (kX (m:=0) U (by omega) U) U<|Lx U<|Es<|qm U<|Lq (ka (a:=1) (b:=3) U (by omega)) U<|Lq (AH U Fg DF U U U U) U<|Lo (Ba U D8 Zr Po U U) U<|Lw U<|Se (Er U ?_);rotate_left;refine Sk<|Es<|qm U<|Lq (ka (a:=1) (b:=3) U (by omega)) U<|Lq (AH U Fg DF U U U U) U<|Lo (Ba U D8 Zr Po U U) U<|Lw U<|Se (Er U ?_);rotate_left
   .rw[hv,if_pos h1];show AV.J _=AV.J _;simp only[jo,List.nil_append,List.cons_append,Int.toNat_natCast,Vh,Vg];refine congrArg AV.J<|Fz U ?_;repeat refine Fz (congrArg UInt8.ofNat (by omega)) ?_
    all_goals rfl
   .rw[hv,if_neg h1];show AV.J _=AV.J _;simp only[jo,List.nil_append,List.cons_append,Int.toNat_natCast,Vh,Vg];refine congrArg AV.J ?_;repeat refine Fz (congrArg UInt8.ofNat (by omega)) ?_
    all_goals rfl
  .refine Lq (AH U Fg DF U U U U) U<|qm U<|AR (fn:=Tryz.f314) (by kernel_rfl) (by kernel_rfl) U U U U U U U U U U U<|Ew U<|Sq<|Sb<|Ai (fun _:Unit=>([(4,.int .i64 (4:Nat)),(1,.int .u64 (m:Nat)),(0,.slice 0 1 4 1 (some 23))],Y9 1 1 [] [(0,some (.J (List.replicate 24 (.int .u8 0)) 337 false))])) (fun _=>0) (fun _=>True) () trivial U (Ac (by repeat' constructor)) ?_;intro _ _;focus
    refine Sq<|Ew U<|Tf U<|Sx<|Ax U<|Es<|qm U<|Lq (Ej U GU AM U U (by omega)) U<|Lw U<|Sq<|Ew U<|Tt U<|Es<|qm U<|Lq (Df (b:=10000) U AM U U (by omega)) U<|Lw U<|Es<|qm U<|Lq (Dg (b:=10000) U AM U U U (by omega)) U<|Lw U<|Es<|qm U<|Lq (Dg (b:=100) U AM U U U (by omega)) U<|Lq (Dh (b:=2) U AM U U U (by omega)) U<|qm U<|Lq (Df (b:=100) U AM U U (by omega)) U<|Lq (Dh (b:=2) U AM U U U (by omega)) U<|Lw U<|Af (by kernel_rfl)<|Nv 2 U<|Nq (Aq (a:=4) (b:=1) U aP U U (by omega)) U<|Nv 2 U<|Nq (Aq (a:=4) (b:=2) U aP U U (by omega)) U<|Nv 1 U<|Nq (By (b:=1) U AM U U U (by omega)) U<|Nq (Jg U (by kernel_rfl) U (by omega)) U<|Nv 1 U<|Nq (Jg U (by kernel_rfl) U (by omega)) U<|Nq (kM (k:=3) U (by omega)) U<|A2 U DF U U U U U U U (by kernel_rfl) (by kernel_rfl) (.inl U) U U<|Nq (kM (k:=2) U (by omega)) U<|A2 U DF U U U U U U U (by kernel_rfl) (by kernel_rfl) (.inl U) U U<|CF.done<|Af (by kernel_rfl)<|Nv 2 U<|Nq (Aq (a:=4) (b:=3) U aP U U (by omega)) U<|Nv 2 U<|Nq (Aq (a:=4) (b:=4) U aP U U (by omega)) U<|Nv 1 U<|Nq (By (b:=1) U AM U U U (by omega)) U<|Nq (Jg U (by kernel_rfl) U (by omega)) U<|Nv 1 U<|Nq (Jg U (by kernel_rfl) U (by omega)) U<|Nq (kM (k:=1) U (by omega)) U<|A2 U DF U U U U U U U (by kernel_rfl) (by kernel_rfl) (.inl U) U U<|Nq (kM (k:=0) U (by omega)) U<|A2 U DF U U U U U U U (by kernel_rfl) (by kernel_rfl) (.inl U) U U<|CF.done<|Sr<|qm U<|Lq (Aq (a:=4) (b:=4) U aP U U (by omega)) U<|Lw U<|Sq<|Ew U<|Tf U<|Sk<|Ew U<|Tf U<|Sk<|lS.nm (Em (Zx.val U U U U ?_));refine Ld<|Sq<|Ew U<|Cd U (fun h1=>?_) (fun h1=>?_);refine Es<|Lq (kX (m:=0) U (by omega) U) U<|Lx U<|Es<|qm U<|Lq (ka (a:=1) (b:=4) U (by omega)) U<|Lq (AH U Fg DF U U U U) U<|Lo (Ba U D8 Zr Po U U) U<|Lw U<|Se (Er U ?_);rotate_left;refine Sk<|Es<|qm U<|Lq (ka (a:=1) (b:=4) U (by omega)) U<|Lq (AH U Fg DF U U U U) U<|Lo (Ba U D8 Zr Po U U) U<|Lw U<|Se (Er U ?_);rotate_left
   .rw[hv,if_pos h1];show AV.J _=AV.J _;simp only[jo,List.nil_append,List.cons_append,Int.toNat_natCast,Vh,Vg];refine congrArg AV.J<|Fz U ?_;repeat refine Fz (congrArg UInt8.ofNat (by omega)) ?_
    all_goals rfl
   .rw[hv,if_neg h1];show AV.J _=AV.J _;simp only[jo,List.nil_append,List.cons_append,Int.toNat_natCast,Vh,Vg];refine congrArg AV.J ?_;repeat refine Fz (congrArg UInt8.ofNat (by omega)) ?_
    all_goals rfl
  .refine Lq (AH U Fg DF U U U U) U<|qm U<|AR (fn:=Tryz.f314) (by kernel_rfl) (by kernel_rfl) U U U U U U U U U U U<|Ew U<|Sq<|Sb<|Ai (fun _:Unit=>([(4,.int .i64 (5:Nat)),(1,.int .u64 (m:Nat)),(0,.slice 0 1 5 1 (some 23))],Y9 1 1 [] [(0,some (.J (List.replicate 24 (.int .u8 0)) 337 false))])) (fun _=>0) (fun _=>True) () trivial U (Ac (by repeat' constructor)) ?_;intro _ _;focus
    refine Sq<|Ew U<|Tf U<|Sx<|Ax U<|Es<|qm U<|Lq (Ej U GU AM U U (by omega)) U<|Lw U<|Sq<|Ew U<|Tt U<|Es<|qm U<|Lq (Df (b:=10000) U AM U U (by omega)) U<|Lw U<|Es<|qm U<|Lq (Dg (b:=10000) U AM U U U (by omega)) U<|Lw U<|Es<|qm U<|Lq (Dg (b:=100) U AM U U U (by omega)) U<|Lq (Dh (b:=2) U AM U U U (by omega)) U<|qm U<|Lq (Df (b:=100) U AM U U (by omega)) U<|Lq (Dh (b:=2) U AM U U U (by omega)) U<|Lw U<|Af (by kernel_rfl)<|Nv 2 U<|Nq (Aq (a:=5) (b:=1) U aP U U (by omega)) U<|Nv 2 U<|Nq (Aq (a:=5) (b:=2) U aP U U (by omega)) U<|Nv 1 U<|Nq (By (b:=1) U AM U U U (by omega)) U<|Nq (Jg U (by kernel_rfl) U (by omega)) U<|Nv 1 U<|Nq (Jg U (by kernel_rfl) U (by omega)) U<|Nq (kM (k:=4) U (by omega)) U<|A2 U DF U U U U U U U (by kernel_rfl) (by kernel_rfl) (.inl U) U U<|Nq (kM (k:=3) U (by omega)) U<|A2 U DF U U U U U U U (by kernel_rfl) (by kernel_rfl) (.inl U) U U<|CF.done<|Af (by kernel_rfl)<|Nv 2 U<|Nq (Aq (a:=5) (b:=3) U aP U U (by omega)) U<|Nv 2 U<|Nq (Aq (a:=5) (b:=4) U aP U U (by omega)) U<|Nv 1 U<|Nq (By (b:=1) U AM U U U (by omega)) U<|Nq (Jg U (by kernel_rfl) U (by omega)) U<|Nv 1 U<|Nq (Jg U (by kernel_rfl) U (by omega)) U<|Nq (kM (k:=2) U (by omega)) U<|A2 U DF U U U U U U U (by kernel_rfl) (by kernel_rfl) (.inl U) U U<|Nq (kM (k:=1) U (by omega)) U<|A2 U DF U U U U U U U (by kernel_rfl) (by kernel_rfl) (.inl U) U U<|CF.done<|Sr<|qm U<|Lq (Aq (a:=5) (b:=4) U aP U U (by omega)) U<|Lw U<|Sq<|Ew U<|Tf U<|Sk<|Ew U<|Tt U<|Sr<|Lv 2 U<|Lq (By (a:=48) U AM U U U (by omega)) U<|Lq (B5 U AM ua U (by omega)) U<|Lq (kM (k:=0) U (by omega)) U<|Lx U<|lS.nm (Em (Zx.val U U U U ?_))
    refine Ld<|Sq<|Ew U<|Cd U (fun h1=>?_) (fun h1=>?_);refine Es<|Lq (kX (m:=0) U (by omega) U) U<|Lx U<|Es<|qm U<|Lq (ka (a:=1) (b:=5) U (by omega)) U<|Lq (AH U Fg DF U U U U) U<|Lo (Ba U D8 Zr Po U U) U<|Lw U<|Se (Er U ?_);rotate_left;refine Sk<|Es<|qm U<|Lq (ka (a:=1) (b:=5) U (by omega)) U<|Lq (AH U Fg DF U U U U) U<|Lo (Ba U D8 Zr Po U U) U<|Lw U<|Se (Er U ?_);rotate_left
   .rw[hv,if_pos h1];show AV.J _=AV.J _;simp only[jo,List.nil_append,List.cons_append,Int.toNat_natCast,Vh,Vg];refine congrArg AV.J<|Fz U ?_;repeat refine Fz (congrArg UInt8.ofNat (by omega)) ?_
    all_goals rfl
   .rw[hv,if_neg h1];show AV.J _=AV.J _;simp only[jo,List.nil_append,List.cons_append,Int.toNat_natCast,Vh,Vg];refine congrArg AV.J ?_;repeat refine Fz (congrArg UInt8.ofNat (by omega)) ?_
    all_goals rfl
  .refine Lq (AH U Fg DF U U U U) U<|qm U<|AR (fn:=Tryz.f314) (by kernel_rfl) (by kernel_rfl) U U U U U U U U U U U<|Ew U<|Sq<|Sb<|Ai (fun _:Unit=>([(4,.int .i64 (6:Nat)),(1,.int .u64 (m:Nat)),(0,.slice 0 1 6 1 (some 23))],Y9 1 1 [] [(0,some (.J (List.replicate 24 (.int .u8 0)) 337 false))])) (fun _=>0) (fun _=>True) () trivial U (Ac (by repeat' constructor)) ?_;intro _ _;focus
    refine Sq<|Ew U<|Tf U<|Sx<|Ax U<|Es<|qm U<|Lq (Ej U GU AM U U (by omega)) U<|Lw U<|Sq<|Ew U<|Tt U<|Es<|qm U<|Lq (Df (b:=10000) U AM U U (by omega)) U<|Lw U<|Es<|qm U<|Lq (Dg (b:=10000) U AM U U U (by omega)) U<|Lw U<|Es<|qm U<|Lq (Dg (b:=100) U AM U U U (by omega)) U<|Lq (Dh (b:=2) U AM U U U (by omega)) U<|qm U<|Lq (Df (b:=100) U AM U U (by omega)) U<|Lq (Dh (b:=2) U AM U U U (by omega)) U<|Lw U<|Af (by kernel_rfl)<|Nv 2 U<|Nq (Aq (a:=6) (b:=1) U aP U U (by omega)) U<|Nv 2 U<|Nq (Aq (a:=6) (b:=2) U aP U U (by omega)) U<|Nv 1 U<|Nq (By (b:=1) U AM U U U (by omega)) U<|Nq (Jg U (by kernel_rfl) U (by omega)) U<|Nv 1 U<|Nq (Jg U (by kernel_rfl) U (by omega)) U<|Nq (kM (k:=5) U (by omega)) U<|A2 U DF U U U U U U U (by kernel_rfl) (by kernel_rfl) (.inl U) U U<|Nq (kM (k:=4) U (by omega)) U<|A2 U DF U U U U U U U (by kernel_rfl) (by kernel_rfl) (.inl U) U U<|CF.done<|Af (by kernel_rfl)<|Nv 2 U<|Nq (Aq (a:=6) (b:=3) U aP U U (by omega)) U<|Nv 2 U<|Nq (Aq (a:=6) (b:=4) U aP U U (by omega)) U<|Nv 1 U<|Nq (By (b:=1) U AM U U U (by omega)) U<|Nq (Jg U (by kernel_rfl) U (by omega)) U<|Nv 1 U<|Nq (Jg U (by kernel_rfl) U (by omega)) U<|Nq (kM (k:=3) U (by omega)) U<|A2 U DF U U U U U U U (by kernel_rfl) (by kernel_rfl) (.inl U) U U<|Nq (kM (k:=2) U (by omega)) U<|A2 U DF U U U U U U U (by kernel_rfl) (by kernel_rfl) (.inl U) U U<|CF.done<|Sr<|qm U<|Lq (Aq (a:=6) (b:=4) U aP U U (by omega)) U<|Lw U<|Sq<|Ew U<|Tt U<|Es<|qm U<|Lq (Df (b:=100) U AM U U (by omega)) U<|Lq (Dh (b:=2) U AM U U U (by omega)) U<|Lw U<|Es<|qm U<|Lq (Dg (b:=100) U AM U U U (by omega)) U<|Lw U<|Af (by kernel_rfl)<|Nv 2 U<|Nq (Aq (a:=2) (b:=1) U aP U U (by omega)) U<|Nv 2 U<|Nq (Aq (a:=2) (b:=2) U aP U U (by omega)) U<|Nv 1 U<|Nq (By (b:=1) U AM U U U (by omega)) U<|Nq (Jg U (by kernel_rfl) U (by omega)) U<|Nv 1 U<|Nq (Jg U (by kernel_rfl) U (by omega)) U<|Nq (kM (k:=1) U (by omega)) U<|A2 U DF U U U U U U U (by kernel_rfl) (by kernel_rfl) (.inl U) U U<|Nq (kM (k:=0) U (by omega)) U<|A2 U DF U U U U U U U (by kernel_rfl) (by kernel_rfl) (.inl U) U U<|CF.done<|Sr<|qm U<|Lq (Aq (a:=2) (b:=2) U aP U U (by omega)) U<|Lw U<|Ew U<|Tf U<|Sk<|lS.nm (Em (Zx.val U U U U ?_));refine Ld<|Sq<|Ew U<|Cd U (fun h1=>?_) (fun h1=>?_);refine Es<|Lq (kX (m:=0) U (by omega) U) U<|Lx U<|Es<|qm U<|Lq (ka (a:=1) (b:=6) U (by omega)) U<|Lq (AH U Fg DF U U U U) U<|Lo (Ba U D8 Zr Po U U) U<|Lw U<|Se (Er U ?_);rotate_left;refine Sk<|Es<|qm U<|Lq (ka (a:=1) (b:=6) U (by omega)) U<|Lq (AH U Fg DF U U U U) U<|Lo (Ba U D8 Zr Po U U) U<|Lw U<|Se (Er U ?_);rotate_left
   .rw[hv,if_pos h1];show AV.J _=AV.J _;simp only[jo,List.nil_append,List.cons_append,Int.toNat_natCast,Vh,Vg];refine congrArg AV.J<|Fz U ?_;repeat refine Fz (congrArg UInt8.ofNat (by omega)) ?_
    all_goals rfl
   .rw[hv,if_neg h1];show AV.J _=AV.J _;simp only[jo,List.nil_append,List.cons_append,Int.toNat_natCast,Vh,Vg];refine congrArg AV.J ?_;repeat refine Fz (congrArg UInt8.ofNat (by omega)) ?_
    all_goals rfl
  .refine Lq (AH U Fg DF U U U U) U<|qm U<|AR (fn:=Tryz.f314) (by kernel_rfl) (by kernel_rfl) U U U U U U U U U U U<|Ew U<|Sq<|Sb<|Ai (fun _:Unit=>([(4,.int .i64 (7:Nat)),(1,.int .u64 (m:Nat)),(0,.slice 0 1 7 1 (some 23))],Y9 1 1 [] [(0,some (.J (List.replicate 24 (.int .u8 0)) 337 false))])) (fun _=>0) (fun _=>True) () trivial U (Ac (by repeat' constructor)) ?_;intro _ _;focus
    refine Sq<|Ew U<|Tf U<|Sx<|Ax U<|Es<|qm U<|Lq (Ej U GU AM U U (by omega)) U<|Lw U<|Sq<|Ew U<|Tt U<|Es<|qm U<|Lq (Df (b:=10000) U AM U U (by omega)) U<|Lw U<|Es<|qm U<|Lq (Dg (b:=10000) U AM U U U (by omega)) U<|Lw U<|Es<|qm U<|Lq (Dg (b:=100) U AM U U U (by omega)) U<|Lq (Dh (b:=2) U AM U U U (by omega)) U<|qm U<|Lq (Df (b:=100) U AM U U (by omega)) U<|Lq (Dh (b:=2) U AM U U U (by omega)) U<|Lw U<|Af (by kernel_rfl)<|Nv 2 U<|Nq (Aq (a:=7) (b:=1) U aP U U (by omega)) U<|Nv 2 U<|Nq (Aq (a:=7) (b:=2) U aP U U (by omega)) U<|Nv 1 U<|Nq (By (b:=1) U AM U U U (by omega)) U<|Nq (Jg U (by kernel_rfl) U (by omega)) U<|Nv 1 U<|Nq (Jg U (by kernel_rfl) U (by omega)) U<|Nq (kM (k:=6) U (by omega)) U<|A2 U DF U U U U U U U (by kernel_rfl) (by kernel_rfl) (.inl U) U U<|Nq (kM (k:=5) U (by omega)) U<|A2 U DF U U U U U U U (by kernel_rfl) (by kernel_rfl) (.inl U) U U<|CF.done<|Af (by kernel_rfl)<|Nv 2 U<|Nq (Aq (a:=7) (b:=3) U aP U U (by omega)) U<|Nv 2 U<|Nq (Aq (a:=7) (b:=4) U aP U U (by omega)) U<|Nv 1 U<|Nq (By (b:=1) U AM U U U (by omega)) U<|Nq (Jg U (by kernel_rfl) U (by omega)) U<|Nv 1 U<|Nq (Jg U (by kernel_rfl) U (by omega)) U<|Nq (kM (k:=4) U (by omega)) U<|A2 U DF U U U U U U U (by kernel_rfl) (by kernel_rfl) (.inl U) U U<|Nq (kM (k:=3) U (by omega)) U<|A2 U DF U U U U U U U (by kernel_rfl) (by kernel_rfl) (.inl U) U U<|CF.done<|Sr<|qm U<|Lq (Aq (a:=7) (b:=4) U aP U U (by omega)) U<|Lw U<|Sq<|Ew U<|Tt U<|Es<|qm U<|Lq (Df (b:=100) U AM U U (by omega)) U<|Lq (Dh (b:=2) U AM U U U (by omega)) U<|Lw U<|Es<|qm U<|Lq (Dg (b:=100) U AM U U U (by omega)) U<|Lw U<|Af (by kernel_rfl)<|Nv 2 U<|Nq (Aq (a:=3) (b:=1) U aP U U (by omega)) U<|Nv 2 U<|Nq (Aq (a:=3) (b:=2) U aP U U (by omega)) U<|Nv 1 U<|Nq (By (b:=1) U AM U U U (by omega)) U<|Nq (Jg U (by kernel_rfl) U (by omega)) U<|Nv 1 U<|Nq (Jg U (by kernel_rfl) U (by omega)) U<|Nq (kM (k:=2) U (by omega)) U<|A2 U DF U U U U U U U (by kernel_rfl) (by kernel_rfl) (.inl U) U U<|Nq (kM (k:=1) U (by omega)) U<|A2 U DF U U U U U U U (by kernel_rfl) (by kernel_rfl) (.inl U) U U<|CF.done<|Sr<|qm U<|Lq (Aq (a:=3) (b:=2) U aP U U (by omega)) U<|Lw U<|Ew U<|Tt U<|Sr<|Lv 2 U<|Lq (By (a:=48) U AM U U U (by omega)) U<|Lq (B5 U AM ua U (by omega)) U<|Lq (kM (k:=0) U (by omega)) U<|Lx U<|lS.nm (Em (Zx.val U U U U ?_));refine Ld<|Sq<|Ew U<|Cd U (fun h1=>?_) (fun h1=>?_)
    refine Es<|Lq (kX (m:=0) U (by omega) U) U<|Lx U<|Es<|qm U<|Lq (ka (a:=1) (b:=7) U (by omega)) U<|Lq (AH U Fg DF U U U U) U<|Lo (Ba U D8 Zr Po U U) U<|Lw U<|Se (Er U ?_);rotate_left;refine Sk<|Es<|qm U<|Lq (ka (a:=1) (b:=7) U (by omega)) U<|Lq (AH U Fg DF U U U U) U<|Lo (Ba U D8 Zr Po U U) U<|Lw U<|Se (Er U ?_);rotate_left
   .rw[hv,if_pos h1];show AV.J _=AV.J _;simp only[jo,List.nil_append,List.cons_append,Int.toNat_natCast,Vh,Vg];refine congrArg AV.J<|Fz U ?_;repeat refine Fz (congrArg UInt8.ofNat (by omega)) ?_
    all_goals rfl
   .rw[hv,if_neg h1];show AV.J _=AV.J _;simp only[jo,List.nil_append,List.cons_append,Int.toNat_natCast,Vh,Vg];refine congrArg AV.J ?_;repeat refine Fz (congrArg UInt8.ofNat (by omega)) ?_
    all_goals rfl
abbrev xq:= {n:Int// -10000000<n/\n<10000000}
noncomputable def KL4:=CX KL3 301 (fun p:xq=>[.int .i64 p.1,.int .i64 10]) (fun p=> .J (eu p.1))
theorem hit_301 {n:Int} (h: -10000000<n/\n<10000000):KL4 301 [.int .i64 n,.int .i64 10]=some (.J (eu n)):=
 Aj (enc:=fun p:xq=>[.int .i64 p.1,.int .i64 10]) (fun p q h=>by rw[(AV.int.inj (List.cons.inj h).1).2]) ⟨n,h⟩
theorem gall4 (h:CM Tryz.prog 8 [] (.bool true)):Co Tryz.prog gn KL4:=
 Al Aw Ag (gall3 h) (fun p:xq=>fmt_to p.1 p.2) (fun _=>rfl) (fun _=>rfl)
theorem itoa1_to (n:Int) (h0: -10000000<n/\n<10000000):Cj (EK KL4) 243 [.int .i64 n] S0 (.J (eu n)):=by
 refine As U<|Ew U<|Es<|qm U<|AR (fn:=Tryz.f281) U U U U U U U U U U U U U<|Ew U<|Es<|qm U<|Lo (kc U (hit_301 (by omega))) U<|Lw U<|Se (AC (Zx.same U (Aa U U) U U U U ?_));refine Lw U<|Se (Er U U)
noncomputable def KL5:=CX KL4 243 (fun p:xq=>[.int .i64 p.1]) (fun p=> .J (eu p.1))
theorem WT {n:Int} (h: -10000000<n/\n<10000000):KL5 243 [.int .i64 n]=some (.J (eu n)):=
 Aj (enc:=fun p:xq=>[.int .i64 p.1]) (fun p q h=>by rw[(AV.int.inj (List.cons.inj h).1).2]) ⟨n,h⟩
theorem gall5 (h:CM Tryz.prog 8 [] (.bool true)):Co Tryz.prog gn KL5:=
 Al Aw Ag (gall4 h) (fun p:xq=>itoa1_to p.1 p.2) (fun _=>rfl) (fun _=>rfl)
theorem F9 {α:Type} {l:List α} {f:α->Bool} {i:Nat} (h:i<l.length) (hf:f l[i]=false):l.all f=false:=by
 cases hb:l.all f with
 |false=>rfl
 |true=>
  have:=List.all_eq_true.1 hb l[i] (Ql h);rw[hf]at this;cases this
theorem Ei {α:Type} {l:List α} {f:α->Bool} (h:∀j (hj:j<l.length),f l[j]=true):l.all f=true:=
 List.all_eq_true.2 fun x hx=>by
  obtain⟨j,hj,rfl⟩:=List.mem_iff_getElem.1 hx;exact h j hj
theorem BR {α:Type} {l:List α} {P:α->Prop} {i:Nat} {h:i<l.length} (ha:∀j (hj:j<l.length),j<i->P l[j]) (hi:P l[i]):∀j (hj:j<l.length),j<i+1->P l[j]:=fun j hj C8=>by
 rcases Nat.lt_or_ge j i with h1|h1
 .exact ha j hj h1
 .obtain rfl:j=i:=by omega
  exact hi
def aC (t:Cc):Bool:=decide (0<=YF t 50 14)
theorem VL (t:Cc):Cj (EK KL5) 15 [.agg (Cf t)] S0 (.bool (aC t)):=by
 have lV:KL5 53 [.agg (Cf t),.int .i64 50,.int .i64 14]=some (.int .i64 (YF t 50 14)):=hq_53 (by decide) (by decide);unfold aC;rw[Ak]at lV|-;refine As U<|Eh U<|Es<|Ls 1 U<|Lo (kc U (lV)) U<|Lw U<|Se (Er U ?_);exact Ab U
def ug (t:Cc):List AV:=[.agg (Cf t)]
theorem X0 (a b:Cc) (h:ug a=ug b):a=b:=AO _ _ (AV.agg.inj (List.cons.inj h).1)
theorem Ho (t:Cc):(ug t).all (Cm 40)=true:=by
 unfold ug;rw[List.all_cons,AU];rfl
noncomputable def KP1:=CX KL5 15 ug (fun t=> .bool (aC t))
theorem hq_15 {t:Cc}:KP1 15 [.agg (Cf t)]=some (.bool (aC t)):=Aj (fun a b h=>by rw[X0 a b h]) t
def fF (l:List Cc):Bool:=decide (l.length<=6)&&l.all aC
theorem QN (l:List Cc):Cj (EK KP1) 51 [Cs l] S0 (.bool (fF l)):=by
 refine As U ?_;have hlen:=BC (l:=l);refine Ew U<|Sq<|Ew U<|Sb<|Ai (fun i:Nat=>([(3,.int .i64 (i:Nat)),(0,Cs l)],Y9 0 0 [] [])) (fun i=>l.length-i) (fun i=>i<=l.length/\i<=7/\∀j (hj:j<l.length),j<i->aC l[j]=true) 0 ⟨Qo _,Qo _,fun _ _ h=>absurd h (Nat.not_lt_zero _)⟩ U (Ac (by trivial)) ?_;rintro i ⟨hi,hi7,ha⟩;by_cases h:i<l.length
 .have YK:=BD h;have jR:KP1 15 [.agg (Cf l[i])]=some (.bool (aC l[i])):=hq_15;rw[Ak]at jR YK;focus
   refine Sq<|Es<|Lv 5 U<|Bd U (fun h1=>?_) (fun h1=>?_);refine Lw U<|Cd U (fun h2=>?_) (fun h2=>?_);refine Sk<|Sq<|Sb<|Es<|Lv 2 U<|Lq (kv U YK) U<|Lv 1 U<|Lo (kc U (jR)) U<|Lw U<|Cn U (fun h3=>?_) (fun h3=>?_);refine Ew U<|Se (Er U<|Ab ?_);rotate_left;refine Sk<|Sr<|qm U<|Lq (ka (b:=1) U (by omega)) U<|Lw U ?_;rotate_left;refine Sx<|Ax U<|Ew U<|Se (Er U<|Ab ?_);rotate_left;omega
  .unfold fF;rw[F9 h h3,Bool.and_false]
  .exact⟨i+1,⟨h,by omega,BR (P:=fun t=>aC t=true) (h:=h) ha h3⟩,by show l.length-(i+1)<l.length-i;omega,rfl,rfl,Ac (by trivial)⟩
  .unfold fF;rw[show decide ((l.length:Int)<=6)=false from decide_eq_false (by omega),show decide (l.length<=6)=false from decide_eq_false (by omega)];rfl
 .focus
   refine Sq<|Es<|Lv 5 U<|Bd U (fun h1=>?_) (fun h1=>?_);omega;refine Lw U<|Tf U<|Sx<|Ax U<|Ew U<|Se (Er U<|Ab ?_);rotate_left
  unfold fF;rw[Ei fun m hm=>ha m hm (by omega),Bool.and_true];exact decide_eq_decide.2 (by omega)
def wh (l:List Cc):List AV:=[Cs l]
theorem PJ (a b:List Cc) (h:wh a=wh b):a=b:=H5 (List.cons.inj h).1
noncomputable def KP2:=CX KP1 51 wh (fun l=> .bool (fF l))
theorem hit_51 {l:List Cc}:KP2 51 [Cs l]=some (.bool (fF l)):=Aj (fun a b h=>by rw[PJ a b h]) l
structure bw where
 fn:Int
 b:List Cc
 a:Cc
 vars:Int
def Yx (r:bw):List AV:=[.int .i64 r.fn,Cs r.b,.int .i64 r.a.op,.int .i64 r.a.n,Cs r.a.u,.int .i64 r.vars]
theorem HJ (r:bw):(Yx r).length=5+1:=rfl
theorem K3 (r s:bw) (h:Yx r=Yx s):r=s:=by
 obtain⟨f,ps,⟨o,n,ks⟩,v⟩:=r;obtain⟨f',ps',⟨o',n',jD⟩,v'⟩:=s;simp only[Yx,List.cons.injEq,AV.int.injEq,and_true,true_and]at h;obtain⟨h1,h2,h3,h4,h5,h6⟩:=h;have h3:o=o':=h3;have h4:n=n':=h4;have h5:ks=jD:=H5 h5;rw[h1,H5 h2,h3,h4,h5,h6]
structure ZM where
 a:List Ci
 c:List Ci
 b:List bw
def Zf (p:ZM):List AV:=[Cp Cq 2 p.a,Cp Cq 2 p.c,Cp Yx 6 p.b]
theorem K8 (p q:ZM) (h:Zf p=Zf q):p=q:=by
 obtain⟨c,f,r⟩:=p;obtain⟨c',f',r'⟩:=q;simp only[Zf,List.cons.injEq,and_true]at h;rw[B8 BP A0 h.1,B8 BP A0 h.2.1,B8 K3 HJ h.2.2]
def iW (r:bw):Bool:=fF r.b&&aC r.a
def aU (p:ZM):Bool:=bc p.a p.c&&(decide (p.b.length<=20)&&p.b.all iW)
theorem TW (p:ZM):Cj (EK KP2) 14 [.agg (Zf p)] S0 (.bool (aU p)):=by
 obtain⟨cs,fs,rs⟩:=p;have no:rs.all iW=false->aU ⟨cs,fs,rs⟩=false:=fun h=>by unfold aU;rw[h,Bool.and_false,Bool.and_false]
 unfold Zf;refine As U<|Eh U<|Sq<|Ew U<|Sb<|Ai (fun i:Nat=>([(3,.int .i64 (i:Nat)),(1,.Z 0 0)],Y9 1 0 [] [(0,some (.J [Cp Cq 2 cs,Cp Cq 2 fs,Cp Yx 6 rs] 43 false))])) (fun i=>rs.length-i) (fun i=>i<=rs.length/\i<=21/\∀j (hj:j<rs.length),j<i->iW rs[j]=true) 0 ⟨Qo _,Qo _,fun _ _ h=>absurd h (Nat.not_lt_zero _)⟩ U (Ac (by trivial)) ?_;rintro i ⟨hi,hi7,ha⟩;by_cases h:i<rs.length
 .have YK:=A6 HJ h;have jR:KP2 15 [.agg (Cf rs[i].a)]=some (.bool (aC rs[i].a)):=hq_15;rw[Ak]at jR;unfold Yx at YK;focus
   refine Sq<|Es<|Ls 6 U<|Bd U (fun h1=>?_) (fun h1=>?_);refine Lw U<|Cd U (fun h2=>?_) (fun h2=>?_);refine Sk<|Sq<|Sb<|Es<|Ls 3 U<|Lq (kv U YK) U<|Lv 2 U<|Lo (kc U (hit_51)) U<|Lv 2 U<|Bn U (fun h3=>?_) (fun h3=>?_);refine Lw U<|Tt U<|Ew U<|Se (Er U<|Ab ?_);rotate_left;refine Ls 3 U<|Lh U U (kv U YK)<|Lv 2 U<|Lg U U (kc U (jR))<|Lw U<|Cn U (fun h4=>?_) (fun h4=>?_);refine Ew U<|Se (Er U<|Ab ?_);rotate_left;refine Sk<|Sr<|qm U<|Lq (ka (b:=1) U (by omega)) U<|Lw U ?_;rotate_left;refine Sx<|Ax U<|Es<|Ls 2 U<|Lo (kc U (hit_52)) U<|qm U<|Bb U (fun g5=>?_) (fun g5=>?_);refine Lx U<|Se (Er U<|Ab ?_);rotate_left;refine Lw U<|Se (Er U<|Ab ?_);rotate_left;omega
  .exact(no (F9 h (by unfold iW;simp_all))).symm
  .exact(no (F9 h (by unfold iW;simp_all))).symm
  .exact⟨i+1,⟨h,by omega,BR (P:=fun r=>iW r=true) (h:=h) ha (by unfold iW;simp_all)⟩,by show rs.length-(i+1)<rs.length-i;omega,rfl,rfl,Ac (by trivial)⟩
  .unfold aU;rw[g5,Bool.true_and,show decide ((rs.length:Int)<=20)=false from decide_eq_false (by omega),show decide (rs.length<=20)=false from decide_eq_false (by omega)];rfl
  .unfold aU;rw[g5];rfl
 .have ZI:=Ei fun m hm=>ha m hm (by omega);focus
   refine Sq<|Es<|Ls 6 U<|Bd U (fun h1=>?_) (fun h1=>?_);omega;refine Lw U<|Tf U<|Sx<|Ax U<|Es<|Ls 2 U<|Lo (kc U (hit_52)) U<|qm U<|Bb U (fun g2=>?_) (fun g2=>?_);refine Lx U<|Se (Er U<|Ab ?_);rotate_left;refine Lw U<|Se (Er U<|Ab ?_);rotate_left
  .unfold aU;rw[ZI,Bool.and_true,g2,Bool.true_and];exact decide_eq_decide.2 (by dsimp only;omega)
  .unfold aU;rw[g2];rfl
noncomputable def KP3:=CX KP2 14 (fun p=>[.agg (Zf p)]) (fun p=> .bool (aU p))
theorem hq_14 {p:ZM}:KP3 14 [.agg (Zf p)]=some (.bool (aU p)):=Aj (fun a b h=>by rw[K8 a b (AV.agg.inj (List.cons.inj h).1)]) p
theorem pall3 (h:CM Tryz.prog 8 [] (.bool true)):Co Tryz.prog gn KP3:=by
 have a1:Co Tryz.prog gn KP1:=Al Aw Ag (gall5 h) VL Ho (fun _=>rfl);have a2:Co Tryz.prog gn KP2:=Al Aw Ag a1 QN (fun _=>rfl) (fun _=>rfl);exact Al Aw Ag a2 TW (fun _=>rfl) (fun _=>rfl)
def ZS (n:Int):List AV:=[.int .i64 n]
theorem Tv (n:Int):(ZS n).length=0+1:=rfl
theorem encZ_inj (a b:Int) (h:ZS a=ZS b):a=b:=by cases h;rfl
def az (l:List Int):AV:=match l with
 | []=> .Ca
 |z::zs=>Cp ZS 1 (z::zs)
theorem Fc (l:List Int):Am.jb (az l)=some (.int .i64 (l.length:Nat)):=by cases l<;>rfl
theorem FA {l:List Int} {i:Nat} (h:i<l.length):Yr (0+1) i (az l)=some (.Zu ([.int .i64 l[i]]++(l.drop (i+1)).flatMap ZS)):=by
 cases l with
 |nil=>cases h
 |cons z zs=>exact A6 (enc:=ZS) Tv h
theorem QC {a b:List Int} (h:az a=az b):a=b:=by
 cases a with
 |nil=>cases b with
  |nil=>rfl
  |cons z zs=>cases h
 |cons z zs=>cases b with
  |nil=>cases h
  |cons y ys=>exact B8 encZ_inj Tv h
theorem DL (l:List Int):Cm 40 (az l)=true:=by cases l<;>rfl
abbrev ZnT:= {p:List Int×Int//p.1.length<=4000}
def fG (p:ZnT):List AV:=[az p.1.1,.int .i64 p.1.2]
theorem FW (a b:ZnT) (h:fG a=fG b):a=b:=by
 obtain⟨⟨a,m⟩,_⟩:=a;obtain⟨⟨b,n⟩,_⟩:=b;simp only[fG,List.cons.injEq,AV.int.injEq,true_and,and_true]at h;obtain⟨h1,rfl⟩:=h;obtain rfl:=QC h1;rfl
theorem FB (p:ZnT):(fG p).all (Cm 40)=true:=by
 unfold fG;rw[List.all_cons,DL];rfl
theorem has_to (l:List Int) (n:Int) (hl:l.length<=4000):Cj (EK KP3) 249 [az l,.int .i64 n] S0 (.bool (l.contains n)):=by
 refine As U ?_;have hlen:=Fc l;refine Ew U<|Sq<|Ew U<|Sb<|Ai (fun i:Nat=>([(5,.int .i64 (i:Nat)),(0,az l),(1,.int .i64 n)],Y9 0 0 [] [])) (fun i=>l.length-i) (fun i=>i<=l.length/\∀j (hj:j<l.length),j<i->l[j]≠n) 0 ⟨Qo _,fun _ _ h=>absurd h (Nat.not_lt_zero _)⟩ U (Ac (by trivial)) ?_;rintro i ⟨hi,ha⟩;by_cases h:i<l.length
 .have YK:=FA h;focus
   refine Sq<|Es<|Lv 2 U<|Lq (kn U hlen) U<|Lw U<|Cd U (fun h1=>?_) (fun h1=>?_);refine Sk<|Sq<|Sb<|Es<|Lv 2 U<|Lq (kv U YK) U<|Lw U<|Cd U (fun h2=>?_) (fun h2=>?_);refine Ew U<|Se (Er U<|Ab ?_);rotate_left;refine Sk<|Sr<|qm U<|Lq (ka (b:=1) U (by omega)) U<|Lw U ?_;rotate_left;omega
  .rw[List.contains_iff_mem.2 (by rw[<-h2];exact Ql h)]
  .exact⟨i+1,⟨h,BR (P:=fun z=>z≠n) (h:=h) ha h2⟩,by show l.length-(i+1)<l.length-i;omega,rfl,rfl,Ac (by trivial)⟩
 .focus
   refine Sq<|Es<|Lv 2 U<|Lq (kn U hlen) U<|Lw U<|Cd U (fun h1=>?_) (fun h1=>?_);omega;refine Sx<|Ax U<|Ew U<|Se (Er U<|Ab ?_);rotate_left
  cases hc:l.contains n with
  |false=>rfl
  |true=>
   obtain⟨j,hj,e⟩:=List.mem_iff_getElem.1 (List.contains_iff_mem.1 hc);exact absurd e (ha j hj (by omega))
noncomputable def KP4:=CX KP3 249 fG (fun p=> .bool (p.1.1.contains p.1.2))
theorem Pp {l:List Int} {n:Int} (h:l.length<=4000):KP4 249 [az l,.int .i64 n]=some (.bool (l.contains n)):=Aj (enc:=fG) (fun a b h=>by rw[FW a b h]) ⟨(l,n),h⟩
theorem UM {l:List Int} {n:Int} {i:Nat} (h:i<l.length):(l.take (i+1)).count n=(l.take i).count n+if l[i]=n then 1 else 0:=by
 rw[List.take_add_one,Qi h,List.count_append];by_cases e:l[i]=n<;>simp[e]
theorem VS (l:List Int) (n:Int) (hl:l.length<=4000):Cj (EK KP4) 248 [az l,.int .i64 n] S0 (.int .i64 (l.count n:Nat)):=by
 refine As U ?_;have hlen:=Fc l;iterate 2 refine Ew U ?_
 refine Sq<|Ew U<|Sb<|Ai (fun i:Nat=>([(6,.int .i64 (i:Nat)),(5,.int .i64 ((l.take i).count n:Nat)),(0,az l),(1,.int .i64 n)],Y9 0 0 [] [])) (fun i=>l.length-i) (fun i=>i<=l.length) 0 (Qo _) U (Ac (by trivial)) ?_;intro i hi;have hle:(l.take i).count n<=i:=Nat.le_trans List.count_le_length (by rw[List.length_take];omega);by_cases h:i<l.length
 .have YK:=FA h;have hc:=UM (n:=n) h;focus
   refine Sq<|Es<|Lv 2 U<|Lq (kn U hlen) U<|Lw U<|Cd U (fun h1=>?_) (fun h1=>?_);refine Sk<|Sq<|Sb<|Es<|Lv 2 U<|Lq (kv U YK) U<|Lw U<|Cd U (fun h2=>?_) (fun h2=>?_);refine Sr<|qm U<|Lq (ka (b:=1) U (by omega)) U<|Lw U<|Sr<|qm U<|Lq (ka (b:=1) U (by omega)) U<|Lw U ?_;rotate_left;refine Sk<|Sr<|qm U<|Lq (ka (b:=1) U (by omega)) U<|Lw U ?_;rotate_left;omega
  .rw[if_pos h2]at hc;exact⟨i+1,h,by show l.length-(i+1)<l.length-i;omega,U,U,by rw[hc];(refine Am.Ac ?_;repeat (first|exact trivial|refine⟨U,?_⟩))⟩
  .rw[if_neg h2]at hc;exact⟨i+1,h,by show l.length-(i+1)<l.length-i;omega,U,U,by rw[hc];(refine Am.Ac ?_;repeat (first|exact trivial|refine⟨U,?_⟩))⟩
 .focus
   refine Sq<|Es<|Lv 2 U<|Lq (kn U hlen) U<|Lw U<|Cd U (fun h1=>?_) (fun h1=>?_);omega;refine Sx<|Ax U<|Ew U<|Se (Er U ?_);rotate_left
  rw[List.take_of_length_le (by omega)]
noncomputable def KP5:=CX KP4 248 fG (fun p=> .int .i64 (p.1.1.count p.1.2:Nat))
theorem hq_248 {l:List Int} {n:Int} (h:l.length<=4000):KP5 248 [az l,.int .i64 n]=some (.int .i64 (l.count n:Nat)):=Aj (enc:=fG) (fun a b h=>by rw[FW a b h]) ⟨(l,n),h⟩
theorem pall5 (h:CM Tryz.prog 8 [] (.bool true)):Co Tryz.prog gn KP5:=by
 have a1:Co Tryz.prog gn KP4:=Al Aw Ag (pall3 h) (fun p:ZnT=>has_to p.1.1 p.1.2 p.2) FB (fun _=>rfl);exact Al Aw Ag a1 (fun p:ZnT=>VS p.1.1 p.1.2 p.2) FB (fun _=>rfl)
mutual
def ao:Cc->Bool
 | .mk o _ ks=>eW ks&&(decide (o=1)||decide (o=3))
def eW:List Cc->Bool
 | []=>true
 |t::ts=>ao t&&eW ts
end
theorem LM:∀ks:List Cc,eW ks=ks.all ao
 | []=>rfl
 |t::ts=>by rw[List.all_cons,<-LM ts];rfl
mutual
def cS (m:Int):Cc->Bool
 | .mk o n ks=>qj m ks&&((!decide (o=1)&& !decide (o=8))||decide (n<m))
def qj (m:Int):List Cc->Bool
 | []=>true
 |t::ts=>cS m t&&qj m ts
end
theorem SH (m:Int):∀ks:List Cc,qj m ks=ks.all (cS m)
 | []=>rfl
 |t::ts=>by rw[List.all_cons,<-SH m ts];rfl
abbrev SlT:= {t:Cc//YN t}
def oI (t:SlT):List AV:=[.agg (Cf t.1)]
theorem Ky (a b:SlT) (h:oI a=oI b):a=b:=Subtype.ext (AO _ _ (AV.agg.inj (List.cons.inj h).1))
theorem VA (t:SlT):(oI t).all (Cm 40)=true:=Ho t.1
theorem VM (d:Nat) (t:Cc) (h:CL t=d+1) (hs:YN t) (hx:A' KP5 246 oI (fun t=> .bool (ao t.1)) (fun t=>CL t.1) d 246 [.agg (Cf t)]=none):
 Cj (EK (A' KP5 246 oI (fun t=> .bool (ao t.1)) (fun t=>CL t.1) d)) 246 [.agg (Cf t)] S0 (.bool (ao t)):=by
 rw[Ak]at hx|-;refine Bt (fn:=Tryz.f246) U hx U U U U U ?_;obtain⟨o,n,ks⟩:=t;cases hs with
 |mk hk u4=>
 have hlen:=BC (l:=ks);have lh:Yl ks<=d:=by have:Yl ks+1=d+1:=h;omega
 have hb:ao (.mk o n ks)=(ks.all ao&&(decide (o=1)||decide (o=3))):=by rw[<-LM];rfl
 refine Eh U<|Sq<|Ew U<|Sb<|Ai (fun i:Nat=>([(3,.int .i64 (i:Nat)),(1,.Z 0 0)],Y9 1 0 [] [(0,some (.J [.int .i64 o,.int .i64 n,Cs ks] 47 false))])) (fun i=>ks.length-i) (fun i=>i<=ks.length/\∀j (hj:j<ks.length),j<i->ao ks[j]=true) 0 ⟨Qo _,fun _ _ h=>absurd h (Nat.not_lt_zero _)⟩ U (Ac (by trivial)) ?_;rintro i ⟨hi,ha⟩;by_cases h:i<ks.length
 .have YK:=BD h;have pz:A' KP5 246 oI (fun t=> .bool (ao t.1)) (fun t=>CL t.1) d 246 [.agg (Cf ks[i])]=some (.bool (ao ks[i])):=DE Ky ⟨ks[i],u4 _ (Ql h)⟩ (Nat.le_trans (Bg (Ql h)) lh);rw[Ak]at pz YK;focus
   refine Sq<|Eh U<|Cd U (fun h1=>?_) (fun h1=>?_);refine Sk<|Sq<|Sb<|Es<|Ls 3 U<|Lq (kv U YK) U<|Lv 1 U<|Lo (kc U (pz)) U<|Lw U<|Cn U (fun h2=>?_) (fun h2=>?_);refine Ew U<|Se (Er U<|Ab ?_);rotate_left;refine Sk<|Sr<|qm U<|Lq (ka (b:=1) U (by omega)) U<|Lw U ?_;rotate_left;omega
  .rw[hb,F9 h h2];rfl
  .exact⟨i+1,⟨h,BR (P:=fun t=>ao t=true) (h:=h) ha h2⟩,by show ks.length-(i+1)<ks.length-i;omega,rfl,rfl,Ac (by trivial)⟩
 .have ZI:=Ei fun j hj=>ha j hj (by omega);focus
   refine Sq<|Eh U<|Cd U (fun h1=>?_) (fun h1=>?_);omega;refine Sx<|Ax U<|Es<|Ls 4 U<|Bd U (fun h2=>?_) (fun h2=>?_);refine Lw U<|Se (Er U<|Ab ?_);rotate_left;refine Lx U<|Se (Er U<|Ab ?_);rotate_left
  .rw[hb,ZI,decide_eq_true h2];rfl
  .rw[hb,ZI,decide_eq_false (show¬o=1 by assumption)];rfl
noncomputable def KP6:=CX KP5 246 oI (fun t=> .bool (ao t.1))
theorem hq_246 {t:Cc} (h:YN t):KP6 246 [.agg (Cf t)]=some (.bool (ao t)):=Aj (enc:=oI) (fun a b h=>by rw[Ky a b h]) ⟨t,h⟩
abbrev SlZ:= {p:Cc×Int//YN p.1}
def lj (p:SlZ):List AV:=[.agg (Cf p.1.1),.int .i64 p.1.2]
theorem Kx (a b:SlZ) (h:lj a=lj b):a=b:=by
 obtain⟨⟨a,m⟩,_⟩:=a;obtain⟨⟨b,n⟩,_⟩:=b;simp only[lj,List.cons.injEq,AV.int.injEq,AV.agg.injEq,true_and,and_true]at h;obtain⟨h1,rfl⟩:=h;obtain rfl:=AO _ _ h1;rfl
theorem Vw (p:SlZ):(lj p).all (Cm 40)=true:=by
 unfold lj;rw[List.all_cons,AU];rfl
theorem rlow_to (d:Nat) (t:Cc) (m:Int) (h:CL t=d+1) (hs:YN t) (hx:A' KP6 194 lj (fun p=> .bool (cS p.1.2 p.1.1)) (fun p=>CL p.1.1) d 194 [.agg (Cf t),.int .i64 m]=none):
 Cj (EK (A' KP6 194 lj (fun p=> .bool (cS p.1.2 p.1.1)) (fun p=>CL p.1.1) d)) 194 [.agg (Cf t),.int .i64 m] S0 (.bool (cS m t)):=by
 rw[Ak]at hx|-;refine Bt (fn:=Tryz.f194) U hx U U U U U ?_;obtain⟨o,n,ks⟩:=t;cases hs with
 |mk hk u4=>
 have hlen:=BC (l:=ks);have lh:Yl ks<=d:=by have:Yl ks+1=d+1:=h;omega
 have hb:cS m (.mk o n ks)=(ks.all (cS m)&&((!decide (o=1)&& !decide (o=8))||decide (n<m))):=by rw[<-SH];rfl
 refine Eh U<|Sq<|Ew U<|Sb<|Ai (fun i:Nat=>([(5,.int .i64 (i:Nat)),(2,.Z 0 0),(1,.int .i64 m)],Y9 1 0 [] [(0,some (.J [.int .i64 o,.int .i64 n,Cs ks] 47 false))])) (fun i=>ks.length-i) (fun i=>i<=ks.length/\∀j (hj:j<ks.length),j<i->cS m ks[j]=true) 0 ⟨Qo _,fun _ _ h=>absurd h (Nat.not_lt_zero _)⟩ U (Ac (by trivial)) ?_;rintro i ⟨hi,ha⟩;by_cases h:i<ks.length
 .have YK:=BD h;have fY:A' KP6 194 lj (fun p=> .bool (cS p.1.2 p.1.1)) (fun p=>CL p.1.1) d 194 [.agg (Cf ks[i]),.int .i64 m]=some (.bool (cS m ks[i])):=DE Kx ⟨(ks[i],m),u4 _ (Ql h)⟩ (Nat.le_trans (Bg (Ql h)) lh);rw[Ak]at fY YK;focus
   refine Sq<|Eh U<|Cd U (fun h1=>?_) (fun h1=>?_);refine Sk<|Sq<|Sb<|Es<|Ls 3 U<|Lq (kv U YK) U<|Lv 2 U<|Lo (kc U (fY)) U<|Lw U<|Cn U (fun h2=>?_) (fun h2=>?_);refine Ew U<|Se (Er U<|Ab ?_);rotate_left;refine Sk<|Sr<|qm U<|Lq (ka (b:=1) U (by omega)) U<|Lw U ?_;rotate_left;omega
  .rw[hb,F9 h h2];rfl
  .exact⟨i+1,⟨h,BR (P:=fun t=>cS m t=true) (h:=h) ha h2⟩,by show ks.length-(i+1)<ks.length-i;omega,rfl,rfl,Ac (by trivial)⟩
 .have ZI:=Ei fun j hj=>ha j hj (by omega);focus
   refine Sq<|Eh U<|Cd U (fun h1=>?_) (fun h1=>?_);omega;refine Sx<|Ax U<|Es<|Ls 4 U<|Be U (fun h2=>?_) (fun h2=>?_);refine Ls 5 U<|Be U (fun h3=>?_) (fun h3=>?_);refine Lw U<|Se (Er U<|Ab ?_);rotate_left;refine Lx U<|Se (Er U<|Ab ?_);rotate_left;refine Lx U<|Se (Er U<|Ab ?_);rotate_left
  .rw[hb,ZI,decide_eq_false (show¬o=1 by assumption),decide_eq_false (show¬o=8 by assumption)];rfl
  .rw[hb,ZI,decide_eq_false (show¬o=1 by assumption),decide_eq_true (show o=8 by assumption)];rfl
  .rw[hb,ZI,decide_eq_true (show o=1 by assumption)];rfl
noncomputable def KP7:=CX KP6 194 lj (fun p=> .bool (cS p.1.2 p.1.1))
theorem hq_194 {t:Cc} {m:Int} (h:YN t):KP7 194 [.agg (Cf t),.int .i64 m]=some (.bool (cS m t)):=Aj (enc:=lj) (fun a b h=>by rw[Kx a b h]) ⟨(t,m),h⟩
theorem pall7 (h:CM Tryz.prog 8 [] (.bool true)):Co Tryz.prog gn KP7:=by
 have a1:Co Tryz.prog gn KP6:=Lt (deep:=fun p:SlT=>CL p.1) Aw Ag (pall5 h) Ky (fun p=>Dt p.1) VA (fun _=>rfl) fun d p hp hx=>VM d p.1 hp p.2 hx;exact Lt (deep:=fun p:SlZ=>CL p.1.1) Aw Ag a1 Kx (fun p=>Dt p.1.1) Vw (fun _=>rfl) fun d p hp hx=>rlow_to d p.1.1 p.1.2 hp p.2 hx
end Go.Proofs.YtfhimfcbphepeaaGreatDoor.Ty
open Go Am
namespace Am
theorem UP {KN:PN} {E:a_} {fr:Fr} {l:Sl} {all rest:List Oper} {o:Oper} {i:Nat} {js:List Nat} {nl:YI} {K:Sl->St->Prop} {st:St} {od:Option Nat} {src dst e:TypeId} {x:Operand} {v:AV} {b off len sz:Nat} {cap:Option Nat} (ho:o.op= .convert src dst x) (hs:CS E src=some (.slice e)) (hdt:CS E dst=some .string) (hb:r5 E e=true)
 (hx:Cg x (Yn (b_ o.op.operands.toList) l)=some (.slice b off len sz cap)) (hv:fi (st.J (Tr.A .J b (st.heap.u b))) (.slice b off len sz cap)=some v) (hc:Zp (Yt all i) b nl=true) (hg:Yv all l o) (hd:o.dst=od) (C8:YW fr.nt od=true)
 (h:CF E KN all rest (i+1) fr (ZC od v l) st (i::js) nl K):CF E KN all (o::rest) i fr l st js nl K:=
 NP (x:=Ch E x) (f:=fun T s=>(Ch E x T).bind (fi s)) (b:=b) (p:= .slice b off len sz cap) (by
  rw[ho];show gQ E src dst x=_;unfold gQ;rw[hs,hdt];simp only[hb,cond_true]) (fun T hT=>Ae hT hx) rfl (fun T hT=>by
  rw[Ae hT hx];exact hv) hc hg hd C8 h
end Am
namespace Go.Proofs.YtfhimfcbphepeaaGreatDoor.Ty
abbrev Zi:=List UInt8
def B_ (w:Str):List AV:=[.J w.1]
theorem GE (a b:Str) (h:B_ a=B_ b):a=b:=Subtype.ext (AV.J.inj (List.cons.inj h).1)
def j' (n:Nat):Zi:=if n<26 then [UInt8.ofNat (97+n)]else [UInt8.ofNat (97+(n/26-1)),UInt8.ofNat (97+n % 26)]
theorem LK {n:Nat} (h:n<26):(((UInt8.ofNat (97+n)).toNat:Nat):Int)=97+n:=by
 rw[UInt8.toNat_ofNat'];omega
theorem D9 {n:Nat} (h:n<26):j' n=[UInt8.ofNat (97+n)]:=if_pos h
theorem EH {n:Nat} (h:¬n<26):j' n=[UInt8.ofNat (97+(n/26-1)),UInt8.ofNat (97+n % 26)]:=if_neg h
def dA (n:Nat):Nat:=if n<26 then 1 else 2
abbrev SpT:= {n:Nat//n<702}
def iq (p:SpT):List AV:=[.int .i64 (p.1:Nat)]
theorem EV (x y:SpT) (h:iq x=iq y):x=y:=by
 obtain⟨a,_⟩:=x;obtain⟨b,_⟩:=y;simp only[iq,List.cons.injEq,AV.int.injEq,true_and,and_true]at h;obtain rfl:=Int.ofNat.inj h;rfl
def mT (p:SpT):AV:= .J (j' p.1)
noncomputable def KP8:=CX KP7 176 iq mT
theorem QU (d n:Nat) (hd:dA n=d+1) (h:n<702) (hx:A' KP7 176 iq mT (fun p=>dA p.1) d 176 [.int .i64 (n:Nat)]=none):Cj (EK (A' KP7 176 iq mT (fun p=>dA p.1) d)) 176 [.int .i64 (n:Nat)] S0 (.J (j' n)):=by
 refine Bt (fn:=Tryz.f176) U hx U U U U U ?_;by_cases h26:n<26
 .rw[D9 h26];focus
   refine Ew U<|Sq<|Ew U<|Cd U (fun h1=>?_) (fun h1=>?_);refine Es<|qm U<|Lq (ka (a:=97) U (by omega)) U<|Lq (B5 U aP ua U (by omega)) U<|Lo (AL 1 U D8 DF z_5 U U U U) U<|Lo (Ba U D8 Zr Po U U) U<|Lw U<|Se (Er U ?_);rotate_left;omega
  rfl
 .rw[EH h26];unfold dA at hd;rw[if_neg h26]at hd;have mU:A' KP7 176 iq mT (fun p=>dA p.1) d 176 [.int .i64 ((n/26-1:Nat):Int)]=some (.J (j' (n/26-1))):=DE EV ⟨n/26-1,by omega⟩ (by
   show dA (n/26-1)<=d;unfold dA;rw[if_pos (by omega)];omega)
  rw[D9 (show n/26-1<26 by omega)]at mU;focus
   refine Ew U<|Sq<|Ew U<|Cd U (fun h1=>?_) (fun h1=>?_);omega;refine Sk<|Af U<|Nv 1 U<|Nq (Jo (b:=26) U aP U U (by omega)) U<|Nq (Aq (b:=1) U aP U U (by omega)) U<|Na (kC U (mU)) (.inl U) U<|Nv 1 U<|Nq (Jn (b:=26) U aP U U (by omega)) U<|Nq (ka (a:=97) U (by omega)) U<|Nq (B5 U aP ua U (by omega)) U<|B4 U D8 DF z_5 U U U (.inl U) U U ?_;rotate_left
  refine UP U D8 Zr U U U U (.inl U) U U<|Nq (Av U Zr U U (by grind)) U<|Nw U<|Se (Er U U)
theorem QY (d n:Nat) (hd:dA n=d+1) (h:n<702) (hx:A' KP8 109 iq mT (fun p=>dA p.1) d 109 [.int .i64 (n:Nat)]=none):Cj (EK (A' KP8 109 iq mT (fun p=>dA p.1) d)) 109 [.int .i64 (n:Nat)] S0 (.J (j' n)):=by
 refine Bt (fn:=Tryz.f109) U hx U U U U U ?_;by_cases h26:n<26
 .rw[D9 h26];focus
   refine Ew U<|Sq<|Ew U<|Cd U (fun h1=>?_) (fun h1=>?_);refine Es<|qm U<|Lq (ka (a:=97) U (by omega)) U<|Lq (B5 U aP ua U (by omega)) U<|Lo (AL 1 U D8 DF z_5 U U U U) U<|Lo (Ba U D8 Zr Po U U) U<|Lw U<|Se (Er U ?_);rotate_left;omega
  rfl
 .rw[EH h26];unfold dA at hd;rw[if_neg h26]at hd;have key:∀m:Nat,m<26->A' KP8 109 iq mT (fun p=>dA p.1) d 109 [.int .i64 (m:Nat)]=some (.J [UInt8.ofNat (97+m)]):=fun m hm=>by
   have:=DE (K:=KP8) (g:=109) (res:=mT) (deep:=fun p:SpT=>dA p.1) (d:=d) EV ⟨m,by omega⟩ (by
    show dA m<=d;unfold dA;rw[if_pos hm];omega)
   rw[<-D9 hm];exact this
  have sK:=key (n/26-1) (by omega);have hitb_109:=key (n % 26) (by omega);clear key;focus
   refine Ew U<|Sq<|Ew U<|Cd U (fun h1=>?_) (fun h1=>?_);omega;refine Sk<|Es<|qm U<|Lq (Jo (b:=26) U aP U U (by omega)) U<|Lq (Aq (b:=1) U aP U U (by omega)) U<|Lo (kc U (sK)) U<|qm U<|Lq (Jn (b:=26) U aP U U (by omega)) U<|Lo (kc U (hitb_109)) U<|Lq (Av U Zr U U (by grind)) U<|Lw U<|Se (Er U ?_);rotate_left
  rfl
noncomputable def xQ:=CX KP8 109 iq mT
def aq (w:Zi):Bool:=(decide (0<w.length)&&decide (w.length<=8))&&(ak 65 90 (w.getD 0 0).toNat&&decide (tw (ak 97 122) (w.drop 1)=w.length-1))
def YM (w:Zi):Bool:=(decide (0<w.length)&&decide (w.length<=8))&&(decide (tw (ak 97 122) w=w.length)&& !u_ w)
theorem VP (w:List UInt8) (hw:w.length<=100000):Cj (EK xQ) 112 [.J w] S0 (.bool (aq w)):=by
 refine As U ?_;unfold aq;focus
  refine Ew U<|Es<|qm U<|Lq (Az U U U U Zr U) U<|Lv 2 U<|Bd U (fun h1=>?_) (fun h1=>?_);refine Lv 1 U<|Lh U U (Az U U U U Zr U)<|Lv 3 U<|Bd U (fun h2=>?_) (fun h2=>?_);refine Lv 1 U<|Lh U U (Bf (n:=0) U Zr U U (by omega))<|Lg U U (kc U (hit_165))<|Lv 2 U<|Bb U (fun g3=>?_) (fun g3=>?_);refine Lv 1 U<|Lg U U (kc U (hq_163 (by grind) (by grind)))<|Lv 1 U<|Lh U U (Az U U U U Zr U)<|Lh U U (Aq (b:=1) U aP U U (by omega))<|Lw U<|Se (Er U<|Ab ?_);rotate_left;refine Lw U<|Se (Er U<|Ab ?_);rotate_left;refine Lw U<|Se (Er U<|Ab ?_);rotate_left;refine Lw U<|Se (Er U<|Ab ?_);rotate_left
 .rw[decide_eq_true (show 0<w.length by omega),decide_eq_true (show w.length<=8 by omega),g3];simp only[Bool.true_and];exact decide_eq_decide.2 (by omega)
 .rw[g3,Bool.false_and,Bool.and_false]
 .rw[decide_eq_false (show¬w.length<=8 by omega),Bool.and_false];rfl
 .rw[decide_eq_false (show¬0<w.length by omega)];rfl
theorem UO (w:List UInt8) (hw:w.length<=100000):Cj (EK xQ) 104 [.J w] S0 (.bool (aq w)):=by
 refine As U ?_;unfold aq;have sL:xQ 174 [.J ((w.drop 1).take (w.length-1)),.G' (.func 90) [] []]=some (.int .i64 (tw (ak 97 122) (w.drop 1):Nat)):=by
  rw[List.take_of_length_le (by rw[List.length_drop];exact Qj _)];exact WV U (by rw[List.length_drop];omega)
 focus
  refine Ew U<|Es<|qm U<|Lq (Az U U U U Zr U) U<|Lv 2 U<|Bd U (fun h1=>?_) (fun h1=>?_);refine Lv 1 U<|Lh U U (Az U U U U Zr U)<|Lv 3 U<|Bd U (fun h2=>?_) (fun h2=>?_);refine Lv 1 U<|Lh U U (Bf (n:=0) U Zr U U (by omega))<|Lg U U (kc U (hit_173))<|Lv 2 U<|Bb U (fun g3=>?_) (fun g3=>?_);refine Lv 1 U<|Lh U U (Q0 U Zr U U U U (Eg (n:=1) (by omega)) ⟨by omega,by omega⟩)<|Lg U U (kc U (sL))<|Lv 1 U<|Lh U U (Az U U U U Zr U)<|Lh U U (Aq (b:=1) U aP U U (by omega))<|Lw U<|Se (Er U<|Ab ?_);rotate_left;refine Lw U<|Se (Er U<|Ab ?_);rotate_left;refine Lw U<|Se (Er U<|Ab ?_);rotate_left;refine Lw U<|Se (Er U<|Ab ?_);rotate_left
 .rw[decide_eq_true (show 0<w.length by omega),decide_eq_true (show w.length<=8 by omega),g3];simp only[Bool.true_and];exact decide_eq_decide.2 (by omega)
 .rw[g3,Bool.false_and,Bool.and_false]
 .rw[decide_eq_false (show¬w.length<=8 by omega),Bool.and_false];rfl
 .rw[decide_eq_false (show¬0<w.length by omega)];rfl
theorem rname_to (w:List UInt8) (hw:w.length<=100000):Cj (EK xQ) 127 [.J w] S0 (.bool (YM w)):=by
 refine As U ?_;have hit_163:xQ 163 [.J w,.int .i64 0]=some (.int .i64 (tw (ak 97 122) w:Nat)):=hq_163 (w:=w) (k:=0) hw (Qo _);have hit_164:xQ 164 [.J w]=some (.bool (u_ w)):=hq_164 (w:=w);unfold YM;focus
  refine Ew U<|Es<|qm U<|Lq (Az U U U U Zr U) U<|Lv 2 U<|Bd U (fun h1=>?_) (fun h1=>?_);refine Lv 1 U<|Lh U U (Az U U U U Zr U)<|Lv 3 U<|Bd U (fun h2=>?_) (fun h2=>?_);refine Lv 1 U<|Lg U U (kc U (hit_163))<|Lv 1 U<|Lh U U (Az U U U U Zr U)<|Lv 3 U<|Bd U (fun h3=>?_) (fun h3=>?_);refine Lv 1 U<|Lg U U (kc U (hit_164))<|Lw U<|Se (Er U<|Ab ?_);rotate_left;refine Lw U<|Se (Er U<|Ab ?_);rotate_left;refine Lw U<|Se (Er U<|Ab ?_);rotate_left;refine Lw U<|Se (Er U<|Ab ?_);rotate_left
 .rw[decide_eq_true (show 0<w.length by omega),decide_eq_true (show w.length<=8 by omega),decide_eq_true (show tw (ak 97 122) w=w.length by omega)];rfl
 .rw[decide_eq_true (show 0<w.length by omega),decide_eq_true (show w.length<=8 by omega),decide_eq_false (show¬tw (ak 97 122) w=w.length by omega)];rfl
 .rw[decide_eq_false (show¬w.length<=8 by omega),Bool.and_false];rfl
 .rw[decide_eq_false (show¬0<w.length by omega)];rfl
theorem VW (w:List UInt8) (hw:w.length<=100000):Cj (EK xQ) 120 [.J w] S0 (.bool (YM w)):=by
 refine As U ?_;have sL:xQ 174 [.J w,.G' (.func 90) [] []]=some (.int .i64 (tw (ak 97 122) w:Nat)):=WV rfl hw;have p4:xQ 110 [.J w]=some (.bool (u_ w)):=hq_110 (w:=w);unfold YM;focus
  refine Ew U<|Es<|qm U<|Lq (Az U U U U Zr U) U<|Lv 2 U<|Bd U (fun h1=>?_) (fun h1=>?_);refine Lv 1 U<|Lh U U (Az U U U U Zr U)<|Lv 3 U<|Bd U (fun h2=>?_) (fun h2=>?_);refine Lv 1 U<|Lg U U (kc U (sL))<|Lv 1 U<|Lh U U (Az U U U U Zr U)<|Lv 3 U<|Bd U (fun h3=>?_) (fun h3=>?_);refine Lv 1 U<|Lg U U (kc U (p4))<|Lw U<|Se (Er U<|Ab ?_);rotate_left;refine Lw U<|Se (Er U<|Ab ?_);rotate_left;refine Lw U<|Se (Er U<|Ab ?_);rotate_left;refine Lw U<|Se (Er U<|Ab ?_);rotate_left
 .rw[decide_eq_true (show 0<w.length by omega),decide_eq_true (show w.length<=8 by omega),decide_eq_true (show tw (ak 97 122) w=w.length by omega)];rfl
 .rw[decide_eq_true (show 0<w.length by omega),decide_eq_true (show w.length<=8 by omega),decide_eq_false (show¬tw (ak 97 122) w=w.length by omega)];rfl
 .rw[decide_eq_false (show¬w.length<=8 by omega),Bool.and_false];rfl
 .rw[decide_eq_false (show¬0<w.length by omega)];rfl
noncomputable def KP10:=CX xQ 112 B_ (fun p=> .bool (aq p.1))
noncomputable def KP11:=CX KP10 104 B_ (fun p=> .bool (aq p.1))
noncomputable def KP12:=CX KP11 127 B_ (fun p=> .bool (YM p.1))
noncomputable def KP13:=CX KP12 120 B_ (fun p=> .bool (YM p.1))
theorem hq_176 {n:Nat} (h:n<702):KP8 176 [.int .i64 (n:Nat)]=some (.J (j' n)):=Aj (enc:=iq) (fun a b h=>by rw[EV a b h]) ⟨n,h⟩
theorem hq_109 {n:Nat} (h:n<702):xQ 109 [.int .i64 (n:Nat)]=some (.J (j' n)):=Aj (enc:=iq) (fun a b h=>by rw[EV a b h]) ⟨n,h⟩
theorem hq_112 {w:List UInt8} (hw:w.length<=100000):KP10 112 [.J w]=some (.bool (aq w)):=Aj (enc:=B_) (fun a b h=>by rw[GE a b h]) ⟨w,hw⟩
theorem hq_104 {w:List UInt8} (hw:w.length<=100000):KP11 104 [.J w]=some (.bool (aq w)):=Aj (enc:=B_) (fun a b h=>by rw[GE a b h]) ⟨w,hw⟩
theorem hq_127 {w:List UInt8} (hw:w.length<=100000):KP12 127 [.J w]=some (.bool (YM w)):=Aj (enc:=B_) (fun a b h=>by rw[GE a b h]) ⟨w,hw⟩
theorem hq_120 {w:List UInt8} (hw:w.length<=100000):KP13 120 [.J w]=some (.bool (YM w)):=Aj (enc:=B_) (fun a b h=>by rw[GE a b h]) ⟨w,hw⟩
theorem PP (n:Nat):0<dA n:=by unfold dA;split<;>omega
theorem pall13 (h:CM Tryz.prog 8 [] (.bool true)):Co Tryz.prog gn KP13:=by
 have a1:Co Tryz.prog gn KP8:=Lt (deep:=fun p:SpT=>dA p.1) Aw Ag (pall7 h) EV (fun p=>PP p.1) (fun _=>rfl) (fun _=>rfl) fun d p hp hx=>QU d p.1 hp p.2 hx;have a2:Co Tryz.prog gn xQ:=Lt (deep:=fun p:SpT=>dA p.1) Aw Ag a1 EV (fun p=>PP p.1) (fun _=>rfl) (fun _=>rfl) fun d p hp hx=>QY d p.1 hp p.2 hx;have a3:Co Tryz.prog gn KP10:=AE a2 fun p:Str=>Bp Aw Ag a2 (VP p.1 p.2) rfl rfl;have a4:Co Tryz.prog gn KP11:=AE a3 fun p:Str=>Bp Aw Ag a2 (UO p.1 p.2) rfl rfl;have a5:Co Tryz.prog gn KP12:=AE a4 fun p:Str=>Bp Aw Ag a2 (rname_to p.1 p.2) rfl rfl;exact AE a5 fun p:Str=>Bp Aw Ag a2 (VW p.1 p.2) U U
theorem EM (cs:List AV) (n k:Nat):jK cs n k= .Ca\/jK cs n k= .Ck cs n k true:=by
 unfold jK;cases Nat.beq n 0
 .exact .inr U
 .exact .inl U
theorem frz_outA {s:St} {m n k j:Nat} {cs:List AV} {ks:List Nat}:CW s m (n+1) (jK cs j k) ks=some (jK cs j k,ks):=by
 rcases EM cs j k with h|h<;>rw[h]<;>rfl
abbrev CY (l:List Zi):AV:=jK (l.map .J) l.length 1
theorem J1 (l:List Zi):Am.jb (CY l)=some (.int .i64 (l.length:Nat)):=by cases l<;>rfl
theorem Oi {l:List Zi} {i:Nat} (h:i<l.length):Yr (0+1) i (CY l)=some (.Zu ([.J l[i]]++(l.drop (i+1)).flatMap fun w=>[.J w])):=by
 have e:CY l=Cp (fun w=>[AV.J w]) (0+1) l:=by
  unfold CY jK Cp;cases l with
  |nil=>cases h
  |cons a l=>
   show AV.Ck _ _ _ _=AV.Ck _ _ _ _
   congr 1
   rw[List.flatMap_def,List.map_eq_flatMap,List.flatMap_def]
 rw[e];exact A6 (fun _=>rfl) h
def ir (w:Zi):List Zi->Option Nat
 | []=>none
 |a::l=>if a=w then some 0 else(ir w l).map (· +1)
def idxZ (o:Option Nat):Int:=match o with
 |some k=>(k:Int)
 |none=> -1
theorem WR {w:Zi}:∀ {l:List Zi} {i:Nat} (h:i<l.length),(∀j (hj:j<l.length),j<i->l[j]≠w)->l[i]=w->ir w l=some i
 |a::l,0,h,_,he=>if_pos he
 |a::l,i+1,h,hn,he=>by
  have h0:a≠w:=hn 0 (Nat.zero_lt_succ _) (Nat.zero_lt_succ _);unfold ir;rw[if_neg h0,WR (l:=l) (i:=i) (Nat.lt_of_succ_lt_succ h) (fun j hj hji=>hn (j+1) (Nat.succ_lt_succ hj) (Nat.succ_lt_succ hji)) he];rfl
theorem Ko {w:Zi}:∀ {l:List Zi},(∀j (hj:j<l.length),l[j]≠w)->ir w l=none
 | [],_=>rfl
 |a::l,hn=>by
  have h0:a≠w:=hn 0 (Nat.zero_lt_succ _);unfold ir;rw[if_neg h0,Ko (l:=l) fun j hj=>hn (j+1) (Nat.succ_lt_succ hj)];rfl
theorem WQ {w:Zi}:∀ {l:List Zi} {k:Nat},ir w l=some k->∃h:k<l.length,l[k]=w
 |a::l,k,h=>by
  unfold ir at h;split at h
  .next h1=>cases h;exact⟨Nat.zero_lt_succ _,h1⟩
  .obtain⟨j,h1,rfl⟩:=Option.map_eq_some_iff.1 h;obtain⟨h2,h3⟩:=WQ h1;exact⟨Nat.succ_lt_succ h2,h3⟩
theorem index_to (l:List Zi) (w:Zi) (hl:l.length<=4000):Cj (EK KP13) 101 [CY l,.J w] S0 (.int .i64 (idxZ (ir w l))):=by
 refine As U ?_;have hln:=J1 l;refine Ew U<|Sq<|Ew U<|Sb<|Ai (fun i:Nat=>([(5,.int .i64 (i:Nat)),(1,.J w),(0,CY l)],Y9 0 0 [] [])) (fun i=>l.length-i) (fun i=>i<=l.length/\∀j (hj:j<l.length),j<i->l[j]≠w) 0 ⟨Qo _,fun _ _ h=>absurd h (Nat.not_lt_zero _)⟩ U (Ac (by trivial)) ?_;rintro i ⟨hi,ha⟩;by_cases h:i<l.length
 .have hix:=Oi h;focus
   refine Sq<|Es<|Lv 2 U<|Lq (kn U hln) U<|Lw U<|Cd U (fun h1=>?_) (fun h1=>?_);refine Sk<|Sq<|Sb<|Es<|Lv 2 U<|Lq (kv U hix) U<|Lv 2 U<|Lq (Bx U Zr U U U U) U<|Ld<|Cb U (fun g2=>?_) (fun g2=>?_);have h2:=bT g2;refine Ew U<|Se (Er U ?_);rotate_left;have h2:=bF g2;refine Sk<|Sr<|qm U<|Lq (ka (b:=1) U (by omega)) U<|Lw U ?_;rotate_left;omega
  .rw[WR h ha h2];rfl
  .refine⟨i+1,⟨h,fun j hj C8=>?_⟩,by show l.length-(i+1)<l.length-i;omega,rfl,rfl,Ac (by trivial)⟩;rcases Nat.lt_or_ge j i with h1|h1
   .exact ha j hj h1
   .obtain rfl:j=i:=by omega
    assumption
 .focus
   refine Sq<|Es<|Lv 2 U<|Lq (kn U hln) U<|Lw U<|Cd U (fun h1=>?_) (fun h1=>?_);omega;refine Sx<|Ax U<|Ew U<|Se (Er U ?_);rotate_left
  rw[Ko fun j hj=>ha j hj (by omega)];rfl
abbrev IxT:= {p:List Zi×Zi//p.1.length<=4000}
def lk (p:IxT):List AV:=[CY p.1.1,.J p.1.2]
theorem Sg:∀ {a b:List Zi},a.map AV.J=b.map .J->a=b
 | [],[],_=>rfl
 |_::_,_::_,h=>by
  simp only[List.map_cons,List.cons.injEq,AV.J.injEq]at h;rw[h.1,Sg h.2]
theorem J2 {a b:List Zi} (h:CY a=CY b):a=b:=by
 cases a with
 |nil=>cases b with
  |nil=>rfl
  |cons _ _=>cases h
 |cons x a=>cases b with
  |nil=>cases h
  |cons y b=>exact Sg (AV.Ck.inj h).1
theorem BE (l:List Zi):Cm 40 (CY l)=true:=by cases l<;>rfl
theorem KA (x y:IxT) (h:lk x=lk y):x=y:=by
 obtain⟨⟨a,b⟩,_⟩:=x;obtain⟨⟨a',b'⟩,_⟩:=y;simp only[lk,List.cons.injEq,AV.J.injEq,and_true]at h;obtain⟨h0,rfl⟩:=h;obtain rfl:=J2 h0;rfl
noncomputable def KP14:=CX KP13 101 lk (fun p=> .int .i64 (idxZ (ir p.1.2 p.1.1)))
theorem hq_101 {l:List Zi} {w:Zi} (h:l.length<=4000):KP14 101 [CY l,.J w]=some (.int .i64 (idxZ (ir w l))):=Aj (enc:=lk) (fun a b h=>by rw[KA a b h]) ⟨(l,w),h⟩
theorem pall14 (h:CM Tryz.prog 8 [] (.bool true)):Co Tryz.prog gn KP14:=Al Aw Ag (pall13 h) (fun p:IxT=>index_to p.1.1 p.1.2 p.2) (fun p=>by
 show(Cm 40 (CY p.1.1)&&true)=true;rw[BE];rfl) (fun _=>rfl)
theorem Xr (ds:List Ci) (hd:ds.length<=1000):Cj (EK KP14) 200 [Cp Cq 2 ds] S0 (CY (ds.map Prod.fst)):=by
 refine As U ?_;iterate 2 refine Ew U ?_
 refine Sq<|Ew U<|Sb<|Ai (fun x:Nat×AV×St=>([(4,.int .i64 (x.1:Nat)),(3,x.2.1),(0,Cp Cq 2 ds)],x.2.2)) (fun x=>ds.length-x.1)
  (fun x=>x.1<=ds.length/\x.2.2.b=0/\x.2.2.c=[]/\c_ x.2.2 9 1 x.2.1 (((ds.take x.1).map Prod.fst).map .J) x.1) (0,.Ca,_) ⟨Qo _,rfl,rfl,c_.nil _ _ _⟩ rfl (Ac (by trivial)) ?_
 rintro⟨i,v,st⟩ ⟨hi,aO,Z9,dy⟩;dsimp only at hi aO Z9 dy|-;by_cases h:i<ds.length
 .have YK:=A6 A0 h;unfold Cq at YK;focus
   refine Sq<|Ew U<|Cd U (fun h1=>?_) (fun h1=>?_);refine Sk<|Sq<|Sb<|Sr<|Lv 3 U<|Lq (kv U YK) U<|Lv 2 U<|Lo (Bv U MM Ia tn U U U) U ?_;rotate_left;omega
  refine DT dy U (by decide) (AP (by omega) (by decide)) (AP (by omega) (by decide)) U U U U MM Ia sH tn U U U U U U U fun v6 s6 f6 o6 c6 l6=>?_;refine Lw U<|Sr<|qm U<|Lq (ka (b:=1) U (by omega)) U<|Lw U ?_;refine⟨(i+1,v6,s6),⟨h,c6.b.trans aO,List.eq_nil_iff_forall_not_mem.2 fun c hc=>?_,?_⟩,by show ds.length-(i+1)<ds.length-i;omega,rfl,rfl,Ac (by trivial)⟩
  .rcases c6.d c hc with h1|h1
   .rw[Z9]at h1;cases h1
   .omega
  .rw[List.take_succ_eq_append_getElem h,List.map_append,List.map_append];exact f6
 .obtain rfl:i=ds.length:=by omega
  rw[List.take_length]at dy;focus
   refine Sq<|Ew U<|Cd U (fun h1=>?_) (fun h1=>?_);omega;refine Sx<|Ax U<|Ew U ?_;rotate_left
  have hp:((ds.map Prod.fst).map AV.J).all jJ=true:=by rw[List.all_map,List.all_map];exact List.all_eq_true.2 fun _ _=>rfl
  obtain⟨ks,hf⟩:=dy.ma hp (by rw[List.all_map,List.all_map];exact List.all_eq_true.2 fun _ _=>rfl) 38;refine Se ⟨.inl U,U,Z9,aO,_,_,ks,Aa U U,hf,?_,?_⟩
  .rcases EM ((ds.map Prod.fst).map AV.J) ds.length 1 with e|e<;>rw[e]<;>rfl
  .unfold CY;rw[Qn]
abbrev DnT:= {ds:List Ci//ds.length<=1000}
def encDn (p:DnT):List AV:=[Cp Cq 2 p.1]
noncomputable def xr:=CX KP14 200 encDn (fun p=>CY (p.1.map Prod.fst))
theorem hq_200 {ds:List Ci} (h:ds.length<=1000):xr 200 [Cp Cq 2 ds]=some (CY (ds.map Prod.fst)):=Aj (enc:=encDn) (fun a b h=>by rw[show a=b from Subtype.ext (B8 BP A0 (List.cons.inj h).1)]) ⟨ds,h⟩
theorem pall15 (h:CM Tryz.prog 8 [] (.bool true)):Co Tryz.prog gn xr:=Al Aw Ag (pall14 h) (fun p:DnT=>Xr p.1 p.2) (fun _=>rfl) (fun p=>BE _)
abbrev SgN:= {p:List Ci×List Ci//(∀q∈p.1,q.1.length<=4000)/\(∀q∈p.2,q.1.length<=4000)/\p.1.length<=4000/\p.2.length<=4000}
def sM (p:SgN):List AV:=[CH p.1.1 p.1.2]
theorem UH (x y:SgN) (h:sM x=sM y):x=y:=by
 obtain⟨⟨a,b⟩,_⟩:=x;obtain⟨⟨c,d⟩,_⟩:=y;obtain⟨rfl,rfl⟩:=Dr (List.cons.inj h).1;rfl
def ZY (cs fs:List Ci):Bool:=cs.all (fun q=>aq q.1)&&fs.all (fun q=>YM q.1)
theorem Ue (cs fs:List Ci) (hc:∀q∈cs,q.1.length<=4000) (hf:∀q∈fs,q.1.length<=4000) (h1:cs.length<=4000) (h2:fs.length<=4000):Cj (EK xr) 62 [CH cs fs] S0 (.bool (ZY cs fs)):=by
 unfold CH;refine As U<|Eh U<|Sq<|Ew U<|Sb<|Ai (fun i:Nat=>([(3,.int .i64 (i:Nat)),(1,.Z 0 0)],Y9 1 0 [] [(0,some (.J [Cp Cq 2 cs,Cp Cq 2 fs] 40 false))])) (fun i=>cs.length-i) (fun i=>i<=cs.length/\∀j (hj:j<cs.length),j<i->aq cs[j].1=true) 0 ⟨Qo _,fun _ _ h=>absurd h (Nat.not_lt_zero _)⟩ U (Ac (by trivial)) ?_;rintro i ⟨hi,ha⟩;by_cases h:i<cs.length
 .have YK:=A6 A0 h;have hit_112:xr 112 [.J cs[i].1]=some (.bool (aq cs[i].1)):=hq_112 (by have:=hc _ (Ql h);omega);unfold Cq at YK;focus
   refine Sq<|Eh U<|Cd U (fun h1=>?_) (fun h1=>?_);refine Sk<|Sq<|Sb<|Es<|Ls 3 U<|Lq (kv U YK) U<|Lv 2 U<|Lo (kc U (hit_112)) U<|Lw U<|Cn U (fun h2=>?_) (fun h2=>?_);refine Ew U<|Se (Er U<|Ab ?_);rotate_left;refine Sk<|Sr<|qm U<|Lq (ka (b:=1) U (by omega)) U<|Lw U ?_;rotate_left;omega
  .unfold ZY;rw[F9 (f:=fun q:Ci=>aq q.1) h h2];rfl
  .exact⟨i+1,⟨h,BR (P:=fun q:Ci=>aq q.1=true) (h:=h) ha h2⟩,by show cs.length-(i+1)<cs.length-i;omega,rfl,rfl,Ac (by trivial)⟩
 .have ZI:cs.all (fun q:Ci=>aq q.1)=true:=Ei fun j hj=>ha j hj (by omega);focus
   refine Sq<|Eh U<|Cd U (fun h1=>?_) (fun h1=>?_);omega;refine Sx<|Ax U<|Sq<|Ew U<|Sb ?_;rotate_left
  refine Ai (fun i:Nat=>([(4,.int .i64 (i:Nat)),(1,.Z 0 0)],Y9 1 0 [] [(0,some (.J [Cp Cq 2 cs,Cp Cq 2 fs] 40 false))])) (fun i=>fs.length-i) (fun i=>i<=fs.length/\∀j (hj:j<fs.length),j<i->YM fs[j].1=true) 0 ⟨Qo _,fun _ _ h=>absurd h (Nat.not_lt_zero _)⟩ U (Ac (by trivial)) ?_;rintro k ⟨hk,hb⟩;by_cases h:k<fs.length
  .have YK:=A6 A0 h;have mV:xr 127 [.J fs[k].1]=some (.bool (YM fs[k].1)):=hq_127 (by have:=hf _ (Ql h);omega);unfold Cq at YK;focus
    refine Sq<|Eh U<|Cd U (fun h2=>?_) (fun h2=>?_);refine Sk<|Sq<|Sb<|Es<|Ls 3 U<|Lq (kv U YK) U<|Lv 2 U<|Lo (kc U (mV)) U<|Lw U<|Cn U (fun h3=>?_) (fun h3=>?_);refine Ew U<|Se (Er U<|Ab ?_);rotate_left;refine Sk<|Sr<|qm U<|Lq (ka (b:=1) U (by omega)) U<|Lw U ?_;rotate_left;omega
   .unfold ZY;rw[ZI,F9 (f:=fun q:Ci=>YM q.1) h h3];rfl
   .exact⟨k+1,⟨h,BR (P:=fun q:Ci=>YM q.1=true) (h:=h) hb h3⟩,by show fs.length-(k+1)<fs.length-k;omega,rfl,rfl,Ac (by trivial)⟩
  .focus
    refine Sq<|Eh U<|Cd U (fun h2=>?_) (fun h2=>?_);omega;refine Sx<|Ax U<|Ew U<|Se (Er U<|Ab ?_);rotate_left
   unfold ZY;rw[ZI,Ei (f:=fun q:Ci=>YM q.1) fun j hj=>hb j hj (by omega)];rfl
noncomputable def KP16:=CX xr 62 sM (fun p=> .bool (ZY p.1.1 p.1.2))
theorem hq_62 {cs fs:List Ci} (hc:∀q∈cs,q.1.length<=4000) (hf:∀q∈fs,q.1.length<=4000) (h1:cs.length<=4000) (h2:fs.length<=4000):KP16 62 [CH cs fs]=some (.bool (ZY cs fs)):=Aj (enc:=sM) (fun a b h=>by rw[UH a b h]) ⟨(cs,fs),hc,hf,h1,h2⟩
def Yu (o:Int):Int×Int×Int×Zi:=
 if o=7 then(1,2,1,[32,63,32])else if o=10 then(2,3,2,[32,38,32])else if o=11 then(3,4,4,[32,61,58,61,32])else if o=12 then(3,4,4,[32,61,61,32])else if o=15 then(3,4,4,[32,60,32])
 else if o=13 then(4,4,5,[32,43,32])else if o=14 then(4,4,5,[32,45,32])else(5,5,6,[32,64,32])
def sN (o:Int):AV:= .O [.int .i64 (Yu o).1,.int .i64 (Yu o).2.1,.int .i64 (Yu o).2.2.1,.J (Yu o).2.2.2]
theorem level_to (o:Int):Cj (EK KP16) 202 [.int .i64 o] S0 (sN o):=by
 refine As U ?_;unfold sN Yu;focus
  refine Ew U<|Sq<|Ew U<|Sb<|Ew U<|Cd U (fun h1=>?_) (fun h1=>?_);refine Ew U<|Se ⟨.inl U,U,U,U,_,_,_,(Aa U (Aa U (Aa U (Aa U U)))),U,U,?_⟩;rotate_left;refine Ew U<|Cd U (fun h2=>?_) (fun h2=>?_);refine Ew U<|Se ⟨.inl U,U,U,U,_,_,_,(Aa U (Aa U (Aa U (Aa U U)))),U,U,?_⟩;rotate_left;refine Ew U<|Cd U (fun h3=>?_) (fun h3=>?_);refine Ew U<|Se ⟨.inl U,U,U,U,_,_,_,(Aa U (Aa U (Aa U (Aa U U)))),U,U,?_⟩;rotate_left;refine Ew U<|Cd U (fun h4=>?_) (fun h4=>?_);refine Ew U<|Se ⟨.inl U,U,U,U,_,_,_,(Aa U (Aa U (Aa U (Aa U U)))),U,U,?_⟩;rotate_left;refine Ew U<|Cd U (fun h5=>?_) (fun h5=>?_);refine Ew U<|Se ⟨.inl U,U,U,U,_,_,_,(Aa U (Aa U (Aa U (Aa U U)))),U,U,?_⟩;rotate_left;refine Ew U<|Cd U (fun h6=>?_) (fun h6=>?_);refine Ew U<|Se ⟨.inl U,U,U,U,_,_,_,(Aa U (Aa U (Aa U (Aa U U)))),U,U,?_⟩
  rotate_left;refine Ew U<|Cd U (fun h7=>?_) (fun h7=>?_);refine Ew U<|Se ⟨.inl U,U,U,U,_,_,_,(Aa U (Aa U (Aa U (Aa U U)))),U,U,?_⟩;rotate_left;refine Sk<|Ew U<|Se ⟨.inl U,U,U,U,_,_,_,(Aa U (Aa U (Aa U (Aa U U)))),U,U,?_⟩;rotate_left
 all_goals (simp only[*,if_true,if_false]<;>rfl)
noncomputable def vd:=CX KP16 202 (fun o:Int=>[.int .i64 o]) sN
theorem hq_202 {o:Int}:vd 202 [.int .i64 o]=some (sN o):=Aj (fun a b h=>by rw[(AV.int.inj (List.cons.inj h).1).2]) o
theorem pall17 (h:CM Tryz.prog 8 [] (.bool true)):Co Tryz.prog gn vd:=by
 have a1:Co Tryz.prog gn KP16:=Al Aw Ag (pall15 h) (fun p:SgN=>Ue p.1.1 p.1.2 p.2.1 p.2.2.1 p.2.2.2.1 p.2.2.2.2) (fun _=>rfl) (fun _=>rfl);exact Al Aw Ag a1 level_to (fun _=>rfl) (fun _=>rfl)
end Go.Proofs.YtfhimfcbphepeaaGreatDoor.Ty
