/- Types: the readers of shapes. -/
import Derived.Test.YtfhimfcbphepeaaGreatDoorCdA
import Derived.Test.YtfhimfcbphepeaaGreatDoorCdC
set_option linter.unusedSectionVars false
set_option linter.unusedVariables false
set_option linter.unusedSimpArgs false
open Go Am
namespace Go.Proofs.YtfhimfcbphepeaaGreatDoor.Ty
abbrev ln (ts:List XX):AV:=CJ (ts.flatMap XG) ts.length 4
structure Rd (s:St) (p:Nat) (ts:List XX) (i:Nat):Prop where
 at_:s.heap.get p=some (.cells [ln ts,.int .i64 (i:Nat)] 162 false)
 lt:p<s.next
 le:i<=ts.length
 small:ts.length<=100000
theorem KC (ts:List XX):Am.dq (ln ts)=some (.int .i64 (ts.length:Nat)):=by
 unfold ln CJ;cases ts<;>rfl
theorem PV {ts:List XX} {i:Nat} (h:i<ts.length):CC (3+1) i (ln ts)=some (.Wl (XG ts[i]++(ts.drop (i+1)).flatMap XG)):=by
 have e:ln ts=CM XG (3+1) ts:=by
  unfold ln CJ CM;cases ts with
  |nil=>cases h
  |cons a l=>rfl
 rw[e];exact A9 Vd h
theorem PW {ts:List XX} {i:Nat} (h:i<ts.length):eF ts i=ts[i]:=by
 unfold eF;rw[List.getD_eq_getElem?_getD,Qi h];rfl
theorem Tj {ts:List XX} {i:Nat} (h:¬i<ts.length):eF ts i=(0,[],0,0):=by
 unfold eF;rw[List.getD_eq_getElem?_getD,List.getElem?_eq_none (by omega)];rfl
theorem Pp {s:St} {p i:Nat} {ts:List XX} (h:Rd s p ts i):Cc (EK LF) 158 [.ptr p 0] s (.agg (XG (eF ts i))):=by
 obtain⟨hg,Co,hle,XT⟩:=h;refine Cc.flat (fn:=Tryz.f158) U (by kernel_rfl) U U U U (fun _ _=>rfl) (fun _=>rfl) ?_;have hl:=KC ts;obtain⟨c1,c2,c3,c4,c5,c6,c7⟩:=Bg (st:=s.enter) (z:=[.int .i64 0,.str [],.int .i64 0,.int .i64 0]) (cs:=XG (eF ts i)) (T:=133);have g1:(s.enter.alloc (.cells [.int .i64 0,.str [],.int .i64 0,.int .i64 0] 133 false)).heap.get p=some (.cells [ln ts,.int .i64 (i:Nat)] 162 false):=(c3 _ Co).trans hg;by_cases hi:i<ts.length
 .have qG:=PV hi;rw[PW hi]at*;unfold XG at*;focus
   refine Es<|Lo (kz U) U<|Ld<|Sq<|Ag (by kernel_rfl)<|Nv 3 U<|Nm U g1 U (.inl U) U<|Nv 3 U<|Nm U g1 U (.inl U) U<|Nq (kn U hl) U<|Nw U ?_;refine Cd U (fun h2=>?_) (fun h2=>?_);refine Ag (by kernel_rfl)<|Nv 3 U<|Nm U g1 U (.inl U) U<|Nv 3 U<|Nm U g1 U (.inl U) U<|Nq (kv U qG) U<|Nv 1 U<|JH (by first|exact Nat.lt_succ_self _|assumption|omega) U Bw U U c1 U U U (by kernel_rfl) (by kernel_rfl) (.inl U) U U<|BT ?_;rotate_left;exact absurd h2 (by omega)
  exact Se ⟨.inl U,U,c6 (Qj _),_,A5 U BV Bw c2 (Qj _) U,U⟩
 .rw[Tj hi]at*;unfold XG at*;focus
   refine Es<|Lo (kz U) U<|Ld<|Sq<|Ag (by kernel_rfl)<|Nv 3 U<|Nm U g1 U (.inl U) U<|Nv 3 U<|Nm U g1 U (.inl U) U<|Nq (kn U hl) U<|Nw U ?_;refine Cd U (fun h2=>?_) (fun h2=>?_);exact absurd h2 (by omega);refine Sk<|Es<|Lv 1 U<|Ln (kw U c1 U) U<|Ld ?_;rotate_left
  exact Se ⟨.inl U,U,c6 (Qj _),_,A5 U BV Bw c2 (Qj _) U,U⟩
theorem is_to {s:St} {p i:Nat} {ts:List XX} (h:Rd s p ts i) (k:Int):Cc (EK LF) 156 [.ptr p 0,.int .i64 k] s (.bool (decide (((Zb ts i:Nat):Int)=k))):=by
 refine Cc.flat (fn:=Tryz.f156) U (by kernel_rfl) U U U U (fun _ _=>rfl) (fun _=>rfl) ?_;have iA:=Pp (s:=s.enter) ⟨h.at_,h.lt,h.le,h.small⟩;unfold XG at*;refine Ew U<|Es<|qm U ?_;refine Lo (Av U U (by kernel_rfl) U (iA)) U<|Lw U ?_;exact Se ⟨.inl U,U,U,_,Aa U U,U⟩
structure Ck (s s':St) (p:Nat):Prop where
 Wh:XB s s' (fun c=>c=p)
 ax:Ct s s'
theorem Ck.trans {s s1 s2:St} {p:Nat} (h:Ck s s1 p) (g:Ck s1 s2 p) (hb:s.bound<=s.next):Ck s s2 p:=⟨h.Wh.trans g.Wh (fun _ h=>h) (fun _ h=> .inl h) hb,h.ax.trans g.ax⟩
theorem Ck.back {s st:St} {p:Nat} (h:Ck s.enter st p) (hb:s.bound<=s.next):Ck s (s.back st) p:=⟨XB.back h.Wh,Ct.back h.ax hb⟩
theorem Ck.Y2 {s s':St} {p:Nat} (h:Ck s s' p) (hb:s.bound<=s.next):s'.bound<=s'.next:=by
 have:=h.Wh.next;rw[h.Wh.bound];omega
theorem Ck.refl {s:St} {p:Nat}:Ck s s p:=⟨XB.refl,Ct.refl⟩
theorem Ck.alloc {s:St} {p:Nat} {o:Cw} (hb:s.bound<=s.next):Ck s (s.alloc o) p:=⟨XB.alloc,Ct.alloc hb⟩
theorem Ck.put {s:St} {p:Nat} {o:Option Cw}:Ck s (s.put p o) p:=⟨XB.put,Ct.put⟩
theorem Ck.own {s:St} {p b:Nat} {o:Option Cw} {oa:Cw} (hb:s.bound<=s.next) (fh:b=s.next):Ck s ((s.alloc oa).put b o) p:=by
 subst fh;exact⟨XB.alloc.trans (own:=fun c=>c=p) (o1:=fun c=>c=p) (XB.put (s:=s.alloc oa) (b:=s.next) (o:=o)) (fun _ h=>h) (fun c h=> .inr (by rw[h];exact Qj _)) hb,(Ct.alloc hb).trans Ct.put⟩
theorem Rd.of {s s':St} {p i j:Nat} {ts:List XX} (h:Rd s p ts i) (hg:s'.heap.get p=some (.cells [ln ts,.int .i64 (j:Nat)] 162 false)) (hn:s.next<=s'.next) (hj:j<=ts.length):Rd s' p ts j:=⟨hg,Nat.lt_of_lt_of_le h.lt hn,hj,h.small⟩
theorem gq {ts:List XX} {i:Nat} {w:List UInt8}:fc ts i w=true↔(eF ts i).2.1=w/\((eF ts i).1=5\/(eF ts i).1=3):=by
 unfold fc cG Zb;rw[AB];simp only[Qf,Bool.or_eq_true,decide_eq_true_eq]
theorem xr {ts:List XX} {i:Nat} {w:List UInt8} (h:¬((eF ts i).2.1=w/\((eF ts i).1=5\/(eF ts i).1=3))):fc ts i w=false:=by
 cases hb:fc ts i w with
 |false=>rfl
 |true=>exact absurd (gq.1 hb) h
theorem Iq {s:St} {p i:Nat} {ts:List XX} (h:Rd s p ts i) (hb:s.bound<=s.next) {w:List UInt8} {R RP:AV->St->Prop} (hT:fc ts i w=true->∀s',Ck s s' p->Rd s' p ts (i+1)->R (.bool true) s') (hF:fc ts i w=false->R (.bool false) s):
 CE (EK LF) 89 [.ptr p 0,.str w] s R RP:=by
 refine Ar U ?_;have iA:=Pp (s:=s.enter) ⟨h.at_,h.lt,h.le,h.small⟩;have XT:=h.small;have hle:=h.le;unfold XG at*;obtain⟨c1,c2,c3,c4,c5,c6,c7⟩:=Bg (st:=s.enter) (z:=[.int .i64 0,.str [],.int .i64 0,.int .i64 0]) (cs:=[.int .i64 ((eF ts i).1:Nat),.str (eF ts i).2.1,.int .i64 ((eF ts i).2.2.1:Nat),.int .i64 ((eF ts i).2.2.2:Nat)]) (T:=133);have g1:=(c4 _ h.lt).trans h.at_;have hE:s.enter.bound<=s.enter.next:=Qj _;focus
  refine Ew U<|Es<|qm U ?_;refine Lo (Av U U (by kernel_rfl) U (iA)) U<|Lo (kz U) U<|Ln (kw U c1 U) U<|Ld<|Sq<|Es<|Lv 1 U<|Lo (kl U c2 U) U<|qm U<|Lq (A2 U CT U U U U) U<|qm U ?_;refine Bb U (fun g2=>?_) (fun g2=>?_);have h2:=bT g2;refine Lv 1 U<|Lg U U (kl U c2 U)<|Lv 2 U ?_;refine Bd U (fun h3=>?_) (fun h3=>?_);refine Lw U<|Tt U<|Es<|Lv 3 U<|Lo (kl U g1 U) U ?_;refine Lq (ka (b:=1) U (by omega)) U ?_;refine Lv 2 U<|Ln (kw U g1 U) U<|Ld<|Ew U ?_;rotate_left;refine Lv 1 U<|Lg U U (kl U c2 U)<|Lw U ?_;refine Cd U (fun h4=>?_) (fun h4=>?_);refine Es<|Lv 3 U<|Lo (kl U g1 U) U ?_;refine Lq (ka (b:=1) U (by omega)) U ?_;refine Lv 2 U<|Ln (kw U g1 U) U<|Ld<|Ew U ?_;rotate_left;refine Sk<|Ew U ?_;rotate_left;have h2:=bF g2;refine Lw U<|Tf U<|Sk<|Ew U ?_;rotate_left
 .exact Se (Al ⟨.inl U,_,U,_,Aa U U,_,Bc U (B7 (.inr h.lt)),hT (gq.2 ⟨by assumption,by omega⟩) _ (Ck.back ((Ck.own hE U).trans Ck.put hE) hb) (h.of (Aw.trans (if_pos U)) (Nat.le_succ _) (Pf (gq.2 ⟨by assumption,by omega⟩)))⟩)
 .exact Se (Al ⟨.inl U,_,U,_,Aa U U,_,Bc U (B7 (.inr h.lt)),hT (gq.2 ⟨by assumption,by omega⟩) _ (Ck.back ((Ck.own hE U).trans Ck.put hE) hb) (h.of (Aw.trans (if_pos U)) (Nat.le_succ _) (Pf (gq.2 ⟨by assumption,by omega⟩)))⟩)
 .exact Se (Al ⟨.inl U,_,rfl,_,Aa U U,_,Gg U (c6 hE),hF (xr fun h=>by omega)⟩)
 .exact Se (Al ⟨.inl U,_,rfl,_,Aa U U,_,Gg U (c6 hE),hF (xr fun h=>absurd h.1 h2)⟩)
abbrev Z0 (e:Int):AV:= .iface 151 (.agg [.int .i64 e])
theorem FV {s:St} {e:Int}:Cc (EK LF) 31 [.bool false,.int .i64 e] s (.tuple []):=by
 refine Cc.flat (fn:=Tryz.f31) U (by kernel_rfl) U U U U (fun _ _=>rfl) (fun _=>rfl)<|Ew U<|Tf U<|Sk ?_;exact⟨.inr U,U,U,_,U,U⟩
theorem FW {s:St} {e:Int} {R RP:AV->St->Prop} (h:RP (Z0 e) s):CE (EK LF) 31 [.bool true,.int .i64 e] s R RP:=by
 refine CE.unit (fn:=Tryz.f31) U (by kernel_rfl) U U U U<|Ew U<|Tt U<|Sr<|Lv 3 U<|CB.raise U U U ?_;exact⟨U,h⟩
theorem LN {s:St} {p i:Nat} {ts:List XX} (h:Rd s p ts i) (hb:s.bound<=s.next) {w:List UInt8} {R RP:AV->St->Prop} (hT:fc ts i w=true->∀s',Ck s s' p->Rd s' p ts (i+1)->R (.tuple []) s') (hF:fc ts i w=false->RP (Z0 4) s):
 CE (EK LF) 143 [.ptr p 0,.str w] s R RP:=by
 refine CE.unit (fn:=Tryz.f143) U (by kernel_rfl) U U U U<|Sr<|Lv 2 U ?_;have hE:s.enter.bound<=s.enter.next:=Qj _;refine Af U U (by kernel_rfl) U U U U (Iq (s:=s.enter) ⟨h.at_,h.lt,h.le,h.small⟩ hE (fun ht s1 g1 r1=>?_) fun hf=>?_)
 .refine Lv 1 U ?_;refine Lo (Av U U (by kernel_rfl) U (FV)) U<|Ld ?_;refine⟨.inr U,rfl,fun hl=>?_,hT ht _ (g1.back hb) (r1.of r1.at_ (Qj _) r1.le)⟩;have:=(g1.ax.same p h.lt (by rw[hl];exact List.not_mem_nil))
  rw[r1.at_]at this;have:=this.trans h.at_;simp only[Option.some.injEq,Cw.cells.injEq,List.cons.injEq,AV.int.injEq,and_true,true_and]at this;omega
 .refine Lv 1 U ?_;refine Af U U (by kernel_rfl) U U U U (FW ?_);exact⟨U,hF hf⟩
theorem QB {s:St} {p i:Nat} {ts:List XX} (h:Rd s p ts i) (hb:s.bound<=s.next) {k:Nat} {R RP:AV->St->Prop} (h0:k≠0) (hT:Zb ts i=k->∀s',Ck s s' p->Rd s' p ts (i+1)->R (.str (cG ts i)) s') (hF:Zb ts i≠k->∀s',Ck s s' p->RP (Z0 4) s'):
 CE (EK LF) 142 [.ptr p 0,.int .i64 (k:Nat)] s R RP:=by
 refine Ar U ?_;have iA:=Pp (s:=s.enter) ⟨h.at_,h.lt,h.le,h.small⟩;have XT:=h.small;have hle:=h.le;unfold XG at*;obtain⟨c1,c2,c3,c4,c5,c6,c7⟩:=Bg (st:=s.enter) (z:=[.int .i64 0,.str [],.int .i64 0,.int .i64 0]) (cs:=[.int .i64 ((eF ts i).1:Nat),.str (eF ts i).2.1,.int .i64 ((eF ts i).2.2.1:Nat),.int .i64 ((eF ts i).2.2.2:Nat)]) (T:=133);have g1:=(c4 _ h.lt).trans h.at_;have hE:s.enter.bound<=s.enter.next:=Qj _
 have c8:((((s.enter.alloc (.cells [.int .i64 0,.str [],.int .i64 0,.int .i64 0] 133 false)).put s.enter.next (some (.cells [.int .i64 ((eF ts i).1:Nat),.str (eF ts i).2.1,.int .i64 ((eF ts i).2.2.1:Nat),.int .i64 ((eF ts i).2.2.2:Nat)] 133 false))).put p (some (.cells [ln ts,.int .i64 ((i+1:Nat):Int)] 162 false))).heap.get s.enter.next)=some (.cells [.int .i64 ((eF ts i).1:Nat),.str (eF ts i).2.1,.int .i64 ((eF ts i).2.2.1:Nat),.int .i64 ((eF ts i).2.2.2:Nat)] 133 false):=
  (Aw.trans (if_neg (Nat.ne_of_gt h.lt))).trans c2
 focus
  refine Ew U<|Es<|qm U ?_;refine Lo (Av U U (by kernel_rfl) U (iA)) U<|Lo (kz U) U<|Ln (kw U c1 U) U<|Ld<|Es<|Lv 1 U<|Lo (kl U c2 U) U<|Lv 2 U ?_;refine BI (k:=11) U (fun g2=>?_) (fun g2=>?_);have h2:=nT g2;refine Af U U (by kernel_rfl) U U U U (FW ?_);rotate_left;have h2:=nF g2;refine Lo (Av U U (by kernel_rfl) U (FV)) U<|Ld<|Es<|Lv 3 U<|Lo (kl U g1 U) U ?_;refine Lq (ka (b:=1) U (by omega)) U ?_;refine Lv 2 U<|Ln (kw U g1 U) U<|Ld<|Es<|Lv 1 U<|Lo (kl U c8 U) U<|Lw U ?_;rotate_left
 .exact⟨rfl,hF (fun e=>by unfold Zb at e;omega) _ (Ck.back (Ck.own hE U) hb)⟩
 .have e:Zb ts i=k:=by unfold Zb;omega
  exact Se (Al ⟨.inl U,_,U,_,Aa U U,_,Bc U (B7 (.inr h.lt)),hT e _ (Ck.back ((Ck.own hE U).trans Ck.put hE) hb) (h.of (Aw.trans (if_pos U)) (Nat.le_succ _) (MY (by omega)))⟩)
end Go.Proofs.YtfhimfcbphepeaaGreatDoor.Ty
open Go Am
namespace Am
section
variable {E : Env} {fr : Fr} {l : Sl} {st : St} {o : Oper} {all rest : List Oper} {K : Sl -> St -> Prop}
theorem SK {KP:AV->Sl->St->Prop} {c:Call} {t e:TypeId} {ts:List TypeId} {x y:Operand} {VY d:Nat} {z v a:AV} {cs:List AV} (hf:Yx st e v cs) (XT:small (cs.length+1) VY=true)
 (ho:o.op= .call c) (hc:c.callee= .builtin .append) (ht:c.argTypes.toList=t::ts) (ha:c.args.toList=[x,y])
 (hu:CN E t=some (.slice e)) (Xn:sizeOf E e=some 1) (ei:bytesOf E e=some VY) (hz:zeroOf E e=some z) (hk:(!(Nat.beq (WL z.cells) 1)||Nat.beq 1 0|| !(bK E ts.head?))=false) (h0:X5 E ts.head?=false)
 (hx:Ch x l=some v) (hy:Ch y l=some (.slice st.next 0 1 1 (some 1))) (hg:o.guard=none) (hd:o.dst=some d) (Co:Nat.blt d fr.nt=true)
 (h:∀v2 bN,Yx bN e v2 (cs++[a])->(∀c,C6 c v2=true->st.next<=c)->XB st bN (fun c=>C6 c v=true)->(st.bound<=st.next->Ct st bN)->
  CB E KP all rest fr ((d,v2)::l) bN K):CB E KP all (o::rest) fr l (st.alloc (.cells [a] e false)) K:=by
 have hf1:Yx (st.alloc (.cells [a] e false)) e v cs:=hf.Wd (Nat.le_succ _) fun c hc=>Ao (hf.own hc);obtain⟨v2,s2,h1,h2,h3,h4,h5,h6,h7⟩:=hf1.append (VY:=VY) (x:=a) XT;have h4':s2.next=st.next+1+1:=h4;refine CB.op (Zl.append ho hc ht ha hu Xn ei hz hk h0 hx hy (DG (e:=e) (part:=false) A4 U) h1) hg hd Co (h v2 s2 h2 (fun c hc=>?_)
  ⟨by omega,h5,h6,fun c hc ho=>(h7 c (Nat.lt_succ_of_lt hc) (by simpa using ho)).trans (Ao hc)⟩ fun hb=>(Ct.alloc hb).trans (D5 (by show st.bound<=st.next+1;omega) h1))
 have:=h3 c hc;have:(st.alloc (.cells [a] e false)).next=st.next+1:=rfl;omega
end
end Am
namespace Go.Proofs.YtfhimfcbphepeaaGreatDoor.Ty
mutual
def Yp:Sh->AV
 | .mk _ t ks=> .Wl [.str t,CJ (WK ks) ks.length 1]
def WK:List Sh->List AV
 | []=>[]
 |k::ks=>Yp k::WK ks
end
theorem Dq:∀l:List Sh,WK l=l.map Yp
 | []=>rfl
 |_::l=>congrArg _ (Dq l)
theorem Lt (l:List Sh):(WK l).length=l.length:=by rw[Dq,List.length_map]
theorem Om:∀s:Sh,∀n,Cj (n+2) (Yp s)=true
 | .mk _ t ks,n=>by
  show([.str t,CJ (WK ks) ks.length 1]:List AV).all (Cj (n+1))=true;cases ks<;>rfl
theorem M9 (l:List Sh) (n:Nat):(WK l).all (Cj (n+2))=true:=by
 rw[Dq,List.all_map];exact List.all_eq_true.2 fun s _=>Om s n
theorem Vf {s:St} {m n:Nat} (x:Sh) (ks:List Nat):Cs s m (n+1) (Yp x) ks=some (Yp x,ks):=by cases x;rfl
theorem Lu {s:St} {m n:Nat}:∀(l:List Sh) (ks:List Nat),Cs.many (Cs s m (n+1)) (WK l) ks=some (WK l,ks)
 | [],_=>rfl
 |x::l,ks=>by
  show((Cs s m (n+1) (Yp x) ks).bind _)=_;rw[Vf];show((Cs.many (Cs s m (n+1)) (WK l) ks).bind _)=_;rw[Lu l];rfl
theorem Eb (x:Sh):∃cs,Yp x= .Wl cs:=by cases x;exact⟨_,rfl⟩
def ShpC (ts:List XX) (n p:Nat):Prop:=∀(s:St) (i:Nat) (R RP:AV->St->Prop),Rd s p ts i->s.bound<=s.next->ts.length<n+i->(∀a j,Xx ts n i=some (a,j)->∀s',Ck s s' p->Rd s' p ts j->R (Yp a) s')->
 (Xx ts n i=none->∀s',Ck s s' p->RP (Z0 4) s')->CE (EK LF) 34 [.ptr p 0] s R RP
theorem Qy {P:Nat->Option (Sh×Nat)} {ts:List XX} {m j:Nat} (h:fc ts j com=true):j9 P ts (m+1) j=(P (j+1)).bind fun x=>(j9 P ts m x.2).map fun y=>(x.1::y.1,y.2):=if_pos h
theorem Qz {P:Nat->Option (Sh×Nat)} {ts:List XX} {m j:Nat} (h:fc ts j com=false):j9 P ts (m+1) j=if fc ts j cls then some ([],j+1)else none:=if_neg (by rw[h];exact Bool.false_ne_true)
theorem Rd.oS {s st:St} {p i j:Nat} {ts:List XX} (g:Ck s.enter st p) (h:Rd s p ts i) (r:Rd st p ts j) (hn:i≠j):st.log≠ []:=fun hl=>by
 have:=g.ax.same p h.lt (by rw[hl];exact List.not_mem_nil);rw[r.at_]at this;have:=this.trans h.at_;simp only[Option.some.injEq,Cw.cells.injEq,List.cons.injEq,AV.int.injEq,and_true,true_and]at this;omega
def dy (s:St) (v:AV) (l:List Sh):Prop:=(v= .Ca/\l=[])\/Yx s 79 v (WK l)
theorem Sc {ts:List XX} {n p:Nat} (hS:ShpC ts n p) {s:St} {i:Nat} (h:Rd s p ts i) (hb:s.bound<=s.next) (hn:ts.length<=n+i) {R RP:AV->St->Prop}
 (hR:∀l j v s',jh (Xx ts n) ts i=some (l,j)->Ck s s' p->Rd s' p ts j->dy s' v l->(∀c,C6 c v=true->s.next<=c)->R v s') (hP:jh (Xx ts n) ts i=none->∀s',Ck s s' p->RP (Z0 4) s'):
 CE (EK LF) 157 [.ptr p 0,.func (.func 34) [.ptr p 0] []] s R RP:=by
 refine Ar U ?_;have hE:s.enter.bound<=s.enter.next:=Qj _;have h0:Rd s.enter p ts i:=⟨h.at_,h.lt,h.le,h.small⟩
 unfold jh at hR hP;refine Ew U<|Sq<|Es<|qm U ?_;refine Af U U (by kernel_rfl) U U U U (Iq h0 hE (fun ht s1 g1 r1=>?_) fun hf=>?_)
 .rw[if_pos ht]at hR hP;refine Lw U<|Tf U<|Sk<|Es<|qm U ?_;refine Bo (by kernel_rfl) U U U U U U U U (hS _ _ _ _ r1 (g1.Y2 hE) (by omega) (fun a j e1 s2 g2 r2=>?_) fun e1 s2 g2=>?_)
  .rw[e1]at hR hP;have j7:=g1.trans g2 hE;obtain⟨ca,hca⟩:=Eb a;rw[hca];refine Lo (AC U rT rO zZ U U U) U<|Lw U<|Sq<|Sb ?_;obtain⟨s3,aX⟩:∃x,x=s2.alloc (.cells [Yp a] 79 false):=⟨_,rfl⟩
   have g3:Ck s.enter s3 p:=by rw[aX];exact j7.trans (Ck.alloc (j7.Y2 hE)) hE
   have f3:Yx s3 79 (.slice s2.next 0 1 1 (some 1)) (WK [a]):=by rw[aX];exact Yx.new A4 (Nat.lt_succ_self _) (fun h=>by cases h) rfl
   have r3:Rd s3 p ts j:=r2.of (by rw[aX];exact(Ao r2.lt).trans r2.at_) (by rw[aX];exact Nat.le_succ _) r2.le;have aC:=j7.Wh.next;have aC:s.next<=s2.next:=aC;have hj:=FT ts n _ _ _ e1;show Cz _ _ _ _ (s2.alloc (.cells [.Wl ca] 79 false)) _;rw[<-hca,<-aX];refine Ai (fun x:Nat×Nat×AV×St×List Sh=>([(5,x.2.2.1),(1,.func (.func 34) [.ptr p 0] []),(0,.ptr p 0)],x.2.2.2.1)) (fun x=>x.1)
    (fun x=>ts.length<x.1+x.2.1/\i+1<x.2.1/\Ck s.enter x.2.2.2.1 p/\Rd x.2.2.2.1 p ts x.2.1/\Yx x.2.2.2.1 79 x.2.2.1 (WK x.2.2.2.2)/\(∀c,C6 c x.2.2.1=true->s.next<=c)/\x.2.2.2.2.length<=x.2.1/\
     ((j9 (Xx ts n) ts ts.length j).map fun y=>(a::y.1,y.2))=(j9 (Xx ts n) ts x.1 x.2.1).map fun y=>(x.2.2.2.2++y.1,y.2))
    (ts.length,j,_,s3,[a]) ⟨by dsimp only;omega,hj.1,g3,r3,f3,fun c hc=>by have:s2.next=c:=Qb hc;omega,by show 1<=j;omega,rfl⟩ rfl (Ah (by repeat' constructor)) ?_
   rintro⟨m,k,v,st,acc⟩ ⟨hm,hik,hg,hr,hf,YG,uB,hT⟩;dsimp only at hm hik hg hr hf YG uB hT|-;have jn:=hg.Y2 hE;refine Sq<|Es<|qm U ?_;refine Af U U (by kernel_rfl) U U U U (Iq hr jn (fun ht s4 g4 r4=>?_) fun hf2=>?_)
   .refine Ld ?_;refine Tt U<|Sk<|Sb<|Sr<|Lv 2 U ?_;have l4:=Pf ht;obtain⟨m,rfl⟩:∃q,m=q+1:=⟨m-1,by omega⟩
    rw[Qy ht]at hT;refine Bo (by kernel_rfl) U U U U U U U U (hS _ _ _ _ r4 (g4.Y2 jn) (by omega) (fun a2 j2 e2 s5 g5 r5=>?_) fun e2 s5 g5=>?_)
    .rw[e2]at hT;have g45:=g4.trans g5 jn;have hj2:=FT ts n _ _ _ e2;have ox:=hg.trans g45 hE;have hf5:Yx s5 79 v (WK acc):=hf.Wd g45.Wh.next fun c hc=>g45.Wh.heap c (hf.own hc) fun e=>by have:=YG c hc;have:=h.lt;omega
     have hn5:s.next<=s5.next:=ox.Wh.next;obtain⟨ca2,xu⟩:=Eb a2;rw[xu];refine Lo (AC U rT rO zZ U U U) U ?_;have hla:(WK acc).length=acc.length:=Lt acc;have hrl:=r5.le;have hrs:=r5.small;refine SK hf5 (VY:=8) (AH (by omega) (by decide)) U U U U rT rO by_79 zZ (by kernel_rfl) (by kernel_rfl) U U U U U fun v6 s6 f6 o6 c6 l6=>?_;have hn6:=c6.next;refine Lw U ?_;refine⟨(m,j2,v6,s6,acc++[a2]),⟨by dsimp only;omega,by dsimp only;omega,⟨ox.Wh.trans c6 (fun _ h=>h) (fun c h=> .inr (YG c h)) hE,ox.ax.trans (l6 (ox.Y2 hE))⟩,⟨(c6.heap p r5.lt fun e=>by have:=YG p e;have:=h.lt;omega).trans r5.at_,Nat.lt_of_lt_of_le r5.lt hn6,r5.le,r5.small⟩,?_,fun c hc=>by have:=o6 c hc;omega,?_,?_⟩,by dsimp only;omega,rfl,rfl,Ah (by repeat' constructor)⟩
     .show Yx s6 79 v6 (WK (acc++[a2]));rw[Dq,List.map_append,<-Dq];show Yx s6 79 v6 (WK acc++[Yp a2]);rw[xu];exact f6
     .show(acc++[a2]).length<=j2;rw[Ql];show acc.length+1<=j2;omega
     .rw[hT];dsimp only;rw[Qe,Option.map_map]
      congr 1
      funext y
      show(acc++a2::y.1,y.2)=(acc++[a2]++y.1,y.2)
      rw[List.append_assoc];rfl
    .rw[e2]at hT;exact⟨U,hP (by rw[Qe,hT];rfl) _ ((hg.trans (g4.trans g5 jn) hE).back hb)⟩
   .refine Ld ?_;refine Tf U<|Sx<|A8 U<|Es<|qm U ?_;have lF:m≠0:=by have:=hr.le;omega
    obtain⟨m,rfl⟩:∃q,m=q+1:=⟨m-1,by omega⟩
    rw[Qz hf2]at hT;refine Af U U (by kernel_rfl) U U U U (LN hr jn (fun ht s4 g4 r4=>?_) fun hf3=>?_)
    .rw[if_pos ht]at hT;refine Ld<|Ew U ?_;have g44:=hg.trans g4 hE;exact Se (Al ⟨.inl U,_,rfl,_,Aa U U,_,Bc U (Rd.oS g44 h r4 (by omega)),hR acc (k+1) v _ (by rw[Qe,hT,Option.map_some,List.append_nil]) (g44.back hb) ⟨r4.at_,r4.lt,r4.le,r4.small⟩ (.inr (hf.Wd g4.Wh.next fun c hc=>g4.Wh.heap c (hf.own hc) fun e=>by have:=YG c hc;have:=h.lt;omega)) YG⟩)
    .rw[if_neg (by rw[hf3];exact Bool.false_ne_true)]at hT;exact⟨U,hP (by rw[Qe,hT];rfl) _ (hg.back hb)⟩
  .rw[e1]at hP;exact⟨U,hP U _ ((g1.trans g2 hE).back hb)⟩
 .rw[if_neg (by rw[hf];exact Bool.false_ne_true)]at hR;refine Lw U<|Tt U<|Ew U ?_;exact Se (Al ⟨.inl U,_,rfl,_,Aa U U,AL U (fun _ _=>rfl) (fun _=>rfl) (fun _=>hR _ _ _ _ U Ck.refl h (.inl ⟨rfl,rfl⟩) (fun _ h=>by cases h)) (fun hl=>absurd U hl)⟩)
end Go.Proofs.YtfhimfcbphepeaaGreatDoor.Ty
open Go Am
namespace Am
theorem Gf {E:Env} {f:FuncId} {v w:AV} {s st:St} {ks:List Nat} (hf:E.j0 f=3) (hl:st.log≠ []) (hz:oK st v=some (w,ks)) (hk:∀b∈ks,st.bound<=b):leave E f s v st=some (.val w (s.back (kill st ks))):=by
 unfold leave frozen;rw[hf];simp only;show((eN v st).bind _)=_;unfold eN;rw[hz];simp only[Qe];unfold YF;rw[GP hk];cases hh:st.log with
 |nil=>exact absurd hh hl
 |cons a b=>rfl
end Am
namespace Go.Proofs.YtfhimfcbphepeaaGreatDoor.Ty
theorem Ck.kill {s st:St} {p:Nat} {ks:List Nat} (g:Ck s st p) (hk:∀b∈ks,s.next<=b) (hb:s.bound<=s.next):Ck s (kill st ks) p:=⟨XB.kill g.Wh hk hb,Ct.kill g.ax⟩
theorem Rd.kill {s st:St} {p i:Nat} {ts:List XX} {ks:List Nat} (r:Rd st p ts i) (hk:∀b∈ks,s.next<=b) (hp:p<s.next):Rd (kill st ks) p ts i:=⟨(GO fun h=>by have:=hk p h;omega).trans r.at_,by rw[BQ];exact r.lt,r.le,r.small⟩
theorem dy.j0 {s:St} {v:AV} {l:List Sh} (h:dy s v l) (m:Nat) (ks:List Nat):∃k2,Cs s 0 (m+2) v ks=some (CJ (WK l) l.length 1,k2++ks)/\∀b∈k2,C6 b v=true:=by
 rcases h with⟨rfl,rfl⟩|⟨b,cap,part,rfl,h0,hb,hg,hc⟩
 .exact⟨[],rfl,fun b hb=>by cases hb⟩
 .refine⟨[b],?_,fun c hc=>by rw[Qn.1 hc];exact Nat.beq_refl b⟩;rw[GS (Qm _) hg (Nat.mul_one _).symm (Lu l ks),M9 l 38,Lt];unfold CJ;cases l with
  |nil=>exact absurd rfl h0
  |cons a l=>rfl
theorem Tu {s:St} {b o:Nat} {t:List UInt8} {v:AV} {l:List Sh} (hg:s.heap.get b=some (.cells [.str t,v] 165 false)) (h:dy s v l):∃ks,oK s (.ptr b 0)=some (Yp (.mk o t l),b::ks)/\∀c∈ks,C6 c v=true:=by
 obtain⟨k2,h1,h2⟩:=h.j0 37 [];refine⟨k2++[],?_,fun c hc=>h2 c (by simpa using hc)⟩;show((Wp (s.heap.get b)).bind _)=_;rw[hg];show((Cs.many (Cs s 0 39) [.str t,v] []).bind _)=_;have:Cs.many (Cs s 0 39) [.str t,v] []=some ([.str t,CJ (WK l) l.length 1],k2++[]):=by
  show((Cs.many (Cs s 0 39) [v] []).bind _)=_;show((((Cs s 0 39 v []).bind _)).bind _)=_;rw[h1];rfl
 rw[this];rfl
theorem dy.form {s:St} {v:AV} {l:List Sh} (h:dy s v l):v= .Ca\/∃b n c,v= .slice b 0 n 1 c:=by
 rcases h with⟨rfl,_⟩|⟨b,cap,part,rfl,_⟩
 .exact .inl U
 .exact .inr ⟨_,_,_,U⟩
theorem Ly {s:St} (x:Sh):oK s (Yp x)=some (Yp x,[]):=by cases x;rfl
theorem dy.Wd {s s':St} {v:AV} {l:List Sh} (h:dy s v l) (hn:s.next<=s'.next) (hh:∀c,C6 c v=true->s'.heap.get c=s.heap.get c):dy s' v l:=h.imp id fun h=>h.Wd hn hh
theorem dy.own {s:St} {v:AV} {l:List Sh} (h:dy s v l) {c:Nat} (hc:C6 c v=true):c<s.next:=by
 rcases h with⟨rfl,_⟩|h
 .cases hc
 .exact h.own hc
theorem J7 {f:FuncId} (hf:(EK LF).j0 f=3) {s s1:St} {p i j o:Nat} {ts:List XX} {t:List UInt8} {v:AV} {l:List Sh} (h:Rd s p ts i) (hb:s.bound<=s.next) (g1:Ck s.enter s1 p) (r1:Rd s1 p ts j) (hij:i≠j) (hL:dy s1 v l) (fB:∀c,C6 c v=true->s.next<=c):
 ∃s',leave (EK LF) f s (.ptr s1.next 0) (s1.alloc (.cells [.str t,v] 165 false))=some (.val (Yp (.mk o t l)) s')/\Ck s s' p/\Rd s' p ts j:=by
 have hn:s.next<=s1.next:=g1.Wh.next;have hE:s.enter.bound<=s.enter.next:=Qj _;obtain⟨ks,hz,hk⟩:=Tu (s:=s1.alloc (.cells [.str t,v] 165 false)) (o:=o) A4 (hL.Wd (Nat.le_succ _) fun c hc=>Ao (hL.own hc));have gD:∀b∈s1.next::ks,s.next<=b:=fun b hb=>by
  rcases Qk.1 hb with rfl|hb
  .exact hn
  .exact fB b (hk b hb)
 have ga:Ck s.enter (s1.alloc (.cells [.str t,v] 165 false)) p:=g1.trans (Ck.alloc (g1.Y2 hE)) hE;have ra:Rd (s1.alloc (.cells [.str t,v] 165 false)) p ts j:=r1.of ((Ao r1.lt).trans r1.at_) (Nat.le_succ _) r1.le;refine⟨_,Gf hf (Rd.oS ga h ra hij) hz fun b hb=>by rw[ga.Wh.bound];exact gD b hb,(ga.kill gD hE).back hb,?_⟩;have rk:=ra.kill gD h.lt;exact⟨rk.at_,rk.lt,rk.le,rk.small⟩
theorem xx {ts:List XX} {n p:Nat} (hS:ShpC ts n p) {s:St} {i:Nat} (h:Rd s p ts i) (hb:s.bound<=s.next) (hn:ts.length<=n+i) {R RP:AV->St->Prop}
 (hR:∀a j,dE (Xx ts n) ts i=some (a,j)->∀s',Ck s s' p->Rd s' p ts j->R (Yp a) s') (hP:dE (Xx ts n) ts i=none->∀s',Ck s s' p->RP (Z0 4) s'):
 CE (EK LF) 88 [.ptr p 0] s R RP:=by
 refine Ar U ?_;have hE:s.enter.bound<=s.enter.next:=Qj _;have h0:Rd s.enter p ts i:=⟨h.at_,h.lt,h.le,h.small⟩
 have si:=is_to h0;unfold dE at hR hP;focus
  refine Ew U<|Sq<|Sb<|Es<|qm U ?_;refine Lo (Av U U (by kernel_rfl) U (si _)) U<|Lw U ?_;refine Cb U (fun g1=>?_) (fun g1=>?_);have h1:=dT g1;refine Es<|qm U ?_;rotate_left;have h1:=dF g1;refine Es<|qm U ?_;refine Lo (Av U U (by kernel_rfl) U (si _)) U<|Lw U ?_;refine Cb U (fun g2=>?_) (fun g2=>?_);have h2:=dT g2;refine Es<|qm U ?_;rotate_left;have h2:=dF g2;refine Sk<|Es<|qm U ?_;rotate_left
 .rw[if_pos (by omega)]at hR hP;refine Af U U (by kernel_rfl) U U U U (QB (k:=1) h0 hE (by decide) (fun ht s1 g1 r1=>?_) fun hf s1 g1=>?_)
  .refine Lv 1 U ?_;refine Lo (AO U U U) U<|Lw U ?_;obtain⟨s',hl,g2,r2⟩:=J7 (f:=88) (o:=100) (t:=cG ts i) rfl h hb g1 r1 (by omega) (.inl ⟨rfl,rfl⟩) (fun _ h=>by cases h);exact Se (Al ⟨.inl U,_,U,_,Aa U U,_,hl,hR _ _ U s' g2 r2⟩)
  .exact absurd (by omega) hf
 .rw[if_neg (by omega),if_pos (by omega)]at hR hP;refine Af U U (by kernel_rfl) U U U U (QB (k:=2) h0 hE (by decide) (fun ht s1 g1 r1=>?_) fun hf s1 g1=>?_)
  .refine Lw U ?_;refine Es<|Lv 4 U ?_;refine Af U U (by kernel_rfl) U U U U (Sc hS r1 (g1.Y2 hE) (by omega) (fun l j v s2 e1 g2 r2 hL fB=>?_) fun e1 s2 g2=>?_)
   .rw[e1]at hR;have hij:=wV (FT ts n) r1.le e1;obtain⟨s',hl,g3,r3⟩:=J7 (f:=88) (o:=101) (t:=cG ts i) rfl h hb (g1.trans g2 hE) r2 (by omega) hL (fun c hc=>Nat.le_trans g1.Wh.next (fB c hc));rcases hL.form with rfl|⟨b,k,c,rfl⟩
    .refine Lv 1 U ?_;refine Lo (AO U U U) U<|Lw U ?_;exact Se (Al ⟨.inl U,_,U,_,Aa U U,_,hl,hR _ _ U s' g3 r3⟩)
    .refine Lv 1 U ?_;refine Lo (AO U U U) U<|Lw U ?_;exact Se (Al ⟨.inl U,_,U,_,Aa U U,_,hl,hR _ _ U s' g3 r3⟩)
   .rw[e1]at hP;exact⟨U,hP U _ ((g1.trans g2 hE).back hb)⟩
  .exact absurd (by omega) hf
 .rw[if_neg (by omega),if_neg (by omega)]at hR hP
  skip
  refine Af U U (by kernel_rfl) U U U U (LN h0 hE (fun ht s1 g1 r1=>?_) fun hf=>?_)
  .rw[if_pos ht]at hR hP;refine Ld<|Es<|qm U ?_;refine Af U U (by kernel_rfl) U U U U (hS _ _ _ _ r1 (g1.Y2 hE) (by omega) (fun a j e1 s2 g2 r2=>?_) fun e1 s2 g2=>?_)
   .rw[e1]at hR hP;have j7:=g1.trans g2 hE;have hj:=FT ts n _ _ _ e1;refine Lw U<|Es<|qm U ?_;refine Af U U (by kernel_rfl) U U U U (LN r2 (j7.Y2 hE) (fun ht s3 g3 r3=>?_) fun hf=>?_)
    .have tF:=j7.trans g3 hE;refine Ld<|Ew U ?_;refine Se (Al ⟨.inl U,_,rfl,_,Aa U U,_,Gf U (Rd.oS tF h r3 (by omega)) (Ly a) (fun b hb=>by cases hb),hR a (j+1) (by rw[Qe,if_pos ht]) _ (tF.back hb) ⟨r3.at_,r3.lt,r3.le,r3.small⟩⟩)
    .exact⟨U,hP (by rw[Qe,if_neg (by rw[hf];exact Bool.false_ne_true)]) _ (j7.back hb)⟩
   .rw[e1]at hP;exact⟨U,hP U _ ((g1.trans g2 hE).back hb)⟩
  .rw[if_neg (by rw[hf];exact Bool.false_ne_true)]at hP;exact⟨U,hP U _ Ck.refl⟩
theorem ID (ts:List XX) (p:Nat):∀n,ShpC ts n p
 |0=>fun s i R RP h hb hn _ _=>by have:=h.le;omega
 |n+1=>by
  intro s i R RP h hb hn hR hP;refine Ar U ?_;have hE:s.enter.bound<=s.enter.next:=Qj _;have h0:Rd s.enter p ts i:=⟨h.at_,h.lt,h.le,h.small⟩
  unfold Xx at hR hP;refine Ew U<|Es<|qm U ?_;refine Af U U (by kernel_rfl) U U U U (xx (ID ts p n) h0 hE (by omega) (fun a j e1 s1 g1 r1=>?_) fun e1 s1 g1=>?_)
  .rw[e1,Qe]at hR hP;have hj:=TG (FT ts n) _ _ _ e1;refine Lw U<|Sq<|Es<|qm U ?_;refine Af U U (by kernel_rfl) U U U U (Iq r1 (g1.Y2 hE) (fun ht s2 g2 r2=>?_) fun hf=>?_)
   .rw[if_pos ht]at hR hP;have j7:=g1.trans g2 hE;refine Ld<|Tt U<|Es<|Lv 2 U ?_;refine Af U U (by kernel_rfl) U U U U (ID ts p n _ _ _ _ r2 (j7.Y2 hE) (by omega) (fun a2 j2 e2 s3 g3 r3=>?_) fun e2 s3 g3=>?_)
    .rw[e2]at hR;have tF:=j7.trans g3 hE;have hj2:=FT ts n _ _ _ e2;obtain⟨ca,hca⟩:=Eb a;obtain⟨ca2,xu⟩:=Eb a2;rw[hca,xu];refine Lo (AC U rT rO zZ U U U) U<|Lv 1 U<|Lo (AO U U U) U<|Lw U ?_;have g3a:Ck s.enter (s3.alloc (.cells [Yp a,Yp a2] 79 false)) p:=tF.trans (Ck.alloc (tF.Y2 hE)) hE;have r3a:Rd (s3.alloc (.cells [Yp a,Yp a2] 79 false)) p ts j2:=r3.of ((Ao r3.lt).trans r3.at_) (Nat.le_succ _) r3.le;have vD:s.next<=s3.next:=tF.Wh.next;obtain⟨s',hl,g4,r4⟩:=J7 (f:=34) (o:=102) (t:=[]) (v:= .slice s3.next 0 2 1 (some 2)) (l:=[a,a2]) rfl h hb g3a r3a (by omega) (.inr (Yx.new A4 (Nat.lt_succ_self _) (fun h=>by cases h) rfl)) (fun c hc=>by have:s3.next=c:=Qb hc;omega);rw[hca,xu]at hl;refine Se (Al ⟨.inl U,_,U,_,Aa U U,.val _ s',hl,?_⟩);exact hR _ _ U s' g4 r4
    .rw[e2]at hP;exact⟨U,hP U _ ((j7.trans g3 hE).back hb)⟩
   .rw[if_neg (by rw[hf];exact Bool.false_ne_true)]at hR;refine Ld<|Tf U<|Sk<|Ew U ?_;exact Se (Al ⟨.inl U,_,rfl,_,Aa U U,_,Gf U (Rd.oS g1 h r1 (by omega)) (Ly a) (fun b hb=>by cases hb),hR a j U _ (g1.back hb) ⟨r1.at_,r1.lt,r1.le,r1.small⟩⟩)
  .rw[e1]at hP;exact⟨U,hP U _ (g1.back hb)⟩
end Go.Proofs.YtfhimfcbphepeaaGreatDoor.Ty
open Go Am
namespace Am
theorem IY {st:St}:st.merged (st.sub st.heap)=st:=by
 unfold St.merged;show St.mk st.next st.bound (below st.bound [] st.log) (W8 st.heap (YO st.next (st.next-st.next)) (W8 st.heap [] st.heap))=st;rw[Nat.sub_self];rfl
theorem Uu {E:Env} {f:FuncId} {b o:Nat} {s st:St} (hf:E.j0 f=1) (hl:st.log=[]) (hb:s.next<=b):leave E f s (.ptr b o) st=some (.val (.ptr b o) (s.back st)):=by
 have hu:Cr s.next 40 (.ptr b o)=false:=by
  show Nat.blt b s.next=false;cases h:Nat.blt b s.next with
  |false=>rfl
  |true=>
   have:b<s.next:=Qc h;omega
 have hz:frozen E f s (.ptr b o) st=some (.ptr b o,st):=by
  unfold frozen;rw[hf,hl];rfl
 unfold leave;rw[hz];show some (YF s (.ptr b o) st st.log)=_;rw[hl];show some (bif Cr s.next 40 (.ptr b o)then _ else _)=_;rw[hu];rfl
section
variable {E : Env} {fr : Fr} {l : Sl} {st : St} {o : Oper} {all : List Oper} {i : Nat} {js : List Nat} {nl : Wu} {K : Sl -> St -> Prop} {od : Option Nat}
theorem HK {KN:PN} {c:Call} {f:Nat} {args:List AV} (hrl:KN.rl=[]) (hb:C7 E f=true) (ho:o.op= .call c) (hc:c.callee= .value (.func f)) (ha:WV c.args.toList (CQ (tmpsOf o.op.operands.toList) l)=some args)
 (h:CE E f args (st.sub st.heap) (fun v s2=>s2=st.sub st.heap/\K (Xp od v l) st) (fun v s2=>s2=st.sub st.heap/\KN.WR v st)) (g9:(js.all fun j=>Nat.testBit (CZ all i) j)=true) (dx:(nl.all fun p=>Nat.testBit (CZ all i) p.1)=true) (hg:CY all l o) (hd:o.dst=od) (Co:WB fr.nt od=true):
 CK E KN all [o] i fr l st js nl K:=by
 refine En hb ho hc ha h (fun j hj=> .inl (List.all_eq_true.1 g9 j hj)) dx hg hd Co ?_ ?_
 .rintro v s2 ⟨rfl,hk⟩;refine⟨Qj _,(fun b hb=>by cases hb),(fun e he=>by rw[hrl]at he;cases he),fun iD _=>?_⟩;rw[IY];exact BT hk
 .rintro v s2 ⟨rfl,hk⟩;refine⟨Qj _,(fun b hb=>by cases hb),(fun e he=>by rw[hrl]at he;cases he),?_⟩;rw[IY];exact⟨hk,pz.done⟩
end
end Am
namespace Go.Proofs.YtfhimfcbphepeaaGreatDoor.Ty
theorem xy {s:St} {b:Bool} {e:Int} {R RP:AV->St->Prop} (hR:b=false->R (.tuple []) s) (hP:b=true->RP (Z0 e) s):CE (EK LF) 31 [.bool b,.int .i64 e] s R RP:=by
 cases b with
 |false=>exact(JG (RP:=fun _ _=>False) (FV).runsR).mono (fun v t h=>by rw[h.1,h.2];exact hR rfl) (fun _ _ h=>h.elim)
 |true=>exact FW (hP rfl)
theorem Gb (w:List UInt8):(Cv w).1.length<=w.length+1:=LY ..
theorem Ti (ts:List XX):ln ts= .Ca\/∃cs n,ln ts= .Cf cs n 4 true:=by
 cases ts with
 |nil=>exact .inl rfl
 |cons a l=>exact .inr ⟨_,_,rfl⟩
theorem RG {s:St} {w:List UInt8} (hw:w.length<=4000) (hb:s.bound<=s.next) {R RP:AV->St->Prop} (h3:3000<w.length->RP (Z0 3) s) (h4:w.length<=3000->(Cv w).2≠none->RP (Z0 4) s)
 (hR:w.length<=3000->(Cv w).2=none->∀p s',s.next<=p->XB s s' (fun _=>False)->Rd s' p (Cv w).1 0->R (.ptr p 0) s'):CE (EK LF) 33 [.str w] s R RP:=by
 refine Ar U ?_;have Zr:LF 76 [.str w]=some (db w):=hq_76 hw;have hE:s.enter.bound<=s.enter.next:=Qj _;unfold db at Zr;by_cases h:3000<w.length
 .rw[if_pos h]at Zr;unfold errV at Zr;refine Ew U<|Es<|qm U ?_;refine Lo (kc U (Zr)) U<|Lw U<|Es<|Lv 3 U ?_;refine Af U U (by kernel_rfl) U U U U (FW ?_);exact⟨U,h3 h⟩
 .rw[if_neg h]at Zr;cases hs:(Cv w).2 with
  |some n=>
   rw[hs]at Zr;unfold errV at Zr;refine Ew U<|Es<|qm U ?_;refine Lo (kc U (Zr)) U<|Lw U<|Es<|Lv 3 U ?_;refine Af U U (by kernel_rfl) U U U U (FW ?_);exact⟨U,h4 (by omega) (by rw[hs];exact Option.some_ne_none _)⟩
  |none=>
   rw[hs]at Zr;have hR:=hR (by omega) hs;have XT:(Cv w).1.length<=100000:=by have:=Gb w;omega
   unfold fz at Zr;obtain⟨V,hV⟩:∃V,V=ln (Cv w).1:=⟨_,rfl⟩
   have hq:∀s':St,s'.heap.get s.next=some (.cells [V,.int .i64 0] 162 false)->s'.next=s.next+1->Rd s' s.next (Cv w).1 0:=fun s' h h2=>⟨by rw[h,hV];rfl,by omega,Qm _,XT⟩;have Yg:leave (EK LF) 33 s (.ptr s.next 0) (s.enter.alloc (.cells [V,.int .i64 0] 162 false))=some (.val (.ptr s.next 0) (s.back (s.enter.alloc (.cells [V,.int .i64 0] 162 false)))):=Uu rfl rfl (Qj _);have ZM:R (.ptr s.next 0) (s.back (s.enter.alloc (.cells [V,.int .i64 0] 162 false))):=hR _ _ (Qj _) (XB.back XB.alloc) (hq _ A4 rfl);have Zr:LF 76 [.str w]=some (.tuple [V,.int .i64 (0:Nat)]):=by rw[hV];exact Zr
   rcases Ti (Cv w).1 with e|⟨cs,n,e⟩
   .rw[e]at hV;subst hV;refine Ew U<|Es<|qm U ?_;refine Lo (kc U (Zr)) U<|Lw U<|Es<|Lv 3 U ?_;refine Lo (Av U U (by kernel_rfl) U (FV)) U<|Ld<|Es<|Lv 2 U<|Lo (AO U U U) U<|Lw U ?_;exact Se (Al ⟨.inl U,_,U,_,Aa U U,_,Yg,ZM⟩)
   .rw[e]at hV;subst hV;refine Ew U<|Es<|qm U ?_;refine Lo (kc U (Zr)) U<|Lw U<|Es<|Lv 3 U ?_;refine Lo (Av U U (by kernel_rfl) U (FV)) U<|Ld<|Es<|Lv 2 U<|Lo (AO U U U) U<|Lw U ?_;exact Se (Al ⟨.inl U,_,U,_,Aa U U,_,Yg,ZM⟩)
theorem end_run {s:St} {p i:Nat} {ts:List XX} (h:Rd s p ts i) (hb:s.bound<=s.next) {R RP:AV->St->Prop} (hR:i=ts.length->R (.tuple []) s) (hP:i≠ts.length->RP (Z0 4) s):
 CE (EK LF) 35 [.ptr p 0] s R RP:=by
 refine CE.unit (fn:=Tryz.f35) U (by kernel_rfl) U U U U ?_;have h0:s.enter.heap.get p=_:=h.at_;have hl:=KC ts;refine Eo (by kernel_rfl)<|Nv 3 U<|Nm U h0 U (.inl U) U<|Nv 3 U<|Nm U h0 U (.inl U) U<|Nq (kn U hl) U<|Nv 1 U ?_;refine HK U (by kernel_rfl) U U U (xy (fun hf=>⟨rfl,?_⟩) fun ht=>⟨rfl,rfl,hP (by have:=dT ht;omega)⟩) (by kernel_rfl) (by kernel_rfl) (.inl U) U U;have hi:=hR (by have:=dF hf;have:=h.le;omega);exact⟨.inr U,rfl,fun _=>hi,hi⟩
end Go.Proofs.YtfhimfcbphepeaaGreatDoor.Ty
open Go Am
namespace Am
section
variable {E : Env} {fr : Fr} {l : Sl} {st : St} {o : Oper} {all rest : List Oper} {i : Nat} {js : List Nat} {nl : Wu} {K : Sl -> St -> Prop} {od : Option Nat}
theorem FO {KN:PN} {t:TypeId} {a:Operand} {v:AV} {b off:Nat} (ho:o.op= .load t a) (ha:Ch a (CQ (tmpsOf o.op.operands.toList) l)=some (.ptr b off)) (hv:Wy E t st (.ptr b off)=some v)
 (hc:WC (CZ all i) b nl=true) (hg:CY all l o) (hd:o.dst=od) (Co:WB fr.nt od=true)
 (h:CK E (KN.add (i,b,fun _ _=>False)) all rest (i+1) fr (Xp od v l) st (i::js) nl K):CK E KN all (o::rest) i fr l st js nl K:=by
 intro T0 T news looked hT bM fX iY;let dd:jL:=YU E all i o
 let q:aW:=⟨T,st,news,looked⟩
 let TP:=XF T (tmpsOf o.op.operands.toList) .nil
 let H:=Tr.set .nil b (st.heap.get b)
 let re:=hZ dd q (.block b,v,st.sub H)
 have ZW:dd.so= .read (Cg E a) fun T s=>(Cg E a T).bind (Wy E t s):=by
  show Xz E o.type o.op=_;rw[ho];rfl
 have hTP:Has (CQ (tmpsOf o.op.operands.toList) l) TP:=hT.CQ _;obtain⟨M,ex,l',T',s',hk,hr⟩:=h T0 (ix od v T) news ((i,.block b,re)::looked) (hT.Xp od v) bM (fun p hp=>by
  rcases Qk.1 hp with rfl|hp
  .exact .inl (Qh ..)
  .exact(fX p hp).imp (Qg _) id) ⟨fun e he=>by
   rcases Qk.1 he with rfl|he
   .exact Nat.lt_succ_self _
   .exact Nat.lt_succ_of_lt (iY.1 e he),(iY.cons (dH:= .block b) (re:=re)).2.1,fun p hp e he x=>by
   rcases Qk.1 he with rfl|he
   .rcases Qk.1 hp with rfl|hp
    .exact⟨rfl,fun _ _ h=>h.elim⟩
    .have:=iY.2.1 p hp;have x:p.1=i:=x;omega
   .exact(iY.cons (dH:= .block b) (re:=re)).2.2 p hp e he x⟩
 refine⟨M,ex,l',T',s',hk,fun n hn=>?_⟩;have eZ:Yj E (ev E n) fr dd q TP=some (.block b,v,st.sub H):=by
  unfold Yj;rw[ZW];show ZB (dZ (ZA (Cg E a TP))) _=_;have ht:dZ (ZA (Cg E a TP))= .block b:=by rw[Ae hTP ha];rfl
  rw[ht];show ZB (.block b) (X0 (fun v=>K0.run (ev E n) fr TP v (st.sub (Wv dd.Wf news st.heap (Xh (.read (Cg E a) fun T s=>(Cg E a T).bind (Wy E t s)) TP)))) ((Cg E a TP).bind (Wy E t (st.sub (Wv dd.Wf news st.heap (Xh (.read (Cg E a) fun T s=>(Cg E a T).bind (Wy E t s)) TP))))))=_;have ht2:Xh (.read (Cg E a) fun T s=>(Cg E a T).bind (Wy E t s)) TP= .block b:=ht;have hs:Wv dd.Wf news st.heap (.block b)=H:=by
   show(bif Yn (CZ all i) b news then _ else _)=_;rw[By hc bM];rfl
  rw[ht2,hs,Ae hTP ha];have:Wy E t (st.sub H) (.ptr b off)=some v:=(Jf (by show(Tr.set .nil b (st.heap.get b)).get b=_;rw[Ay,if_pos rfl])).trans hv;simp only[Qe,this,X0];rfl
 exact DQ (runN hT hg eZ) (Hx (nt:=fr.nt) (d:=dd) (q:=q) (dH:= .block b) (v:=v) (H:=H) (od:=od) hd Co) (hr n (by omega))
end
end Am
namespace Go.Proofs.YtfhimfcbphepeaaGreatDoor.Ty
structure DR (s:St) (p:Nat) (ts:List XX) (i:Nat) (b:Bool):Prop where
 at_:s.heap.get p=some (.cells [ln ts,.int .i64 (i:Nat),.bool b] 93 false)
 lt:p<s.next
 le:i<=ts.length
 small:ts.length<=100000
theorem dis_to {s:St} {p i:Nat} {b:Bool} {ts:List XX} (h:DR s p ts i b) (w:List UInt8):Cc (EK LF) 172 [.ptr p 0,.str w] s (.bool (!b&&fc ts i w)):=by
 obtain⟨hg,Co,hle,XT⟩:=h;refine Cc.flat (fn:=Tryz.f172) U (by kernel_rfl) U U U U (fun _ _=>rfl) (fun _=>rfl) ?_;have hl:=KC ts;have g1:s.enter.heap.get p=some (.cells [ln ts,.int .i64 (i:Nat),.bool b] 93 false):=hg;cases b with
 |true=>
  refine Ew U<|Ag (by kernel_rfl)<|Nv 3 U<|Nm U g1 U (.inl U) U<|Nw U ?_;exact Se ⟨.inl U,U,U,_,Aa U U,U⟩
 |false=>
  by_cases hi:i<ts.length
  .have qG:=PV hi;have e:eF ts i=ts[i]:=PW hi;unfold fc cG Zb;rw[e];generalize ts[i]=t at*;unfold XG at*;focus
    refine Ew U<|Ag (by kernel_rfl)<|Nv 3 U<|Nm U g1 U (.inl U) U<|Nv 5 U<|Nm U g1 U (gG U) U<|Nv 3 U<|Nm U g1 U (gG U) U<|Nz (kn U hl) U U<|Nv 3 U ?_;refine Dd U (fun h2=>?_) (fun h2=>?_);refine Nv 3 U<|Nm U g1 U (gG U) U<|Nv 3 U<|Nm U g1 U (gG U) U<|Nz (kv U qG) U U<|Nv 3 U<|Nz (A2 U CT U U U U) U U<|Nv 2 U ?_;refine Db U (fun g3=>?_) (fun g3=>?_);have h3:=bT g3;refine Nv 3 U<|Nm U g1 U (gG U) U<|Nv 3 U<|Nm U g1 U (gG U) U<|Nz (kv U qG) U U<|Nv 4 U ?_;refine Dd U (fun h4=>?_) (fun h4=>?_);refine Nw U ?_;rotate_left;refine Nv 3 U<|Nm U g1 U (gG U) U<|Nv 3 U<|Nm U g1 U (gG U) U<|Nz (kv U qG) U U<|Nw U ?_;rotate_left;have h3:=bF g3;refine Nw U ?_;rotate_left;exact absurd h2 (by omega)
   .refine Se ⟨.inl U,U,U,_,Aa U U,congrArg AV.bool ?_⟩;rw[show Cp t.2.1 w=true by assumption,show t.1=3 by omega];rfl
   .refine Se ⟨.inl U,U,U,_,Aa U U,congrArg AV.bool ?_⟩;rw[show Cp t.2.1 w=true by assumption,decide_eq_false (show¬t.1=3 by omega),Bool.or_false];exact decide_eq_decide.2 (by omega)
   .refine Se ⟨.inl U,U,U,_,Aa U U,congrArg AV.bool ?_⟩;rw[show Cp t.2.1 w=false by assumption];rfl
  .rw[xr (fun h=>by rw[Tj hi]at h;omega)];focus
    refine Ew U<|Ag (by kernel_rfl)<|Nv 3 U<|Nm U g1 U (.inl U) U<|Nv 5 U<|Nm U g1 U (gG U) U<|Nv 3 U<|Nm U g1 U (gG U) U<|Nz (kn U hl) U U<|Nv 3 U ?_;refine Dd U (fun h2=>?_) (fun h2=>?_);exact absurd h2 (by omega);refine Nw U ?_;rotate_left
   exact Se ⟨.inl U,U,U,_,Aa U U,U⟩
theorem MC {s:St} {p i:Nat} {b:Bool} {ts:List XX} (h:DR s p ts i b) {k:Nat} (hk:k≠0):Cc (EK LF) 169 [.ptr p 0,.int .i64 (k:Nat)] s (.bool (!b&&decide (Zb ts i=k))):=by
 obtain⟨hg,Co,hle,XT⟩:=h;refine Cc.flat (fn:=Tryz.f169) U (by kernel_rfl) U U U U (fun _ _=>rfl) (fun _=>rfl) ?_;have hl:=KC ts;have g1:s.enter.heap.get p=some (.cells [ln ts,.int .i64 (i:Nat),.bool b] 93 false):=hg;cases b with
 |true=>
  refine Ew U<|Ag (by kernel_rfl)<|Nv 3 U<|Nm U g1 U (.inl U) U<|Nw U ?_;exact Se ⟨.inl U,U,U,_,Aa U U,U⟩
 |false=>
  by_cases hi:i<ts.length
  .have qG:=PV hi;have e:eF ts i=ts[i]:=PW hi;unfold Zb;rw[e];generalize ts[i]=t at*;unfold XG at*;focus
    refine Ew U<|Ag (by kernel_rfl)<|Nv 3 U<|Nm U g1 U (.inl U) U<|Nv 5 U<|Nm U g1 U (gG U) U<|Nv 3 U<|Nm U g1 U (gG U) U<|Nz (kn U hl) U U<|Nv 3 U ?_;refine Dd U (fun h2=>?_) (fun h2=>?_);refine Nv 3 U<|Nm U g1 U (gG U) U<|Nv 3 U<|Nm U g1 U (gG U) U<|Nz (kv U qG) U U<|Nw U ?_;rotate_left;exact absurd h2 (by omega)
   exact Se ⟨.inl U,U,U,_,Aa U U,congrArg AV.bool (decide_eq_decide.2 (by omega))⟩
  .rw[show decide (Zb ts i=k)=false from decide_eq_false fun h=>by unfold Zb at h;rw[Tj hi]at h;omega];focus
    refine Ew U<|Ag (by kernel_rfl)<|Nv 3 U<|Nm U g1 U (.inl U) U<|Nv 5 U<|Nm U g1 U (gG U) U<|Nv 3 U<|Nm U g1 U (gG U) U<|Nz (kn U hl) U U<|Nv 3 U ?_;refine Dd U (fun h2=>?_) (fun h2=>?_);exact absurd h2 (by omega);refine Nw U ?_;rotate_left
   exact Se ⟨.inl U,U,U,_,Aa U U,U⟩
theorem DR.of {s s':St} {p i j:Nat} {b b':Bool} {ts:List XX} (h:DR s p ts i b) (hg:s'.heap.get p=some (.cells [ln ts,.int .i64 (j:Nat),.bool b'] 93 false)) (hn:s.next<=s'.next) (hj:j<=ts.length):DR s' p ts j b':=⟨hg,Nat.lt_of_lt_of_le h.lt hn,hj,h.small⟩
def Wr (s:St) (p:Nat):Prop:=p<s.bound->p∈s.log
theorem Wr.put {s:St} {p:Nat} {o:Option Cw}:Wr (s.put p o) p:=fun h=>Bk h
theorem Wr.more {s s':St} {p:Nat} (h:Wr s p) (l:Ct s s'):Wr s' p:=fun hb=>l.more p (h (by rw[<-l.bound];exact hb))
theorem Wr.back {s st:St} {p:Nat} (h:Wr st p) (hb:p<st.bound):Wr (s.back st) p:=fun hs=>AY (.inl ⟨h hb,hs⟩)
theorem Wr.log {st:St} {p:Nat} (h:Wr st p) (hb:p<st.bound):st.log≠ []:=fun e=>by
 have:=h hb;rw[e]at this;cases this
theorem Fc {s:St} {p i:Nat} {b:Bool} {ts:List XX} (h:DR s p ts i b) (hb:s.bound<=s.next) {w:List UInt8} {R RP:AV->St->Prop} (hT:b=false->fc ts i w=true->∀s',Ck s s' p->DR s' p ts (i+1) false->Wr s' p->R (.bool true) s') (hF:(!b&&fc ts i w)=false->R (.bool false) s):
 CE (EK LF) 100 [.ptr p 0,.str w] s R RP:=by
 refine Ar U ?_;have hE:s.enter.bound<=s.enter.next:=Qj _;have jW:=dis_to (s:=s.enter) (b:=b) ⟨h.at_,h.lt,h.le,h.small⟩ w;have g1:s.enter.heap.get p=some (.cells [ln ts,.int .i64 (i:Nat),.bool b] 93 false):=h.at_;have XT:=h.small;have hle:=h.le;cases hq:(!b&&fc ts i w)with
 |false=>
  rw[hq]at jW;refine Ew U<|Sq<|Es<|Lv 2 U ?_;refine Lo (Av U U (by kernel_rfl) U (jW)) U<|Lw U<|Tt U<|Ew U ?_;exact Se (Al ⟨.inl U,_,U,_,Aa U U,_,Gg U U,hF hq⟩)
 |true=>
  rw[hq]at jW;obtain⟨au,hs⟩:=Bool.and_eq_true_iff.1 hq;have au:b=false:=by cases b<;>simp_all
  subst au;refine Ew U<|Sq<|Es<|Lv 2 U ?_;refine Lo (Av U U (by kernel_rfl) U (jW)) U<|Lw U<|Tf U<|Sk<|Es<|Lv 3 U<|Lo (kl U g1 U) U ?_;refine Lq (ka (b:=1) U (by omega)) U ?_;refine Lv 2 U<|Ln (kw U g1 U) U<|Ld<|Ew U ?_;exact Se (Al ⟨.inl U,_,U,_,Aa U U,_,Bc U (B7 (.inr h.lt)),hT U hs _ (Ck.put.back hb) (h.of (Aw.trans (if_pos U)) (Qj _) (Pf hs)) (Wr.put.back h.lt)⟩)
theorem Qw {s:St} {p i:Nat} {b:Bool} {ts:List XX} (h:DR s p ts i b) (hb:s.bound<=s.next) {w:List UInt8} {R RP:AV->St->Prop} (hT:b=false->fc ts i w=true->∀s',Ck s s' p->DR s' p ts (i+1) false->R (.tuple []) s') (hF:(!b&&fc ts i w)=false->∀s',Ck s s' p->DR s' p ts i true->R (.tuple []) s'):
 CE (EK LF) 168 [.ptr p 0,.str w] s R RP:=by
 refine CE.unit (fn:=Tryz.f168) U (by kernel_rfl) U U U U ?_;have hE:s.enter.bound<=s.enter.next:=Qj _;refine Es<|Lv 2 U ?_;refine Af U U (by kernel_rfl) U U U U (Fc (s:=s.enter) (b:=b) ⟨h.at_,h.lt,h.le,h.small⟩ hE (fun au hs s1 g1 r1 w1=>?_) fun hq=>?_)
 .refine Lw U ?_;refine Tf U<|Sk ?_;exact⟨.inr U,rfl,fun hl=>absurd hl (w1.log (by rw[g1.Wh.bound];exact h.lt)),hT au hs _ (g1.back hb) ⟨r1.at_,r1.lt,r1.le,r1.small⟩⟩
 .have g1:s.enter.heap.get p=some (.cells [ln ts,.int .i64 (i:Nat),.bool b] 93 false):=h.at_;refine Lw U<|Tt U<|Sr<|Lv 3 U<|Ln (kw U g1 U) U<|Ld ?_;exact⟨.inr U,rfl,fun hl=>absurd hl (B7 (.inr h.lt)),hF hq _ (Ck.put.back hb) (h.of (Aw.trans (if_pos U)) (Qj _) h.le)⟩
theorem J0 {s:St} {p i:Nat} {b:Bool} {ts:List XX} (h:DR s p ts i b) (hb:s.bound<=s.next) {k:Nat} (hk:k≠0) {R RP:AV->St->Prop} (hT:b=false->Zb ts i=k->∀s',Ck s s' p->DR s' p ts (i+1) false->Wr s' p->R (.str (cG ts i)) s') (hF:(!b&&decide (Zb ts i=k))=false->∀s',Ck s s' p->DR s' p ts i true->Wr s' p->R (.str []) s'):
 CE (EK LF) 170 [.ptr p 0,.int .i64 (k:Nat)] s R RP:=by
 refine Ar U ?_;have hE:s.enter.bound<=s.enter.next:=Qj _;have bD:=MC (s:=s.enter) (b:=b) ⟨h.at_,h.lt,h.le,h.small⟩ hk;have g1:s.enter.heap.get p=some (.cells [ln ts,.int .i64 (i:Nat),.bool b] 93 false):=h.at_;have XT:=h.small;have hle:=h.le;cases hq:(!b&&decide (Zb ts i=k))with
 |false=>
  rw[hq]at bD;refine Ew U<|Sq<|Es<|Lv 2 U ?_;refine Lo (Av U U (by kernel_rfl) U (bD)) U<|Lw U<|Tt U<|Es<|Lv 3 U<|Ln (kw U g1 U) U<|Ld<|Ew U ?_;exact Se (Al ⟨.inl U,_,U,_,Aa U U,_,Bc U (B7 (.inr h.lt)),hF hq _ (Ck.put.back hb) (h.of (Aw.trans (if_pos U)) (Qj _) h.le) (Wr.put.back h.lt)⟩)
 |true=>
  rw[hq]at bD;obtain⟨au,hs⟩:=Bool.and_eq_true_iff.1 hq;have hs:=dT hs;have au:b=false:=by cases b<;>simp_all
  subst au;have hi:i<ts.length:=MY (by omega);have hl:=KC ts;have qG:=PV hi;have e:cG ts i=ts[i].2.1:=by unfold cG;rw[PW hi]
  rw[e]at hT;generalize ts[i]=t at*;unfold XG at*;have g2:(s.enter.put p (some (.cells [ln ts,.int .i64 ((i+1:Nat):Int),.bool false] 93 false))).heap.get p=some (.cells [ln ts,.int .i64 ((i+1:Nat):Int),.bool false] 93 false):=Aw.trans (if_pos rfl);refine Ew U<|Sq<|Es<|Lv 2 U ?_;refine Lo (Av U U (by kernel_rfl) U (bD)) U<|Lw U<|Tf U<|Sk<|Es<|Lv 3 U<|Lo (kl U g1 U) U ?_;refine Lq (ka (b:=1) U (by omega)) U ?_;refine Lv 2 U<|Ln (kw U g1 U) U<|Ld<|Ag (by kernel_rfl)<|Nv 3 U<|Nm U g2 U (.inl U) U<|Nv 3 U<|Nm U g2 U (.inl U) U<|Nq (DJ (b:=1) U o9 U U (by omega)) U<|Nq (kv U qG) U<|Nw U ?_;exact Se (Al ⟨.inl U,_,U,_,Aa U U,_,Bc U (B7 (.inr h.lt)),hT U hs _ (Ck.put.back hb) (h.of (Aw.trans (if_pos U)) (Qj _) hi) (Wr.put.back h.lt)⟩)
mutual
def WH:Sh->List AV
 | .mk o t ks=>[.int .i64 (o:Nat),.str t,.int .i64 0,CJ (CH ks) ks.length 4]
def CH:List Sh->List AV
 | []=>[]
 |k::ks=>WH k++CH ks
end
theorem DZ:∀l:List Sh,CH l=l.flatMap WH
 | []=>rfl
 |_::l=>congrArg _ (DZ l)
theorem BF (x:Sh):WH x=[.int .i64 (x.op:Nat),.str x.text,.int .i64 0,CJ (CH x.kids) x.kids.length 4]:=by cases x;rfl
theorem Vc (x:Sh):(WH x).length=3+1:=by rw[BF];rfl
theorem Lr (l:List Sh) (a:Sh):CH (l++[a])=CH l++WH a:=by rw[DZ,List.flatMap_append,<-DZ];simp[DZ]
theorem Fm (x:Sh) (n:Nat):(WH x).all (Cj (n+1))=true:=by
 rw[BF];rcases Bs (CH x.kids) x.kids.length 4 with h|h<;>rw[h]<;>rfl
theorem GZ:∀(l:List Sh) (n:Nat),(CH l).all (Cj (n+1))=true
 | [],_=>rfl
 |x::l,n=>by
  show(WH x++CH l).all (Cj (n+1))=true;rw[List.all_append,Fm,GZ l];rfl
theorem Oi {s:St} {m n:Nat} (x:Sh) (ks:List Nat):Cs.many (Cs s m (n+1)) (WH x) ks=some (WH x,ks):=by
 rw[BF];show((Cs s m (n+1) (CJ (CH x.kids) x.kids.length 4) ks).bind _|>.bind _|>.bind _|>.bind _)=_;rw[FD];rfl
theorem Lp {s:St} {m n:Nat}:∀(l:List Sh) (ks:List Nat),Cs.many (Cs s m (n+1)) (CH l) ks=some (CH l,ks)
 | [],_=>rfl
 |x::l,ks=>P2 (Oi x ks) (Lp l ks)
def Yh (s:St) (v:AV) (l:List Sh):Prop:=Grown s 96 4 v (CH l) l.length\/v=CJ (CH l) l.length 4
theorem Yh.Wd {s s':St} {v:AV} {l:List Sh} (h:Yh s v l) (hn:s.next<=s'.next) (hh:∀c,C6 c v=true->s'.heap.get c=s.heap.get c):Yh s' v l:=h.imp (fun h=>h.Wd hn hh) id
theorem Yh.own {s:St} {v:AV} {l:List Sh} (h:Yh s v l) {c:Nat} (hc:C6 c v=true):c<s.next:=by
 rcases h with h|h
 .exact h.own hc
 .rw[h]at hc;rcases Bs (CH l) l.length 4 with e|e<;>rw[e]at hc<;>cases hc
theorem Yh.j0 {s:St} {v:AV} {l:List Sh} (h:Yh s v l) (m:Nat) (ks:List Nat):∃k2,Cs s 0 (m+2) v ks=some (CJ (CH l) l.length 4,k2++ks)/\∀b∈k2,C6 b v=true:=by
 rcases h with(⟨rfl,h1,_⟩|⟨b,rfl,hb,hg,hl,h0⟩)|rfl
 .refine⟨[],?_,fun b hb=>by cases hb⟩;rw[h1];rfl
 .refine⟨[b],?_,fun c hc=>by rw[Qn.1 hc];exact Nat.beq_refl b⟩;rw[GS (Qm _) hg hl (Lp l ks),GZ l 39];unfold CJ;cases l with
  |nil=>exact absurd rfl h0
  |cons a l=>rfl
 .exact⟨[],FD,fun b hb=>by cases hb⟩
theorem Yh.form {s:St} {v:AV} {l:List Sh} (h:Yh s v l):v.cells=[v]/\v.isTuple=false:=by
 rcases h with(⟨rfl,h1,_⟩|⟨b,rfl,hb,hg,hl,h0⟩)|rfl
 .exact⟨U,U⟩
 .exact⟨U,U⟩
 .rcases Bs (CH l) l.length 4 with e|e<;>rw[e]<;>exact⟨rfl,rfl⟩
def KiC (ts:List XX) (n p:Nat):Prop:=∀(s:St) (i:Nat) (R RP:AV->St->Prop),DR s p ts i false->s.bound<=s.next->ts.length<n+i->(∀a j,Xx ts n i=some (a,j)->∀s',Ck s s' p->DR s' p ts j false->R (.agg (WH a)) s')->
 (Xx ts n i=none->∀t i' s',Ck s s' p->DR s' p ts i' true->R (.agg (WH t)) s')->CE (EK LF) 40 [.ptr p 0] s R RP
def oy (P:Nat->Option (Sh×Nat)) (ts:List XX) (m j:Nat):Option (List Sh×Nat):=(P j).bind fun x=>(j9 P ts m x.2).map fun y=>(x.1::y.1,y.2)
def cloF (ts:List XX) (j:Nat):Option (List Sh×Nat):=if fc ts j cls then some ([],j+1)else none
def tj (acc:List Sh) (o:Option (List Sh×Nat)):Option (List Sh×Nat):=o.map fun y=>(acc++y.1,y.2)
theorem Oy {ts:List XX} {n p:Nat} (hK:KiC ts n p) {s:St} {i:Nat} {b:Bool} (h:DR s p ts i b) (hb:s.bound<=s.next) (hn:b=false->ts.length<=n+i) {R RP:AV->St->Prop}
 (hR:b=false->∀l j v s',jh (Xx ts n) ts i=some (l,j)->Ck s s' p->DR s' p ts j false->Yh s' v l->(∀c,C6 c v=true->s.next<=c)->R v s') (hB:b=true\/jh (Xx ts n) ts i=none->∀l i' v s',Ck s s' p->DR s' p ts i' true->Yh s' v l->(∀c,C6 c v=true->s.next<=c)->R v s'):
 CE (EK LF) 171 [.ptr p 0,.int .i64 0] s R RP:=by
 refine Ar U ?_;have hE:s.enter.bound<=s.enter.next:=Qj _;have h0:DR s.enter p ts i b:=⟨h.at_,h.lt,h.le,h.small⟩
 have XT:=h.small;iterate 2 refine Ew U ?_
 refine Sq<|Es<|qm U ?_;refine Af U U (by kernel_rfl) U U U U (Fc h0 hE (fun au ht s1 g1 r1 w1=>?_) fun hf=>?_)
 .subst au;have hR:=hR rfl;have hn:=hn rfl;have hT:jh (Xx ts n) ts i=oy (Xx ts n) ts ts.length (i+1):=if_pos ht;rw[hT]at hR hB;refine Lw U<|Tf U<|Sk<|Sq<|Ew U<|Sb ?_;refine Ai (fun x:Nat×Nat×Bool×Bool×AV×St×List Sh=>([(6,.bool x.2.2.1),(5,x.2.2.2.2.1),(1,.int .i64 0),(0,.ptr p 0)],x.2.2.2.2.2.1)) (fun x=>x.1+if x.2.2.1 then 1 else 0)
   (fun x=>Ck s.enter x.2.2.2.2.2.1 p/\DR x.2.2.2.2.2.1 p ts x.2.1 x.2.2.2.1/\Grown x.2.2.2.2.2.1 96 4 x.2.2.2.2.1 (CH x.2.2.2.2.2.2) x.2.2.2.2.2.2.length/\(∀c,C6 c x.2.2.2.2.1=true->s.next<=c)/\x.2.2.2.2.2.2.length+x.1+(if x.2.2.1 then 1 else 0)<=ts.length+1/\(Wr x.2.2.2.2.2.1 p/\(x.2.2.2.1=false->i<x.2.1))/\
    (x.2.2.2.1=true->oy (Xx ts n) ts ts.length (i+1)=none/\x.2.2.1=false)/\(x.2.2.2.1=false->x.2.2.1=true->ts.length<x.1+x.2.1/\oy (Xx ts n) ts ts.length (i+1)=tj x.2.2.2.2.2.2 (oy (Xx ts n) ts x.1 x.2.1))/\
    (x.2.2.2.1=false->x.2.2.1=false->oy (Xx ts n) ts ts.length (i+1)=tj x.2.2.2.2.2.2 (cloF ts x.2.1)))
   (ts.length,i+1,true,false,.Ca,s1,[]) ⟨g1,r1,Grown.nil _ _ _,(fun c hc=>by cases hc),by simp,⟨w1,fun _=>Nat.lt_succ_self _⟩,(fun h=>by cases h),(fun _ _=>⟨by dsimp only;omega,by unfold tj;simp⟩),fun _ h=>by cases h⟩ rfl (Ah (by repeat' constructor)) ?_
  rintro⟨m,j,more,bad,v,st,acc⟩ ⟨hg,hr,aV,YG,uB,⟨o7,hij⟩,zC,kN,hT3⟩;dsimp only at hg hr aV YG uB o7 hij zC kN hT3|-;generalize oy (Xx ts n) ts ts.length (i+1)=T at*;have xz:p<s.enter.bound:=h.lt;have jn:=hg.Y2 hE;have kH:=hr.at_;cases more with
  |false=>
   refine Sq<|Ew U<|Tf U<|Sx<|A8 U<|Es<|qm U ?_;refine Af U U (by kernel_rfl) U U U U (Qw hr jn (fun au hs s4 g4 r4=>?_) fun hq s4 g4 r4=>?_)
   .have hT3:=hT3 au rfl;unfold cloF at hT3;rw[if_pos hs]at hT3;have g44:=hg.trans g4 hE;refine Ld<|Ew U ?_;exact Se (Al ⟨.inl U,_,rfl,_,Aa U U,_,Bc U ((o7.more g4.ax).log (by rw[g44.Wh.bound];exact xz)),hR acc (j+1) v _ (by rw[hT3];unfold tj;rw[Option.map_some,List.append_nil]) (g44.back hb) ⟨r4.at_,r4.lt,r4.le,r4.small⟩ (.inl (aV.Wd g4.Wh.next fun c hc=>g4.Wh.heap c (aV.own hc) fun e=>by have:=YG c hc;have:=h.lt;omega)) YG⟩)
   .have hN:T=none:=by
     cases bad with
     |true=>exact(zC rfl).1
     |false=>
      rw[hT3 rfl rfl];unfold cloF;rw[if_neg (by rw[show fc ts j cls=false from hq];exact Bool.false_ne_true)];rfl
    have g44:=hg.trans g4 hE;refine Ld<|Ew U ?_;exact Se (Al ⟨.inl U,_,rfl,_,Aa U U,_,Bc U ((o7.more g4.ax).log (by rw[g44.Wh.bound];exact xz)),hB (.inr hN) acc j v _ (g44.back hb) ⟨r4.at_,r4.lt,r4.le,r4.small⟩ (.inl (aV.Wd g4.Wh.next fun c hc=>g4.Wh.heap c (aV.own hc) fun e=>by have:=YG c hc;have:=h.lt;omega)) YG⟩)
  |true=>
   cases bad with
   |true=>exact absurd (zC rfl).2 (by decide)
   |false=>
    obtain⟨hmj,kN⟩:=kN rfl rfl;have hij:=hij rfl;have uB:acc.length+m+1<=ts.length+1:=uB;clear zC hT3;refine Sq<|Es<|Lv 5 U<|Lg U U (kl U kH U)<|Lw U<|Tt U<|Sk<|Sq<|Sb<|Ew U<|Sb<|Ew U<|Tt U<|Sr<|Lv 2 U ?_;refine Af U U (by kernel_rfl) U U U U (hK _ _ _ _ hr jn (by omega) (fun a k e1 s5 g5 r5=>?_) fun e1 t i5 s5 g5 r5=>?_)
    .have hjk:=FT ts n _ _ _ e1;have ox:=hg.trans g5 hE;have hgr5:Grown s5 96 4 v (CH acc) acc.length:=aV.Wd g5.Wh.next fun c hc=>g5.Wh.heap c (aV.own hc) fun e=>by have:=YG c hc;have:=h.lt;omega
     have hn5:s.next<=s5.next:=ox.Wh.next;unfold oy at kN;rw[e1,Qe]at kN;rw[BF];refine Lo (AC U vY EH vZ U U U) U ?_;refine BP hgr5 U (by decide) (AH (by omega) (by decide)) (AH (by omega) (by decide)) U U U U vY EH by_96 vZ (by kernel_rfl) (by kernel_rfl) U U U U U fun v6 s6 f6 o6 c6 l6=>?_;have hn6:=c6.next;have g6:Ck s.enter s6 p:=⟨ox.Wh.trans c6 (fun _ h=>h) (fun c h=> .inr (YG c h)) hE,ox.ax.trans (l6 (ox.Y2 hE))⟩
     have r6:DR s6 p ts k false:=r5.of ((c6.heap p r5.lt fun e=>by have:=YG p e;have:=h.lt;omega).trans r5.at_) hn6 r5.le;have f6:Grown s6 96 4 v6 (CH (acc++[a])) (acc++[a]).length:=by
      rw[Lr,Ql,BF];exact f6
     refine Lw U<|Sr<|qm U ?_;refine Af U U (by kernel_rfl) U U U U (Fc r6 (g6.Y2 hE) (fun _ ht s7 g7 r7 _=>?_) fun hf=>?_)
     .have l4:=Pf ht;have uA:m≠0:=fun e=>by
       subst e;omega
      obtain⟨m,rfl⟩:∃q,m=q+1:=⟨m-1,by omega⟩
      rw[Qy ht]at kN;refine Lw U ?_;refine⟨(m,k+1,true,false,v6,s7,acc++[a]),⟨g6.trans g7 hE,r7,f6.Wd g7.Wh.next (fun c hc=>g7.Wh.heap c (f6.own hc) fun e=>by have:=o6 c hc;have:=h.lt;omega),fun c hc=>by have:=o6 c hc;omega,?_,⟨(o7.more (g5.ax.trans (l6 (ox.Y2 hE)))).more g7.ax,fun _=>by dsimp only;omega⟩,(fun h=>by cases h),fun _ _=>⟨by dsimp only;omega,?_⟩,fun _ h=>by cases h⟩,by show m+1<m+1+1;omega,rfl,rfl,Ah (by repeat' constructor)⟩
      .show(acc++[a]).length+m+1<=ts.length+1;rw[Ql];show acc.length+1+m+1<=_;omega
      .rw[kN];unfold tj oy;dsimp only;rw[Option.map_map]
       congr 1
       funext y
       show(acc++a::y.1,y.2)=(acc++[a]++y.1,y.2)
       rw[List.append_assoc];rfl
     .have uA:m≠0:=fun e=>by
       subst e;omega
      obtain⟨m,rfl⟩:∃q,m=q+1:=⟨m-1,by omega⟩
      rw[Qz hf]at kN;refine Lw U ?_;refine⟨(m+1,k,false,false,v6,s6,acc++[a]),⟨g6,r6,f6,fun c hc=>by have:=o6 c hc;omega,?_,⟨o7.more (g5.ax.trans (l6 (ox.Y2 hE))),fun _=>by dsimp only;omega⟩,(fun h=>by cases h),fun _ h=>(by cases h),fun _ _=>?_⟩,by show m+1<m+1+1;omega,rfl,rfl,Ah (by repeat' constructor)⟩
      .show(acc++[a]).length+(m+1)<=ts.length+1;rw[Ql];show acc.length+1+(m+1)<=_;omega
      .rw[kN];unfold tj cloF;dsimp only;rw[Option.map_map]
       congr 1
       funext y
       show(acc++a::y.1,y.2)=(acc++[a]++y.1,y.2)
       rw[List.append_assoc];rfl
    .have ox:=hg.trans g5 hE;have hgr5:Grown s5 96 4 v (CH acc) acc.length:=aV.Wd g5.Wh.next fun c hc=>g5.Wh.heap c (aV.own hc) fun e=>by have:=YG c hc;have:=h.lt;omega
     have hn5:s.next<=s5.next:=ox.Wh.next;unfold oy at kN;rw[e1]at kN;rw[BF];refine Lo (AC U vY EH vZ U U U) U ?_;refine BP hgr5 U (by decide) (AH (by omega) (by decide)) (AH (by omega) (by decide)) U U U U vY EH by_96 vZ (by kernel_rfl) (by kernel_rfl) U U U U U fun v6 s6 f6 o6 c6 l6=>?_;have hn6:=c6.next;have g6:Ck s.enter s6 p:=⟨ox.Wh.trans c6 (fun _ h=>h) (fun c h=> .inr (YG c h)) hE,ox.ax.trans (l6 (ox.Y2 hE))⟩
     have r6:DR s6 p ts i5 true:=r5.of ((c6.heap p r5.lt fun e=>by have:=YG p e;have:=h.lt;omega).trans r5.at_) hn6 r5.le;have f6:Grown s6 96 4 v6 (CH (acc++[t])) (acc++[t]).length:=by
      rw[Lr,Ql,BF];exact f6
     refine Lw U<|Sr<|qm U ?_;refine Af U U (by kernel_rfl) U U U U (Fc r6 (g6.Y2 hE) (fun h=>by cases h) fun hf=>?_);refine Lw U ?_;refine⟨(m,i5,false,true,v6,s6,acc++[t]),⟨g6,r6,f6,fun c hc=>by have:=o6 c hc;omega,?_,⟨o7.more (g5.ax.trans (l6 (ox.Y2 hE))),fun h=>by cases h⟩,fun _=>⟨by rw[kN];rfl,rfl⟩,fun h=>(by cases h),fun h=>by cases h⟩,by show m<m+1;omega,rfl,rfl,Ah (by repeat' constructor)⟩;show(acc++[t]).length+m<=ts.length+1;rw[Ql];show acc.length+1+m<=_;omega
 .refine Lw U ?_;refine Tt U<|Ew U ?_;refine Se (Al ⟨.inl U,_,rfl,_,Aa U U,AL U (fun _ _=>rfl) (fun _=>rfl) (fun _=>?_) (fun hl=>absurd U hl)⟩);cases b with
  |false=>exact hR rfl [] i _ _ (if_neg (by rw[show fc ts i opn=false from hf];exact Bool.false_ne_true)) Ck.refl h (.inr rfl) (fun _ h=>by cases h)
  |true=>exact hB (.inl rfl) [] i _ _ Ck.refl h (.inr rfl) (fun _ h=>by cases h)
def mF (s:St) (v:AV) (a:Sh) (base:Nat):Prop:=∃kv,v= .agg [.int .i64 (a.op:Nat),.str a.text,.int .i64 0,kv]/\Yh s kv a.kids/\∀c,C6 c kv=true->base<=c
theorem Ck.XD {s st:St} {p b:Nat} {o:Option Cw} (g:Ck s st p) (h:s.next<=b) (hb:s.bound<=s.next):Ck s (st.put b o) p:=⟨g.Wh.trans XB.put (fun _ h=>h) (fun c hc=> .inr (by rw[hc];exact h)) hb,g.ax.trans Ct.put⟩
theorem no_ownA (cs:List AV) (n k:Nat) {m:Nat}:∀d,C6 d (CJ cs n k)=true->m<=d:=fun d h=>by
 rcases Bs cs n k with e|e<;>rw[e]at h<;>cases h
theorem x4 {ts:List XX} {n p:Nat} (hK:KiC ts n p) {s:St} {i:Nat} (h:DR s p ts i false) (hb:s.bound<=s.next) (hn:ts.length<n+i):
 CE (EK LF) 40 [.ptr p 0] s (fun v s'=>∃a k b,v= .agg (WH a)/\Ck s s' p/\DR s' p ts k b/\(b=false->Xx ts n i=some (a,k))/\(b=true->Xx ts n i=none)) fun _ _=>False:=
 hK _ _ _ _ h hb hn (fun a j e s' g r=>⟨a,j,false,rfl,g,r,fun _=>e,fun h=>by cases h⟩) fun e t i' s' g r=>⟨t,i',true,rfl,g,r,(fun h=>by cases h),fun _=>e⟩
theorem x5 {s:St} {p i:Nat} {b:Bool} {ts:List XX} (h:DR s p ts i b) (hb:s.bound<=s.next) {w:List UInt8}:
 CE (EK LF) 168 [.ptr p 0,.str w] s (fun v s'=>v= .tuple []/\∃k c,Ck s s' p/\DR s' p ts k c/\(c=false->b=false/\fc ts i w=true/\k=i+1)/\(c=true->(!b&&fc ts i w)=false)) fun _ _=>False:=
 Qw h hb (fun h1 h2 s' g r=>⟨rfl,_,false,g,r,fun _=>⟨h1,h2,rfl⟩,fun h=>by cases h⟩) fun h1 s' g r=>⟨rfl,_,true,g,r,(fun h=>by cases h),fun _=>h1⟩
theorem x6 {s:St} {p i:Nat} {ts:List XX} (h:DR s p ts i false) (hb:s.bound<=s.next) {k:Nat} (hk:k≠0):
 CE (EK LF) 170 [.ptr p 0,.int .i64 (k:Nat)] s (fun v s'=>∃t j c,v= .str t/\Ck s s' p/\DR s' p ts j c/\Wr s' p/\(c=false->Zb ts i=k/\t=cG ts i/\j=i+1)/\(c=true->¬Zb ts i=k)) fun _ _=>False:=
 J0 h hb hk (fun _ h1 s' g r w=>⟨_,_,false,rfl,g,r,w,fun _=>⟨h1,rfl,rfl⟩,fun h=>by cases h⟩) fun h1 s' g r w=>⟨_,_,true,rfl,g,r,w,(fun h=>by cases h),fun _=>dF h1⟩
theorem x7 {ts:List XX} {n p:Nat} (hK:KiC ts n p) {s:St} {i:Nat} {b:Bool} (h:DR s p ts i b) (hb:s.bound<=s.next) (hn:b=false->ts.length<=n+i):
 CE (EK LF) 171 [.ptr p 0,.int .i64 0] s (fun v s'=>∃l j c,Ck s s' p/\DR s' p ts j c/\Yh s' v l/\(∀d,C6 d v=true->s.next<=d)/\(c=false->b=false/\jh (Xx ts n) ts i=some (l,j))/\(c=true->b=true\/jh (Xx ts n) ts i=none)) fun _ _=>False:=
 Oy hK h hb hn (fun h1 l j v s' e g r hL fB=>⟨l,j,false,g,r,hL,fB,fun _=>⟨h1,e⟩,fun h=>by cases h⟩) fun h1 l j v s' g r hL fB=>⟨l,j,true,g,r,hL,fB,(fun h=>by cases h),fun _=>h1⟩
theorem Yh.forms {s:St} {v:AV} {l:List Sh} (h:Yh s v l):v= .Ca\/(∃b n,v= .slice b 0 n 4 none)\/∃cs n,v= .Cf cs n 4 true:=by
 rcases h with(⟨rfl,h1,_⟩|⟨b,rfl,hb,hg,hl,h0⟩)|rfl
 .exact .inl U
 .exact .inr (.inl ⟨_,_,U⟩)
 .rcases Bs (CH l) l.length 4 with e|e
  .exact .inl e
  .exact .inr (.inr ⟨_,_,e⟩)
abbrev WY:List AV:=[.int .i64 0,.str [],.int .i64 0,.Ca]
theorem Vp {ts:List XX} {n p:Nat} (hK:KiC ts n p) {s:St} {i:Nat} (h:DR s p ts i false) (hb:s.bound<=s.next) (hn:ts.length<=n+i) {R RP:AV->St->Prop}
 (hR:∀a j,dE (Xx ts n) ts i=some (a,j)->∀v s',mF s' v a s.next->Ck s s' p->DR s' p ts j false->Wr s' p->R v s') (hB:dE (Xx ts n) ts i=none->∀a i' v s',mF s' v a s.next->Ck s s' p->DR s' p ts i' true->Wr s' p->R v s'):
 CE (EK LF) 99 [.ptr p 0] s R RP:=by
 refine Ar U ?_;have hE:s.enter.bound<=s.enter.next:=Qj _;have h0:DR s.enter p ts i false:=⟨h.at_,h.lt,h.le,h.small⟩
 obtain⟨sA,Yr⟩:∃x,x=s.enter.alloc (.cells WY 96 false):=⟨_,rfl⟩
 have gA:Ck s.enter sA p:=by rw[Yr];exact Ck.alloc hE
 have rA:DR sA p ts i false:=h0.of (by rw[Yr];exact(Ao h.lt).trans h0.at_) (by rw[Yr];exact Nat.le_succ _) h.le;have cA:sA.heap.get s.next=some (.cells WY 96 false):=by rw[Yr];exact A4
 have nA:sA.next=s.next+1:=by rw[Yr];rfl
 have Co:p<s.next:=h.lt;have fe:=gA.Y2 hE;have fin:∀(st:St) (a:Sh) (kv:AV) (k:Nat) (c:Bool),Ck s.enter st p->DR st p ts k c->Wr st p->Yh st kv a.kids->(∀d,C6 d kv=true->s.next+1<=d)->s.next<st.next->(c=false->dE (Xx ts n) ts i=some (a,k))->(c=true->dE (Xx ts n) ts i=none)->
  ∃cr,leave (EK LF) 99 s (.agg [.int .i64 (a.op:Nat),.str a.text,.int .i64 0,kv]) (st.put s.next (some (.cells [.int .i64 (a.op:Nat),.str a.text,.int .i64 0,kv] 96 false)))=some cr/\match cr with
   | .same v=>R v s
   | .val v s'=>R v s'
   | .WR _ _=>False:=by
  intro st a kv k c g r w hk fB lM h1 h2;have g2:Ck s.enter (st.put s.next (some (.cells [.int .i64 (a.op:Nat),.str a.text,.int .i64 0,kv] 96 false))) p:=g.XD (Qj _) hE;have hp:mF (s.back (st.put s.next (some (.cells [.int .i64 (a.op:Nat),.str a.text,.int .i64 0,kv] 96 false)))) (.agg [.int .i64 (a.op:Nat),.str a.text,.int .i64 0,kv]) a s.next:=
   ⟨kv,rfl,hk.Wd (Qj _) fun d hd=>by show(st.put s.next _).heap.get d=_;rw[Aw,if_neg (by have:=fB d hd;omega)],fun d hd=>by have:=fB d hd;omega⟩
  have r2:DR (s.back (st.put s.next (some (.cells [.int .i64 (a.op:Nat),.str a.text,.int .i64 0,kv] 96 false)))) p ts k c:=r.of (by show(st.put s.next _).heap.get p=_;rw[Aw,if_neg (by omega)];exact r.at_) (Qj _) r.le;have w2:Wr (st.put s.next (some (.cells [.int .i64 (a.op:Nat),.str a.text,.int .i64 0,kv] 96 false))) p:=w.more Ct.put;have xz:p<(st.put s.next (some (.cells [.int .i64 (a.op:Nat),.str a.text,.int .i64 0,kv] 96 false))).bound:=by rw[g2.Wh.bound];exact Co
  refine⟨_,Bc U (w2.log xz),?_⟩;cases c with
  |false=>exact hR a k (h1 rfl) _ _ hp (g2.back hb) r2 (w2.back xz)
  |true=>exact hB (h2 rfl) a k _ _ hp (g2.back hb) r2 (w2.back xz)
 refine Es<|Lo (kz U) U<|Ld<|Sq ?_;refine Aq fun sX WZ=>?_;obtain rfl:sX=sA:=WZ.trans Yr.symm;clear WZ Yr;refine Es<|qm U ?_;refine Af U U (by kernel_rfl) U U U U (Fc rA fe (fun _ ht s1 g1 r1 w1=>?_) fun hf=>?_);have tv:¬Zb ts i=1:=fun e=>by have:=(gq.1 ht).2;unfold Zb at e;omega
 have jP:¬Zb ts i=2:=fun e=>by have:=(gq.1 ht).2;unfold Zb at e;omega
 .refine Ld ?_;refine Tt U<|Es<|qm U ?_;refine Af U U (by kernel_rfl) U U U U ((x4 hK r1 (g1.Y2 fe) (by omega)).mono (fun v s2 ⟨a,k,b,hv,g2,r2,hs,hf⟩=>?_) fun _ _ h=>h.elim);subst hv;rw[BF];have j7:=gA.trans (g1.trans g2 fe) hE;have hn2:sX.next<=s2.next:=(g1.trans g2 fe).Wh.next;have c2:s2.heap.get s.next=some (.cells WY 96 false):=((g1.trans g2 fe).Wh.heap _ (by omega) (by omega)).trans cA;obtain⟨a1,a2,a3,a4,a5,a6,a7⟩:=Bg (st:=s2) (z:=WY) (cs:=[.int .i64 (a.op:Nat),.str a.text,.int .i64 0,CJ (CH a.kids) a.kids.length 4]) (T:=96);refine Lo (kz U) U<|Ln (kw U a1 U) U<|Ld ?_;refine Aq fun sB W6=>?_;have gB:Ck s.enter sB p:=by rw[W6];exact j7.trans (Ck.own (j7.Y2 hE) rfl) hE
  have rB:DR sB p ts k b:=r2.of (by rw[W6];exact(a4 _ r2.lt).trans r2.at_) (by rw[W6];exact Nat.le_succ _) r2.le;have cB:sB.heap.get s.next=some (.cells WY 96 false):=by rw[W6];exact(a4 _ (by omega)).trans c2
  have tB:sB.heap.get s2.next=some (.cells [.int .i64 (a.op:Nat),.str a.text,.int .i64 0,CJ (CH a.kids) a.kids.length 4] 96 false):=by rw[W6];exact a2
  have nB:sB.next=s2.next+1:=by rw[W6];exact a7
  have wB:Wr sB p:=by rw[W6];exact w1.more (g2.ax.trans (Ck.own (p:=p) (j7.Y2 hE) rfl).ax)
  clear a1 a2 a3 a4 a5 a6 a7 W6;refine Es<|qm U ?_;refine Af U U (by kernel_rfl) U U U U ((x5 rB (gB.Y2 hE)).mono (fun v s3 ⟨hv,k3,c,g3,r3,aX,hf3⟩=>?_) fun _ _ h=>h.elim);subst hv;have c3:s3.heap.get s.next=some (.cells WY 96 false):=(g3.Wh.heap _ (by omega) (by omega)).trans cB;have t3:s3.heap.get s2.next=some (.cells [.int .i64 (a.op:Nat),.str a.text,.int .i64 0,CJ (CH a.kids) a.kids.length 4] 96 false):=(g3.Wh.heap _ (by omega) (by omega)).trans tB;have tF:=gB.trans g3 hE;have w3:=wB.more g3.ax;refine Ld<|Es<|Lo (kL U t3 U) U<|Ln (kw U c3 U) U<|Ld ?_;refine Se (Al ⟨.inl U,_,rfl,_,A5 U Io EH (Aw.trans (if_pos U)) (Qj _) U,fin s3 a _ k3 c tF r3 w3 (.inr U) (no_ownA _ _ _) (by have:=g3.Wh.next;omega) (fun hc=>?_) fun hc=>?_⟩)
  .obtain⟨rfl,h2,rfl⟩:=aX hc;unfold dE;rw[if_neg tv,if_neg jP,if_pos ht,hs rfl,Qe,if_pos h2]
  .unfold dE;rw[if_neg tv,if_neg jP,if_pos ht];cases b with
   |true=>rw[hf rfl];rfl
   |false=>
    rw[hs rfl,Qe,if_neg (by rw[show fc ts k cls=false from hf3 hc];exact Bool.false_ne_true)]
 .have bD:Cc (EK LF) 169 [.ptr p 0,.int .i64 (1:Nat)] sX (.bool (decide (Zb ts i=1))):=MC rA (k:=1) (by decide);have Z4:fc ts i opn=false:=hf;focus
   refine Ld<|Tf U<|Sk<|Sq<|Es<|qm U ?_;refine Lo (Av U U (by kernel_rfl) U (bD)) U<|Ld ?_;refine Cb U (fun g1=>?_) (fun g1=>?_);have h1:=dT g1;refine Es<|qm U ?_;rotate_left;have h1:=dF g1;refine Sk<|Es<|qm U ?_;rotate_left
  .refine Af U U (by kernel_rfl) U U U U (J0 (k:=1) rA fe (by decide) (fun _ ht s1 g1 r1 w1=>?_) fun hf=>?_)
   .have c1:s1.heap.get s.next=some (.cells WY 96 false):=(g1.Wh.heap _ (by omega) (by omega)).trans cA;refine Lv 1 U<|Ln (kw U c1 U) U<|Ld ?_;exact Se (Al ⟨.inl U,_,rfl,_,A5 U Io EH (Aw.trans (if_pos U)) (Qj _) U,fin s1 (.mk 100 (cG ts i) []) _ (i+1) false (gA.trans g1 hE) r1 w1 (.inr U) (fun _ h=>by cases h) (by have:=g1.Wh.next;omega) (fun _=>if_pos ht) fun hc=>by cases hc⟩)
   .exact absurd (show decide (Zb ts i=1)=false from hf) (by rw[decide_eq_true h1];decide)
  .have tv:¬Zb ts i=1:=by assumption
   refine Af U U (by kernel_rfl) U U U U ((x6 (k:=2) rA fe (by decide)).mono (fun v s1 ⟨t,j1,c1,hv,g1,r1,w1,h1,h2⟩=>?_) fun _ _ h=>h.elim);subst hv;have cc1:s1.heap.get s.next=some (.cells WY 96 false):=(g1.Wh.heap _ (by omega) (by omega)).trans cA;have lG:=g1.Wh.next;refine Lw U<|Es<|Lv 2 U ?_;refine Af U U (by kernel_rfl) U U U U ((x7 hK r1 (g1.Y2 fe) (by cases c1 with|true=>exact fun h=>by cases h|false=>exact fun _=>by have:=(h1 U).2.2;omega)).mono (fun v s2 ⟨l,j2,c2,g2,r2,hL,fB,h3,h4⟩=>?_) fun _ _ h=>h.elim);have cc2:s2.heap.get s.next=some (.cells WY 96 false):=(g2.Wh.heap _ (by omega) (by omega)).trans cc1;have hn2:=g2.Wh.next;have Yg:=fin s2 (.mk 101 t l) v j2 c2 (gA.trans (g1.trans g2 fe) hE) r2 (w1.more g2.ax) hL (fun d hd=>by have:=fB d hd;omega) (by omega) (fun hc=>by
    obtain⟨rfl,h5⟩:=h3 hc;obtain⟨h6,rfl,rfl⟩:=h1 rfl;unfold dE;rw[if_neg tv,if_pos h6,h5];rfl) fun hc=>by
    unfold dE;rw[if_neg tv];cases c1 with
    |true=>rw[if_neg (h2 rfl),if_neg (by rw[Z4];exact Bool.false_ne_true)]
    |false=>
     obtain⟨h6,rfl,rfl⟩:=h1 rfl;rcases h4 hc with h7|h7
     .cases h7
     .rw[if_pos h6,h7];rfl
   rcases hL.forms with rfl|⟨b2,n2,rfl⟩|⟨cs2,n2,rfl⟩
   .refine Lv 1 U ?_;refine Ln (kw U cc2 U) U<|Ld ?_;exact Se (Al ⟨.inl U,_,U,_,A5 U Io EH (Aw.trans (if_pos U)) (Qj _) U,Yg⟩)
   .refine Lv 1 U ?_;refine Ln (kw U cc2 U) U<|Ld ?_;exact Se (Al ⟨.inl U,_,U,_,A5 U Io EH (Aw.trans (if_pos U)) (Qj _) U,Yg⟩)
   .refine Lv 1 U ?_;refine Ln (kw U cc2 U) U<|Ld ?_;exact Se (Al ⟨.inl U,_,U,_,A5 U Io EH (Aw.trans (if_pos U)) (Qj _) U,Yg⟩)
end Go.Proofs.YtfhimfcbphepeaaGreatDoor.Ty
