/- Types: what readers find; names, spelling. -/
import Derived.Test.YtfhimfcbphepeaaGreatDoorCdA
import Derived.Test.YtfhimfcbphepeaaGreatDoorCdB
set_option linter.unusedSectionVars false
set_option linter.unusedVariables false
set_option linter.unusedSimpArgs false
open Go Am
namespace Am
def Xs:Nat->List (List UInt8×AV)->List Xk
 |_,[]=>[]
 |k,p::l=>(.str p.1,p.2,k)::Xs (k+1) l
def getM (w:List UInt8):List (List UInt8×AV)->Option AV
 | []=>none
 |p::l=>if w=p.1 then some p.2 else getM w l
def jg (w:List UInt8) (v:AV) (l:List (List UInt8×AV)):List (List UInt8×AV):=if getM w l=none then l++[(w,v)]else l
theorem Oh:∀(k:Nat) (l:List (List UInt8×AV)) (w:List UInt8) (v:AV),Xs k (l++[(w,v)])=Xs k l++[(.str w,v,k+l.length)]
 |_,[],_,_=>rfl
 |k,a::l,w,v=>by
  show(AV.str a.1,a.2,k)::Xs (k+1) (l++[(w,v)])=_;rw[Oh (k+1) l w v];show _=(AV.str a.1,a.2,k)::(Xs (k+1) l++[(.str w,v,k+(l.length+1))])
  rw[show k+1+l.length=k+(l.length+1) by omega]
theorem Og:∀(k:Nat) (l:List (List UInt8×AV)),(Xs k l).length=l.length
 |_,[]=>rfl
 |k,_::l=>congrArg Nat.succ (Og (k+1) l)
theorem FI (w:List UInt8):∀(k:Nat) (l:List (List UInt8×AV)),∃r,cg (.one .string) (.str w) (Xs k l)=some r/\r.map (fun e=>e.2.1)=getM w l
 |_,[]=>⟨none,rfl,rfl⟩
 |k,a::l=>by
  obtain⟨r,h1,h2⟩:=FI w (k+1) l;by_cases ha:w=a.1
  .refine⟨some (.str a.1,a.2,k),?_,by rw[getM,if_pos ha];rfl⟩;show(some (Cp w a.1)).bind _=_;rw[AB,decide_eq_true ha,Qe,h1];rfl
  .refine⟨r,?_,by rw[getM,if_neg ha,h2]⟩;show(some (Cp w a.1)).bind _=_;rw[AB,decide_eq_false ha,Qe,h1];rfl
theorem Jc {st:St} {b c:Nat} {l:List (List UInt8×AV)} (hg:st.heap.get b=some (.map (Xs 0 l) c)):dS st (.map b)=some (Xs 0 l):=by
 show dN (st.heap.get b)=_;rw[hg];rfl
theorem Q4 {st:St} {b c:Nat} {l:List (List UInt8×AV)} {w:List UInt8} {z v:AV} (hg:st.heap.get b=some (.map (Xs 0 l) c)) (hv:getM w l=some v):bo (.one .string) st true z (.map b) (.str w)=some (.tuple [v,.bool true]):=by
 obtain⟨r,h1,h2⟩:=FI w 0 l;rw[hv]at h2;obtain⟨e,rfl,rfl⟩:=Option.map_eq_some_iff.1 h2;show((dS st (.map b)).bind fun es=>(cg _ _ es).bind fun r=>some (mQ true z r))=_;rw[Jc hg,Qe,h1];rfl
theorem Up {st:St} {b c:Nat} {l:List (List UInt8×AV)} {w:List UInt8} {z:AV} (hg:st.heap.get b=some (.map (Xs 0 l) c)) (hv:getM w l=none):bo (.one .string) st true z (.map b) (.str w)=some (.tuple [z,.bool false]):=by
 obtain⟨r,h1,h2⟩:=FI w 0 l;rw[hv]at h2;obtain rfl:=Option.map_eq_none_iff.1 h2;show((dS st (.map b)).bind fun es=>(cg _ _ es).bind fun r=>some (mQ true z r))=_;rw[Jc hg,Qe,h1];rfl
theorem MT {w:List UInt8} {v:AV}:∀ {k:Nat} {l:List (List UInt8×AV)},getM w l=some v->kk (.one .string) (.str w) v (Xs k l)=Xs k l
 |k,a::l,h=>by
  show(bif isEq (.one .string) (.str w) (.str a.1,a.2,k)then _ else _)=_;have hi:isEq (.one .string) (.str w) (.str a.1,a.2,k)=Cp w a.1:=rfl;rw[hi,AB];by_cases ha:w=a.1
  .rw[getM,if_pos ha]at h;obtain rfl:=Option.some.inj h;rw[decide_eq_true ha,ha];rfl
  .rw[getM,if_neg ha]at h;rw[decide_eq_false ha];show _::kk _ _ _ (Xs (k+1) l)=_::_;rw[MT h]
theorem Mq {st:St} {b:Nat} {l:List (List UInt8×AV)} {w:List UInt8} {v:AV} (hg:st.heap.get b=some (.map (Xs 0 l) l.length)) (hv:∀x,getM w l=some x->x=v):
 Z9 (.one .string) st (.str w) v (.map b)=some (st.put b (some (.map (Xs 0 (jg w v l)) (jg w v l).length))):=by
 obtain⟨r,h1,h2⟩:=FI w 0 l;show gQ (.one .string) st b (.str w) v (st.heap.get b)=_;rw[hg];show(cg _ _ (Xs 0 l)).bind _=_;rw[h1,Qe];cases r with
 |none=>
  have h3:getM w l=none:=h2.symm;unfold jg;rw[if_pos h3,Oh,Nat.zero_add,Ql];rfl
 |some e=>
  have h3:getM w l=some e.2.1:=h2.symm;have h4:getM w l=some v:=by rw[h3,hv _ h3]
  unfold jg;rw[if_neg (by rw[h3];exact Option.some_ne_none _)];show some (st.put b (some (.map (kk _ _ v (Xs 0 l)) l.length)))=_;rw[MT h4]
theorem Mt {st:St} {b c:Nat} {l:List (List UInt8×AV)} (hg:st.heap.get b=some (.map (Xs 0 l) c)):aF st (.map b)=some (.int .i64 (l.length:Nat)):=by
 unfold aF;rw[Jc hg,Qe,Bl,Og]
theorem Q7 {E:Env} {o:Oper} {c:Call} {t k e:TypeId} {ts:List TypeId} {x:Operand} (ho:o.op= .call c) (hc:c.callee= .builtin .len) (ht:c.argTypes.toList=t::ts) (ha:c.args.toList=[x]) (hu:CN E t=some (.map k e)):
 Xz E o.type o.op= .read (Cg E x) fun T s=>(Cg E x T).bind (aF s):=by
 rw[ho];show Wz E o.type c=_;unfold Wz;rw[hc];simp only;rw[ht,ha];show mS E t x=_;unfold mS;rw[hu]
theorem VU {E:Env} {fr:Fr} {l:Sl} {s:St} {o:Oper} {c:Call} {t k e:TypeId} {ts:List TypeId} {x:Operand} {a v:AV} (ho:o.op= .call c) (hc:c.callee= .builtin .len) (ht:c.argTypes.toList=t::ts) (ha:c.args.toList=[x]) (hu:CN E t=some (.map k e))
 (hx:Ch x l=some a) (hv:aF s a=some v):Zl E o fr l s v s:=fun T hT=>
 Fw (Q7 ho hc ht ha hu) (by rw[Ae hT hx,Qe,hv])
section
variable {E : Env} {fr : Fr} {l : Sl} {st : St} {o : Oper} {all rest : List Oper} {i : Nat} {js : List Nat} {nl : Wu} {K : Sl -> St -> Prop} {od : Option Nat}
theorem LG {KN:PN} {c:Call} {t k e:TypeId} {ts:List TypeId} {x:Operand} {b:Nat} {v:AV} (ho:o.op= .call c) (hc:c.callee= .builtin .len) (ht:c.argTypes.toList=t::ts) (ha:c.args.toList=[x]) (hu:CN E t=some (.map k e))
 (hx:Ch x (CQ (tmpsOf o.op.operands.toList) l)=some (.map b)) (hv:aF st (.map b)=some v) (X7:WC (CZ all i) b nl=true) (hg:CY all l o) (hd:o.dst=od) (Co:WB fr.nt od=true)
 (h:CK E KN all rest (i+1) fr (Xp od v l) st (i::js) nl K):CK E KN all (o::rest) i fr l st js nl K:=
 MK (p:= .map b) (b:=b) (Q7 ho hc ht ha hu) (fun T hT=>Ae hT hx) rfl (fun T hT=>by
  rw[Ae hT hx,Qe];have:(st.sub (Tr.set .nil b (st.heap.get b))).heap.get b=st.heap.get b:=by show(Tr.set .nil b (st.heap.get b)).get b=_;rw[Ay,if_pos rfl]
  have e:aF (st.sub (Tr.set .nil b (st.heap.get b))) (.map b)=aF st (.map b):=by
   show(dN _).bind _=(dN _).bind _;rw[this]
  rw[e];exact hv) X7 hg hd Co h
end
end Am
namespace Go.Proofs.YtfhimfcbphepeaaGreatDoor.Ty
theorem Uf {p:Int}:∀(L:List KT) (m:Int),L.foldl (fun m x=>if x.op=1/\m<x.n then x.n else m) m<p↔m<p/\∀x∈L,x.op=1->x.n<p
 | [],m=>by simp
 |x::L,m=>by
  rw[List.foldl_cons,Uf L];simp only[Qk,forall_eq_or_imp];split
  .next h=>exact⟨fun⟨a,b⟩=>⟨by omega,fun _=>a,b⟩,fun⟨_,b,c⟩=>⟨b h.1,c⟩⟩
  .next h=>exact⟨fun⟨a,b⟩=>⟨a,fun h1=>by
    have:¬m<x.n:=fun h2=>h ⟨h1,h2⟩;omega,b⟩,fun⟨a,_,c⟩=>⟨a,c⟩⟩
theorem NH {ds:List DT} {p:Int} {o n:Int} {k:Nat} (h1:p<=20):Y0 ds p o n k=(Y0 ds 20 o n k&&decide (o=1->n<p)):=by
 unfold Y0 partsOf;by_cases ho:o=1
 .rw[if_pos ho,if_pos ho];by_cases hn:n<p
  .rw[decide_eq_true (fun _=>hn),Bool.and_true];by_cases h0:0<=n
   .rw[if_pos ⟨h0,hn⟩,if_pos ⟨h0,by omega⟩]
   .rw[if_neg (by omega),if_neg (by omega)]
  .rw[decide_eq_false (fun h=>hn (h ho)),Bool.and_false,if_neg (by omega)];rfl
 .rw[if_neg ho,if_neg ho,decide_eq_true (fun h=>absurd h ho),Bool.and_true]
theorem arg_eq {ds:List DT} {p:Int} {t:KT} (h0:0<=p) (h1:p<=3):(CG ds 20 t&&decide (YW (C9 t)<p))=CG ds p t:=by
 rw[MH,MH,Bool.and_assoc]
 congr 1
 rw[Bool.eq_iff_iff,Qf,List.all_eq_true,decide_eq_true_eq,List.all_eq_true];unfold YW;rw[Uf];unfold okN;constructor
 .rintro⟨ha,_,hb⟩ x hx;rw[NH (p:=p) (by omega),ha x hx,decide_eq_true (hb x hx)];rfl
 .intro ha;have hb:∀x∈C9 t,Y0 ds 20 x.op x.n x.kids.length=true/\(x.op=1->x.n<p):=fun x hx=>by
   have:=ha x hx;rw[NH (p:=p) (by omega),Qf,decide_eq_true_eq]at this;exact this
  exact⟨fun x hx=>(hb x hx).1,by omega,fun x hx=>(hb x hx).2⟩
theorem F4 {t:KT} (h:X3 t=true):Wa t<=26:=by
 have:=dT h;have:=Gr t 26 this;omega
theorem arg_to {ds:List DT} {nm:List UInt8} {ps:Int} {cv:AV} {b1 b6:Nat} {st:St} (hd:ds.length<=8) (l1:b1<st.next) (l6:b6<st.next) (g1:st.heap.get b1=some (.cells [We ds] 22 false))
 (g6:st.heap.get b6=some (.cells [.str nm,.int .i64 ps,cv] 54 false)) (t:KT) (ht:Wa t<=26):
 Cc (EK L3) 83 [.agg (Cm t),.ptr b1 0,.ptr b6 0] st (.bool (CG ds 20 t&&decide (YW (C9 t)<ps))):=by
 refine Cc.flat (fn:=Tryz.f83) U (by kernel_rfl) U U U U (fun _ _=>rfl) (fun _=>rfl) ?_;have ou:L3 37 [We ds,.agg (Cm t)]=some (.bool (CG ds 20 t)):=hq_37 (by omega) (by omega);have hit_84:L3 84 [.agg (Cm t)]=some (.int .i64 (YW (C9 t))):=hq_84 (by omega);have f1:(st.enter.alloc (.cells (Cm t) 26 false)).heap.get b1=some (.cells [We ds] 22 false):=(Ao l1).trans g1;have f6:(st.enter.alloc (.cells (Cm t) 26 false)).heap.get b6=some (.cells [.str nm,.int .i64 ps,cv] 54 false):=(Ao l6).trans g6;have f3:(st.enter.alloc (.cells (Cm t) 26 false)).heap.get st.next=some (.cells (Cm t) 26 false):=A4;rw[AA]at*;focus
  refine Es<|Lo (AO U U U) U<|Lw U<|Ag (by kernel_rfl)<|Nm U f1 U (.inl U) U<|NM U f3 U (.inl U) U ?_;refine Na (kC U (ou)) (.inl U) U<|Nv 1 U ?_;refine Db U (fun g7=>?_) (fun g7=>?_);refine NM U f3 U (gG U) U ?_;refine Na (kC U (hit_84)) (gG U) U<|Nv 1 U<|Nm U f6 U (gG U) U<|Nw U ?_;rotate_left;refine Nw U ?_;rotate_left
 .exact Se ⟨.inl U,U,U,_,Aa U U,by rw[show CG ds 20 t=true by assumption];rfl⟩
 .exact Se ⟨.inl U,U,U,_,Aa U U,by rw[show CG ds 20 t=false by assumption];rfl⟩
theorem args_to {ds:List DT} {nm:List UInt8} {ps:Int} {cv:AV} {b1 b6 b7:Nat} {st:St} (hd:ds.length<=8) (l1:b1<st.next) (l6:b6<st.next) (l7:b7<st.next) (g1:st.heap.get b1=some (.cells [We ds] 22 false))
 (g6:st.heap.get b6=some (.cells [.str nm,.int .i64 ps,cv] 54 false)) (g7:st.heap.get b7=some (.cells [.func (.func 83) [] [.ptr b1 0,.ptr b6 0]] 29 false)) (c:List KT) (hl:c.length<=6) (hc:∀x∈c,Wa x<=26):
 Cc (EK L3) 86 [CM Cm 3 c,.ptr b7 0] st (.bool (decide (c.length<=4)&&c.all fun t=>CG ds 20 t&&decide (YW (C9 t)<ps))):=by
 refine Cc.flat (fn:=Tryz.f86) U (by kernel_rfl) U U U U (fun _ _=>rfl) (fun _=>rfl) ?_;have f7:st.enter.heap.get b7=some (.cells [.func (.func 83) [] [.ptr b1 0,.ptr b6 0]] 29 false):=g7;have run_87:Cc (EK L3) 87 [CM Cm 3 c,.func (.func 83) [] [.ptr b1 0,.ptr b6 0]] st.enter (.bool (c.all fun t=>CG ds 20 t&&decide (YW (C9 t)<ps))):=
  UU (st:=st.enter) (P:=fun x=>Wa x<=26) (by kernel_rfl) (fun s' h x hx=>arg_to hd (Nat.lt_of_lt_of_le l1 h.1) (Nat.lt_of_lt_of_le l6 h.1) ((h.2 _ l1).trans g1) ((h.2 _ l6).trans g6) x hx) c (by omega) hc
 focus
  refine Ew U<|Es<|Lv 4 U ?_;refine Bd U (fun h8=>?_) (fun h8=>?_);refine Lv 1 U<|Lg U U (kl U f7 U) ?_;refine Lg U U (Av U U (by kernel_rfl) U (run_87))<|Lw U ?_;rotate_left;refine Lw U ?_;rotate_left
 .exact Se ⟨.inl U,U,U,_,Aa U U,by rw[decide_eq_true (show c.length<=4 by omega)];rfl⟩
 .exact Se ⟨.inl U,U,U,_,Aa U U,by rw[decide_eq_false (show¬c.length<=4 by omega)];rfl⟩
def eE (ds:List DT) (n:Nat):List (List UInt8×AV):=(ds.take n).foldl (fun m d=>jg d.name (.bool true) m) []
theorem GJ {ds:List DT} {i:Nat} (h:i<ds.length):eE ds (i+1)=jg ds[i].name (.bool true) (eE ds i):=by
 unfold eE;rw[List.take_add_one,Qi h,Option.toList_some,List.foldl_append];rfl
theorem QI {w x:List UInt8} {v:AV}:∀ {l:List (List UInt8×AV)},getM w (l++[(x,v)])=match getM w l with|some y=>some y|none=>if w=x then some v else none
 | []=>rfl
 |p::l=>by
  show(if w=p.1 then some p.2 else getM w (l++[(x,v)]))=_;rw[QI,getM];split<;>rfl
theorem QH {w x:List UInt8} {v:AV} {l:List (List UInt8×AV)}:getM w (jg x v l)=match getM w l with|some y=>some y|none=>if w=x then some v else none:=by
 unfold jg;split
 .exact QI
 .next h=>
  cases hw:getM w l with
  |some y=>rfl
  |none=>
   rw[if_neg];rintro rfl;exact h hw
theorem Ui {ds:List DT} {w:List UInt8}:∀ {n:Nat},n<=ds.length->∀x,getM w (eE ds n)=some x->x= .bool true
 |0,_,x,h=>by cases h
 |n+1,hn,x,h=>by
  rw[GJ hn,QH]at h;cases hw:getM w (eE ds n)with
  |some y=>
   rw[hw]at h;cases h;exact Ui (by omega) _ hw
  |none=>
   rw[hw]at h;simp only at h;split at h
   .cases h;rfl
   .cases h
theorem Q1 {ds:List DT} {w:List UInt8}:∀ {n:Nat},n<=ds.length->(getM w (eE ds n)=none↔∀j (hj:j<ds.length),j<n->ds[j].name≠w)
 |0,_=>⟨fun _ _ _ h=>absurd h (Nat.not_lt_zero _),fun _=>rfl⟩
 |n+1,hn=>by
  have ih:=Q1 (ds:=ds) (w:=w) (n:=n) (by omega);rw[GJ hn,QH];cases hw:getM w (eE ds n)with
  |some y=>
   refine⟨fun h=>(by cases h),fun h=>?_⟩;have:=ih.2 fun j hj Co=>h j hj (by omega);rw[hw]at this;cases this
  |none=>
   simp only;have h0:=ih.1 hw;constructor
   .intro h j hj Co;rcases Nat.lt_or_ge j n with h1|h1
    .exact h0 j hj h1
    .obtain rfl:j=n:=by omega
     rintro rfl;rw[if_pos rfl]at h;cases h
   .intro h;rw[if_neg];rintro rfl;exact h n hn (by omega) U
theorem Uj {ds:List DT}:∀ {n:Nat},n<=ds.length->(eE ds n).length<=n/\((eE ds n).length=n↔∀i (h:i<ds.length),i<n->∀j (hj:j<ds.length),j<i->ds[j].name≠ds[i].name)
 |0,_=>⟨Qj _,⟨fun _ _ _ h=>absurd h (Nat.not_lt_zero _),fun _=>rfl⟩⟩
 |n+1,hn=>by
  obtain⟨h1,h2⟩:=Uj (ds:=ds) (n:=n) (by omega);rw[GJ hn];unfold jg;have hN:=Q1 (ds:=ds) (w:=ds[n].name) (n:=n) (by omega);by_cases hg:getM ds[n].name (eE ds n)=none
  .rw[if_pos hg,Ql];have hN:=hN.1 hg;refine⟨Nat.succ_le_succ h1,fun h i hi hin j hj hji=>?_,fun h=>congrArg Nat.succ (h2.2 fun i hi hin=>h i hi (by omega))⟩;rcases Nat.lt_or_ge i n with h3|h3
   .exact h2.1 (Nat.succ.inj h) i hi h3 j hj hji
   .obtain rfl:i=n:=by omega
    exact hN j hj hji
  .rw[if_neg hg];exact⟨by omega,fun h=>by omega,fun h=>absurd (hN.2 fun j hj pf=>h n hn (by omega) j hj pf) hg⟩
theorem argc_eq {ds:List DT} {p:Int} {c:List KT} (h0:0<=p) (h1:p<=3):(decide (c.length<=4)&&c.all fun t=>CG ds 20 t&&decide (YW (C9 t)<p))=tg ds p c:=by
 unfold tg
 congr 1
 exact congrArg c.all (funext fun t=>arg_eq h0 h1)
theorem Z7 {nm:List UInt8} {ps:Int} {cs:List (List KT)}:aR ⟨nm,ps,cs⟩=true↔nm=[66,111,111,108]/\ps=0/\cs.length=2/\(cs.getD 0 []).length+(cs.getD 1 []).length=0:=by
 unfold aR;rw[AB];simp only[Qf,decide_eq_true_eq]
theorem wS (ds:List DT) (hs:CD ds=true):Cc (EK L3) 32 [We ds] S0 (.bool (Xr ds)):=by
 obtain⟨h8,XT⟩:=Da hs;refine As U ?_;have hit_79:L3 79 [We ds]=some (.int .i64 (ZU ds ds.length:Nat)):=hq_79 hs;have run_82:∀st,Cc (EK L3) 82 [We ds,.func (.func 80) [] []] st (.bool (ds.all jD)):=fun st=>
  UV (P:=fun d=>d.name.length<=20) (by kernel_rfl) (fun s' h x hx=>Cc.Y3 (E:=EK L3) (f:=80) (args:=[.agg (Y9 x)]) (hq_80 (d:=x) (by omega))) ds (by omega) (VE fun j hj=>(XT j hj).1)
 have X7:∀i (h:i<ds.length),∀c∈ds[i].cons,c.length<=6/\∀x∈c,Wa x<=26:=fun i h=>by
  have:=dT (Bool.and_eq_true_iff.1 hs).1;have h2:=List.all_eq_true.1 (Bool.and_eq_true_iff.1 hs).2 _ (List.getElem_mem h);intro c hc;have h3:=List.all_eq_true.1 (Bool.and_eq_true_iff.1 h2).2 c hc;exact⟨dT (Bool.and_eq_true_iff.1 h3).1,fun x hx=>F4 (List.all_eq_true.1 (Bool.and_eq_true_iff.1 h3).2 x hx)⟩
 focus
  refine Eh U<|Sq<|Es<|Ls 2 U<|AT (fn:=Tryz.f78) (by kernel_rfl) (by kernel_rfl) U U U U U U U U U U U<|Ew U<|Es<|Lv 4 U ?_;refine Bd U (fun h1=>?_) (fun h1=>?_);refine Lw U ?_;refine Se (Al (Xw.same U (Aa U U) U U U U ?_));refine Lv 2 U ?_;refine Be U (fun h2=>?_) (fun h2=>?_);refine Lw U<|Tt U<|Ew U ?_;refine Se (Er U ?_);refine Ab ?_;rotate_left;refine Ls 1 U ?_;refine Lg U U (kc U (hit_79))<|Lw U ?_;refine Cd U (fun h3=>?_) (fun h3=>?_);refine Ew U ?_;refine Se (Er U ?_);refine Ab ?_;rotate_left;refine Sk<|Ew U<|Sq<|Es<|Ls 2 U ?_;refine Lo (Av U U (by kernel_rfl) U (run_82 _)) U<|Lw U ?_;refine Cn U (fun h4=>?_) (fun h4=>?_);refine Ew U ?_;refine Se (Er U ?_);refine Ab ?_;rotate_left;refine Sk<|Es<|Lo (OT 2 U rS U) U<|Lw U<|Sq<|Eh U<|Sb ?_;rotate_left;refine Lw U ?_;refine Se (Al (Xw.same U (Aa U U) U U U U ?_));refine Lw U<|Tt U<|Ew U ?_;refine Se (Er U ?_);refine Ab ?_
  rotate_left
 .exact Bu fun h=>by have:=h.hi;omega
 .exact Bu fun h=>by have:=h.sum;omega
 .exact Bu fun h=>by
   have:ds.all jD=true:=List.all_eq_true.2 (VE h.each)
   simp_all
 .have X2:ds.all jD=true:=by assumption
  refine Ai (fun x:Nat×St=>([(25,.int .i64 (x.1:Nat)),(24,.int .i64 (ds.length:Nat)),(23,We ds),(4,.map 1),(1,.ptr 0 0)],x.2)) (fun x=>ds.length-x.1)
   (fun x=>x.1<=ds.length/\2<=x.2.next/\x.2.bound=0/\x.2.log=[]/\x.2.heap.get 0=some (.cells [We ds] 22 false)/\x.2.heap.get 1=some (.map (Xs 0 (eE ds x.1)) (eE ds x.1).length)/\∀j (hj:j<ds.length),j<x.1->ds[j].cons.all (tg ds ds[j].params)=true)
   (0,_) ⟨Qm _,Qj _,rfl,rfl,AD 0,AD 1,fun _ _ h=>absurd h (Nat.not_lt_zero _)⟩ rfl (Ah (by repeat' constructor)) ?_
  rintro⟨i,st⟩ ⟨hi,aC,ZR,ZE,gd,gm,ha⟩;dsimp only at hi aC ZR ZE gd gm ha|-;by_cases h:i<ds.length
  .have Yz:=A9 AS h;obtain⟨hn20,hc15,hc6⟩:=XT i h;have oQ:=List.all_eq_true.1 X2 _ (List.getElem_mem h);obtain⟨c1,c2,c3,c4,c5,c6,c7⟩:=Bg (st:=st) (z:=[.str [],.int .i64 0,.Ca]) (cs:=[.str ds[i].name,.int .i64 ds[i].params,CM XS 1 ds[i].cons]) (T:=54);have hmt:=Mq ((c4 1 (by omega)).trans gm) (Ui (w:=ds[i].name) hi);rw[<-GJ h]at hmt;unfold Y9 at Yz;focus
    refine Ew U<|Sq ?_;refine Cd U (fun h5=>?_) (fun h5=>?_);refine Sk<|Sq<|Sb<|Es<|Lq (kv U Yz) U<|Lv 1 U<|Lo (kz U) U<|Ln (kw U c1 U) U<|Ld<|Es<|Lv 2 U<|Lo (kl U c2 U) U<|Ln (LI (.inl U) rS qE U U U hmt) U<|Ld ?_;rotate_left;exact absurd h5 (by omega)
   refine Aq fun sB W6=>?_;have nB:sB.next=st.next+1:=by rw[W6];exact c7
   have bB:sB.bound=0:=by rw[W6];exact c5.trans ZR
   have lB:sB.log=[]:=by rw[W6];exact(Pn (by rw[c5];omega)).trans ((c6 (by omega)).trans ZE)
   have dB:sB.heap.get 0=some (.cells [We ds] 22 false):=by rw[W6,Aw,if_neg (by decide)];exact(c4 0 (by omega)).trans gd
   have mB:sB.heap.get 1=some (.map (Xs 0 (eE ds (i+1))) (eE ds (i+1)).length):=by rw[W6,Aw,if_pos rfl]
   have xB:sB.heap.get st.next=some (.cells [.str ds[i].name,.int .i64 ds[i].params,CM XS 1 ds[i].cons] 54 false):=by rw[W6,Aw,if_neg (by omega)];exact c2
   clear c1 c2 c3 c4 c5 c6 c7 W6 hmt;obtain⟨c1,c2,c3,c4,c5,c6,c7⟩:=Bg (st:=sB) (z:=[.WE]) (cs:=[.func (.func 83) [] [.ptr 0 0,.ptr st.next 0]]) (T:=29);refine Es<|Lv 1 U<|Lo (kz U) U<|Ln (kw U c1 U) U<|Ld ?_;refine Aq fun sC jV=>?_;have nC:sC.next=st.next+2:=by rw[jV];exact c7.trans (by rw[nB])
   have bC:sC.bound=0:=by rw[jV];exact c5.trans bB
   have lC:sC.log=[]:=by rw[jV];exact(c6 (by omega)).trans lB
   have dC:sC.heap.get 0=some (.cells [We ds] 22 false):=by rw[jV];exact(c4 0 (by omega)).trans dB
   have mC:sC.heap.get 1=some (.map (Xs 0 (eE ds (i+1))) (eE ds (i+1)).length):=by rw[jV];exact(c4 1 (by omega)).trans mB
   have xC:sC.heap.get st.next=some (.cells [.str ds[i].name,.int .i64 ds[i].params,CM XS 1 ds[i].cons] 54 false):=by rw[jV];exact(c4 _ (by omega)).trans xB
   have fC:sC.heap.get sB.next=some (.cells [.func (.func 83) [] [.ptr 0 0,.ptr st.next 0]] 29 false):=by rw[jV];exact c2
   clear c1 c2 c3 c4 c5 c6 c7 jV dB mB xB bB lB;have hp:0<=ds[i].params/\ds[i].params<=3:=by
    unfold jD at oQ;simp only[Qf,decide_eq_true_eq]at oQ;omega
   have run_85:Cc (EK L3) 85 [CM XS 1 ds[i].cons,.func (.func 86) [] [.ptr sB.next 0]] sC (.bool (ds[i].cons.all (tg ds ds[i].params))):=by
    rw[show tg ds ds[i].params=fun c=>decide (c.length<=4)&&c.all fun t=>CG ds 20 t&&decide (YW (C9 t)<ds[i].params)from funext fun c=>(argc_eq hp.1 hp.2).symm];exact UW (P:=fun c=>c.length<=6/\∀x∈c,Wa x<=26) (by kernel_rfl) (fun s' hO c hc=>args_to h8 (Nat.lt_of_lt_of_le (by omega) hO.1) (Nat.lt_of_lt_of_le (by omega) hO.1) (Nat.lt_of_lt_of_le (by omega) hO.1) ((hO.2 _ (by omega)).trans dC) ((hO.2 _ (by omega)).trans xC) ((hO.2 _ (by omega)).trans fC) c hc.1 hc.2) ds[i].cons (by omega) (X7 i h)
   focus
    refine Es<|Lv 1 U<|Lo (kl U xC U) U<|Lv 1 U ?_;refine Lo (Av U U (by kernel_rfl) U (run_85)) U<|Lw U ?_;refine Cn U (fun h6=>?_) (fun h6=>?_);refine Ew U ?_;refine Se ⟨.inl U,U,lC,bC,_,_,_,(Aa U U),U,U,?_⟩;refine Ab ?_;rotate_left;refine Sk<|Sr ?_;refine Lq (ka (b:=1) U (by omega)) U ?_;refine Lw U ?_;rotate_left
   .exact Bu fun hD=>by
     have:=hD.cons i h
     simp_all
   .refine⟨(i+1,sC),⟨h,by dsimp only;omega,bC,lC,dC,mC,fun j hj Co=>?_⟩,by show ds.length-(i+1)<ds.length-i;omega,rfl,rfl,Ah (by repeat' constructor)⟩;rcases Nat.lt_or_ge j i with h1|h1
    .exact ha j hj h1
    .obtain rfl:j=i:=by omega
     simp_all
  .have eW:i=ds.length:=by omega
   subst eW;obtain⟨hle,vC⟩:=Uj (ds:=ds) (Qj ds.length);have hlm:=Mt gm;generalize eE ds ds.length=M at hle vC gm hlm;obtain⟨⟨nm,ps,cs⟩,rest,iE⟩:∃d l,ds=d::l:=by
    cases ds with
    |nil=>simp_all
    |cons d l=>exact⟨d,l,rfl⟩
   have dg:CC (2+1) 0 (We ds)=some (.Wl ([.str nm,.int .i64 ps,CM XS 1 cs]++rest.flatMap Y9)):=by rw[iE];exact A9 AS (Nat.zero_lt_succ _)
   have hOK:iy ds↔M.length=ds.length/\aR ⟨nm,ps,cs⟩=true:=by
    constructor
    .intro hD;refine⟨vC.2 fun i hi _ j hj hji=>hD.apart i hi j hj hji,?_⟩;obtain⟨d,l,e,h2⟩:=hD.head;rw[iE]at e;cases e;exact h2
    .rintro⟨h1,h2⟩;exact⟨by omega,⟨_,_,iE,h2⟩,fun j hj=>List.all_eq_true.1 X2 _ (List.getElem_mem hj),fun i hi j hj hji=>vC.1 h1 i hi hi j hj hji,by omega,fun j hj=>ha j hj hj⟩
   have no:¬(M.length=ds.length/\aR ⟨nm,ps,cs⟩=true)->false=Xr ds:=fun h=>Bu (mt hOK.1 h);have yes:(M.length=ds.length/\aR ⟨nm,ps,cs⟩=true)->true=Xr ds:=fun h=>Oz (hOK.2 h);have hlm:∀s':St,s'.heap.get 1=some (.map (Xs 0 M) M.length)->aF s' (.map 1)=some (.int .i64 (M.length:Nat)):=fun s' h=>Mt h;have fP:0<ds.length:=by rw[iE];exact Nat.zero_lt_succ _
   have h60:∀c∈cs,c.length<=6:=fun c hc=>by
    have:=X7 0 fP c;simp only[iE,List.getElem_cons_zero]at this;exact(this hc).1
   clear hOK vC iE XT X7 ha X2 hs;obtain⟨c1,c2,c3,c4,c5,c6,c7⟩:=Bg (st:=st) (z:=[.str [],.int .i64 0,.Ca]) (cs:=[.str nm,.int .i64 ps,CM XS 1 cs]) (T:=54);focus
    refine Ew U<|Sq ?_;refine Cd U (fun h5=>?_) (fun h5=>?_);exact absurd h5 (by omega);refine Sx<|A8 U<|Es<|Lo (kl U gd U) U<|Lq (kv (k:=0) U dg) U<|Lv 1 U<|Lo (kz U) U<|Ln (kw U c1 U) U<|Ld ?_;rotate_left
   refine Aq fun sB W6=>?_;have nB:sB.next=st.next+1:=by rw[W6];exact c7
   have bB:sB.bound=0:=by rw[W6];exact c5.trans ZR
   have lB:sB.log=[]:=by rw[W6];exact(c6 (by omega)).trans ZE
   have dB:sB.heap.get 0=some (.cells [We ds] 22 false):=by rw[W6];exact(c4 0 (by omega)).trans gd
   have mB:aF sB (.map 1)=some (.int .i64 (M.length:Nat)):=hlm _ (by rw[W6];exact(c4 1 (by omega)).trans gm);have xB:sB.heap.get st.next=some (.cells [.str nm,.int .i64 ps,CM XS 1 cs] 54 false):=by rw[W6];exact c2
   clear c1 c2 c3 c4 c5 c6 c7 W6 gd gm hlm dg;by_cases hc:cs.length=2
   .obtain⟨c0,c1,rfl⟩:∃c0 c1,cs=[c0,c1]:=by
     match cs,hc with
     | [a,b],_=>exact⟨a,b,rfl⟩
    have zJ:CC (0+1) 0 (CM XS 1 [c0,c1])=some (.Wl ([CM Cm 3 c0]++[c1].flatMap XS)):=A9 DD (l:=[c0,c1]) (i:=0) (Nat.zero_lt_succ _);have rb:CC (0+1) 1 (CM XS 1 [c0,c1])=some (.Wl ([CM Cm 3 c1]++([]:List (List KT)).flatMap XS)):=A9 DD (l:=[c0,c1]) (i:=1) (Nat.lt_succ_self _);have h60a:=h60 c0 (by simp);have h60b:=h60 c1 (by simp);focus
     refine Ag (by kernel_rfl)<|Nv 1 U<|LG U U U U rS U mB U (.inl U) U U<|Nm U dB U (.inl U) U<|Nv 3 U ?_;refine Dd U (fun h6=>?_) (fun h6=>?_);refine Nv 1 U<|Nm U xB U (gG U) U<|Nz (A2 U CT U U U U) U U<|Nv 2 U ?_;refine Db U (fun g7=>?_) (fun g7=>?_);have h7:=bT g7;refine Nv 1 U<|Nm U xB U (gG U) U<|Nv 3 U ?_;refine Dd U (fun h8=>?_) (fun h8=>?_);refine Nv 1 U<|Nm U xB U (gG U) U<|Nv 5 U<|Nm U xB U (gG U) U ?_;refine Nz (Dc (k:=0) U zY JU U U (by omega) U) U U ?_;refine Nv 3 U<|Nm U xB U (gG U) U ?_;refine Nz (Dc (k:=1) U zY JU U U (by omega) U) U U ?_;refine Nv 2 U ?_;refine Nz (ka U (by omega)) U U ?_;refine Nw U ?_;refine Se ⟨.inl U,U,lB,bB,_,_,_,(Aa U U),U,U,?_⟩;refine Ab ?_;rotate_left;refine Nw U ?_;refine Se ⟨.inl U,U,lB,bB,_,_,_,(Aa U U),U,U,?_⟩;refine Ab ?_;rotate_left;have h7:=bF g7;refine Nw U ?_;refine Se ⟨.inl U,U,lB,bB,_,_,_,(Aa U U),U,U,?_⟩;refine Ab ?_
     rotate_left;refine Nw U ?_;refine Se ⟨.inl U,U,lB,bB,_,_,_,(Aa U U),U,U,?_⟩;refine Ab ?_;rotate_left
    .by_cases hz:c0.length+c1.length=0
     .rw[decide_eq_true (by omega)];exact yes ⟨by omega,Z7.2 ⟨by assumption,by assumption,U,hz⟩⟩
     .rw[decide_eq_false (by omega)];exact no fun h=>hz (Z7.1 h.2).2.2.2
    .exact no fun h=>absurd (Z7.1 h.2).2.1 h8
    .exact no fun h=>absurd (Z7.1 h.2).1 h7
    .exact no fun h=>by omega
   .focus
     refine Ag (by kernel_rfl)<|Nv 1 U<|LG U U U U rS U mB U (.inl U) U U<|Nm U dB U (.inl U) U<|Nv 3 U ?_;refine Dd U (fun h6=>?_) (fun h6=>?_);refine Nv 1 U<|Nm U xB U (gG U) U<|Nz (A2 U CT U U U U) U U<|Nv 2 U ?_;refine Db U (fun g7=>?_) (fun g7=>?_);have h7:=bT g7;refine Nv 1 U<|Nm U xB U (gG U) U<|Nv 3 U ?_;refine Dd U (fun h8=>?_) (fun h8=>?_);refine Nv 1 U<|Nm U xB U (gG U) U<|Nv 4 U ?_;refine Dd U (fun h9=>?_) (fun h9=>?_);exact absurd h9 (by omega);refine Nw U ?_;refine Se ⟨.inl U,U,lB,bB,_,_,_,(Aa U U),U,U,?_⟩;refine Ab ?_;rotate_left;refine Nw U ?_;refine Se ⟨.inl U,U,lB,bB,_,_,_,(Aa U U),U,U,?_⟩;refine Ab ?_;rotate_left;have h7:=bF g7;refine Nw U ?_;refine Se ⟨.inl U,U,lB,bB,_,_,_,(Aa U U),U,U,?_⟩;refine Ab ?_;rotate_left;refine Nw U ?_;refine Se ⟨.inl U,U,lB,bB,_,_,_,(Aa U U),U,U,?_⟩;refine Ab ?_;rotate_left
    .exact no fun h=>hc (Z7.1 h.2).2.2.1
    .exact no fun h=>absurd (Z7.1 h.2).2.1 h8
    .exact no fun h=>absurd (Z7.1 h.2).1 h7
    .exact no fun h=>by omega
 .exact Bu fun hD=>by
   obtain⟨d,l,e,_⟩:=hD.head;have:=congrArg List.length e;rw[List.length_cons]at this;omega
noncomputable def L4:=W7 L3 32 fA (fun p=> .bool (Xr p.1))
theorem hq_32 {ds:List DT} (h:CD ds=true):L4 32 [We ds]=some (.bool (Xr ds)):=An (enc:=fA) (fun a b h=>by rw[Hb a b h]) ⟨ds,h⟩
theorem all4 (h:Wq Tryz.prog 8 [] (.bool true)):Cq Tryz.prog gn L4:=A3 Ax Aj (all3 h) (fun p:SmP=>wS p.1 p.2) (fun _=>rfl) (fun _=>rfl)
inductive Sh where
 |mk (op:Nat) (text:List UInt8) (kids:List Sh)
def Sh.op:Sh->Nat| .mk o _ _=>o
def Sh.text:Sh->List UInt8| .mk _ t _=>t
def Sh.kids:Sh->List Sh| .mk _ _ k=>k
def eF (ts:List XX) (i:Nat):XX:=ts.getD i (0,[],0,0)
def Zb (ts:List XX) (i:Nat):Nat:=(eF ts i).1
def cG (ts:List XX) (i:Nat):List UInt8:=(eF ts i).2.1
def fc (ts:List XX) (i:Nat) (w:List UInt8):Bool:=Cp (cG ts i) w&&(decide (Zb ts i=5)||decide (Zb ts i=3))
abbrev opn:List UInt8:=[40]
abbrev cls:List UInt8:=[41]
abbrev com:List UInt8:=[44]
abbrev arw:List UInt8:=[45,62]
def j9 (P:Nat->Option (Sh×Nat)) (ts:List XX):Nat->Nat->Option (List Sh×Nat)
 |0,_=>none
 |m+1,j=>if fc ts j com then(P (j+1)).bind fun x=>(j9 P ts m x.2).map fun y=>(x.1::y.1,y.2)
  else if fc ts j cls then some ([],j+1)else none
def jh (P:Nat->Option (Sh×Nat)) (ts:List XX) (i:Nat):Option (List Sh×Nat):=
 if fc ts i opn then(P (i+1)).bind fun x=>(j9 P ts ts.length x.2).map fun y=>(x.1::y.1,y.2)else some ([],i)
def dE (P:Nat->Option (Sh×Nat)) (ts:List XX) (i:Nat):Option (Sh×Nat):=
 if Zb ts i=1 then some (.mk 100 (cG ts i) [],i+1)
 else if Zb ts i=2 then(jh P ts (i+1)).map fun y=>(.mk 101 (cG ts i) y.1,y.2)
 else if fc ts i opn then(P (i+1)).bind fun x=>if fc ts x.2 cls then some (x.1,x.2+1)else none
 else none
def Xx (ts:List XX):Nat->Nat->Option (Sh×Nat)
 |0,_=>none
 |n+1,i=>(dE (Xx ts n) ts i).bind fun x=>if fc ts x.2 arw then(Xx ts n (x.2+1)).map fun y=>(.mk 102 [] [x.1,y.1],y.2)else some x
theorem MY {ts:List XX} {i:Nat} (h:Zb ts i≠0):i<ts.length:=by
 rcases Nat.lt_or_ge i ts.length with h1|h1
 .exact h1
 .exact absurd (by unfold Zb eF;rw[List.getD_eq_getElem?_getD,List.getElem?_eq_none h1];rfl) h
theorem Pf {ts:List XX} {i:Nat} {w:List UInt8} (h:fc ts i w=true):i<ts.length:=by
 refine MY fun h0=>?_;unfold fc at h;rw[h0]at h;simp at h
def wT (ts:List XX) (P:Nat->Option (Sh×Nat)):Prop:=∀i a j,P i=some (a,j)->i<j/\j<=ts.length
theorem wU {ts:List XX} {P:Nat->Option (Sh×Nat)} (hP:wT ts P):∀m i l j,j9 P ts m i=some (l,j)->i<j/\j<=ts.length
 |0,_,_,_,h=>by cases h
 |m+1,i,l,j,h=>by
  unfold j9 at h;split at h
  .obtain⟨⟨a,k⟩,h1,h2⟩:=Qa.1 h;obtain⟨⟨l2,e⟩,h3,h4⟩:=Option.map_eq_some_iff.1 h2;cases h4;have:=hP _ _ _ h1;have:=wU hP m k l2 e h3;dsimp only;omega
  .split at h
   .next h1=>cases h;exact⟨Nat.lt_succ_self _,Pf h1⟩
   .cases h
theorem wV {ts:List XX} {P:Nat->Option (Sh×Nat)} (hP:wT ts P) {i l j} (hi:i<=ts.length) (h:jh P ts i=some (l,j)):i<=j/\j<=ts.length:=by
 unfold jh at h;split at h
 .obtain⟨⟨a,k⟩,h1,h2⟩:=Qa.1 h;obtain⟨⟨l2,e⟩,h3,h4⟩:=Option.map_eq_some_iff.1 h2;cases h4;have:=hP _ _ _ h1;have:=wU hP _ k l2 e h3;dsimp only;omega
 .cases h;exact⟨Qj _,hi⟩
theorem TG {ts:List XX} {P:Nat->Option (Sh×Nat)} (hP:wT ts P):wT ts (dE P ts):=by
 intro i a j h;unfold dE at h;split at h
 .next h1=>cases h;exact⟨Nat.lt_succ_self _,MY (by omega)⟩
 .split at h
  .next h1=>
   have:=MY (ts:=ts) (i:=i) (by omega);obtain⟨⟨l2,e⟩,h3,h4⟩:=Option.map_eq_some_iff.1 h;cases h4;have:=wV hP (by omega) h3;dsimp only;omega
  .split at h
   .obtain⟨⟨a,k⟩,h1,h2⟩:=Qa.1 h;have:=hP _ _ _ h1;split at h2
    .next h3=>
     cases h2;have:=Pf h3;dsimp only at*;omega
    .cases h2
   .cases h
theorem FT (ts:List XX):∀n,wT ts (Xx ts n)
 |0=>fun _ _ _ h=>by cases h
 |n+1=>by
  intro i a j h;unfold Xx at h;obtain⟨⟨a1,k⟩,h1,h2⟩:=Qa.1 h;have:=TG (FT ts n) _ _ _ h1;split at h2
  .obtain⟨⟨b,e⟩,h3,h4⟩:=Option.map_eq_some_iff.1 h2;cases h4;have:=FT ts n _ _ _ h3;dsimp only at*;omega
  .cases h2;exact this
end Go.Proofs.YtfhimfcbphepeaaGreatDoor.Ty
open Go Am
namespace Am
noncomputable def ov (s:St) (b:Nat) (o:Option Cw):St:= {s with log:=bif Nat.blt b s.bound then b::s.log else s.log,heap:=s.heap.set b o}
theorem cH {s:St} {b c:Nat} {o:Option Cw}:(ov s b o).heap.get c=if c=b then o else s.heap.get c:=Ay ..
theorem kY {s:St} {b c:Nat} {o:Option Cw}:c∈(ov s b o).log↔(c=b/\c<s.bound)\/c∈s.log:=by
 show c∈(bif Nat.blt b s.bound then b::s.log else s.log)↔_;cases h:Nat.blt b s.bound with
 |true=>
  have h:b<s.bound:=Qc h;rw[cond_true,Qk];exact or_congr ⟨fun e=>⟨e,by omega⟩,fun e=>e.1⟩ Iff.rfl
 |false=>
  rw[cond_false];refine⟨.inr,fun h2=>h2.elim (fun⟨e,h3⟩=>?_) id⟩;have:=Qd (show c+1<=s.bound from h3);rw[e]at this;rw[show Nat.blt b s.bound=Nat.ble (b+1) s.bound from rfl,this]at h;cases h
theorem Rb {s:St} {b:Nat} {o:Option Cw}:XB s (ov s b o) (fun c=>c=b):=⟨Qj _,rfl,fun c hc=>by
 rcases kY.1 hc with h|h
 .exact .inr ⟨h.2,h.1⟩
 .exact .inl h,fun c _ h=>cH.trans (if_neg h)⟩
theorem Us {s:St} {b:Nat} {o:Option Cw}:Ct s (ov s b o):=⟨rfl,fun c hc=>kY.2 (.inr hc),fun c hc hn=>cH.trans (if_neg fun e=>hn (kY.2 (.inl ⟨e,hc⟩)))⟩
section
variable {E : Env} {fr : Fr} {l : Sl} {st : St} {o : Oper} {all rest : List Oper} {i : Nat} {js : List Nat} {nl : Wu} {K : Sl -> St -> Prop} {od : Option Nat}
theorem FN {KN:PN} {t k e:TypeId} {kd:Kd} {x y:Operand} {ok:Bool} {z a v:AV} {b:Nat} (ho:o.op= .lookup t x y ok) (hu:CN E t=some (.map k e)) (hz:zeroOf E e=some z) (hk:bQ E k=some kd) (hx:Ch x (CQ (tmpsOf o.op.operands.toList) l)=some (.map b)) (hy:Ch y (CQ (tmpsOf o.op.operands.toList) l)=some a)
 (hv:bo kd st ok z (.map b) a=some v) (hc:WC (CZ all i) b nl=true) (hg:CY all l o) (hd:o.dst=od) (Co:WB fr.nt od=true)
 (h:CK E KN all rest (i+1) fr (Xp od v l) st (i::js) nl K):CK E KN all (o::rest) i fr l st js nl K:=
 MK (p:= .map b) (b:=b) (x:=Cg E x) (f:=fun T s=>(Cg E x T).bind fun a=>(Cg E y T).bind fun c=>bo kd s ok z a c) (by
  rw[ho];show gO E t x y ok=_;unfold gO;rw[hu];simp only[hz,hk]) (fun T hT=>Ae hT hx) rfl (fun T hT=>by
  simp only[Ae hT hx,Ae hT hy,Qe];have e:(st.sub (Tr.set .nil b (st.heap.get b))).heap.get b=st.heap.get b:=by show(Tr.set .nil b (st.heap.get b)).get b=_;rw[Ay,if_pos rfl]
  have e2:bo kd (st.sub (Tr.set .nil b (st.heap.get b))) ok z (.map b) a=bo kd st ok z (.map b) a:=by
   show(bif cK kd a then(dN _).bind _ else none)=(bif cK kd a then(dN _).bind _ else none)
   rw[e]
  rw[e2];exact hv) hc hg hd Co h
theorem Ik {KN:PN} {t k e:TypeId} {kd:Kd} {mo x y:Operand} {a v:AV} {b:Nat} {ob:Cw} (ho:o.op= .mapUpdate t mo x y\/o.op= .insert t mo x y) (hu:CN E t=some (.map k e)) (hk:bQ E k=some kd) (hm:Ch mo (CQ (tmpsOf o.op.operands.toList) l)=some (.map b)) (hx:Ch x (CQ (tmpsOf o.op.operands.toList) l)=some a) (hy:Ch y (CQ (tmpsOf o.op.operands.toList) l)=some v)
 (hs:Z9 kd st a v (.map b)=some (st.put b (some ob))) (fh:b<st.next) (hc:WC (CZ all i) b nl=true) (g9:fy (CZ all i) js=true) (hg:CY all l o) (hd:o.dst=od) (Co:WB fr.nt od=true)
 (h:CK E KN all rest (i+1) fr (Xp od (.tuple []) l) (ov st b (some ob)) (i::js) ((i,b)::nl) K):CK E KN all (o::rest) i fr l st js nl K:=by
 have e:(st.sub (Tr.set .nil b (st.heap.get b))).heap.get b=st.heap.get b:=by show(Tr.set .nil b (st.heap.get b)).get b=_;rw[Ay,if_pos rfl]
 have oZ:Z9 kd (st.sub (Tr.set .nil b (st.heap.get b))) a v (.map b)=some ((st.sub (Tr.set .nil b (st.heap.get b))).put b (some ob)):=by
  unfold Z9 at hs|-;simp only at hs|-;rw[e];cases X2:cK kd a with
  |false=>rw[X2]at hs;cases hs
  |true=>
   rw[X2]at hs;simp only[cond_true]at hs|-;unfold gQ at hs|-;split at hs
   .next es clock hh=>
    obtain⟨r,h1,h2⟩:=Qa.1 hs;rw[h1,Qe];have key:∀ob',some (st.put b (some ob'))=some (st.put b (some ob))->ob'=ob:=fun ob' hq=>by
     have:=congrArg (fun s:St=>s.heap.get b) (Option.some.inj hq);simpa[Aw]using this
    cases r with
    |some e=>rw[key _ h2]
    |none=>rw[key _ h2]
   .cases hs
 have Wk:((st.sub (Tr.set .nil b (st.heap.get b))).put b (some ob)).log=[b]:=by
  show(bif Nat.blt b st.next then [b]else [])=_;rw[show Nat.blt b st.next=true from Qd fh];rfl
 have y9:st.merged ((st.sub (Tr.set .nil b (st.heap.get b))).put b (some ob))=ov st b (some ob):=by
  have hh:W8 ((st.sub (Tr.set .nil b (st.heap.get b))).put b (some ob)).heap (YO st.next (st.next-st.next)) (W8 ((st.sub (Tr.set .nil b (st.heap.get b))).put b (some ob)).heap [b] st.heap)=st.heap.set b (some ob):=by
   rw[Nat.sub_self];show st.heap.set b _=_;rw[show((st.sub (Tr.set .nil b (st.heap.get b))).put b (some ob)).heap.get b=some ob from by
    show((Tr.set .nil b (st.heap.get b)).set b (some ob)).get b=_;rw[Ay,if_pos rfl]]
  unfold St.merged;rw[Wk];show St.mk st.next st.bound _ _=St.mk st.next st.bound _ _
  congr 1
 have:=JJ (E:=E) (KN:=KN) (all:=all) (rest:=rest) (fr:=fr) (K:=K) (od:=od) (nl:=nl) (js:=js) (i:=i) (o:=o) (l:=l) (st:=st) (x:=Cg E mo) (one:=true) (dH:= .block b) (H:=Tr.set .nil b (st.heap.get b)) (v:= .tuple []) (s2:=(st.sub (Tr.set .nil b (st.heap.get b))).put b (some ob))
  (f:=fun T s=>(Cg E mo T).bind fun a=>(Cg E x T).bind fun b=>(Cg E y T).bind fun c=>dO (Z9 kd s b c a)) (by
   have:Xz E o.type o.op=bp E t mo x y:=by rcases ho with ho|ho<;>rw[ho]<;>rfl
   rw[this];unfold bp;rw[hu];simp only[hk]) (fun T hT=>by
   show dZ (ZA (Cg E mo T))=_;rw[Ae hT hm];rfl) (fun news bM=>by
   show(bif Yn (CZ all i) b news then _ else _)=_;rw[By hc bM];rfl) (LI ho hu hk hm hx hy oZ) (Qj _) (fun c vT=>by
   rw[Wk,Qn]at vT;subst vT;exact⟨fh,hc⟩) g9 hg hd Co
 rw[y9,Wk]at this;apply this;show CK E KN all rest (i+1) fr _ _ _ (Y4 i (Y4 i nl (YO st.next (st.next-st.next))) [b]) K;rw[Nat.sub_self];exact h
theorem SG {KN:PN} {c:Call} {t e:TypeId} {ts:List TypeId} {x y:Operand} {sz VY m:Nat} {z w:AV} {new:List AV} (hb:st.bound<=st.next) (ZN:new.length=m*sz) (l8:0<sz) (XT:small (0+m) VY=true)
 (ho:o.op= .call c) (hc:c.callee= .builtin .append) (ht:c.argTypes.toList=t::ts) (ha:c.args.toList=[x,y])
 (hu:CN E t=some (.slice e)) (Xn:sizeOf E e=some sz) (ei:bytesOf E e=some VY) (hz:zeroOf E e=some z) (hk:(!(Nat.beq (WL z.cells) sz)||Nat.beq sz 0|| !(bK E ts.head?))=false) (h0:X5 E ts.head?=false)
 (hx:Ch x (CQ (tmpsOf o.op.operands.toList) l)=some .Ca) (hy:Ch y (CQ (tmpsOf o.op.operands.toList) l)=some w) (vC:WJ (st.sub st.heap) sz w=some (new,m))
 (g9:fy (CZ all i) js=true) (dx:(nl.all fun p=>Nat.testBit (CZ all i) p.1)=true) (hg:CY all l o) (hd:o.dst=od) (Co:WB fr.nt od=true)
 (h:∀v2 bN iD,Grown bN e sz v2 new m->(∀c,C6 c v2=true->st.next<=c)->XB st bN (fun _=>False)->Ct st bN->cZ nl i st.next [] iD->
  CK E KN all rest (i+1) fr (Xp od v2 l) bN (i::js) iD K):CK E KN all (o::rest) i fr l st js nl K:=by
 have hG:Grown (st.sub st.heap) e sz .Ca [] 0:=Grown.nil _ _ _;obtain⟨v2,s2,h1,h2,h3,h4,h5,h6,h7,h8⟩:=hG.zS (VY:=VY) ZN l8 XT;have e1:(st.sub st.heap).next=st.next:=rfl;have e2:(st.sub st.heap).bound=st.next:=rfl;have ZE:Ct (st.sub st.heap) s2:=D5 (by omega) h1;have hn:st.next<=s2.next:=by omega
 have yi:=D6 (st:=st) (by omega) ZE rfl;have Wk:∀b,b∉s2.log:=fun b hb=>by
  rcases h7 b hb with h|h
  .cases h
  .cases h.2
 have eV:s2.log=[]:=List.eq_nil_iff_forall_not_mem.2 Wk;rw[List.nil_append,Nat.zero_add]at h2;have hck:XB (st.sub st.heap) s2 (fun _=>False):=⟨hn,by omega,fun c hc=>absurd hc (Wk c),fun c hc _=>h8 c hc rfl⟩
 refine CK.append ho hc ht ha hu Xn ei hz hk h0 hx hy vC h1 hn (fun b hb=>absurd hb (Wk b)) g9 dx hg hd Co (h v2 (st.merged s2) _ (h2.Wd (Qj _) fun c hc=>yi c (h2.own hc)) (fun c hc=>by
  rcases h3 c hc with h|h
  .cases h
  .omega) hck.merged (Ct.region hn ZE hb) fun p hp=>?_)
 rcases Hz (n:=st.next) (lg:=s2.log) p hp with h|⟨h1,h2⟩
 .exact .inl h
 .exact .inr ⟨h1,h2.imp id fun h=>absurd h (Wk _)⟩
end
end Am
open Go Am
namespace Go.Proofs.YtfhimfcbphepeaaGreatDoor.Ty
theorem Bs (cs:List AV) (n k:Nat):CJ cs n k= .Ca\/CJ cs n k= .Cf cs n k true:=by
 unfold CJ;cases Nat.beq n 0
 .exact .inr U
 .exact .inl U
theorem FD {s:St} {m n k j:Nat} {cs:List AV} {ks:List Nat}:Cs s m (n+1) (CJ cs j k) ks=some (CJ cs j k,ks):=by
 rcases Bs cs j k with h|h<;>rw[h]<;>rfl
theorem P2 {f:AV->List Nat->Option (AV×List Nat)} {a a' b b':List AV} {ks k1 k2:List Nat} (h1:Cs.many f a ks=some (a',k1)) (h2:Cs.many f b k1=some (b',k2)):Cs.many f (a++b) ks=some (a'++b',k2):=by
 induction a generalizing a' ks with
 |nil=>
  cases h1;exact h2
 |cons v a ih=>
  have h1:((f v ks).bind fun p=>(Cs.many f a p.2).bind fun q=>some (p.1::q.1,q.2))=some (a',k1):=h1;obtain⟨⟨v',kv⟩,e1,e2⟩:=Qa.1 h1;obtain⟨⟨l',kl⟩,e3,e4⟩:=Qa.1 e2;cases e4;show((f v ks).bind fun p=>(Cs.many f (a++b) p.2).bind fun q=>some (p.1::q.1,q.2))=_;rw[e1];show((Cs.many f (a++b) kv).bind _)=_;rw[ih e3];rfl
abbrev X4:=List UInt8
abbrev Ww (l:List X4):AV:=CJ (l.map .str) l.length 1
theorem IA (l:List X4):Am.dq (Ww l)=some (.int .i64 (l.length:Nat)):=by cases l<;>rfl
theorem Tl {l:List X4} {i:Nat} (h:i<l.length):CC (0+1) i (Ww l)=some (.Wl ([.str l[i]]++(l.drop (i+1)).flatMap fun w=>[.str w])):=by
 have e:Ww l=CM (fun w=>[AV.str w]) (0+1) l:=by
  unfold Ww CJ CM;cases l with
  |nil=>cases h
  |cons a l=>
   show AV.Cf _ _ _ _=AV.Cf _ _ _ _
   congr 1
   rw[List.flatMap_def,List.map_eq_flatMap,List.flatMap_def]
 rw[e];exact A9 (fun _=>rfl) h
def YR (w:X4):List X4->Option Nat
 | []=>none
 |a::l=>if a=w then some 0 else(YR w l).map (· +1)
def ji (o:Option Nat):Int:=match o with
 |some k=>(k:Int)
 |none=> -1
theorem U9 {w:X4}:∀ {l:List X4} {i:Nat} (h:i<l.length),(∀j (hj:j<l.length),j<i->l[j]≠w)->l[i]=w->YR w l=some i
 |a::l,0,h,_,he=>if_pos he
 |a::l,i+1,h,hn,he=>by
  have h0:a≠w:=hn 0 (Nat.zero_lt_succ _) (Nat.zero_lt_succ _);unfold YR;rw[if_neg h0,U9 (l:=l) (i:=i) (Nat.lt_of_succ_lt_succ h) (fun j hj hji=>hn (j+1) (Nat.succ_lt_succ hj) (Nat.succ_lt_succ hji)) he];rfl
theorem Jn {w:X4}:∀ {l:List X4},(∀j (hj:j<l.length),l[j]≠w)->YR w l=none
 | [],_=>rfl
 |a::l,hn=>by
  have h0:a≠w:=hn 0 (Nat.zero_lt_succ _);unfold YR;rw[if_neg h0,Jn (l:=l) fun j hj=>hn (j+1) (Nat.succ_lt_succ hj)];rfl
theorem Pz {w:X4}:∀ {l:List X4} {k:Nat},YR w l=some k->∃h:k<l.length,l[k]=w
 |a::l,k,h=>by
  unfold YR at h;split at h
  .next h1=>cases h;exact⟨Nat.zero_lt_succ _,h1⟩
  .obtain⟨j,h1,rfl⟩:=Option.map_eq_some_iff.1 h;obtain⟨h2,h3⟩:=Pz h1;exact⟨Nat.succ_lt_succ h2,h3⟩
theorem wW (l:List X4) (w:X4) (hl:l.length<=4000):Cc (EK L4) 101 [Ww l,.str w] S0 (.int .i64 (ji (YR w l))):=by
 refine As U ?_;have tE:=IA l;refine Ew U<|Sq<|Ew U<|Sb ?_;refine Ai (fun i:Nat=>([(5,.int .i64 (i:Nat)),(1,.str w),(0,Ww l)],Xj 0 0 [] [])) (fun i=>l.length-i) (fun i=>i<=l.length/\∀j (hj:j<l.length),j<i->l[j]≠w) 0 ⟨Qm _,fun _ _ h=>absurd h (Nat.not_lt_zero _)⟩ U (Ah (by repeat' constructor)) ?_;rintro i ⟨hi,ha⟩;by_cases h:i<l.length
 .have qG:=Tl h;focus
   refine Sq<|Es<|Lv 2 U<|Lq (kn U tE) U<|Lw U ?_;refine Cd U (fun h1=>?_) (fun h1=>?_);refine Sk<|Sq<|Sb<|Es<|Lv 2 U<|Lq (kv U qG) U<|Lv 2 U<|Lq (A2 U CT U U U U) U<|Ld ?_;refine Cb U (fun g2=>?_) (fun g2=>?_);have h2:=bT g2;refine Ew U ?_;refine Se (Er U ?_);rotate_left;have h2:=bF g2;refine Sk<|Sr<|qm U ?_;refine Lq (ka (b:=1) U (by omega)) U ?_;refine Lw U ?_;rotate_left;exact absurd h1 (by omega)
  .rw[U9 h ha h2];rfl
  .refine⟨i+1,⟨h,fun j hj Co=>?_⟩,by show l.length-(i+1)<l.length-i;omega,rfl,rfl,Ah (by repeat' constructor)⟩;rcases Nat.lt_or_ge j i with h1|h1
   .exact ha j hj h1
   .obtain rfl:j=i:=by omega
    assumption
 .focus
   refine Sq<|Es<|Lv 2 U<|Lq (kn U tE) U<|Lw U ?_;refine Cd U (fun h1=>?_) (fun h1=>?_);exact absurd h1 (by omega);refine Sx<|A8 U<|Ew U ?_;refine Se (Er U ?_);rotate_left
  rw[Jn fun j hj=>ha j hj (by omega)];rfl
abbrev IxT:= {p:List X4×X4//p.1.length<=4000}
def pF (p:IxT):List AV:=[Ww p.1.1,.str p.1.2]
theorem Qo:∀ {a b:List X4},a.map AV.str=b.map .str->a=b
 | [],[],_=>rfl
 |_::_,_::_,h=>by
  simp only[List.map_cons,List.cons.injEq,AV.str.injEq]at h;rw[h.1,Qo h.2]
theorem Nc {a b:List X4} (h:Ww a=Ww b):a=b:=by
 cases a with
 |nil=>cases b with
  |nil=>rfl
  |cons _ _=>cases h
 |cons x a=>cases b with
  |nil=>cases h
  |cons y b=>exact Qo (AV.Cf.inj h).1
theorem ER (l:List X4):Cj 40 (Ww l)=true:=by cases l<;>rfl
theorem Vh (x y:IxT) (h:pF x=pF y):x=y:=by
 obtain⟨⟨a,b⟩,_⟩:=x;obtain⟨⟨a',b'⟩,_⟩:=y;simp only[pF,List.cons.injEq,AV.str.injEq,and_true]at h;obtain⟨h0,rfl⟩:=h;obtain rfl:=Nc h0;rfl
noncomputable def L5:=W7 L4 101 pF (fun p=> .int .i64 (ji (YR p.1.2 p.1.1)))
theorem wX {l:List X4} {w:X4} (h:l.length<=4000):L5 101 [Ww l,.str w]=some (.int .i64 (ji (YR w l))):=An (enc:=pF) (fun a b h=>by rw[Vh a b h]) ⟨(l,w),h⟩
theorem all5 (h:Wq Tryz.prog 8 [] (.bool true)):Cq Tryz.prog gn L5:=A3 Ax Aj (all4 h) (fun p:IxT=>wW p.1.1 p.1.2 p.2) (fun p=>by
 show(Cj 40 (Ww p.1.1)&&true)=true;rw[ER];rfl) (fun _=>rfl)
theorem wY (ds:List DT) (hd:ds.length<=1000):Cc (EK L5) 102 [We ds] S0 (Ww (ds.map DT.name)):=by
 refine As U ?_;iterate 2 refine Ew U ?_
 refine Sq<|Ew U<|Sb ?_;refine Ai (fun x:Nat×AV×St=>([(4,.int .i64 (x.1:Nat)),(3,x.2.1),(0,We ds)],x.2.2)) (fun x=>ds.length-x.1)
  (fun x=>x.1<=ds.length/\x.2.2.bound=0/\x.2.2.log=[]/\Grown x.2.2 9 1 x.2.1 (((ds.take x.1).map DT.name).map .str) x.1) (0,.Ca,_) ⟨Qm _,rfl,rfl,Grown.nil _ _ _⟩ rfl (Ah (by repeat' constructor)) ?_
 rintro⟨i,v,st⟩ ⟨hi,ZR,ZE,aV⟩;dsimp only at hi ZR ZE aV|-;by_cases h:i<ds.length
 .have Yz:=A9 AS h;unfold Y9 at Yz;focus
   refine Sq<|Ew U ?_;refine Cd U (fun h1=>?_) (fun h1=>?_);refine Sk<|Sq<|Sb<|Sr<|Lv 3 U<|Lq (kv U Yz) U<|Lv 2 U<|Lo (AC U MV HT pU U U U) U ?_;rotate_left;exact absurd h1 (by omega)
  refine BP aV U (by decide) (AH (by omega) (by decide)) (AH (by omega) (by decide)) U U U U MV HT tf pU (by kernel_rfl) (by kernel_rfl) U U U U U fun v6 s6 f6 o6 c6 l6=>?_;refine Lw U<|Sr<|qm U ?_;refine Lq (ka (b:=1) U (by omega)) U ?_;refine Lw U ?_;refine⟨(i+1,v6,s6),⟨h,c6.bound.trans ZR,List.eq_nil_iff_forall_not_mem.2 fun c hc=>?_,?_⟩,by show ds.length-(i+1)<ds.length-i;omega,rfl,rfl,Ah (by repeat' constructor)⟩
  .rcases c6.log c hc with h1|h1
   .rw[ZE]at h1;cases h1
   .omega
  .rw[List.take_succ_eq_append_getElem h,List.map_append,List.map_append];exact f6
 .obtain rfl:i=ds.length:=by omega
  rw[List.take_length]at aV;focus
   refine Sq<|Ew U ?_;refine Cd U (fun h1=>?_) (fun h1=>?_);exact absurd h1 (by omega);refine Sx<|A8 U<|Ew U ?_;rotate_left
  have hp:((ds.map DT.name).map AV.str).all er=true:=by rw[List.all_map,List.all_map];exact List.all_eq_true.2 fun _ _=>rfl
  obtain⟨ks,hf⟩:=aV.j0 hp (EU hp) 38;refine Se ⟨.inl U,U,ZE,ZR,_,_,ks,Aa U U,hf,?_,?_⟩
  .rcases Bs ((ds.map DT.name).map AV.str) ds.length 1 with e|e<;>rw[e]<;>rfl
  .unfold Ww;rw[List.length_map]
abbrev DnT:= {ds:List DT//ds.length<=1000}
def encDn (p:DnT):List AV:=[We p.1]
noncomputable def L6:=W7 L5 102 encDn (fun p=>Ww (p.1.map DT.name))
theorem hq_102 {ds:List DT} (h:ds.length<=1000):L6 102 [We ds]=some (Ww (ds.map DT.name)):=An (enc:=encDn) (fun a b h=>by rw[show a=b from Subtype.ext (EG (List.cons.inj h).1)]) ⟨ds,h⟩
theorem all6 (h:Wq Tryz.prog 8 [] (.bool true)):Cq Tryz.prog gn L6:=A3 Ax Aj (all5 h) (fun p:DnT=>wY p.1 p.2) (fun _=>rfl) (fun p=>ER _)
mutual
def W4:KT->List AV
 | .mk o n ks=>[.int .i64 o,.int .i64 n,CJ (CS ks) ks.length 3]
def CS:List KT->List AV
 | []=>[]
 |t::ts=>W4 t++CS ts
end
theorem Fo:∀l:List KT,CS l=l.flatMap W4
 | []=>rfl
 |_::l=>congrArg _ (Fo l)
theorem MB (o n:Int) (ks:List KT):W4 (.mk o n ks)=[.int .i64 o,.int .i64 n,CJ (CS ks) ks.length 3]:=rfl
theorem BH (x:KT):W4 x=[.int .i64 x.op,.int .i64 x.n,CJ (CS x.kids) x.kids.length 3]:=by cases x;rfl
theorem Ix (x:KT):(W4 x).length=2+1:=by rw[BH];rfl
theorem Ot (l:List KT) (a:KT):CS (l++[a])=CS l++W4 a:=by rw[Fo,List.flatMap_append,<-Fo];simp[Fo]
theorem Gk (x:KT) (n:Nat):(W4 x).all (Cj (n+1))=true:=by
 rw[BH];rcases Bs (CS x.kids) x.kids.length 3 with h|h<;>rw[h]<;>rfl
theorem Fp:∀(l:List KT) (n:Nat),(CS l).all (Cj (n+1))=true
 | [],_=>rfl
 |x::l,n=>by
  show(W4 x++CS l).all (Cj (n+1))=true;rw[List.all_append,Gk,Fp l];rfl
theorem QU {s:St} {m n:Nat} (x:KT) (ks:List Nat):Cs.many (Cs s m (n+1)) (W4 x) ks=some (W4 x,ks):=by
 rw[BH];show((Cs s m (n+1) (CJ (CS x.kids) x.kids.length 3) ks).bind _|>.bind _|>.bind _)=_;rw[FD];rfl
theorem Jy {s:St} {m n:Nat}:∀(l:List KT) (ks:List Nat),Cs.many (Cs s m (n+1)) (CS l) ks=some (CS l,ks)
 | [],_=>rfl
 |x::l,ks=>P2 (QU x ks) (Jy l ks)
theorem GR {s:St} {e:TypeId} {sz n m:Nat} {v:AV} {cs:List AV} (h:Grown s e sz v cs n) (hz:∀ks,Cs.many (Cs s 0 m) cs ks=some (cs,ks)) (hc:cs.all (Cj 40)=true) (ks:List Nat):∃k2,Cs s 0 (m+1) v ks=some (CJ cs n sz,k2++ks)/\∀b∈k2,C6 b v=true:=by
 rcases h with⟨rfl,rfl,rfl⟩|⟨b,rfl,hb,hg,hl,h0⟩
 .exact⟨[],rfl,fun b hb=>by cases hb⟩
 .refine⟨[b],?_,fun c hc=>by rw[Qn.1 hc];exact Nat.beq_refl b⟩;rw[GS (Qm _) hg hl (hz ks),hc,IT h0];rfl
theorem LQ {s:St} {m n:Nat}:∀(l:List X4) (ks:List Nat),Cs.many (Cs s m (n+1)) (l.map .str) ks=some (l.map .str,ks)
 | [],_=>rfl
 |w::l,ks=>by
  show((Cs.many (Cs s m (n+1)) (l.map .str) ks).bind _)=_;rw[LQ l];rfl
theorem I9 (l:List X4):(l.map AV.str).all (Cj 40)=true:=by
 rw[List.all_map];exact List.all_eq_true.2 fun _ _=>rfl
theorem GB (cs:List AV) (n k:Nat):Am.dq (CJ cs n k)=some (.int .i64 (n:Nat)):=by
 unfold CJ;cases h:Nat.beq n 0 with
 |false=>rfl
 |true=>rw[Qb h];rfl
theorem H9 (w:X4) (l:List X4):YR w l=none\/∃i,YR w l=some i:=by
 cases h:YR w l with
 |none=>exact .inl rfl
 |some i=>exact .inr ⟨i,rfl⟩
theorem Hr (cs:List AV) (n k m j:Nat):Cr m (j+1) (CJ cs n k)=true:=by
 rcases Bs cs n k with h|h<;>rw[h]<;>rfl
theorem F2 (x:KT) (m j:Nat):Cr m (j+2) (.agg (W4 x))=true:=by
 rw[BH];show(Cr m (j+1) (CJ (CS x.kids) x.kids.length 3)&&true)=true;rw[Hr];rfl
theorem wk_outA {a b:List AV} {n k:Nat} (h:Yy a b) (h0:n=0->b=[]):lK (CJ a n k) (.Cf b n k true):=by
 unfold CJ;cases hn:Nat.beq n 0 with
 |false=>exact .Cf h
 |true=>
  have:=Qb hn;rw[h0 this,this];exact .nil k
mutual
theorem wkO:∀t:KT,Yy (W4 t) (Cm t)
 | .mk o n ks=> .cons (.refl _) (.cons (.refl _) (.cons (wk_outA (wkOs ks) fun h=>by rw[List.length_eq_zero_iff.1 h];rfl) .nil))
theorem wkOs:∀l:List KT,Yy (CS l) (pA l)
 | []=> .nil
 |t::ts=>(wkO t).app (wkOs ts)
end
theorem MA:∀(n:Nat) (a b:KT),Wo a<=n->W4 a≠Cm b
 |0,a,b,h,_=>by rw[E8]at h;omega
 |n+1,.mk o m ks,.mk o' m' Zt,h,e=>by
  have h:Xq ks+1<=n+1:=h;rw[MB,DN]at e;simp only[List.cons.injEq,and_true]at e;have e:=e.2.2;cases ks with
  |nil=>cases e
  |cons k r=>
   have e:(W4 k++CS r)=Zt.flatMap Cm:=(AV.Cf.inj e).1;cases Zt with
   |nil=>rw[BH]at e;cases e
   |cons k' r'=>
    rw[List.flatMap_cons]at e;have hk:Wo k<=Xq (k::r):=BG (Qh ..);exact MA n k k' (by omega) (List.append_inj e (by rw[Ix,Ha])).1
theorem Jz:∀(n:Nat) (t u:KT),Wo t<=n->W4 t=W4 u->t=u
 |0,t,u,h,_=>by rw[E8]at h;omega
 |n+1,.mk o m ks,.mk o' m' Zt,h,e=>by
  have h:Xq ks+1<=n+1:=h;rw[MB,MB]at e;simp only[List.cons.injEq,AV.int.injEq,true_and,and_true]at e;obtain⟨rfl,rfl,e3⟩:=e;have key:∀ {a b:List KT},(∀t∈a,Wo t<=n)->CS a=CS b->a=b:=by
   intro a;induction a with
   |nil=>intro b _ h;cases b with
    |nil=>rfl
    |cons u b=>rw[CS,CS,BH u]at h;cases h
   |cons t a ih=>intro b hd h;cases b with
    |nil=>rw[CS,CS,BH t]at h;cases h
    |cons u b=>
     obtain⟨h1,h2⟩:=List.append_inj h (by rw[Ix,Ix]);rw[Jz n t u (hd t (Qh ..)) h1,ih (fun x hx=>hd x (Qg _ hx)) h2]
  have e4:CS ks=CS Zt:=by
   cases ks with
   |nil=>cases Zt with
    |nil=>rfl
    |cons _ _=>cases e3
   |cons _ _=>cases Zt with
    |nil=>cases e3
    |cons _ _=>exact(AV.Cf.inj e3).1
  rw[key (fun t ht=>by have:=BG ht;omega) e4]
def wZ:Bool->KT->List AV
 |true,t=>W4 t
 |false,t=>Cm t
theorem QW:∀ {a b:Bool} {t u:KT},wZ a t=wZ b u->t=u
 |true,true,t,u,h=>Jz _ t u (Qj _) h
 |true,false,t,u,h=>absurd h (MA _ t u (Qj _))
 |false,true,t,u,h=>absurd h.symm (MA _ u t (Qj _))
 |false,false,_,_,h=>BR _ _ h
theorem wkB:∀(b:Bool) (t:KT),Yy (wZ b t) (Cm t)
 |true,t=>wkO t
 |false,t=> .refl _
def mD (p:Bool×FoT):List AV:=[We p.2.1.1,.agg (wZ p.1 p.2.1.2)]
theorem Ov {α:Type} (f:List DT×KT->α) (x y:Bool×FoT) (h:mD x=mD y):f x.2.1=f y.2.1:=by
 obtain⟨a,⟨d,t⟩,_⟩:=x;obtain⟨b,⟨e,u⟩,_⟩:=y;simp only[mD,List.cons.injEq,AV.agg.injEq,and_true]at h;obtain rfl:=EG h.1;obtain rfl:=QW h.2;rfl
noncomputable def L7:=W7 L6 37 mD (fun p=> .bool (CG p.2.1.1 20 p.2.1.2))
theorem hqc_37 {ds:List DT} {t:KT} (hd:ds.length<=1000) (h:Wa t<=100000):L7 37 [We ds,.agg (Cm t)]=some (.bool (CG ds 20 t)):=An (enc:=mD) (fun a b h=>by rw[Ov (fun p=>CG p.1 20 p.2) a b h]) (false,⟨(ds,t),hd,h⟩)
theorem hqb_37 {ds:List DT} {t:KT} (hd:ds.length<=1000) (h:Wa t<=100000):L7 37 [We ds,.agg (W4 t)]=some (.bool (CG ds 20 t)):=An (enc:=mD) (fun a b h=>by rw[Ov (fun p=>CG p.1 20 p.2) a b h]) (true,⟨(ds,t),hd,h⟩)
def mE (p:Bool×BeT):List AV:=[We p.2.1.1,.agg (wZ p.1 p.2.1.2.1),.int .i64 p.2.1.2.2]
theorem Ow (x y:Bool×BeT) (h:mE x=mE y):CG x.2.1.1 x.2.1.2.2 x.2.1.2.1=CG y.2.1.1 y.2.1.2.2 y.2.1.2.1:=by
 obtain⟨a,⟨d,t,n⟩,_⟩:=x;obtain⟨b,⟨e,u,m⟩,_⟩:=y;simp only[mE,List.cons.injEq,AV.agg.injEq,AV.int.injEq,true_and,and_true]at h;obtain rfl:=EG h.1;obtain rfl:=QW h.2.1;obtain rfl:=h.2.2;rfl
noncomputable def L8:=W7 L7 95 mE (fun p=> .bool (CG p.2.1.1 p.2.1.2.2 p.2.1.2.1))
theorem hqc_95 {ds:List DT} {t:KT} {vars:Int} (hd:ds.length<=1000):L8 95 [We ds,.agg (Cm t),.int .i64 vars]=some (.bool (CG ds vars t)):=An (enc:=mE) (fun a b h=>by rw[Ow a b h]) (false,⟨(ds,t,vars),hd⟩)
theorem hqb_95 {ds:List DT} {t:KT} {vars:Int} (hd:ds.length<=1000):L8 95 [We ds,.agg (W4 t),.int .i64 vars]=some (.bool (CG ds vars t)):=An (enc:=mE) (fun a b h=>by rw[Ow a b h]) (true,⟨(ds,t,vars),hd⟩)
abbrev SaT:= {t:KT//Wa t<=1000}
def kZ (p:SaT):List AV:=[.agg (W4 p.1),.agg (W4 p.1)]
theorem On (x y:SaT) (h:kZ x=kZ y):x=y:=Subtype.ext (Jz _ _ _ (Qj _) (AV.agg.inj (List.cons.inj h).1))
theorem idx_o {l:List KT} {i:Nat} (h:i<l.length):CC (2+1) i (CJ (CS l) l.length 3)=some (.Wl (W4 l[i]++(l.drop (i+1)).flatMap W4)):=by
 have e:CJ (CS l) l.length 3=CM W4 (2+1) l:=by rw[IT (by omega),Fo];rfl
 rw[e];exact A9 Ix h
theorem same_to (d:Nat) (t:KT) (h:Wo t=d+1) (hs:Wa t<=1000) (hx:lay L8 13 kZ (fun _=> .bool true) (fun p=>Wo p.1) d 13 [.agg (W4 t),.agg (W4 t)]=none):
 Cc (EK (lay L8 13 kZ (fun _=> .bool true) (fun p=>Wo p.1) d)) 13 [.agg (W4 t),.agg (W4 t)] S0 (.bool true):=by
 obtain⟨o,n,ks⟩:=t;have rZ:Xq ks<=d:=by have:Xq ks+1=d+1:=h;omega
 have Xn:Wj ks+1<=1000:=hs;have fX:=DX ks;have hl:=GB (CS ks) ks.length 3;refine Fz (fn:=Tryz.f13) U hx (by kernel_rfl) U U U U ?_;rw[MB];focus
  refine Eh U<|Sq<|Es<|Ls 6 U ?_;refine Be U (fun h1=>?_) (fun h1=>?_);exact absurd h1 (by omega);refine Ls 7 U ?_;refine Be U (fun h2=>?_) (fun h2=>?_);exact absurd h2 (by omega);refine Ls 2 U<|Lh U U (kn U hl)<|Ls 2 U<|Lh U U (kn U hl)<|Lw U ?_;refine Ce U (fun h3=>?_) (fun h3=>?_);exact absurd h3 (by omega);refine Sk<|Sq<|Ew U<|Sb ?_;rotate_left
 refine Ai (fun i:Nat=>([(5,.int .i64 (i:Nat)),(3,.ptr 1 0),(2,.ptr 0 0)],Xj 2 0 [] [(1,some (.cells [.int .i64 o,.int .i64 n,CJ (CS ks) ks.length 3] 26 false)),(0,some (.cells [.int .i64 o,.int .i64 n,CJ (CS ks) ks.length 3] 26 false))])) (fun i=>ks.length-i) (fun i=>i<=ks.length) 0 (Qm _) U (Ah (by repeat' constructor)) fun i hi=>?_;by_cases h:i<ks.length
 .have Yz:=idx_o h;have pQ:=Gx (List.getElem_mem h);have jj:lay L8 13 kZ (fun _=> .bool true) (fun p=>Wo p.1) d 13 [.agg (W4 ks[i]),.agg (W4 ks[i])]=some (.bool true):=H8 On ⟨ks[i],by omega⟩ (Nat.le_trans (BG (List.getElem_mem h)) rZ);rw[BH]at jj Yz;focus
   refine Sq<|Es<|Ls 3 U<|Lq (kn U hl) U<|Lw U ?_;refine Cd U (fun h4=>?_) (fun h4=>?_);refine Sk<|Sq<|Sb<|Ag (by kernel_rfl)<|Nv 1 U<|EE U rL JU U U U (by kernel_rfl) (.inl U) U U<|Nv 1 U<|Nq (kv U Yz) U<|Nv 2 U<|EE U rL JU U U U (by kernel_rfl) (.inl U) U U<|Nv 1 U<|Nq (kv U Yz) U<|Nv 1 U ?_;refine Na (kC U (jj)) (.inl U) U<|Nw U<|Tf U<|Sk<|Sr<|qm U ?_;refine Lq (ka (b:=1) U (by omega)) U ?_;refine Lw U ?_;rotate_left;exact absurd h4 (by omega)
  exact⟨i+1,h,by show ks.length-(i+1)<ks.length-i;omega,U,U,Ah (by repeat' constructor)⟩
 .focus
   refine Sq<|Es<|Ls 3 U<|Lq (kn U hl) U<|Lw U ?_;refine Cd U (fun h4=>?_) (fun h4=>?_);exact absurd h4 (by omega);refine Sx<|A8 U<|Ew U ?_;refine Se (Er U ?_);exact Ab U
noncomputable def L9:=W7 L8 13 kZ (fun _=> .bool true)
theorem hq_13 {t:KT} (h:Wa t<=1000):L9 13 [.agg (W4 t),.agg (W4 t)]=some (.bool true):=An (enc:=kZ) (fun _ _ _=>rfl) ⟨t,h⟩
theorem K8 (t:KT) (l:List AV) (h:l.all (Cj 40)=true):(AV.agg (W4 t)::l).all (Cj 40)=true:=by
 rw[List.all_cons,h,Bool.and_true];exact Gk t 38
theorem xc (h:Wq Tryz.prog 8 [] (.bool true)):Cq Tryz.prog gn L9:=by
 have a7:Cq Tryz.prog gn L7:=A7 (all6 h) fun p=>JQ (all6 h _ _ _ (hq_37 p.2.2.1 p.2.2.2)) (.cons (.refl _) (.cons (.agg (wkB p.1 p.2.1.2)) .nil));have a8:Cq Tryz.prog gn L8:=A7 a7 fun p=>JQ (all6 h _ _ _ (hq_95 p.2.2)) (.cons (.refl _) (.cons (.agg (wkB p.1 p.2.1.2.1)) (.cons (.refl _) .nil)));exact rX (deep:=fun p:SaT=>Wo p.1) Ax Aj a8 On (fun p=>Iz p.1) (fun p=>K8 _ _ (K8 _ _ U)) (fun _=>rfl) fun d p hp hx=>same_to d p.1 hp p.2 hx
def spell (n:Nat):X4:=[UInt8.ofNat (97+n)]
theorem Rz {n:Nat} (h:n<26):(((UInt8.ofNat (97+n)).toNat:Nat):Int)=97+n:=by
 rw[UInt8.toNat_ofNat'];omega
abbrev SpT:= {n:Nat//n<26}
def la (p:SpT):List AV:=[.int .i64 (p.1:Nat)]
theorem Ol (x y:SpT) (h:la x=la y):x=y:=by
 obtain⟨a,_⟩:=x;obtain⟨b,_⟩:=y;simp only[la,List.cons.injEq,AV.int.injEq,true_and,and_true]at h;obtain rfl:=Int.ofNat.inj h;rfl
theorem Pk (n:Nat) (h:n<26):Cc (EK L9) 176 [.int .i64 (n:Nat)] S0 (.str (spell n)):=by
 refine As U ?_;focus
  refine Ew U<|Sq<|Ew U ?_;refine Cd U (fun h1=>?_) (fun h1=>?_);refine Es<|qm U ?_;refine Lq (ka (a:=97) U (by omega)) U ?_;refine Lq (OO U o9 u_5 U (by omega)) U<|Lo (Bi 1 U LO vX z_5 U U U U) U<|Lo (OQ U LO CT Aab U U) U<|Lw U ?_;refine Se (Er U ?_);rotate_left;exact absurd h1 (by omega)
 rfl
theorem Ry (n:Nat) (h:n<26):Cc (EK L9) 109 [.int .i64 (n:Nat)] S0 (.str (spell n)):=by
 refine As U ?_;focus
  refine Ew U<|Sq<|Ew U ?_;refine Cd U (fun h1=>?_) (fun h1=>?_);refine Es<|qm U ?_;refine Lq (ka (a:=97) U (by omega)) U ?_;refine Lq (OO U o9 u_5 U (by omega)) U<|Lo (Bi 1 U LO vX z_5 U U U U) U<|Lo (OQ U LO CT Aab U U) U<|Lw U ?_;refine Se (Er U ?_);rotate_left;exact absurd h1 (by omega)
 rfl
def WX (w:X4):Bool:=(decide (0<w.length)&&decide (w.length<=8))&&(C5 65 90 (w.getD 0 0).toNat&&decide (tw (C5 97 122) (w.drop 1)=w.length-1))
theorem T9 (w:List UInt8) (hw:w.length<=100000):Cc (EK L9) 112 [.str w] S0 (.bool (WX w)):=by
 refine As U ?_;unfold WX;focus
  refine Ew U<|Es<|qm U<|Lq (Ac U U U U CT U) U<|Lv 2 U ?_;refine Bd U (fun h1=>?_) (fun h1=>?_);refine Lv 1 U<|Lh U U (Ac U U U U CT U)<|Lv 3 U ?_;refine Bd U (fun h2=>?_) (fun h2=>?_);refine Lv 1 U ?_;refine Lh U U (A0 (n:=0) U CT U U (by omega)) ?_;refine Lg U U (kc U (UE))<|Lv 2 U ?_;refine Bb U (fun g3=>?_) (fun g3=>?_);refine Lv 1 U ?_;refine Lg U U (kc U (QF (by first|assumption|omega|(simp only[LL];omega)) (by first|assumption|omega|(simp only[LL];omega)))) ?_;refine Lv 1 U<|Lh U U (Ac U U U U CT U)<|Lh U U (DJ (b:=1) U o9 U U (by omega))<|Lw U ?_;refine Se (Er U ?_);refine Ab ?_;rotate_left;refine Lw U ?_;refine Se (Er U ?_);refine Ab ?_;rotate_left;refine Lw U ?_;refine Se (Er U ?_);refine Ab ?_;rotate_left;refine Lw U ?_;refine Se (Er U ?_);refine Ab ?_;rotate_left
 .rw[decide_eq_true (show 0<w.length by omega),decide_eq_true (show w.length<=8 by omega),g3];simp only[Bool.true_and];exact decide_eq_decide.2 (by omega)
 .rw[g3,Bool.false_and,Bool.and_false]
 .rw[decide_eq_false (show¬w.length<=8 by omega),Bool.and_false];rfl
 .rw[decide_eq_false (show¬0<w.length by omega)];rfl
theorem SC (w:List UInt8) (hw:w.length<=100000):Cc (EK L9) 104 [.str w] S0 (.bool (WX w)):=by
 refine As U ?_;unfold WX;have b9:L9 174 [.str ((w.drop 1).take (w.length-1)),.func (.func 90) [] []]=some (.int .i64 (tw (C5 97 122) (w.drop 1):Nat)):=by
  rw[List.take_of_length_le (by rw[List.length_drop];exact Qj _)];exact Gh U (by rw[List.length_drop];omega)
 focus
  refine Ew U<|Es<|qm U<|Lq (Ac U U U U CT U) U<|Lv 2 U ?_;refine Bd U (fun h1=>?_) (fun h1=>?_);refine Lv 1 U<|Lh U U (Ac U U U U CT U)<|Lv 3 U ?_;refine Bd U (fun h2=>?_) (fun h2=>?_);refine Lv 1 U ?_;refine Lh U U (A0 (n:=0) U CT U U (by omega)) ?_;refine Lg U U (kc U (P0))<|Lv 2 U ?_;refine Bb U (fun g3=>?_) (fun g3=>?_);refine Lv 1 U<|Lh U U (Az U CT U U U U (Au (n:=1) (by omega)) ⟨by omega,by omega⟩) ?_;refine Lg U U (kc U (b9))<|Lv 1 U<|Lh U U (Ac U U U U CT U)<|Lh U U (DJ (b:=1) U o9 U U (by omega))<|Lw U ?_;refine Se (Er U ?_);refine Ab ?_;rotate_left;refine Lw U ?_;refine Se (Er U ?_);refine Ab ?_;rotate_left;refine Lw U ?_;refine Se (Er U ?_);refine Ab ?_;rotate_left;refine Lw U ?_;refine Se (Er U ?_);refine Ab ?_;rotate_left
 .rw[decide_eq_true (show 0<w.length by omega),decide_eq_true (show w.length<=8 by omega),g3];simp only[Bool.true_and];exact decide_eq_decide.2 (by omega)
 .rw[g3,Bool.false_and,Bool.and_false]
 .rw[decide_eq_false (show¬w.length<=8 by omega),Bool.and_false];rfl
 .rw[decide_eq_false (show¬0<w.length by omega)];rfl
theorem PS (c:UInt8):isWord [c]=false:=by
 unfold isWord;simp[AB]
theorem xd (n:Nat) (h:n<26):Cc (EK L9) 127 [.str (spell n)] S0 (.bool true):=by
 refine As U ?_;have hs:C5 97 122 (UInt8.ofNat (97+n)).toNat=true:=by
  rw[Rz h];unfold C5;rw[decide_eq_true (by omega),decide_eq_true (by omega)];rfl
 have Xu:L9 163 [.str (spell n),.int .i64 0]=some (.int .i64 1):=by
  have:=QF (w:=spell n) (k:=0) (show 1<=100000 by decide) (Qm _);rw[show tw (C5 97 122) ((spell n).drop 0)=1 from Bv (l:=[]) hs]at this;exact this
 have Xv:L9 164 [.str (spell n)]=some (.bool false):=by
  have:=wj (w:=spell n);rw[show isWord (spell n)=false from PS _]at this;exact this
 unfold spell at*;refine Ew U<|Es<|qm U<|Lq (Ac U U U U CT U) U<|Lv 3 U<|Lh U U (Ac U U U U CT U)<|Lv 4 U ?_;refine Lg U U (kc U (Xu))<|Lv 1 U<|Lh U U (Ac U U U U CT U)<|Lv 4 U ?_;refine Lg U U (kc U (Xv))<|Lw U ?_;refine Se (Er U ?_);exact Ab U
noncomputable def L10:=W7 L9 176 la (fun p=> .str (spell p.1))
noncomputable def L11:=W7 L10 109 la (fun p=> .str (spell p.1))
noncomputable def L12:=W7 L11 112 ZY (fun p=> .bool (WX p.1))
noncomputable def L13:=W7 L12 104 ZY (fun p=> .bool (WX p.1))
noncomputable def L14:=W7 L13 127 (fun p:SpT=>[.str (spell p.1)]) (fun _=> .bool true)
theorem hq_176 {n:Nat} (h:n<26):L10 176 [.int .i64 (n:Nat)]=some (.str (spell n)):=An (enc:=la) (fun a b h=>by rw[Ol a b h]) ⟨n,h⟩
theorem hq_109 {n:Nat} (h:n<26):L11 109 [.int .i64 (n:Nat)]=some (.str (spell n)):=An (enc:=la) (fun a b h=>by rw[Ol a b h]) ⟨n,h⟩
theorem hq_112 {w:List UInt8} (hw:w.length<=100000):L12 112 [.str w]=some (.bool (WX w)):=An (enc:=ZY) (fun a b h=>by rw[Ea a b h]) ⟨w,hw⟩
theorem hq_104 {w:List UInt8} (hw:w.length<=100000):L13 104 [.str w]=some (.bool (WX w)):=An (enc:=ZY) (fun a b h=>by rw[Ea a b h]) ⟨w,hw⟩
theorem hq_127 {n:Nat} (h:n<26):L14 127 [.str (spell n)]=some (.bool true):=An (enc:=fun p:SpT=>[.str (spell p.1)]) (fun _ _ _=>rfl) ⟨n,h⟩
theorem all14 (h:Wq Tryz.prog 8 [] (.bool true)):Cq Tryz.prog gn L14:=by
 have a1:Cq Tryz.prog gn L10:=A3 Ax Aj (xc h) (fun p:SpT=>Pk p.1 p.2) (fun _=>rfl) (fun _=>rfl);have a2:Cq Tryz.prog gn L11:=A7 a1 fun p:SpT=>AP Ax Aj (xc h) (Ry p.1 p.2) rfl rfl;have a3:Cq Tryz.prog gn L12:=A7 a2 fun p:Str=>AP Ax Aj (xc h) (T9 p.1 p.2) rfl rfl;have a4:Cq Tryz.prog gn L13:=A7 a3 fun p:Str=>AP Ax Aj (xc h) (SC p.1 p.2) rfl rfl;exact A7 a4 fun p:SpT=>AP Ax Aj (xc h) (xd p.1 p.2) U U
theorem Px {b:Nat} {w:X4}:L14 101 [.slice b 0 1 1 (some 1),.str w]=none:=by
 show L5 101 [.slice b 0 1 1 (some 1),.str w]=none;refine OE fun p e=>?_;have e:CJ (p.1.1.map AV.str) p.1.1.length 1= .slice b 0 1 1 (some 1):=(List.cons.inj e).1;rcases Bs (p.1.1.map AV.str) p.1.1.length 1 with h|h<;>rw[h]at e<;>cases e
def But (K:FuncId->List AV->Option AV):Prop:=∀g,g≠50->K g=L14 g
theorem But.add {α:Type} {enc:α->List AV} {res:α->AV}:But (W7 L14 50 enc res):=fun g h=>by
 unfold W7;have:Nat.beq g 50=false:=by
  cases hb:Nat.beq g 50 with
  |false=>rfl
  |true=>exact absurd (Qb hb) h
 rw[this];rfl
def jA:List X4->X4
 | []=>[]
 |a::l=>[40]++a++l.flatMap ([44,32]++·)++[41]
def Yd (l:List X4):Nat:=(l.map List.length).sum
theorem Fh (sep:X4):∀l:List X4,(l.flatMap (sep++·)).length=Yd l+l.length*sep.length
 | []=>by simp[Yd]
 |a::l=>by
  have ih:=Fh sep l;rw[List.flatMap_cons,Ql,Ql,ih,List.length_cons,Nat.succ_mul];rw[show Yd (a::l)=a.length+Yd l by simp[Yd]];omega
theorem Lc {sep:X4} {l:List X4} {i:Nat} (h:i<l.length):(l.take (i+1)).flatMap (sep++·)=(l.take i).flatMap (sep++·)++sep++l[i]:=by
 rw[List.take_succ_eq_append_getElem h,List.flatMap_append];simp
theorem DO {l:List X4} (i:Nat):Yd (l.take i)<=Yd l:=by
 have:Yd l=Yd (l.take i)+Yd (l.drop i):=by
  unfold Yd;rw[<-List.sum_append,<-List.map_append,List.take_append_drop]
 omega
theorem pG (a:UInt8):({data:= #[a]}:ByteArray).data.toList.length=1:=rfl
theorem lit2 (a b:UInt8):({data:= #[a,b]}:ByteArray).data.toList.length=2:=rfl
theorem Gt (a:X4) (l:List X4):Yd (a::l)=a.length+Yd l:=by simp[Yd]
section
variable {K : FuncId -> List AV -> Option AV} (hK : But K)
include hK
theorem U6 {s:St} {b:Nat} {part:Bool} {x w:X4} (hg:s.heap.get b=some (.cells [.str x] 9 part)) (h:x≠w):Cc (EK K) 101 [.slice b 0 1 1 (some 1),.str w] s (.int .i64 (-1)):=by
 refine Cc.flat (fn:=Tryz.f101) (by show K 101 _=none;rw[hK _ (by decide)];exact Px) (by kernel_rfl) U U U U (fun _ _=>rfl) (fun _=>rfl) ?_;refine Ew U<|Sq<|Ew U<|Sb ?_;refine Ai (fun k:Nat=>([(5,.int .i64 (k:Nat)),(0,.slice b 0 1 1 (some 1)),(1,.str w)],s.enter)) (fun k=>1-k) (fun k=>k<=1) 0 (Qm _) U (Ah (by repeat' constructor)) fun k hk=>?_;have g1:s.enter.heap.get b=some (.cells [.str x] 9 part):=hg;rcases(by omega:k=0\/k=1)with rfl|rfl
 .focus
   refine Sq<|Ew U<|Tt U<|Sk<|Sq<|Sb<|Es<|Lv 2 U ?_;refine Lq (kM (k:=0) U (by omega)) U ?_;refine Lo (kl U g1 U) U<|qm U<|Lq (A2 U CT U U U U) U<|Ld ?_;refine Cb U (fun g2=>?_) (fun g2=>?_);have h2:=bT g2;exact absurd h2 (by omega);have h2:=bF g2;refine Sk<|Sr<|qm U ?_;refine Lq (ka (a:=0) (b:=1) U (by omega)) U ?_;refine Lw U ?_;rotate_left
  exact⟨1,Qj _,by decide,U,U,Ah (by repeat' constructor)⟩
 .refine Sq ?_;refine Ew U<|Tf U<|Sx<|A8 U<|Ew U ?_;exact Se ⟨.inl U,U,U,_,Aa U U,U⟩
theorem OX {s:St} {b:Nat} {part:Bool} (hg:s.heap.get b=some (.cells [.str [105,110,116]] 9 part)) (n:Nat) (h:n<26):Cc (EK K) 113 [.int .i64 (n:Nat),.slice b 0 1 1 (some 1)] s (.str (spell n)):=by
 refine Cc.flat (fn:=Tryz.f113) (by show K 113 _=none;rw[hK _ (by decide)];rfl) (by kernel_rfl) U U U U (fun _ _=>rfl) (fun _=>rfl) ?_;iterate 2 refine Ew U ?_
 refine Sb ?_;refine Ai (fun k:Nat=>([(5,.int .i64 (k:Nat)),(0,.int .i64 ((n-k:Nat):Int)),(1,.slice b 0 1 1 (some 1))],s.enter)) (fun k=>n-k) (fun k=>k<=n) 0 (Qm _) U (Ah (by repeat' constructor)) fun k hk=>?_;have hit_176:K 176 [.int .i64 (k:Nat)]=some (.str (spell k)):=by rw[hK _ (by decide)];exact hq_176 (by omega)
 have hit_127:K 127 [.str (spell k)]=some (.bool true):=by rw[hK _ (by decide)];exact hq_127 (by omega)
 have run_101:=U6 hK (s:=s.enter) (x:=[105,110,116]) (w:=spell k) hg (fun e=>by have:=congrArg List.length e;simp[spell]at this);focus
  refine Sb<|Es<|qm U ?_;refine Lo (kc U (hit_176)) U<|Lw U<|Sq<|Es<|qm U ?_;refine Lo (kc U (hit_127)) U<|Lv 3 U ?_;refine Lg U U (Av U U (by kernel_rfl) U (run_101))<|Lw U<|Tt U<|Sq<|Ew U ?_;refine Cd U (fun h1=>?_) (fun h1=>?_);refine Ew U ?_;rotate_left;refine Sk<|Sr<|qm U<|Lq (DJ (b:=1) U o9 U U (by omega)) U<|Lw U<|Sr<|qm U ?_;refine Lq (ka (b:=1) U (by omega)) U ?_;refine Lw U ?_;rotate_left
 .obtain rfl:k=n:=by omega
  exact Se ⟨.inl U,U,U,_,Aa U U,U⟩
 .exact⟨k+1,by omega,by omega,U,U,Ah (by repeat' constructor)⟩
theorem RA {s:St} {v:AV} {l:List X4} (hv:YV s v l) (hl:l.length<=1000) (hs:Yd l<=100000):Cc (EK K) 114 [v] s (.str (jA l)):=by
 refine Cc.flat (fn:=Tryz.f114) (by show K 114 _=none;rw[hK _ (by decide)];rfl) (by kernel_rfl) U U U U (fun _ _=>rfl) (fun _=>rfl) ?_;have hve:YV s.enter v l:=hv.Wd (Qj _) fun _ _=>rfl;have hlen:=hve.len;cases l with
 |nil=>
  refine Ew U<|Sq<|Es<|qm U<|Lq (kn U hlen) U<|Lw U<|Tt U<|Ew U ?_;exact Se ⟨.inl U,U,U,_,Aa U U,U⟩
 |cons a l=>
  obtain⟨p,hp,XV⟩:=hve.at (E:=EK K) (i:=0) (Nat.zero_lt_succ _) oi HT;have fp:=Gt a l;have XV:Wy (EK K) 9 s.enter p=some (.str a):=XV;have c1:=pG 40;have c2:=pG 41;have c3:=lit2 44 32;have pO:(a::l).length=l.length+1:=rfl;refine Ew U<|Sq<|Es<|qm U<|Lq (kn U hlen) U<|Lw U<|Tf U<|Sk<|Es<|qm U<|Lq (kv (k:=0) U hp) U<|Lo (B9 U U XV) U ?_;refine Lq (AK U CT U U (by omega)) U ?_;refine Lw U<|Sq<|Ew U<|Sb ?_;refine Ai (fun i:Nat=>([(4,.int .i64 (i+1:Nat)),(3,.str ([40]++a++(l.take i).flatMap ([44,32]++·))),(0,v)],s.enter)) (fun i=>l.length-i) (fun i=>i<=l.length) 0 (Qm _) U (by rw[List.take_zero,List.flatMap_nil,List.append_nil];(refine Am.Ah ?_;repeat (first|exact trivial|refine⟨rfl,?_⟩))) fun i hi=>?_;have hfl:=Fh [44,32] (l.take i);have WT:=DO (l:=l) i;rw[List.length_take,Nat.min_eq_left hi]at hfl;have hfl:((l.take i).flatMap ([44,32]++·)).length=Yd (l.take i)+i*2:=hfl
  have hW:([40]++a++(l.take i).flatMap ([44,32]++·)).length<=200000:=by rw[Ql,Ql,hfl];show 1+a.length+_<=_;omega
  by_cases h:i<l.length
  .obtain⟨q,hq,yb⟩:=hve.at (E:=EK K) (i:=i+1) (Nat.succ_lt_succ h) oi HT;have yb:Wy (EK K) 9 s.enter q=some (.str l[i]):=yb;have hsi:l[i].length<=Yd l:=by
    have:=DO (l:=l) (i+1);unfold Yd at this|-;rw[List.take_succ_eq_append_getElem h,List.map_append,List.sum_append]at this;simp at this;omega
   have aC:=Lc (sep:=[44,32]) h;generalize hWe: [40]++a++(l.take i).flatMap ([44,32]++·)=W at*;focus
    refine Sq<|Es<|Lv 2 U<|Lq (kn U hlen) U<|Lw U ?_;refine Cd U (fun h1=>?_) (fun h1=>?_);refine Sk<|Sq<|Sb<|Sr<|qm U ?_;refine Lq (AK U CT U U (by omega)) U ?_;refine Lv 2 U<|Lq (kv U hq) U<|Lo (B9 U U yb) U ?_;refine Lq (AK U CT U U (by first|assumption|omega|(simp only[LL];omega))) U ?_;refine Lw U<|Sr<|qm U ?_;refine Lq (ka (b:=1) U (by omega)) U ?_;refine Lw U ?_;rotate_left;exact absurd h1 (by omega)
   refine⟨i+1,h,by show l.length-(i+1)<l.length-i;omega,U,U,?_⟩;rw[aC,<-List.append_assoc,<-List.append_assoc,hWe]
   (refine Am.Ah ?_;repeat (first|exact trivial|refine⟨rfl,?_⟩))
  .obtain rfl:i=l.length:=by omega
   rw[List.take_length]at*;generalize hWe: [40]++a++l.flatMap ([44,32]++·)=W at*;focus
    refine Sq<|Es<|Lv 2 U<|Lq (kn U hlen) U<|Lw U ?_;refine Cd U (fun h1=>?_) (fun h1=>?_);exact absurd h1 (by omega);refine Sx<|A8 U<|Es<|qm U ?_;refine Lq (AK U CT U U (by omega)) U ?_;refine Lw U ?_;rotate_left
   exact Se ⟨.inl U,U,U,_,Aa U U,by show AV.str (W++[41])= .str ([40]++a++l.flatMap ([44,32]++·)++[41]);rw[hWe]⟩
end
def nameOf (ds:List DT) (n:Int):X4:=((ds[n.toNat]?).map DT.name).getD []
mutual
def dG (ds:List DT):Bool->KT->X4
 |f,.mk o n ks=>if o=1 then spell n.toNat else if o=2 then [105,110,116]else if o=3 then(if f=true then [40]++pH ds ks++[41]else pH ds ks)else nameOf ds n++jA (ZZ ds ks)
def ZZ (ds:List DT):List KT->List X4
 | []=>[]
 |t::ts=>dG ds false t::ZZ ds ts
def pH (ds:List DT):List KT->X4
 | []=>[]
 |a::l=>dG ds true a++[32,45,62,32]++xe ds l
def xe (ds:List DT):List KT->X4
 | []=>[]
 |b::_=>dG ds false b
end
theorem HY (ds:List DT) (f:Bool) (o n:Int) (ks:List KT):dG ds f (.mk o n ks)=if o=1 then spell n.toNat else if o=2 then [105,110,116]else if o=3 then(if f=true then [40]++pH ds ks++[41]else pH ds ks)else nameOf ds n++jA (ZZ ds ks):=by rw[dG]
theorem F6 (ds:List DT):∀l:List KT,ZZ ds l=l.map (dG ds false)
 | []=>rfl
 |t::l=>by rw[ZZ,F6 ds l];rfl
theorem Mr:∀l:List X4,(jA l).length<=Yd l+l.length*2+2
 | []=>Qm _
 |a::l=>by
  have:=Fh [44,32] l;have h2:(l.flatMap ([44,32]++·)).length=Yd l+l.length*2:=this;unfold jA;rw[Ql,Ql,Ql,h2,Gt];show 1+a.length+(Yd l+l.length*2)+1<=a.length+Yd l+(l.length+1)*2+2;omega
def aT (ds:List DT):Prop:=∀d∈ds,d.name.length<=20
theorem RY {ds:List DT} (h:aT ds) (n:Int):(nameOf ds n).length<=20:=by
 unfold nameOf;cases hq:ds[n.toNat]? with
 |none=>exact Qm _
 |some d=>exact h d (List.mem_of_getElem? hq)
mutual
theorem E0 {ds:List DT} (h:aT ds):∀(f:Bool) (t:KT),(dG ds f t).length+4<=30*Wa t
 |f,.mk o n ks=>by
  have h1:=RY h n;have h2:=It h ks;have h3:=xg h ks;have h4:=Mr (ZZ ds ks);have h5:(ZZ ds ks).length=ks.length:=by rw[F6,List.length_map]
  show _<=30*(Wj ks+1);unfold dG;split
  .show 1+4<=_;omega
  .split
   .show 3+4<=_;omega
   .split
    .split
     .rw[Ql,Ql];show 1+_+1+4<=_;omega
     .omega
    .rw[Ql];omega
theorem It {ds:List DT} (h:aT ds):∀l:List KT,Yd (ZZ ds l)+l.length*4<=30*Wj l
 | []=>Qm _
 |t::l=>by
  have h1:=E0 h false t;have h2:=It h l;rw[ZZ,Gt];show _+(l.length+1)*4<=30*(Wa t+Wj l);omega
theorem xg {ds:List DT} (h:aT ds):∀l:List KT,(pH ds l).length<=30*Wj l+4
 | []=>Qm _
 |a::l=>by
  have h1:=E0 h true a;have h2:=xh h l;rw[pH,Ql,Ql];show _+4+_<=30*(Wa a+Wj l)+4;omega
theorem xh {ds:List DT} (h:aT ds):∀l:List KT,(xe ds l).length<=30*Wj l
 | []=>Qm _
 |a::l=>by
  have h1:=E0 h false a;rw[xe];show _<=30*(Wa a+Wj l);omega
end
theorem KL {ds:List DT} {o n:Int} {k:Nat} (h:Y0 ds 20 o n k=true):(o=1/\0<=n/\n<20)\/o=2\/(o=3/\k=2)\/(o=4/\0<=n/\n<ds.length):=by
 unfold Y0 partsOf at h;split at h
 .next h1=>
  split at h
  .next h2=>exact .inl ⟨h1,h2⟩
  .cases h
 .split at h
  .next h1=>exact .inr (.inl h1)
  .split at h
   .next h1=>
    split at h
    .refine .inr (.inr (.inl ⟨h1,?_⟩));have:=eq_of_beq h;simp only[Option.some.injEq]at this;omega
    .cases h
   .split at h
    .next h1=>
     split at h
     .next h2=>exact .inr (.inr (.inr ⟨h1,h2⟩))
     .cases h
    .cases h
abbrev PrT:= {p:List DT×KT×Bool//p.1.length<=1000/\aT p.1/\Wa p.2.1<=1000/\Y1 p.1 20 p.2.1=true}
def jx (p:PrT):List AV:=[.agg [We p.1.1,.Ca,.Ca],.agg (Cm p.1.2.1),.bool p.1.2.2]
def sf (p:PrT):AV:= .str (dG p.1.1 p.1.2.2 p.1.2.1)
theorem Jx (x y:PrT) (h:jx x=jx y):x=y:=by
 obtain⟨⟨a,b,c⟩,_⟩:=x;obtain⟨⟨a',b',c'⟩,_⟩:=y;simp only[jx,List.cons.injEq,AV.agg.injEq,AV.bool.injEq,and_true]at h;obtain rfl:=EG h.1;obtain rfl:=BR _ _ h.2.1;obtain rfl:=h.2.2;rfl
theorem Uv (d:Nat) (ds:List DT) (t:KT) (f:Bool) (h:Wo t=d+1) (iE:ds.length<=1000) (hn:aT ds) (hs:Wa t<=1000) (ZW:Y1 ds 20 t=true) (hx:lay L14 50 jx sf (fun p=>Wo p.1.2.1) d 50 [.agg [We ds,.Ca,.Ca],.agg (Cm t),.bool f]=none):
 Cc (EK (lay L14 50 jx sf (fun p=>Wo p.1.2.1) d)) 50 [.agg [We ds,.Ca,.Ca],.agg (Cm t),.bool f] S0 (.str (dG ds f t)):=by
 obtain⟨o,n,ks⟩:=t;have rZ:Xq ks<=d:=by have:Xq ks+1=d+1:=h;omega
 have Xn:Wj ks+1<=1000:=hs;have fX:=DX ks;obtain⟨xi,pQ⟩:=Bool.and_eq_true_iff.1 (show(Y0 ds 20 o n ks.length&&eC ds 20 ks)=true from ZW);rw[Gw]at pQ;have kid:∀(x:KT) (g:Bool),x∈ks->lay L14 50 jx sf (fun p=>Wo p.1.2.1) d 50 [.agg [We ds,.Ca,.Ca],.agg (Cm x),.bool g]=some (.str (dG ds g x)):=fun x g hx=>
  H8 Jx ⟨(ds,x,g),iE,hn,by have:=Gx hx;dsimp only;omega,List.all_eq_true.1 pQ x hx⟩ (Nat.le_trans (BG hx) rZ)
 rw[DN]at hx|-;refine Fz (fn:=Tryz.f50) U hx (by kernel_rfl) U U U U ?_;rcases KL xi with⟨rfl,h1,h2⟩|rfl|⟨rfl,h2⟩|⟨rfl,h1,h2⟩
 .obtain⟨m,rfl⟩:=Int.eq_ofNat_of_zero_le h1;refine Eh U<|Sq<|Eh U<|Sb<|Ew U<|Tt U<|Es<|Ls 2 U<|Lo (Bi 3 U MV HT pU U U U U) U<|Lo (Av U U (by kernel_rfl) U (OX But.add (part:=false) (b:=2) ((AD 2).trans U) m (by omega))) U<|Lw U ?_;refine Se (Er U ?_);rfl
 .refine Eh U ?_;refine Sq<|Eh U<|Sb<|Ew U<|Tf U<|Ew U<|Tt U<|Ew U ?_;refine Se (Er U ?_);rfl
 .obtain⟨a,b,rfl⟩:∃a b,ks=[a,b]:=by
   match ks,h2 with
   | [a,b],_=>exact⟨a,b,rfl⟩
  have dg:=EF (l:=[a,b]) (i:=0) (Nat.zero_lt_succ _);have ti:=EF (l:=[a,b]) (i:=1) (Nat.lt_succ_self _);have gj:=kid a true (Qh ..);have sh:=kid b false (Qg _ (Qh ..));have hla:=E0 hn true a;have mj:=E0 hn false b;have hss:Wj [a,b]=Wa a+(Wa b+0):=rfl;have c1:=pG 40;have c2:=pG 41;have c4:({data:= #[32,45,62,32]}:ByteArray).data.toList.length=4:=rfl;clear kid;rw[show [a,b][0]=a from rfl,AA]at dg;rw[show [a,b][1]=b from rfl,AA]at ti;rw[AA a]at gj;rw[AA b]at sh;have hp:dG ds f (.mk 3 n [a,b])=if f=true then [40]++(dG ds true a++[32,45,62,32]++dG ds false b)++[41]else dG ds true a++[32,45,62,32]++dG ds false b:=by rw[HY,if_neg (by decide),if_neg (by decide),if_pos rfl,pH,xe]
  rw[hp];generalize dG ds true a=A at*;generalize dG ds false b=B at*;focus
   refine Eh U<|Sq<|Eh U<|Sb<|Ew U<|Tf U<|Ew U<|Tf U<|Ew U<|Tt U<|Ag (by kernel_rfl)<|JI U wb wa U U (Qc U) (by kernel_rfl) (.inl U) U U<|Nv 1 U<|EE U rL JU U U U (by kernel_rfl) (.inl U) U U<|Nq (kv (k:=0) U dg) U<|Nv 1 U ?_;refine Na (kC U (gj)) (.inl U) U ?_;refine Nq (AK U CT U U (by omega)) U ?_;refine JI U wb wa U U (Qc U) (by kernel_rfl) (.inl U) U U<|Nv 1 U<|EE U rL JU U U U (by kernel_rfl) (.inl U) U U<|Nq (kv (k:=1) U ti) U<|Nv 1 U ?_;refine Na (kC U (sh)) (.inl U) U ?_;refine Nq (AK U CT U U (by first|assumption|omega|(simp only[LL];omega))) U ?_;refine Nw U<|Sq<|Ew U ?_;refine Cb U (fun g1=>?_) (fun g1=>?_);refine Es<|qm U ?_;iterate 2 refine Lq (AK U CT U U (by first|assumption|omega|(simp only[LL];omega))) U ?_
   refine Lw U ?_;refine Se (Er U ?_);rotate_left;refine Sk<|Ew U ?_;refine Se (Er U ?_);rotate_left
  .rw[if_pos g1]
  .rw[if_neg (by rw[g1];exact Bool.false_ne_true)]
 .obtain⟨m,rfl⟩:=Int.eq_ofNat_of_zero_le h1;have hm:m<ds.length:=by omega
  have hp:dG ds f (.mk 4 m ks)=ds[m].name++jA (ZZ ds ks):=by
   rw[HY,if_neg (by decide),if_neg (by decide),if_neg (by decide)];unfold nameOf;rw[Int.toNat_natCast,Qi hm];rfl
  rw[hp];have nD:=F6 ds ks;refine Eh U<|Sq<|Eh U<|Sb<|Ew U<|Tf U<|Ew U<|Tf U<|Ew U<|Tf U<|Sk<|Ew U<|Sq<|Ew U<|Sb ?_;refine Ai (fun x:Nat×AV×St=>([(9,.int .i64 (x.1:Nat)),(8,x.2.1),(4,.ptr 1 0),(3,.ptr 0 0),(2,.bool f)],x.2.2)) (fun x=>ks.length-x.1)
   (fun x=>x.1<=ks.length/\x.2.2.bound=0/\x.2.2.log=[]/\2<=x.2.2.next/\(∀c,C6 c x.2.1=true->2<=c)/\x.2.2.heap.get 0=some (.cells [We ds,.Ca,.Ca] 111 false)/\x.2.2.heap.get 1=some (.cells [.int .i64 4,.int .i64 m,CM Cm 3 ks] 26 false)/\Grown x.2.2 9 1 x.2.1 (((ks.take x.1).map (dG ds false)).map .str) x.1)
   (0,.Ca,_) ⟨Qm _,rfl,rfl,Qj _,(fun _ h=>by cases h),(AD 0).trans rfl,(AD 1).trans rfl,Grown.nil _ _ _⟩ rfl (Ah (by repeat' constructor)) ?_
  rintro⟨i,v,st⟩ ⟨hi,ZR,ZE,aC,fB,fT,iC,aV⟩;dsimp only at hi ZR ZE aC fB fT iC aV|-;by_cases h:i<ks.length
  .have Yz:=EF h;have gj:=kid ks[i] false (List.getElem_mem h);rw[AA]at Yz gj;focus
    refine Sq<|Es<|Lv 2 U<|Lo (kl U iC U) U<|Lw U ?_;refine Cd U (fun h1=>?_) (fun h1=>?_);refine Sk<|Sq<|Sb<|Eo (by kernel_rfl)<|Nv 1 U<|NM U fT U (.inl U) U<|Nv 1 U<|Nm U iC U (.inl U) U<|Nv 1 U<|Nq (kv U Yz) U<|Nv 1 U ?_;refine Na (kC U (gj)) (.inl U) U<|Bh U MV HT pU U U U (.inl U) U U ?_;rotate_left;exact absurd h1 (by omega)
   refine HL aV (by rw[ZR];exact Qm _) U (by decide) (AH (by omega) (by decide)) (AH (by omega) (by decide)) U U U U MV HT tf pU (by kernel_rfl) (by kernel_rfl) U U (by kernel_rfl) (by kernel_rfl) (.inl U) U U fun v6 s6 nl6 f6 o6 c6 l6 X7=>?_;have hn6:=c6.next;have eJ:∀c,c<2->s6.heap.get c=st.heap.get c:=fun c hc=>c6.heap c (by omega) fun e=>by have:=fB c e;omega
   refine Nw U<|Sr<|qm U ?_;refine Lq (ka (b:=1) U (by omega)) U ?_;refine Lw U ?_;refine⟨(i+1,v6,s6),⟨h,c6.bound.trans ZR,List.eq_nil_iff_forall_not_mem.2 fun c hc=>?_,by dsimp only;omega,fun c hc=>by have:=o6 c hc;omega,(eJ 0 (by decide)).trans fT,(eJ 1 (by decide)).trans iC,?_⟩,by show ks.length-(i+1)<ks.length-i;omega,rfl,rfl,Ah (by repeat' constructor)⟩
   .rcases c6.log c hc with h1|h1
    .rw[ZE]at h1;cases h1
    .omega
   .rw[List.take_succ_eq_append_getElem h,List.map_append,List.map_append];exact f6
  .obtain rfl:i=ks.length:=by omega
   have Yz:=A9 AS hm;unfold Y9 at Yz;rw[List.take_length,<-nD]at aV;have XV:(ZZ ds ks).length=ks.length:=by rw[nD,List.length_map]
   have zc:=It hn ks;have pO:=Mr (ZZ ds ks);have dx:=hn _ (List.getElem_mem hm);focus
    refine Sq<|Es<|Lv 2 U<|Lo (kl U iC U) U<|Lw U ?_;refine Cd U (fun h1=>?_) (fun h1=>?_);exact absurd h1 (by omega);refine Sx<|A8 U<|Ag (by kernel_rfl)<|Nv 1 U<|Nm U fT U (.inl U) U<|Nv 1 U<|Nm U iC U (.inl U) U<|Nq (kv U Yz) U<|Nv 3 U ?_;rotate_left
   refine SF (by kernel_rfl) U U U (RA But.add (s:=st.sub st.heap) ((aV.Wd (Qj _) fun _ _=>rfl).strs XV.symm) (by omega) (by omega)).runsR (by kernel_rfl) (.inl U) U U ?_;refine Nq (AK U CT U U (by omega)) U ?_;refine Nw U ?_;refine Se ⟨.inl U,U,ZE,ZR,_,_,_,(Aa U U),U,U,?_⟩;rfl
noncomputable def L15:=W7 L14 50 jx sf
theorem hq_50 {ds:List DT} {t:KT} {f:Bool} (h1:ds.length<=1000) (h2:aT ds) (h3:Wa t<=1000) (h4:Y1 ds 20 t=true):L15 50 [.agg [We ds,.Ca,.Ca],.agg (Cm t),.bool f]=some (.str (dG ds f t)):=An (enc:=jx) (fun a b h=>by rw[Jx a b h]) ⟨(ds,t,f),h1,h2,h3,h4⟩
theorem all15 (h:Wq Tryz.prog 8 [] (.bool true)):Cq Tryz.prog gn L15:=
 rX (deep:=fun p:PrT=>Wo p.1.2.1) Ax Aj (all14 h) Jx (fun p=>Iz p.1.2.1) (fun p=>by
  show(true&&(AV.agg (Cm p.1.2.1)::[.bool p.1.2.2]).all (Cj 40))=true;rw[Br _ _ rfl];rfl) (fun _=>rfl) fun d p hp hx=>Uv d p.1.1 p.1.2.1 p.1.2.2 hp p.2.1 p.2.2.1 p.2.2.2.1 p.2.2.2.2 hx
theorem TH (ds:List DT) (hs:CD ds=true):Cc (EK L15) 48 [We ds] S0 (.bool (ds.all fun d=>WX d.name)):=by
 obtain⟨hl,XT⟩:=Da hs;refine As U<|Ew U<|Sq<|Ew U<|Sb ?_;refine Ai (fun i:Nat=>([(3,.int .i64 (i:Nat)),(0,We ds)],Xj 0 0 [] [])) (fun i=>ds.length-i) (fun i=>i<=ds.length/\∀j (hj:j<ds.length),j<i->WX ds[j].name=true) 0 ⟨Qm _,fun _ _ h=>absurd h (Nat.not_lt_zero _)⟩ U (Ah (by repeat' constructor)) ?_;rintro i ⟨hi,ha⟩;by_cases h:i<ds.length
 .have Yz:=A9 AS h;unfold Y9 at Yz;have hit_112:L15 112 [.str ds[i].name]=some (.bool (WX ds[i].name)):=hq_112 (by have:=(XT i h).1;omega);focus
   refine Sq<|Ew U ?_;refine Cd U (fun h1=>?_) (fun h1=>?_);refine Sk<|Sq<|Sb<|Es<|Lv 2 U<|Lq (kv U Yz) U<|Lv 2 U ?_;refine Lo (kc U (hit_112)) U<|Lw U ?_;refine Cn U (fun h2=>?_) (fun h2=>?_);refine Ew U ?_;refine Se (Er U ?_);refine Ab ?_;rotate_left;refine Sk<|Sr<|qm U ?_;refine Lq (ka (b:=1) U (by omega)) U ?_;refine Lw U ?_;rotate_left;exact absurd h1 (by omega)
  .rw[Ij h h2]
  .exact⟨i+1,⟨h,DH (P:=fun d=>WX d.name=true) (h:=h) ha h2⟩,by show ds.length-(i+1)<ds.length-i;omega,rfl,rfl,Ah (by repeat' constructor)⟩
 .focus
   refine Sq<|Ew U ?_;refine Cd U (fun h1=>?_) (fun h1=>?_);exact absurd h1 (by omega);refine Sx<|A8 U<|Ew U ?_;refine Se (Er U ?_);refine Ab ?_;rotate_left
  rw[EC (f:=fun d:DT=>WX d.name) fun j hj=>ha j hj (by omega)]
noncomputable def L16:=W7 L15 48 fA (fun p=> .bool (p.1.all fun d=>WX d.name))
theorem hq_48 {ds:List DT} (h:CD ds=true):L16 48 [We ds]=some (.bool (ds.all fun d=>WX d.name)):=An (enc:=fA) (fun a b h=>by rw[Hb a b h]) ⟨ds,h⟩
theorem all16 (h:Wq Tryz.prog 8 [] (.bool true)):Cq Tryz.prog gn L16:=A3 Ax Aj (all15 h) (fun p:SmD=>TH p.1 p.2) (fun _=>rfl) (fun _=>rfl)
noncomputable def VX (ds:List DT) (t:KT):X4×Int:=if Xr ds=true/\CG ds 20 t=true then if(ds.all fun d=>WX d.name)=true then(dG ds false t,0)else([],7)else([],2)
def jB (p:X4×Int):AV:= .tuple [.str p.1,.int .i64 p.2]
theorem D9 {ds:List DT} (hs:CD ds=true):aT ds:=fun d hd=>by
 obtain⟨i,hi,rfl⟩:=List.mem_iff_getElem.1 hd;exact((Da hs).2 i hi).1
theorem T6 (ds:List DT) (t:KT) (hs:CD ds=true) (ht:X3 t=true):Cc (EK L16) 12 [We ds,.agg (Cm t)] S0 (jB (VX ds t)):=by
 have hl:=(Da hs).1;have Xn:=F4 ht;have ow:L16 38 [We ds]=some (.bool (Xr ds)):=hq_38 hs;have jf:L16 95 [We ds,.agg (Cm t),.int .i64 20]=some (.bool (CG ds 20 t)):=hqc_95 (by omega);have hit_48:L16 48 [We ds]=some (.bool (ds.all fun d=>WX d.name)):=hq_48 hs;have hk:CG ds 20 t=true->L16 50 [.agg [We ds,.Ca,.Ca],.agg (Cm t),.bool false]=some (.str (dG ds false t)):=fun h=>hq_50 (by omega) (D9 hs) (by omega) (Bool.and_eq_true_iff.1 h).2;have XV:=E0 (D9 hs) false t;rw[AA]at jf hk|-;refine As U ?_;unfold VX;generalize CG ds 20 t=B at*;cases B with
 |false=>
  rw[if_neg (by simp)];focus
   refine Eh U<|Sq<|Es<|qm U ?_;refine Lo (kc U (ow)) U<|Lv 2 U ?_;refine Bn U (fun h1=>?_) (fun h1=>?_);refine Lw U<|Tt U<|Ew U ?_;refine Se ⟨.inl U,U,U,U,_,_,_,(Aa U (Aa U U)),U,U,?_⟩;rotate_left;refine Ls 2 U<|Gn U U U U U<|AT (fn:=Tryz.f42) (by kernel_rfl) (by kernel_rfl) U U U U U U U U U U U<|Eh U<|Es<|Ls 2 U ?_;refine Lo (kc U (jf)) U<|Lw U ?_;refine Se (Al (Xw.same U (Aa U U) U U U U ?_));refine Lw U<|Tt U<|Ew U ?_;refine Se ⟨.inl U,U,U,U,_,_,_,(Aa U (Aa U U)),U,U,?_⟩;rotate_left
  all_goals rfl
 |true=>
  have gj:=hk rfl;focus
   refine Eh U<|Sq<|Es<|qm U ?_;refine Lo (kc U (ow)) U<|Lv 2 U ?_;refine Bn U (fun h1=>?_) (fun h1=>?_);refine Lw U<|Tt U<|Ew U ?_;refine Se ⟨.inl U,U,U,U,_,_,_,(Aa U (Aa U U)),U,U,?_⟩;rotate_left;refine Ls 2 U<|Gn U U U U U<|AT (fn:=Tryz.f42) (by kernel_rfl) (by kernel_rfl) U U U U U U U U U U U<|Eh U<|Es<|Ls 2 U ?_;refine Lo (kc U (jf)) U<|Lw U ?_;refine Se (Al (Xw.same U (Aa U U) U U U U ?_));refine Lw U<|Tf U<|Sk<|Sq<|Es<|qm U ?_;refine Lo (kc U (hit_48)) U<|Lw U ?_;refine Cn U (fun h2=>?_) (fun h2=>?_);refine Ew U ?_;refine Se ⟨.inl U,U,U,U,_,_,_,(Aa U (Aa U U)),U,U,?_⟩;rotate_left;refine Sk<|Es<|Ls 3 U ?_;refine Lo (kc U (gj)) U<|AT (fn:=Tryz.f49) (by kernel_rfl) (by kernel_rfl) U U U U U U U U U U U<|Ew U<|Sq<|Es<|qm U<|Lq (Ac U U U U CT U) U<|Lw U ?_;refine Cd U (fun h3=>?_) (fun h3=>?_);exact absurd h3 (by omega);refine Sk<|Ew U ?_
   refine Se (Al (Xw.same U (Aa U (Aa U U)) U U U U ?_));refine Lw U ?_;refine Se ⟨.inl U,U,U,U,_,_,_,(Aa U (Aa U U)),U,U,?_⟩;rotate_left
  .rw[if_neg (by rw[h1];simp)];rfl
  .rw[if_pos ⟨h1,rfl⟩,if_neg (by rw[h2];exact Bool.false_ne_true)];rfl
  .rw[if_pos ⟨h1,rfl⟩,if_pos h2];rfl
abbrev RpT:= {p:List DT×KT//CD p.1=true/\X3 p.2=true}
def lb (p:RpT):List AV:=[We p.1.1,.agg (Cm p.1.2)]
theorem Oo (x y:RpT) (h:lb x=lb y):x=y:=by
 obtain⟨⟨a,b⟩,_⟩:=x;obtain⟨⟨a',b'⟩,_⟩:=y;simp only[lb,List.cons.injEq,AV.agg.injEq,and_true]at h;obtain rfl:=EG h.1;obtain rfl:=BR _ _ h.2;rfl
noncomputable def L17:=W7 L16 12 lb (fun p=>jB (VX p.1.1 p.1.2))
theorem hq_12 {ds:List DT} {t:KT} (hs:CD ds=true) (ht:X3 t=true):L17 12 [We ds,.agg (Cm t)]=some (jB (VX ds t)):=An (enc:=lb) (fun a b h=>by rw[Oo a b h]) ⟨(ds,t),hs,ht⟩
theorem all17 (h:Wq Tryz.prog 8 [] (.bool true)):Cq Tryz.prog gn L17:=A3 Ax Aj (all16 h) (fun p:RpT=>T6 p.1.1 p.1.2 p.2.1 p.2.2) (fun p=>by
 show(Cj 40 (We p.1.1)&&(AV.agg (Cm p.1.2)::[]).all (Cj 40))=true;rw[Ed,Br _ _ rfl];rfl) (fun _=>rfl)
class BldT (e:TypeId):Prop where
 ok:e=209
instance:BldT 209:=⟨rfl⟩
section
variable {K : FuncId -> List AV -> Option AV} {e0 : TypeId} [BldT e0]
theorem Hg (hK:K 218=fun _=>none) {s:St} {b0:Nat} {a v:AV} (hg:s.heap.get b0=some (.cells [a,v] e0 false)) (ha:a= .CU\/a= .ptr b0 0) (hn:b0<s.next) {R:AV->St->Prop}
 (hR:∀s',XB s s' (fun c=>c=b0)->s'.next=s.next->s'.heap.get b0=some (.cells [.ptr b0 0,v] e0 false)->(b0<s.bound->s'.log≠ []\/a= .ptr b0 0)->(s.bound<=s.next->Ct s s')->R (.tuple []) s'):VZ (EK K) 218 [.ptr b0 0] s R:=by
 refine VZ.unit (fn:=Tryz.f218) (by show K 218 _=none;rw[hK]) (by kernel_rfl) U U U U ?_;have eU:s.enter.heap.get b0=some (.cells [a,v] e0 false):=hg;rcases ha with rfl|rfl
 .refine Es ?_;refine Lv 3 U<|Lo (kl U eU U) U<|Lo (JP (neg:=false) U Ta MZ U U U) U<|Ld<|Tt U<|Sr<|Lv 2 U ?_;refine Lo (OP U Ta u_298 MZ U (v:= .ptr b0 0) (by show(Wp (s.enter.heap.get b0)).bind _=_;rw[eU];rfl)) U ?_;refine Lq (X9.same (x:= .tmp 9) (by kernel_rfl) U) U ?_;refine Lo (K4 U u_298 Ta MZ U (v:= .ptr b0 0) (by show cL _ _ _ _ (s.enter.heap.get b0)=_;rw[eU];obtain rfl:=BldT.ok (e:=e0);kernel_rfl)) U ?_;refine Lv 2 U<|Ln (kw U eU U) U<|Ld ?_;refine⟨.inr U,rfl,fun h=>absurd h (Hy (s:=s.enter) hn),hR _ (XB.put (s:=s.enter)).back U ?_ ?_ fun h=>Ct.put.back h⟩
  .show(s.enter.put b0 _).heap.get b0=_;rw[Aw,if_pos rfl]
  .intro hb;refine .inl ?_;have nV:Nat.blt b0 s.next=true:=Qd hn;have qY:Nat.blt b0 s.bound=true:=Qd hb;show below s.bound (bif Nat.blt b0 s.next then [b0]else []) s.log≠ [];rw[nV];show(bif Nat.blt b0 s.bound then b0::s.log else s.log)≠ [];rw[qY];simp
 .refine Es ?_;refine Lv 3 U<|Lo (kl U eU U) U<|Lo (JP (neg:=false) U Ta MZ U U U) U<|Ld<|Tf U<|Es<|Lv 3 U<|Lo (kl U eU U) U<|qm U ?_;refine Lo (JP (neg:=true) U Ta MZ U U (v:= .bool false) (by show Zf true (bif Nat.beq b0 b0 then some (Nat.beq 0 0)else _)=_;rw[Nat.beq_refl];rfl)) U ?_;refine Ld<|Tf U<|Sk ?_;exact⟨.inr U,rfl,fun _=>hR s ⟨Qj _,rfl,fun _ h=> .inl h,fun _ _ _=>rfl⟩ U hg (fun _=> .inr U) fun _=>Ct.refl,hR _ ⟨Qj _,rfl,fun _ h=> .inl h,fun _ _ _=>rfl⟩ U hg (fun _=> .inr U) fun h=>Ct.back (st:=s.enter) Ct.refl h⟩
theorem I4 (hK:K 137=fun _=>none) (hK1:K 218=fun _=>none) {s:St} {b0:Nat} {a v:AV} {w x:List UInt8} (hg:s.heap.get b0=some (.cells [a,v] e0 false)) (ha:a= .CU\/a= .ptr b0 0)
 (hn:b0<s.next) (hv:cD s 5 v w) (tm:C6 b0 v=false) (XT:w.length+x.length<=1099511627776) {R:AV->St->Prop}
 (hR:∀s' v',XB s s' (fun c=>c=b0\/C6 c v=true)->s'.heap.get b0=some (.cells [.ptr b0 0,v'] e0 false)->cD s' 5 v' (w++x)->(∀c,C6 c v'=true->C6 c v=true\/s.next<=c)->(b0<s.bound->s'.log≠ [])->(s.bound<=s.next->Ct s s')->R (.tuple [.int .i64 (x.length:Nat),.CP]) s'):
 VZ (EK K) 137 [.ptr b0 0,.str x] s R:=by
 refine VZ.gen (fn:=Tryz.f137) (by show K 137 _=none;rw[hK]) (by kernel_rfl) U U U U ?_;refine Ew U<|Es<|qm U ?_;refine kf U (Hg hK1 (s:=s.enter) hg ha hn ?_);intro s1 rb lG iC mi hL1;have pN:cD s1 5 v w:=hv.Wd (s:=s.enter) rb.next fun c hc=>rb.heap c (hv.own hc) fun h=>by rw[h,tm]at hc;cases hc
 refine Ld<|Es<|Lv 4 U<|Lo (kl U iC U) U<|qm U ?_;obtain⟨v',s2,zf,gw,hnx2,hbd2,pK,hlg2,hhp2⟩:=pN.append XT;have o8:s2.heap.get b0=some (.cells [.ptr b0 0,v] e0 false):=(hhp2 b0 (by rw[lG];exact hn) tm).trans iC;refine Lo (Zl.append U U U U LO vX by_5 z_5 (by kernel_rfl) (by kernel_rfl) U U (new:=byteCells x) (n:=x.length) (by show(bif Nat.beq 1 1 then some (byteCells x,WL x)else none)=_;rw[Bl];rfl) zf) U ?_;have yh:v'.isTuple=false/\v'.cells.length=1/\over v'.cells (0+1) [.ptr b0 0,v]=some [.ptr b0 0,v']:=by
  rcases gw with⟨rfl,_⟩|⟨_,rfl,_⟩|⟨_,rfl,_⟩<;>exact⟨rfl,rfl,rfl⟩
 refine Lv 2 U<|Ln (BD U wc U U (Ds o8 yh.2.1 yh.1 yh.2.2)) U<|Ld<|Es<|qm U<|Lq (Ac U U U U CT U) U<|Lw U<|Se ?_;have h12:XB s1 s2 (fun c=>C6 c v=true):=⟨hnx2,hbd2,hlg2,fun c hc ho=>hhp2 c hc (by simpa using ho)⟩
 have h3:=(rb.trans h12 (own:=fun c=>c=b0\/C6 c v=true) (fun _ h=> .inl h) (fun _ h=> .inl (.inr h)) (Qj _)).trans (XB.put (s:=s2) (b:=b0) (o:=some (.cells [.ptr b0 0,v'] e0 false))) (own:=fun c=>c=b0\/C6 c v=true) (fun _ h=>h) (fun _ h=> .inl (.inl h)) (Qj _);have tq:∀c,C6 c v'=true->c≠b0:=fun c hc h=>by
  rcases pK c hc with h1|h1
  .rw[h,tm]at h1;cases h1
  .have:s1.next=s.next:=lG;omega
 refine⟨.inl U,_,rfl,_,Aa U (Aa U U),_,Bc U (Hy (by rw[hbd2,rb.bound];exact hn)),hR _ v' h3.back ?_ ?_ ?_ (fun h=>VB (Bk (by rw[hbd2,rb.bound];exact hn)) h) fun h=>Ct.back (((hL1 (Qj _)).trans (D5 (by rw[rb.bound,lG];exact Qj _) zf)).trans Ct.put) h⟩
 .show(s2.put b0 _).heap.get b0=_;rw[Aw,if_pos rfl]
 .exact gw.Wd (Qj _) fun c hc=>by
   show(s2.put b0 _).heap.get c=_;rw[Aw,if_neg (tq c hc)]
 .intro c hc;refine(pK c hc).imp id fun h=>?_;have:s1.next=s.next:=lG;omega
theorem xj (hK:K 141=fun _=>none) {s:St} {b0:Nat} {a v:AV} {w:List UInt8} (hg:s.heap.get b0=some (.cells [a,v] e0 false))
 (hn:b0<s.next) (hv:cD s 5 v w) (XT:w.length<=1099511627776) {R:AV->St->Prop} (hR:∀s',XB s s' (fun c=>C6 c v=true)->R (.str w) s'):
 VZ (EK K) 141 [.ptr b0 0] s R:=by
 refine VZ.gen (fn:=Tryz.f141) (by show K 141 _=none;rw[hK]) (by kernel_rfl) U U U U ?_;have eU:s.enter.heap.get b0=some (.cells [a,v] e0 false):=hg;refine Ew U<|Ag (by kernel_rfl)<|Nv 3 U<|Nm U eU U (.inl U) U ?_;obtain⟨d,s2,hd,hraw,aC,ZR,ZE,hhp,hlen⟩:=(show cD (s.enter.sub s.enter.heap) 5 v w from hv.Wd (Qj _) fun _ _=>rfl).text (E:=EK K) Aab;refine ML (VO (f:=fun T=>(Cg (EK K) (.tmp 6) T).bind mb) (v:=d) (by kernel_rfl) fun T hT=>by
  rw[Ae (x:= .tmp 6) (v:=v) hT rfl];show mb v=_;unfold mb;rw[hd]) (.inl rfl) rfl rfl ?_
 refine Nv 3 U<|Nm U eU U (.inl U) U<|Nq (kn U hlen) U ?_;have hble:Nat.ble w.length 1099511627776=true:=Qd XT;have hch:XB (s.enter.sub s.enter.heap) s2 (fun c=>C6 c v=true):=⟨Nat.le_of_eq aC.symm,ZR,ZE,fun c _ ho=>hhp c (by simpa using ho)⟩
 refine Rk (x:=Cg (EK K) (.tmp 7)) (f:=fun T s=>(Cg (EK K) (.tmp 7) T).bind fun a=>(Cg (EK K) (.tmp 12) T).bind fun b=>(Xi b).bind fun n=>bif Nat.ble n 1099511627776 then eL s (EK K) 5 n a else none) (v:= .str w) (s2:=s2) (by kernel_rfl)
  (fun T hT=>Hm (b:=false) (x:=Cg (EK K) (.tmp 7)) (f:=fun T s=>(Cg (EK K) (.tmp 7) T).bind fun a=>(Cg (EK K) (.tmp 12) T).bind fun b=>(Xi b).bind fun n=>bif Nat.ble n 1099511627776 then eL s (EK K) 5 n a else none) (by kernel_rfl) (by
   rw[Ae (x:= .tmp 7) (v:=d) hT rfl,Ae (x:= .tmp 12) (v:= .int .i64 (w.length:Nat)) hT rfl];have hnat:Xi (.int .i64 (w.length:Nat))=some w.length:=rfl;simp only[Qe,hnat,hble,cond_true,hraw]))
  (Nat.le_of_eq aC.symm) (fun c hc=>⟨by
   rcases ZE c hc with h|⟨h,_⟩
   .cases h
   .exact h,U⟩) (by kernel_rfl) U (.inl U) U U ?_
 refine Nw U<|Se ?_;exact⟨.inl U,_,rfl,_,rfl,AL U (fun _ _=>rfl) (fun _=>rfl) (fun _=>hR s XB.refl) fun _=>hR _ (XB.back (XB.merged hch))⟩
theorem Sp (hK:K 258=fun _=>none) {s:St} {b0:Nat} {a:AV} {n:Nat} (hg:s.heap.get b0=some (.cells [a,.Ca] e0 false)) (hn:b0<s.next) (h0:0<n) (XT:n<=1099511627776) {R:AV->St->Prop}
 (hR:∀s' v,XB s s' (fun c=>c=b0)->s'.heap.get b0=some (.cells [a,v] e0 false)->cD s' 5 v []->(∀c,C6 c v=true->s.next<=c)->(b0<s.bound->s'.log≠ [])->R (.tuple []) s'):
 VZ (EK K) 258 [.ptr b0 0,.int .i64 (n:Nat)] s R:=by
 refine VZ.gen (fn:=Tryz.f258) (by show K 258 _=none;rw[hK]) (by kernel_rfl) U U U U ?_;have eU:s.enter.heap.get b0=some (.cells [a,.Ca] e0 false):=hg;refine Ag (by kernel_rfl)<|Nv 3 U<|Nm U eU U (.inl U) U<|Nq (VQ U U U U LO U U) U ?_;refine Nq (Rn (a:=2) (b:=0) U o9 U U (by omega)) U ?_;refine Nv 1 U ?_;refine Nq (ka (a:=0) U (by omega)) U ?_;rw[show 0+n=n from Nat.zero_add n];have hblt:Nat.blt 0 n=true:=Qd h0;have hble:Nat.ble n 1099511627776=true:=Qd XT;refine OG (f:=fun T=>(Cg (EK K) (.tmp 12) T).bind (jI 5)) (ob:= .cells [] 5 true) (g:=fun i=> .slice i 0 n 1 none) (by kernel_rfl) (fun T hT=>by
  rw[Ae (x:= .tmp 12) (v:= .int .i64 (n:Nat)) hT rfl];show(bif Nat.blt 0 n&&Nat.ble n 1099511627776 then _ else _)=_;rw[hblt,hble];rfl) (.inl rfl) rfl rfl ?_
 have YM:b0≠s.enter.next:=Nat.ne_of_lt hn;have o8:(s.enter.alloc (.cells [] 5 true)).heap.get b0=some (.cells [a,.Ca] e0 false):=by
  show(s.heap.set s.next _).get b0=_;rw[Ay,if_neg (show b0≠s.next from YM)];exact hg
 have hg3:(s.enter.alloc (.cells [] 5 true)).heap.get s.enter.next=some (.cells [] 5 true):=by
  show(s.heap.set s.next _).get s.next=_;rw[Ay,if_pos rfl]
 refine Nv 3 U<|B5 U U (AI ag_207 wc o8 U) (Ra YM U) (.inl U) U U<|Nv 1 U ?_;refine MK (x:=Cg (EK K) (.tmp 13)) (f:=fun T s=>(Cg (EK K) (.tmp 13) T).bind fun a=>(XC (EK K) none T).bind fun l=>(XC (EK K) (some (.tmp 18)) T).bind fun h=>(XC (EK K) none T).bind fun m=>Xm s 1 l h m a) (b:=s.enter.next) (v:= .slice s.enter.next 0 0 1 (some 0)) (by kernel_rfl)
  (fun T hT=>Ae (x:= .tmp 13) (v:= .slice s.enter.next 0 n 1 none) hT rfl) rfl (fun T hT=>by
   rw[Ae (x:= .tmp 13) (v:= .slice s.enter.next 0 n 1 none) hT rfl];have h18:XC (EK K) (some (.tmp 18)) T=some (some (.int .i64 ((0:Nat):Int))):=KJ (Ae (x:= .tmp 18) hT rfl);have Z4:XC (EK K) none T=some none:=rfl;simp only[Qe,Z4,h18];have Wt:Wp (((s.enter.alloc (.cells [] 5 true)).sub (Tr.set .nil s.enter.next ((s.enter.alloc (.cells [] 5 true)).heap.get s.enter.next))).heap.get s.enter.next)=some []:=by
    show Wp ((Tr.set .nil s.enter.next ((s.enter.alloc (.cells [] 5 true)).heap.get s.enter.next)).get s.enter.next)=_;rw[Ay,if_pos rfl,hg3];rfl
   unfold Xm;simp only[Nat.beq_refl,cond_true,Wt,Qe];rfl) (O7 (by kernel_rfl) rfl) (.inl rfl) rfl rfl ?_
 refine Nw U<|Es<|Lv 4 U<|Lo (kl U o8 U) U ?_;generalize Z5:s.enter.alloc (.cells [] 5 true)=s1 at o8 hg3|-;have fM:s1.next=s.next+1:=by rw[<-Z5];rfl
 have hcp:copyV s1 1 ([],0) (.slice s.enter.next 0 0 1 (some 0))=some (.int .i64 ((0:Nat):Int),s1.put s.enter.next (some (.cells [] 5 true))):=by
  show(eG s1 s.enter.next 0 [] (s1.heap.get s.enter.next)).bind _=_;rw[hg3];rfl
 refine Lo (Zl.copy U U U U LO vX U U U hcp) U ?_;have hg4:(s1.put s.enter.next (some (.cells [] 5 true))).heap.get b0=some (.cells [a,.Ca] e0 false):=by rw[Aw,if_neg YM];exact o8
 refine Ld<|Sr<|Lv 4 U<|Ln (kw U hg4 U) U<|Ld ?_;have eh:(s1.put s.enter.next (some (.cells [] 5 true))).bound=s.next:=by rw[<-Z5];rfl
 have hch:XB s.enter ((s1.put s.enter.next (some (.cells [] 5 true))).put b0 (some (.cells [a,.slice s.enter.next 0 0 1 (some 0)] e0 false))) (fun c=>c=b0):=by
  refine⟨by show s.next<=s1.next;omega,eh,fun c hc=>?_,fun c hc ho=>?_⟩
  .rcases AR hc with h|⟨h,h2⟩
   .rcases AR h with h|⟨h,h2⟩
    .rw[<-Z5]at h;exact .inl h
    .rw[<-Z5]at h2;have:c<s.next:=h2;have h':c=s.next:=h;omega
   .exact .inr ⟨by rw[eh]at h2;exact h2,h⟩
  .have vT:c≠s.enter.next:=Nat.ne_of_lt hc;rw[Aw,if_neg ho,Aw,if_neg vT,<-Z5];show(s.heap.set s.next _).get c=_;rw[Ay,if_neg (show c≠s.next from vT)];rfl
 refine⟨.inr U,_,rfl,[],rfl,AL U (fun _ _=>rfl) (fun _=>rfl) (fun h=>absurd h (Hy (by rw[eh];exact hn))) fun _=>hR _ (.slice s.enter.next 0 0 1 (some 0)) hch.back ?_ ?_ ?_ fun h=>VB (Bk (by rw[eh];exact hn)) h⟩
 .show(St.put _ b0 _).heap.get b0=_;rw[Aw,if_pos rfl]
 .refine .inr (.inl ⟨s.enter.next,U,U,by show s.next<s1.next;omega,?_⟩);show(St.put (St.put s1 _ _) b0 _).heap.get s.enter.next=_;rw[Aw,if_neg YM.symm,Aw,if_pos rfl]
 .intro c hc;have:s.next=c:=Qb hc;omega
theorem xm (hK:K 219=fun _=>none) (hK1:K 218=fun _=>none) (hK2:K 258=fun _=>none) {s:St} {b0:Nat} {a:AV} {n:Nat} (hg:s.heap.get b0=some (.cells [a,.Ca] e0 false))
 (ha:a= .CU\/a= .ptr b0 0) (hn:b0<s.next) (XT:n<=1099511627776) {R:AV->St->Prop}
 (hR:∀s' v,XB s s' (fun c=>c=b0)->s'.heap.get b0=some (.cells [.ptr b0 0,v] e0 false)->cD s' 5 v []->(∀c,C6 c v=true->s.next<=c)->R (.tuple []) s'):
 VZ (EK K) 219 [.ptr b0 0,.int .i64 (n:Nat)] s R:=by
 refine VZ.gen (fn:=Tryz.f219) (by show K 219 _=none;rw[hK]) (by kernel_rfl) U U U U ?_;refine Es<|qm U ?_;refine kf U (Hg hK1 (s:=s.enter) hg ha hn ?_);intro s1 rb lG iC mi _;refine Ld<|Sq<|Ew U<|Tf U<|Sk<|Ag (by kernel_rfl)<|Nv 3 U<|Nm U iC U (.inl U) U<|Nq (VQ U U U U LO U U) U ?_;focus
  refine Nv 3 U<|Nm U iC U (.inl U) U<|Nv 1 U<|Nq (DJ (a:=0) (b:=0) U o9 U U (by omega)) U<|Nw U ?_;refine Cd U (fun h1=>?_) (fun h1=>?_);refine Sr<|Lv 2 U ?_;rotate_left;refine Sk ?_;rotate_left
 .have h0:0<n:=by simpa using h1
  refine kf U (Sp hK2 iC (by rw[lG];exact hn) h0 XT ?_);intro s2 v oU o8 gw pK yj;refine Ld ?_;have hc:=rb.trans oU (own:=fun c=>c=b0) (fun _ h=>h) (fun _ h=> .inl h) (Qj _);have fB:∀c,C6 c v=true->s.next<=c:=fun c h=>by have:=pK c h;rw[lG]at this;exact this
  refine⟨.inr U,_,rfl,[],rfl,AL U (fun _ _=>rfl) (fun _=>rfl) (fun h=>?_) fun _=>hR _ v hc.back o8 (gw.Wd (Qj _) fun _ _=>rfl) fB⟩;exact absurd h (yj (by rw[rb.bound];exact hn))
 .have h0:n=0:=by simpa using h1
  refine⟨.inr U,_,rfl,[],rfl,AL U (fun _ _=>rfl) (fun _=>rfl) (fun h=>?_) fun _=>hR _ .Ca rb.back iC (.inl ⟨rfl,rfl⟩) fun c hc=>by cases hc⟩;rcases mi hn with h'|h'
  .exact absurd h h'
  .rw[h']at hg;exact hR s .Ca XB.refl hg (.inl ⟨rfl,rfl⟩) fun c hc=>by cases hc
end
theorem Nb {l:List (List UInt8)} {i:Nat} (h:i<l.length):Yd (l.take (i+1))=Yd (l.take i)+l[i].length:=by
 unfold Yd;rw[List.take_succ_eq_append_getElem h,List.map_append,List.sum_append];simp
section
variable {K : FuncId -> List AV -> Option AV}
theorem xn (hK:K 139=fun _=>none) (hK1:K 219=fun _=>none) (hK2:K 218=fun _=>none) (hK3:K 258=fun _=>none) (hK4:K 137=fun _=>none)
 (hK5:K 141=fun _=>none) {s:St} {v:AV} {l:List (List UInt8)} {sep:List UInt8} (hv:YV s v l) (sy:Yd l+(sep.length+1)*(l.length+1)<=1099511627776) {R:AV->St->Prop} (hR:R (.str (rI sep l)) s):
 VZ (EK K) 139 [v,.str sep] s R:=by
 refine VZ.gen (fn:=Tryz.f139) (by show K 139 _=none;rw[hK]) (by kernel_rfl) U U U U ?_;have hve:YV s.enter v l:=hv.Wd (Qj _) fun _ _=>rfl;have hlen:=hve.len;focus
  refine Ew U<|Sq<|Es<|qm U<|Lq (kn U hlen) U<|Ld<|Sb<|Ew U ?_;refine Cd U (fun h1=>?_) (fun h1=>?_);refine Ew U ?_;rotate_left;refine Ew U ?_;refine Cd U (fun h2=>?_) (fun h2=>?_);refine Es<|qm U ?_;rotate_left;refine Sk<|Ew U ?_;rotate_left
 .
  have hl:l=[]:=by cases l with|nil=>rfl|cons _ _=>simp at h1;omega
  subst hl;refine Se ?_;exact⟨.inl U,_,rfl,_,Aa U U,AL U (fun _ _=>rfl) (fun _=>rfl) (fun _=>hR) fun h=>absurd U h⟩
 .
  obtain⟨a,rfl⟩:∃a,l=[a]:=by
   match l,h2 with
   | [a],_=>exact⟨a,rfl⟩
  obtain⟨p,hp,XV⟩:=hve.at (E:=EK K) (i:=0) (by simp) oi HT;refine Lq (kv (k:=0) U hp) U<|Lo (B9 U U XV) U<|Lw U<|Se ?_;refine⟨.inl U,_,rfl,_,Aa U U,AL U (fun _ _=>rfl) (fun _=>rfl) (fun _=>?_) fun h=>absurd U h⟩;have:rI sep [a]=a:=List.append_nil a;rw[this]at hR;exact hR
 .
  have hm:2<=l.length:=by omega
  have hprod:sep.length*(l.length-1)+l.length<=(sep.length+1)*(l.length+1):=by
   have h1:sep.length*(l.length-1)<=sep.length*(l.length+1):=Nat.mul_le_mul_left _ (by omega);rw[Nat.add_mul,Nat.one_mul];omega
  have zc:Yd l+sep.length*(l.length-1)+l.length<=1099511627776:=by omega
  have hsep:sep.length<=sep.length*(l.length-1):=Nat.le_mul_of_pos_right _ (by omega);have hq:sep.length<9223372036854775807/(l.length-1):=by
   refine Nat.lt_of_succ_le ((Nat.le_div_iff_mul_le (by omega)).2 ?_);rw[Nat.succ_mul];omega
  refine Cz.cut [(5,.int .i64 ((sep.length*(l.length-1):Nat):Int)),(0,v),(1,.str sep)] s.enter ?_ ?_
  .focus
    refine Es<|qm U<|Lq (Ac U U U U CT U) U<|Lw U ?_;refine Cd U (fun h3=>?_) (fun h3=>?_);refine Sq<|Es<|qm U<|Lq (Ac U U U U CT U) U<|qm U<|Lq (kn U hlen) U<|Lq (DJ (b:=1) U o9 U U (by omega)) U<|Lq (X9.quoN (a:=9223372036854775807) U o9 U U (by omega)) U<|Lw U ?_;refine Cd U (fun h4=>?_) (fun h4=>?_);exact absurd h4 (by omega);refine Sk<|Sr<|Lv 2 U<|Lq (Ac U U U U CT U) U<|qm U<|Lq (kn U hlen) U<|Lq (DJ (b:=1) U o9 U U (by omega)) U ?_;refine Lq (Rn U o9 U U (by omega)) U ?_;refine Lq (ka (a:=0) U (by omega)) U ?_;refine Lw U ?_;rotate_left;refine Sk ?_;rotate_left
   .refine⟨U,U,U,?_⟩;rw[show 0+sep.length*(l.length-1)=sep.length*(l.length-1)from Nat.zero_add _]
    (refine Am.Ah ?_;repeat (first|exact trivial|refine⟨rfl,?_⟩))
   .have h0:sep.length=0:=by omega
    refine⟨U,U,U,?_⟩;rw[h0,Nat.zero_mul]
    (refine Am.Ah ?_;repeat (first|exact trivial|refine⟨rfl,?_⟩))
  .refine Sq ?_;refine Es<|qm U<|Lq (kn U hlen) U<|Lw U<|Sb ?_;generalize nL:sep.length*(l.length-1)=n0 at*;refine Ai (fun i:Nat=>([(41,.int .i64 (i:Nat)),(40,.int .i64 (l.length:Nat)),(39,v),(5,.int .i64 ((n0+Yd (l.take i):Nat):Int)),(0,v),(1,.str sep)],s.enter)) (fun i=>l.length-i) (fun i=>i<=l.length) 0 (Qm _) U (by rw[show Yd (l.take 0)=0 from rfl,Nat.add_zero];(refine Am.Ah ?_;repeat (first|exact trivial|refine⟨rfl,?_⟩))) fun i hi=>?_;have h6:=DO (l:=l) i;focus
    refine Ew U<|Sq ?_;refine Cd U (fun h3=>?_) (fun h3=>?_);refine Sk<|Sq<|Sb<|Es ?_;rotate_left;refine Sx<|A8 U<|Es<|Lo (kz U) U<|Ld<|Es<|qm U ?_;rotate_left
   .have Co:i<l.length:=by omega
    obtain⟨p,hp,XV⟩:=hve.at (E:=EK K) Co oi HT;have h5:=Nb Co;have h7:=DO (l:=l) (i+1);focus
     refine Lq (kv U hp) U<|Lo (B9 U U XV) U<|Lw U<|Sq<|Es<|qm U<|Lq (Ac U U U U CT U) U<|qm U<|Lq (DJ (a:=9223372036854775807) U o9 U U (by omega)) U<|Lw U ?_;refine Cd U (fun h4=>?_) (fun h4=>?_);exact absurd h4 (by omega);refine Sk<|Sr<|Lv 2 U<|Lq (Ac U U U U CT U) U ?_;refine Lq (ka U (by omega)) U ?_;refine Lw U<|Sr ?_;refine Lq (ka (b:=1) U (by omega)) U ?_;refine Lw U ?_;rotate_left
    refine⟨i+1,Co,by omega,U,U,?_⟩;rw[h5,<-Nat.add_assoc]
    (refine Am.Ah ?_;repeat (first|exact trivial|refine⟨rfl,?_⟩))
   .have eW:i=l.length:=by omega
    rw[eW,List.take_length]
    match l,hm with
    |a::b::l',_=>
    have hrl:(a::b::l').length=(b::l').length+1:=rfl;have fp:Yd (a::b::l')=a.length+Yd (b::l'):=by simp[Yd]
    have lG:n0=(b::l').length*sep.length:=by rw[<-nL,Nat.mul_comm];rfl
    let s1:St:=s.enter.alloc (.cells [.CU,.Ca] 209 false)
    have fM:s1.heap.get s.next=some (.cells [.CU,.Ca] 209 false):=by
     show(s.heap.set s.next _).get s.next=_;rw[Ay,if_pos rfl]
    have hlow1:∀c,c<s.next->s1.heap.get c=s.heap.get c:=fun c hc=>by
     show(s.heap.set s.next _).get c=_;rw[Ay,if_neg (by omega)]
    have hnx1:s1.next=s.next+1:=rfl;refine kf U (xm hK1 hK2 hK3 (s:=s1) fM (.inl U) (Nat.lt_succ_self _) (by omega) ?_);intro s2 bv2 oU o8 gw pK;have sQ:YV s2 v (a::b::l'):=hv.Wd (by have:=oU.next;omega) fun c hc=>by
     have:=hv.own hc;rw[oU.heap c (by omega) (by omega),hlow1 c this]
    obtain⟨p,hp,XV⟩:=sQ.at (E:=EK K) (i:=0) (by simp) oi HT;refine Ld<|Es<|qm U<|Lq (kv (k:=0) U hp) U<|Lo (B9 U U XV) U ?_;have hov2:C6 s.next bv2=false:=by
     cases h:C6 s.next bv2 with
     |false=>rfl
     |true=>have:=pK _ h;omega
    refine kf U (I4 hK4 hK2 o8 (.inr U) (by have:=oU.next;omega) gw hov2 (by simp only[List.length_nil,List.getElem_cons_zero];omega) ?_);intro s3 bv3 hc3 hg3 ur how3 _ _;have hch3:XB s1 s3 (fun c=>c=s.next\/s1.next<=c):=oU.trans hc3 (fun _ h=> .inl h) (fun c h=>h.elim (fun h=> .inl (.inl h)) fun h=> .inl (.inr (pK c h))) (by show s.next<=s.next+1;omega);have hv3:YV s3 v (a::b::l'):=hv.Wd (by have:=hch3.next;omega) fun c hc=>by
     have:=hv.own hc;rw[hch3.heap c (by omega) (by omega),hlow1 c this]
    obtain⟨v',hsl',hvt',hovt'⟩:=hv3.tail;have hlen':=hvt'.len;refine Ld<|Sq<|Es<|qm U<|Lo (SQ U MV HT U U U hsl') U<|Lq (kn U hlen') U<|Lw U<|Sb ?_;refine Ai (fun x:Nat×AV×St=>([(65,.int .i64 (x.1:Nat)),(64,.int .i64 ((b::l').length:Nat)),(63,v'),(8,.ptr s.next 0),(1,.str sep)],x.2.2)) (fun x=>(b::l').length-x.1)
     (fun x=>x.1<=(b::l').length/\s3.next<=x.2.2.next/\XB s1 x.2.2 (fun c=>c=s.next\/s1.next<=c)/\x.2.2.heap.get s.next=some (.cells [.ptr s.next 0,x.2.1] 209 false)/\cD x.2.2 5 x.2.1 (a++((b::l').take x.1).flatMap (sep++·))/\(∀c,C6 c x.2.1=true->s1.next<=c))
     (0,bv3,s3) ⟨Qm _,Qj _,hch3,hg3,?_,?_⟩ rfl (Ah (by repeat' constructor)) ?_
    .show cD s3 5 bv3 (a++[]);rw[List.append_nil];exact ur
    .intro c hc;rcases how3 c hc with h|h
     .exact pK c h
     .have:=oU.next;show s1.next<=c;omega
    rintro⟨j,bv,st⟩ ⟨hj,vD,hcj,hgj,hbj,xp⟩;dsimp only at hj vD hcj hgj hbj xp|-;have aC:=hcj.next;have hvj:YV st v' (b::l'):=hvt'.Wd vD fun c hc=>by
     have:=hv.own (hovt' c hc);rw[hcj.heap c (by omega) (by omega),hch3.heap c (by omega) (by omega)]
    have hwl:(a++((b::l').take j).flatMap (sep++·)).length=a.length+(Yd ((b::l').take j)+j*sep.length):=by
     rw[Ql,Fh,List.length_take,Nat.min_eq_left hj]
    have hsj:=DO (l:=b::l') j;have hjm:j*sep.length<=n0:=by rw[lG];exact Nat.mul_le_mul_right _ hj
    have hnj:s.next<st.next:=by omega
    have hovj:C6 s.next bv=false:=by
     cases h:C6 s.next bv with
     |false=>rfl
     |true=>have:=xp _ h;omega
    generalize hw:a++((b::l').take j).flatMap (sep++·)=w at*;focus
     refine Ew U<|Sq ?_;refine Cd U (fun h4=>?_) (fun h4=>?_);refine Sk<|Sq<|Sb<|Es ?_;rotate_left;refine Sx<|A8 U<|Es ?_;rotate_left
    .have Co:j<(b::l').length:=by omega
     obtain⟨p,hp,XV⟩:=hvj.at (E:=EK K) Co oi HT;have hsj1:=DO (l:=b::l') (j+1);have hsj2:=Nb Co;have hjm1:j*sep.length+sep.length<=n0:=by rw[lG,<-Nat.succ_mul];exact Nat.mul_le_mul_right _ Co
     refine Lq (kv U hp) U<|Lo (B9 U U XV) U<|Lw U<|Es<|qm U ?_;refine kf U (I4 hK4 hK2 hgj (.inr U) hnj hbj hovj (by omega) ?_);intro s4 bv4 hc4 hg4 hb4 how4 _ _;have hn4:=hc4.next;have xq:∀c,C6 c bv4=true->s1.next<=c:=fun c hc=>by
      rcases how4 c hc with h|h
      .exact xp c h
      .omega
     have hov4:C6 s.next bv4=false:=by
      cases h:C6 s.next bv4 with
      |false=>rfl
      |true=>have:=xq _ h;omega
     refine Ld<|Sr<|qm U ?_;refine kf U (I4 hK4 hK2 hg4 (.inr U) (by omega) hb4 hov4 (by rw[Ql];omega) ?_);intro s5 bv5 hc5 ox hb5 how5 _ _;have hn5:=hc5.next;refine Ld<|Sr ?_;refine Lq (ka (b:=1) U (by omega)) U ?_;refine Lw U ?_;refine⟨(j+1,bv5,s5),⟨Co,by show s3.next<=s5.next;omega,?_,ox,?_,?_⟩,by show(b::l').length-(j+1)<_;omega,U,U,Ah (by repeat' constructor)⟩
     .have e1:XB s1 s4 (fun c=>c=s.next\/s1.next<=c):=hcj.trans hc4 (fun _ h=>h) (fun c h=>h.elim (fun h=> .inl (.inl h)) fun h=> .inl (.inr (xp c h))) (by show s.next<=s.next+1;omega);exact e1.trans hc5 (fun _ h=>h) (fun c h=>h.elim (fun h=> .inl (.inl h)) fun h=> .inl (.inr (xq c h))) (by show s.next<=s.next+1;omega)
     .show cD s5 5 bv5 (a++((b::l').take (j+1)).flatMap (sep++·));rw[Lc Co,<-List.append_assoc,<-List.append_assoc,hw];exact hb5
     .intro c hc;show s1.next<=c;rcases how5 c hc with h|h
      .exact xq c h
      .omega
    .have hje:j=(b::l').length:=by omega
     refine kf U (xj hK5 hgj hnj hbj (by omega) ?_);intro s6 hc6;refine Lw U<|Se ?_;have hc7:XB s1 s6 (fun c=>c=s.next\/s1.next<=c):=hcj.trans hc6 (fun _ h=>h) (fun c h=> .inl (.inr (xp c h))) (by show s.next<=s.next+1;omega);have Wk:s6.log=[]:=by
      cases hl:s6.log with
      |nil=>rfl
      |cons c lg=>
       have:=hc7.log c (by rw[hl];exact Qh ..);rcases this with h|⟨h,h'⟩
       .cases h
       .have h2:c<s.next:=h;omega
     refine⟨.inl U,_,rfl,_,Aa U U,AL U (fun _ _=>rfl) (fun _=>rfl) (fun _=>?_) fun h=>absurd Wk h⟩;show R (.str w) s;rw[<-hw,hje,List.take_length];exact hR
end
theorem Uz (l:List X4) (h:l≠ []): [40]++rI [44,32] l++[41]=jA l:=by
 cases l with
 |nil=>exact absurd rfl h
 |cons a l=>
  show [40]++(a++l.flatMap ([44,32]++·))++[41]=[40]++a++l.flatMap ([44,32]++·)++[41]
  rw[List.append_assoc [40] a]
theorem U0 (l:List X4):(rI [44,32] l).length<=Yd l+l.length*2:=by
 cases l with
 |nil=>exact Qm _
 |cons a l=>
  show(a++l.flatMap ([44,32]++·)).length<=_;rw[Ql,Fh,Gt];show a.length+(Yd l+l.length*2)<=_+(l.length+1)*2;omega
abbrev WiT:= {l:List X4//l.length<=1000/\Yd l<=100000}
def encWi (p:WiT):List AV:=[Ww p.1]
theorem with_to (l:List X4) (h1:l.length<=1000) (h2:Yd l<=100000):Cc (EK L17) 106 [Ww l] S0 (.str (jA l)):=by
 refine As U ?_;have hl:=IA l;have hj:=U0 l;have c1:=pG 40;have c2:=pG 41;cases l with
 |nil=>
  refine Es<|Lw U<|Sq<|Ew U<|Tt U<|Ew U ?_;refine Se (Er U ?_);rfl
 |cons a l=>
  refine Ew U<|Sq<|Ew U<|Tf U<|Sk<|Es<|qm U ?_;refine kf U (xn (l:=a::l) U U U U U U (.inr (.inl ⟨true,U⟩)) (by show _+3*_<=_;omega) ?_);iterate 2 refine Lq (AK U CT U U (by first|assumption|omega|(simp only[LL];omega))) U ?_
  refine Lw U ?_;refine Se (Er U ?_);exact congrArg AV.str (Uz (a::l) (fun h=>by cases h))
noncomputable def LF:=W7 L17 106 encWi (fun p=> .str (jA p.1))
theorem hq_106 {l:List X4} (h1:l.length<=1000) (h2:Yd l<=100000):LF 106 [Ww l]=some (.str (jA l)):=An (enc:=encWi) (fun a b h=>by rw[show a=b from Subtype.ext (Nc (List.cons.inj h).1)]) ⟨l,h1,h2⟩
theorem allF (h:Wq Tryz.prog 8 [] (.bool true)):Cq Tryz.prog gn LF:=A3 Ax Aj (all17 h) (fun p:WiT=>with_to p.1 p.2.1 p.2.2) (fun p=>by
 show(Cj 40 (Ww p.1)&&true)=true;rw[ER];rfl) (fun _=>rfl)
end Go.Proofs.YtfhimfcbphepeaaGreatDoor.Ty
