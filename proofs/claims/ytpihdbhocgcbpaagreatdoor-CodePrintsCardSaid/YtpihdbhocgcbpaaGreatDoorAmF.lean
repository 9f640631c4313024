/- The abstract machine: rules for calls with unknown arguments. -/
import Derived.Test.YtpihdbhocgcbpaaGreatDoorAmE
set_option linter.unusedSectionVars false
set_option linter.unusedVariables false
set_option linter.unusedSimpArgs false
namespace Am
open Go
section
variable (E : Env)
def Evt (c:Code) (fr:Fr) (T:Tr AV) (s:St) (Q:Z2→Prop):Prop:=∃N r,Q r∧∀n,N≤n→(XC E c).run (ev E n) fr T s= .one r
def EvtR (all ops:List Oper) (fr:Fr) (T:Tr AV) (s:St) (Q:Z2→Prop):Prop:=∃N r,Q r∧∀n,N≤n→(Zo E all ops).run (ev E n) fr T s= .one r
def bY (o:Oper) (fr:Fr) (T:Tr AV) (s:St) (v:AV) (s':St):Prop:=
 ∃N,∀n,N≤n→∀k:mT,(WW E (Xg E o.type o.op) k).run (ev E n) fr T s=k.run (ev E n) fr T v s'
def Cb (f:FuncId) (args:List AV) (s:St) (v:AV):Prop:=∃N,∀n,N≤n→We E (ev E n) f args s=some (.same v)
end
section
variable {E : Env} {fr : Fr} {T : Tr AV} {s : St} {Q : Z2 → Prop}
theorem H6 (n:Nat) (c:Code):ev E (n+1) c=(XC E c).run (ev E n):=rfl
abbrev SeqQ (E:Env) (b:Code) (Q:Z2→Prop) (r:Z2):Prop:=match r.ex with
 | .normal=>Evt E b r.fr r.T r.st Q
 |_=>Q r
abbrev BlockQ (id:Nat) (Q:Z2→Prop) (r:Z2):Prop:=match r.ex with
 | .exit i=>bif Nat.beq i id then Q ⟨.normal,r.fr,r.T,r.st⟩else Q r
 |_=>Q r
noncomputable def bf (d:Option Nat) (v:AV) (T:Tr AV):Tr AV:=match d with
 |some d=>T.set d (some v)
 |none=>T
def WA (nt:Nat):Option Nat→Bool
 |some d=>Nat.blt d nt
 |none=>true
theorem D4 {dst:Option Nat} {k:Cl} (ev:Ev) (v:AV) (hd:WA fr.nt dst=true):(Y5 dst k).run ev fr T v s=k.run ev fr (bf dst v T) s:=by
 cases dst with
 |none=>rfl
 |some d=>
  show(bif Nat.blt d fr.nt then k.run ev fr (Tr.bS (some v) (pathOf d) T) s else .stuck)=_;have:Nat.blt d fr.nt=true:=hd;rw[this];rfl
theorem Gu {all:List Oper} {g:Nat×Bool} {oj:Oper} {d:Nat} {b:Bool} (hj:nth all g.1=some oj) (hd:oj.dst=some d) (hv:T.get d=some (.bool b)):W4 all g T=some (bif g.2 then b else !b):=by
 unfold W4 ZN;rw[hj];simp only[Qe,hd];show bt g.2 (T.get d)=_;rw[hv];rfl
theorem GI {o:Oper} {x:Tr AV→Option AV} {f:Tr AV→St→Option AV} {v:AV} (XX:Xg E o.type o.op= .read x f) (hv:f T s=some v):bY E o fr T s v s:=⟨0,fun n _ k=>by
 rw[XX];show Xh (fun v=>k.run (ev E n) fr T v s) (f T s)=_;rw[hv];rfl⟩
theorem Hj {o:Oper} {b:Bool} {x:Tr AV→Option AV} {f:Tr AV→St→Option (AV×St)} {v:AV} {s':St} (XX:Xg E o.type o.op= .act b x f) (hv:f T s=some (v,s')):bY E o fr T s v s':=⟨0,fun n _ k=>by
 rw[XX];show kQ (k.run (ev E n) fr T) (f T s)=_;rw[hv];rfl⟩
theorem FQ {o:Oper} {f:Tr AV→Option Mk} {ob:CB} {g:Nat→AV} (XX:Xg E o.type o.op= .make f) (hv:f T=some (.obj ob g)):bY E o fr T s (g s.next) (s.alloc ob):=⟨0,fun n _ k=>by
 rw[XX];show jI s (k.run (ev E n) fr T) (f T)=_;rw[hv];rfl⟩
theorem bY.call {o:Oper} {F:Tr AV→St→Option (FuncId×List AV)} {f:FuncId} {args:List AV} {v:AV} (XX:Xg E o.type o.op= .call F) (hv:F T s=some (f,args)) (hc:Cb E f args s v):bY E o fr T s v s:=by
 obtain⟨N,hc⟩:=hc;refine⟨N,fun n hn k=>?_⟩;rw[XX];show Xy fr T s (k.run (ev E n) fr T) ((F T s).bind fun p=>We E (ev E n) p.1 p.2 s)=_;rw[hv];simp only[Qe];rw[hc n hn];rfl
theorem SI {o:Oper} {F:Tr AV→Option AV} {A:Tr AV→Option (List AV)} {f:FuncId} {first captured args:List AV} {v:AV} (XX:Xg E o.type o.op= .ZB F A) (hF:F T=some (.func (.func f) first captured)) (hA:A T=some args)
 (hb:CI E f=true) (hc:Cb E f (first++args++captured) s v):bY E o fr T s v s:=by
 obtain⟨N,hc⟩:=hc;refine⟨N,fun n hn k=>?_⟩;rw[XX];show Xy fr T s (k.run (ev E n) fr T) ((F T).bind fun g=>(A T).bind fun args=>Ya E (ev E n) args s g)=_;rw[hF,hA];simp only[Qe,Ya,hb,cond_true];rw[hc n hn];rfl
theorem Cb.Cs {f:FuncId} {args:List AV} {v:AV} (h:E.Cs f args=some v):Cb E f args s v:=⟨0,fun n _=>by unfold We;rw[h]⟩
def EndQ (E:Env) (f:FuncId) (fn:Func) (s:St) (v:AV) (r:Z2):Prop:=
 (r.ex= .ret∨r.ex= .normal)∧r.fr.defers=[]∧∃vs,XL E r.st r.T fn.results.toList=some vs∧leave E f s (ZM vs) r.st=some (.same v)
def gk:AV→Bool
 | .bool _=>true
 | .int _ _=>true
 | .str _=>true
 |_=>false
theorem Ps {f:FuncId} {v:AV} {s st:St} (hv:gk v=true) (hl:st.log=[]):leave E f s v st=some (.same v):=by
 have hk:∀n w,CH w n 40 v []=some (v,[]):=by
  intro n w;cases v<;>first|rfl|cases hv
 have hu:Cz s.next 40 v=true:=by cases v<;>first|rfl|cases hv
 have hf:frozen E f s v st=some (v,st):=by
  unfold frozen Wb;split
  ·rfl
  ·rw[hl];simp only[hk,Qe,kill]
  ·simp only[hk,Qe,kill]
 unfold leave;rw[hf];simp only[Qe,Yx,hl,hu,cond_true]
end
noncomputable def lk (P:Program) (nt nf mask:Nat) (K:FuncId→List AV→Option AV):Env:= {mG P nt nf mask []with Cs:=K}
def VG (P:Program) (f:FuncId) (args:List AV) (v:AV):Prop:=
 ∀(C:Cx) (S:St) (w:World) (xs:Array Value) (c:Frame) (cs:List Frame),VS C args xs.toList→Wn C S w→Returns P (lone (Frame.enter P f xs .normal) (c::cs) w) c cs C S w (.same v)
def CK (P:Program) (K:FuncId→List AV→Option AV):Prop:=∀f args v,K f args=some v→VG P f args v
theorem UZ {P:Program} {nt nf:Nat} (h:X8 P nt nf) (mask:Nat) (K:FuncId→List AV→Option AV):CN (lk P nt nf mask K) P:=by
 have:=Jr h mask [];exact⟨this.ty,this.fn,this.flat,this.lone⟩
theorem sy {P:Program} {nt nf:Nat} (h:X8 P nt nf) (mask:Nat) (K:FuncId→List AV→Option AV):Y6 (lk P nt nf mask K) P:=
 QY (UZ h mask K) fun f fn hf=>by
  have:P.funcs.toList[f]?=some fn:=by rw[←EL nf P.funcs.toList f (by simpa using h.funcs)];exact hf
  exact(List.all_eq_true.1 h.outer) fn (List.mem_of_getElem? this)
theorem Va {P:Program} {nt nf mask:Nat} {K:FuncId→List AV→Option AV} (hK:CK P K):bB (lk P nt nf mask K) P:=
 fun f args v h C S w xs c cs _ hv hS=>hK f args v h C S w xs c cs hv hS
theorem noGlob (P:Program) (nt nf mask:Nat) (K:FuncId→List AV→Option AV) (C:Cx):Wg (lk P nt nf mask K) C:=fun g cs hg=>by cases hg
theorem DT {P:Program} {nt nf mask:Nat} (hp:X8 P nt nf) {K:FuncId→List AV→Option AV} (hK:CK P K) {f:FuncId} {args:List AV} {v:AV} (h:Cb (lk P nt nf mask K) f args S0 v)
 (ha:args.all (Cr 40)=true) (hv:Cr 40 v=true):VG P f args v:=by
 intro C S w xs c cs Wk hS;obtain⟨N,h⟩:=h;have hx:=sy hp mask K;have he:=UZ hp mask K;have VJ:=MR he hx (Kw he hx) (Va hK) (fun _ ev _=>HW ev) N;have:=VJ f args (.same v) C.bare S0 w xs c cs (h N (Qj _)) (noGlob _ _ _ _ _ _) (B1 40 Wk ha) (oH C hS);obtain⟨C1,x,w',hs,t,Yq⟩:=this;have eb:Ext C1.bare (C.Yi C1):=⟨fun _ x=>x.elim,fun _ x=>x.elim,fun _ _ h=>h,fun _ _ x=>x.elim,fun _ _ x=>x.elim,fun _ h=>h⟩
 exact⟨_,x,w',hs,Jq hS t,(Ek 40 Yq hv).mono eb⟩
def Cx.memory (w:World):Cx:=
 ⟨fun _=>⟨0,0,0⟩,fun Cn=>match w.heap[Cn]? with
  |some (.cells c _ _)=>some c.toList
  |_=>none,fun _=>False,fun _ _=>0,fun _ _=>False,fun k=>k<w.heap.size⟩
theorem Up (w:World):Wn (Cx.memory w) S0 w:=by
 have XG:∀b o,¬S0.heap.get b=some o:=fun b o hb=>by rw[show S0.heap= .nil from rfl,Bs]at hb;cases hb
 have hM:∀Cn ms,(Cx.memory w).M Cn=some ms→∃c e fr,w.heap[Cn]?=some (.cells c e fr)∧c.toList=ms:=by
  intro Cn ms hm;simp only[Cx.memory]at hm;split at hm
  ·next c e fr hx=>cases hm;exact⟨c,e,fr,hx,rfl⟩
  ·cases hm
 refine⟨fun b o hb=>absurd hb (XG b o),fun b _ o _ hb=>absurd hb (XG b o),fun b hb=>hb.elim,hM,fun b o hb=>absurd hb (XG b o),fun b n hb=>hb.elim,fun _ h=>h,fun b hb=>hb.elim,fun Cn ms hm=>?_⟩;obtain⟨c,e,fr,hx,_⟩:=hM Cn ms hm;exact BM hx
section
variable {E : Env} {fr : Fr} {T : Tr AV} {s : St} {o : Oper}
theorem s8 {op:BinOp} {t:TypeId} {x y:Operand} {k:IntKind} (hu:C7 E t=some (.int k)) {f:IntKind→Int→Int→Option AV} (hf:lS op=some f):eL E op t x y=XT E (lU f) x y:=by
 unfold eL;rw[hu];cases op<;>first|(exfalso;simp[lS]at hf;done)|(simp only[hf])
theorem LX {n:Int} (h0: -9223372036854775808≤n) (h1:n<9223372036854775808):IntKind.i64.wrap n=n:=Go.IntWalk.i64_in _ (by omega)
theorem GL {n:Int} (h0: -9223372036854775808≤n) (h1:n<9223372036854775808):Y4 .i64 n= .int .i64 n:=by
 unfold Y4;rw[LX h0 h1]
theorem Hu {α:Type} {l:List α} {a n:Nat} (h:a+n≤l.length):cut l a n=some ((l.drop a).take n):=by
 have h1:∀(a:Nat) (l:List α),a≤l.length→WM a l=some (l.drop a):=by
  intro a;induction a with
  |zero=>intro l _;rfl
  |succ a ih=>
   intro l hl;cases l with
   |nil=>simp at hl
   |cons b l=>exact ih l (by simpa using hl)
 have h2:∀(n:Nat) (l:List α),n≤l.length→takeN n l=some (l.take n):=by
  intro n;induction n with
  |zero=>intro l _;simp;rfl
  |succ n ih=>
   intro l hl;cases l with
   |nil=>simp at hl
   |cons b l=>
    show bL b (takeN n l)=_;rw[ih l (by simpa using hl)];rfl
 unfold cut;rw[h1 a l (by omega)];exact h2 n _ (by simp;omega)
theorem BH {d m n:Nat} {k:IntKind} (h:n≤m):CM d m (some (.int k (n:Nat)))=some n:=by
 have hk:VW (.int k (n:Nat))=some n:=rfl;have hb:Nat.ble n m=true:=Qd h;simp only[CM,hk,Qe,hb,cond_true]
theorem Ly {x:Operand} {v:AV} (h:Cc E x T=some v):WI E (some x) T=some (some v):=by simp only[WI,h,Qe]
theorem TQ:CO E [] T=some []:=rfl
theorem Lx {x:Operand} {l:List Operand} {v:AV} {vs:List AV} (h:Cc E x T=some v) (t:CO E l T=some vs):CO E (x::l) T=some (v::vs):=by simp only[CO,h,t,Qe]
theorem PU {c:Call} {f:FuncId} {args:List AV} {v:AV} (ho:o.op= .call c) (hc:c.callee= .value (.func f)) (hb:CI E f=true) (ha:CO E c.args.toList T=some args) (h:Cb E f args s v):bY E o fr T s v s:=
 bY.call (F:=fun T _=>(CO E c.args.toList T).bind fun args=>some (f,args)) (by
  rw[ho];show VV E o.type c=_;unfold VV;rw[hc];simp only[hb,cond_true]) (by simp only[ha,Qe]) h
theorem OC {c:Call} {t:Nat} {f:FuncId} {first captured args:List AV} {v:AV} (ho:o.op= .call c) (hc:c.callee= .value (.tmp t)) (hf:T.get t=some (.func (.func f) first captured)) (hb:CI E f=true)
 (ha:CO E c.args.toList T=some args) (h:Cb E f (first++args++captured) s v):bY E o fr T s v s:=
 SI (F:=Cc E (.tmp t)) (A:=CO E c.args.toList) (by
  rw[ho];show VV E o.type c=_;unfold VV;rw[hc]) hf ha hb h
end
abbrev Sl:=List (Nat×AV)
def look:Nat→Sl→Option AV
 |_,[]=>none
 |k,p::l=>bif Nat.beq k p.1 then some p.2 else look k l
def Has (l:Sl) (T:Tr AV):Prop:=∀k v,look k l=some v→T.get k=some v
theorem Has.put {l:Sl} {T:Tr AV} (h:Has l T) (d:Nat) (v:AV):Has ((d,v)::l) (T.set d (some v)):=by
 intro k u hk;rw[AF];unfold look at hk;cases hb:Nat.beq k d with
 |true=>
  rw[hb]at hk;have:=Qb hb;simp only[cond_true]at hk;rw[if_pos this];exact hk
 |false=>
  rw[hb]at hk;have:=Nat.ne_of_beq_eq_false hb;rw[if_neg this];exact h k u hk
theorem Has.nil (T:Tr AV):Has [] T:=fun _ _ h=>by cases h
theorem Has.sub {l l':Sl} {T:Tr AV} (h:Has l T) (hs:∀p∈l',look p.1 l=some p.2):Has l' T:=by
 intro k v hk;have:∃p∈l',p.1=k∧p.2=v:=by
  clear hs;induction l' with
  |nil=>cases hk
  |cons p l' ih=>
   unfold look at hk;cases hb:Nat.beq k p.1 with
   |true=>
    rw[hb]at hk;simp only[cond_true,Option.some.injEq]at hk;exact⟨p,Qh ..,(Qb hb).symm,hk⟩
   |false=>
    rw[hb]at hk;obtain⟨q,hq,h1⟩:=ih hk;exact⟨q,Qg _ hq,h1⟩
 obtain⟨p,hp,rfl,rfl⟩:=this;exact h _ _ (hs p hp)
noncomputable def Ce:Operand→Sl→Option AV
 | .tmp t,l=>look t l
 | .const v,_=>j7 v
 | .func f,_=>some (.func (.func f) [] [])
 | .global _,_=>none
theorem Al {E:Env} {l:Sl} {T:Tr AV} (h:Has l T) {x:Operand} {v:AV} (hx:Ce x l=some v):Cc E x T=some v:=by
 cases x with
 |tmp t=>exact h t v hx
 |const c=>
  simp only[Ce]at hx;simp only[Cc];rw[hx];rfl
 |func f=>exact hx
 |global g=>cases hx
noncomputable def Xd:List Operand→Sl→Option (List AV)
 | [],_=>some []
 |x::xs,l=>match Ce x l with
  |some v=>match Xd xs l with
   |some vs=>some (v::vs)
   |none=>none
  |none=>none
theorem B4 {E:Env} {l:Sl} {T:Tr AV} (h:Has l T):∀ {xs:List Operand} {vs:List AV},Xd xs l=some vs→CO E xs T=some vs
 | [],vs,hx=>hx
 |x::xs,vs,hx=>by
  unfold Xd at hx;split at hx
  ·next v hv=>
   split at hx
   ·next us hus=>cases hx;exact Lx (Al h hv) (B4 h hus)
   ·cases hx
  ·cases hx
section
variable (E : Env)
def AtEx (KP:AV→Sl→St→Prop) (K:Sl→St→Prop) (ex:Ex) (l:Sl) (s:St):Prop:=match ex with
 | .normal=>K l s
 | .panic v=>KP v l s
 |_=>False
def VE (KP:AV→Sl→St→Prop) (all ops:List Oper) (fr:Fr) (l:Sl) (s:St) (K:Sl→St→Prop):Prop:=
 ∀T,Has l T→∃N ex l' T' s',AtEx KP K ex l' s'∧Has l' T'∧∀n,N≤n→(Zo E all ops).run (ev E n) fr T s= .one ⟨ex,fr,T',s'⟩
def Ch (c:Code) (fr:Fr) (l:Sl) (s:St) (Q:Ex→Fr→Sl→St→Prop):Prop:=
 ∀T,Has l T→∃N ex Xz l' T' s',Q ex Xz l' s'∧Has l' T'∧∀n,N≤n→(XC E c).run (ev E n) fr T s= .one ⟨ex,Xz,T',s'⟩
def Ws (o:Oper) (fr:Fr) (l:Sl) (s:St) (v:AV) (s':St):Prop:=∀T,Has l T→bY E o fr T s v s'
end
section
variable {E : Env} {fr : Fr} {l : Sl} {s : St} {all rest : List Oper} {o : Oper}
theorem V3 {KP:AV→Sl→St→Prop} {K:Sl→St→Prop} (h:K l s):VE E KP all [] fr l s K:=fun T hT=>⟨0,.normal,l,T,s,h,hT,fun _ _=>rfl⟩
theorem VE.op {KP:AV→Sl→St→Prop} {K:Sl→St→Prop} {v:AV} {s':St} {d:Nat} (ho:Ws E o fr l s v s') (hg:o.guard=none) (hd:o.dst=some d) (C6:Nat.blt d fr.nt=true) (h:VE E KP all rest fr ((d,v)::l) s' K):VE E KP all (o::rest) fr l s K:=by
 intro T hT;obtain⟨N,ho⟩:=ho T hT;obtain⟨M,ex,l',T',s2,hk,YP,hr⟩:=h _ (hT.put d v);refine⟨max N M,ex,l',T',s2,hk,YP,fun n hn=>?_⟩;show(YL E all o (Y5 o.dst (Zo E all rest))).run (ev E n) fr T s=_;unfold YL guarded;rw[hg];simp only;rw[ho n (by omega),D4 _ _ (by rw[hd];exact C6),hd];exact hr n (by omega)
theorem Ax {KP:AV→Sl→St→Prop} {K:Sl→St→Prop} {v:AV} {s':St} (ho:Ws E o fr l s v s') (hg:o.guard=none) (hd:o.dst=none) (h:VE E KP all rest fr l s' K):VE E KP all (o::rest) fr l s K:=by
 intro T hT;obtain⟨N,ho⟩:=ho T hT;obtain⟨M,ex,l',T',s2,hk,YP,hr⟩:=h _ hT;refine⟨max N M,ex,l',T',s2,hk,YP,fun n hn=>?_⟩;show(YL E all o (Y5 o.dst (Zo E all rest))).run (ev E n) fr T s=_;unfold YL guarded;rw[hg];simp only;rw[ho n (by omega),D4 _ _ (by rw[hd];rfl),hd];exact hr n (by omega)
theorem VE.go {KP:AV→Sl→St→Prop} {K:Sl→St→Prop} {v:AV} {s':St} {d j e:Nat} {w b:Bool} {oj:Oper} (hg:o.guard=some (j,w)) (hj:nth all j=some oj) (he:oj.dst=some e) (hl:look e l=some (.bool b)) (hb:b=w)
 (ho:Ws E o fr l s v s') (hd:o.dst=some d) (C6:Nat.blt d fr.nt=true) (h:VE E KP all rest fr ((d,v)::l) s' K):VE E KP all (o::rest) fr l s K:=by
 intro T hT;obtain⟨N,ho⟩:=ho T hT;obtain⟨M,ex,l',T',s2,hk,YP,hr⟩:=h _ (hT.put d v);refine⟨max N M,ex,l',T',s2,hk,YP,fun n hn=>?_⟩;show(YL E all o (Y5 o.dst (Zo E all rest))).run (ev E n) fr T s=_;unfold YL guarded;rw[hg];simp only;rw[Gu (g:=(j,w)) hj he (hT e _ hl)];have:(bif w then b else !b)=true:=by rw[hb];cases w<;>rfl
 rw[this];simp only[aT,cond_true];rw[ho n (by omega),D4 _ _ (by rw[hd];exact C6),hd];exact hr n (by omega)
theorem V1 {KP:AV→Sl→St→Prop} {K:Sl→St→Prop} {d j e:Nat} {w b:Bool} {oj:Oper} (hg:o.guard=some (j,w)) (hj:nth all j=some oj) (he:oj.dst=some e) (hl:look e l=some (.bool b)) (hb:b= !w)
 (hd:o.dst=some d) (C6:Nat.blt d fr.nt=true) (h:VE E KP all rest fr ((d,.tuple [])::l) s K):VE E KP all (o::rest) fr l s K:=by
 intro T hT;obtain⟨M,ex,l',T',s2,hk,YP,hr⟩:=h _ (hT.put d (.tuple []));refine⟨M,ex,l',T',s2,hk,YP,fun n hn=>?_⟩;show(YL E all o (Y5 o.dst (Zo E all rest))).run (ev E n) fr T s=_;unfold YL guarded;rw[hg];simp only;rw[Gu (g:=(j,w)) hj he (hT e _ hl)];have:(bif w then b else !b)=false:=by rw[hb];cases w<;>rfl
 rw[this];simp only[aT,cond_false];rw[D4 _ _ (by rw[hd];exact C6),hd];exact hr n hn
variable {Q : Ex → Fr → Sl → St → Prop}
theorem Ch.sub {c:Code} {l':Sl} (h:Ch E c fr l' s Q) (hs:∀p∈l',look p.1 l=some p.2):Ch E c fr l s Q:=fun T hT=>h T (hT.sub hs)
theorem Ai {k:Nat} {ops:Array Oper} (h:VE E (fun v l s=>Q (.panic v) fr l s) ops.toList ops.toList fr l s (Q .normal fr)):Ch E (.region k ops false) fr l s Q:=fun T hT=>
 let⟨N,ex,l',T',s',h1,h2,h3⟩:=h T hT;⟨N,ex,fr,l',T',s',(match ex,h1 with
  | .normal,h1=>h1
  | .panic _,h1=>h1),h2,h3⟩
abbrev s9 (E:Env) (b:Code) (Q:Ex→Fr→Sl→St→Prop) (ex:Ex) (fr:Fr) (l:Sl) (s:St):Prop:=match ex with
 | .normal=>Ch E b fr l s Q
 |ex=>Q ex fr l s
theorem Aa {a b:Code} (h:Ch E a fr l s (s9 E b Q)):Ch E (.seq a b) fr l s Q:=by
 intro T hT;obtain⟨N,ex,Xz,l',T',s',hq,YP,hr⟩:=h T hT;unfold s9 at hq;cases ex with
 |normal=>
  obtain⟨M,sI,cP,l2,T2,s2,jg,wv,n8⟩:=hq T' YP;refine⟨max N M,sI,cP,l2,T2,s2,jg,wv,fun n hn=>?_⟩;show(Out.then ((XC E a).run (ev E n) fr T s) (jn ((XC E b).run (ev E n))))=_;rw[hr n (by omega)];exact n8 n (by omega)
 |_=>
  refine⟨N,_,Xz,l',T',s',hq,YP,fun n hn=>?_⟩;show(Out.then ((XC E a).run (ev E n) fr T s) (jn ((XC E b).run (ev E n))))=_;rw[hr n hn];rfl
theorem Qq {k:Nat} {ops:Array Oper} {b:Code} (h:VE E (fun v l s=>Q (.panic v) fr l s) ops.toList ops.toList fr l s fun l s=>Ch E b fr l s Q):Ch E (.seq (.region k ops false) b) fr l s Q:=Aa (Ai h)
theorem KT {x:Operand} {a b:Code} {t:Bool} (hx:Ce x l=some (.bool t)) (h1:t=true→Ch E a fr l s Q) (h0:t=false→Ch E b fr l s Q):Ch E (.cond x a b) fr l s Q:=by
 intro T hT;cases t with
 |true=>
  obtain⟨N,ex,Xz,l',T',s',hq,YP,hr⟩:=h1 rfl T hT;refine⟨N,ex,Xz,l',T',s',hq,YP,fun n hn=>?_⟩;show dr ((XC E a).run (ev E n)) ((XC E b).run (ev E n)) fr T s (Cc E x T)=_;rw[Al hT hx];exact hr n hn
 |false=>
  obtain⟨N,ex,Xz,l',T',s',hq,YP,hr⟩:=h0 rfl T hT;refine⟨N,ex,Xz,l',T',s',hq,YP,fun n hn=>?_⟩;show dr ((XC E a).run (ev E n)) ((XC E b).run (ev E n)) fr T s (Cc E x T)=_;rw[Al hT hx];exact hr n hn
abbrev sJ (id:Nat) (Q:Ex→Fr→Sl→St→Prop) (ex:Ex) (fr:Fr) (l:Sl) (s:St):Prop:=match ex with
 | .exit i=>bif Nat.beq i id then Q .normal fr l s else Q (.exit i) fr l s
 |ex=>Q ex fr l s
theorem Ch.block {id:Nat} {b:Code} (h:Ch E b fr l s (sJ id Q)):Ch E (.block id b) fr l s Q:=by
 intro T hT;obtain⟨N,ex,Xz,l',T',s',hq,YP,hr⟩:=h T hT;unfold sJ at hq;cases ex with
 |exit i=>
  simp only at hq;cases hb:Nat.beq i id with
  |true=>
   rw[hb]at hq;refine⟨N,.normal,Xz,l',T',s',hq,YP,fun n hn=>?_⟩;show(Out.then ((XC E b).run (ev E n) fr T s) (cL id))=_;rw[hr n hn];simp only[Out.then,cL,hb,cond_true]
  |false=>
   rw[hb]at hq;refine⟨N,.exit i,Xz,l',T',s',hq,YP,fun n hn=>?_⟩;show(Out.then ((XC E b).run (ev E n) fr T s) (cL id))=_;rw[hr n hn];simp only[Out.then,cL,hb,cond_false]
 |_=>
  refine⟨N,_,Xz,l',T',s',hq,YP,fun n hn=>?_⟩;show(Out.then ((XC E b).run (ev E n) fr T s) (cL id))=_;rw[hr n hn];rfl
theorem Ac (h:Q .normal fr l s):Ch E .skip fr l s Q:=fun T hT=>⟨0,_,fr,l,T,s,h,hT,fun _ _=>rfl⟩
theorem A1 {id:Nat} (h:Q (.exit id) fr l s):Ch E (.exit id) fr l s Q:=fun T hT=>⟨0,_,fr,l,T,s,h,hT,fun _ _=>rfl⟩
theorem Ab (h:Q .ret fr l s):Ch E .ret fr l s Q:=fun T hT=>⟨0,_,fr,l,T,s,h,hT,fun _ _=>rfl⟩
theorem Dw {b:Code} (h:Ch E b fr l s (s9 E (.loop b) Q)):Ch E (.loop b) fr l s Q:=by
 intro T hT;obtain⟨N,ex,Xz,l',T',s',hq,YP,hr⟩:=h T hT;unfold s9 at hq;cases ex with
 |normal=>
  obtain⟨M,sI,cP,l2,T2,s2,jg,wv,n8⟩:=hq T' YP;refine⟨max N (M+1),sI,cP,l2,T2,s2,jg,wv,fun n hn=>?_⟩;obtain⟨m,rfl⟩:∃m,n=m+1:=⟨n-1,by omega⟩
  show(Out.then ((XC E b).run (ev E (m+1)) fr T s) (jn (ev E (m+1) (.loop b))))=_;rw[hr (m+1) (by omega)];exact n8 m (by omega)
 |_=>
  refine⟨N,_,Xz,l',T',s',hq,YP,fun n hn=>?_⟩;show(Out.then ((XC E b).run (ev E n) fr T s) (jn (ev E n (.loop b))))=_;rw[hr n hn];rfl
theorem Ch.mono {c:Code} {Q':Ex→Fr→Sl→St→Prop} (h:Ch E c fr l s Q) (hq:∀ex fr l s,Q ex fr l s→Q' ex fr l s):Ch E c fr l s Q':=fun T hT=>
 let⟨N,ex,Xz,l',T',s',h1,h2,h3⟩:=h T hT;⟨N,ex,Xz,l',T',s',hq _ _ _ _ h1,h2,h3⟩
def Wj (E:Env) (o:Oper) (l:Sl) (v:AV):Prop:=
 WH (Xg E o.type o.op)=true∧∀T,Has l T→Wh (Xg E o.type o.op) T= .nothing∧∀(ev:Ev) (fr:Fr) (s:St) (k:mT),(WW E (Xg E o.type o.op) k).run ev fr T s=k.run ev fr T v s
theorem Ws.q {v:AV} (h:Wj E o l v):Ws E o fr l s v s:=fun T hT=>⟨0,fun n _ k=>(h.2 T hT).2 (ev E n) fr s k⟩
theorem AJ {f:Tr AV→Option AV} {v:AV} (XX:Xg E o.type o.op= .pure f) (hv:∀T,Has l T→f T=some v):Wj E o l v:=by
 refine⟨by rw[XX];rfl,fun T hT=>⟨by rw[XX];rfl,fun ev fr s k=>?_⟩⟩;rw[XX];show Xh (fun v=>k.run ev fr T v s) (f T)=_;rw[hv T hT];rfl
theorem Ru {x:Tr AV→Option AV} {f:Tr AV→St→Option AV} {v:AV} (XX:Xg E o.type o.op= .read x f) (hx:∀T,Has l T→Z5 (x T)=none) (hv:∀T s,Has l T→f T s=some v):Wj E o l v:=by
 refine⟨by rw[XX];rfl,fun T hT=>⟨by rw[XX];show ef (Z5 (x T))=_;rw[hx T hT];rfl,fun ev fr s k=>?_⟩⟩;rw[XX];show Xh (fun v=>k.run ev fr T v s) (f T s)=_;rw[hv T s hT];rfl
theorem Rw {x:Operand} {v:AV} (ho:o.op= .move x) (hx:Ce x l=some v):Wj E o l v:=AJ (f:=Cc E x) (by rw[ho];rfl) fun _ hT=>Al hT hx
theorem Wj.assign {x:Operand} {v:AV} (ho:o.op= .assign x) (hx:Ce x l=some v):Wj E o l v:=AJ (f:=Cc E x) (by rw[ho];rfl) fun _ hT=>Al hT hx
theorem V5 {c x y:Operand} {v:AV} {b:Bool} (ho:o.op= .pick c x y) (hc:Ce c l=some (.bool b)) (hb:b=true) (hx:Ce x l=some v):Wj E o l v:=
 AJ (f:=fun T=>(Cc E c T).bind (iE (Cc E x) (Cc E y) T)) (by rw[ho];rfl) fun _ hT=>by subst hb;simp only[Al hT hc,Qe,iE,cond_true,Al hT hx]
theorem V6 {c x y:Operand} {v:AV} {b:Bool} (ho:o.op= .pick c x y) (hc:Ce c l=some (.bool b)) (hb:b=false) (hy:Ce y l=some v):Wj E o l v:=
 AJ (f:=fun T=>(Cc E c T).bind (iE (Cc E x) (Cc E y) T)) (by rw[ho];rfl) fun _ hT=>by subst hb;simp only[Al hT hc,Qe,iE,cond_false,Al hT hy]
theorem Wj.not {t:TypeId} {x:Operand} {b:Bool} (ho:o.op= .unOp .not t x) (hx:Ce x l=some (.bool b)):Wj E o l (.bool (!b)):=
 AJ (f:=fun T=>(Cc E x T).bind (qk .not)) (by rw[ho];rfl) fun _ hT=>by simp only[Al hT hx,Qe,qk]
theorem DY {op:BinOp} {t yt:TypeId} {x y:Operand} {k:IntKind} {a b:Int} {v:AV} {f:IntKind→Int→Int→Option AV} (ho:o.op= .binOp op t x y yt) (hu:C7 E t=some (.int k)) (hf:lS op=some f)
 (hx:Ce x l=some (.int k a)) (hy:Ce y l=some (.int k b)) (hv:f k a b=some v):Wj E o l v:=
 AJ (f:=fun T=>(Cc E x T).bind fun a=>(Cc E y T).bind fun b=>Am.lU f a b) (by rw[ho];exact s8 hu hf) fun _ hT=>by simp only[Al hT hx,Al hT hy,Qe,Am.lU,if_true,hv]
theorem Wj.add {t yt:TypeId} {x y:Operand} {a b:Int} (ho:o.op= .binOp .add t x y yt) (hu:C7 E t=some (.int .i64)) (hx:Ce x l=some (.int .i64 a)) (hy:Ce y l=some (.int .i64 b))
 (h: -9223372036854775808≤a+b∧a+b<9223372036854775808):Wj E o l (.int .i64 (a+b)):=DY ho hu rfl hx hy (by rw[GL h.1 h.2])
theorem Ap {t yt:TypeId} {x y:Operand} {a b:Nat} (ho:o.op= .binOp .add t x y yt) (hu:C7 E t=some (.int .i64)) (hx:Ce x l=some (.int .i64 (a:Nat))) (hy:Ce y l=some (.int .i64 (b:Nat)))
 (h:a+b<9223372036854775808):Wj E o l (.int .i64 ((a+b:Nat):Int)):=Wj.add ho hu hx hy (by omega)
theorem Bd {op:BinOp} {t yt:TypeId} {x y:Operand} {a b:List UInt8} {v:AV} {f:List UInt8→List UInt8→Option AV} (ho:o.op= .binOp op t x y yt) (hu:C7 E t=some .string) (hf:qh op=some f)
 (hx:Ce x l=some (.str a)) (hy:Ce y l=some (.str b)) (hv:f a b=some v):Wj E o l v:=
 AJ (f:=fun T=>(Cc E x T).bind fun a=>(Cc E y T).bind fun b=>Am.nh f a b) (by
  rw[ho];show eL E op t x y=_;unfold eL;rw[hu];simp only[hf];rfl) fun _ hT=>by simp only[Al hT hx,Al hT hy,Qe,Am.nh,hv]
theorem AD {c:Call} {t:TypeId} {ts:List TypeId} {x:Operand} {w:List UInt8} (ho:o.op= .call c) (hc:c.callee= .builtin .len) (ht:c.argTypes.toList=t::ts) (ha:c.args.toList=[x]) (hu:C7 E t=some .string)
 (hx:Ce x l=some (.str w)):Wj E o l (.int .i64 (w.length:Nat)):=
 AJ (f:=fun T=>(Cc E x T).bind Am.kC) (by
  rw[ho];show VV E o.type c=_;unfold VV;rw[hc];simp only;rw[ht,ha];show fN E t x=_;unfold fN;rw[hu]) fun _ hT=>by simp only[Al hT hx,Qe,Am.kC,D1]
theorem V9 {c:Call} {t e:TypeId} {ts:List TypeId} {x:Operand} {cs:List AV} {n sz:Nat} {cl:Bool} (ho:o.op= .call c) (hc:c.callee= .builtin .len) (ht:c.argTypes.toList=t::ts) (ha:c.args.toList=[x]) (hu:C7 E t=some (.slice e))
 (hx:Ce x l=some (.Cd cs n sz cl)):Wj E o l (.int .i64 (n:Nat)):=
 AJ (f:=fun T=>(Cc E x T).bind Am.ao) (by
  rw[ho];show VV E o.type c=_;unfold VV;rw[hc];simp only;rw[ht,ha];show fN E t x=_;unfold fN;rw[hu]) fun _ hT=>by simp only[Al hT hx,Qe,Am.ao]
theorem OE {t:TypeId} {x i:Operand} {w:List UInt8} {k:IntKind} {n:Nat} {b:UInt8} (ho:o.op= .index t x i) (hu:C7 E t=some .string) (hx:Ce x l=some (.str w)) (hi:Ce i l=some (.int k (n:Nat)))
 (hb:w[n]?=some b):Wj E o l (.int .u8 b.toNat):=
 AJ (f:=fun T=>(Cc E i T).bind fun iv=>(VW iv).bind fun k=>(Cc E x T).bind (eJ k)) (by
  rw[ho];show dY E t x i=_;unfold dY;rw[hu]) fun _ hT=>by
  have hn:nth w n=some b:=by rw[EP];exact hb
  have hk:VW (.int k (n:Nat))=some n:=rfl;simp only[Al hT hx,Al hT hi,Qe,hk,eJ,hn]
theorem AU {t:TypeId} {x i:Operand} {w:List UInt8} {k:IntKind} {n:Nat} (ho:o.op= .index t x i) (hu:C7 E t=some .string) (hx:Ce x l=some (.str w)) (hi:Ce i l=some (.int k (n:Nat)))
 (hn:n<w.length):Wj E o l (.int .u8 (w.getD n 0).toNat):=OE ho hu hx hi (by rw[List.getD,Qi hn];rfl)
noncomputable def er:Option Operand→Sl→Option (Option AV)
 |none,_=>some none
 |some x,l=>(Ce x l).bind fun v=>some (some v)
theorem FA {T:Tr AV} (hT:Has l T) {x:Option Operand} {v:Option AV} (h:er x l=some v):WI E x T=some v:=by
 cases x with
 |none=>exact h
 |some x=>
  obtain⟨u,hu,h2⟩:=Qa.1 h;cases h2;exact Ly (Al hT hu)
theorem DM {t:TypeId} {x:Operand} {lo hi:Option Operand} {w:List UInt8} {yW yX:Option AV} {a h:Nat} (ho:o.op= .slice t x lo hi none) (hu:C7 E t=some .string) (hx:Ce x l=some (.str w))
 (ji:er lo l=some yW) (hZ:er hi l=some yX) (hh:CM w.length w.length yX=some h) (ha:CM 0 h yW=some a) (hah:a≤h∧h≤w.length):Wj E o l (.str ((w.drop a).take (h-a))):=
 AJ (f:=fun T=>(Cc E x T).bind fun a=>(WI E lo T).bind fun l=>(WI E hi T).bind fun h=>aK l h a) (by
  rw[ho];show bo E t x lo hi none=_;unfold bo;rw[hu]) fun _ hT=>by
  simp only[Al hT hx,FA hT ji,FA hT hZ,Qe,aK,D1,hh,ha];rw[Hu (by omega)];rfl
theorem Wj.extract {x:Operand} {i:Nat} {vs:List AV} {v:AV} (ho:o.op= .extract x i) (hx:Ce x l=some (.tuple vs)) (hv:nth vs i=some v):Wj E o l v:=
 AJ (f:=fun T=>(Cc E x T).bind (aP i)) (by rw[ho];rfl) fun _ hT=>by simp only[Al hT hx,Qe,aP,hv]
theorem Ad {c:Call} {f:FuncId} {args:List AV} {v:AV} (ho:o.op= .call c) (hc:c.callee= .value (.func f)) (hb:CI E f=true) (ha:Xd c.args.toList l=some args) (h:Cb E f args s v):Ws E o fr l s v s:=
 fun _ hT=>PU ho hc hb (B4 hT ha) h
theorem Gn {c:Call} {t:Nat} {f:FuncId} {first captured args:List AV} {v:AV} (ho:o.op= .call c) (hc:c.callee= .value (.tmp t)) (hf:look t l=some (.func (.func f) first captured)) (hb:CI E f=true)
 (ha:Xd c.args.toList l=some args) (h:Cb E f (first++args++captured) s v):Ws E o fr l s v s:=fun _ hT=>OC ho hc (hT t _ hf) hb (B4 hT ha) h
theorem FP {KP:AV→Sl→St→Prop} {K:Sl→St→Prop} {d j e:Nat} {w:Bool} {oj:Oper} (hg:o.guard=some (j,w)) (hj:nth all j=some oj) (he:oj.dst=some e) (hl:look e l=some (.tuple []))
 (hd:o.dst=some d) (C6:Nat.blt d fr.nt=true) (h:VE E KP all rest fr ((d,.tuple [])::l) s K):VE E KP all (o::rest) fr l s K:=by
 intro T hT;obtain⟨M,ex,l',T',s2,hk,YP,hr⟩:=h _ (hT.put d (.tuple []));refine⟨M,ex,l',T',s2,hk,YP,fun n hn=>?_⟩;show(YL E all o (Y5 o.dst (Zo E all rest))).run (ev E n) fr T s=_;unfold YL guarded;rw[hg];simp only;have:W4 all (j,w) T=some false:=by
  unfold W4 ZN;simp only[hj,Qe,he];show bt w (T.get e)=_;rw[hT e _ hl];rfl
 rw[this];simp only[aT,cond_false];rw[D4 _ _ (by rw[hd];exact C6),hd];exact hr n hn
theorem V4 {KP:AV→Sl→St→Prop} {K:Sl→St→Prop} {j e:Nat} {w b:Bool} {oj:Oper} (_hg:o.guard=some (j,w)) (_hj:nth all j=some oj) (_he:oj.dst=some e) (_hl:look e l=some (.bool b))
 (h1:b=true→VE E KP all (o::rest) fr l s K) (h0:b=false→VE E KP all (o::rest) fr l s K):VE E KP all (o::rest) fr l s K:=by
 cases hb:b with
 |true=>exact h1 hb
 |false=>exact h0 hb
theorem Aw {α:Type} {b:Code} (I:α→Sl×St) (μ:α→Nat) (G:α→Prop) (a0:α) (hG:G a0) (hs:s=(I a0).2) (hl:∀p∈(I a0).1,look p.1 l=some p.2)
 (step:∀a,G a→Ch E b fr (I a).1 (I a).2 fun ex Xz l' s'=>match ex with
  | .normal=>∃a',G a'∧μ a'<μ a∧Xz=fr∧s'=(I a').2∧∀p∈(I a').1,look p.1 l'=some p.2
  |ex=>Q ex Xz l' s'):Ch E (.loop b) fr l s Q:=by
 have key:∀m a,μ a≤m→G a→∀l',(∀p∈(I a).1,look p.1 l'=some p.2)→Ch E (.loop b) fr l' (I a).2 Q:=by
  intro m;induction m with
  |zero=>
   intro a hm hg l' gK;refine Ch.sub (Dw (Ch.mono (step a hg) fun ex cP l2 s2 h=>?_)) gK;cases ex with
   |normal=>obtain⟨a',_,C6,_⟩:=h;omega
   |_=>exact h
  |succ m ih=>
   intro a hm hg l' gK;refine Ch.sub (Dw (Ch.mono (step a hg) fun ex cP l2 s2 h=>?_)) gK;cases ex with
   |normal=>
    obtain⟨a',hU,C6,rfl,rfl,aZ⟩:=h;exact ih a' (by omega) hU l2 aZ
   |_=>exact h
 subst hs;exact key _ a0 (Qj _) hG l hl
def ZU:Nat→List AV→Sl→Sl
 |_,[],l=>l
 |i,v::vs,l=>ZU (i+1) vs ((i,v)::l)
theorem E2:∀(vs:List AV) (i:Nat) {l:Sl} {T:Tr AV},Has l T→Has (ZU i vs l) (XV i vs T)
 | [],_,_,_,h=>h
 |v::vs,i,_,_,h=>E2 vs (i+1) (h.put i v)
noncomputable def dB:List dX→St→Option St
 | [],s=>some s
 |d::ds,s=>match d.target with
  | .collected r=>match s.heap.get r with
   |some (.defs true)=>dB ds (s.put r (some (.defs false)))
   |_=>none
  |_=>none
theorem GM {ev:Ev}:∀ {ds:List dX} {s s':St},dB ds s=some s'→unwind E ev ds none s=some (none,s')
 | [],s,s',h=>by cases h;rfl
 |d::ds,s,s',h=>by
  obtain⟨t,as⟩:=d;unfold dB at h;cases t with
  |fn f c=>cases h
  |collected r=>
   simp only at h;split at h
   ·next hg=>
    unfold unwind fe;simp only[hg,Qe];exact GM h
   ·cases h
noncomputable def CT (E:Env) (s:St) (l:Sl):List ResultVar→Option (List AV)
 | []=>some []
 | .tmp t::rs=>(look t l).bind fun v=>(CT E s l rs).bind fun r=>some (v::r)
 | .cell a t::rs=>(look a l).bind fun p=>(Wu E t s p).bind fun v=>(CT E s l rs).bind fun r=>some (v::r)
theorem DC {T:Tr AV} (hT:Has l T):∀ {rs:List ResultVar} {vs:List AV},CT E s l rs=some vs→XL E s T rs=some vs
 | [],vs,h=>h
 | .tmp t::rs,vs,h=>by
  obtain⟨v,hv,h⟩:=Qa.1 h;obtain⟨r,hr,h⟩:=Qa.1 h;cases h;simp only[XL,hT t v hv,DC hT hr,Qe]
 | .cell a t::rs,vs,h=>by
  obtain⟨p,hp,h⟩:=Qa.1 h;obtain⟨v,hv,h⟩:=Qa.1 h;obtain⟨r,hr,h⟩:=Qa.1 h;cases h;simp only[XL,hT a p hp,hv,DC hT hr,Qe]
def EndL (E:Env) (f:FuncId) (rs:List ResultVar) (s:St) (v:AV) (ex:Ex) (fr:Fr) (l:Sl) (st:St):Prop:=
 (ex= .ret∨ex= .normal)∧∃Zw,dB fr.defers st=some Zw∧∃vs,CT E Zw l rs=some vs∧leave E f s (ZM vs) Zw=some (.same v)
theorem LV {f:FuncId} {fn:Func} {c:Code} {args:List AV} {v:AV} {rs:List ResultVar} {fr:Fr} {l0:Sl} (hm:E.Cs f args=none) (hf:E.fns.get f=some fn) (hc:fn.body=some c) (hr:fn.results.toList=rs)
 (bO:frame fn.ntmps args none=fr) (hl:ZU 0 args []=l0) (h:Ch E c fr l0 s.enter (EndL E f rs s v)):Cb E f args s v:=by
 subst bO hl hr;obtain⟨N,ex,Xz,l',T',s',⟨hex,Zw,hu,vs,Wk,hlv⟩,YP,b9⟩:=h _ (E2 args 0 (Has.nil .nil));refine⟨N+1,fun n hn=>?_⟩;obtain⟨m,rfl⟩:∃m,n=m+1:=⟨n-1,by omega⟩
 unfold We;rw[hm];simp only[hf,hc,Qe];rw[H6,b9 m (by omega)];show YY E (ev E (m+1)) f fn s ⟨ex,Xz,T',s'⟩=_;unfold YY;have fC:cD ex=some none:=by rcases hex with h|h<;>rw[h]<;>rfl
 simp only[fC,Qe,GM hu,endWith,DC YP Wk,hlv]
end
section
variable {E : Env} {fr : Fr} {l : Sl} {s : St} {o : Oper}
theorem Ws.alloc {t:TypeId} {z:AV} (ho:o.op= .alloc t) (hz:zeroOf E t=some z):Ws E o fr l s (.ptr s.next 0) (s.alloc (.cells z.cells t false)):=fun T hT=>
 FQ (f:=fun _=>some (.obj (.cells z.cells t false) fun b=> .ptr b 0)) (by
  rw[ho];show iF E t=_;unfold iF;rw[hz];simp only[Et hz,cond_false]) rfl
theorem PY {t:TypeId} {x:Operand} {v:AV} (ho:o.op= .box t x) (hx:Ce x l=some v) (hv:v.isTuple=false):Ws E o fr l s (.ptr s.next 0) (s.alloc (.cells v.cells t false)):=fun T hT=>
 FQ (f:=fun T=>(Cc E x T).bind fun v=>bif v.isTuple then none else some (.obj (.cells v.cells t false) fun b=> .ptr b 0)) (g:=fun b=> .ptr b 0) (by rw[ho];rfl) (by
  simp only[Al hT hx,Qe,hv,cond_false])
theorem AB {n b off:Nat} {v:AV} {cs XS:List AV} {e:TypeId} {part:Bool} (hg:s.heap.get b=some (.cells cs e part)) (hl:v.cells.length=n) (ht:v.isTuple=false) (ho:over v.cells off cs=some XS):
 cn n s v (.ptr b off)=some (s.put b (some (.cells XS e part))):=by
 have h1:Nat.beq (W6 v.cells) n=true:=by rw[D1,hl];exact Nat.beq_refl n
 simp only[cn,h1,ht,Bool.not_false,Bool.and_true,cond_true,Z3,hg,cZ,ho,eH]
theorem Ws.store {t:TypeId} {a x:Operand} {n:Nat} {p v:AV} {s':St} (ho:o.op= .store t a x) (hn:sizeOf E t=some n) (ha:Ce a l=some p) (hx:Ce x l=some v) (hs:cn n s v p=some s'):Ws E o fr l s (.tuple []) s':=fun T hT=>
 Hj (b:=true) (x:=Cc E a) (f:=fun T s=>(Cc E a T).bind fun p=>(Cc E x T).bind fun v=>ai (cn n s v p)) (by
  rw[ho];show ee E t a x=_;unfold ee;rw[hn]) (by simp only[Al hT ha,Al hT hx,Qe,hs,ai])
theorem Aj {t:TypeId} {n b off:Nat} {v:AV} {cs:List AV} {e:TypeId} {part:Bool} (h1:isAgg E t=some false) (h2:sizeOf E t=some n) (hg:s.heap.get b=some (.cells cs e part)) (hv:cs[off]?=some v):
 Wu E t s (.ptr b off)=some v:=by
 have C6:off<cs.length:=by
  rcases Nat.lt_or_ge off cs.length with h|h
  ·exact h
  ·rw[List.getElem?_eq_none h]at hv;cases hv
 have hc:=Hu (l:=cs) (a:=off) (n:=1) (by omega);unfold cut at hc;unfold Wu;rw[h1,h2];simp only[kt,Yk,hg,VZ,Qe];rw[hc];have:(cs.drop off).take 1=[v]:=by
  rw[List.drop_eq_getElem_cons C6];rw[Qi C6]at hv;cases hv;rfl
 rw[this];rfl
theorem Eh {t:TypeId} {n b off:Nat} {cs:List AV} {e:TypeId} {part:Bool} (h1:isAgg E t=some true) (h2:sizeOf E t=some n) (hg:s.heap.get b=some (.cells cs e part)) (hn:off+n≤cs.length):
 Wu E t s (.ptr b off)=some (.agg ((cs.drop off).take n)):=by
 have hc:=Hu (l:=cs) (a:=off) (n:=n) hn;unfold cut at hc;unfold Wu;rw[h1,h2];simp only[gW,Yk,hg,VZ,Qe];rw[hc];rfl
theorem A2 {t:TypeId} {a:Operand} {p v:AV} (ho:o.op= .load t a) (ha:Ce a l=some p) (hv:Wu E t s p=some v):Ws E o fr l s v s:=fun T hT=>
 GI (x:=Cc E a) (f:=fun T s=>(Cc E a T).bind (Wu E t s)) (by rw[ho];rfl) (by simp only[Al hT ha,Qe,hv])
theorem AP {t:TypeId} {a:Operand} {n:Nat} {cs:List AV} (ho:o.op= .load t a) (ha:Ce a l=some (.WO cs)) (h1:isAgg E t=some true) (h2:sizeOf E t=some n) (hn:n≤cs.length):Wj E o l (.agg (cs.take n)):=
 Ru (x:=Cc E a) (f:=fun T s=>(Cc E a T).bind (Wu E t s)) (by rw[ho];rfl) (fun T hT=>by rw[Al hT ha];rfl) fun T s hT=>by
  have hc:=Hu (l:=cs) (a:=0) (n:=n) (by omega);unfold cut at hc;have h0:WM 0 cs=some cs:=rfl;rw[h0]at hc;simp only[Al hT ha,Qe];unfold Wu;rw[h1,h2];simp only[gW,Yk];simp only[Qe]at hc;rw[hc];rfl
theorem Av {t:TypeId} {a:Operand} {n:Nat} {v:AV} {cs:List AV} (ho:o.op= .load t a) (ha:Ce a l=some (.WO (v::cs))) (h1:isAgg E t=some false) (h2:sizeOf E t=some n):Wj E o l v:=
 Ru (x:=Cc E a) (f:=fun T s=>(Cc E a T).bind (Wu E t s)) (by rw[ho];rfl) (fun T hT=>by rw[Al hT ha];rfl) fun T s hT=>by
  simp only[Al hT ha,Qe];unfold Wu;rw[h1,h2];rfl
theorem MW {t:TypeId} {x:Operand} {i off n:Nat} {agg:Bool} {b k:Nat} (ho:o.op= .fieldAddr t x i) (hf:Cf E t i=some (off,n+1,agg)) (hx:Ce x l=some (.ptr b k)):Wj E o l (.ptr b (k+off)):=
 AJ (f:=fun T=>(Cc E x T).bind (XE off)) (by
  rw[ho];show Yv E t x i=_;unfold Yv;rw[hf]) fun T hT=>by simp only[Al hT hx,Qe,XE]
theorem Di {t e:TypeId} {x i:Operand} {sz len k:Nat} {ik:IntKind} {cs:List AV} {cl:Bool} (ho:o.op= .indexAddr t x i) (hu:C7 E t=some (.slice e)) (hs:sizeOf E e=some (sz+1)) (hx:Ce x l=some (.Cd cs len (sz+1) cl))
 (hi:Ce i l=some (.int ik (k:Nat))) (hk:k<len) (hl:cs.length=len*(sz+1)):Wj E o l (.WO (cs.drop (k*(sz+1)))):=
 AJ (f:=fun T=>(Cc E i T).bind fun iv=>(VW iv).bind fun k=>(Cc E x T).bind (CQ (sz+1) k)) (by
  rw[ho];show Wy E t x i=_;unfold Wy;rw[hu];simp only[hs]) fun T hT=>by
  have h1:VW (.int ik (k:Nat))=some k:=rfl;have h2:Nat.blt k len=true:=by simpa[Nat.blt_eq]using hk
  have hle:k*(sz+1)<cs.length:=by rw[hl];exact Nat.mul_lt_mul_of_pos_right hk (Nat.succ_pos sz)
  have h3:WM (k*(sz+1)) cs=some (cs.drop (k*(sz+1))):=by
   have hc:=Hu (l:=cs) (a:=k*(sz+1)) (n:=0) (by omega);unfold cut at hc;obtain⟨q,hq,h⟩:=Qa.1 hc;have:∀(n:Nat) (l:List AV) (q:List AV),WM n l=some q→q=l.drop n:=by
    intro n;induction n with
    |zero=>intro l q h;cases h;rfl
    |succ n ih=>
     intro l q h;cases l with
     |nil=>cases h
     |cons a l=>exact ih l q h
   rw[hq,this _ _ _ hq]
  have h4:j9 (cs.drop (k*(sz+1)))=some (.WO (cs.drop (k*(sz+1)))):=by
   rw[List.drop_eq_getElem_cons hle];rfl
  simp only[Al hT hx,Al hT hi,Qe,h1,CQ,h2,cond_true,h3,h4]
noncomputable def gm:List (Nat×Operand)→Sl→Option (List (Nat×AV))
 | [],_=>some []
 |p::ps,l=>(Ce p.2 l).bind fun v=>(gm ps l).bind fun r=>some ((p.1,v)::r)
theorem HR {T:Tr AV} (hT:Has l T):∀ {ps:List (Nat×Operand)} {r:List (Nat×AV)},gm ps l=some r→ZD E ps T=some r
 | [],r,h=>h
 |p::ps,r,h=>by
  obtain⟨v,hv,h⟩:=Qa.1 h;obtain⟨q,hq,h⟩:=Qa.1 h;cases h;simp only[ZD,Al hT hv,HR hT hq,Qe]
theorem Bj {t:TypeId} {parts:Array (Nat×Operand)} {pl:List AV×(Nat→Option (Nat×Nat))} {ps:List (Nat×AV)} {cs:List AV} (ho:o.op= .build t parts) (hp:Ct E t=some pl) (hq:gm parts.toList l=some ps)
 (hf:ZC pl.2 ps pl.1=some cs):Wj E o l (.agg cs):=
 AJ (f:=fun T=>(ZD E parts.toList T).bind fun ps=>qg (ZC pl.2 ps pl.1)) (by
  rw[ho];show ig E t parts.toList=_;unfold ig;rw[hp]) fun T hT=>by simp only[HR hT hq,Qe,hf,qg]
theorem Br {t e:TypeId} {len sz:Nat} {parts:Array (Nat×Operand)} {z:AV} {ps:List (Nat×AV)} {cs:List AV} (ho:o.op= .buildSlice t (len+1) parts) (hu:C7 E t=some (.slice e)) (hs:sizeOf E e=some sz) (hz:zeroOf E e=some z)
 (hk:(Nat.beq (W6 z.cells) sz&&Nat.ble ((len+1)*sz) 16777216&& !(Nat.beq sz 0))=true) (hq:gm parts.toList l=some ps) (hf:ZC (fun i=>some (i*sz,sz)) ps (WQ z.cells (len+1))=some cs):
 Ws E o fr l s (.slice s.next 0 (len+1) sz (some (len+1))) (s.alloc (.cells cs e false)):=fun T hT=>
 FQ (f:=fun T=>(ZD E parts.toList T).bind fun ps=>Zh e sz (len+1) (ZC (fun i=>some (i*sz,sz)) ps (WQ z.cells (len+1)))) (g:=fun b=> .slice b 0 (len+1) sz (some (len+1))) (by
  rw[ho];show XZ E t (len+1) parts.toList=_;unfold XZ;rw[hu];simp only[hs,hz,hk,cond_true]) (by
  simp only[HR hT hq,Qe,hf];rfl)
noncomputable def opndsL2 (xs:List Operand) (l:Sl):Option (List AV):=Xd xs l
theorem Bh {f:FuncId} {a b:Array Operand} {va vb:List AV} (ho:o.op= .makeFunc (.func f) a b) (ha:Xd a.toList l=some va) (hb:Xd b.toList l=some vb):Wj E o l (.func (.func f) va vb):=
 AJ (f:=fun T=>(CO E a.toList T).bind fun x=>(CO E b.toList T).bind fun y=>some (.func (.func f) x y)) (by rw[ho];rfl) fun T hT=>by simp only[B4 hT ha,B4 hT hb,Qe]
theorem Ws.append {c:Call} {t e:TypeId} {ts:List TypeId} {x y:Operand} {sz WJ n:Nat} {z a b v:AV} {new:List AV} {s':St} (ho:o.op= .call c) (hc:c.callee= .builtin .append) (ht:c.argTypes.toList=t::ts) (ha:c.args.toList=[x,y])
 (hu:C7 E t=some (.slice e)) (XA:sizeOf E e=some sz) (aW:bytesOf E e=some WJ) (hz:zeroOf E e=some z) (hk:(!(Nat.beq (W6 z.cells) sz)||Nat.beq sz 0|| !(ec E ts.head?))=false) (h0:XU E ts.head?=false)
 (hx:Ce x l=some a) (hy:Ce y l=some b) (hn:WG s sz b=some (new,n)) (hr:CA s e sz WJ new n a=some (v,s')):Ws E o fr l s v s':=fun T hT=>
 Hj (b:=false) (x:=Cc E x) (f:=fun T s=>(Cc E x T).bind fun a=>(Cc E y T).bind fun b=>(WG s sz b).bind fun p=>CA s e sz WJ p.1 p.2 a) (by
  rw[ho];show VV E o.type c=_;unfold VV;rw[hc];simp only;rw[ht,ha];show bp E t ts.head? x y=_;unfold bp;rw[hu];simp only[XA,aW,hz,hk,h0,cond_false]) (by simp only[Al hT hx,Al hT hy,Qe,hn,hr])
end
def VM (ts:List Nat) (l:Sl):Sl:=match ts with
 | []=>[]
 |t::ts=>match look t l with
  |some v=>(t,v)::VM ts l
  |none=>VM ts l
theorem I8 {l:Sl} {k:Nat} {v:AV}:∀ {ts:List Nat},look k (VM ts l)=some v→k∈ts∧look k l=some v
 | [],h=>by cases h
 |t::ts,h=>by
  unfold VM at h;cases hl:look t l with
  |none=>
   rw[hl]at h;have:=I8 (ts:=ts) h;exact⟨Qg _ this.1,this.2⟩
  |some u=>
   rw[hl]at h;simp only[look]at h;cases hb:Nat.beq k t with
   |true=>
    rw[hb]at h;have:=Qb hb;subst this;simp only[cond_true]at h;exact⟨Qh ..,by rw[hl];exact h⟩
   |false=>
    rw[hb]at h;have:=I8 (ts:=ts) h;exact⟨Qg _ this.1,this.2⟩
theorem Has.VM {l:Sl} {T:Tr AV} (h:Has l T) (ts:List Nat):Has (VM ts l) (Xb T ts .nil):=by
 intro k v hk;obtain⟨h1,h2⟩:=I8 hk;rw[F9,if_pos h1];exact h k v h2
section
variable (E : Env)
def RegD (all rest:List Oper) (i:Nat) (fr:Fr) (l:Sl) (st:St) (js:List Nat) (nw:Bool) (K:Sl→St→Prop):Prop:=
 ∀(T:Tr AV) (news:W8) (looked:Zp),Has l T→(nw=true→news=[])→(∀p∈looked,p.1∈js∨p.2.1= .nothing)→
  ∃N l' q',K l' q'.st∧Has l' q'.T∧∀n,N≤n→dq E all (ev E n) fr (XM E (VL all) rest i) ⟨T,st,news,looked⟩=some q'
def OpA (o:Oper) (fr:Fr) (l:Sl) (v:AV):Prop:=
 WH (Xg E o.type o.op)=true∧∀T,Has l T→∃N,∀n,N≤n→∀(s:St) (k:mT),(WW E (Xg E o.type o.op) k).run (ev E n) fr T s=k.run (ev E n) fr T v s
end
section
variable {E : Env} {fr : Fr} {l : Sl} {st : St} {o : Oper} {all rest : List Oper} {i : Nat} {js : List Nat} {nw : Bool} {K : Sl → St → Prop}
theorem AI {c:Call} {f:FuncId} {args:List AV} {v:AV} (ho:o.op= .call c) (hc:c.callee= .value (.func f)) (hb:CI E f=true) (ha:Xd c.args.toList l=some args) (hm:E.Cs f args=some v):OpA E o fr l v:=by
 have XX:Xg E o.type o.op= .call (fun T _=>(CO E c.args.toList T).bind fun args=>some (f,args)):=by
  rw[ho];show VV E o.type c=_;unfold VV;rw[hc];simp only[hb,cond_true]
 refine⟨by rw[XX];rfl,fun T hT=>⟨0,fun n _ s k=>?_⟩⟩;rw[XX];show Xy fr T s (k.run (ev E n) fr T) (((CO E c.args.toList T).bind fun args=>some (f,args)).bind fun p=>We E (ev E n) p.1 p.2 s)=_;rw[B4 hT ha];simp only[Qe];unfold We;rw[hm];rfl
theorem sK (n:Nat):Nat.ble n n=true:=Qd (Qj n)
noncomputable def St.merged (st s2:St):St:=
 {next:=s2.next,bound:=st.bound,log:=below st.bound s2.log st.log,heap:=W5 s2.heap (Yb st.next (s2.next-st.next)) (W5 s2.heap s2.log st.heap)}
variable {Q : Ex → Fr → Sl → St → Prop}
end
section
variable (E : Env)
def Wf (f:FuncId) (args:List AV) (s:St) (R:AV→St→Prop):Prop:=
 ∃N cr,(∀n,N≤n→We E (ev E n) f args s=some cr)∧match cr with
  | .same v=>R v s
  | .val v s'=>R v s'
  | .WD _ _=>False
end
section
variable {E : Env} {fr : Fr} {l : Sl} {s : St} {o : Oper} {all rest : List Oper} {K : Sl → St → Prop} {Q : Ex → Fr → Sl → St → Prop}
theorem Rt {KP:AV→Sl→St→Prop} {d:Nat} (h:∀T,Has l T→∃v s',bY E o fr T s v s'∧VE E KP all rest fr ((d,v)::l) s' K) (hg:o.guard=none) (hd:o.dst=some d) (C6:Nat.blt d fr.nt=true):VE E KP all (o::rest) fr l s K:=by
 intro T hT;obtain⟨v,s',⟨N,ho⟩,h⟩:=h T hT;obtain⟨M,ex,l',T',s2,hk,YP,hr⟩:=h _ (hT.put d v);refine⟨max N M,ex,l',T',s2,hk,YP,fun n hn=>?_⟩;show(YL E all o (Y5 o.dst (Zo E all rest))).run (ev E n) fr T s=_;unfold YL guarded;rw[hg];simp only;rw[ho n (by omega),D4 _ _ (by rw[hd];exact C6),hd];exact hr n (by omega)
theorem AQ {KP:AV→Sl→St→Prop} {c:Call} {f:FuncId} {args:List AV} {d:Nat} (ho:o.op= .call c) (hc:c.callee= .value (.func f)) (hb:CI E f=true) (ha:Xd c.args.toList l=some args) (hg:o.guard=none) (hd:o.dst=some d)
 (C6:Nat.blt d fr.nt=true) (h:Wf E f args s fun v s'=>VE E KP all rest fr ((d,v)::l) s' K):VE E KP all (o::rest) fr l s K:=by
 obtain⟨N,cr,hN,h⟩:=h;have XX:Xg E o.type o.op= .call (fun T _=>(CO E c.args.toList T).bind fun args=>some (f,args)):=by
  rw[ho];show VV E o.type c=_;unfold VV;rw[hc];simp only[hb,cond_true]
 have go:∀ {v:AV} {s':St},(∀(T:Tr AV) (k:AV→St→Out),Xy fr T s k (some cr)=k v s')→∀T,Has l T→bY E o fr T s v s':=by
  intro v s' pP T hT;refine⟨N,fun n hn k=>?_⟩;rw[XX];show Xy fr T s (k.run (ev E n) fr T) (((CO E c.args.toList T).bind fun args=>some (f,args)).bind fun p=>We E (ev E n) p.1 p.2 s)=_;rw[B4 hT ha];simp only[Qe];rw[hN n hn,pP]
 refine Rt (fun T hT=>?_) hg hd C6;cases cr with
 |same v=>exact⟨v,s,go (fun _ _=>rfl) T hT,h⟩
 |val v s'=>exact⟨v,s',go (fun _ _=>rfl) T hT,h⟩
 |WD v s'=>exact h.elim
def RoundQ (b:Nat) (k:Bool→St→Prop) (ex:Ex) (s:St) (lp:nW):Prop:=match ex with
 | .normal=>k true (s.put b (some (.loop {lp with state:= .ready,pending:=none})))
 | .ret=>k false (s.put b (some (.loop {lp with state:= .done,pending:=some .ret})))
 | .exit id=>k false (s.put b (some (.loop {lp with state:= .done,pending:=some (.exit id)})))
 | .panic _=>False
noncomputable def rangeSt (s:St) (nt:Nat) (T:Tr AV) (params:List Nat) (assign body:Code):St:=
 (s.alloc (.defs true)).alloc (.loop {state:= .ready,pending:=none,fn:=0,nt,tmps:=T,params,assign,body})
def RangeQ (b:Nat) (Q:Ex→St→Prop) (s:St):Prop:=∃lp,s.heap.get b=some (.loop lp)∧lp.state≠ .busy∧
 match lp.pending with
 |none=>Q .normal (s.put b (some (.loop {lp with state:= .exhausted})))
 |some .ret=>Q .ret (s.put b (some (.loop {lp with state:= .exhausted})))
 |some (.exit id)=>Q (.exit id) (s.put b (some (.loop {lp with state:= .exhausted})))
 |some _=>False
theorem Wf.unit {f:FuncId} {fn:Func} {c:Code} {args:List AV} {R:AV→St→Prop} {fr:Fr} {l0:Sl} (hm:E.Cs f args=none) (hf:E.fns.get f=some fn) (hc:fn.body=some c) (hr:fn.results.toList=[])
 (bO:frame fn.ntmps args none=fr) (hl:ZU 0 args []=l0) (h:Ch E c fr l0 s.enter fun ex fr _ st=>(ex= .ret∨ex= .normal)∧fr.defers=[]∧(st.log=[]→R (.tuple []) s)∧R (.tuple []) (s.back st)):Wf E f args s R:=by
 subst bO hl;obtain⟨N,ex,Xz,l',T',s',⟨hex,hd,hR0,hR1⟩,YP,b9⟩:=h _ (E2 args 0 (Has.nil .nil));have pX:frozen E f s (.tuple []) s'=some (.tuple [],s'):=by
  unfold frozen Wb;split
  ·rfl
  ·split<;>rfl
  ·rfl
 refine⟨N+1,Yx s (.tuple []) s' s'.log,fun n hn=>?_,?_⟩
 ·obtain⟨m,rfl⟩:∃m,n=m+1:=⟨n-1,by omega⟩
  unfold We;rw[hm];simp only[hf,hc,Qe];rw[H6,b9 m (by omega)];show YY E (ev E (m+1)) f fn s ⟨ex,Xz,T',s'⟩=_;unfold YY;have fC:cD ex=some none:=by rcases hex with h|h<;>rw[h]<;>rfl
  simp only[fC,Qe,hd,unwind,endWith,hr,XL];unfold leave;show(frozen E f s (.tuple []) s').bind _=_;rw[pX];rfl
 ·unfold Yx;cases Wm:s'.log with
  |nil=>exact hR0 Wm
  |cons a b=>exact hR1
end
section
variable {E : Env} {fr : Fr} {l : Sl} {st : St} {o : Oper} {all rest : List Oper} {i : Nat} {js : List Nat} {nw : Bool} {K : Sl → St → Prop}
def Wc (all:List Oper) (l:Sl) (o:Oper):Prop:=o.guard=none∨∃g,o.guard=some g∧∀T,Has l T→W4 all g T=some true
theorem Bl {j e:Nat} {w b:Bool} {oj:Oper} (hg:o.guard=some (j,w)) (hj:nth all j=some oj) (he:oj.dst=some e) (hl:look e l=some (.bool b)) (hb:b=w):Wc all l o:=
 .inr ⟨_,hg,fun T hT=>by rw[Gu (g:=(j,w)) hj he (hT e _ hl),hb];cases w<;>rfl⟩
def yY (E:Env) (o:Oper) (fr:Fr) (T:Tr AV) (v:AV) (s:St):Prop:=∃N,∀n,N≤n→(WW E (Xg E o.type o.op) K0).run (ev E n) fr T s= .one ⟨.normal,fr,ZO v,s⟩
theorem Jv {v:AV} {s:St} {T:Tr AV} (h:∃N,∀n,N≤n→∀(k:mT),(WW E (Xg E o.type o.op) k).run (ev E n) fr T s=k.run (ev E n) fr T v s):yY E o fr T v s:=by
 obtain⟨N,h⟩:=h;exact⟨N,fun n hn=>by rw[h n hn K0];rfl⟩
theorem En {c:Call} {t e:TypeId} {ts:List TypeId} {x:Operand} {b off n sz:Nat} {cap:Option Nat} (ho:o.op= .call c) (hc:c.callee= .builtin .len) (ht:c.argTypes.toList=t::ts) (ha:c.args.toList=[x]) (hu:C7 E t=some (.slice e))
 (hx:Ce x l=some (.slice b off n sz cap)):Wj E o l (.int .i64 (n:Nat)):=
 AJ (f:=fun T=>(Cc E x T).bind Am.ao) (by
  rw[ho];show VV E o.type c=_;unfold VV;rw[hc];simp only;rw[ht,ha];show fN E t x=_;unfold fN;rw[hu]) fun _ hT=>by simp only[Al hT hx,Qe,Am.ao]
theorem IP {c:Call} {t e:TypeId} {ts:List TypeId} {x:Operand} (ho:o.op= .call c) (hc:c.callee= .builtin .len) (ht:c.argTypes.toList=t::ts) (ha:c.args.toList=[x]) (hu:C7 E t=some (.slice e))
 (hx:Ce x l=some .Ca):Wj E o l (.int .i64 (0:Nat)):=
 AJ (f:=fun T=>(Cc E x T).bind Am.ao) (by
  rw[ho];show VV E o.type c=_;unfold VV;rw[hc];simp only;rw[ht,ha];show fN E t x=_;unfold fN;rw[hu]) fun _ hT=>by simp only[Al hT hx,Qe,Am.ao];rfl
theorem At {t e:TypeId} {x i:Operand} {sz len k b off:Nat} {ik:IntKind} {cap:Option Nat} (ho:o.op= .indexAddr t x i) (hu:C7 E t=some (.slice e)) (hs:sizeOf E e=some (sz+1)) (hx:Ce x l=some (.slice b off len (sz+1) cap))
 (hi:Ce i l=some (.int ik (k:Nat))) (hk:k<len):Wj E o l (.ptr b (off+k*(sz+1))):=
 AJ (f:=fun T=>(Cc E i T).bind fun iv=>(VW iv).bind fun k=>(Cc E x T).bind (CQ (sz+1) k)) (by
  rw[ho];show Wy E t x i=_;unfold Wy;rw[hu];simp only[hs]) fun T hT=>by
  have h1:VW (.int ik (k:Nat))=some k:=rfl;have h2:Nat.blt k len=true:=by simpa[Nat.blt_eq]using hk
  simp only[Al hT hx,Al hT hi,Qe,h1,CQ,h2,cond_true]
end
section
variable {E : Env}
theorem L8 {f:FuncId} {v:AV} {s st:St} (hk:∀n w,CH w n 40 v []=some (v,[])) (hu:∀m,Cz m 40 v=true) (hl:st.log=[]):leave E f s v st=some (.same v):=by
 have hf:frozen E f s v st=some (v,st):=by
  unfold frozen Wb;split
  ·rfl
  ·rw[hl];simp only[hk,Qe,kill]
  ·simp only[hk,Qe,kill]
 unfold leave;rw[hf];simp only[Qe,Yx,hl,hu,cond_true]
theorem Cb.flat {f:FuncId} {fn:Func} {c:Code} {args:List AV} {s:St} {v:AV} {rs:List ResultVar} {fr:Fr} {l0:Sl} (hm:E.Cs f args=none) (hf:E.fns.get f=some fn) (hc:fn.body=some c) (hr:fn.results.toList=rs)
 (bO:frame fn.ntmps args none=fr) (hl:ZU 0 args []=l0) (hk:∀n w,CH w n 40 v []=some (v,[])) (hu:∀m,Cz m 40 v=true)
 (h:Ch E c fr l0 s.enter fun ex fr l st=>(ex= .ret∨ex= .normal)∧fr.defers=[]∧st.log=[]∧∃vs,CT E st l rs=some vs∧ZM vs=v):Cb E f args s v:=
 LV hm hf hc hr bO hl (h.mono fun ex fr l st ⟨hex,hd,Wm,vs,Wk,hv⟩=>⟨hex,st,by rw[hd];rfl,vs,Wk,by rw[hv];exact L8 hk hu Wm⟩)
theorem An {s:St} {l:Sl} {t:Nat} {v:AV} {rs:List ResultVar} {vs:List AV} (hl:look t l=some v) (h:CT E s l rs=some vs):CT E s l (.tmp t::rs)=some (v::vs):=by
 unfold CT;rw[hl];simp only[Qe,h]
def mY {α:Type} (p:α→Bool) (l:List α):Nat:=(l.takeWhile p).length
theorem twA_le {α:Type} (p:α→Bool) (l:List α):mY p l≤l.length:=(List.takeWhile_sublist _).length_le
theorem Qw {α:Type} {p:α→Bool}:∀ {l:List α} {k:Nat} {a:α},k≤mY p l→l[k]?=some a→(p a=true↔k<mY p l)
 | [],k,_,_,h=>by simp at h
 |b::l,0,a,_,h=>by
  simp only[List.getElem?_cons_zero,Option.some.injEq]at h;subst h;cases hp:p b<;>simp[mY,List.takeWhile,hp]
 |b::l,k+1,a,h,hl=>by
  cases hp:p b with
  |false=>simp[mY,List.takeWhile,hp]at h
  |true=>
   simp only[mY,List.takeWhile,hp,List.length_cons]at h⊢;have:=Qw (p:=p) (l:=l) (k:=k) (a:=a) (by unfold mY;omega) (by simpa using hl);rw[this];unfold mY;omega
theorem SX {α:Type} {p:α→Bool}:∀ {l:List α},l.any p=decide (mY (fun x=> !p x) l<l.length)
 | []=>rfl
 |b::l=>by
  have ih:=SX (p:=p) (l:=l);cases hp:p b with
  |true=>simp[mY,List.takeWhile,hp]
  |false=>
   simp only[List.any_cons,hp,Bool.false_or,ih,mY,List.takeWhile,Bool.not_false,List.length_cons]
   congr 1
   exact propext ⟨fun h=>by omega,fun h=>by omega⟩
end
section
variable (E : Env)
def RegM (all rest:List Oper) (i:Nat) (fr:Fr) (l:Sl) (st:St) (js ms:List Nat) (K:Sl→St→Prop):Prop:=
 ∀(T:Tr AV) (news:W8) (looked:Zp),Has l T→(∀p∈news,p.1∈ms)→(∀p∈looked,p.1∈js∨p.2.1= .nothing)→
  ∃N l' q',K l' q'.st∧Has l' q'.T∧∀n,N≤n→dq E all (ev E n) fr (XM E (VL all) rest i) ⟨T,st,news,looked⟩=some q'
end
section
variable {E : Env} {fr : Fr} {l : Sl} {st : St} {o : Oper} {all rest : List Oper} {i : Nat} {js ms : List Nat} {K : Sl → St → Prop}
theorem Ob {CS:Nat}:∀ {news:W8} {h:Tr CB},(∀p∈news,Nat.testBit CS p.1=true)→bu CS news h=h
 | [],_,_=>rfl
 |p::news,h,hn=>by
  unfold bu;rw[hn p (Qh ..),cond_true];exact Ob fun q hq=>hn q (Qg _ hq)
end
def Grown (s:St) (e:TypeId) (sz:Nat) (v:AV) (cs:List AV) (n:Nat):Prop:=
 (v= .Ca∧n=0∧cs=[])∨∃b,v= .slice b 0 n sz none∧b<s.next∧s.heap.get b=some (.cells cs e true)∧cs.length=n*sz∧n≠0
theorem Grown.nil (s:St) (e:TypeId) (sz:Nat):Grown s e sz .Ca [] 0:= .inl ⟨rfl,rfl,rfl⟩
def Ci (c:Nat):AV→Bool
 | .slice b _ _ _ _=>Nat.beq b c
 |_=>false
theorem Grown.CW {s s':St} {e:TypeId} {sz n:Nat} {v:AV} {cs:List AV} (h:Grown s e sz v cs n) (hn:s.next≤s'.next) (hh:∀c,Ci c v=true→s'.heap.get c=s.heap.get c):Grown s' e sz v cs n:=by
 rcases h with h|⟨b,rfl,hb,hg,hl,h0⟩
 ·exact .inl h
 ·exact .inr ⟨b,rfl,by omega,by rw[hh b (Nat.beq_refl b),hg],hl,h0⟩
theorem HF {α:Type} (l:List α):takeN l.length l=some l:=by
 have:=Gv l [];rwa[List.append_nil]at this
theorem Grown.append {s:St} {e:TypeId} {sz WJ n:Nat} {v:AV} {cs new:List AV} (h:Grown s e sz v cs n) (en:new.length=sz) (XA:0<sz) (Xm:small 1 WJ=true) (Y1:small (n+1) WJ=true):
 ∃v' s',CA s e sz WJ new 1 v=some (v',s')∧Grown s' e sz v' (cs++new) (n+1)∧Ci s.next v'=true∧s'.next=s.next+1∧s'.bound=s.bound∧(∀c∈s'.log,c∈s.log∨(c<s.bound∧Ci c v=true))∧
  ∀c,c<s.next→Ci c v=false→s'.heap.get c=s.heap.get c:=by
 rcases h with⟨rfl,rfl,rfl⟩|⟨b,rfl,hb,hg,hl,h0⟩
 ·refine⟨.slice s.next 0 1 sz none,s.alloc (.cells new e true),?_,.inr ⟨s.next,rfl,Nat.lt_succ_self _,?_,by rw[List.nil_append,en];omega,by omega⟩,Nat.beq_refl _,rfl,rfl,fun c hc=> .inl hc,fun c hc _=>?_⟩
  ·simp only[CA,Xm,cond_true];rfl
  ·show(s.heap.set s.next _).get s.next=_;rw[AF,if_pos rfl,List.nil_append]
  ·show(s.heap.set s.next _).get c=_;rw[AF,if_neg (by omega)]
 ·have YD:eT sz n 1 none cs=false:=by
   show Nat.ble ((n+1)*sz) (W6 cs)=false;rw[D1,hl];have:(n+1)*sz=n*sz+sz:=Nat.succ_mul ..;cases hb:Nat.ble ((n+1)*sz) (n*sz)with
   |false=>rfl
   |true=>have:=Qc hb;omega
  refine⟨.slice s.next 0 (n+1) sz none,(s.put b none).alloc (.cells (cs++new) e true),?_,.inr ⟨s.next,rfl,Nat.lt_succ_self _,?_,by rw[Qm,hl,en,Nat.succ_mul],by omega⟩,Nat.beq_refl _,rfl,rfl,fun c hc=>?_,fun c hc ho=>?_⟩
  ·unfold CA;simp only[show Nat.beq 1 0=false from rfl,cond_false,Nat.beq_refl,Y1,Bool.and_self,cond_true,hg,YA,ZH];rw[show WM 0 cs=some cs from rfl];simp only[Qe,YD,cond_false,Bool.true_or,cond_true];rw[←hl,HF];rfl
  ·show((s.heap.set b none).set s.next _).get s.next=_;rw[AF,if_pos rfl]
  ·have Wm:c∈(bif Nat.blt b s.bound then Xt b s.log else s.log):=hc;cases pR:Nat.blt b s.bound with
   |false=>rw[pR]at Wm;exact .inl Wm
   |true=>
    rw[pR,cond_true]at Wm;have lM:b<s.bound:=by simpa[Nat.blt_eq]using pR
    have:c=b∨c∈s.log:=by
     revert Wm;cases s.log with
     |nil=>intro h;exact .inl (by simpa[Xt]using h)
     |cons d l=>
      intro h;have h':c∈(bif Nat.beq b d then d::l else b::d::l):=h;cases hd:Nat.beq b d with
      |true=>rw[hd]at h';exact .inr h'
      |false=>
       rw[hd]at h';rcases Qk.1 h' with h'|h'
       ·exact .inl h'
       ·exact .inr h'
    rcases this with rfl|h
    ·exact .inr ⟨lM,Nat.beq_refl _⟩
    ·exact .inl h
  ·show((s.heap.set b none).set s.next _).get c=_;have kV:c≠b:=fun h=>by subst h;rw[show Ci c (.slice c 0 n sz none)=true from Nat.beq_refl c]at ho;cases ho
   rw[AF,if_neg (by omega),AF,if_neg kV]
def outA (cs:List AV) (n sz:Nat):AV:=bif Nat.beq n 0 then .Ca else .Cd cs n sz true
theorem UN {w:St} {from_ m:Nat} {v:AV} {ks:List Nat} (hv:gk v=true):CH w from_ (m+1) v ks=some (v,ks):=by cases v<;>first|rfl|cases hv
theorem M8 {w:St} {from_ m:Nat} {ks:List Nat}:∀ {cs:List AV},cs.all gk=true→CH.many (CH w from_ (m+1)) cs ks=some (cs,ks)
 | [],_=>rfl
 |c::cs,h=>by
  simp only[List.all_cons,Qf]at h;unfold CH.many;rw[UN h.1];simp only[Qe];rw[M8 h.2];rfl
theorem My {s : St} : ∀ {ks : List Nat}, (∀ b ∈ ks, s.bound ≤ b) → (kill s ks).log = s.log
  | [], _ => rfl
  | b :: ks, h => by
    unfold kill;have hb : Nat.blt b s.bound = false := by
      have := h b (Qh ..);cases hc : Nat.blt b s.bound with
      | false => rfl
      | true => have : b < s.bound := by simpa [Nat.blt_eq] using hc
                omega
    have : (s.put b none).log = s.log := by show (bif Nat.blt b s.bound then _ else _) = _; rw [hb]; rfl
    rw [My (s := s.put b none) fun c hc => h c (Qg _ hc), this]
section
variable {E : Env} {fr : Fr} {l : Sl} {st : St} {o : Oper} {all rest : List Oper} {i : Nat} {js ms : List Nat} {K : Sl → St → Prop}
end
theorem GT {st s2:St} (hn:s2.next=st.next+1) (c:Nat):(st.merged s2).heap.get c=if c=st.next∨c∈s2.log then s2.heap.get c else st.heap.get c:=by
 show(W5 s2.heap (Yb st.next (s2.next-st.next)) (W5 s2.heap s2.log st.heap)).get c=_;rw[hn,Nat.add_sub_cancel_left,show Yb st.next 1=[st.next]from rfl,Dc,Dc];by_cases h1:c=st.next
 ·rw[if_pos (by rw[h1];exact Qp.2 rfl),if_pos (.inl h1)]
 ·rw[if_neg (by rw[Qp];exact h1)];by_cases h2:c∈s2.log
  ·rw[if_pos h2,if_pos (.inr h2)]
  ·rw[if_neg h2,if_neg (fun h=>h.elim h1 h2)]
theorem Grown.wV {st:St} {e:TypeId} {sz WJ n:Nat} {v:AV} {cs new:List AV} (h:Grown st e sz v cs n) (en:new.length=sz) (XA:0<sz) (Xm:small 1 WJ=true) (Y1:small (n+1) WJ=true):
 ∃v' s2,CA (st.sub st.heap) e sz WJ new 1 v=some (v',s2)∧s2.next=st.next+1∧(∀b∈s2.log,b<st.next)∧Grown (st.merged s2) e sz v' (cs++new) (n+1)∧Ci st.next v'=true∧
  (∀c,c<st.next→Ci c v=false→(st.merged s2).heap.get c=st.heap.get c)∧(st.bound=0→(st.merged s2).log=st.log):=by
 have h':Grown (st.sub st.heap) e sz v cs n:=h.CW (Qj _) fun _ _=>rfl;obtain⟨v',s2,h1,h2,h3,h4,h5,h6,h7⟩:=h'.append en XA Xm Y1;have h4':s2.next=st.next+1:=h4;have dE:∀c,Ci c v'=true→c=st.next:=fun c hc=>by
  rcases h2 with⟨rfl,h,_⟩|⟨b,rfl,_⟩
  ·cases hc
  ·have e1:=Qb hc;have e2:=Qb h3;exact e1.symm.trans e2
 have Wm:∀b∈s2.log,b<st.next∧Ci b v=true:=fun b hb=>by
  rcases h6 b hb with h|h
  ·cases h
  ·exact h
 refine⟨v',s2,h1,h4,fun b hb=>(Wm b hb).1,h2.CW (Qj _) fun c hc=>by rw[GT h4',if_pos (.inl (dE c hc))],h3,fun c hc ho=>?_,fun hb=>?_⟩
 ·rw[GT h4',if_neg (by
   rintro(h|h)
   ·omega
   ·rw[(Wm c h).2]at ho;cases ho)]
 ·show below st.bound s2.log st.log=_;rw[hb];have:∀L l:List Nat,below 0 L l=l:=fun L=>by
   induction L with
   |nil=>intro l;rfl
   |cons b L ih=>intro l;exact ih l
  exact this _ _
section
variable (E : Env)
def Yields (b:Nat) (args:List AV) (s:St) (P:Bool→St→Prop):Prop:=
 ∃lp TA lA,s.heap.get b=some (.loop lp)∧aQ lp.nt lp.params args lp.tmps=some TA∧Has lA TA∧
  Ch E lp.assign {nt:=lp.nt,defers:=[],WD:=none,round:=some b} lA s fun ex fr1 l1 s1=>ex= .normal∧∃lp1,s1.heap.get b=some (.loop lp1)∧lp1.state= .ready∧
   Ch E lp.body fr1 l1 (s1.put b (some (.loop {lp1 with state:= .busy}))) fun sI cP _ s2=>cP.defers=[]∧∃lp2,s2.heap.get b=some (.loop lp2)∧RoundQ b P sI s2 lp2
end
section
variable {E : Env} {fr : Fr} {l : Sl} {s : St} {o : Oper} {all rest : List Oper} {K : Sl → St → Prop}
end
theorem Wf.gen {E:Env} {s:St} {f:FuncId} {fn:Func} {c:Code} {args:List AV} {R:AV→St→Prop} {rs:List ResultVar} {fr:Fr} {l0:Sl} (hm:E.Cs f args=none) (hf:E.fns.get f=some fn) (hc:fn.body=some c) (hr:fn.results.toList=rs)
 (bO:frame fn.ntmps args none=fr) (hl:ZU 0 args []=l0) (h:Ch E c fr l0 s.enter fun ex fr l st=>(ex= .ret∨ex= .normal)∧∃Zw,dB fr.defers st=some Zw∧∃vs,CT E Zw l rs=some vs∧∃cr,leave E f s (ZM vs) Zw=some cr∧match cr with
  | .same v=>R v s
  | .val v s'=>R v s'
  | .WD _ _=>False):Wf E f args s R:=by
 subst bO hl hr;obtain⟨N,ex,Xz,l',T',s',⟨hex,Zw,hu,vs,Wk,cr,hlv,hR⟩,YP,b9⟩:=h _ (E2 args 0 (Has.nil .nil));refine⟨N+1,cr,fun n hn=>?_,hR⟩;obtain⟨m,rfl⟩:∃m,n=m+1:=⟨n-1,by omega⟩
 unfold We;rw[hm];simp only[hf,hc,Qe];rw[H6,b9 m (by omega)];show YY E (ev E (m+1)) f fn s ⟨ex,Xz,T',s'⟩=_;unfold YY;have fC:cD ex=some none:=by rcases hex with h|h<;>rw[h]<;>rfl
 simp only[fC,Qe,GM hu,endWith,DC YP Wk,hlv]
theorem RV {s:St} {b:Nat} {o:Option CB} (h:s.log≠ []∨b<s.bound):(s.put b o).log≠ []:=by
 show(bif Nat.blt b s.bound then Xt b s.log else s.log)≠ [];cases hb:Nat.blt b s.bound with
 |true=>
  rw[cond_true];unfold Xt;split
  ·exact List.cons_ne_nil _ _
  ·cases Nat.beq b _<;>exact List.cons_ne_nil _ _
 |false=>
  rw[cond_false];rcases h with h|h
  ·exact h
  ·have:Nat.blt b s.bound=true:=by simpa[Nat.blt_eq]using h
   rw[hb]at this;cases this
end Am
