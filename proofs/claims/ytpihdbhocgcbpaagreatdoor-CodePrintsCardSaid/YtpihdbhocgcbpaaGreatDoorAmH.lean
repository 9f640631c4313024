/- The abstract machine: tables that are laid; what is logged; panics. -/
import Derived.Test.YtpihdbhocgcbpaaGreatDoorAmG
set_option linter.unusedSectionVars false
set_option linter.unusedVariables false
set_option linter.unusedSimpArgs false
namespace Am
open Go
abbrev dG:=Nat→Option (List AV)
noncomputable def jz (P:Program) (nt nf mask:Nat) (K:FuncId→List AV→Option AV) (gl:dG):Env:= {lk P nt nf mask K with kn:=gl}
def sV (gl:dG) (C:Cx):Prop:=∀g cs,gl g=some cs→∃ms,C.M g=some ms∧VS C cs ms∧Cells cs
def bH (P:Program) (gl:dG) (f:FuncId) (args:List AV) (v:AV):Prop:=
 ∀(C:Cx) (S:St) (w:World) (xs:Array Value) (c:Frame) (cs:List Frame),sV gl C→VS C args xs.toList→Wn C S w→Returns P (lone (Frame.enter P f xs .normal) (c::cs) w) c cs C S w (.same v)
def C9 (P:Program) (gl:dG) (K:FuncId→List AV→Option AV):Prop:=∀f args v,K f args=some v→bH P gl f args v
theorem VG.g {P:Program} {gl:dG} {f:FuncId} {args:List AV} {v:AV} (h:VG P f args v):bH P gl f args v:=fun C S w xs c cs _ hv hS=>h C S w xs c cs hv hS
theorem CK.g {P:Program} {gl:dG} {K:FuncId→List AV→Option AV} (h:CK P K):C9 P gl K:=fun f args v hv=>(h f args v hv).g
section
variable {P : Program} {nt nf mask : Nat} {K : FuncId → List AV → Option AV} {gl : dG}
theorem PE (h:X8 P nt nf):CN (jz P nt nf mask K gl) P:=by
 have:=Jr h mask [];exact⟨this.ty,this.fn,this.flat,this.lone⟩
theorem Rb (h:X8 P nt nf):Y6 (jz P nt nf mask K gl) P:=
 QY (PE h) fun f fn hf=>by
  have:P.funcs.toList[f]?=some fn:=by rw[←EL nf P.funcs.toList f (by simpa using h.funcs)];exact hf
  exact(List.all_eq_true.1 h.outer) fn (List.mem_of_getElem? this)
theorem Oq (hK:C9 P gl K):bB (jz P nt nf mask K gl) P:=
 fun f args v h C S w xs c cs hg hv hS=>hK f args v h C S w xs c cs hg hv hS
theorem NR (hp:X8 P nt nf) (jX:∀g cs,gl g=some cs→cs.all (Cr 40)=true) (hK:C9 P gl K) {f:FuncId} {args:List AV} {v:AV} (h:Cb (jz P nt nf mask K gl) f args S0 v)
 (ha:args.all (Cr 40)=true) (hv:Cr 40 v=true):bH P gl f args v:=by
 intro C S w xs c cs hg Wk hS;obtain⟨N,h⟩:=h;have hx:Y6 (jz P nt nf mask K gl) P:=Rb hp;have he:CN (jz P nt nf mask K gl) P:=PE hp;have VJ:=MR he hx (Kw he hx) (Oq hK) (fun _ ev _=>HW ev) N;have hgb:Wg (jz P nt nf mask K gl) C.bare:=by
  intro g XS mF;obtain⟨ms,h1,h2,h3⟩:=hg g XS mF;exact⟨ms,h1,B1 40 h2 (jX g XS mF),h3⟩
 have:=VJ f args (.same v) C.bare S0 w xs c cs (h N (Qj _)) hgb (B1 40 Wk ha) (oH C hS);obtain⟨C1,x,w',hs,t,Yq⟩:=this;have eb:Ext C1.bare (C.Yi C1):=⟨fun _ x=>x.elim,fun _ x=>x.elim,fun _ _ h=>h,fun _ _ x=>x.elim,fun _ _ x=>x.elim,fun _ h=>h⟩
 exact⟨_,x,w',hs,Jq hS t,(Ek 40 Yq hv).mono eb⟩
theorem Bo {α:Type} {f:FuncId} {enc:α→List AV} {res:α→AV} (hK:C9 P gl K) (h:∀a,bH P gl f (enc a) (res a)):C9 P gl (Wa K f enc res):=by
 intro g args v hv;unfold Wa at hv;cases hb:Nat.beq g f with
 |false=>rw[hb]at hv;exact hK g args v hv
 |true=>
  rw[hb]at hv;have:=Qb hb;subst this;obtain⟨a,rfl,rfl⟩:=J9 hv;exact h a
theorem BG {α:Type} {f:FuncId} {enc:α→List AV} {res:α→AV} (hp:X8 P nt nf) (jX:∀g cs,gl g=some cs→cs.all (Cr 40)=true) (hK:C9 P gl K) (h:∀a,Cb (jz P nt nf mask K gl) f (enc a) S0 (res a))
 (ha:∀a,(enc a).all (Cr 40)=true) (hv:∀a,Cr 40 (res a)=true):C9 P gl (Wa K f enc res):=
 Bo hK fun a=>NR hp jX hK (h a) (ha a) (hv a)
theorem Vq (hp:X8 P nt nf) (hK:C9 P gl K) {f:FuncId} {args:List AV} {b:Bool} (wO:K f args=none) (h:Cb (jz P nt nf mask K gl) f args S0 (.bool b))
 {w:World} {xs:Array Value} (hg:sV gl (Cx.memory w)) (ha:VS (Cx.memory w) args xs.toList):Calls P f xs w fun e w'=>e= .returned (.bool b)∧Go.RowKit.Below w.heap.size w w':=by
 have XG:∀b o,¬S0.heap.get b=some o:=fun b o hb=>by rw[show S0.heap= .nil from rfl,Bs]at hb;cases hb
 obtain⟨N,h⟩:=h;have hc:=KD (PE (mask:=mask) (K:=K) (gl:=gl) hp) (Rb hp) (Oq hK) (n:=N) (f:=f) (args:=args) (v:= .bool b) wO (h N (Qj _)) (C:=Cx.memory w) (w:=w) (xs:=xs) hg ha (Up w);intro cs;obtain⟨e,w',fr,⟨C2,x,Y0,t,hv⟩,h2,h3,h4⟩:=hc cs;refine⟨e,w',fr,⟨?_,⟨t.Yz.2.1,t.Yz.1,t.Yz.2.2,t.size,fun k hk=>t.frame k hk fun b o hb=>absurd hb (XG b o)⟩⟩,h2,h3,h4⟩;cases hv;exact Y0
end
def kU:IntKind→Bool
 | .u32| .u64=>true
 |_=>false
theorem SQ {k:IntKind} (hk:kU k=true) {n:Int} (h0:0≤n) (h:n<4294967296):Y4 k n= .int k n:=by
 unfold Y4;cases k with
 |u32=>rw[Go.IntWalk.u32_in n ⟨h0,by omega⟩]
 |u64=>rw[Go.IntWalk.u64_in n ⟨h0,by omega⟩]
 |_=>cases hk
section
variable {E : Env} {l : Sl} {o : Oper} {k : IntKind} {t yt : TypeId} {x y : Operand} {a b : Nat}
theorem BK (ho:o.op= .binOp .add t x y yt) (hu:C7 E t=some (.int k)) (hx:Ce x l=some (.int k (a:Nat))) (hy:Ce y l=some (.int k (b:Nat))) (hk:kU k=true) (h:a+b<4294967296):Wj E o l (.int k ((a+b:Nat):Int)):=
 DY ho hu rfl hx hy (by rw[SQ hk (by omega) (by omega)];rfl)
theorem DB (ho:o.op= .binOp .mul t x y yt) (hu:C7 E t=some (.int k)) (hx:Ce x l=some (.int k (a:Nat))) (hy:Ce y l=some (.int k (b:Nat))) (hk:kU k=true) (h:a*b<4294967296):Wj E o l (.int k ((a*b:Nat):Int)):=
 DY ho hu rfl hx hy (by rw[←Int.natCast_mul,SQ hk (by omega) (by omega)])
theorem DA (ho:o.op= .binOp .quo t x y yt) (hu:C7 E t=some (.int k)) (hx:Ce x l=some (.int k (a:Nat))) (hy:Ce y l=some (.int k (b:Nat))) (hk:kU k=true) (h:0<b∧a<4294967296):Wj E o l (.int k ((a/b:Nat):Int)):=
 DY ho hu rfl hx hy (by
  show oR k _ _=_;have hle:a/b≤a:=Nat.div_le_self a b;unfold oR;rw[if_neg (by omega),←Int.ofNat_tdiv];generalize a/b=q at hle⊢;rw[SQ hk (by omega) (by omega)])
theorem D9 (ho:o.op= .binOp .rem t x y yt) (hu:C7 E t=some (.int k)) (hx:Ce x l=some (.int k (a:Nat))) (hy:Ce y l=some (.int k (b:Nat))) (h:0<b):Wj E o l (.int k ((a % b:Nat):Int)):=
 DY ho hu rfl hx hy (by
  show oS k _ _=_;unfold oS;rw[if_neg (by omega),←Int.ofNat_tmod])
theorem Fj {src dst:TypeId} {j kx:IntKind} (ho:o.op= .convert src dst x) (hs:C7 E src=some (.int j)) (hd:C7 E dst=some (.int k)) (hx:Ce x l=some (.int kx (a:Nat))) (hk:kU k=true) (h:a<4294967296):Wj E o l (.int k (a:Nat)):=by
 have:=Gm (E:=E) (l:=l) ho hs hd hx;rwa[SQ hk (by omega) (by omega)]at this
theorem Jx {j:IntKind} (ho:o.op= .binOp .shr t x y yt) (hu:C7 E t=some (.int k)) (hx:Ce x l=some (.int k (a:Nat))) (hy:Ce y l=some (.int j (b:Nat))) (h:b≤k.bits):Wj E o l (.int k ((a/2^b:Nat):Int)):=
 Wj.shr ho hu hx hy (by
  unfold oU;rw[if_neg (by omega),show((b:Nat):Int).toNat=b from rfl,Nat.min_eq_left h];rw[Int.fdiv_eq_ediv_of_nonneg _ (by exact Int.le_of_lt (Int.pow_pos (by decide)))];rw[show((a:Nat):Int)/2^b=((a/2^b:Nat):Int)from by rw[Int.natCast_ediv,Int.natCast_pow];rfl])
theorem Wj.negE {v:AV} (ho:o.op= .unOp .neg t x) {z:Int} (hx:Ce x l=some (.int k z)) (hv:Y4 k (0-z)=v):Wj E o l v:=
 AJ (f:=fun T=>(Cc E x T).bind (qk .neg)) (by rw[ho];rfl) fun T hT=>by
  simp only[Al hT hx,Qe,qk,hv]
theorem Be {e:TypeId} {i:Operand} {n sz m:Nat} {ik:IntKind} {p q:AV} (ho:o.op= .indexAddr t x i) (hu:C7 E t=some (.array n e)) (hs:sizeOf E e=some (sz+1)) (hx:Ce x l=some p) (hi:Ce i l=some (.int ik (m:Nat))) (hm:m<n) (hq:XE (m*(sz+1)) p=some q):Wj E o l q:=
 AJ (f:=fun T=>(Cc E i T).bind fun iv=>(VW iv).bind fun k=>bif Nat.blt k n then(Cc E x T).bind (XE (k*(sz+1)))else none) (by
  rw[ho];show Wy E t x i=_;unfold Wy;rw[hu];simp only[hs]) fun T hT=>by
  simp only[Al hT hx,Al hT hi,Qe];show(VW (.int ik (m:Nat))).bind _=_;rw[show VW (.int ik (m:Nat))=some m from by unfold VW;simp];simp only[Qe,show Nat.blt m n=true from Qd hm,cond_true,hq]
theorem Lj {e:TypeId} {i:Operand} {g n sz m:Nat} {ik:IntKind} {cs:List AV} (ho:o.op= .indexAddr t (.global g) i) (hu:C7 E t=some (.array n e)) (hs:sizeOf E e=some (sz+1)) (hx:E.kn g=some cs) (hi:Ce i l=some (.int ik (m:Nat))) (hm:m<n) (hl:m*(sz+1)≤cs.length):Wj E o l (.WO (cs.drop (m*(sz+1)))):=
 AJ (f:=fun T=>(Cc E i T).bind fun iv=>(VW iv).bind fun k=>bif Nat.blt k n then(Cc E (.global g) T).bind (XE (k*(sz+1)))else none) (by
  rw[ho];show Wy E t (.global g) i=_;unfold Wy;rw[hu];simp only[hs]) fun T hT=>by
  have jX:Cc E (.global g) T=some (.WO cs):=by
   simp only[Cc,hx];rfl
  simp only[jX,Al hT hi,Qe];show(VW (.int ik (m:Nat))).bind _=_;rw[show VW (.int ik (m:Nat))=some m from by unfold VW;simp];simp only[Qe,show Nat.blt m n=true from Qd hm,cond_true,XE,Hc hl]
theorem AW {e:TypeId} {lo hi:Option Operand} {n sz:Nat} {p v:AV} {yW yX:Option AV} (ho:o.op= .slice t x lo hi none) (hu:C7 E t=some (.array n e)) (hs:sizeOf E e=some sz) (hx:Ce x l=some p)
 (ji:er lo l=some yW) (hZ:er hi l=some yX) (hv:aM sz n yW yX p=some v):Wj E o l v:=
 AJ (f:=fun T=>(Cc E x T).bind fun a=>(WI E lo T).bind fun l=>(WI E hi T).bind fun h=>aM sz n l h a) (by
  rw[ho];show bo E t x lo hi none=_;unfold bo;rw[hu];simp only[hs]) fun _ hT=>by
  simp only[Al hT hx,FA hT ji,FA hT hZ,Qe,hv]
end
section
variable {E : Env} {fr : Fr} {l : Sl} {st : St} {o : Oper} {all rest : List Oper} {i : Nat} {js : List Nat} {nl : W8} {K : Sl → St → Prop} {od : Option Nat}
theorem Fi {KN:PN} {t:TypeId} {a x:Operand} {k b off:Nat} {v:AV} {cs XS:List AV} {e:TypeId} {part:Bool} (hY:b<st.next) (ho:o.op= .store t a x) (hn:sizeOf E t=some k)
 (ha:Ce a (VM (tmpsOf o.op.operands.toList) l)=some (.ptr b off)) (hx:Ce x (VM (tmpsOf o.op.operands.toList) l)=some v) (gi:st.heap.get b=some (.cells cs e part)) (hlen:v.cells.length=k) (htup:v.isTuple=false) (fo:over v.cells off cs=some XS)
 (hc:Xk (Ok all i) b nl=true) (eu:cR (Ok all i) js=true) (hg:Wc all l o) (hd:o.dst=od) (C6:WA fr.nt od=true)
 (h:VH E KN all rest (i+1) fr (Xe od (.tuple []) l) {st with log:=bif Nat.blt b st.bound then b::st.log else st.log,heap:=st.heap.set b (some (.cells XS e part))} (i::js) ((i,b)::nl) K):VH E KN all (o::rest) i fr l st js nl K:=by
 have Zk:(st.sub (Tr.set .nil b (st.heap.get b))).heap.get b=some (.cells cs e part):=by
  show(Tr.set .nil b (st.heap.get b)).get b=_;rw[AF,if_pos rfl,gi]
 have Wm:((st.sub (Tr.set .nil b (st.heap.get b))).put b (some (.cells XS e part))).log=[b]:=by
  show(bif Nat.blt b st.next then [b]else [])=_;rw[show Nat.blt b st.next=true from Qd hY];rfl
 have hm:st.merged ((st.sub (Tr.set .nil b (st.heap.get b))).put b (some (.cells XS e part)))= {st with log:=bif Nat.blt b st.bound then b::st.log else st.log,heap:=st.heap.set b (some (.cells XS e part))}:=by
  have hh:W5 ((st.sub (Tr.set .nil b (st.heap.get b))).put b (some (.cells XS e part))).heap (Yb st.next (st.next-st.next)) (W5 ((st.sub (Tr.set .nil b (st.heap.get b))).put b (some (.cells XS e part))).heap [b] st.heap)=st.heap.set b (some (.cells XS e part)):=by
   rw[Nat.sub_self];show st.heap.set b _=_;rw[show((st.sub (Tr.set .nil b (st.heap.get b))).put b (some (.cells XS e part))).heap.get b=some (.cells XS e part)from by
    show((Tr.set .nil b (st.heap.get b)).set b (some (.cells XS e part))).get b=_;rw[AF,if_pos rfl]]
  unfold St.merged;rw[Wm];show St.mk st.next st.bound _ _=_
  congr 1
 have:=O9 (E:=E) (KN:=KN) (all:=all) (rest:=rest) (fr:=fr) (K:=K) (od:=od) (nl:=nl) (js:=js) (i:=i) (o:=o) (l:=l) (st:=st) (x:=Cc E a) (one:=true) (bV:= .block b) (H:=Tr.set .nil b (st.heap.get b)) (v:= .tuple []) (s2:=(st.sub (Tr.set .nil b (st.heap.get b))).put b (some (.cells XS e part)))
  (f:=fun T s=>(Cc E a T).bind fun p=>(Cc E x T).bind fun v=>ai (cn k s v p)) (by
   rw[ho];show ee E t a x=_;unfold ee;rw[hn]) (fun T hT=>by
   show ef (Z5 (Cc E a T))=_;rw[Al hT ha];rfl) (fun news Zx=>by
   show(bif X4 (Ok all i) b news then _ else _)=_;rw[BT hc Zx];rfl) (Ws.store ho hn ha hx (AB Zk hlen htup fo)) (Qj _) (fun c za=>by
   rw[Wm,Qp]at za;subst za;exact⟨hY,hc⟩) eu hg hd C6
 rw[hm,Wm]at this;apply this;show VH E KN all rest (i+1) fr _ _ _ (Xi i (Xi i nl (Yb st.next (st.next-st.next))) [b]) K;rw[Nat.sub_self];exact h
theorem AG {KN:PN} {n bd:Nat} {lg:List Nat} {hl:Hl} {t:TypeId} {a x:Operand} {k b off:Nat} {v:AV} {cs XS:List AV} {e:TypeId} {part:Bool} (ho:o.op= .store t a x) (hn:sizeOf E t=some k)
 (ha:Ce a (VM (tmpsOf o.op.operands.toList) l)=some (.ptr b off)) (hx:Ce x (VM (tmpsOf o.op.operands.toList) l)=some v) (hY:Nat.blt b n=true) (gi:cS b hl=some (.cells cs e part)) (hlen:v.cells.length=k) (htup:v.isTuple=false) (fo:over v.cells off cs=some XS)
 (hc:Xk (Ok all i) b nl=true) (eu:cR (Ok all i) js=true) (hg:Wc all l o) (hd:o.dst=od) (C6:WA fr.nt od=true)
 (h:VH E KN all rest (i+1) fr (Xe od (.tuple []) l) (WZ n bd (bif Nat.blt b bd then b::lg else lg) ((b,some (.cells XS e part))::hl)) (i::js) ((i,b)::nl) K):VH E KN all (o::rest) i fr l (WZ n bd lg hl) js nl K:=
 Fi (Qc hY) ho hn ha hx ((DD b).trans gi) hlen htup fo hc eu hg hd C6 h
end
theorem DZ {E:Env} {l:Sl} {o:Oper} {src dst:TypeId} {x:Operand} {j kx:IntKind} {a:Nat} (ho:o.op= .convert src dst x) (hs:C7 E src=some (.int j)) (hd:C7 E dst=some (.int .u8)) (hx:Ce x l=some (.int kx (a:Nat))) (h:a<256):Wj E o l (.int .u8 (a:Nat)):=by
 have:=Gm (E:=E) (l:=l) ho hs hd hx;unfold Y4 at this;rwa[show IntKind.u8.wrap (a:Int)=(a:Int)from by rw[IntKind.wrap_u8];omega]at this
theorem BP {E:Env} {fr:Fr} {l:Sl} {s:St} {o:Oper} {src dst e:TypeId} {x:Operand} {a v:AV} (ho:o.op= .convert src dst x) (hs:C7 E src=some (.slice e)) (hd:C7 E dst=some .string) (hb:isByte E e=true) (hx:Ce x l=some a) (hv:ct s a=some v):Ws E o fr l s v s:=fun T hT=>
 GI (x:=Cc E x) (f:=fun T s=>(Cc E x T).bind (ct s)) (by
  rw[ho];show cu E src dst x=_;unfold cu;rw[hs,hd];simp only[hb,cond_true]) (by simp only[Al hT hx,Qe,hv])
section
variable {E : Env} {fr : Fr} {l : Sl} {st s : St} {o : Oper} {all rest : List Oper} {i : Nat} {js : List Nat} {nl : W8} {K : Sl → St → Prop} {od : Option Nat}
theorem Mf {c:Call} {f:Nat} {args:List AV} {R:AV→St→Prop} (hb:CI E f=true) (ho:o.op= .call c) (hc:c.callee= .value (.func f)) (ha:Xd c.args.toList l=some args) (h:Wf E f args s R):∀T,Has l T→∃v s',bY E o fr T s v s'∧R v s':=by
 intro T hT;have XX:Xg E o.type o.op= .call (fun T _=>(CO E c.args.toList T).bind fun args=>some (f,args)):=by
  rw[ho];show VV E o.type c=_;unfold VV;rw[hc];simp only[hb,cond_true]
 obtain⟨N,cr,hr,hm⟩:=h;have key:∀n,N≤n→(((CO E c.args.toList T).bind fun args=>some (f,args)).bind fun p=>We E (ev E n) p.1 p.2 s)=some cr:=fun n hn=>by
  rw[B4 hT ha];simp only[Qe];exact hr n hn
 cases cr with
 |same v=>exact⟨v,s,⟨N,fun n hn k=>by
  rw[XX];show Xy fr T s (k.run (ev E n) fr T) (((CO E c.args.toList T).bind fun args=>some (f,args)).bind fun p=>We E (ev E n) p.1 p.2 s)=_;rw[key n hn];rfl⟩,hm⟩
 |val v s'=>exact⟨v,s',⟨N,fun n hn k=>by
  rw[XX];show Xy fr T s (k.run (ev E n) fr T) (((CO E c.args.toList T).bind fun args=>some (f,args)).bind fun p=>We E (ev E n) p.1 p.2 s)=_;rw[key n hn];rfl⟩,hm⟩
 |WD _ _=>exact hm.elim
theorem FK {c:Call} {f:Nat} (hb:CI E f=true) (ho:o.op= .call c) (hc:c.callee= .value (.func f)):WH (Xg E o.type o.op)=true∧∀T,Wh (Xg E o.type o.op) T= .all:=by
 have XX:Xg E o.type o.op= .call (fun T _=>(CO E c.args.toList T).bind fun args=>some (f,args)):=by
  rw[ho];show VV E o.type c=_;unfold VV;rw[hc];simp only[hb,cond_true]
 rw[XX];exact⟨rfl,fun _=>rfl⟩
theorem SE {KN:PN} {c:Call} {f:Nat} {args:List AV} {R:AV→St→Prop} (hb:CI E f=true) (ho:o.op= .call c) (hc:c.callee= .value (.func f)) (ha:Xd c.args.toList (VM (tmpsOf o.op.operands.toList) l)=some args)
 (h:Wf E f args (st.sub st.heap) R) (eu:cR (Ok all i) js=true) (aC:(nl.all fun p=>Nat.testBit (Ok all i) p.1)=true) (hg:Wc all l o) (hd:o.dst=od) (C6:WA fr.nt od=true)
 (hk:∀v s2,R v s2→st.next≤s2.next∧(∀b∈s2.log,b<st.next)∧∀ez,VH E KN all rest (i+1) fr (Xe od v l) (st.merged s2) (i::js) ez K):VH E KN all (o::rest) i fr l st js nl K:=
 V0 (FK hb ho hc).1 (FK hb ho hc).2 eu aC hg hd C6 fun T hT=>
  let⟨v,s2,h1,h2⟩:=Mf hb ho hc ha h T hT
  ⟨v,s2,h1,hk v s2 h2⟩
end
theorem SF {KN:PN} {E:Env} {fr:Fr} {l:Sl} {st:St} {o:Oper} {all rest:List Oper} {i:Nat} {js:List Nat} {nl:W8} {K:Sl→St→Prop} {od:Option Nat} {c:Call} {f:Nat} {args:List AV} {v:AV} (hb:CI E f=true) (ho:o.op= .call c) (hc:c.callee= .value (.func f))
 (ha:Xd c.args.toList (VM (tmpsOf o.op.operands.toList) l)=some args) (h:Wf E f args (st.sub st.heap) fun x s2=>x=v∧s2=st.sub st.heap) (aC:(nl.all fun p=>Nat.testBit (Ok all i) p.1)=true) (hg:Wc all l o) (hd:o.dst=od) (C6:WA fr.nt od=true)
 (hk:VH E KN all rest (i+1) fr (Xe od v l) st (i::js) nl K):VH E KN all (o::rest) i fr l st js nl K:=
 KO (FK hb ho hc).1 (fun T _=>(FK hb ho hc).2 T) (fun T hT=>by
  obtain⟨x,s2,h1,rfl,rfl⟩:=Mf hb ho hc ha h T hT;exact h1) aC hg hd C6 hk
structure Cg (s s':St):Prop where
 bound:s'.bound=s.bound
 more:∀c∈s.log,c∈s'.log
 same:∀c,c<s.bound→c∉s'.log→s'.heap.get c=s.heap.get c
theorem Cg.refl {s:St}:Cg s s:=⟨rfl,fun _ h=>h,fun _ _ _=>rfl⟩
theorem Cg.trans {s s1 s2:St} (h:Cg s s1) (h2:Cg s1 s2):Cg s s2:=
 ⟨h2.bound.trans h.bound,fun c hc=>h2.more c (h.more c hc),fun c hc hn=>(h2.same c (by rw[h.bound];exact hc) hn).trans (h.same c hc fun hm=>hn (h2.more c hm))⟩
theorem Cg.put {s:St} {b:Nat} {o:Option CB}:Cg s (s.put b o):=
 ⟨rfl,fun _ hc=>Pp hc,fun c hc hn=>by
  rw[AL];split
  ·next e=>subst e;exact absurd (DJ hc) hn
  ·rfl⟩
theorem Cg.alloc {s:St} {o:CB} (hb:s.bound≤s.next):Cg s (s.alloc o):=
 ⟨rfl,fun _ hc=>hc,fun c hc _=>by
  show(s.heap.set s.next _).get c=_;rw[AF,if_neg (by omega)]⟩
theorem BS {n c:Nat}:∀ {L l:List Nat},(c∈L∧c<n)∨c∈l→c∈below n L l
 | [],l,h=>by
  rcases h with⟨h,_⟩|h
  ·cases h
  ·exact h
 |b::r,l,h=>by
  show c∈(bif Nat.blt b n then b::below n r l else below n r l);cases hb:Nat.blt b n with
  |true=>
   show c∈b::below n r l;rcases h with⟨h,hl⟩|h
   ·cases h with
    |head=>exact Qh
    |tail _ h=>exact Qg _ (BS (.inl ⟨h,hl⟩))
   ·exact Qg _ (BS (.inr h))
  |false=>
   show c∈below n r l;rcases h with⟨h,hl⟩|h
   ·cases h with
    |head=>have:=Qd (show c+1≤n from hl);rw[show Nat.blt c n=Nat.ble (c+1) n from rfl,this]at hb;cases hb
    |tail _ h=>exact BS (.inl ⟨h,hl⟩)
   ·exact BS (.inr h)
theorem Cg.back {s st:St} (h:Cg s.enter st) (hb:s.bound≤s.next):Cg s (s.back st):=
 ⟨rfl,fun c hc=>BS (.inr hc),fun c hc hn=>h.same c (Nat.lt_of_lt_of_le hc hb) fun hm=>hn (BS (.inl ⟨hm,hc⟩))⟩
theorem Cg.Xx {s:St} {b:Nat} {cap:Option Nat}:Cg s (Xx s b cap):=by
 unfold Am.Xx;cases bM cap with
 |true=>exact Cg.put
 |false=>exact Cg.refl
theorem Sz {s:St} {b:Nat} {cap:Option Nat}:(Xx s b cap).next=s.next∧(Xx s b cap).bound=s.bound:=by
 unfold Am.Xx;cases bM cap<;>exact⟨rfl,rfl⟩
theorem El {s s':St} {e:TypeId} {sz WJ n:Nat} {new:List AV} {v v':AV} (hb:s.bound≤s.next) (h:CA s e sz WJ new n v=some (v',s')):Cg s s':=by
 cases v with
 |Ca=>
  unfold CA at h;cases hn:Nat.beq n 0 with
  |true=>rw[hn]at h;cases h;exact Cg.refl
  |false=>
   cases hs:small n WJ with
   |true=>rw[hn,hs]at h;cases h;exact Cg.alloc hb
   |false=>rw[hn,hs]at h;cases h
 |Cd cs len Yp cl=>
  unfold CA at h;cases hn:Nat.beq n 0 with
  |true=>rw[hn]at h;cases h;exact Cg.refl
  |false=>rw[hn]at h;cases h
 |slice b off len Yp cap=>
  unfold CA at h;cases hn:Nat.beq n 0 with
  |true=>rw[hn]at h;cases h;exact Cg.refl
  |false=>
   rw[hn]at h;cases hs:(Nat.beq Yp sz&&small (len+n) WJ)with
   |false=>simp only[cond_false,hs]at h;cases h
   |true=>
    simp only[cond_false,hs,cond_true]at h;unfold YA at h;split at h
    ·next cs e0 sl _=>
     unfold ZH at h;cases hd:WM off cs with
     |none=>rw[hd]at h;cases h
     |some l=>
      rw[hd]at h;simp only[Qe]at h;cases hf:eT sz len n cap l with
      |true=>
       rw[hf]at h;simp only[cond_true]at h;cases ho:over new (off+len*sz) cs with
       |none=>rw[ho]at h;cases h
       |some XS=>rw[ho]at h;cases h;exact Cg.put
      |false=>
       rw[hf]at h;simp only[cond_false]at h;cases hq:(Nat.beq e e0|| !(bM cap))with
       |false=>rw[hq]at h;cases h
       |true=>
        rw[hq]at h;simp only[cond_true]at h;cases ht:takeN (len*sz) l with
        |none=>rw[ht]at h;cases h
        |some jC=>
         rw[ht]at h;cases h;exact Cg.Xx.trans (Cg.alloc (by rw[Sz.1,Sz.2];exact hb))
    ·cases h
 |_=>cases h
theorem DG {st s2:St} {h:Tr CB} (hn:st.next≤s2.next) (hl:Cg (st.sub h) s2) (hh:h=st.heap):∀c,c<s2.next→(st.merged s2).heap.get c=s2.heap.get c:=
 Uo hn fun c hc XG=>by subst hh;exact hl.same c hc XG
theorem Cg.region {st s2:St} (hn:st.next≤s2.next) (hl:Cg (st.sub st.heap) s2) (hb:st.bound≤st.next):Cg st (st.merged s2):=
 ⟨rfl,fun c hc=>BS (.inr hc),fun c hc XG=>(DG hn hl rfl c (by omega)).trans (hl.same c (show c<st.next by omega) fun hm=>XG (BS (.inl ⟨hm,hc⟩)))⟩
def X2 (s:St) (v:AV) (cs:List AV):Prop:=
 (v= .Ca∧cs=[])∨(∃cl,v= .Cd cs cs.length 1 cl)∨
  ∃b off cap bc e part,v= .slice b off cs.length 1 cap∧b<s.next∧s.heap.get b=some (.cells bc e part)∧off+cs.length≤bc.length∧(bc.drop off).take cs.length=cs
theorem X2.CW {s s':St} {v:AV} {cs:List AV} (h:X2 s v cs) (hn:s.next≤s'.next) (hh:∀c,Ci c v=true→s'.heap.get c=s.heap.get c):X2 s' v cs:=by
 rcases h with h|h|⟨b,off,cap,bc,e,part,rfl,hb,hg,h1,h2⟩
 ·exact .inl h
 ·exact .inr (.inl h)
 ·exact .inr (.inr ⟨b,off,cap,bc,e,part,rfl,by omega,(hh b (Nat.beq_refl b)).trans hg,h1,h2⟩)
theorem X2.own {s:St} {v:AV} {cs:List AV} (h:X2 s v cs) {c:Nat} (hc:Ci c v=true):c<s.next:=by
 rcases h with⟨rfl,_⟩|⟨_,rfl⟩|⟨b,off,cap,bc,e,part,rfl,hb,_⟩
 ·cases hc
 ·cases hc
 ·have:=Qb (show Nat.beq b c=true from hc);omega
theorem X2.len {s:St} {v:AV} {cs:List AV} (h:X2 s v cs):ao v=some (.int .i64 (cs.length:Nat)):=by
 rcases h with⟨rfl,rfl⟩|⟨_,rfl⟩|⟨b,off,cap,bc,e,part,rfl,_⟩<;>rfl
theorem X2.at {E:Env} {s:St} {v:AV} {cs:List AV} (h:X2 s v cs) {i:Nat} (hi:i<cs.length) {t:TypeId} (h1:isAgg E t=some false) (h2:sizeOf E t=some 1):∃p,CQ (0+1) i v=some p∧Wu E t s p=some cs[i]:=by
 have C6:Nat.blt i cs.length=true:=Qd hi;have sN:cs.drop i=cs[i]::cs.drop (i+1):=List.drop_eq_getElem_cons hi;rcases h with⟨rfl,rfl⟩|⟨_,rfl⟩|⟨b,off,cap,bc,e,part,rfl,hb,hg,aB,aZ⟩
 ·simp at hi
 ·refine⟨.WO (cs[i]::cs.drop (i+1)),?_,?_⟩
  ·show(bif Nat.blt i cs.length then(WM (i*(0+1)) cs).bind j9 else none)=_;rw[C6,Nat.zero_add,Nat.mul_one,Hc (by omega),sN];rfl
  ·unfold Wu;simp only[h1,h2];rfl
 ·refine⟨.ptr b (off+i*(0+1)),?_,?_⟩
  ·show(bif Nat.blt i cs.length then some (AV.ptr b (off+i*(0+1)))else none)=_;rw[C6];rfl
  ·refine Aj h1 h2 hg ?_;have:((bc.drop off).take cs.length)[i]?=some cs[i]:=by rw[aZ,Qi hi]
   rw[List.getElem?_take_of_lt hi,List.getElem?_drop]at this;rw[Nat.zero_add,Nat.mul_one];exact this
theorem X2.Cq {s:St} {α:Type} {enc:α→AV} (l:List α):X2 s (Cq (fun a=>[enc a]) 1 l) (l.map enc):=by
 have e:l.flatMap (fun a=>[enc a])=l.map enc:=by induction l with
  |nil=>rfl
  |cons a l ih=>rw[List.flatMap_cons,ih];rfl
 refine .inr (.inl ⟨true,?_⟩);unfold Am.Cq;rw[e,Qn]
theorem X2.new {s:St} {b:Nat} {cs:List AV} {e:TypeId} {part:Bool} {cap:Option Nat} (hg:s.heap.get b=some (.cells cs e part)) (hb:b<s.next) {n:Nat} (hn:n=cs.length):X2 s (.slice b 0 n 1 cap) cs:=by
 subst hn;exact .inr (.inr ⟨b,0,cap,cs,e,part,rfl,hb,hg,by omega,by rw[List.drop_zero,List.take_length]⟩)
def Wt (s:St) (e:TypeId) (v:AV) (cs:List AV):Prop:=
 ∃b cap part,v= .slice b 0 cs.length 1 cap∧cs≠ []∧b<s.next∧s.heap.get b=some (.cells cs e part)∧(cap=none∨cap=some cs.length)
theorem Wt.CW {s s':St} {e:TypeId} {v:AV} {cs:List AV} (h:Wt s e v cs) (hn:s.next≤s'.next) (hh:∀c,Ci c v=true→s'.heap.get c=s.heap.get c):Wt s' e v cs:=by
 obtain⟨b,cap,part,rfl,h0,hb,hg,hc⟩:=h;exact⟨b,cap,part,rfl,h0,by omega,(hh b (Nat.beq_refl b)).trans hg,hc⟩
theorem Wt.list {s:St} {e:TypeId} {v:AV} {cs:List AV} (h:Wt s e v cs):X2 s v cs:=by
 obtain⟨b,cap,part,rfl,h0,hb,hg,hc⟩:=h;exact X2.new hg hb U
theorem Wt.strs {s:St} {e:TypeId} {v:AV} {l:List (List UInt8)} (h:Wt s e v (l.map .str)):Xr s v l:=by
 obtain⟨b,cap,part,rfl,h0,hb,hg,hc⟩:=h;refine .inr (.inr ⟨b,0,cap,l.map .str,e,part,by rw[Qn],hb,hg,by rw[Qn];omega,by rw[List.drop_zero,←Qn (f:=AV.str),List.take_length],fun c vX=>?_⟩);rcases hc with rfl|rfl
 ·cases vX
 ·cases vX;rw[Qn];exact Qj _
theorem Wt.own {s:St} {e:TypeId} {v:AV} {cs:List AV} (h:Wt s e v cs) {c:Nat} (hc:Ci c v=true):c<s.next:=h.list.own hc
theorem Wt.under {s:St} {e:TypeId} {v:AV} {cs:List AV} (h:Wt s e v cs) {m:Nat} (hm:∀c,Ci c v=true→m≤c) (k:Nat):Cz m (k+1) v=false:=by
 obtain⟨b,cap,part,rfl,h0,hb,hg,hc⟩:=h;have:=hm b (Nat.beq_refl b);show Nat.blt b m=false;cases hh:Nat.blt b m with
 |false=>rfl
 |true=>have:=Qc hh;omega
theorem Wt.new {s:St} {e:TypeId} {cs:List AV} {part:Bool} {b n:Nat} (hg:s.heap.get b=some (.cells cs e part)) (hb:b<s.next) (h0:cs≠ []) (hn:n=cs.length):Wt s e (.slice b 0 n 1 (some n)) cs:=by
 subst hn;exact⟨b,_,part,rfl,h0,hb,hg,.inr U⟩
theorem Wt.append {s:St} {e:TypeId} {WJ:Nat} {v x:AV} {cs:List AV} (h:Wt s e v cs) (Y1:small (cs.length+1) WJ=true):
 ∃v' s',CA s e 1 WJ [x] 1 v=some (v',s')∧Wt s' e v' (cs++[x])∧(∀c,Ci c v'=true→c=s.next)∧s'.next=s.next+1∧s'.bound=s.bound∧(∀c∈s'.log,c∈s.log∨(c<s.bound∧Ci c v=true))∧
  ∀c,c<s.next→Ci c v=false→s'.heap.get c=s.heap.get c:=by
 obtain⟨b,cap,part,rfl,h0,hb,hg,hc⟩:=h;obtain⟨k,hk⟩:∃k,cs.length=k+1:=by cases cs with|nil=>exact absurd rfl h0|cons _ t=>exact⟨t.length,rfl⟩
 have YD:eT 1 cs.length 1 cap cs=false:=by
  rcases hc with rfl|rfl
  ·show Nat.ble ((cs.length+1)*1) (W6 cs)=false;rw[D1,Nat.mul_one];cases hb:Nat.ble (cs.length+1) cs.length with
   |false=>rfl
   |true=>have:=Qc hb;omega
  ·show Nat.ble (cs.length+1) cs.length=false;cases hb:Nat.ble (cs.length+1) cs.length with
   |false=>rfl
   |true=>have:=Qc hb;omega
 have hap:CA s e 1 WJ [x] 1 (.slice b 0 cs.length 1 cap)=some (.slice s.next 0 (cs.length+1) 1 none,(Xx s b cap).alloc (.cells (cs++[x]) e true)):=by
  unfold CA;simp only[show Nat.beq 1 0=false from rfl,cond_false,Nat.beq_refl,Y1,Bool.and_self,cond_true,hg,YA,ZH];rw[show WM 0 cs=some cs from rfl];simp only[Qe,YD,cond_false,Bool.true_or,cond_true];rw[Nat.mul_one,HF];rfl
 have bO:(Xx s b cap).next=s.next∧(Xx s b cap).bound=s.bound:=Sz;have Y2:∀c,Ci c (.slice b 0 cs.length 1 cap)=false→(Xx s b cap).heap.get c=s.heap.get c:=fun c ho=>by
  have kV:c≠b:=fun h=>by subst h;rw[show Ci c (.slice c 0 cs.length 1 cap)=true from Nat.beq_refl c]at ho;cases ho
  unfold Xx;cases bM cap with
  |true=>show(s.put b none).heap.get c=_;rw[AL,if_neg kV]
  |false=>rfl
 have Wm:∀c∈(Xx s b cap).log,c∈s.log∨(c<s.bound∧Ci c (.slice b 0 cs.length 1 cap)=true):=fun c hc=>by
  unfold Xx at hc;cases ht:bM cap with
  |true=>
   rw[ht]at hc;rcases H2 (show c∈(s.put b none).log from hc)with h|⟨rfl,h⟩
   ·exact .inl h
   ·exact .inr ⟨h,Nat.beq_refl _⟩
  |false=>rw[ht]at hc;exact .inl hc
 refine⟨_,_,hap,⟨s.next,none,true,by rw[Qm];rfl,by simp,by show s.next<(Xx s b cap).next+1;omega,?_,.inl U⟩,fun c hc=>(Qb (show Nat.beq s.next c=true from hc)).symm,by show(Xx s b cap).next+1=_;omega,bO.2,Wm,fun c hc ho=>?_⟩
 ·show((Xx s b cap).heap.set (Xx s b cap).next _).get s.next=_;rw[bO.1,AF,if_pos rfl]
 ·show((Xx s b cap).heap.set (Xx s b cap).next _).get c=_;rw[bO.1,AF,if_neg (by omega),Y2 c ho]
theorem Uw {E:Env} {f:FuncId} {v:AV} {s st:St} {R:AV→St→Prop} (hf:E.nX f=0) (h1:st.log=[]→Cz s.next 40 v=true→R v s) (h2:R v (s.back st)):
 ∃cr,leave E f s v st=some cr∧match cr with
  | .same v=>R v s
  | .val v s'=>R v s'
  | .WD _ _=>False:=by
 have e:leave E f s v st=some (Yx s v st st.log):=by
  unfold leave frozen;rw[hf];rfl
 rw[e];refine⟨_,rfl,?_⟩;cases hl:st.log with
 |nil=>
  show match(bif Cz s.next 40 v then CR.same v else CR.val v (s.back st))with
   | .same v=>R v s
   | .val v s'=>R v s'
   | .WD _ _=>False
  cases hu:Cz s.next 40 v with
  |true=>exact h1 hl hu
  |false=>exact h2
 |cons _ _=>exact h2
def aD (nl:W8) (i n:Nat) (lg:List Nat) (ez:W8):Prop:=∀p∈ez,p∈nl∨(p.1=i∧(n≤p.2∨p.2∈lg))
theorem I7 {nl:W8} {i n k:Nat} {lg:List Nat}:aD nl i n lg (Xi i (Xi i nl (Yb n k)) lg):=fun p hp=>by
 rcases LZ.1 hp with⟨h1,h2⟩|hp
 ·exact .inr ⟨h1,.inr h2⟩
 ·rcases LZ.1 hp with⟨h1,h2⟩|hp
  ·exact .inr ⟨h1,.inl (Mu.1 h2).1⟩
  ·exact .inl hp
theorem aD.all {nl ez:W8} {i n a:Nat} {lg:List Nat} (h:aD nl i n lg ez) (h1:(nl.all fun p=>Nat.testBit a p.1)=true) (h2:Nat.testBit a i=true):(ez.all fun p=>Nat.testBit a p.1)=true:=
 List.all_eq_true.2 fun p hp=>by
  rcases h p hp with hp|⟨rfl,_⟩
  ·exact List.all_eq_true.1 h1 p hp
  ·exact h2
theorem aD.clear {nl ez:W8} {i n a b:Nat} {lg:List Nat} (h:aD nl i n lg ez) (h1:Xk a b nl=true) (hb:b<n) (hl:b∉lg):Xk a b ez=true:=
 List.all_eq_true.2 fun p hp=>by
  rcases h p hp with hp|⟨_,h2⟩
  ·exact List.all_eq_true.1 h1 p hp
  ·have Xl:p.2≠b:=fun e=>by
    rcases h2 with h2|h2
    ·omega
    ·exact hl (e▸h2)
   cases hh:Nat.beq p.2 b with
   |false=>rfl
   |true=>exact absurd (Qb hh) Xl
section
variable {E : Env} {fr : Fr} {l : Sl} {st : St} {o : Oper} {all rest : List Oper} {i : Nat} {js : List Nat} {nl : W8} {K : Sl → St → Prop} {od : Option Nat}
theorem SG {KN:PN} (hq:WH (Xg E o.type o.op)=true) (fE:∀T,Wh (Xg E o.type o.op) T= .all) (eu:cR (Ok all i) js=true) (aC:(nl.all fun p=>Nat.testBit (Ok all i) p.1)=true) (hg:Wc all l o) (hd:o.dst=od) (C6:WA fr.nt od=true)
 (h:∀T,Has (VM (tmpsOf o.op.operands.toList) l) T→∃v s2,bY E o fr T (st.sub st.heap) v s2∧st.next≤s2.next∧(∀b∈s2.log,b<st.next)∧∀ez,aD nl i st.next s2.log ez→VH E KN all rest (i+1) fr (Xe od v l) (st.merged s2) (i::js) ez K):VH E KN all (o::rest) i fr l st js nl K:=by
 intro T0 T news looked hT Zx gU dO;obtain⟨v,s2,⟨N,hN⟩,az,Wm,h⟩:=h _ (hT.VM (tmpsOf o.op.operands.toList));let dd:fJ:=Yr E all i o
 let q:Zv:=⟨T,st,news,looked⟩
 let TP:=Xb T (tmpsOf o.op.operands.toList) .nil
 let re:=aU dd q (.all,v,s2)
 have YI:dd.CS=Ok all i:=rfl;obtain⟨M,ex,l',T',s',hk,hr⟩:=h (Xi i (Xi i nl (Yb st.next (s2.next-st.next))) s2.log) (I7 (n:=st.next) (lg:=s2.log)) T0 (bf od v T) (Xi i (Xi i news (Yb st.next (s2.next-st.next))) s2.log) ((i,.all,re)::looked) (hT.Xe od v)
  (fun p hp=>DQ (fun p hp=>DQ Zx hp) hp) (fun p hp=>by
  rcases Qk.1 hp with rfl|hp
  ·exact .inl (Qh ..)
  ·exact(gU p hp).imp (Qg _) id) dO.cons
 refine⟨max N M,ex,l',T',s',hk,fun n hn=>?_⟩;have bj:WS E (ev E n) fr dd q TP=some (.all,v,s2):=by
  unfold WS;have vq:WH dd.so=true:=hq;rw[vq];simp only[cond_true];have ht:Wh dd.so TP= .all:=fE TP;rw[ht];have Xp:=hN n (by omega) K0;have hH:VP (Ok all i) news st.heap .all=st.heap:=FF aC Zx;show Ye .all ((WW E (Xg E o.type o.op) K0).run (ev E n) fr TP (st.sub (VP dd.CS news st.heap .all)))=_;rw[YI,hH,Xp];rfl
 have nB:∀L:List Nat,(∀b∈L,b<st.next)→Wp dd.CS st.next s2.next s2.heap q L=true:=by
  intro L;induction L with
  |nil=>intro _;rfl
  |cons b L ih=>
   intro hL;unfold Wp;have h1:Nat.blt b st.next=true:=Qd (hL b (Qh ..));have h2:X4 dd.CS b q.news=false:=BT (Dr aC) Zx;have h3:YB dd.CS b s2.next (s2.heap.get b) q.looked=true:=Ik eu gU;rw[h1,h2,h3,ih fun c hc=>hL c (Qg _ hc)];rfl
 have ae:VF fr.nt dd q (.all,v,s2)=some ⟨bf od v T,st.merged s2,Xi i (Xi i news (Yb st.next (s2.next-st.next))) s2.log,(i,.all,re)::looked⟩:=by
  unfold VF;have h1:Nat.ble q.st.next s2.next=true:=Qd az;have h2:Wp dd.CS q.st.next s2.next s2.heap q s2.log=true:=nB s2.log Wm;have h3:dd.o.dst=od:=hd;simp only[h1,h2,h3,Bool.and_self,cond_true,I5 C6,Qe];rfl
 exact Ew (runN hT hg bj) ae (hr n (by omega))
theorem Gj {KN:PN} {c:Call} {f:Nat} {args:List AV} {R:AV→St→Prop} (hb:CI E f=true) (ho:o.op= .call c) (hc:c.callee= .value (.func f)) (ha:Xd c.args.toList (VM (tmpsOf o.op.operands.toList) l)=some args)
 (h:Wf E f args (st.sub st.heap) R) (eu:cR (Ok all i) js=true) (aC:(nl.all fun p=>Nat.testBit (Ok all i) p.1)=true) (hg:Wc all l o) (hd:o.dst=od) (C6:WA fr.nt od=true)
 (hk:∀v s2,R v s2→st.next≤s2.next∧(∀b∈s2.log,b<st.next)∧∀ez,aD nl i st.next s2.log ez→VH E KN all rest (i+1) fr (Xe od v l) (st.merged s2) (i::js) ez K):VH E KN all (o::rest) i fr l st js nl K:=
 SG (FK hb ho hc).1 (FK hb ho hc).2 eu aC hg hd C6 fun T hT=>
  let⟨v,s2,h1,h2⟩:=Mf hb ho hc ha h T hT
  ⟨v,s2,h1,hk v s2 h2⟩
end
theorem VC {E:Env} {fr:Fr} {l:Sl} {s:St} {Q:Ex→Fr→Sl→St→Prop} {c:Code} {α:Type} (I:α→Sl×St) (G:α→Prop) (h1:Ch E c fr l s fun ex Xz l' s'=>ex= .normal∧Xz=fr∧∃x,G x∧s'=(I x).2∧∀p∈(I x).1,look p.1 l'=some p.2)
 (h2:∀x l',G x→(∀p∈(I x).1,look p.1 l'=some p.2)→Q .normal fr l' (I x).2):Ch E c fr l s Q:=
 h1.mono fun ex Xz l' s' ⟨e1,e2,x,hx,e3,e4⟩=>by
  subst e1 e2 e3;exact h2 x l' hx e4
theorem Ch.at {E:Env} {fr:Fr} {l l':Sl} {s s':St} {Q:Ex→Fr→Sl→St→Prop} {c:Code} (hs:s=s') (hl:∀p∈l',look p.1 l=some p.2) (h:Ch E c fr l' s' Q):Ch E c fr l s Q:=by
 subst hs;exact Ch.sub h hl
theorem Wt.one {C:St} {e:TypeId} {WJ:Nat} {v x:AV} {cs:List AV} (h:Wt C e v cs) (Y1:small (cs.length+1) WJ=true):
 ∃v' s2,CA ((C.alloc (.cells [x] e false)).sub (C.alloc (.cells [x] e false)).heap) e 1 WJ [x] 1 v=some (v',s2)∧C.next+1≤s2.next∧(∀b∈s2.log,b<C.next+1)∧Wt ((C.alloc (.cells [x] e false)).merged s2) e v' (cs++[x])∧(∀k,Ci k v'=true→C.next≤k)∧
  CL (C.alloc (.cells [x] e false)) ((C.alloc (.cells [x] e false)).merged s2) (fun k=>Ci k v=true):=by
 have hA:Wt ((C.alloc (.cells [x] e false)).sub (C.alloc (.cells [x] e false)).heap) e v cs:=h.CW (Nat.le_succ _) fun c hc=>AT (h.own hc);obtain⟨v',s2,ha,hf,ho,hn,hb,YR,hhp⟩:=hA.append (x:=x) Y1;have hL:Cg ((C.alloc (.cells [x] e false)).sub (C.alloc (.cells [x] e false)).heap) s2:=El (Qj _) ha;have hn':s2.next=C.next+1+1:=hn;have lO:=DG (st:=C.alloc (.cells [x] e false)) (show C.next+1≤s2.next by omega) hL rfl;refine⟨v',s2,ha,by omega,fun b hb=>?_,hf.CW (Qj _) fun k hk=>lO k (hf.own hk),fun k hk=>?_,CL.merged ⟨by show C.next+1≤_;omega,hb,YR,fun c hc ho=>hhp c hc (by simpa using ho)⟩⟩
 ·rcases YR b hb with h|⟨h,_⟩
  ·cases h
  ·exact h
 ·have:=ho k hk;have e:((C.alloc (.cells [x] e false)).sub (C.alloc (.cells [x] e false)).heap).next=C.next+1:=rfl;omega
section
variable {E : Env} {fr : Fr} {l : Sl} {st : St} {o : Oper} {all rest : List Oper} {i p : Nat} {js : List Nat} {nl : W8} {K : Sl → St → Prop} {od : Option Nat} {KN : PN}
def PN.add (KN:PN) (e:Rd):PN:= {KN with rl:=e::KN.rl}
theorem Lf {b o n k:Nat} {c:Option Nat}:eqU (.slice b o n k c) (.slice b o n k c)=true:=by
 unfold eqU Zu fb;simp only[Nat.beq_refl,Bool.true_and,Bool.or_eq_true];refine .inr ?_;cases c with
 |none=>rfl
 |some k=>exact Nat.beq_refl k
theorem Hh {t:TypeId} {a:Operand} {v:AV} {b off:Nat} {cs:List AV} {e:TypeId} {part:Bool} (ho:o.op= .load t a) (h1:isAgg E t=some false) (h2:sizeOf E t=some 1) (ha:Ce a (VM (tmpsOf o.op.operands.toList) l)=some (.ptr b off))
 (gi:st.heap.get b=some (.cells cs e part)) (hv:cs[off]?=some v) (he:eqU v v=true) (hu:Cz st.next 40 v=true) (hc:Xk (Ok all i) b nl=true) (hg:Wc all l o) (hd:o.dst=od) (C6:WA fr.nt od=true)
 (h:VH E (KN.add (i,b,fun _ ob=>∃cs e part,ob=some (.cells cs e part)∧cs[off]?=some v)) all rest (i+1) fr (Xe od v l) st (i::js) nl K):VH E KN all (o::rest) i fr l st js nl K:=by
 have hld:∀(s:St) (cs:List AV) (e:TypeId) (part:Bool),s.heap.get b=some (.cells cs e part)→cs[off]?=some v→Wu E t s (.ptr b off)=some v:=by
  intro s cs e part hb VX;exact Aj h1 h2 hb VX
 intro T0 T news looked hT Zx gU dO;let dd:fJ:=Yr E all i o
 let q:Zv:=⟨T,st,news,looked⟩
 let TP:=Xb T (tmpsOf o.op.operands.toList) .nil
 let H:=Tr.set .nil b (st.heap.get b)
 let re:=aU dd q (.block b,v,st.sub H)
 have aH:dd.so= .read (Cc E a) fun T s=>(Cc E a T).bind (Wu E t s):=by
  show Xg E o.type o.op=_;rw[ho];rfl
 have hTP:Has (VM (tmpsOf o.op.operands.toList) l) TP:=hT.VM _;have hre:∀n ob,(∃cs e part,ob=some (.cells cs e part)∧cs[off]?=some v)→re n ob=true:=by
  rintro n ob ⟨cs,e,part,rfl,VX⟩;show aU dd q (.block b,v,st.sub H) n _=true;unfold aU;rw[aH];simp only;have:(Cc E a TP).bind (Wu E t {next:=n,bound:=n,log:=[],heap:=Tr.set .nil b (some (.cells cs e part))})=some v:=by
   rw[Al hTP ha];exact hld _ cs e part (by show(Tr.set .nil b _).get b=_;rw[AF,if_pos rfl]) VX
  rw[Qf];refine⟨?_,hu⟩;show kR v ((Cc E a TP).bind _)=true;rw[this];exact he
 obtain⟨M,ex,l',T',s',hk,hr⟩:=h T0 (bf od v T) news ((i,.block b,re)::looked) (hT.Xe od v) Zx (fun p hp=>by
  rcases Qk.1 hp with rfl|hp
  ·exact .inl (Qh ..)
  ·exact(gU p hp).imp (Qg _) id) ⟨fun e he=>by
   rcases Qk.1 he with rfl|he
   ·exact Nat.lt_succ_self _
   ·exact Nat.lt_succ_of_lt (dO.1 e he),(dO.cons (bV:= .block b) (re:=re)).2.1,fun p hp e he x=>by
   rcases Qk.1 he with rfl|he
   ·rcases Qk.1 hp with rfl|hp
    ·exact⟨rfl,hre⟩
    ·have:=dO.2.1 p hp;have x:p.1=i:=x;omega
   ·exact(dO.cons (bV:= .block b) (re:=re)).2.2 p hp e he x⟩
 refine⟨M,ex,l',T',s',hk,fun n hn=>?_⟩;have bj:WS E (ev E n) fr dd q TP=some (.block b,v,st.sub H):=by
  unfold WS;rw[aH];show Ye (ef (Z5 (Cc E a TP))) _=_;have ht:ef (Z5 (Cc E a TP))= .block b:=by rw[Al hTP ha];rfl
  rw[ht];show Ye (.block b) (Xh (fun v=>K0.run (ev E n) fr TP v (st.sub (VP dd.CS news st.heap (Wh (.read (Cc E a) fun T s=>(Cc E a T).bind (Wu E t s)) TP)))) ((Cc E a TP).bind (Wu E t (st.sub (VP dd.CS news st.heap (Wh (.read (Cc E a) fun T s=>(Cc E a T).bind (Wu E t s)) TP))))))=_;have ht2:Wh (.read (Cc E a) fun T s=>(Cc E a T).bind (Wu E t s)) TP= .block b:=ht;have hs:VP dd.CS news st.heap (.block b)=H:=by
   show(bif X4 (Ok all i) b news then _ else _)=_;rw[BT hc Zx];rfl
  rw[ht2,hs,Al hTP ha];have:Wu E t (st.sub H) (.ptr b off)=some v:=hld _ cs e part (by show(Tr.set .nil b (st.heap.get b)).get b=_;rw[AF,if_pos rfl];exact gi) hv;simp only[Qe,this,Xh];rfl
 exact Ew (runN hT hg bj) (F7 (nt:=fr.nt) (d:=dd) (q:=q) (bV:= .block b) (v:=v) (H:=H) (od:=od) hd C6) (hr n (by omega))
def WB (E:Env) (all rest:List Oper) (i p:Nat) (fr:Fr) (l:Sl) (st:St):Prop:=
 ∀(T:Tr AV) (news:W8) (looked:Zp),Has l T→∃N,∀n,N≤n→∃q',Zf E all (ev E n) fr p (XM E (VL all) rest i) ⟨T,st,news,looked⟩=some q'∧q'.st=st
theorem WB.done:WB E all [] i p fr l st:=fun T news looked _=>⟨0,fun _ _=>⟨_,rfl,rfl⟩⟩
theorem WB.desc (hx:Nat.testBit (Ok all i) p=true) (hd:o.dst=od) (C6:WA fr.nt od=true) (h:WB E all rest (i+1) p fr (Xe od (.tuple []) l) st):WB E all (o::rest) i p fr l st:=by
 intro T news looked hT;let dd:fJ:=Yr E all i o
 let q:Zv:=⟨T,st,news,looked⟩
 obtain⟨N,hN⟩:=h (bf od (.tuple []) T) news ((i,.nothing,aU dd q (.nothing,.tuple [],st.sub .nil))::looked) (hT.Xe od _);refine⟨N,fun n hn=>?_⟩;obtain⟨q',h1,h2⟩:=hN n hn;refine⟨q',?_,h2⟩;show(bif Nat.testBit dd.CS p then(VF fr.nt dd q (.nothing,.tuple [],q.st.sub .nil)).bind fun q'=>Zf E all (ev E n) fr p (XM E (VL all) rest (i+1)) q' else _)=_;have:Nat.testBit dd.CS p=true:=hx;rw[this,cond_true,F7 (nt:=fr.nt) (d:=dd) (q:=q) (bV:= .nothing) (v:= .tuple []) (H:= .nil) (od:=od) hd C6];exact h1
theorem WB.q {v:AV} (hx:Nat.testBit (Ok all i) p=false) (ho:Wj E o (VM (tmpsOf o.op.operands.toList) l) v) (hg:Wc all l o) (hd:o.dst=od) (C6:WA fr.nt od=true) (h:WB E all rest (i+1) p fr (Xe od v l) st):WB E all (o::rest) i p fr l st:=by
 intro T news looked hT;let dd:fJ:=Yr E all i o
 let q:Zv:=⟨T,st,news,looked⟩
 let TP:=Xb T (tmpsOf o.op.operands.toList) .nil
 have hTP:Has (VM (tmpsOf o.op.operands.toList) l) TP:=hT.VM _;obtain⟨N,hN⟩:=h (bf od v T) news ((i,.nothing,aU dd q (.nothing,v,st.sub .nil))::looked) (hT.Xe od v);refine⟨N,fun n hn=>?_⟩;obtain⟨q',h1,h2⟩:=hN n hn;refine⟨q',?_,h2⟩;have bj:WS E (ev E n) fr dd q TP=some (.nothing,v,st.sub .nil):=by
  unfold WS;have:WH dd.so=true:=ho.1;rw[this];simp only[cond_true];have ht:Wh dd.so TP= .nothing:=(ho.2 TP hTP).1;rw[ht];show Ye .nothing ((WW E (Xg E o.type o.op) K0).run (ev E n) fr TP (st.sub .nil))=_;rw[(ho.2 TP hTP).2 (ev E n) fr _ K0];rfl
 show(bif Nat.testBit dd.CS p then _ else(Wx E all (ev E n) fr dd q).bind fun r=>bif Nat.beq r.2.2.next q.st.next&&nv r.2.2.log then(VF fr.nt dd q r).bind fun q'=>Zf E all (ev E n) fr p (XM E (VL all) rest (i+1)) q' else none)=_;have:Nat.testBit dd.CS p=false:=hx;rw[this,cond_false,runN hT hg bj];show(bif Nat.beq st.next st.next&&true then _ else _)=_;rw[Nat.beq_refl];show(VF fr.nt dd q (.nothing,v,st.sub .nil)).bind _=_;rw[F7 (nt:=fr.nt) (d:=dd) (q:=q) (bV:= .nothing) (v:=v) (H:= .nil) (od:=od) hd C6];exact h1
def RdW (KN:PN) (CS:Nat) (s2:St):Prop:=∀e∈KN.rl,Nat.testBit CS e.1=true∨e.2.1∉s2.log∨e.2.2 s2.next (s2.heap.get e.2.1)
theorem UU {CS b:Nat} {s2:St} (eu:∀j∈js,Nat.testBit CS j=true∨∃e∈KN.rl,e.1=j) (hw:RdW KN CS s2) (hb:b∈s2.log):∀ {L:Zp},(∀p∈L,p.1∈js∨p.2.1= .nothing)→(∀p∈L,∀e∈KN.rl,p.1=e.1→p.2.1= .block e.2.1∧∀n o,e.2.2 n o→p.2.2 n o=true)→
 YB CS b s2.next (s2.heap.get b) L=true
 | [],_,_=>rfl
 |p::L,hL,hr=>by
  unfold YB;have ih:=UU eu hw hb (fun q hq=>hL q (Qg _ hq)) fun q hq=>hr q (Qg _ hq);cases ht:Nat.testBit CS p.1 with
  |true=>exact ih
  |false=>
   rw[cond_false];rcases hL p (Qh ..)with h1|h1
   ·rcases eu _ h1 with h2|⟨e,he,h2⟩
    ·rw[ht]at h2;cases h2
    ·obtain⟨h3,h4⟩:=hr p (Qh ..) e he h2.symm;rw[h3];show(bif Nat.beq b e.2.1 then _ else _)=_;cases hq:Nat.beq b e.2.1 with
     |false=>exact ih
     |true=>
      have:=Qb hq;subst this;have h5:p.2.2 s2.next (s2.heap.get e.2.1)=true:=by
       rcases hw e he with h6|h6|h6
       ·rw[h2,ht]at h6;cases h6
       ·exact absurd hb h6
       ·exact h4 _ _ h6
      rw[h5,ih];rfl
   ·rw[h1];exact ih
theorem O3 {CS:Nat} (h:(nl.all fun p=>Nat.testBit CS p.1)=true):∀ {news:W8},(∀p∈news,p∈nl)→b6 CS news=true
 | [],_=>rfl
 |p::news,hn=>by
  unfold b6;rw[Qf];exact⟨List.all_eq_true.1 h p (hn p (Qh ..)),O3 h fun q hq=>hn q (Qg _ hq)⟩
theorem Vz (VJ:(∃F,Xg E o.type o.op= .call F)∨∃F A,Xg E o.type o.op= .ZB F A) (eu:∀j∈js,Nat.testBit (Ok all i) j=true∨∃e∈KN.rl,e.1=j) (aC:(nl.all fun p=>Nat.testBit (Ok all i) p.1)=true) (hg:Wc all l o) (hd:o.dst=od) (C6:WA fr.nt od=true)
 (h:∀T,Has (VM (tmpsOf o.op.operands.toList) l) T→
  (∃v s2,bY E o fr T (st.sub st.heap) v s2∧st.next≤s2.next∧(∀b∈s2.log,b<st.next)∧RdW KN (Ok all i) s2∧∀ez,aD nl i st.next s2.log ez→VH E KN all rest (i+1) fr (Xe od v l) (st.merged s2) (i::js) ez K)∨
  ∃v s2,(∃N,∀n,N≤n→∀k:mT,(WW E (Xg E o.type o.op) k).run (ev E n) fr T (st.sub st.heap)= .one ⟨.panic v,fr,T,s2⟩)∧st.next≤s2.next∧(∀b∈s2.log,b<st.next)∧RdW KN (Ok all i) s2∧
   KN.WD v (st.merged s2)∧WB E all rest (i+1) i fr (Xe od (.tuple []) l) (st.merged s2)):VH E KN all (o::rest) i fr l st js nl K:=by
 intro T0 T news looked hT Zx gU dO;let dd:fJ:=Yr E all i o
 let q:Zv:=⟨T,st,news,looked⟩
 let TP:=Xb T (tmpsOf o.op.operands.toList) .nil
 have YI:dd.CS=Ok all i:=rfl;have fE:∀T,Wh dd.so T= .all:=fun T=>by
  show Wh (Xg E o.type o.op) T= .all;rcases VJ with⟨F,h⟩|⟨F,A,h⟩<;>rw[h]<;>rfl
 have vq:WH dd.so=true:=by
  show WH (Xg E o.type o.op)=true;rcases VJ with⟨F,h⟩|⟨F,A,h⟩<;>rw[h]<;>rfl
 have hH:VP (Ok all i) news st.heap .all=st.heap:=FF aC Zx;have ae:∀(v:AV) (s2:St),st.next≤s2.next→(∀b∈s2.log,b<st.next)→RdW KN (Ok all i) s2→VF fr.nt dd q (.all,v,s2)=some ⟨bf od v T,st.merged s2,Xi i (Xi i news (Yb st.next (s2.next-st.next))) s2.log,(i,.all,aU dd q (.all,v,s2))::looked⟩:=by
  intro v s2 az Wm hw;have nB:∀L:List Nat,(∀b∈L,b<st.next∧b∈s2.log)→Wp dd.CS st.next s2.next s2.heap q L=true:=by
   intro L;induction L with
   |nil=>intro _;rfl
   |cons b L ih=>
    intro hL;unfold Wp;have h1:Nat.blt b st.next=true:=Qd (hL b (Qh ..)).1;have h2:X4 dd.CS b q.news=false:=BT (Dr aC) Zx;have h3:YB dd.CS b s2.next (s2.heap.get b) q.looked=true:=UU eu hw (hL b (Qh ..)).2 gU dO.2.2;rw[h1,h2,h3,ih fun c hc=>hL c (Qg _ hc)];rfl
  unfold VF;have h1:Nat.ble q.st.next s2.next=true:=Qd az;have h2:Wp dd.CS q.st.next s2.next s2.heap q s2.log=true:=nB s2.log fun b hb=>⟨Wm b hb,hb⟩;have h3:dd.o.dst=od:=hd;simp only[h1,h2,h3,Bool.and_self,cond_true,I5 C6,Qe];rfl
 rcases h _ (hT.VM (tmpsOf o.op.operands.toList))with⟨v,s2,⟨N,hN⟩,az,Wm,hw,h⟩|⟨v,s2,⟨N,hN⟩,az,Wm,hw,p8,ZR⟩
 ·obtain⟨M,ex,l',T',s',hk,hr⟩:=h (Xi i (Xi i nl (Yb st.next (s2.next-st.next))) s2.log) (I7 (n:=st.next) (lg:=s2.log)) T0 (bf od v T) (Xi i (Xi i news (Yb st.next (s2.next-st.next))) s2.log) ((i,.all,aU dd q (.all,v,s2))::looked) (hT.Xe od v)
   (fun p hp=>DQ (fun p hp=>DQ Zx hp) hp) (fun p hp=>by
   rcases Qk.1 hp with rfl|hp
   ·exact .inl (Qh ..)
   ·exact(gU p hp).imp (Qg _) id) dO.cons
  refine⟨max N M,ex,l',T',s',hk,fun n hn=>?_⟩;have bj:WS E (ev E n) fr dd q TP=some (.all,v,s2):=by
   unfold WS;rw[vq];simp only[cond_true];rw[fE TP];show Ye .all ((WW E (Xg E o.type o.op) K0).run (ev E n) fr TP (st.sub (VP dd.CS news st.heap .all)))=_;rw[YI,hH,hN n (by omega) K0];rfl
  exact Ew (runN hT hg bj) (ae v s2 az Wm hw) (hr n (by omega))
 ·obtain⟨M,hM⟩:=ZR (bf od (.tuple []) T) (Xi i (Xi i news (Yb st.next (s2.next-st.next))) s2.log) ((i,.all,aU dd q (.all,.tuple [],s2))::looked) (hT.Xe od _);refine⟨max N M,.panic v,l,Yy all T0,st.merged s2,⟨p8,rfl⟩,fun n hn=>?_⟩;have dR:(WW E (Xg E o.type o.op) K0).run (ev E n) fr TP (st.sub (VP dd.CS news st.heap .all))= .one ⟨.panic v,fr,TP,s2⟩:=by
   rw[YI,hH];exact hN n (by omega) K0
  have bj:WS E (ev E n) fr dd q TP=none:=by
   unfold WS;rw[vq];simp only[cond_true];rw[fE TP];show Ye .all ((WW E (Xg E o.type o.op) K0).run (ev E n) fr TP (st.sub (VP dd.CS news st.heap .all)))=_;rw[dR];rfl
  have hpg:jJ E (ev E n) fr dd q TP=some (v,s2):=by
   unfold jJ;have aH:dd.so=Xg E o.type o.op:=rfl;rcases VJ with⟨F,hF⟩|⟨F,A,hF⟩
   ·rw[aH];rw[hF]at dR⊢;show bw ((WW E (.call F) K0).run (ev E n) fr TP (st.sub (VP dd.CS news st.heap .all)))=_;rw[dR];rfl
   ·rw[aH];rw[hF]at dR⊢;show bw ((WW E (.ZB F A) K0).run (ev E n) fr TP (st.sub (VP dd.CS news st.heap .all)))=_;rw[dR];rfl
  have hdr:Wx E all (ev E n) fr dd q=none:=by
   unfold Wx;rcases hg with hg|⟨g,hg,hw⟩
   ·have:dd.o.guard=none:=hg;rw[this];exact bj
   ·have:dd.o.guard=some g:=hg;rw[this];show(W4 all g T).bind _=_;rw[hw T hT];exact bj
  have sq:bx E all (ev E n) fr dd q=some (v,s2):=by
   unfold bx;rcases hg with hg|⟨g,hg,hw⟩
   ·have:dd.o.guard=none:=hg;rw[this];exact hpg
   ·have:dd.o.guard=some g:=hg;rw[this];show(W4 all g T).bind _=_;rw[hw T hT];exact hpg
  show(match Wx E all (ev E n) fr dd q with
   |some r=>match VF fr.nt dd q r with
    |some q'=>YC E all (ev E n) fr T0 (XM E (VL all) rest (i+1)) q'
    |none=> .stuck
   |none=>iI E all (ev E n) fr T0 dd (XM E (VL all) rest (i+1)) q (bx E all (ev E n) fr dd q))=_
  rw[hdr,sq];show(bif b6 dd.CS news then qx fr (Yy all T0) v ((VF fr.nt dd q (.all,.tuple [],s2)).bind (Zf E all (ev E n) fr i (XM E (VL all) rest (i+1))))else .stuck)=_;have jj:b6 dd.CS news=true:=O3 aC Zx;rw[jj,cond_true,ae (.tuple []) s2 az Wm hw];obtain⟨q',e1,e2⟩:=hM n (by omega);simp only[Qe];rw[e1];show Out.one ⟨_,_,_,q'.st⟩=_;rw[e2]
theorem DL {c:Call} {f:Nat} {args:List AV} {R RP:AV→St→Prop} (hb:CI E f=true) (ho:o.op= .call c) (hc:c.callee= .value (.func f)) (ha:Xd c.args.toList (VM (tmpsOf o.op.operands.toList) l)=some args)
 (h:VK E f args (st.sub st.heap) R RP) (eu:∀j∈js,Nat.testBit (Ok all i) j=true∨∃e∈KN.rl,e.1=j) (aC:(nl.all fun p=>Nat.testBit (Ok all i) p.1)=true) (hg:Wc all l o) (hd:o.dst=od) (C6:WA fr.nt od=true)
 (hk:∀v s2,R v s2→st.next≤s2.next∧(∀b∈s2.log,b<st.next)∧RdW KN (Ok all i) s2∧∀ez,aD nl i st.next s2.log ez→VH E KN all rest (i+1) fr (Xe od v l) (st.merged s2) (i::js) ez K)
 (hp:∀v s2,RP v s2→st.next≤s2.next∧(∀b∈s2.log,b<st.next)∧RdW KN (Ok all i) s2∧KN.WD v (st.merged s2)∧WB E all rest (i+1) i fr (Xe od (.tuple []) l) (st.merged s2)):VH E KN all (o::rest) i fr l st js nl K:=by
 have XX:Xg E o.type o.op= .call (fun T _=>(CO E c.args.toList T).bind fun args=>some (f,args)):=by
  rw[ho];show VV E o.type c=_;unfold VV;rw[hc];simp only[hb,cond_true]
 obtain⟨N,cr,hN,hm⟩:=h;refine Vz (.inl ⟨_,XX⟩) eu aC hg hd C6 fun T hT=>?_;have key:∀n,N≤n→∀k:mT,(WW E (Xg E o.type o.op) k).run (ev E n) fr T (st.sub st.heap)=Xy fr T (st.sub st.heap) (k.run (ev E n) fr T) (some cr):=fun n hn k=>by
  rw[XX];show Xy fr T _ (k.run (ev E n) fr T) (((CO E c.args.toList T).bind fun args=>some (f,args)).bind fun p=>We E (ev E n) p.1 p.2 (st.sub st.heap))=_;rw[B4 hT ha];simp only[Qe];rw[hN n hn]
 cases cr with
 |same v=>exact .inl ⟨v,_,⟨N,key⟩,hk v _ hm⟩
 |val v s'=>exact .inl ⟨v,s',⟨N,key⟩,hk v _ hm⟩
 |WD v s'=>exact .inr ⟨v,s',⟨N,key⟩,hp v _ hm⟩
variable {Q : Ex → Fr → Sl → St → Prop} {s : St}
theorem Qr {k:Nat} {ops:Array Oper} {o1 o2:Oper} {c:Call} {t d f:Nat} {fv:AV} {first captured args:List AV} (nH:ops.toList=[o1,o2]) (h1:Wj E o1 l fv) (eE:o1.guard=none) (dx:o1.dst=some d) (C6:Nat.blt d fr.nt=true)
 (ho:o2.op= .defer c) (hc:c.callee= .value (.tmp t)) (hl:look t ((d,fv)::l)=some (.func (.func f) first captured)) (ha:Xd c.args.toList ((d,fv)::l)=some args) (gI:o2.guard=none) (jq:o2.dst=none) (hr:fr.round=none)
 (h:Q .normal {fr with defers:= {target:= .fn (.func f) captured,args:=first++args}::fr.defers} ((d,fv)::l) s):Ch E (.region k ops false) fr l s Q:=by
 intro T hT;refine⟨0,.normal,_,_,T.set d (some fv),s,h,hT.put d fv,fun n _=>?_⟩;show(Zo E ops.toList ops.toList).run (ev E n) fr T s=_;rw[nH];show(YL E [o1,o2] o1 (Y5 o1.dst (Zo E [o1,o2] [o2]))).run (ev E n) fr T s=_;unfold YL guarded;rw[eE];simp only;rw[(h1.2 T hT).2 (ev E n) fr s,D4 _ _ (by rw[dx];exact C6),dx];show(YL E [o1,o2] o2 (Y5 o2.dst (Zo E [o1,o2] []))).run (ev E n) fr (T.set d (some fv)) s=_;unfold YL guarded;rw[gI,jq,ho];have wv:=hT.put d fv;show(WW E (ed E c) _).run (ev E n) fr (T.set d (some fv)) s=_;have hdc:ed E c= .defer fun T=>(Cc E (.tmp t) T).bind fun f=>(CO E c.args.toList T).bind fun args=>fQ args f:=by unfold ed;rw[hc]
 rw[hdc];show fh fr (fun Xz v=>(Y5 none (Zo E [o1,o2] [])).run (ev E n) Xz (T.set d (some fv)) v s) ((Cc E (.tmp t) (T.set d (some fv))).bind fun f=>(CO E c.args.toList (T.set d (some fv))).bind fun args=>fQ args f)=_;have hft:Cc E (.tmp t) (T.set d (some fv))=some (.func (.func f) first captured):=wv t _ hl;rw[hft,B4 wv ha];simp only[Qe,fQ,dk,cond_false,fh,hr];rfl
theorem Lm {k:Nat} {ops:Array Oper} {b:Code} {o1 o2:Oper} {c:Call} {t d f:Nat} {fv:AV} {first captured args:List AV} (nH:ops.toList=[o1,o2]) (h1:Wj E o1 l fv) (eE:o1.guard=none) (dx:o1.dst=some d) (C6:Nat.blt d fr.nt=true)
 (ho:o2.op= .defer c) (hc:c.callee= .value (.tmp t)) (hl:look t ((d,fv)::l)=some (.func (.func f) first captured)) (ha:Xd c.args.toList ((d,fv)::l)=some args) (gI:o2.guard=none) (jq:o2.dst=none) (hr:fr.round=none)
 (h:Ch E b {fr with defers:= {target:= .fn (.func f) captured,args:=first++args}::fr.defers} ((d,fv)::l) s Q):Ch E (.seq (.region k ops false) b) fr l s Q:=
 Aa (Qr nH h1 eE dx C6 ho hc hl ha gI jq hr h)
theorem OL {k:Nat} {ops:Array Oper} {o1:Oper} {d:Nat} {v:AV} {pn:Option AV} (nH:ops.toList=[o1]) (XX:Xg E o1.type o1.op= .recover) (eE:o1.guard=none) (dx:o1.dst=some d) (C6:Nat.blt d fr.nt=true) (hr:fr.round=none)
 (hp:fr.WD=pn) (hv:v=match pn with|some v=>v|none=> .C8) (h:Q .normal {fr with WD:=none} ((d,v)::l) s):Ch E (.region k ops false) fr l s Q:=by
 intro T hT;refine⟨0,.normal,_,_,T.set d (some v),s,h,hT.put d v,fun n _=>?_⟩;show(Zo E ops.toList ops.toList).run (ev E n) fr T s=_;rw[nH];show(YL E [o1] o1 (Y5 o1.dst (Zo E [o1] []))).run (ev E n) fr T s=_;unfold YL guarded;rw[eE,XX];obtain⟨nt,defers,WD,round⟩:=fr;simp only at hr hp C6;subst hr hp;cases WD with
 |some w=>
  show(Y5 o1.dst (Zo E [o1] [])).run (ev E n) {nt,defers,WD:=none,round:=none} T w s=_;rw[D4 _ _ (by rw[dx];exact C6),dx,hv];rfl
 |none=>
  show(Y5 o1.dst (Zo E [o1] [])).run (ev E n) {nt,defers,WD:=none,round:=none} T .C8 s=_;rw[D4 _ _ (by rw[dx];exact C6),dx,hv];rfl
theorem GK {k:Nat} {ops:Array Oper} {b:Code} {o1:Oper} {d:Nat} {v:AV} {pn:Option AV} (nH:ops.toList=[o1]) (XX:Xg E o1.type o1.op= .recover) (eE:o1.guard=none) (dx:o1.dst=some d) (C6:Nat.blt d fr.nt=true) (hr:fr.round=none)
 (hp:fr.WD=pn) (hv:v=match pn with|some v=>v|none=> .C8) (h:Ch E b {fr with WD:=none} ((d,v)::l) s Q):Ch E (.seq (.region k ops false) b) fr l s Q:=
 Aa (OL nH XX eE dx C6 hr hp hv h)
def wX (E:Env) (f:FuncId) (rs:List ResultVar) (s0:St) (R RP:AV→St→Prop) (ex:Ex) (fr:Fr) (l:Sl) (st:St):Prop:=
 ∃m g captured args gn cb,cD ex=some m∧fr.defers=[{target:= .fn (.func g) captured,args}]∧E.fns.get g=some gn∧gn.body=some cb∧gn.results.toList=[]∧
  Ch E cb (frame gn.ntmps (args++captured) m) (ZU 0 (args++captured) []) st fun sI cP _ mD=>(sI= .normal∨sI= .ret)∧cP.defers=[]∧match(bif recovered m cP.WD then none else m)with
   |none=>∃vs,CT E mD l rs=some vs∧∃cr,leave E f s0 (ZM vs) mD=some cr∧(match cr with
    | .same v=>R v s0
    | .val v s'=>R v s'
    | .WD _ _=>False)
   |some v=>RP v (s0.back mD)
theorem VK.putOff {f:FuncId} {fn:Func} {c:Code} {args:List AV} {R RP:AV→St→Prop} {rs:List ResultVar} {jZ:Fr} {l0:Sl} (hm:E.Cs f args=none) (hf:E.fns.get f=some fn) (hc:fn.body=some c) (hr:fn.results.toList=rs)
 (bO:frame fn.ntmps args none=jZ) (hl:ZU 0 args []=l0) (h:Ch E c jZ l0 s.enter (wX E f rs s R RP)):VK E f args s R RP:=by
 subst bO hl hr;obtain⟨N,ex,Xz,l',T',s',⟨m,g,captured,as,gn,cb,fC,hd,hgn,kV,j0,dQ⟩,YP,b9⟩:=h _ (E2 args 0 (Has.nil .nil));obtain⟨M,sI,cP,l2,T2,s2,⟨hex2,jq,hq⟩,_,n8⟩:=dQ _ (E2 (as++captured) 0 (Has.nil .nil));have qA:∀n,M≤n→unwind E (ev E (n+1)) Xz.defers m s'=some (bif recovered m cP.WD then none else m,s2):=by
  intro n hn;rw[hd];show(fe E (ev E (n+1)) m s' _).bind _=_;unfold fe;simp only;unfold kL;rw[hgn];simp only[Qe,kV,j0];have he:ev E (n+1) cb (frame gn.ntmps (as++captured) m) (XV 0 (as++captured) .nil) s'= .one ⟨sI,cP,T2,s2⟩:=by rw[H6];exact n8 n hn
  rw[he];have:fc m (.one ⟨sI,cP,T2,s2⟩)=some (recovered m cP.WD,s2):=by rcases hex2 with rfl|rfl<;>simp only[fc,jq]
  rw[this];rfl
 have key:∀n,max N M+2≤n→We E (ev E n) f args s=endWith E f fn s T' (bif recovered m cP.WD then none else m) s2:=by
  intro n hn;obtain⟨k,rfl⟩:∃k,n=k+2:=⟨n-2,by omega⟩
  unfold We;rw[hm];simp only[hf,hc,Qe];rw[H6,b9 (k+1) (by omega)];show YY E (ev E (k+1+1)) f fn s ⟨ex,Xz,T',s'⟩=_;unfold YY;simp only[fC,Qe];rw[qA (k+1) (by omega)];rfl
 cases hb:(bif recovered m cP.WD then none else m)with
 |none=>
  rw[hb]at hq;obtain⟨vs,Wk,cr,hlv,hR⟩:=hq;refine Wf.toX ⟨max N M+2,cr,fun n hn=>?_,hR⟩;rw[key n hn,hb];simp only[endWith,DC YP Wk,Qe,hlv]
 |some v=>
  rw[hb]at hq;exact⟨max N M+2,.WD v (s.back s2),fun n hn=>by rw[key n hn,hb];rfl,hq⟩
end
noncomputable def lq (P:Program) (nt nf:Nat) (F:FuncId→Nat) (K:FuncId→List AV→Option AV) (gl:dG):Env:= {lk P nt nf 0 K with kn:=gl,nX:=F}
section
variable {P : Program} {nt nf : Nat} {F : FuncId → Nat} {K : FuncId → List AV → Option AV} {gl : dG}
theorem Vb (h:X8 P nt nf):CN (lq P nt nf F K gl) P:=by
 have:=Jr h 0 [];exact⟨this.ty,this.fn,this.flat,this.lone⟩
theorem sW (h:X8 P nt nf):Y6 (lq P nt nf F K gl) P:=
 QY (Vb h) fun f fn hf=>by
  have:P.funcs.toList[f]?=some fn:=by rw[←EL nf P.funcs.toList f (by simpa using h.funcs)];exact hf
  exact(List.all_eq_true.1 h.outer) fn (List.mem_of_getElem? this)
theorem Vc (hK:C9 P gl K):bB (lq P nt nf F K gl) P:=
 fun f args v h C S w xs c cs hg hv hS=>hK f args v h C S w xs c cs hg hv hS
theorem Ie (hp:X8 P nt nf) (jX:∀g cs,gl g=some cs→cs.all (Cr 40)=true) (hK:C9 P gl K) {f:FuncId} {args:List AV} {v:AV} (h:Cb (lq P nt nf F K gl) f args S0 v)
 (ha:args.all (Cr 40)=true) (hv:Cr 40 v=true):bH P gl f args v:=by
 intro C S w xs c cs hg Wk hS;obtain⟨N,h⟩:=h;have hx:Y6 (lq P nt nf F K gl) P:=sW hp;have he:CN (lq P nt nf F K gl) P:=Vb hp;have VJ:=MR he hx (Kw he hx) (Vc hK) (fun _ ev _=>HW ev) N;have hgb:Wg (lq P nt nf F K gl) C.bare:=by
  intro g XS mF;obtain⟨ms,h1,h2,h3⟩:=hg g XS mF;exact⟨ms,h1,B1 40 h2 (jX g XS mF),h3⟩
 have:=VJ f args (.same v) C.bare S0 w xs c cs (h N (Qj _)) hgb (B1 40 Wk ha) (oH C hS);obtain⟨C1,x,w',hs,t,Yq⟩:=this;have eb:Ext C1.bare (C.Yi C1):=⟨fun _ x=>x.elim,fun _ x=>x.elim,fun _ _ h=>h,fun _ _ x=>x.elim,fun _ _ x=>x.elim,fun _ h=>h⟩
 exact⟨_,x,w',hs,Jq hS t,(Ek 40 Yq hv).mono eb⟩
theorem E4 {α:Type} {f:FuncId} {enc:α→List AV} {res:α→AV} (hp:X8 P nt nf) (jX:∀g cs,gl g=some cs→cs.all (Cr 40)=true) (hK:C9 P gl K) (h:∀a,Cb (lq P nt nf F K gl) f (enc a) S0 (res a))
 (ha:∀a,(enc a).all (Cr 40)=true) (hv:∀a,Cr 40 (res a)=true):C9 P gl (Wa K f enc res):=
 Bo hK fun a=>Ie hp jX hK (h a) (ha a) (hv a)
end
mutual
inductive dH:AV→AV→Prop where
 |refl (v:AV):dH v v
 |nil (k:Nat):dH .Ca (.Cd [] 0 k true)
 |agg {a b:List AV} (h:XO a b):dH (.agg a) (.agg b)
 |Cd {a b:List AV} {n k:Nat} (h:XO a b):dH (.Cd a n k true) (.Cd b n k true)
inductive XO:List AV→List AV→Prop where
 |nil:XO [] []
 |cons {a b:AV} {l r:List AV} (h:dH a b) (t:XO l r):XO (a::l) (b::r)
end
theorem XO.refl:∀l:List AV,XO l l
 | []=> .nil
 |a::l=> .cons (.refl a) (XO.refl l)
theorem XO.app:∀ {a b c d:List AV},XO a b→XO c d→XO (a++c) (b++d)
 |_,_,_,_,.nil,h=>h
 |_,_,_,_,.cons h t,h2=> .cons h (t.app h2)
theorem dH.cell {a b:AV} (h:dH a b):b.ck=a.ck:=by cases h<;>rfl
theorem XO.cells:∀ {a b:List AV},XO a b→Cells a→Cells b
 |_,_,.nil,_=>fun _ h=>by cases h
 |_,_,.cons h t,hc=>fun v hv=>by
  rcases Qk.1 hv with rfl|hv
  ·rw[h.cell];exact hc _ (Qh ..)
  ·exact t.cells (fun u hu=>hc u (Qg _ hu)) v hv
theorem XO.len:∀ {a b:List AV},XO a b→b.length=a.length
 |_,_,.nil=>rfl
 |_,_,.cons _ t=>by rw[List.length_cons,List.length_cons,t.len]
mutual
theorem dH.vr:∀ {a b:AV},dH a b→∀ {C:Cx} {x:Value},VR C a x→VR C b x
 |_,_,.refl _,_,_,hx=>hx
 |_,_,.nil k,_,_,hx=>by
  cases hx with
  |Ca a h=>exact .VT a (Nat.zero_mul _) (Qj _)
 |_,_,.agg h,_,_,hx=>by
  cases hx with
  |agg hv VX=>exact .agg (h.vrs hv) (h.cells VX)
 |_,_,.Cd h,_,_,hx=>by
  cases hx with
  |VT a h1 h2=>cases h;exact .VT a h1 h2
  |Cd hl hm ha hv hc VX Yl=>exact .Cd (by rw[h.len];exact hl) hm ha (h.vrs hv) (fun e=>h.vrs (hc e)) (h.cells VX) Yl
theorem XO.vrs:∀ {a b:List AV},XO a b→∀ {C:Cx} {x:List Value},VS C a x→VS C b x
 |_,_,.nil,_,_,hx=>hx
 |_,_,.cons h t,_,_,hx=>by
  cases hx with
  |cons h1 h2=>exact .cons (h.vr h1) (t.vrs h2)
end
theorem bH.weak {P:Program} {gl:dG} {f:FuncId} {args zd:List AV} {v:AV} (h:bH P gl f zd v) (hw:XO args zd):bH P gl f args v:=
 fun C S w xs c cs hg Wk hS=>h C S w xs c cs hg (hw.vrs Wk) hS
theorem Vk (c:UInt8) (w:List UInt8):ix (.str w) (.int .u8 (c.toNat:Nat))=some (.int .i64 (aN c.toNat w:Nat)):=by
 have hc:Nat.blt c.toNat 256=true:=Qd (by have:=c.toNat_lt;omega);show(bif Nat.blt c.toNat 256 then _ else _)=_;rw[hc];rfl
theorem Vm (c:Nat):∀w:List UInt8,aN c w≤w.length
 | []=>Qj _
 |b::w=>by
  have ih:=Vm c w;show(bif Nat.beq b.toNat c then aN c w+1 else aN c w)≤w.length+1;cases Nat.beq b.toNat c
  ·show aN c w≤_;omega
  ·show aN c w+1≤_;omega
theorem QV {s:St} {m n:Nat}:∀(l:List (List UInt8)) (ks:List Nat),CH.many (CH s m (n+1)) (l.map .str) ks=some (l.map .str,ks)
 | [],_=>rfl
 |a::l,ks=>by
  show((CH.many (CH s m (n+1)) (l.map .str) ks).bind _)=_;rw[QV l ks];rfl
theorem Ls:∀l:List (List UInt8),(l.map AV.str).all (Cr 40)=true
 | []=>rfl
 |_::l=>Ls l
section
variable {E : Env} {l : Sl} {o : Oper} {c : Call} {x y : Operand} {k : IntKind} {a b : Int}
theorem Wj.minL (ho:o.op= .call c) (hc:c.callee= .builtin .min) (ha:c.args.toList=[x,y]) (hx:Ce x l=some (.int k a)) (hy:Ce y l=some (.int k b)) (h:a≤b):Wj E o l (.int k a):=
 AJ (f:=fun T=>(Cc E x T).bind fun a=>(CO E [y] T).bind fun r=>lX lW r a) (by
  rw[ho];show VV E o.type c=_;unfold VV;rw[hc];show eZ E o.type .min c.argTypes.toList c.args.toList=_;rw[ha];rfl) fun T hT=>by
  rw[Al hT hx,Lx (Al hT hy) TQ];show some (AV.int k (if b<a then b else a))=_;rw[if_neg (by omega)]
end
theorem Ko {s : St} {m j b n k : Nat} {cap : Option Nat} {cs XS : List AV} {ks jV : List Nat} {e : TypeId} {part : Bool} (hb : m ≤ b) (hg : s.heap.get b = some (.cells cs e part)) (hl : cs.length = n * k)
    (hm : CH.many (CH s m j) cs ks = some (XS, jV)) : CH s m (j + 1) (.slice b 0 n k cap) ks = some (.Cd XS n k (XS.all (Cr 40)), b :: jV) := by
  have lM : Nat.blt b m = false := by
    cases h : Nat.blt b m with
    | false => rfl
    | true => have h2 : b < m := Qc h
              omega
  have hc : cut cs 0 (n * k) = some cs := by rw [Hu (by omega), List.drop_zero, ← hl, List.take_length]
  show (bif Nat.blt b m then _ else (VZ (s.heap.get b)).bind fun cs => (cut cs 0 (n * k)).bind fun l => (CH.many (CH s m j) l ks).bind fun p => some (AV.Cd p.1 n k (p.1.all (Cr 40)), b :: p.2)) = _;rw [lM, cond_false, hg];show ((cut cs 0 (n * k)).bind _) = _;rw [hc];show ((CH.many (CH s m j) cs ks).bind _) = _;rw [hm]; rfl
def ZV (E:Env) (f:FuncId) (args:List AV) (s:St) (R RP:AV→Prop):Prop:=
 ∃N cr,(∀n,N≤n→We E (ev E n) f args s=some cr)∧match cr with
  | .same v=>R v
  | .val _ _=>False
  | .WD v s'=>RP v∧s'=s
section
variable {E : Env} {f : FuncId} {args : List AV} {s : St} {R RP : AV → Prop}
theorem ZV.toX (h:ZV E f args s R RP):VK E f args s (fun v s'=>R v∧s'=s) fun v s'=>RP v∧s'=s:=by
 obtain⟨N,cr,h1,h2⟩:=h;refine⟨N,cr,h1,?_⟩;cases cr with
 |same v=>exact⟨h2,rfl⟩
 |val v s'=>exact h2.elim
 |WD v s'=>exact h2
theorem ZV.value (h:ZV E f args s R RP) {v:AV} (hR:∀u,R u→u=v) (hP:∀u,¬RP u):Cb E f args s v:=by
 obtain⟨N,cr,h1,h2⟩:=h;cases cr with
 |same u=>obtain rfl:=hR u h2;exact⟨N,h1⟩
 |val u s'=>exact h2.elim
 |WD u s'=>exact(hP u h2.1).elim
theorem ZV.WD (h:ZV E f args s R RP) {v:AV} (hR:∀u,¬R u) (hP:∀u,RP u→u=v) {R' RP':AV→St→Prop} (hp:RP' v s):VK E f args s R' RP':=
 h.toX.mono (fun u s' h=>(hR u h.1).elim) fun u s' ⟨h1,h2⟩=>by rw[hP u h1,h2];exact hp
theorem ZV.gen {fn:Func} {c:Code} {jZ:Fr} {l0:Sl} {rs:List ResultVar} (hm:E.Cs f args=none) (hf:E.fns.get f=some fn) (hc:fn.body=some c) (hr:fn.results.toList=rs)
 (bO:frame fn.ntmps args none=jZ) (hl:ZU 0 args []=l0) (h:Ch E c jZ l0 s.enter fun ex fr l st=>match ex with
  | .panic v=>fr.defers=[]∧s.back st=s∧RP v
  |ex=>(ex= .ret∨ex= .normal)∧fr.defers=[]∧st.log=[]∧∃vs,CT E st l rs=some vs∧gk (ZM vs)=true∧R (ZM vs)):ZV E f args s R RP:=by
 subst bO hl hr;obtain⟨N,ex,Xz,l',T',s',hq,YP,b9⟩:=h _ (E2 args 0 (Has.nil .nil));have key:∀ {m:Option AV} {cr:CR},cD ex=some m→Xz.defers=[]→endWith E f fn s T' m s'=some cr→∀n,N+1≤n→We E (ev E n) f args s=some cr:=by
  intro m cr fC hu he n hn;obtain⟨k,rfl⟩:∃k,n=k+1:=⟨n-1,by omega⟩
  unfold We;rw[hm];simp only[hf,hc,Qe];rw[H6,b9 k (by omega)];show YY E (ev E (k+1)) f fn s ⟨ex,Xz,T',s'⟩=_;unfold YY;simp only[fC,Qe,hu,unwind,he]
 have val:((ex= .ret∨ex= .normal)∧Xz.defers=[]∧s'.log=[]∧∃vs,CT E s' l' fn.results.toList=some vs∧gk (ZM vs)=true∧R (ZM vs))→ZV E f args s R RP:=fun⟨hex,hd,hl,vs,Wk,X3,hR⟩=>
  ⟨N+1,.same (ZM vs),key (m:=none) (by rcases hex with h|h<;>rw[h]<;>rfl) hd (by simp only[endWith,DC YP Wk,Qe,Ps X3 hl]),hR⟩
 cases ex with
 |panic v=>
  obtain⟨hd,hb,hp⟩:=hq;exact⟨N+1,.WD v (s.back s'),key U hd U,hp,hb⟩
 |normal=>exact val hq
 |ret=>exact val hq
 |exit i=>exact val hq
end
theorem VB {E:Env} {fr:Fr} {l:Sl} {s:St} {Q:Ex→Fr→Sl→St→Prop} {a b:Code} (l2:Sl) (s2:St) (G:Prop) (h1:Ch E a fr l s fun ex Xz l' s'=>match ex with
 | .normal=>Xz=fr∧s'=s2∧G∧∀p∈l2,look p.1 l'=some p.2
 |ex=>Q ex Xz l' s') (h2:G→Ch E b fr l2 s2 Q):Ch E (.seq a b) fr l s Q:=
 Aa (h1.mono fun ex Xz l' s' h=>by
  cases ex with
  |normal=>
   obtain⟨e2,e3,g,e4⟩:=h;subst e2 e3;exact Ch.sub (h2 g) e4
  |_=>exact h)
theorem Bq {E:Env} {KP:AV→Sl→St→Prop} {all ops:List Oper} {fr:Fr} {l:Sl} {s:St} {K:Sl→St→Prop} {k:Nat} {b:Bool} (hl:look k l=some (.bool b)) (h1:b=true→VE E KP all ops fr ((k,.bool true)::l) s K) (h0:b=false→VE E KP all ops fr ((k,.bool false)::l) s K):VE E KP all ops fr l s K:=by
 have key:∀ {T:Tr AV} {v:AV},Has l T→look k l=some v→Has ((k,v)::l) T:=by
  intro T v hT hv j u hj;unfold look at hj;cases hb:Nat.beq j k with
  |true=>
   rw[hb]at hj;have:=Qb hb;subst this;cases hj;exact hT _ _ hv
  |false=>rw[hb]at hj;exact hT _ _ hj
 intro T hT;cases b with
 |true=>exact h1 rfl T (key hT hl)
 |false=>exact h0 rfl T (key hT hl)
theorem Wj.subB {E:Env} {l:Sl} {o:Oper} {t yt:TypeId} {x y:Operand} {a b:Nat} (ho:o.op= .binOp .sub t x y yt) (hu:C7 E t=some (.int .u8)) (hx:Ce x l=some (.int .u8 (a:Nat))) (hy:Ce y l=some (.int .u8 (b:Nat))) (h:b≤a∧a<256):Wj E o l (.int .u8 ((a-b:Nat):Int)):=
 DY ho hu rfl hx hy (by
  show some (Y4 .u8 _)=_;unfold Y4;rw[←Int.ofNat_sub h.1,Go.IntWalk.u8_in _ ⟨by omega,by omega⟩])
section
variable {E : Env} {fr : Fr} {l : Sl} {st : St} {o : Oper} {all rest : List Oper} {i : Nat} {js : List Nat} {nl : W8} {K : Sl → St → Prop} {od : Option Nat}
theorem Grown.news {s:St} {e:TypeId} {sz n m:Nat} {v:AV} {cs:List AV} (h:Grown s e sz v cs n) (ho:Ci m v=true):∀c,Ci c v=true→c=m:=by
 intro c hc;rcases h with⟨rfl,_,_⟩|⟨b,rfl,_⟩
 ·cases hc
 ·have e1:b=c:=Qb hc;have e2:b=m:=Qb ho;omega
theorem LS {KP:AV→Sl→St→Prop} {c:Call} {t e:TypeId} {ts:List TypeId} {x y:Operand} {sz WJ n d:Nat} {z v:AV} {cs new:List AV} (j0:Grown st e sz v cs n) (en:new.length=sz) (pg:0<sz) (Xm:small 1 WJ=true) (Y1:small (n+1) WJ=true)
 (ho:o.op= .call c) (hc:c.callee= .builtin .append) (ht:c.argTypes.toList=t::ts) (ha:c.args.toList=[x,y])
 (hu:C7 E t=some (.slice e)) (XA:sizeOf E e=some sz) (aW:bytesOf E e=some WJ) (hz:zeroOf E e=some z) (hk:(!(Nat.beq (W6 z.cells) sz)||Nat.beq sz 0|| !(ec E ts.head?))=false) (h0:XU E ts.head?=false)
 (hx:Ce x l=some v) (hy:Ce y l=some (.slice st.next 0 1 sz (some 1))) (hg:o.guard=none) (hd:o.dst=some d) (C6:Nat.blt d fr.nt=true)
 (h:∀v2 mD,Grown mD e sz v2 (cs++new) (n+1)→(∀c,Ci c v2=true→st.next≤c)→CL st mD (fun c=>Ci c v=true)→(st.bound≤st.next→Cg st mD)→
  VE E KP all rest fr ((d,v2)::l) mD K):VE E KP all (o::rest) fr l (st.alloc (.cells new e false)) K:=by
 have hG:Grown (st.alloc (.cells new e false)) e sz v cs n:=j0.CW (Nat.le_succ _) fun c hc=>AT (j0.own hc);obtain⟨v2,s2,h1,h2,h3,h4,h5,h6,h7⟩:=hG.append (WJ:=WJ) en pg Xm Y1;have h4':s2.next=st.next+1+1:=h4;refine VE.op (Ws.append ho hc ht ha hu XA aW hz hk h0 hx hy (E3 (e:=e) (part:=false) BZ en) h1) hg hd C6 (h v2 s2 h2 (fun c hc=>?_)
  ⟨by omega,h5,h6,fun c hc ho=>(h7 c (Nat.lt_succ_of_lt hc) (by simpa using ho)).trans (AT hc)⟩ fun hb=>(Cg.alloc hb).trans (El (by show st.bound≤st.next+1;omega) h1))
 have:=h2.news h3 c hc;have:(st.alloc (.cells new e false)).next=st.next+1:=rfl;omega
theorem Hi {KN:PN} {c:Call} {t e:TypeId} {ts:List TypeId} {x y:Operand} {sz WJ n:Nat} {z v:AV} {cs new:List AV} (j0:Grown st e sz v cs n) (hY:st.bound≤st.next) (en:new.length=sz) (pg:0<sz) (Xm:small 1 WJ=true) (Y1:small (n+1) WJ=true)
 (ho:o.op= .call c) (hc:c.callee= .builtin .append) (ht:c.argTypes.toList=t::ts) (ha:c.args.toList=[x,y])
 (hu:C7 E t=some (.slice e)) (XA:sizeOf E e=some sz) (aW:bytesOf E e=some WJ) (hz:zeroOf E e=some z) (hk:(!(Nat.beq (W6 z.cells) sz)||Nat.beq sz 0|| !(ec E ts.head?))=false) (h0:XU E ts.head?=false)
 (hx:Ce x (VM (tmpsOf o.op.operands.toList) l)=some v) (hy:Ce y (VM (tmpsOf o.op.operands.toList) l)=some (.slice st.next 0 1 sz (some 1)))
 (eu:cR (Ok all i) js=true) (aC:(nl.all fun p=>Nat.testBit (Ok all i) p.1)=true) (hg:Wc all l o) (hd:o.dst=od) (C6:WA fr.nt od=true)
 (h:∀v2 mD ez,Grown mD e sz v2 (cs++new) (n+1)→(∀c,Ci c v2=true→st.next≤c)→CL st mD (fun c=>Ci c v=true)→Cg st mD→(∀b,b<st.next→Ci b v=false→∀a,Xk a b nl=true→Xk a b ez=true)→
  VH E KN all rest (i+1) fr (Xe od v2 l) mD (i::js) ez K):VH E KN all (o::rest) i fr l (st.alloc (.cells new e false)) js nl K:=by
 let sA:=st.alloc (.cells new e false)
 have hG:Grown (sA.sub sA.heap) e sz v cs n:=j0.CW (Nat.le_succ _) fun c hc=>AT (j0.own hc);obtain⟨v2,s2,h1,h2,h3,h4,h5,h6,h7⟩:=hG.append (WJ:=WJ) en pg Xm Y1;have e1:(sA.sub sA.heap).next=st.next+1:=rfl;have e2:(sA.sub sA.heap).bound=st.next+1:=rfl;have e3:sA.next=st.next+1:=rfl;have e4:(st.alloc (.cells new e false)).next=st.next+1:=rfl;have YR:Cg (sA.sub sA.heap) s2:=El (by omega) h1;have ic:CL (sA.sub sA.heap) s2 (fun c=>Ci c v=true):=⟨by omega,h5,h6,fun c hc ho=>h7 c (by omega) (by simpa using ho)⟩
 have hm:=ic.merged;have lO:=DG (st:=sA) (by omega) YR rfl;have hmn:(sA.merged s2).next=s2.next:=rfl;refine VH.append ho hc ht ha hu XA aW hz hk h0 hx hy (E3 (e:=e) (part:=false) BZ en) h1 (by omega) (fun b hb=>⟨?_,Dr aC⟩) eu aC hg hd C6 (h v2 (sA.merged s2) _ (h2.CW (Nat.le_of_eq hmn.symm) fun c hc=>lO c (h2.own hc)) (fun c hc=>by have:=h2.news h3 c hc;omega)
  ⟨by omega,hm.bound,fun c hc=>hm.log c hc,fun c hc ho=>(hm.heap c (by omega) ho).trans (AT hc)⟩ ((Cg.alloc hY).trans (Cg.region (by omega) YR (by show st.bound≤st.next+1;omega))) fun b hb ho a ha=>?_)
 ·rcases h6 b hb with h|⟨h,_⟩
  ·cases h
  ·omega
 ·refine aD.clear (I7 (n:=sA.next) (lg:=s2.log)) ha (by omega) fun dw=>?_;rcases h6 b dw with h|⟨_,h⟩
  ·cases h
  ·rw[h]at ho;cases ho
end
theorem Ic {E : Env} {f : FuncId} {v w : AV} {s st : St} {ks : List Nat} (hf : E.nX f = 2) (hl : st.log ≠ []) (hz : CH st 0 40 v [] = some (w, ks)) (hk : ∀ b ∈ ks, st.bound ≤ b) : leave E f s v st = some (.val w (s.back (kill st ks))) := by
  unfold leave frozen;rw [hf];simp only;show ((Wb 0 v st).bind _) = _;unfold Wb;rw [hz];simp only [Qe];have gU : (kill st ks).log = st.log := by
    clear hz hl;revert st;induction ks with
    | nil => intro st _; rfl
    | cons b ks ih =>
      intro st hk;have hb : (st.put b none).log = st.log := by
        show (bif Nat.blt b st.bound then _ else st.log) = _;have : Nat.blt b st.bound = false := by
          cases h : Nat.blt b st.bound with
          | false => rfl
          | true => have h2 : b < st.bound := Qc h
                    have := hk b (Qh ..);omega
        rw [this]; rfl
      show (kill (st.put b none) ks).log = _;rw [ih (st := st.put b none) fun c hc => hk c (Qg _ hc)];exact hb
  unfold Yx;rw [gU];cases hh : st.log with
  | nil => exact absurd hh hl
  | cons a b => rfl
theorem CL.kill {own:Nat→Prop}:∀ {ks:List Nat} {s st:St},CL s st own→(∀b∈ks,s.next≤b)→s.bound≤s.next→CL s (kill st ks) own
 | [],_,_,h,_,_=>h
 |b::ks,s,st,h,hk,hb=>CL.kill (ks:=ks) (st:=st.put b none) (h.trans CL.put (fun _ h=>h) (fun c hc=>by subst hc;exact .inr (hk _ (Qh ..))) hb) (fun c hc=>hk c (Qg _ hc)) hb
theorem Cg.kill:∀ {ks:List Nat} {s st:St},Cg s st→Cg s (kill st ks)
 | [],_,_,h=>h
 |b::ks,_,st,h=>Cg.kill (ks:=ks) (st:=st.put b none) (h.trans Cg.put)
theorem QN {c:Nat} {ks:List Nat} {st:St} (h:c∉ks):(kill st ks).heap.get c=st.heap.get c:=by rw[Mz,if_neg h]
theorem Kg:∀ {ks:List Nat} {st:St},(kill st ks).next=st.next
 | [],_=>rfl
 |b::ks,st=>Kg (ks:=ks) (st:=st.put b none)
theorem Grown.fz {s:St} {e:TypeId} {k n:Nat} {v:AV} {cs:List AV} (h:Grown s e k v cs n) (hn:n≠0) (j:Nat) (hm:CH.many (CH s 0 j) cs []=some (cs,[])) (XK:cs.all (Cr 40)=true):
 ∃b,CH s 0 (j+1) v []=some (.Cd cs n k true,[b])∧Ci b v=true∧b<s.next:=by
 rcases h with⟨_,h0,_⟩|⟨b,rfl,hb,hg,hl,_⟩
 ·exact absurd h0 hn
 ·refine⟨b,?_,Nat.beq_refl b,hb⟩;rw[Ko (Qo _) hg hl hm,XK]
theorem Grown.zero {s:St} {e:TypeId} {k:Nat} {v:AV} {cs:List AV} (h:Grown s e k v cs 0):v= .Ca∧cs=[]:=by
 rcases h with⟨h1,_,h2⟩|⟨b,_,_,_,_,h0⟩
 ·exact⟨h1,h2⟩
 ·exact absurd U h0
end Am
