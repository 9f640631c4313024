/- The abstract machine: its control and its calls are the model's. -/
import Derived.Test.YtpihdbhocgcbpaaGreatDoorAmC
import Derived.Calls
import Derived.Lib.UnsafeStr
import Derived.Lib.Bytealg
import Derived.Laws.Externs
import Derived.Laws.AppendOwn
import Derived.KernelRfl
set_option linter.unusedSectionVars false
set_option linter.unusedVariables false
set_option linter.unusedSimpArgs false
namespace Am
open Go
def Wi (b:Frame) (a:Act) (todo:List Item):Frame:= {fn:=b.fn,tmps:=a.tmps,todo,defers:=a.defers,mode:= .run,kind:=b.kind,roundOf:=b.roundOf}
theorem M9 (b:Frame) (a:Act) (todo:List Item):(Wi b a todo).eval=a.eval:=by
 funext x;cases x<;>rfl
section
variable {P : Program} {b : Frame} {a : Act} {k : List Item} {cs : List Frame} {w : World}
theorem s_skip:step P (lone (Wi b a (.code .skip::k)) cs w)= .next (lone (Wi b a k) cs w):=step_lone_go (by simp[stepG,stepG.exec,Wi])
theorem s_label {l:Nat}:step P (lone (Wi b a (.code (.label l)::k)) cs w)= .next (lone (Wi b a k) cs w):=step_lone_go (by simp[stepG,stepG.exec,Wi])
theorem TL {id:Nat}:step P (lone (Wi b a (.inBlock id::k)) cs w)= .next (lone (Wi b a k) cs w):=step_lone_go (by simp[stepG,stepG.exec,Wi])
theorem TK {c:Code}:step P (lone (Wi b a (.inScope c::k)) cs w)= .next (lone (Wi b a k) cs w):=step_lone_go (by simp[stepG,stepG.exec,Wi])
theorem s_seq {x y:Code}:step P (lone (Wi b a (.code (.seq x y)::k)) cs w)= .next (lone (Wi b a (.code x:: .code y::k)) cs w):=step_lone_go (by simp[stepG,stepG.exec,Wi])
theorem s_cond {c:Operand} {x y:Code} {t:Bool} (h:a.eval c= .bool t):
 step P (lone (Wi b a (.code (.cond c x y)::k)) cs w)= .next (lone (Wi b a (.code (if t then x else y)::k)) cs w):=
 step_lone_go (by
  have:=congrFun (M9 b a (.code (.cond c x y)::k)) c;simp only[Wi]at this;simp[stepG,stepG.exec,Wi,this,h])
theorem s_block {id:Nat} {c:Code}:step P (lone (Wi b a (.code (.block id c)::k)) cs w)= .next (lone (Wi b a (.code c:: .inBlock id::k)) cs w):=step_lone_go (by simp[stepG,stepG.exec,Wi])
theorem wD {c:Code}:step P (lone (Wi b a (.code (.loop c)::k)) cs w)= .next (lone (Wi b a (.code c:: .inLoop c::k)) cs w):=step_lone_go (by simp[stepG,stepG.exec,Wi])
theorem wG {c:Code}:step P (lone (Wi b a (.inLoop c::k)) cs w)= .next (lone (Wi b a (.code c:: .inLoop c::k)) cs w):=step_lone_go (by simp[stepG,stepG.exec,Wi])
theorem s_scope {c:Code}:step P (lone (Wi b a (.code (.scope c)::k)) cs w)= .next (lone (Wi b a (.code c:: .inScope c::k)) cs w):=step_lone_go (by simp[stepG,stepG.exec,Wi])
theorem s_exit {id:Nat} {k':List Item} (h:exitTo id k=some k'):step P (lone (Wi b a (.code (.exit id)::k)) cs w)= .next (lone (Wi b a k') cs w):=
 step_lone_go (by simp[stepG,stepG.exec,Wi,h])
theorem wH {id:Nat} {ops:Array Oper}:step P (lone (Wi b a (.code (.region id ops false)::k)) cs w)= .next (lone (Wi b a (.inRegion ops (List.range ops.size)::k)) cs w):=
 step_lone_go (by simp[stepG,stepG.exec,Wi])
theorem GG {id:Nat} {ops:Array Oper}:step P (lone (Wi b a (.code (.region id ops true)::k)) cs w)=
 .next (lone (Wi b a (.inRegion ops (Region.schedule (P.follows .mixedOrders) ops (w.tape w.drawn (.order b.fn id)))::k)) cs {w with drawn:=w.drawn+1}):=
 step_lone_go (by simp[stepG,stepG.exec,Wi,choose,Sem.run,Question.forced,Question.cut])
theorem Ie {ops:Array Oper}:step P (lone (Wi b a (.inRegion ops []::k)) cs w)= .next (lone (Wi b a k) cs w):=step_lone_go (by simp[stepG,stepG.exec,Wi])
theorem BW (b:Frame) (a:Act) (ops:Array Oper) (i:Nat) (rest:List Nat) (k:List Item) (v:Value):
 (Wi b a (.inRegion ops (i::rest)::k)).finish v=Wi b (a.put ((ops[i]?).bind (·.dst)) v) (.inRegion ops rest::k):=by
 cases h:(ops[i]?).bind (·.dst)<;>simp[Frame.finish,Wi,Act.put,h]
theorem Nu {ops:Array Oper} {i:Nat} {rest:List Nat} (h:((ops[i]?).map (Region.wanted · (yielded ops a.tmps))).getD false=false):
 step P (lone (Wi b a (.inRegion ops (i::rest)::k)) cs w)= .next (lone (Wi b (a.put ((ops[i]?).bind (·.dst)) undef) (.inRegion ops rest::k)) cs w):=by
 rw[<-BW];exact step_lone_go (by
  have h':=h;simp only[Wi]at*;simp[stepG,stepG.exec,h'])
theorem qN {ops:Array Oper} {i:Nat} {rest:List Nat} {o:Oper} (ho:ops[i]?=some o) (hw:Region.wanted o (yielded ops a.tmps)=true) (hr:b.roundOf=none\/∀c,o.op≠ .defer c):
 stepG P true {frame:=Wi b a (.inRegion ops (i::rest)::k),callers:=cs,status:= .running,dying:=none} w=
  stepG.apply P true (Wi b a (.inRegion ops (i::rest)::k)) cs none (execOp a.eval o) w:=by
 have he:=M9 b a (.inRegion ops (i::rest)::k);simp only[Wi]at he;rcases hr with hr|hr
 .rw[hr]at he;simp[stepG,stepG.exec,stepG.oper,Frame.oper?,Wi,ho,hw,he,hr]
 .simp only[stepG,stepG.exec,stepG.oper,Frame.oper?,Wi,ho,hw,he];cases hro:b.roundOf with
  |none=>simp[hw]
  |some l=>
   rw[hro]at he;cases XB:o.op<;>first|exact absurd XB (hr _)|simp[hw,he]
section op
variable {ops : Array Oper} {i : Nat} {rest : List Nat} {o : Oper} {w' : World} (ho : ops[i]? = some o) (hw : Region.wanted o (yielded ops a.tmps) = true) (hr : b.roundOf = none \/ ∀ c, o.op ≠ .defer c)
include ho hw hr
theorem B4 {v:Value} (h:(execOp a.eval o).run P w= .ok (.value v) w'):
 step P (lone (Wi b a (.inRegion ops (i::rest)::k)) cs w)= .next (lone (Wi b (a.put o.dst v) (.inRegion ops rest::k)) cs w'):=by
 have Xn:=BW b a ops i rest k v;rw[ho]at Xn;refine step_lone_go ?_;rw[qN ho hw hr];simp only[Qe]at Xn;rw[<-Xn];simp[stepG.apply,h]
theorem Nx (h:(execOp a.eval o).run P w= .ok .skip w'):
 step P (lone (Wi b a (.inRegion ops (i::rest)::k)) cs w)= .next (lone (Wi b (a.put o.dst undef) (.inRegion ops rest::k)) cs w'):=by
 have Xn:=BW b a ops i rest k undef;rw[ho]at Xn;refine step_lone_go ?_;rw[qN ho hw hr];simp only[Qe]at Xn;rw[<-Xn];simp[stepG.apply,h]
theorem H8 {f:FuncId} {args:Array Value} (h:(execOp a.eval o).run P w= .ok (.enter f args) w'):
 step P (lone (Wi b a (.inRegion ops (i::rest)::k)) cs w)= .next (lone (Frame.enter P f args .normal) (Wi b a (.inRegion ops (i::rest)::k)::cs) w'):=by
 refine step_lone_go ?_;rw[qN ho hw hr];simp[stepG.apply,h,Wi]
theorem Pq {l:Nat} {f:FuncId} {tmps:Array Value} {gH body:Code} (h:(execOp a.eval o).run P w= .ok (.round l f tmps gH body) w'):
 step P (lone (Wi b a (.inRegion ops (i::rest)::k)) cs w)= .next (lone (Frame.round l f tmps gH body .normal) (Wi b a (.inRegion ops (i::rest)::k)::cs) w'):=by
 refine step_lone_go ?_;rw[qN ho hw hr];simp[stepG.apply,h,Wi]
theorem s_defer {d:Deferred} (h:(execOp a.eval o).run P w= .ok (.defer d) w'):
 step P (lone (Wi b a (.inRegion ops (i::rest)::k)) cs w)= .next (lone (Wi b ({a with defers:=d::a.defers}.put o.dst undef) (.inRegion ops rest::k)) cs w'):=by
 have Xn:=BW b {a with defers:=d::a.defers} ops i rest k undef;rw[ho]at Xn;simp only[Qe]at Xn;refine step_lone_go ?_;rw[qN ho hw hr,<-Xn];simp[stepG.apply,h,Wi]
theorem s_panic {v:Value} (h:(execOp a.eval o).run P w= .halt (.panic v) w'):
 step P (lone (Wi b a (.inRegion ops (i::rest)::k)) cs w)=
  .next (lone {Wi b a (.inRegion ops (i::rest)::k)with mode:= .panicking [{v,recovered:=false}]} cs w'):=by
 refine step_lone_go ?_;rw[qN ho hw hr];simp[stepG.apply,h,Wi,Frame.raise]
theorem Kv (h:(execOp a.eval o).run P w= .ok .recover w') (hro:b.roundOf=none) (ht:tryRecover (Wi b a (.inRegion ops (i::rest)::k)) cs=none):
 step P (lone (Wi b a (.inRegion ops (i::rest)::k)) cs w)= .next (lone (Wi b (a.put o.dst .nilIface) (.inRegion ops rest::k)) cs w'):=by
 have Xn:=BW b a ops i rest k .nilIface;rw[ho]at Xn;simp only[Qe]at Xn;refine step_lone_go ?_;rw[qN ho hw hr,<-Xn];have:(Wi b a (.inRegion ops (i::rest)::k)).roundOf=none:=hro;simp[stepG.apply,h,this,ht]
theorem Ku {v:Value} {Yg:List Frame} (h:(execOp a.eval o).run P w= .ok .recover w') (hro:b.roundOf=none) (ht:tryRecover (Wi b a (.inRegion ops (i::rest)::k)) cs=some (v,Yg)):
 step P (lone (Wi b a (.inRegion ops (i::rest)::k)) cs w)= .next (lone (Wi b (a.put o.dst v) (.inRegion ops rest::k)) Yg w'):=by
 have Xn:=BW b a ops i rest k v;rw[ho]at Xn;simp only[Qe]at Xn;refine step_lone_go ?_;rw[qN ho hw hr,<-Xn];have:(Wi b a (.inRegion ops (i::rest)::k)).roundOf=none:=hro;simp[stepG.apply,h,this,ht]
end op
end
def o8 (b:Frame) (cs:List Frame):Prop:=tryRecover b cs=none
def Mo:List Frame->List Frame
 |c::rest=> {c with mode:=match c.mode with| .panicking (e::l)=> .panicking ({e with recovered:=true}::l)|m=>m}::rest
 | []=>[]
inductive jY (C:Cx):List fY->List Deferred->Prop where
 |O:jY C [] []
 |J {d:fY} {x:Deferred} {l:List fY} {r:List Deferred} (h:qH C d x) (t:jY C l r):jY C (d::l) (x::r)
theorem qH.g {C C':Cx} (e:m_ C C') {d:fY} {x:Deferred} (h:qH C d x):qH C' d x:=by
 cases h with
 |O hf ha hb=>exact .O hf (ha.z e) (hb.z e)
 |J hd=>rw[<-e.a _ hd];exact .J (e.D _ hd)
theorem jY.g {C C':Cx} (e:m_ C C') {d:List fY} {x:List Deferred} (h:jY C d x):jY C' d x:=by
 induction h with
 |O=>exact .O
 |J h _ ih=>exact .J (h.g e) ih
inductive wK (C:Cx) (b:Frame) (cs:List Frame):Option AV->Prop where
 |J (h:o8 b cs):wK C b cs none
 |O {v:AV} {x:Value} {c:Frame} {rest:List Frame} (hk:b.kind= .deferred) (WS:cs=c::rest) (hm:c.mode= .panicking [{v:=x,recovered:=false}]) (hv:VR C v x):wK C b cs (some v)
inductive sh (C:Cx) (b:Frame):Option Nat->Prop where
 |J (h:b.roundOf=none):sh C b none
 |O {l:Nat} (hd:C.D l) (h:b.roundOf=some (C.a l).b):sh C b (some l)
structure o9 (C:Cx) (fr:Fr) (b:Frame) (a:Act) (cs:List Frame):Prop where
 d:jY C fr.defers a.defers
 e:wK C b cs fr.Xi
 c:sh C b fr.a
theorem o9.g {C C':Cx} (e:m_ C C') {fr:Fr} {b:Frame} {a:Act} {cs:List Frame} (h:o9 C fr b a cs):o9 C' fr b a cs:=by
 refine⟨h.d.g e,?_,?_⟩
 .have:=h.e;generalize fr.Xi=p at this;cases this with
  |J h=>exact .J h
  |O hk WS hm hv=>exact .O hk WS hm (hv.g e)
 .have:=h.c;generalize fr.a=p at this;cases this with
  |J h=>exact .J h
  |O hd h=>exact .O (e.D _ hd) (by rw[h,e.a _ hd])
inductive uU:Option AV->Option AV->List Frame->List Frame->Prop where
 |J {p:Option AV} {cs:List Frame}:uU p p cs cs
 |O {v:AV} {cs:List Frame}:uU (some v) none cs (Mo cs)
theorem uU.u {p q r:Option AV} {a b c:List Frame} (h:uU p q a b) (g:uU q r b c):uU p r a c:=by
 cases h with
 |J=>exact g
 |O=>
  generalize hq:(none:Option AV)=q' at g;cases g with
  |J=>subst hq;exact .O
  |O=>cases hq
def pN (k:List Item):Prop:=∀d wr r s k',k≠ .call d wr r s::k'
def B_ (P:Program) (b:Frame) (k:List Item) (cs:List Frame) (C:Cx) (m:Machine):Ex->Act->World->Prop
 | .J,a,w=>Steps P m (lone (Wi b a k) cs w)
 | .Z id,a,w=>∃k2,Steps P m (lone (Wi b a (.code (.exit id)::k2)) cs w)/\exitTo id k2=exitTo id k
 | .Y,a,w=>∃k2,Steps P m (lone (Wi b a (.code .ret::k2)) cs w)
 | .O v,a,w=>∃k2 x,Steps P m (lone {Wi b a k2 with mode:= .panicking [{v:=x,recovered:=false}]} cs w)/\VR C v x/\pN k2
theorem B_.steps {P:Program} {b:Frame} {k:List Item} {cs:List Frame} {C:Cx} {m m':Machine} (hs:Steps P m m') {e:Ex} {a:Act} {w:World} (h:B_ P b k cs C m' e a w):B_ P b k cs C m e a w:=by
 cases e with
 |J=>exact hs.trans h
 |Z id=>obtain⟨k2,h1,h2⟩:=h;exact⟨k2,hs.trans h1,h2⟩
 |Y=>obtain⟨k2,h1⟩:=h;exact⟨k2,hs.trans h1⟩
 |O v=>obtain⟨k2,x,h1,h2⟩:=h;exact⟨k2,x,hs.trans h1,h2⟩
def jG:k6->Option (List cP)
 | .J=>none
 | .O r=>some [r]
 | .Y l=>some l
def f_ (P:Program) (C:Cx) (S:St) (w:World) (fr:Fr) (b:Frame) (k:List Item) (cs:List Frame) (m:Machine) (out:k6):Prop:=
 ∀l,jG out=some l->∃r∈l,∃C' a' w' Yg,CE C S w C' r.b w'/\TR C' r.a.nt r.T a'.tmps/\o9 C' r.a b a' Yg/\r.a.nt=fr.nt/\r.a.a=fr.a/\
  uU fr.Xi r.a.Xi cs Yg/\B_ P b k Yg C' m r.c a' w'
theorem Aq {P:Program} {C:Cx} {S:St} {w:World} {fr:Fr} {b:Frame} {k:List Item} {cs:List Frame} {m:Machine}:f_ P C S w fr b k cs m .J:=fun _ h=>by cases h
theorem f_.steps {P:Program} {C:Cx} {S:St} {w:World} {fr:Fr} {b:Frame} {k:List Item} {cs:List Frame} {m m':Machine} {out:k6} (hs:Steps P m m') (h:f_ P C S w fr b k cs m' out):
 f_ P C S w fr b k cs m out:=fun l hl=>
 let⟨r,hr,C',a',w',Yg,h1,h2,h3,h4,h5,h6,h7⟩:=h l hl;⟨r,hr,C',a',w',Yg,h1,h2,h3,h4,h5,h6,h7.steps hs⟩
def YV (E:c_) (P:Program) (c:Code) (run:vt):Prop:=
 ∀(C:Cx) (S:St) (w:World) (fr:Fr) (T:Tr AV) (b:Frame) (a:Act) (k:List Item) (cs:List Frame),WN E C->TR C fr.nt T a.tmps->o9 C fr b a cs->WW C S w->
  f_ P C S w fr b k cs (lone (Wi b a (.code c::k)) cs w) (run fr T S)
theorem F0 {k:cP->k6}:∀ {l:List cP} {y:List cP},k6.z k l=some y->∀r∈l,∃l',jG (k r)=some l'/\∀x∈l',x∈y
 |a::l,y,h,r,hr=>by
  simp only[k6.z]at h;cases ha:k a with
  |J=>rw[ha]at h;cases h
  |O x=>
   rw[ha]at h;cases hj:k6.z k l with
   |none=>rw[hj]at h;cases h
   |some z=>
    rw[hj]at h;cases h;rcases Qk.1 hr with rfl|hr
    .exact⟨[x],by rw[ha];rfl,fun q hq=>by simp at hq;subst hq;exact Qh ..⟩
    .obtain⟨l',h1,h2⟩:=F0 hj r hr;exact⟨l',h1,fun q hq=>Qg _ (h2 q hq)⟩
  |Y xs=>
   rw[ha]at h;cases hj:k6.z k l with
   |none=>rw[hj]at h;cases h
   |some z=>
    rw[hj]at h;cases h;rcases Qk.1 hr with rfl|hr
    .exact⟨xs,by rw[ha];rfl,fun q hq=>List.mem_append_left _ hq⟩
    .obtain⟨l',h1,h2⟩:=F0 hj r hr;exact⟨l',h1,fun q hq=>List.mem_append_right _ (h2 q hq)⟩
theorem T4 {o:k6} {k:cP->k6} {l:List cP} (h:jG (o.g k)=some l):∃l0,jG o=some l0/\∀r∈l0,∃l',jG (k r)=some l'/\∀x∈l',x∈l:=by
 cases o with
 |J=>cases h
 |O r=>exact⟨[r],rfl,fun q hq=>by simp at hq;subst hq;exact⟨l,h,fun x hx=>hx⟩⟩
 |Y xs=>
  refine⟨xs,U,?_⟩;unfold k6.g at h;simp only at h;cases hj:k6.z k xs with
  |none=>rw[hj]at h;cases h
  |some y=>grind [k6.u,jG,F0]
theorem f_.then {E:c_} {P:Program} {C:Cx} {S:St} {w:World} {fr:Fr} {b:Frame} {k k0:List Item} {cs:List Frame} {m:Machine} {out:k6} {kf:cP->k6} (hg:WN E C)
 (h:f_ P C S w fr b k0 cs m out)
 (hk:∀(r:cP) (C':Cx) (a':Act) (w':World) (Yg:List Frame) (m':Machine),WN E C'->WW C' r.b w'->TR C' r.a.nt r.T a'.tmps->o9 C' r.a b a' Yg->B_ P b k0 Yg C' m' r.c a' w'->
  f_ P C' r.b w' r.a b k Yg m' (kf r)):f_ P C S w fr b k cs m (out.g kf):=by
 intro l hl;obtain⟨l0,h0,h1⟩:=T4 hl;obtain⟨r,hr,C',a',w',Yg,t,hT,hF,hn,bS,WS,he⟩:=h l0 h0;obtain⟨l',ZI,ZQ⟩:=h1 r hr;obtain⟨r2,mR,C2,a2,w2,ur,t2,uu,hF2,dx,hrd2,hcs2,he2⟩:=hk r C' a' w' Yg m (hg.mono t.a) t.c hT hF he l' ZI;exact⟨r2,ZQ r2 mR,C2,a2,w2,ur,t.u t2,uu,hF2,dx.trans hn,hrd2.trans bS,WS.u hcs2,he2⟩
theorem f_.one {P:Program} {C:Cx} {r:cP} {w:World} {b:Frame} {a:Act} {k:List Item} {cs:List Frame} {m:Machine} (hS:WW C r.b w) (hT:TR C r.a.nt r.T a.tmps) (hF:o9 C r.a b a cs)
 (he:B_ P b k cs C m r.c a w):f_ P C r.b w r.a b k cs m (.O r):=by
 intro l hl;cases hl;exact⟨r,Qp.2 U,C,a,w,cs,CE.g hS,hT,hF,U,U,.J,he⟩
section
variable {E : c_} {P : Program}
def lX (E:c_) (P:Program) (ev:Ev):Prop:=∀c,YV E P c (ev c)
theorem Uu {ev:Ev} {c:Code} (h:∀(b:Frame) (a:Act) (k:List Item) (cs:List Frame) (w:World),step P (lone (Wi b a (.code c::k)) cs w)= .next (lone (Wi b a k) cs w)):YV E P c (th.run ev):=by
 intro C S w fr T b a k cs hg hT hF hS;exact f_.one (r:=⟨.J,fr,T,S⟩) hS hT hF (.one (h b a k cs w))
theorem Oq {x:Item} (h:∀id,x≠ .inBlock id) (id:Nat) (k:List Item):exitTo id (x::k)=exitTo id k:=by
 cases x<;>first|rfl|exact absurd rfl (h _)
theorem Kp {b:Frame} {x:Item} {k:List Item} {cs:List Frame} {C:Cx} {m:Machine} {e:Ex} {a:Act} {w:World} (hx:∀id,x≠ .inBlock id) (hn:e≠ .J)
 (h:B_ P b (x::k) cs C m e a w):B_ P b k cs C m e a w:=by
 cases e with
 |J=>exact absurd rfl hn
 |Z id=>obtain⟨k2,h1,h2⟩:=h;exact⟨k2,h1,by rw[h2,Oq hx]⟩
 |Y=>exact h
 |O v=>exact h
theorem ok_seq {x y:Code} {ka kb:vt} (ha:YV E P x ka) (hb:YV E P y kb):YV E P (.seq x y) (fun fr T s=>(ka fr T s).g (mW kb)):=by
 intro C S w fr T b a k cs hg hT hF hS;refine f_.steps (.one s_seq) (f_.then hg (ha C S w fr T b a (.code y::k) cs hg hT hF hS) ?_);intro r C' a' w' Yg m' kB uj af wM he;unfold mW;split
 .next h=>
  rw[h]at he;exact f_.steps he (hb C' r.b w' r.a r.T b a' k Yg kB af wM uj)
 .grind [f_.one,Kp]
theorem ok_cond {x:Operand} {c d:Code} {ka kb:vt} (ha:YV E P c ka) (hb:YV E P d kb):YV E P (.cond x c d) (fun fr T s=>fR ka kb fr T s (Ci E x T)):=by
 intro C S w fr T b a k cs hg hT hF hS;show f_ P C S w fr b k cs _ (fR ka kb fr T S (Ci E x T));unfold fR;split
 .next t hx=>
  have hTa:TR C a.tmps.size T a.tmps:=⟨rfl,hT.2⟩
  have hv:=Al hg hTa hx;generalize hq:a.eval x=q at hv;cases hv;have hs:=s_cond (P:=P) (b:=b) (k:=k) (cs:=cs) (w:=w) (x:=c) (y:=d) hq;cases t with
  |true=>exact f_.steps (.one hs) (ha C S w fr T b a k cs hg hT hF hS)
  |false=>exact f_.steps (.one hs) (hb C S w fr T b a k cs hg hT hF hS)
 .exact Aq
theorem wN {id:Nat} {c:Code} {ka:vt} (ha:YV E P c ka):YV E P (.block id c) (fun fr T s=>(ka fr T s).g (fh id)):=by
 intro C S w fr T b a k cs hg hT hF hS;refine f_.steps (.one s_block) (f_.then hg (ha C S w fr T b a (.inBlock id::k) cs hg hT hF hS) ?_);intro r C' a' w' Yg m' kB uj af wM he;obtain⟨ex,Yx,T',Yk⟩:=r;unfold fh;cases ex with
 |Z i=>
  obtain⟨k2,h1,h2⟩:=he;simp only;cases hi:Nat.beq i id with
  |true=>
   have:=Qb hi;subst this;simp only[cond_true];have hk:exitTo i k2=some k:=by rw[h2];simp[exitTo]
   exact f_.one (r:=⟨.J,Yx,T',Yk⟩) uj af wM (h1.trans (.one (s_exit hk)))
  |false=>
   have Yh:=Nat.ne_of_beq_eq_false hi;simp only[cond_false];refine f_.one (r:=⟨.Z i,Yx,T',Yk⟩) uj af wM ⟨k2,h1,?_⟩;rw[h2];have:(id==i)=false:=by simp;exact fun h=>Yh h.symm
   simp[exitTo,this]
 |J=>exact f_.one (r:=⟨.J,Yx,T',Yk⟩) uj af wM (Steps.trans he (.one TL))
 |Y=>exact f_.one (r:=⟨.Y,Yx,T',Yk⟩) uj af wM he
 |O v=>exact f_.one (r:=⟨.O v,Yx,T',Yk⟩) uj af wM he
theorem wO {c:Code} {ka:vt} (ha:YV E P c ka):YV E P (.scope c) ka:=by
 intro C S w fr T b a k cs hg hT hF hS l hl;obtain⟨r,hr,C',a',w',Yg,t,h2,h3,h4,h5,h6,he⟩:=ha C S w fr T b a (.inScope c::k) cs hg hT hF hS l hl;refine⟨r,hr,C',a',w',Yg,t,h2,h3,h4,h5,h6,B_.steps (.one s_scope) ?_⟩;by_cases hn:r.c= .J
 .rw[hn]at he|-;exact Steps.trans he (.one TK)
 .grind [Kp]
theorem FO {f g:Frame} {cs Yg:List Frame} {w w':World} (h:lone f cs w=lone g Yg w'):f=g:=by
 have:=congrArg Machine.gs h;simp[lone]at this;exact this.1
theorem Gd {m m' m'':Machine} (h:Steps P m m'') (Yh:m≠m'') (he:step P m=step P m'):Steps P m' m'':=by
 obtain⟨n,hn⟩:=h;cases n with
 |zero=>exact absurd (by simpa[runN]using hn) Yh
 |succ n=>
  refine⟨n+1,?_⟩;unfold runN at hn|-;rw[<-he];exact hn
theorem Q7 {C:Cx} {S:St} {w:World} {fr:Fr} {b:Frame} {a:Act} {c:Code} {k:List Item} {cs:List Frame} {out:k6}
 (h:f_ P C S w fr b k cs (lone (Wi b a (.code (.loop c)::k)) cs w) out):f_ P C S w fr b k cs (lone (Wi b a (.inLoop c::k)) cs w) out:=by
 have XM:step P (lone (Wi b a (.code (.loop c)::k)) cs w)=step P (lone (Wi b a (.inLoop c::k)) cs w):=wD.trans wG.symm;intro l hl;obtain⟨r,hr,C',a',w',Yg,t,h2,h3,h4,h5,h6,he⟩:=h l hl;refine⟨r,hr,C',a',w',Yg,t,h2,h3,h4,h5,h6,?_⟩;generalize r.c=e at he;cases e with
 |J=>
  refine Gd he (fun hm=>?_) XM;have:=congrArg Frame.todo (FO hm);have:=congrArg List.length this;simp[Wi]at this
 |Z id=>
  obtain⟨k2,h1,h2⟩:=he;refine⟨k2,Gd h1 (fun hm=>?_) XM,h2⟩;have:=congrArg Frame.todo (FO hm);simp[Wi]at this
 |Y=>
  obtain⟨k2,h1⟩:=he;refine⟨k2,Gd h1 (fun hm=>?_) XM⟩;have:=congrArg Frame.todo (FO hm);simp[Wi]at this
 |O v=>
  obtain⟨k2,x,h1,h2⟩:=he;refine⟨k2,x,Gd h1 (fun hm=>?_) XM,h2⟩;have:=congrArg Frame.mode (FO hm);simp[Wi]at this
theorem ok_loop {c:Code} {ka kl:vt} (ha:YV E P c ka) (hl:YV E P (.loop c) kl):YV E P (.loop c) (fun fr T s=>(ka fr T s).g (mW kl)):=by
 intro C S w fr T b a k cs hg hT hF hS;refine f_.steps (.one wD) (f_.then hg (ha C S w fr T b a (.inLoop c::k) cs hg hT hF hS) ?_);intro r C' a' w' Yg m' kB uj af wM he;unfold mW;split
 .next h=>
  rw[h]at he;exact f_.steps he (Q7 (hl C' r.b w' r.a r.T b a' k Yg kB af wM uj))
 .grind [f_.one,Kp]
theorem ok_exit {id:Nat}:YV E P (.exit id) (fun fr T s=> .O ⟨.Z id,fr,T,s⟩):=by
 intro C S w fr T b a k cs hg hT hF hS;exact f_.one (r:=⟨.Z id,fr,T,S⟩) hS hT hF ⟨k,.refl _ _,U⟩
theorem ok_ret:YV E P .ret (fun fr T s=> .O ⟨.Y,fr,T,s⟩):=by
 intro C S w fr T b a k cs hg hT hF hS;exact f_.one (r:=⟨.Y,fr,T,S⟩) hS hT hF ⟨k,.refl _ _⟩
theorem Mr {c:Code}:YV E P c (fun _ _ _=> .J):=fun _ _ _ _ _ _ _ _ _ _ _ _ _=>Aq
end
def o_ (P:Program) (m:Machine) (c:Frame) (cs:List Frame) (C:Cx) (S:St) (w:World):CR->Prop
 | .J v=>∃C' x w',Steps P m (lone (c.finish x) cs w')/\CE C S w C' S w'/\VR C' v x
 | .O v S'=>∃C' x w',Steps P m (lone (c.finish x) cs w')/\CE C S w C' S' w'/\VR C' v x
 | .Y v S'=>∃C' x w',Steps P m (lone (c.raise [{v:=x,recovered:=false}]) cs w')/\CE C S w C' S' w'/\VR C' v x
def ZB (E:c_) (P:Program) (ev:Ev):Prop:=
 ∀(f:FuncId) (args:List AV) (cr:CR) (C:Cx) (S:St) (w:World) (xs:Array Value) (c:Frame) (cs:List Frame),WM E ev f args S=some cr->WN E C->Wx C args xs.toList->WW C S w->
  o_ P (lone (Frame.enter P f xs .normal) (c::cs) w) c cs C S w cr
def ZC (E:c_) (P:Program) (ev:Ev):Prop:=
 ∀(g:AV) (args:List AV) (cr:CR) (C:Cx) (S:St) (w:World) (gx:Value) (xs:Array Value) (c:Frame) (cs:List Frame),Xz E ev args S g=some cr->WN E C->VR C g gx->Wx C args xs.toList->WW C S w->
  (∃f ys,(do let d<-Deferred.ofValue gx xs;invoke d.target d.args:Sem Next).run P w= .ok (.enter f ys) w/\o_ P (lone (Frame.enter P f ys .normal) (c::cs) w) c cs C S w cr)\/
  (∃l f tmps gH body,(do let d<-Deferred.ofValue gx xs;invoke d.target d.args:Sem Next).run P w= .ok (.round l f tmps gH body) w/\o_ P (lone (Frame.round l f tmps gH body .normal) (c::cs) w) c cs C S w cr)
def pO (E:c_) (P:Program) (ops:Array Oper) (idx:List Nat) (dst:Option Tmp) (kr:Fr->Tr AV->AV->St->k6):Prop:=
 ∀(C:Cx) (S:St) (w:World) (fr:Fr) (T:Tr AV) (b:Frame) (a:Act) (k:List Item) (cs:List Frame) (v:AV) (x:Value),WN E C->TR C fr.nt T a.tmps->o9 C fr b a cs->WW C S w->VR C v x->
  f_ P C S w fr b k cs (lone (Wi b (a.put dst x) (.inRegion ops idx::k)) cs w) (kr fr T v S)
def wP (E:c_) (P:Program) (ops:Array Oper) (idx:List Nat) (run:vt):Prop:=
 ∀(C:Cx) (S:St) (w:World) (fr:Fr) (T:Tr AV) (b:Frame) (a:Act) (k:List Item) (cs:List Frame),WN E C->TR C fr.nt T a.tmps->o9 C fr b a cs->WW C S w->
  f_ P C S w fr b k cs (lone (Wi b a (.inRegion ops idx::k)) cs w) (run fr T S)
section
variable {E : c_} {P : Program}
theorem Bp {C C1:Cx} {S S1:St} {w w1:World} {fr:Fr} {b:Frame} {k:List Item} {cs:List Frame} {m:Machine} {out:k6} (t:CE C S w C1 S1 w1) (h:f_ P C1 S1 w1 fr b k cs m out):
 f_ P C S w fr b k cs m out:=fun l hl=>
 let⟨r,hr,C',a',w',Yg,h1,h2,h3,h4,h5,h6,h7⟩:=h l hl;⟨r,hr,C',a',w',Yg,t.u h1,h2,h3,h4,h5,h6,h7⟩
theorem KT (a:Act) (d:Option Tmp) (v:Value):(a.put d v).defers=a.defers:=by cases d<;>rfl
theorem QQ (a:Act) (d:Option Tmp) (v:Value):(a.put d v).tmps.size=a.tmps.size:=by cases d<;>simp[Act.put]
theorem o9.u {C:Cx} {fr:Fr} {b:Frame} {a:Act} {cs:List Frame} (h:o9 C fr b a cs) (d:Option Tmp) (v:Value):o9 C fr b (a.put d v) cs:=⟨by rw[KT];exact h.d,h.e,h.c⟩
theorem TR.put {C:Cx} {nt:Nat} {T:Tr AV} {a:Act} (h:TR C nt T a.tmps) {d:Nat} (hd:d<nt) {v:AV} {x:Value} (hv:VR C v x):TR C nt (T.u d (some v)) (a.put (some d) x).tmps:=by
 refine⟨by rw[QQ];exact h.1,fun i u hi=>?_⟩;rw[Ay]at hi;simp only[Act.put,Array.getElem?_setIfInBounds];split at hi
 .next e=>subst e;cases hi;exact⟨x,by simp[h.1,hd],hv⟩
 .next e=>
  obtain⟨y,hy,hr⟩:=h.2 i u hi;exact⟨y,by rw[if_neg (fun e'=>e e'.symm)];exact hy,hr⟩
theorem wQ {ops:Array Oper} {idx:List Nat} {dst:Option Nat} {k:Cl} {ev:Ev} (h:wP E P ops idx (k.run ev)):pO E P ops idx dst ((Z2 dst k).run ev):=by
 intro C S w fr T b a k' cs v x hg hT hF hS hv;cases dst with
 |none=>exact h C S w fr T b a k' cs hg hT hF hS
 |some d=>
  show f_ P C S w fr b k' cs _ (bif Nat.blt d fr.nt then _ else _);cases hd:Nat.blt d fr.nt with
  |false=>exact Aq
  |true=>
   have C5:d<fr.nt:=by simpa[Nat.blt_eq]using hd
   exact h C S w fr (T.u d (some v)) b (a.put (some d) x) k' cs hg (hT.put C5 hv) (hF.u _ _) hS
theorem wR {a b:k6} {y:List cP} (h:jG (k6.A a b)=some y):∃x z,jG a=some x/\jG b=some z/\y=x++z:=by
 cases a<;>cases b<;>first|(cases h;done)|(cases h;exact⟨_,_,rfl,rfl,by simp⟩)
theorem J0 {k:AV->St->k6}:∀ {l:List (AV×St)} {y:List cP},jG (Yz k l)=some y->∀p∈l,∃l',jG (k p.1 p.2)=some l'/\∀x∈l',x∈y
 | [p],y,h,q,hq=>by
  simp at hq;subst hq;exact⟨y,h,fun x hx=>hx⟩
 |p::p'::l,y,h,q,hq=>by
  obtain⟨x,z,h1,h2,rfl⟩:=wR (a:=k p.1 p.2) (b:=Yz k (p'::l)) h;rcases Qk.1 hq with rfl|hq
  .grind
  .obtain⟨l',h3,h4⟩:=J0 h2 q hq;exact⟨l',h3,fun x hx=>List.mem_append_right _ (h4 x hx)⟩
theorem Km {C:Cx} {S:St} {w:World} {fr:Fr} {b:Frame} {k':List Item} {cs:List Frame} {m:Machine} {k:AV->St->k6} {l:List (AV×St)} {p:AV×St} (hp:p∈l)
 (h:f_ P C S w fr b k' cs m (k p.1 p.2)):f_ P C S w fr b k' cs m (Yz k l):=by
 intro y hy;obtain⟨l',h1,h2⟩:=J0 hy p hp;obtain⟨r,hr,rest⟩:=h l' h1;exact⟨r,h2 r hr,rest⟩
theorem Q9 {s:St} {v:AV}:∀ {l:List AV},v∈l->(v,s)∈qE s l
 |a::l,h=>by
  simp only[qE];rcases Qk.1 h with rfl|h
  .exact Qh ..
  .exact Qg _ (Q9 h)
theorem Jp {o:Oper} {so:cf} (h:XL E o.type o.op=so) (h1:∀f,so≠ .bW f) (h2:so≠ .J):∀c,o.op≠ .defer c:=by grind [XL,gV]
theorem NA (b:Frame) (a:Act) (todo:List Item) (chain:List PanicEntry):(Wi b a todo).raise chain= {Wi b a todo with mode:= .panicking chain}:=rfl
theorem wS {ops:Array Oper} {i:Nat} {idx:List Nat} {o:Oper} (ho:ops[i]?=some o) {kr:Fr->Tr AV->AV->St->k6} (hk:pO E P ops idx o.dst kr) {C:Cx} {S:St} {w:World} {fr:Fr} {T:Tr AV} {b:Frame}
 {a:Act} {k':List Item} {cs:List Frame} (hg:WN E C) (hT:TR C fr.nt T a.tmps) (hF:o9 C fr b a cs) (hS:WW C S w) {m:Machine} {cr:CR}
 (h:o_ P m (Wi b a (.inRegion ops (i::idx)::k')) cs C S w cr):f_ P C S w fr b k' cs m (X4 fr T S (kr fr T) (some cr)):=by
 have Xn:=fun v=>BW b a ops i idx k' v;simp only[ho,Qe]at Xn;cases cr with
 |J v=>
  obtain⟨C',x,w',hs,t,hv⟩:=h;rw[Xn]at hs;exact f_.steps hs (Bp t (hk C' S w' fr T b a k' cs v x (hg.mono t.a) (hT.mono t.a) (hF.g t.a) t.c hv))
 |O v S'=>
  obtain⟨C',x,w',hs,t,hv⟩:=h;rw[Xn]at hs;exact f_.steps hs (Bp t (hk C' S' w' fr T b a k' cs v x (hg.mono t.a) (hT.mono t.a) (hF.g t.a) t.c hv))
 |Y v S'=>
  obtain⟨C',x,w',hs,t,hv⟩:=h;rw[NA]at hs;exact Bp t (f_.one (r:=⟨.O v,fr,T,S'⟩) t.c (hT.mono t.a) (hF.g t.a) ⟨_,x,hs,hv,by intro _ _ _ _ _ h;cases h⟩)
theorem ok_step {ev:Ev} (Wv:ZB E P ev) (WJ:ZC E P ev) {ops:Array Oper} {i:Nat} {idx:List Nat} {o:Oper} (ho:ops[i]?=some o) {so:cf} (bU:W5 E P o so) (heq:XL E o.type o.op=so) {k:qo}
 (hk:pO E P ops idx o.dst (k.run ev)) {C:Cx} {S:St} {w:World} {fr:Fr} {T:Tr AV} {b:Frame} {a:Act} {k':List Item} {cs:List Frame} (hg:WN E C) (hT:TR C fr.nt T a.tmps)
 (hF:o9 C fr b a cs) (hS:WW C S w) (hw:Region.wanted o (yielded ops a.tmps)=true):
 f_ P C S w fr b k' cs (lone (Wi b a (.inRegion ops (i::idx)::k')) cs w) ((Xf E so k).run ev fr T S):=by
 have hTa:TR C a.tmps.size T a.tmps:=⟨rfl,hT.2⟩
 have sp:=bU C T a S w hg hTa hS;have hr:(∀f,so≠ .bW f)->so≠ .J->b.roundOf=none\/∀c,o.op≠ .defer c:=fun h1 h2=> .inr (Jp heq h1 h2);cases so with
 |J=>exact Aq
 |an f=>
  show f_ P C S w fr b k' cs _ (oi S (k.run ev fr T) (f T));cases hf:f T with
  |none=>exact Aq
  |some mk=>
   cases mk with
   |O v=>
    obtain⟨C',x,w',CF,t,hv⟩:=sp.1 v hf;exact f_.steps (.one (B4 ho hw (hr (by simp) (by simp)) CF)) (Bp t (hk C' S w' fr T b a k' cs v x (hg.mono t.a) (hT.mono t.a) (hF.g t.a) t.c hv))
   |J ob g=>
    obtain⟨C',x,w',CF,t,hv⟩:=sp.2 ob g hf;exact f_.steps (.one (B4 ho hw (hr (by simp) (by simp)) CF)) (Bp t (hk C' _ w' fr T b a k' cs _ x (hg.mono t.a) (hT.mono t.a) (hF.g t.a) t.c hv))
 |O f=>
  show f_ P C S w fr b k' cs _ (Ye (fun v=>k.run ev fr T v S) (f T));cases hf:f T with
  |none=>exact Aq
  |some v=>
   obtain⟨x,CF,hv⟩:=sp v hf;exact f_.steps (.one (B4 ho hw (hr (by simp) (by simp)) CF)) (hk C S w fr T b a k' cs v x hg hT hF hS hv)
 |Y xo f=>
  show f_ P C S w fr b k' cs _ (Ye (fun v=>k.run ev fr T v S) (f T S));cases hf:f T S with
  |none=>exact Aq
  |some v=>
   obtain⟨x,CF,hv⟩:=sp v hf;exact f_.steps (.one (B4 ho hw (hr (by simp) (by simp)) CF)) (hk C S w fr T b a k' cs v x hg hT hF hS hv)
 |c_ f=>
  show f_ P C S w fr b k' cs _ (Ye (fun v=>k.run ev fr T v S) (f T S));cases hf:f T S with
  |none=>exact Aq
  |some v=>
   obtain⟨x,CF,hv⟩:=sp v hf;exact f_.steps (.one (B4 ho hw (hr (by simp) (by simp)) CF)) (hk C S w fr T b a k' cs v x hg hT hF hS hv)
 |a_ only xo f=>
  show f_ P C S w fr b k' cs _ (pF (k.run ev fr T) (f T S));cases hf:f T S with
  |none=>exact Aq
  |some p=>
   obtain⟨v,S'⟩:=p;obtain⟨C',nx,w',CF,t,ZL⟩:=sp v S' hf;cases ZL with
   | @J _ x hv=>exact f_.steps (.one (B4 ho hw (hr (by simp) (by simp)) CF)) (Bp t (hk C' S' w' fr T b a k' cs v x (hg.mono t.a) (hT.mono t.a) (hF.g t.a) t.c hv))
   |O=>exact f_.steps (.one (Nx ho hw (hr (by simp) (by simp)) CF)) (Bp t (hk C' S' w' fr T b a k' cs _ undef (hg.mono t.a) (hT.mono t.a) (hF.g t.a) t.c VR.z))
 |d_ f=>
  show f_ P C S w fr b k' cs _ (az (k.run ev fr T) ((f T).bind fun l=>some (qE S l)));cases hf:f T with
  |none=>exact Aq
  |some l=>
   obtain⟨v,hv,x,CF,aJ⟩:=sp l hf;exact f_.steps (.one (B4 ho hw (hr (by simp) (by simp)) CF)) (Km (Q9 hv) (hk C S w fr T b a k' cs v x hg hT hF hS aJ))
 |Cc f=>
  show f_ P C S w fr b k' cs _ (az (k.run ev fr T) (f T S));cases hf:f T S with
  |none=>exact Aq
  |some l=>
   obtain⟨p,hp,C',x,w',CF,t,aJ⟩:=sp l hf;exact f_.steps (.one (B4 ho hw (hr (by simp) (by simp)) CF)) (Bp t (Km hp (hk C' p.2 w' fr T b a k' cs p.1 x (hg.mono t.a) (hT.mono t.a) (hF.g t.a) t.c aJ)))
 |aG f=>
  show f_ P C S w fr b k' cs _ (X4 fr T S (k.run ev fr T) ((f T S).bind fun p=>WM E ev p.1 p.2 S));cases hf:f T S with
  |none=>exact Aq
  |some p=>
   obtain⟨g,args⟩:=p;obtain⟨xs,CF,Xr⟩:=sp g args hf;simp only[Qe];cases nk:WM E ev g args S with
   |none=>exact Aq
   |some cr=>
    have ZR:=Wv g args cr C S w xs (Wi b a (.inRegion ops (i::idx)::k')) cs nk hg Xr hS;exact f_.steps (.one (H8 ho hw (hr (by simp) (by simp)) CF)) (wS ho hk hg hT hF hS ZR)
 |Z1 f ar=>
  show f_ P C S w fr b k' cs _ (X4 fr T S (k.run ev fr T) ((f T).bind fun g=>(ar T).bind fun args=>Xz E ev args S g));cases hf:f T with
  |none=>exact Aq
  |some g=>
  cases ha:ar T with
  |none=>exact Aq
  |some args=>
   obtain⟨gx,xs,hgx,gu,hex⟩:=sp g args hf ha;simp only[Qe];cases nk:Xz E ev args S g with
   |none=>exact Aq
   |some cr=>
    rcases WJ g args cr C S w gx xs (Wi b a (.inRegion ops (i::idx)::k')) cs nk hg hgx gu hS with⟨f',ys,CF,ZR⟩|⟨l,f',tmps,gH,body,CF,ZR⟩
    .rw[<-hex]at CF;exact f_.steps (.one (H8 ho hw (hr (by simp) (by simp)) CF)) (wS ho hk hg hT hF hS ZR)
    .rw[<-hex]at CF;exact f_.steps (.one (Pq ho hw (hr (by simp) (by simp)) CF)) (wS ho hk hg hT hF hS ZR)
 |bW f=>
  show f_ P C S w fr b k' cs _ (iU fr (fun fr v=>k.run ev fr T v S) (f T));cases hf:f T with
  |none=>exact Aq
  |some d=>
   obtain⟨dv,CF,hd⟩:=sp d hf;obtain⟨nt,defers,Xi,round⟩:=fr;cases round with
   |some l=>exact Aq
   |none=>
    have eO:b.roundOf=none:=by have:=hF.c;cases this with|J h=>exact h
    have:=hk C S w ⟨nt,d::defers,Xi,none⟩ T b {a with defers:=dv::a.defers} k' cs (.Y []) undef hg hT ⟨.J hd hF.d,hF.e,hF.c⟩ hS VR.z;exact f_.steps (.one (s_defer ho hw (.inl eO) CF)) this
 |b_ f=>
  show f_ P C S w fr b k' cs _ (Ye (fun v=> .O ⟨.O v,fr,T,S⟩) (f T));cases hf:f T with
  |none=>exact Aq
  |some v=>
   obtain⟨x,CF,hv⟩:=sp v hf;exact f_.one (r:=⟨.O v,fr,T,S⟩) hS hT hF ⟨_,x,.one (s_panic ho hw (hr (by simp) (by simp)) CF),hv,by intro _ _ _ _ _ h;cases h⟩
 |Z=>
  show f_ P C S w fr b k' cs _ (lP fr fun fr v=>k.run ev fr T v S);obtain⟨nt,defers,Xi,round⟩:=fr;cases round with
  |some l=>exact Aq
  |none=>
   have eO:b.roundOf=none:=by have:=hF.c;cases this with|J h=>exact h
   have htr:∀todo,tryRecover (Wi b a todo) cs=tryRecover b cs:=by
    intro todo;cases hk0:b.kind<;>cases cs<;>simp[tryRecover,Wi,hk0]
   have uv:=hF.e;cases Xi with
   |none=>
    cases uv with
    |J Xo=>
     exact f_.steps (.one (Kv ho hw (hr (by simp) (by simp)) sp eO (by rw[htr];exact Xo))) (hk C S w ⟨nt,defers,none,none⟩ T b a k' cs .CS .nilIface hg hT hF hS .CS)
   |some v=>
    cases uv with
    | @O _ x c rest hkd WS hm hv=>
     subst WS;have hrec:tryRecover b (c::rest)=some (x,Mo (c::rest)):=by
      simp[tryRecover,hkd,hm,Mo]
     have Ya:=hk C S w ⟨nt,defers,none,none⟩ T b a k' (Mo (c::rest)) v x hg hT ⟨hF.d,.J (by simp[o8,tryRecover,Mo,hkd,hm]),hF.c⟩ hS hv;refine f_.steps (.one (Ku ho hw (hr (by simp) (by simp)) sp eO (by rw[htr];exact hrec))) ?_;intro l hl;obtain⟨r,dV,C',a',w',Yg,h1,h2,h3,h4,h5,h6,h7⟩:=Ya l hl;exact⟨r,dV,C',a',w',Yg,h1,h2,h3,h4,h5,uU.u .O h6,h7⟩
end
section
variable {E : c_} {P : Program}
theorem RE {C:Cx} {want:Bool} {v:AV} {x:Value} (hv:VR C v x) {t:Bool} (h:dN want (some v)=some t):((match some x with|some (.bool b)=>some b|_=>none:Option Bool)==some want)=t:=by
 cases hv with
 |bool b=>
  simp only[dN]at h;cases h;cases b<;>cases want<;>rfl
 |_=>simp only[dN]at h;cases h;cases want<;>rfl
theorem IN {C:Cx} {T:Tr AV} {a:Act} (hT:TR C a.tmps.size T a.tmps) {ops:Array Oper} {o:Oper} {j:Nat} {want:Bool} (hg:o.guard=some (j,want)) {t:Bool} (h:Xk ops.toList (j,want) T=some t):
 Region.wanted o (yielded ops a.tmps)=t:=by
 have hw:Region.wanted o (yielded ops a.tmps)=(yielded ops a.tmps j==some want):=by unfold Region.wanted;rw[hg]
 rw[hw];unfold Xk bx at h;rw[E4,Array.getElem?_toList]at h;unfold yielded;cases ho:ops[j]? with
 |none=>
  rw[ho]at h;cases h;cases want<;>rfl
 |some oj=>
  rw[ho]at h;cases hd:oj.dst with
  |none=>
   simp only[Qe,hd,Option.bind_none]at h|-;cases h;cases want<;>rfl
  |some d=>
   simp only[Qe,hd]at h|-;cases hp:Tr.A (s_ d) T with
   |none=>rw[hp]at h;cases h
   |some v=>
    rw[hp]at h;obtain⟨x,hx,hv⟩:=hT.2 d v hp;rw[hx];exact RE hv h
theorem Sv {ev:Ev} {ops:Array Oper} {i:Nat} {idx:List Nat} {o:Oper} (ho:ops[i]?=some o) {step:Cl} {k:qo} (hk:pO E P ops idx o.dst (k.run ev))
 (hs:∀(C:Cx) (S:St) (w:World) (fr:Fr) (T:Tr AV) (b:Frame) (a:Act) (k':List Item) (cs:List Frame),WN E C->TR C fr.nt T a.tmps->o9 C fr b a cs->WW C S w->
  Region.wanted o (yielded ops a.tmps)=true->f_ P C S w fr b k' cs (lone (Wi b a (.inRegion ops (i::idx)::k')) cs w) (step.run ev fr T S)):
 wP E P ops (i::idx) ((r7 ops.toList o.guard step k).run ev):=by
 intro C S w fr T b a k' cs hg hT hF hS;unfold r7;cases pP:o.guard with
 |none=>exact hs C S w fr T b a k' cs hg hT hF hS (by unfold Region.wanted;rw[pP])
 |some g=>
  show f_ P C S w fr b k' cs _ (dh (fun _=>step.run ev fr T S) (fun _=>k.run ev fr T (.Y []) S) (Xk ops.toList g T));cases hw:Xk ops.toList g T with
  |none=>exact Aq
  |some t=>
   have hwt:=IN (C:=C) (a:=a) ⟨rfl,hT.2⟩ (o:=o) (j:=g.1) (want:=g.2) (by rw[pP]) hw;cases t with
   |true=>exact hs C S w fr T b a k' cs hg hT hF hS hwt
   |false=>
    have hsk:=Nu (P:=P) (b:=b) (a:=a) (k:=k') (cs:=cs) (w:=w) (ops:=ops) (i:=i) (rest:=idx) (by rw[ho];exact hwt);simp only[ho,Qe]at hsk;exact f_.steps (.one hsk) (hk C S w fr T b a k' cs _ undef hg hT hF hS VR.z)
inductive Idx (ops:Array Oper):List Nat->List Oper->Prop where
 |O:Idx ops [] []
 |J {i:Nat} {o:Oper} {is:List Nat} {os:List Oper} (h:ops[i]?=some o) (t:Idx ops is os):Idx ops (i::is) (o::os)
theorem Uk (he:Wd E P) (hx:ZW E P) {ev:Ev} (Wv:ZB E P ev) (WJ:ZC E P ev) {ops:Array Oper}:∀ {rest:List Oper} {idx:List Nat},
 Idx ops idx rest->wP E P ops idx ((aW E ops.toList rest).run ev)
 |_,_,.O=>by
  intro C S w fr T b a k cs hg hT hF hS;exact f_.one (r:=⟨.J,fr,T,S⟩) hS hT hF (.one Ie)
 |o::rest,i::idx,.J ho t=>by
  have ih:=Uk he hx Wv WJ t;have hk:=wQ (dst:=o.dst) ih;exact Sv ho hk fun C S w fr T b a k' cs hg hT hF hS hw=>ok_step Wv WJ ho (tA he hx o) U hk hg hT hF hS hw
theorem N6 (ops:Array Oper):∀m n,n+m=ops.size->Idx ops (List.range' n m) (ops.toList.drop n)
 |0,n,h=>by
  rw[List.drop_of_length_le (by simp;omega)];exact .O
 |m+1,n,h=>by
  have C5:n<ops.toList.length:=by simp;omega
  rw[List.drop_eq_getElem_cons C5,List.range'_succ];refine .J ?_ (N6 ops m (n+1) (by omega));rw[<-Array.getElem?_toList,Qi C5]
theorem N7 (ops:Array Oper):Idx ops (List.range ops.size) ops.toList:=by
 have:=N6 ops ops.size 0 (by omega);rw[List.range_eq_range'];simpa using this
theorem Ul (he:Wd E P) (hx:ZW E P) {ev:Ev} (Wv:ZB E P ev) (WJ:ZC E P ev) {id:Nat} {ops:Array Oper}:YV E P (.region id ops false) ((aW E ops.toList ops.toList).run ev):=by
 intro C S w fr T b a k cs hg hT hF hS;exact f_.steps (.one wH) (Uk he hx Wv WJ (N7 ops) C S w fr T b a k cs hg hT hF hS)
end
section
variable {E : c_} {P : Program}
def pQ (tmps:Array Value):ResultVar->Sem Value
 | .tmp t=>pure (tmps.getD t undef)
 | .cell a t=>do loadVar t (<-asAddr (tmps.getD a undef))
theorem HA (he:Wd E P) {C:Cx} {S:St} {w:World} {T:Tr AV} {tmps:Array Value} (hT:TR C tmps.size T tmps) (hS:WW C S w):
 ∀ {rs:List ResultVar} {vs:List AV},YK E S T rs=some vs->
  ∃xs,(rs.mapM (pQ tmps)).run P w= .ok xs w/\Wx C vs xs
 | [],vs,h=>by cases h;exact⟨[],by simp,.O⟩
 | .tmp t::l,vs,h=>by
  simp only[YK]at h;obtain⟨v,hv,h⟩:=Qa.1 h;obtain⟨r,hr,h⟩:=Qa.1 h;cases h;obtain⟨x,hx,aJ⟩:=hT.2 t v hv;obtain⟨xs,gu,Xr⟩:=HA he hT hS hr;have:tmps.getD t undef=x:=by simp[Array.getD_eq_getD_getElem?,hx]
  exact⟨x::xs,by simp only[List.mapM_cons,pQ,Sem.run_bind,this,Sem.run_pure,Result.andThen_ok,gu],.J aJ Xr⟩
 | .cell a t::l,vs,h=>by
  simp only[YK]at h;obtain⟨p,hp,h⟩:=Qa.1 h;obtain⟨v,hv,h⟩:=Qa.1 h;obtain⟨r,hr,h⟩:=Qa.1 h;cases h;obtain⟨x,hx,aJ⟩:=hT.2 a p hp;obtain⟨ad,y,rfl,hl,ir⟩:=GS (P:=P) he hS aJ hv;obtain⟨xs,gu,Xr⟩:=HA he hT hS hr;have:tmps.getD a undef= .pointer (some ad):=by simp[Array.getD_eq_getD_getElem?,hx]
  exact⟨y::xs,by simp only[List.mapM_cons,pQ,Sem.run_bind,this,asAddr,Sem.run_pure,Result.andThen_ok,hl,gu],.J ir Xr⟩
theorem oneA_ok {C:Cx} {vs:List AV} {xs:List Value} (h:Wx C vs xs):VR C (Zi vs) (if h:xs.toArray.size=1 then xs.toArray[0]else .tuple xs.toArray):=by
 cases h with
 |O=>exact .J (by simpa using Wx.O)
 |J h1 t=>
  cases t with
  |O=>exact h1
  |J h2 t=>exact .J (by simpa[Zi]using Wx.J h1 (Wx.J h2 t))
theorem Ja (he:Wd E P) {C:Cx} {S:St} {w:World} {T:Tr AV} {tmps:Array Value} (hT:TR C tmps.size T tmps) (hS:WW C S w) {fn:Func} {vs:List AV} (h:YK E S T fn.results.toList=some vs):
 ∃x,(results fn tmps).run P w= .ok x w/\VR C (Zi vs) x:=by
 obtain⟨xs,gu,Xr⟩:=HA (P:=P) he hT hS h;refine⟨_,?_,oneA_ok Xr⟩;have hr:results fn tmps=(do let vs<-fn.results.mapM (pQ tmps);pure (if h:vs.size=1 then vs[0]else .tuple vs)):=by
  unfold results
  congr 1
 rw[hr,Array.mapM_eq_mapM_toList];simp only[Sem.run_bind,Sem.run_map,gu,Result.andThen_ok,Sem.run_pure]
inductive fo (C:Cx):FrameMode->Option AV->Prop where
 |J:fo C .returning none
 |O {v:AV} {x:Value} (h:VR C v x):fo C (.panicking [{v:=x,recovered:=false}]) (some v)
theorem fo.g {C C':Cx} (e:m_ C C') {m:FrameMode} {v:Option AV} (h:fo C m v):fo C' m v:=by
 cases h with
 |J=>exact .J
 |O h=>exact .O (h.g e)
def CT (b:Frame) (a:Act) (todo:List Item) (mode:FrameMode):Frame:= {fn:=b.fn,tmps:=a.tmps,todo,defers:=a.defers,mode,kind:=b.kind,roundOf:=b.roundOf}
theorem s_end {b:Frame} {a:Act} {cs:List Frame} {w:World} (hr:b.roundOf=none):step P (lone (Wi b a []) cs w)= .next (lone (CT b a [] .returning) cs w):=
 step_lone_go (by simp[stepG,stepG.exec,Wi,CT,hr])
theorem s_ret {b:Frame} {a:Act} {k:List Item} {cs:List Frame} {w:World} (hr:b.roundOf=none):step P (lone (Wi b a (.code .ret::k)) cs w)= .next (lone (CT b a (.code .ret::k) .returning) cs w):=
 step_lone_go (by simp[stepG,stepG.exec,Wi,CT,hr])
theorem s_take {b:Frame} {t:Array Value} {todo:List Item} {mode:FrameMode} (hm:mode≠ .run) {cs:List Frame} {w:World} {Cv:Nat} {ar:Array Value} {ds:List Deferred} (h:w.heap[Cv]?=some (.deferred (some []))):
 step P (lone (CT b ⟨t, {target:= .collected Cv,args:=ar}::ds⟩ todo mode) cs w)= .next (lone (CT b ⟨t,ds⟩ todo mode) cs (e_.g w Cv (.deferred none))):=by
 have CF:(Instr.takeDeferred Cv).run P w= .ok [] (e_.g w Cv (.deferred none)):=by
  simp only[Instr.takeDeferred,Sem.run_bind,AE h (by simp),Result.andThen_ok,DA h (by simp),Sem.run_pure]
 refine step_lone_go ?_;cases mode with
 |run=>exact absurd rfl hm
 |returning=>simp[stepG,Go.unwind,CT,CF]
 |panicking ch=>simp[stepG,Go.unwind,CT,CF]
theorem TM {b:Frame} {t:Array Value} {todo:List Item} {mode:FrameMode} (hm:mode≠ .run) {cs:List Frame} {w:World} {fn:Fn} {cap ar:Array Value} {ds:List Deferred} {f:FuncId} {ys:Array Value}
 (h:(invoke (.fn fn cap) ar).run P w= .ok (.enter f ys) w):
 step P (lone (CT b ⟨t, {target:= .fn fn cap,args:=ar}::ds⟩ todo mode) cs w)= .next (lone (Frame.enter P f ys .deferred) (CT b ⟨t,ds⟩ todo mode::cs) w):=by
 refine step_lone_go ?_;cases mode with
 |run=>exact absurd rfl hm
 |returning=>simp[stepG,Go.unwind,callDeferred,CT,h]
 |panicking ch=>simp[stepG,Go.unwind,callDeferred,CT,h]
theorem Jk:∀(l:List AV) (j:Nat) (T:Tr AV) (i:Nat),(YC j l T).g i=if j<=i/\i<j+l.length then l[i-j]? else T.g i
 | [],j,T,i=>by
  have:¬(j<=i/\i<j+([]:List AV).length):=by simp only[List.length_nil];omega
  rw[if_neg this];rfl
 |v::l,j,T,i=>by
  simp only[YC];rw[Jk l (j+1) _ i,Ay];simp only[List.length_cons];by_cases h1:i=j
  .subst h1;rw[if_neg (by omega),if_pos rfl,if_pos (by omega)];simp
  .rw[if_neg h1];by_cases h2:j+1<=i/\i<j+1+l.length
   .rw[if_pos h2,if_pos (by omega)];have:i-j=(i-(j+1))+1:=by omega
    rw[this,List.getElem?_cons_succ]
   .rw[if_neg h2,if_neg (by omega)]
theorem nil_get (i:Nat):(Tr.J:Tr AV).g i=none:=by
 unfold Tr.g;cases s_ i<;>rfl
theorem Qv {C:Cx} {args:List AV} {ys:Array Value} (h:Wx C args ys.toList) (nt:Nat):TR C (Nat.max nt (Xu args)) (YC 0 args .J) (ys++Array.replicate (nt-ys.size) undef):=by
 have hl:=h.g;simp only[Array.length_toList]at hl;refine⟨?_,fun i v hi=>?_⟩
 .simp only[Array.size_append,Array.size_replicate,DT];rw[hl];show _=max nt args.length;omega
 .rw[Jk]at hi;split at hi
  .next C5=>
   obtain⟨y,hy,hr⟩:=h.I (by simpa using hi);refine⟨y,?_,hr⟩;rw[Array.getElem?_append_left (by omega)];simpa using hy
  .rw[nil_get]at hi;cases hi
theorem KO {b:Frame} {t:Array Value} {todo:List Item} {c:Frame} {cs:List Frame} {w:World} {fn:Func} {v:Value} (hk:b.kind= .deferred) (hf:P.funcs[b.fn]?=some fn) (hr:(results fn t).run P w= .ok v w):
 step P (lone (CT b ⟨t,[]⟩ todo .returning) (c::cs) w)= .next (lone (match c.mode with
  | .panicking ({recovered:=true, ..}::older)=>(match older.dropWhile (!·.goexit)with| []=> {c with mode:= .returning}|rest=> {c with mode:= .panicking rest})
  |_=>c) cs w):=
 step_lone_go (by simp[stepG,Go.unwind,CT,hf,hr,doReturn,hk];rfl)
theorem Vy (he:Wd E P) {ev:Ev} (gJ:lX E P ev) {f:FuncId} {args:List AV} {m:Option AV} {S S':St} {rc:Bool} (h:pA E ev f args m S=some (rc,S')) {C:Cx} {w:World} {ys:Array Value}
 (hg:WN E C) (ha:Wx C args ys.toList) (hS:WW C S w) {mode:FrameMode} (hm:fo C mode m) (b:Frame) (a:Act) (todo:List Item) (cs:List Frame):
 CV E f=true/\∃C' w' dy,Steps P (lone (Frame.enter P f ys .deferred) (CT b a todo mode::cs) w) (lone (CT b a todo dy) cs w')/\CE C S w C' S' w'/\fo C' dy (bif rc then none else m):=by
 unfold pA at h;obtain⟨fn,qM,h⟩:=Qa.1 h;obtain⟨c,hc,h⟩:=Qa.1 h;have hp:=he.d f fn qM;refine⟨by unfold CV;rw[qM];simp only[hc],?_⟩;split at h
 .next aA=>
  have hres0:fn.results= #[]:=Array.ext' (by simpa using aA);have b8:Frame.enter P f ys .deferred=Wi (Frame.enter P f ys .deferred) ⟨ys++Array.replicate (fn.ntmps-ys.size) undef,[]⟩ [.code c]:=by
   simp[Frame.enter,Wi,hp,hc]
  have mS:(Frame.enter P f ys .deferred).kind= .deferred:=rfl;have eO:(Frame.enter P f ys .deferred).roundOf=none:=rfl;have gZ:(Frame.enter P f ys .deferred).fn=f:=rfl;generalize YH:Frame.enter P f ys .deferred=bd at b8 mS eO gZ;have uv:wK C bd (CT b a todo mode::cs) (n_ fn.ntmps args m).Xi:=by
   show wK C bd _ m;cases hm with
   |J=>exact .J (by simp[o8,tryRecover,mS,CT])
   |O hv=>exact .O mS rfl rfl hv
  have Ya:=gJ c C S w (n_ fn.ntmps args m) (YC 0 args .J) bd ⟨ys++Array.replicate (fn.ntmps-ys.size) undef,[]⟩ [] (CT b a todo mode::cs) hg (Qv ha fn.ntmps)
   ⟨.O,uv,.J eO⟩ hS
  rw[<-b8]at Ya;generalize dW:ev c (n_ fn.ntmps args m) (YC 0 args .J) S=out at h Ya;have fin:∀(r:cP),out= .O r->(r.c= .J\/r.c= .Y)->r.a.defers=[]->some (r8 m r.a.Xi,r.b)=some (rc,S')->
   ∃C' w' dy,Steps P (lone bd (CT b a todo mode::cs) w) (lone (CT b a todo dy) cs w')/\CE C S w C' S' w'/\fo C' dy (bif rc then none else m):=by
   intro r hr hex hdf hres';cases hres';obtain⟨r',dV,C',a',w',Yg,t,af,wM,hn,bS,WS,YM⟩:=Ya [r] (by rw[hr];rfl);simp only[Qp]at dV;subst dV;have qu:a'.defers=[]:=by
    have:=wM.d;rw[hdf]at this;cases hd:a'.defers with
    |nil=>rfl
    |cons x l=>rw[hd]at this;cases this
   have XM:∃tB,Steps P (lone bd (CT b a todo mode::cs) w) (lone (CT bd ⟨a'.tmps,[]⟩ tB .returning) Yg w'):=by
    have ea:a'=⟨a'.tmps,[]⟩:=by rw[<-qu]
    rcases hex with hex|hex
    .rw[hex]at YM;exact⟨[],by rw[<-ea];exact Steps.trans YM (.one (s_end eO))⟩
    .rw[hex]at YM;obtain⟨k2,pR⟩:=YM;exact⟨_,by rw[<-ea];exact Steps.trans pR (.one (s_ret eO))⟩
   obtain⟨tB,XM⟩:=XM;have hrr:(results fn a'.tmps).run P w'= .ok (.tuple #[]) w':=by simp[results,hres0]
   have hbdf:P.funcs[bd.fn]?=some fn:=by rw[gZ];exact hp
   show∃C' w' dy,_;have hpm:(n_ fn.ntmps args m).Xi=m:=rfl;rw[hpm]at WS;generalize r'.a.Xi=q at WS;have mN:=hm.g t.a;cases WS with
   |J=>
    refine⟨C',w',mode,XM.trans ?_,t,?_⟩
    .have:=KO (P:=P) (b:=bd) (t:=a'.tmps) (todo:=tB) (c:=CT b a todo mode) (cs:=cs) (w:=w') mS hbdf hrr;refine .one (this.trans ?_);cases hm with
     |J=>rfl
     |O hv=>rfl
    .have:r8 m m=false:=by cases m<;>rfl
     rw[this];exact mN
   |O=>
    cases hm with
    | @O v x hv=>
     refine⟨C',w',.returning,XM.trans ?_,t,.J⟩;have:=KO (P:=P) (b:=bd) (t:=a'.tmps) (todo:=tB) (c:= {CT b a todo (.panicking [{v:=x,recovered:=false}])with mode:= .panicking [{v:=x,recovered:=true}]}) (cs:=cs) (w:=w') mS hbdf hrr;exact .one this
  unfold iP at h;split at h
  .next Yx T' st=>
   cases hd:Yx.defers with
   |nil=>rw[hd]at h;exact fin _ rfl (.inl rfl) hd h
   |cons x l=>rw[hd]at h;cases h
  .next Yx T' st=>
   cases hd:Yx.defers with
   |nil=>rw[hd]at h;exact fin _ rfl (.inr rfl) hd h
   |cons x l=>rw[hd]at h;cases h
  .cases h
 .cases h
theorem G7 (he:Wd E P) {ev:Ev} (gJ:lX E P ev):∀ {ds:List fY} {m m':Option AV} {S S':St},Am.z8 E ev ds m S=some (m',S')->∀ {C:Cx} {w:World} {dv:List Deferred} {mode:FrameMode},WN E C->
 jY C ds dv->WW C S w->fo C mode m->∀(b:Frame) (t:Array Value) (todo:List Item) (cs:List Frame),
 ∃C' w' dy,Steps P (lone (CT b ⟨t,dv⟩ todo mode) cs w) (lone (CT b ⟨t,[]⟩ todo dy) cs w')/\CE C S w C' S' w'/\fo C' dy m'
 | [],m,m',S,S',h,C,w,dv,mode,hg,hd,hS,hm,b,t,todo,cs=>by
  cases h;cases hd;exact⟨C,w,mode,.refl _ _,CE.g hS,hm⟩
 |d::ds,m,m',S,S',h,C,w,dv,mode,hg,hd,hS,hm,b,t,todo,cs=>by
  simp only[Am.z8]at h;obtain⟨p,hp,h9⟩:=Qa.1 h;cases hd with
  |J fS hdt=>
  have CF:mode≠ .run:=by cases hm<;>simp
  unfold iQ at hp;cases fS with
  |J hD=>
   rename_i l r
   simp only at hp;split at hp
   .next hb=>
    cases hp;obtain⟨_,x,hx,hr⟩:=hS.a r _ hb;cases hr with
    |Z=>
    have t1:=CE.B hS hb (.Z false) (.deferred none) .rZ;obtain⟨C',w',dy,hs,t2,pS⟩:=G7 he gJ h9 (hg.mono t1.a) (hdt.g t1.a) t1.c (hm.g t1.a) b t todo cs;exact⟨C',w',dy,.head (s_take CF hx) hs,t1.u t2,pS⟩
   .cases hp
  |O hf ha hb=>
   rename_i l fn aa bb xa xb
   cases fn with
   |func f=>
    simp only at hp;obtain⟨q,hq,hp⟩:=Qa.1 hp;cases hp;obtain⟨rc,S1⟩:=q;have Xx:Wx C (aa++bb) (xa++xb).toList:=by simpa using ha.u hb
    obtain⟨cy,C1,w1,mode1,aq,t1,mT⟩:=Vy he gJ hq hg Xx hS hm b ⟨t,l⟩ todo cs;obtain⟨C',w',dy,hs,t2,pS⟩:=G7 he gJ h9 (hg.mono t1.a) (hdt.g t1.a) t1.c mT b t todo cs;refine⟨C',w',dy,.head (TM CF ?_) (aq.trans hs),t1.u t2,pS⟩;show(callFunc f (xa++xb)).run P w=_;exact DZ he cy _ w
   |_=>cases hp
end
structure Froze (C C2:Cx) (S:St) (w:World) (K:List Nat):Prop where
 a:m_ C C2
 Cv:∀b∈K,∀cs t part,S.b.g b=some (.J cs t part)->∃c e fr,w.heap[(C.a b).b]?=some (.cells c e fr)/\C2.M (C.a b).b=some c.toList
theorem Fu {f:AV->List Nat->Option (AV×List Nat)} {v:AV} {l:List AV} {ks:List Nat} {r} (h:C9.many f (v::l) ks=some r):
 ∃p q,f v ks=some p/\C9.many f l p.2=some q/\r=(p.1::q.1,q.2):=by
 simp only[C9.many]at h;obtain⟨p,hp,h⟩:=Qa.1 h;obtain⟨q,hq,h⟩:=Qa.1 h;cases h;exact⟨p,q,hp,hq,U⟩
theorem Vf {S:St} {fm:Nat}:∀(n:Nat) {v v':AV} {ks kF:List Nat},C9 S fm n v ks=some (v',kF)->v.z=true->v'.z=true
 |n+1,v,v',ks,kF,h,hc=>by
  simp only[C9]at h;split at h
  .next b off len sz cap=>
   cases hb:Nat.blt b fm with
   |true=>rw[hb]at h;cases h;rfl
   |false=>
    rw[hb]at h;simp only[cond_false]at h;obtain⟨cs,_,h⟩:=Qa.1 h;obtain⟨l,_,h⟩:=Qa.1 h;obtain⟨p,_,h⟩:=Qa.1 h;cases h;rfl
  .cases hc
  .cases hc
  .next cs len sz cl=>
   cases cl with
   |true=>cases h;rfl
   |false=>
    simp only[cond_false]at h;obtain⟨p,_,h⟩:=Qa.1 h;cases h;rfl
  .obtain⟨p,_,h⟩:=Qa.1 h;cases h;rfl
  .cases h;exact hc
theorem FN {S:St} {fm n:Nat}:∀ {l:List AV} {ks:List Nat} {r},C9.many (C9 S fm n) l ks=some r->j_ l->j_ r.1
 | [],ks,r,h,_=>by cases h;exact fun _ h=>by cases h
 |v::l,ks,r,h,hc=>by
  obtain⟨p,q,h1,h2,rfl⟩:=Fu h;intro u hu;rcases Qk.1 hu with rfl|hu
  .exact Vf n (v':=p.1) (kF:=p.2) h1 (hc v (Qh ..))
  .exact FN h2 (fun x hx=>hc x (Qg _ hx)) u hu
theorem Gx {f:AV->List Nat->Option (AV×List Nat)}:∀ {l:List AV} {ks:List Nat} {r},C9.many f l ks=some r->r.1.length=l.length
 | [],ks,r,h=>by cases h;rfl
 |v::l,ks,r,h=>by
  obtain⟨p,q,h1,h2,rfl⟩:=Fu h;simp[Gx h2]
theorem HM {S:St} {fm:Nat}:∀(n:Nat) {v v':AV} {ks kF:List Nat},C9 S fm n v ks=some (v',kF)->∀b∈ks,b∈kF
 |n+1,v,v',ks,kF,h=>by
  have many:∀ {l:List AV} {ks:List Nat} {r},C9.many (C9 S fm n) l ks=some r->∀b∈ks,b∈r.2:=by
   intro l;induction l with
   |nil=>intro ks r h b hb;cases h;exact hb
   |cons a l ih=>
    intro ks r h b hb;obtain⟨p,q,h1,h2,rfl⟩:=Fu h;exact ih h2 b (HM n (v':=p.1) (kF:=p.2) h1 b hb)
  simp only[C9]at h;split at h
  .next b off len sz cap=>
   cases hb:Nat.blt b fm with
   |true=>rw[hb]at h;cases h;exact fun _ h=>h
   |false=>grind [Qa]
  .obtain⟨p,hp,h⟩:=Qa.1 h;cases h;exact many hp
  .obtain⟨p,hp,h⟩:=Qa.1 h;cases h;exact many hp
  .next cs len sz cl=>
   cases cl with
   |true=>cases h;exact fun _ h=>h
   |false=>grind [Qa]
  .obtain⟨p,hp,h⟩:=Qa.1 h;cases h;exact HM n (v':=p.1) (kF:=p.2) hp
  .cases h;exact fun _ h=>h
theorem PL {C C2:Cx} {S:St} {w:World} (hS:WW C S w) {fm:Nat} {K:List Nat} (hF:Froze C C2 S w K):∀(n:Nat) {v v':AV} {ks kF:List Nat} {x:Value},C9 S fm n v ks=some (v',kF)->
 (∀b∈kF,b∈K)->VR C v x->VR C2 v' x
 |n+1,v,v',ks,kF,x,h,hK,hv=>by
  have many:∀ {l:List AV} {ks:List Nat} {r} {xs:List Value},C9.many (C9 S fm n) l ks=some r->(∀b∈r.2,b∈K)->Wx C l xs->Wx C2 r.1 xs:=by
   intro l;induction l with
   |nil=>intro ks r xs h _ hv;cases h;cases hv;exact .O
   |cons a l ih=>
    intro ks r xs h hK hv;obtain⟨p,q,h1,h2,rfl⟩:=Fu h;cases hv with
    |J uO si=>
    have fp:∀b∈p.2,b∈q.2:=by
     clear ih si;have:∀ {l:List AV} {ks:List Nat} {r},C9.many (C9 S fm n) l ks=some r->∀b∈ks,b∈r.2:=by
      intro l;induction l with
      |nil=>intro ks r h b hb;cases h;exact hb
      |cons a l ih=>
       intro ks r h b hb;obtain⟨p,q,h1,h2,rfl⟩:=Fu h;exact ih h2 b (HM n (v':=p.1) (kF:=p.2) h1 b hb)
     exact this h2
    exact .J (PL hS hF n (v':=p.1) (kF:=p.2) h1 (fun b hb=>hK b (fp b hb)) uO) (ih h2 hK si)
  simp only[C9]at h;split at h
  .next b off len sz cap=>
   cases hb:Nat.blt b fm with
   |true=>rw[hb]at h;cases h;exact hv.g hF.a
   |false=>
    rw[hb]at h;simp only[cond_false]at h;obtain⟨cs,WS,h⟩:=Qa.1 h;obtain⟨l,hl,h⟩:=Qa.1 h;obtain⟨p,hp,h⟩:=Qa.1 h;cases h;cases hv with
    |XT vZ hd hc=>
     have:l=[]:=by
      obtain⟨_,_,_,_,h3⟩:=FX hl;exact List.eq_nil_of_length_eq_zero (by simpa using h3)
     subst this;cases hp;exact .Xm _ (by simp) (Qo _)
    |O hd hc Zu=>
     obtain⟨_,c,e,fr,vs,hx,Xr,Y0,X2,hcc,_⟩:=hS.u WS;obtain⟨t,part,hob⟩:=Hs WS;obtain⟨c',e',Yx,hx',hM⟩:=hF.Cv b (hK b (Qh ..)) cs t part hob;rw[hx]at hx';cases hx';obtain⟨pre,post,hcsl,Y1,ui⟩:=FX hl;rw[hcsl]at Xr hcc;obtain⟨y1,z3,rfl,h1,h4⟩:=AB Xr;obtain⟨y0,y,rfl,h2,h3⟩:=AB h1;have hvl:=many hp (fun k hk=>hK k (Qg _ hk)) h3;have hlen:=Gx hp;refine .Ck (Cv:=(C.a b).b) (by rw[hlen,ui]) hM (vs:=y) ?_ hvl (fun Y8=>Bs 40 hvl Y8) (FN hp hcc.sub.1.sub.2) Zu;have:=Y0.sub (a:=y0) (b:=y) (c:=z3) rfl;rw[h2.g,Y1]at this;exact this
  .obtain⟨p,hp,h⟩:=Qa.1 h;cases h;cases hv with
   |a_ Xr WS=>exact .a_ (many hp hK Xr) (FN hp WS)
  .obtain⟨p,hp,h⟩:=Qa.1 h;cases h;cases hv with
   |J Xr=>exact .J (many hp hK Xr)
  .next cs len sz cl=>
   cases cl with
   |true=>cases h;exact hv.g hF.a
   |false=>
    simp only[cond_false]at h;obtain⟨p,hp,h⟩:=Qa.1 h;cases h;cases hv with
    |Xm a hl Zu=>cases hp;exact .Xm a hl Zu
    |Ck hl hm ha Xr hc WS Zu=>
     have hvl:=many hp hK Xr;exact .Ck (by rw[Gx hp,hl]) (hF.a.M _ _ hm) ha hvl (fun Y8=>Bs 40 hvl Y8) (FN hp WS) Zu
  .obtain⟨p,hp,h⟩:=Qa.1 h;cases h;cases hv with
   |Y hu=>exact .Y (PL hS hF n (v':=p.1) (kF:=p.2) hp hK hu)
  .cases h;exact hv.g hF.a
theorem My:∀(K:List Nat) (S:St) (b:Nat),(q_ S K).b.g b=if b∈K then none else S.b.g b
 | [],S,b=>by simp[q_]
 |a::l,S,b=>by
  simp only[q_];rw[My l,Jj];by_cases h:b=a
  .subst h;simp
  .simp[h]
theorem NW:∀(K:List Nat) {C:Cx} {S:St} {w:World},WW C S w->CE C S w C (q_ S K) w/\∀b∈K,aZ S (q_ S K).d b
 | [],C,S,w,hS=>⟨CE.g hS,fun _ h=>by cases h⟩
 |a::l,C,S,w,hS=>by
  have t1:=CE.O hS a;obtain⟨t2,h2⟩:=NW l t1.c;refine⟨t1.u t2,fun b hb=>?_⟩;rcases Qk.1 hb with rfl|hb
  .exact(DJ S b none).1.mono t2.i
  .exact(h2 b hb).imp id (fun x=>by rw[t1.e]at x;exact x)
open Classical in
noncomputable def Cx.N (C:Cx) (S:St) (w:World) (K:List Nat):Cx:=
 {C with M:=fun Cv=>if∃b∈K,∃o,S.b.g b=some o/\(C.a b).b=Cv then(match w.heap[Cv]? with|some (.cells c _ _)=>some c.toList|_=>none)else C.M Cv}
theorem wT {C:Cx} {S:St} {w:World} (hS:WW C S w) (K:List Nat):Froze C (C.N S w K) S w K/\CE C S w (C.N S w K) (q_ S K) w:=by
 have hM:∀Cv ms,C.M Cv=some ms->(C.N S w K).M Cv=some ms:=by
  intro Cv ms h;simp only[Cx.N];rw[if_neg]
  .exact h
  .rintro⟨b,hb,o,ho,rfl⟩;rw[hS.g b o ho]at h;cases h
 have e:m_ C (C.N S w K):=⟨fun _ h=>h,fun _ _=>rfl,hM,fun _ _ h=>h,fun _ _ _=>rfl,fun _ h=>h⟩
 have hinv:∀Cv ms,(C.N S w K).M Cv=some ms->C.M Cv=some ms\/∃b∈K,∃o,S.b.g b=some o/\(C.a b).b=Cv/\∃c e fr,w.heap[Cv]?=some (.cells c e fr)/\c.toList=ms:=by
  intro Cv ms h;simp only[Cx.N]at h;split at h
  .grind
  .exact .inl h
 obtain⟨t1,dr⟩:=NW K hS;refine⟨⟨e,?_⟩,⟨e,⟨?_,t1.c.inj,t1.c.d,?_,?_,t1.c.f,t1.c.i,t1.c.j,fun Cv ms hm=>(hinv Cv ms hm).elim (hS.m Cv ms) fun⟨b,_,o,ho,zH,_⟩=>zH▸hS.j b (hS.a b o ho).1⟩,t1.e,t1.i,t1.j,t1.d,t1.z,t1.f,t1.m,t1.own,?_,t1.k⟩⟩
 .intro b hb cs t part ho;obtain⟨_,x,hx,hr⟩:=hS.a b _ ho;cases hr with
  |J hv ha hs WS hf hp=>
   refine⟨_,_,_,hx,?_⟩;simp only[Cx.N];rw[if_pos ⟨b,hb,_,ho,rfl⟩,hx]
 .intro b o hb;obtain⟨hd,x,hx,hr⟩:=t1.c.a b o hb;exact⟨hd,x,hx,hr.g e hd (fun _ h=>h)⟩
 .intro Cv ms hm;rcases hinv Cv ms hm with h|⟨b,hb,o,ho,zH,c,e,fr,hx,hc⟩
  .exact hS.l Cv ms h
  .exact⟨c,e,fr,hx,hc⟩
 .intro b o hb;cases hm:(C.N S w K).M (C.a b).b with
  |none=>exact hm
  |some ms=>
   exfalso;rw[My]at hb;split at hb
   .cases hb
   .next hnk=>
    rcases hinv _ ms hm with h|⟨b',ZJ,o',zI,zH,_⟩
    .rw[hS.g b o hb]at h;cases h
    .exact hnk (hS.inj b' b o' o zI hb zH▸ZJ)
 .grind
theorem FF {C C':Cx} {m:Nat} (hD:∀b,b<m->C'.D b->C.D b/\C'.a b=C.a b) (hG:∀b n,b<m->C'.G b n->C.G b n/\C'.b b n=C.b b n):
 ∀(n:Nat) {v:AV} {x:Value},CD m n v=true->VR C' v x->VR (C.I C') v x
 |n+1,v,x,h,hv=>by
  have many:∀ {l:List AV} {xs:List Value},l.all (CD m n)=true->Wx C' l xs->Wx (C.I C') l xs:=by
   intro l;induction l with
   |nil=>intro xs _ hv;cases hv;exact .O
   |cons a l ih=>
    intro xs h hv;simp only[List.all_cons,Qf]at h;cases hv with
    |J h1 t=>exact .J (FF hD hG n h.1 h1) (ih h.2 t)
  have hbare:m_ C'.g (C.I C').g:=⟨fun _ x=>x.elim,fun _ x=>x.elim,fun _ _ h=>h,fun _ _ x=>x.elim,fun _ _ x=>x.elim,fun _ h=>h⟩
  cases hv with
  |bool b=>exact .bool b
  |int k n=>exact .int k n
  |an hs=>exact .an hs
  |W2=>exact .W2
  | @aG _ b off hd=>
   simp only[CD]at h;obtain⟨h1,h2⟩:=hD b (by simpa[Nat.blt_eq]using h) hd;rw[h2];exact VR.aG (C:=C.I C') h1
  |XD hm ha Xr hc=>exact .XD (C:=C.I C') hm ha (many (by simpa[CD]using h) Xr) hc
  |Ca a hx=>exact .Ca a hx
  | @O _ b off len sz cap c hd hc Zu=>
   simp only[CD]at h;obtain⟨h1,h2⟩:=hD b (by simpa[Nat.blt_eq]using h) hd;rw[h2];refine VR.O (C:=C.I C') h1 ?_ Zu;cases cap with
   |some k=>exact hc
   |none=>simp only[qG,h2]at hc;exact hc
  | @XT _ b off sz a c hx hd hc=>
   simp only[CD]at h;obtain⟨h1,h2⟩:=hD b (by simpa[Nat.blt_eq]using h) hd;rw[h2]at hc;exact VR.XT (C:=C.I C') hx h1 hc
  |Xm a h0 Zu=>exact .Xm a h0 Zu
  | @Ck _ Cv off len sz c cl cs ms vs hl hm ha Xr hc WS Zu=>
   simp only[CD,Bool.or_eq_true]at h;refine VR.Ck (C:=C.I C') hl hm ha ?_ (fun Y8=>(hc Y8).z hbare) WS Zu;rcases h with h|h
   .exact((hc h).z hbare).z (.B _)
   .exact many h Xr
  |WZ=>exact .WZ
  | @b_ _ b hd=>
   simp only[CD]at h;obtain⟨h1,h2⟩:=hD b (by simpa[Nat.blt_eq]using h) hd;rw[h2];exact VR.b_ (C:=C.I C') h1
  | @eQ _ b n hg=>
   simp only[CD]at h;obtain⟨h1,h2⟩:=hG b n (by simpa[Nat.blt_eq]using h) hg;rw[h2];exact VR.eQ (C:=C.I C') h1
  |cU p=>exact .cU p
  | @Z _ fn a b x y hf ha hb=>
   have:(a.all (CD m n)&&b.all (CD m n))=true:=by simp_all [CD]
   simp only[Qf]at this;exact .Z hf (many this.1 ha) (many this.2 hb)
  | @bW _ l hd=>
   simp only[CD]at h;obtain⟨h1,h2⟩:=hD l (by simpa[Nat.blt_eq]using h) hd;rw[h2];exact VR.bW (C:=C.I C') h1
  |C7=>exact .C7
  |Y hu=>exact .Y (FF hD hG n (by simpa[CD]using h) hu)
  |CS=>exact .CS
  |a_ Xr WS=>exact .a_ (many (by simpa[CD]using h) Xr) WS
  |J Xr=>exact .J (many (by simpa[CD]using h) Xr)
section
variable {E : c_} {P : Program}
theorem Ha {n:Nat} {v v':AV} {S S':St} (h:Wa n v S=some (v',S')) {C:Cx} {w:World} (hS:WW C S w) {x:Value} (hv:VR C v x):∃C',CE C S w C' S' w/\VR C' v' x:=by
 unfold Wa at h;obtain⟨p,hp,h⟩:=Qa.1 h;cases h;obtain⟨hf,ht⟩:=wT hS p.2;exact⟨_,ht,PL hS hf 40 (v':=p.1) (kF:=p.2) hp (fun _ h=>h) hv⟩
theorem Vg {f:FuncId} {s0:St} {v v':AV} {S S':St} (h:qT E f s0 v S=some (v',S')) {C:Cx} {w:World} (hS:WW C S w) {x:Value} (hv:VR C v x):∃C',CE C S w C' S' w/\VR C' v' x:=by
 unfold qT at h;split at h
 .cases h;exact⟨C,CE.g hS,hv⟩
 .split at h
  .exact Ha h hS hv
  .cases h;exact⟨C,CE.g hS,hv⟩
 .exact Ha h hS hv
def CrR (C:Cx) (S:St) (w:World) (x:Value) (w':World):CR->Prop
 | .J v=>∃C',CE C S w C' S w'/\VR C' v x
 | .O v S'=>∃C',CE C S w C' S' w'/\VR C' v x
 | .Y _ _=>False
theorem Rc {f:FuncId} {S S1:St} {v:AV} {cr:CR} (h:k9 E f S v S1=some cr) {C C1:Cx} {w w1:World} (hS:WW C S w) (t:CE C S.u w C1 S1 w1) {x:Value} (hv:VR C1 v x):CrR C S w x w1 cr:=by
 unfold k9 at h;obtain⟨p,hp,h⟩:=Qa.1 h;cases h;obtain⟨v',S'⟩:=p;obtain⟨C2,t2,wU⟩:=Vg hp t.c hv;have t3:=t.u t2;unfold Zs;simp only;split
 .next CU=>
  cases hu:CD S.a 40 v' with
  |false=>exact⟨C2,t3.J hS,wU⟩
  |true=>
   refine⟨_,t3.N hS CU,FF (m:=S.a) (fun b hb hd=>?_) (fun b n hb hg=>?_) 40 hu wU⟩
   .have tt:C.D b:=(t3.m b hd).resolve_right (fun h=>by have:S.a<=b:=h;omega);exact⟨tt,t3.a.a b tt⟩
   .have nd:=t3.c.f b n hg;have tt:C.D b:=(t3.m b nd).resolve_right (fun h=>by have:S.a<=b:=h;omega);have hk:=(t3.f b tt (fun hm=>by
     rcases hm with hm|hm
     .rw[CU]at hm;cases hm
     .have:S.a<=b:=hm;omega)).2 n hg
    exact⟨hk,t3.a.c b n hk⟩
 .exact⟨C2,t3.J hS,wU⟩
end
def fV (n:String):Bool:=n== "internal/abi.NoEscape" ||n== "internal/bytealg.MakeNoZero" ||n== "internal/bytealg.CountString" ||n== "internal/bytealg.IndexByteString"
def jb (fn:Func):Bool:= !(fV fn.name)||(Extern.allNextRows.lookup fn.origin).isNone
theorem M6 {fn:Func} {n:String} {e:Array Value->Sem Value} (hn:fn.name=n) (h1:Extern.allGenericRows.lookup n=none) (h2:Extern.allTypedRows.lookup n=none) (h3:Extern.allRows.lookup n=some e):
 Extern.find fn=some e:=by
 unfold Extern.find;simp[hn,h1,h2,h3]
theorem SL {fn:Func} {n:String} {e:Extern.Typed} (hn:fn.name=n) (h1:Extern.allGenericRows.lookup n=none) (h2:Extern.allTypedRows.lookup n=some e):
 Extern.find fn=some (e fn.params fn.resultTypes):=by
 unfold Extern.find;simp[hn,h1,h2]
theorem D5 {fn:Func} {n:String} (hn:fn.name=n) (h1:Extern.allNextRows.lookup n=none) (h2:(Extern.allNextRows.lookup fn.origin).isNone=true):Extern.findNext fn=none:=by
 unfold Extern.findNext;have:Extern.allNextRows.lookup fn.origin=none:=by simpa using h2
 simp[hn,h1,this]
section
variable {E : c_} {P : Program} (he : Wd E P)
include he
theorem M8 {o:Oper} {c:Call} {f:FuncId} {fn:Func} {e:Array Value->Sem Value} (ho:o.op= .call c) (hc:c.callee= .value (.func f)) (hf:E.a.g f=some fn) (hb:fn.body.isNone=true) (hn:Extern.findNext fn=none)
 (hfd:Extern.find fn=some e) (a:Act) (w:World):(execOp a.eval o).run P w=((e (c.args.toList.map a.eval).toArray).run P w).andThen fun v w'=> .ok (.value v) w':=by
 simp only[execOp,ho,resolve,hc,Act.eval,Deferred.ofValue,Sem.run_bind,Sem.run_pure,Result.andThen_ok,invoke,Array.empty_append,Array.append_empty];rw[Gb,run_callFunc_extern (he.d f fn hf) (he.b f fn hf) hb hn hfd]
omit he in
theorem toU8 {n:Nat} (h:n<256) (b:UInt8):(b==n.toUInt8)=Nat.beq b.toNat n:=by
 have h1:n.toUInt8.toNat=n:=by simp[Nat.mod_eq_of_lt h]
 cases hb:Nat.beq b.toNat n with
 |true=>
  have:=Qb hb;have:b=n.toUInt8:=UInt8.toNat_inj.1 (by rw[h1];exact this);simp[this]
 |false=>grind [Nat.ne_of_beq_eq_false]
omit he in
theorem V3 {n:Nat} (h:n<256):∀l:List UInt8,Go.Lib.countByte l n.toUInt8=ue n l
 | []=>rfl
 |b::l=>by
  have ih:=V3 h l;simp only[Go.Lib.countByte,ue]at ih|-;rw[List.count_cons,toU8 h,ih];cases Nat.beq b.toNat n<;>rfl
omit he in
theorem UM {n:Nat} (h:n<256):∀l:List UInt8,Go.Lib.indexByte l n.toUInt8=(match vn n l with|some k=>(k:Int)|none=> -1)
 | []=>rfl
 |b::l=>by
  have ih:=UM h l;simp only[Go.Lib.indexByte,vn,toU8 h];cases Nat.beq b.toNat n with
  |true=>rfl
  |false=>grind
omit he in
theorem G0:∀(n t:Nat) (acc:Array Value),(Extern.BytealgMakeNoZero.digits n t acc).size=acc.size+n
 |0,_,_=>rfl
 |n+1,t,acc=>by
  rw[Extern.BytealgMakeNoZero.digits,G0 n,Array.size_push];omega
theorem S6 {t e:TypeId} (hu:Wb E t=some (.slice e)) (ps:Array TypeId) (n:Nat) (hn:n<=281474976710656) (w:World):
 ∃cs:Array Value,(Extern.BytealgMakeNoZero.makeNoZero ps #[t] #[.int .i64 (n:Int)]).run P w= .ok (.slice (some ⟨w.heap.size,0,none⟩) n cs.size) (e_.u {w with drawn:=w.drawn+1+1} (.cells cs e (0,0)))/\n<=cs.size:=by
 have h1:¬(n:Int)<0:=by omega
 have h2:¬(281474976710656:Int)<(n:Int):=by omega
 have pT:∃(m1 m2:String) (q:Question),Extern.BytealgMakeNoZero.makeNoZero ps #[t] #[.int .i64 (n:Int)]=
  (do
   let .slice elem<-underlying t|stuck m1
   if(n:Int)<0||(n:Int)>2^48 then runtimePanic (.error m2)
   let cap<-choose (.appendCap (n:Int).toNat 0 elem)
   askRoom cap
   let bytes<-choose q
   let a<-newRow elem (Extern.BytealgMakeNoZero.digits cap bytes #[])
   pure (.slice (some a) (n:Int).toNat cap))/\q.forced=false:=⟨_,_,_,rfl,rfl⟩
 obtain⟨m1,m2,q,pT,hq⟩:=pT;refine⟨Extern.BytealgMakeNoZero.digits (grownCap w n 0 e) (q.cut (w.tape (w.drawn+1) q)) #[],?_,?_⟩
 .rw[pT];have eJ:(Question.appendCap n 0 e).forced=false:=rfl;simp[run_underlying (Fe he hu),h1,h2,hq,eJ,newRow,G0,grownCap,e_.u];rfl
 .rw[G0];simpa using grownCap_ge w n 0 e
omit he in
theorem PZ {a b v:AV} (h:rU a b=some v):∃l c,a= .aG l/\b= .int .u8 ((c:Nat):Int)/\c<256/\v= .int .i64 (ue c l):=by
 unfold rU at h;split at h
 .grind [Nat.blt_eq]
 .cases h
omit he in
theorem J9 {a b v:AV} (h:gU a b=some v):∃l c,a= .aG l/\b= .int .u8 ((c:Nat):Int)/\c<256/\v= .int .i64 (match vn c l with|some k=>(k:Int)|none=> -1):=by
 unfold gU at h;split at h
 .grind [Nat.blt_eq]
 .cases h
theorem ok_ext (wy:∀f fn,E.a.g f=some fn->jb fn=true) {o:Oper} {c:Call} {f:FuncId} (ho:o.op= .call c) (hc:c.callee= .value (.func f)) (hb:CV E f=false):
 W5 E P o (iN E f (B' E f) c.args.toList):=by
 cases hf:E.a.g f with
 |none=>
  have:B' E f= "" :=by simp[B',hf]
  rw[this];unfold iN;split
  .exact W5.bad
  .exact W5.bad
  .exact W5.bad
 |some fn=>
 have vS:B' E f=fn.name:=by simp[B',hf]
 have cy:fn.body.isNone=true:=by grind [CV]
 have hor':=wy f fn hf;have org:fV fn.name=true->(Extern.allNextRows.lookup fn.origin).isNone=true:=by grind [jb]
 rw[vS];unfold iN;split
 .next x Xx=>
  cases h1:(fn.name== "internal/abi.NoEscape")with
  |true=>
   have hn:fn.name= "internal/abi.NoEscape" :=by simpa using h1
   have ht:=org (by simp[fV,h1]);have run:=M8 he ho hc hf cy (D5 hn (by kernel_rfl) ht) (M6 (e:=Extern.AbiNoEscape.same) hn (by kernel_rfl) (by kernel_rfl) (by kernel_rfl));intro C T a S w hg hT hS v h;refine⟨a.eval x,?_,Al hg hT h⟩;rw[run,Xx];rfl
  |false=>
  cases h2:(fn.name== "internal/bytealg.MakeNoZero")with
  |true=>
   have hn:fn.name= "internal/bytealg.MakeNoZero" :=by simpa using h2
   have ht:=org (by simp[fV,h2]);have run:=M8 he ho hc hf cy (D5 hn (by kernel_rfl) ht) (SL (e:=Extern.BytealgMakeNoZero.makeNoZero) hn (by kernel_rfl) (by kernel_rfl));simp only[cond_false,cond_true];rw[hf];cases cQ:vr E (some fn)with
   |none=>exact W5.bad
   |some e=>
   simp only;have hrt:∃t,fn.resultTypes= #[t]/\Wb E t=some (.slice e):=by grind [vr]
   obtain⟨t,hrt,hu⟩:=hrt;intro C T a S w hg hT hS;have key:∀m,((Ci E x T).bind (p8 e))=some m->∃n:Nat,VR C (.int .i64 (n:Int)) (a.eval x)/\0<n/\n<=1099511627776/\m= .J (.J [] e true) fun i=> .Z i 0 n 1 none:=by
    intro m h;obtain⟨v,hv,h⟩:=Qa.1 h;unfold p8 at h;split at h
    .next n=>
     cases qp:(Nat.blt 0 n&&Nat.ble n 1099511627776)with
     |false=>rw[qp]at h;cases h
     |true=>
      rw[qp]at h;simp only[cond_true,Option.some.injEq]at h;rw[Qf]at qp;exact⟨n,Al hg hT hv,by simpa[Nat.blt_eq]using qp.1,Qc qp.2,h.symm⟩
    .cases h
   refine⟨fun v h=>?_,fun ob g h=>?_⟩
   .grind
   .obtain⟨n,hv,nh,sk,h⟩:=key _ h;cases h;generalize hq:a.eval x=q at hv;cases hv;obtain⟨cs,hrow,hle⟩:=S6 he hu fn.params n (by omega) w;have hw1:=CE.I hS (w.drawn+1);have hw2:=CE.I hw1.c (w.drawn+1+1);have fq:=DD hw2.c (cs:=[]) (c:=cs) (vs:=[]) (ex:=cs.toList) .O (by simp) (fun _ h=>by cases h) e true (fun h=>by cases h);refine⟨_,_,_,?_,(hw1.u hw2).u fq,EV (n:=cs.size) (cap:=none) (c:=cs.size) ⟨by simp,Nat.one_pos⟩ hle⟩;rw[run,Xx];simp only[List.map_cons,List.map_nil,hq,hrt];rw[hrow];rfl
  |false=>simp_all [W5.bad]
 .next x y Xx=>
  cases h1:(fn.name== "internal/bytealg.CountString")with
  |true=>
   have hn:fn.name= "internal/bytealg.CountString" :=by simpa using h1
   have ht:=org (by simp[fV,h1]);have run:=M8 he ho hc hf cy (D5 hn (by kernel_rfl) ht) (M6 (e:=Extern.BytealgCount.count) hn (by kernel_rfl) (by kernel_rfl) (by kernel_rfl));intro C T a S w hg hT hS v h;obtain⟨u1,hu1,h⟩:=Qa.1 h;obtain⟨u2,vW,h⟩:=Qa.1 h;have uO:=Al hg hT hu1;have wU:=Al hg hT vW;obtain⟨l,c',rfl,rfl,b7,rfl⟩:=PZ h;generalize eJ:a.eval x=q1 at uO;generalize kD:a.eval y=q2 at wU;cases uO with
   | @an _ _ s hs=>
   cases wU;refine⟨_,?_,.int _ _⟩;rw[run,Xx];simp only[List.map_cons,List.map_nil,eJ,kD];have:=Go.Lib.run_countString (P:=P) s (c':Int) w;simp only[Int.toNat_natCast]at this;rw[hs,V3 b7]at this;show((Extern.BytealgCount.count #[.string s,.int .u8 (c':Int)]).run P w).andThen _=_;rw[this];rfl
  |false=>
  cases h2:(fn.name== "internal/bytealg.IndexByteString")with
  |true=>
   have hn:fn.name= "internal/bytealg.IndexByteString" :=by simpa using h2
   have ht:=org (by simp[fV,h2]);have run:=M8 he ho hc hf cy (D5 hn (by kernel_rfl) ht) (M6 (e:=Extern.BytealgIndexByte.indexByte) hn (by kernel_rfl) (by kernel_rfl) (by kernel_rfl));intro C T a S w hg hT hS v h;obtain⟨u1,hu1,h⟩:=Qa.1 h;obtain⟨u2,vW,h⟩:=Qa.1 h;have uO:=Al hg hT hu1;have wU:=Al hg hT vW;obtain⟨l,c',rfl,rfl,b7,rfl⟩:=J9 h;generalize eJ:a.eval x=q1 at uO;generalize kD:a.eval y=q2 at wU;cases uO with
   | @an _ _ s hs=>
   cases wU;have:=Go.Lib.run_indexByteString (P:=P) s (c':Int) w;simp only[Int.toNat_natCast]at this;rw[hs,UM b7]at this;refine⟨_,?_,.int _ _⟩;rw[run,Xx];simp only[List.map_cons,List.map_nil,eJ,kD];show((Extern.BytealgIndexByte.indexByte #[.string s,.int .u8 (c':Int)]).run P w).andThen _=_;rw[this];rfl
  |false=>simp_all [W5.bad]
 .exact W5.bad
omit he in
theorem junk_ok {C:Cx} {S:St} {w:World} (hS:WW C S w) {ts:Array TypeId} {ty e:TypeId} (hp:P.underlying ty=some (.pointer e)) (a:Option Addr) (ha:uK C a) (n c:Nat):
 ∃C' p w',(Builtin.unsafeSliceData_ ts ty #[.slice a n c]).run P w= .ok (.pointer p) w'/\CE C S w C' S w':=by
 cases a with
 |none=>exact⟨C,none,w,rfl,CE.g hS⟩
 |some ad=>
  cases c with
  |succ c=>exact⟨C,some ad,w,rfl,CE.g hS⟩
  |zero=>
   have pT:Builtin.unsafeSliceData_ ts ty #[.slice (some ad) n 0]=
    (do
     if(0:Nat)≠0 then pure (.pointer (some ad))
     else if(<-viewAt ad.block).isSome then pure (.pointer (some ad))
     else pure (.pointer (some ⟨<-newObj (.view ad (<-elemOf ty)),0,none⟩))):=rfl
   rw[pT];have C5:=hS.i _ (ha ad rfl);have hx:w.heap[ad.block]?=some w.heap[ad.block]:=Array.getElem?_eq_getElem C5;generalize w.heap[ad.block]=x at hx;have hel:(elemOf ty).run P w= .ok e w:=by simp[elemOf,run_underlying hp]
   have made:(viewAt ad.block).run P w= .ok none w->∃C' p w',(do
    if(0:Nat)≠0 then pure (.pointer (some ad))
    else if(<-viewAt ad.block).isSome then pure (.pointer (some ad))
    else pure (.pointer (some ⟨<-newObj (.view ad (<-elemOf ty)),0,none⟩)):Sem Value).run P w= .ok (.pointer p) w'/\CE C S w C' S w':=by
    intro hv;refine⟨C,some ⟨w.heap.size,0,none⟩,e_.u w (.view ad e),?_,HZ hS _⟩;simp[hv,hel,e_.u]
   cases x with
   |cells q t f=>exact made (by simp[viewAt,World.shape?,hx])
   |view q t=>
    refine⟨C,some ad,w,?_,CE.g hS⟩;have hv:(viewAt ad.block).run P w= .ok (some (q,t)) w:=by
     simp only[viewAt,Sem.run_bind,run_shape,World.shape?,hx,Result.andThen_ok];simp[AE hx (by simp)]
    simp[hv]
   |_=>
    refine made ?_;simp only[viewAt,Sem.run_bind,run_shape,World.shape?,hx,Result.andThen_ok];simp[AE hx (by simp)]
theorem ok_data {o:Oper} {c:Call} {x:Operand} (ho:o.op= .call c) (hc:c.callee= .builtin .unsafeSliceData) (Xx:c.args.toList=[x]):W5 E P o (tf E o.type x):=by
 unfold tf;split
 .next e hu=>
  have hp:=Fe he hu;have harr:∀ρ:Operand->Value,c.args.map ρ= #[ρ x]:=by intro ρ;apply Array.ext';simp[Xx]
  have du:∀(ρ:Operand->Value) (w:World),(execOp ρ o).run P w=((Builtin.unsafeSliceData_ c.argTypes o.type #[ρ x]).run P w).andThen fun v w'=> .ok (.value v) w':=by
   intro ρ w;simp only[execOp,ho,resolve,hc,Sem.run_bind,Sem.run_pure,Result.andThen_ok,invoke,builtin,harr]
  intro C T a S w hg hT hS;refine⟨fun v h=>?_,fun ob g h=>?_⟩
  .obtain⟨u,kY,h⟩:=Qa.1 h;have hv:=Al hg hT kY;rw[du];unfold vq at h;split at h
   .next r hr=>
    cases h;have cU:∀ad n k,a.eval x= .slice ad n k->uK C ad->v= .cU->∃C' y w',((Builtin.unsafeSliceData_ c.argTypes o.type #[a.eval x]).run P w).andThen (fun v w'=> .ok (Next.value v) w')= .ok (.value y) w'/\CE C S w C' S w'/\VR C' v y:=by
     intro ad n k h1 h2 h3;obtain⟨C',p,w',hr,ht⟩:=junk_ok (P:=P) hS (ts:=c.argTypes) hp ad h2 n k;exact⟨C',.pointer p,w',by rw[h1,hr];rfl,ht,by rw[h3];exact .cU p⟩
    generalize hq:a.eval x=q at hv;cases hv with
    |Ca ad hx=>cases hr;rw[<-hq];exact cU _ _ _ hq hx rfl
    | @O _ b off len sz cap k hd dk Zu=>
     cases len with
     |zero=>cases hr;rw[<-hq];exact cU _ _ _ hq (.some (hS.j _ hd)) rfl
     |succ len=>
      cases hr;refine⟨C,_,w,?_,CE.g hS,.aG hd⟩;cases k with
      |zero=>omega
      |succ k=>rfl
    |XT hx hd dk=>cases hr;rw[<-hq];exact cU _ _ _ hq (.some hx) rfl
    |_=>simp[W']at hr
   .cases h
  .grind [vq,Qa]
 .exact W5.bad
omit he in
theorem OF {C:Cx} {S:St} {w:World} (h:WW C S w) {b:Nat} {o0:CG} (er:S.b.g b=some o0) (x:Obj):CE C S w C (S.z b none) (e_.g w (C.a b).b x):=by
 have dq:=fun k=>Jj S b k none;have f:∀j oj,(S.z b none).b.g j=some oj->j≠b/\S.b.g j=some oj:=by grind
 refine⟨.g C,⟨fun k ok hk=>?_,fun k k' ok tk hk iX=>h.inj k k' ok tk (f k ok hk).2 (f k' tk iX).2,h.d,fun Cv ms hm=>?_,fun k ok hk=>h.g k ok (f k ok hk).2,h.f,
  fun k hk=>by simpa[e_.g]using h.i k hk,h.j,h.m⟩,rfl,(DJ S b _).2,Qj _,by simp[e_.g],fun Cv _ hn=>?_,fun k _ hm=>?_,fun _ h=> .inl h,
  fun k ok hk=> .inl ⟨(h.a k ok (f k ok hk).2).1,ok,(f k ok hk).2⟩,fun _ _ h=> .inl h,⟨rfl,rfl,rfl⟩⟩
 .obtain⟨Yh,iX⟩:=f k ok hk;obtain⟨hd,y,hy,hr⟩:=h.a k ok iX;exact⟨hd,y,by rw[Bf,if_neg (fun e=>Yh (h.inj k b ok o0 iX er e))];exact hy,hr⟩
 .obtain⟨c,ty,fr,hc,e⟩:=h.l Cv ms hm;refine⟨c,ty,fr,?_,e⟩;rw[Bf,if_neg];· exact hc
  intro e';have:=h.g b o0 er;rw[<-e',hm]at this;cases this
 .grind [Bf,DJ]
 .grind [DJ]
omit he in
theorem GT:∀(ns:List Int) (a:Addr) (acc:ByteArray) {w:World},mY w a (ns.map (.int .u8))->(∀i j,(a.add i).add j=a.add (i+j))->
 (loadBytes a acc ns.length).run P w= .ok ⟨acc.data++(ns.map fun n=>UInt8.ofNat n.toNat).toArray⟩ w
 | [],a,acc,w,_,_=>by simp[loadBytes]
 |n::ns,a,acc,w,h,hadd=>by
  have h0:w.cell? a=some (.int .u8 n):=by
   have:=h 0 (.int .u8 n) rfl;simpa[Addr.add]using this
  have ih:=GT ns (a.add 1) (acc.push n.toNat.toUInt8) (w:=w) (fun j v hj=>by rw[hadd];rw[Nat.add_comm];exact h (j+1) v (by simpa using hj)) (fun i j=>by rw[hadd,hadd,hadd,Nat.add_assoc]);simp only[List.length_cons,loadBytes,Sem.run_bind,run_load,h0,Result.andThen];rw[ih]
  congr 1
  apply ByteArray.ext;simp[ByteArray.push]
theorem SC {e:TypeId} (hn:Am.an E e=some 1) {count off n:Nat} (h:off+n<=count):liesAt P P.depth e (count/P.cellsOf e) off e n=true:=by
 have hc:=HW (P:=P) he hn;have qJ:∃q,P.depth=q+2:=⟨_,rfl⟩
 obtain⟨q,hq⟩:=qJ;rw[hc,Nat.div_one,hq,liesAt];refine Bool.or_eq_true_iff.2 (.inl ?_);rw[hq,rowAt,hc];simp[h,sameLayout,Nat.mod_one]
omit he in
theorem Vi {w:World} {Cv off n:Nat} {c:Array Value} {e:TypeId} {fr:Nat×Nat} (h:w.heap[Cv]?=some (.cells c e fr)) (hn:n≠0):
 ∃Yx,w.freeze ⟨Cv,off,none⟩ n=e_.g w Cv (.cells c e Yx):=by
 unfold World.freeze e_.g;rw[if_neg hn,NR h];exact⟨_,U⟩
omit he in
theorem N4 {s:St} {e' n:Nat} {v:AV} {r:AV×St} (h:p7 s E e' n v=some r):
 (n=0/\r=(.aG [],s)/\(v= .W2\/v= .cU\/∃b off,v= .J b off))\/(n≠0/\∃b off,v= .J b off/\iM s E e' b off n (s.b.g b)=some r):=by
 unfold p7 at h;split at h
 .cases h0:Nat.beq n 0 with
  |true=>rw[h0]at h;cases h;exact .inl ⟨Qb h0,rfl,.inr (.inr ⟨_,_,rfl⟩)⟩
  |false=>rw[h0]at h;exact .inr ⟨Nat.ne_of_beq_eq_false h0,_,_,rfl,h⟩
 .cases h0:Nat.beq n 0 with
  |true=>rw[h0]at h;cases h;exact .inl ⟨Qb h0,rfl,.inr (.inl rfl)⟩
  |false=>rw[h0]at h;cases h
 .cases h0:Nat.beq n 0 with
  |true=>rw[h0]at h;cases h;exact .inl ⟨Qb h0,rfl,.inl rfl⟩
  |false=>rw[h0]at h;cases h
 .cases h
omit he in
theorem Ml {s:St} {e' b off n:Nat} {o:Option CG} {r:AV×St} (h:iM s E e' b off n o=some r):
 ∃cs part l q,o=some (.J cs e' part)/\v_ cs off n=some l/\YR l=some q/\r=(.aG q,s.z b none):=by
 unfold iM at h;split at h
 .next cs e part=>
  cases uV:(Nat.beq e e'&&F' E e)with
  |false=>rw[uV]at h;cases h
  |true=>
   rw[uV]at h;simp only[cond_true]at h;rw[Qf]at uV;have:=Qb uV.1;subst this;obtain⟨l,hl,h'⟩:=Qa.1 h;obtain⟨q,hq,h''⟩:=Qa.1 h';cases h'';exact⟨_,_,l,q,U,hl,hq,U⟩
 .cases h
theorem ok_str {o:Oper} {c:Call} {t:TypeId} {ts:List TypeId} {x y:Operand} (ho:o.op= .call c) (hc:c.callee= .builtin .unsafeString) (fT:c.argTypes.toList=t::ts) (Xx:c.args.toList=[x,y]):
 W5 E P o (kQ E t x y):=by
 unfold kQ;split
 .next e hu=>
  cases dt:(F' E e&&Nat.beq ((Am.an E e).getD 0) 1)with
  |false=>exact W5.bad
  |true=>
  rw[Qf]at dt;have X2:Am.an E e=some 1:=by
   cases hq:Am.an E e with
   |none=>rw[hq]at dt;exact absurd dt.2 (by decide)
   |some k=>simp_all [Qb]
  have hp:=Fe he hu;have harr:∀ρ:Operand->Value,c.args.map ρ= #[ρ x,ρ y]:=by intro ρ;apply Array.ext';simp[Xx]
  have tm:c.argTypes[0]?=some t:=by rw[<-Array.getElem?_toList,fT];rfl
  have du:∀(ρ:Operand->Value) (w:World),(execOp ρ o).run P w=((Builtin.unsafeString_ c.argTypes o.type #[ρ x,ρ y]).run P w).andThen fun v w'=> .ok (.value v) w':=by
   intro ρ w;simp only[execOp,ho,resolve,hc,Sem.run_bind,Sem.run_pure,Result.andThen_ok,invoke,builtin,harr]
  intro C T a S w hg hT hS v S' h;obtain⟨av,jW,h⟩:=Qa.1 h;obtain⟨bv,uS,h⟩:=Qa.1 h;obtain⟨n,hn,h⟩:=Qa.1 h;have hv:=Al hg hT jW;have hw:=Al hg hT uS;cases hle:Nat.ble n 1099511627776 with
  |false=>rw[hle]at h;cases h
  |true=>
  rw[hle]at h;simp only[cond_true]at h;have hle':=Qc hle;obtain⟨k,hk⟩:∃k,a.eval y= .int k (n:Int):=by
   unfold Xb at hn;split at hn
   .next k' m=>
    cases hn;generalize a.eval y=q at hw;cases hw;exact⟨_,U⟩
   .cases hn
  have hmax:IntKind.i64.max=9223372036854775807:=rfl;have mZ:¬((n:Int)<0):=by omega
  have wV:¬((9223372036854775807:Int)<(n:Int)):=by omega
  have wW:∃(m1 m2 m3:String) (u:Unsupported),∀(ts:Array TypeId) (ty:TypeId) (l:Value),Builtin.unsafeString_ ts ty #[.pointer none,l]=
   (do
    let n<-asInt l
    let some pt:=ts[0]?|stuck m1
    if n<0 then runtimePanic (.error m2)
    if n>IntKind.i64.max then unsupported u
    if n=0 then pure (.string .empty)
    else runtimePanic (.error m3)):=⟨_,_,_,_,fun _ _ _=>rfl⟩
  have tC:∃(m1 m2:String) (u u':Unsupported),∀(ts:Array TypeId) (ty:TypeId) (l:Value) (ad:Addr),Builtin.unsafeString_ ts ty #[.pointer (some ad),l]=
   (do
    let n<-asInt l
    let some pt:=ts[0]?|stuck m1
    if n<0 then runtimePanic (.error m2)
    if n>IntKind.i64.max then unsupported u
    if n=0 then pure (.string .empty)
    else if<-variablesAt ad (<-elemOf pt) n.toNat then do
     let s<-loadBytes ad .empty n.toNat
     freeze ad n.toNat
     pure (.string s)
    else unsupported u'):=⟨_,_,_,_,fun _ _ _ _=>rfl⟩
  obtain⟨_,_,_,_,wW⟩:=wW;obtain⟨_,_,_,_,tC⟩:=tC;have nothing:∀p,a.eval x= .pointer p->n=0->(execOp a.eval o).run P w= .ok (.value (.string .empty)) w:=by
   intro p hpx h0;subst h0;rw[du,hpx,hk];cases p with
   |none=>rw[wW];simp[asInt,asIntOf,tm,hmax]
   |some ad=>rw[tC];simp[asInt,asIntOf,tm,hmax]
  rcases N4 h with⟨h0,mQ,ft⟩|⟨nh,b,off,rfl,Yi⟩
  .cases mQ;have hpx:∃p,a.eval x= .pointer p:=by
    generalize a.eval x=q at hv;rcases ft with rfl|rfl|⟨b,off,rfl⟩<;>cases hv<;>exact⟨_,rfl⟩
   obtain⟨p,hpx⟩:=hpx;exact⟨C,_,w,nothing p hpx h0,CE.g hS,.J (.an U)⟩
  .obtain⟨cs,part,l,r,hob,hl,hr,aA⟩:=Ml Yi;cases aA;generalize hq:a.eval x=q at hv;cases hv with
   |aG hd=>
   obtain⟨_,xo,hx,wy⟩:=hS.a b _ hob;cases wy with
   |J Xr ha hs WS hf jV=>
   rename_i cc fr vs
   obtain⟨pre,post,hcsl,Y1,ui⟩:=FX hl;rw[hcsl]at Xr;obtain⟨y1,z3,rfl,h1,h4⟩:=AB Xr;obtain⟨y0,ym,rfl,h2,h3⟩:=AB h1;obtain⟨ns,hns,hrr⟩:=F9 h3 hr;have Y0:=ha.sub (a:=y0) (b:=ym) (c:=z3) rfl;rw[h2.g,Y1]at Y0;have hlen:ns.length=n:=by
    have:=h3.g;rw[hns]at this;simp only[Qn]at this;omega
   have ox:=JF hx Y0;rw[hns]at ox;have mX:=GT (P:=P) ns ⟨(C.a b).b,(C.a b).a+off,none⟩ .empty ox (fun i j=>by simp[Bx,Nat.add_assoc]);rw[hlen]at mX;have a9:(C.a b).a+off+n<=cc.size:=by
    have:=Y0.le;rw[hns]at this;simp only[Qn,hlen,Array.length_toList]at this;exact this
   have wg:=SC (P:=P) he X2 a9;have tp:w.shape? (C.a b).b=some (e,cc.size):=by simp[World.shape?,hx]
   obtain⟨Yx,rK⟩:=Vi (off:=(C.a b).a+off) hx nh;refine⟨C,.value (.string ⟨(ByteArray.empty).data++(ns.map fun n=>UInt8.ofNat n.toNat).toArray⟩),_,?_,OF hS hob (.cells cc e Yx),.J (.an ?_)⟩
   .rw[du,hq,hk,<-rK,tC];simp[asInt,asIntOf,tm,hmax,mZ,wV,nh,variablesAt,tp,elemOf,run_underlying hp,wg,mX]
   .rw[hrr];simp
 .exact W5.bad
theorem Vq (wy:∀f fn,E.a.g f=some fn->jb fn=true):ZW E P:=
 ⟨fun _ _ _ _ h1 h2 h3=>ok_ext he wy h1 h2 h3,fun _ _ _ _ h1 h2 h3=>ok_data he h1 h2 h3,fun _ _ _ _ _ _ _ h1 h2 h3 h4=>ok_str he h1 h2 h3 h4⟩
end
def fu (E:c_) (P:Program):Prop:=
 ∀(f:FuncId) (args:List AV) (v:AV),E.d f args=some v->∀(C:Cx) (S:St) (w:World) (xs:Array Value) (c:Frame) (cs:List Frame),WN E C->Wx C args xs.toList->WW C S w->
  o_ P (lone (Frame.enter P f xs .normal) (c::cs) w) c cs C S w (.J v)
section
variable {E : c_} {P : Program}
theorem uU.g {p q:Option AV} {a b:List Frame} (h:uU p q a b) (hp:p=none):b=a:=by
 cases h with
 |J=>rfl
 |O=>cases hp
theorem O' {b:Frame} {cs:List Frame} {C:Cx} {m:Machine} {ex:Ex} {a:Act} {w:World} (hr:b.roundOf=none) (he:B_ P b [] cs C m ex a w) {mo:Option AV} (hm:fb ex=some mo):
 ∃todo mode,Steps P m (lone (CT b a todo mode) cs w)/\fo C mode mo:=by
 cases ex with
 |J=>cases hm;exact⟨[],.returning,Steps.trans he (.one (s_end hr)),.J⟩
 |Y=>cases hm;obtain⟨k2,h⟩:=he;exact⟨_,.returning,Steps.trans h (.one (s_ret hr)),.J⟩
 |O v=>cases hm;obtain⟨k2,x,h,hv,_⟩:=he;exact⟨k2,_,h,.O hv⟩
 |Z id=>cases hm
theorem CrR.returns {C:Cx} {S:St} {w w':World} {x:Value} {cr:CR} (h:CrR C S w x w' cr) {m:Machine} {c:Frame} {cs:List Frame} (hs:Steps P m (lone (c.finish x) cs w')):o_ P m c cs C S w cr:=by
 cases cr with
 |J v=>obtain⟨C',t,hv⟩:=h;exact⟨C',x,w',hs,t,hv⟩
 |O v S'=>obtain⟨C',t,hv⟩:=h;exact⟨C',x,w',hs,t,hv⟩
 |Y v S'=>cases h
theorem PX (he:Wd E P) {ev:Ev} (gJ:lX E P ev) {f:FuncId} {fn:Func} (hp:P.funcs[f]?=some fn) {S:St} {r:cP} {cr:CR} (h:ZM E ev f fn S r=some cr) {C C1:Cx} {w w1:World} (hg:WN E C)
 (hS:WW C S w) (t:CE C S.u w C1 r.b w1) {b:Frame} {a1:Act} (hT:TR C1 r.a.nt r.T a1.tmps) {c:Frame} {cs:List Frame} (hF:o9 C1 r.a b a1 (c::cs)) (hk:b.kind= .normal) (hr:b.roundOf=none) (hf:b.fn=f)
 {m:Machine} (YM:B_ P b [] (c::cs) C1 m r.c a1 w1):o_ P m c cs C S w cr:=by
 unfold ZM at h;obtain⟨mo,jc,h⟩:=Qa.1 h;obtain⟨p,ng,h⟩:=Qa.1 h;obtain⟨m',S'⟩:=p;obtain⟨todo,mode,aq,mT⟩:=O' hr YM jc;have Yw:=hg.mono t.a;obtain⟨C2,w2,mode2,jm,t2,pS⟩:=G7 he gJ ng Yw hF.d t.c mT b a1.tmps todo (c::cs);have XM:=aq.trans jm;have t3:=t.u t2;unfold t_ at h;cases pS with
 |J=>
  simp only at h;obtain⟨vs,Xr,h⟩:=Qa.1 h;have hTT:TR C2 a1.tmps.size r.T a1.tmps:=⟨rfl,(hT.mono t2.a).2⟩
  obtain⟨x,hx,aJ⟩:=Ja he hTT t3.c Xr;refine(Rc h hS t3 aJ).returns (XM.trans (.one ?_));exact step_leave_returned ⟨U,U,hk,fn,by show P.funcs[b.fn]?=_;rw[hf];exact hp,hx⟩
 | @O v x hv=>
  simp only at h;cases h;refine⟨C2,x,w2,XM.trans (.one ?_),t3.J hS,hv⟩;exact step_leave_panicked ⟨U,U,fn,by show P.funcs[b.fn]?=_;rw[hf];exact hp⟩
theorem WW.A {C:Cx} {S:St} {w:World} (h:WW C S w):WW C S.u w:=h.I _ _
theorem QO {a b:AV} (h:iO a b=true):a=b:=by
 unfold iO at h;split at h
 .next x y=>cases x<;>cases y<;>first|rfl|cases h
 .next j a k b=>
  by_cases hk:j=k
  .rw[if_pos hk]at h;rw[hk,of_decide_eq_true h]
  .rw[if_neg hk]at h;cases h
 .next a b=>rw[Bc]at h;rw[of_decide_eq_true h]
 .rfl
 .simp only[Qf]at h;rw[Qb h.1,Qb h.2]
 .rfl
 .next a b c d e f g i j k=>
  simp only[Qf]at h;obtain⟨⟨⟨⟨h1,h2⟩,h3⟩,h4⟩,h5⟩:=h;rw[Qb h1,Qb h2,Qb h3,Qb h4];unfold X_ at h5;split at h5
  .rfl
  .rw[Qb h5]
  .cases h5
 .rfl
 .rw[Qb h]
 .cases h
theorem I4:∀ {a b:List AV},gq a b=true->a=b
 | [],[],_=>rfl
 | [],_::_,h=>by cases h
 |_::_,[],h=>by cases h
 |a::l,b::r,h=>by
  simp only[gq,Qf]at h;rw[QO h.1,I4 h.2]
theorem GF {a b:AV} (h:ay a (some b)=true):a=b:=by
 unfold ay at h;split at h
 .next e=>cases e;rw[I4 h]
 .next e=>cases e;rw[I4 h]
 .next e=>cases e;exact QO h
 .next e=>cases e
mutual
theorem HP:∀ {a b:AV},ab a b=true->a=b
 | .bool a,b,h=>by
  cases b<;>simp only[ab]at h<;>try (cases h;done)
  rename_i b;cases a<;>cases b<;>first|rfl|cases h
 | .int j a,b,h=>by
  cases b<;>simp only[ab]at h<;>try (cases h;done)
  split at h
  .next hk=>subst hk;simp at h;rw[h]
  .cases h
 | .aG a,b,h=>by
  cases b<;>simp only[ab]at h<;>try (cases h;done)
  rw[Bc]at h;simp at h;rw[h]
 | .W2,b,h=>by cases b<;>first|rfl|(simp only[ab]at h;cases h)
 | .Ca,b,h=>by cases b<;>first|rfl|(simp only[ab]at h;cases h)
 | .WZ,b,h=>by cases b<;>first|rfl|(simp only[ab]at h;cases h)
 | .C7,b,h=>by cases b<;>first|rfl|(simp only[ab]at h;cases h)
 | .CS,b,h=>by cases b<;>first|rfl|(simp only[ab]at h;cases h)
 | .XD a,b,h=>by
  cases b<;>simp only[ab]at h<;>try (cases h;done)
  rw[FU h]
 | .Ck a l s c,b,h=>by
  cases b<;>simp only[ab]at h<;>try (cases h;done)
  simp only[Qf]at h;obtain⟨⟨⟨h1,h2⟩,h3⟩,h4⟩:=h;rename_i cl
  have:=Qb h1;have:=Qb h2;have hc:c=cl:=by cases c<;>cases cl<;>first|rfl|cases h3
  subst_vars
  rw[FU h4]
 | .a_ t a,b,h=>by
  cases b<;>simp only[ab]at h<;>try (cases h;done)
  rw[Qf]at h;have:=Qb h.1;subst this;rw[HP h.2]
 | .O a,b,h=>by
  cases b<;>simp only[ab]at h<;>try (cases h;done)
  rw[FU h]
 | .Y a,b,h=>by
  cases b<;>simp only[ab]at h<;>try (cases h;done)
  rw[FU h]
 | .J _ _,b,h=>by cases b<;>simp only[ab]at h<;>cases h
 | .Z _ _ _ _ _,b,h=>by cases b<;>simp only[ab]at h<;>cases h
 | .bW _,b,h=>by cases b<;>simp only[ab]at h<;>cases h
 | .eQ _ _,b,h=>by cases b<;>simp only[ab]at h<;>cases h
 | .cU,b,h=>by cases b<;>simp only[ab]at h<;>cases h
 | .an _ _ _,b,h=>by cases b<;>simp only[ab]at h<;>cases h
theorem FU:∀ {a b:List AV},fc a b=true->a=b
 | [],b,h=>by cases b<;>first|rfl|(simp only[fc]at h;cases h)
 |a::l,b,h=>by
  cases b with
  |nil=>simp only[fc]at h;cases h
  |cons c r=>
   simp only[fc,Qf]at h;rw[HP h.1,FU h.2]
end
theorem KI {C C':Cx} {S:St} {w w':World} (hS:WW C S w) (t:CE C S.I w C' S.I w'):CE C S w C' S w':=by
 have Xo:∀b,C.D b->¬aZ S.I S.I.d b:=fun b hb hm=>by
  rcases hm with h|h
  .cases h
  .exact Nat.lt_irrefl _ (Nat.lt_of_lt_of_le (hS.d b hb) h)
 have hno':∀b o,S.b.g b=some o->¬aZ S.I S.I.d b:=fun b o hb=>Xo b (hS.a b o hb).1;exact {a:=t.a,c:=t.c.I _ _,e:=rfl,i:=fun _ h=>h,j:=Qj _,d:=t.d,z:=fun Cv hb _=>t.z Cv hb fun b o ho hm=>absurd hm (hno' b o ho),f:=fun b hb _=>t.f b hb (Xo b hb),m:=t.m,own:=fun b o ho=>(t.own b o ho).elim .inl fun h=>h.elim (fun h=> .inr (.inl h)) fun⟨b0,o0,h0,h1,_⟩=>absurd h1 (hno' b0 o0 h0),l:=fun Cv ms hm=>(t.l Cv ms hm).elim .inl fun h=>h.elim (fun h=> .inr (.inl h)) fun⟨b0,o0,h0,h1,_⟩=>absurd h1 (hno' b0 o0 h0),k:=t.k}
theorem RB {P:Program} {m:Machine} {c:Frame} {cs:List Frame} {C:Cx} {S:St} {w:World} {v:AV} (hS:WW C S w) (h:o_ P m c cs C S.I w (.J v)):o_ P m c cs C S w (.J v):=by
 obtain⟨C',x,w',hs,t,hv⟩:=h;exact⟨C',x,w',hs,KI hS t,hv⟩
theorem Ke {ev:Ev} {f:FuncId} {fn:Func} {S:St} {v:AV}:∀ {l:List cP},iS E ev f fn S v l=true->∀r∈l,ZM E ev f fn S.I r=some (.J v)
 | [],_,r,hr=>by cases hr
 |a::l,h,r,hr=>by
  simp only[iS]at h;split at h
  .next u hu=>
   rw[Qf]at h;rcases Qk.1 hr with rfl|hr
   .rw[HP h.1]at hu;unfold pB at hu;split at hu
    .next v' he=>cases hu;exact he
    .cases hu
   .exact Ke h.2 r hr
  .cases h
theorem QZ {ev:Ev} {f:FuncId} {fn:Func} {S:St} {r0:cP} {l:List cP} {cr:CR} (h:I_ E ev f fn S r0 l=some cr):
 ∃v,cr= .J v/\∀r∈r0::l,ZM E ev f fn S.I r=some (.J v):=by
 unfold I_ at h;obtain⟨v,hv,h⟩:=Qa.1 h;cases ha:iS E ev f fn S v l with
 |false=>rw[ha]at h;cases h
 |true=>
  rw[ha]at h;cases h;refine⟨v,rfl,fun r hr=>?_⟩;rcases Qk.1 hr with rfl|hr
  .unfold pB at hv;split at hv
   .next v' he=>cases hv;exact he
   .cases hv
  .exact Ke ha r hr
def lb (E:c_) (P:Program) (ev:Ev):Prop:=
 ∀(f:FuncId) (fn:Func) (S:St) (r0:cP) (l:List cP) (cr:CR),pC E ev f fn S r0 l=some cr->∀(C:Cx) (w:World),WW C S w->∀(r:cP),r∈r0::l->∀(m:Machine) (c:Frame) (cs:List Frame),
  (∀cr',ZM E ev f fn S.I r=some cr'->o_ P m c cs C S.I w cr')->o_ P m c cs C S w cr
theorem Rz (he:Wd E P) (jZ:fu E P) {ev:Ev} (gJ:lX E P ev) (fy:E.c=true->lb E P ev):ZB E P ev:=by
 intro f args cr C S w xs c cs h hg ha hS;unfold WM at h;cases hm:E.d f args with
 |some v=>
  rw[hm]at h;cases h;exact jZ f args v hm C S w xs c cs hg ha hS
 |none=>
  rw[hm]at h;simp only at h;obtain⟨fn,qM,h⟩:=Qa.1 h;obtain⟨cd,hc,h⟩:=Qa.1 h;have hp:=he.d f fn qM;have b8:Frame.enter P f xs .normal=Wi (Frame.enter P f xs .normal) ⟨xs++Array.replicate (fn.ntmps-xs.size) undef,[]⟩ [.code cd]:=by
   simp[Frame.enter,Wi,hp,hc]
  have mS:(Frame.enter P f xs .normal).kind= .normal:=rfl;have eO:(Frame.enter P f xs .normal).roundOf=none:=rfl;have gZ:(Frame.enter P f xs .normal).fn=f:=rfl;generalize Frame.enter P f xs .normal=bd at b8 mS eO gZ;have Ya:=gJ cd C S.u w (n_ fn.ntmps args none) (YC 0 args .J) bd ⟨xs++Array.replicate (fn.ntmps-xs.size) undef,[]⟩ [] (c::cs) hg (Qv ha fn.ntmps)
   ⟨.O,.J (by simp[o8,tryRecover,mS]),.J eO⟩ hS.A
  rw[<-b8]at Ya;generalize dW:ev cd (n_ fn.ntmps args none) (YC 0 args .J) S.u=out at h Ya;unfold pE at h;split at h
  .next r=>
   obtain⟨r',dV,C1,a1,w1,cs1,t,hT,hF,hn,bS,WS,YM⟩:=Ya [r] rfl;simp only[Qp]at dV;subst dV;have:=WS.g rfl;subst this;exact PX he gJ hp h hg hS t hT hF mS eO gZ YM
  .next r l=>
   obtain⟨r',dV,C1,a1,w1,cs1,t,hT,hF,hn,bS,WS,YM⟩:=Ya (r::l) rfl;have:=WS.g rfl;subst this;have pU:WW C S.I w:=hS.I _ _;have ht':CE C S.I.u w C1 r'.b w1:=t;cases mT:I_ E ev f fn S r l with
   |some c1=>
    rw[mT]at h;cases h;obtain⟨v,rfl,Zc⟩:=QZ mT;exact RB hS (PX he gJ hp (Zc r' dV) hg pU ht' hT hF mS eO gZ YM)
   |none=>
   rw[mT]at h;unfold pD at h;cases zJ:E.c with
   |false=>rw[zJ]at h;cases h
   |true=>
   rw[zJ]at h;simp only[cond_true]at h;refine fy zJ f fn S r l cr h C w hS r' dV _ c cs fun cr' hcr'=>?_;exact PX he gJ hp hcr' hg pU ht' hT hF mS eO gZ YM
  .cases h
end
section
variable {E : c_} {P : Program}
theorem Ig {C:Cx} {nt:Nat}:∀ {ps:List Nat} {vs:List AV} {xs:List Value} {T T':Tr AV} {tmps:Array Value},bm nt ps vs T=some T'->TR C nt T tmps->Wx C vs xs->
 ps.length=xs.length/\TR C nt T' ((ps.zip xs).foldl (fun t (p:Nat×Value)=>t.setIfInBounds p.1 p.2) tmps)
 | [],[],xs,T,T',tmps,h,hT,hv=>by
  cases h;cases hv;exact⟨rfl,hT⟩
 | [],_::_,_,_,_,_,h,_,_=>by cases h
 |_::_,[],_,_,_,_,h,_,_=>by cases h
 |p::ps,v::vs,_,T,T',tmps,h,hT,.J (x:=x) (xs:=xs) uO si=>by
  simp only[bm]at h;cases hp:Nat.blt p nt with
  |false=>rw[hp]at h;cases h
  |true=>
   rw[hp]at h;have C5:p<nt:=by simpa[Nat.blt_eq]using hp
   have h1:TR C nt (T.u p (some v)) (tmps.setIfInBounds p x):=TR.put (a:=⟨tmps,[]⟩) hT C5 uO;obtain⟨h2,h3⟩:=Ig h h1 si;exact⟨by simp[h2],by simpa using h3⟩
theorem EL {w:World} {l:Nat} {L:Loop} (h:w.heap[l]?=some (.loop L)):(Instr.getLoop l).run P w= .ok L w:=by
 simp only[Instr.getLoop,Sem.run_bind,AE h (by simp),Result.andThen_ok,Sem.run_pure]
theorem s_begin {b:Frame} {a:Act} {k:List Item} {cs:List Frame} {w w':World} {l:Nat} (hr:b.roundOf=some l) (h:(Instr.beginRound l).run P w= .ok () w'):
 step P (lone (Wi b a (.beginRound::k)) cs w)= .next (lone (Wi b a k) cs w'):=
 step_lone_go (by simp[stepG,stepG.exec,stepG.apply,Wi,hr,h,Frame.finish])
theorem Sc {b:Frame} {a:Act} {c:Frame} {cs:List Frame} {w w':World} {l:Nat} {v:Value} (hk:b.kind= .normal) (hr:b.roundOf=some l) (h:(Instr.endRound l none).run P w= .ok v w'):
 step P (lone (Wi b a []) (c::cs) w)= .next (lone (c.finish v) cs w'):=
 step_lone_go (by simp[stepG,stepG.exec,Wi,hr,h,doReturn,hk])
theorem Sa {b:Frame} {a:Act} {k:List Item} {c:Frame} {cs:List Frame} {w w':World} {l:Nat} {v:Value} (hk:b.kind= .normal) (hr:b.roundOf=some l) (h:(Instr.endRound l (some .ret)).run P w= .ok v w'):
 step P (lone (Wi b a (.code .ret::k)) (c::cs) w)= .next (lone (c.finish v) cs w'):=
 step_lone_go (by simp[stepG,stepG.exec,Wi,hr,h,doReturn,hk])
theorem Pp {b:Frame} {a:Act} {k:List Item} {c:Frame} {cs:List Frame} {w w':World} {l id:Nat} {v:Value} (hk:b.kind= .normal) (hr:b.roundOf=some l) (he:exitTo id k=none)
 (h:(Instr.endRound l (some (.exit id))).run P w= .ok v w'):
 step P (lone (Wi b a (.code (.exit id)::k)) (c::cs) w)= .next (lone (c.finish v) cs w'):=
 step_lone_go (by simp[stepG,stepG.exec,Wi,hr,h,he,doReturn,hk])
theorem Nt {b:Frame} {t:Array Value} {k:List Item} (hn:pN k) {c:Frame} {cs:List Frame} {w:World} {ch:List PanicEntry}:
 step P (lone (CT b ⟨t,[]⟩ k (.panicking ch)) (c::cs) w)= .next (lone (c.raise ch) cs w):=by
 refine step_lone_go ?_;have:(CT b ⟨t,[]⟩ k (.panicking ch)).catches P=false:=by
  unfold Frame.catches;split
  .next h1 h2=>exact absurd h2 (hn _ _ _ _ _)
  .rfl
 simp only[CT]at this;simp[stepG,Go.unwind,CT,this]
theorem TQ {w:World} {l:Nat} {L:Loop} (h:w.heap[l]?=some (.loop L)) (hs:L.state= .ready):(Instr.beginRound l).run P w= .ok () (e_.g w l (.loop {L with state:= .busy})):=by
 simp only[Instr.beginRound,Sem.run_bind,EL h,Result.andThen_ok,DA h (by simp),hs,Sem.run_pure]
theorem N0 {w:World} {l:Nat} {L:Loop} (h:w.heap[l]?=some (.loop L)) (jump:Option Code):
 (Instr.endRound l jump).run P w= .ok (.bool jump.isNone) (e_.g w l (.loop {L with state:=if jump.isNone then .ready else .done,pending:=jump})):=by
 simp only[Instr.endRound,Sem.run_bind,EL h,Result.andThen_ok,DA h (by simp),Sem.run_pure]
theorem TT {ev:Ev} (gJ:lX E P ev) {l:Nat} {args:List AV} {cr:CR} {C:Cx} {S:St} {w:World} {xs:Array Value} (h:lO ev l args S=some cr) (hg:WN E C) (ha:Wx C args xs.toList) (hS:WW C S w)
 (c:Frame) (cs:List Frame):∃f tmps gH body,(Instr.yield (C.a l).b xs).run P w= .ok (.round (C.a l).b f tmps gH body) w/\
  o_ P (lone (Frame.round (C.a l).b f tmps gH body .normal) (c::cs) w) c cs C S w cr:=by
 unfold lO kT at h;split at h
 .next lp hl=>
  obtain⟨T,lY,h⟩:=Qa.1 h;obtain⟨hd,x,hx,hr⟩:=hS.a l _ hl;cases hr with
  | @O _ L hs hpd htr ti hasg cy=>
  obtain⟨hlen,hT⟩:=Ig lY htr ha;have hfold:(L.params.zip xs).foldl (fun tmps (p:Nat×Value)=>tmps.setIfInBounds p.1 p.2) L.tmps=(lp.params.zip xs.toList).foldl (fun t (p:Nat×Value)=>t.setIfInBounds p.1 p.2) L.tmps:=by
   rw[<-Array.foldl_toList,Array.toList_zip,ti]
  have X2:xs.size=L.params.size:=by
   have:L.params.size=lp.params.length:=by rw[<-ti];simp
   rw[this,hlen];simp
  refine⟨L.fn,(lp.params.zip xs.toList).foldl (fun t (p:Nat×Value)=>t.setIfInBounds p.1 p.2) L.tmps,lp.assign,lp.body,?_,?_⟩
  .simp only[Instr.yield,Sem.run_bind,EL hx,Result.andThen_ok,X2,ne_eq,not_true_eq_false,if_false,Sem.run_pure,<-hasg,<-cy];rw[<-hfold]
  .generalize (lp.params.zip xs.toList).foldl (fun t (p:Nat×Value)=>t.setIfInBounds p.1 p.2) L.tmps=tmps at hT;have mS:(Frame.round (C.a l).b L.fn tmps lp.assign lp.body .normal).kind= .normal:=rfl;have eO:(Frame.round (C.a l).b L.fn tmps lp.assign lp.body .normal).roundOf=some (C.a l).b:=rfl;have b8:Frame.round (C.a l).b L.fn tmps lp.assign lp.body .normal=Wi (Frame.round (C.a l).b L.fn tmps lp.assign lp.body .normal) ⟨tmps,[]⟩ [.code lp.assign,.beginRound,.code lp.body]:=rfl;generalize Frame.round (C.a l).b L.fn tmps lp.assign lp.body .normal=b at mS eO b8;have Ya:=gJ lp.assign C S w ⟨lp.nt,[],none,some l⟩ T b ⟨tmps,[]⟩ [.beginRound,.code lp.body] (c::cs) hg hT ⟨.O,.J (by simp[o8,tryRecover,mS]),.O hd eO⟩ hS;rw[<-b8]at Ya;generalize ev lp.assign ⟨lp.nt,[],none,some l⟩ T S=out at h Ya;unfold aj at h;split at h
   .next fr T1 s1=>
    obtain⟨r',dV,C1,a1,w1,cs1,t1,hT1,hF1,sk,hrd1,hcs1,hend1⟩:=Ya _ rfl;simp only[Qp]at dV;subst dV;have:=hcs1.g rfl;subst this;simp only at sk hrd1 hT1 hF1 t1 hend1 hcs1;unfold fP at h;split at h
    .next tD dC=>
     split at h
     .next XM=>
      obtain⟨fS,x1,hx1,hr1⟩:=t1.c.a l _ dC;cases hr1 with
      | @O _ L1 aq hpd1 htr1 hps1 hasg1 hbody1=>
      have uw:C1.a l=C.a l:=t1.a.a l hd;have hbegin:=TQ (P:=P) hx1 (by rw[aq,XM]);have t2:=CE.B t1.c dC (.O {tD with a:= .busy}) (.loop {L1 with state:= .busy}) (.O rfl hpd1 htr1 hps1 hasg1 hbody1);have jH:Steps P (lone b (c::cs) w) (lone (Wi b a1 [.code lp.body]) (c::cs) (e_.g w1 (C1.a l).b (.loop {L1 with state:= .busy}))):=
       Steps.trans hend1 (.one (s_begin (by rw[uw];exact eO) hbegin))
      have wX:=gJ lp.body C1 _ _ fr T1 b a1 [] (c::cs) (hg.mono t1.a) hT1 hF1 t2.c;generalize ev lp.body fr T1 (s1.z l (some (.O {tD with a:= .busy})))=out2 at h wX;unfold iT at h;split at h
      .next r=>
       split at h
       .next hdf=>
        obtain⟨r',dV,C2,a2,w2,ur,t3,uu,hF2,dx,hrd2,hcs2,ke⟩:=wX [r] rfl;simp only[Qp]at dV;subst dV;have hfp:fr.Xi=none:=by
         have:=hcs1;generalize fr.Xi=q at this;cases this with
         |J=>rfl
        have:=hcs2.g hfp;subst this;have t4:=(t1.u t2).u t3;have hpl2:C2.a l=C.a l:=t4.a.a l hd;have qu:a2.defers=[]:=by
         have:=hF2.d;rw[hdf]at this;cases hd:a2.defers with
         |nil=>rfl
         |cons x l=>rw[hd]at this;cases this
        unfold fO at h;split at h
        .next tE gK=>
         obtain⟨nd,x2,hx2,mR⟩:=t4.c.a l _ gK;cases mR with
         | @O _ L2 jm hpd2 htr2 hps2 hasg2 hbody2=>
         rw[hpl2]at hx2;have fin:∀(jump:Option Code) (go:Bool),jump.isNone=go->Steps P (lone b (c::cs) w) (lone (c.finish (.bool go)) cs (e_.g w2 (C.a l).b (.loop {L2 with state:=if jump.isNone then .ready else .done,pending:=jump})))->
          fe l r'.b tE jump go=some cr->o_ P (lone b (c::cs) w) c cs C S w cr:=by
          intro jump go hjg hsteps rF;unfold fe at rF;cases rF;have t5:=CE.B t4.c gK (.O {tE with a:=bif go then .ready else .done,b:=jump}) (.loop {L2 with state:=if jump.isNone then .ready else .done,pending:=jump})
           (.O (by rw[hjg];cases go<;>rfl) rfl htr2 hps2 hasg2 hbody2)
          rw[hpl2]at t5;exact⟨C2,_,_,hsteps,t4.u t5,.bool go⟩
         have wY:=fun jump=>N0 (P:=P) hx2 jump;cases hex:r'.c with
         |J=>
          rw[hex]at h ke;exact fin none true U (jH.trans (Steps.trans ke (.one (Sc mS eO (wY none))))) h
         |Y=>
          rw[hex]at h ke;obtain⟨k2,pR⟩:=ke;exact fin (some .ret) false U (jH.trans (pR.trans (.one (Sa mS eO (wY _))))) h
         |Z id=>
          rw[hex]at h ke;obtain⟨k2,pR,oG⟩:=ke;exact fin (some (.exit id)) false U (jH.trans (pR.trans (.one (Pp mS eO (by rw[oG];rfl) (wY _))))) h
         |O v=>
          rw[hex]at h ke;cases h;obtain⟨k2,x,pR,hv,hnc⟩:=ke;refine⟨C2,x,w2,jH.trans (pR.trans (.one ?_)),t4,hv⟩;have ea:({Wi b a2 k2 with mode:= .panicking [{v:=x,recovered:=false}]}:Frame)=CT b ⟨a2.tmps,[]⟩ k2 (.panicking [{v:=x,recovered:=false}]):=by
           simp[Wi,CT,qu]
          rw[ea];exact Nt hnc
        .cases h
       .cases h
      .cases h
     .cases h
    .cases h
   .cases h
 .cases h
theorem V9 (he:Wd E P) {ev:Ev} (gJ:lX E P ev) (Wv:ZB E P ev):ZC E P ev:=by
 intro g args cr C S w gx xs c cs h hg hv ha hS;unfold Xz at h;split at h
 .next f first cap=>
  cases hb:CV E f with
  |false=>rw[hb]at h;cases h
  |true=>
  rw[hb]at h;simp only[cond_true]at h;cases hv with
  |Z hf h1 h2=>
  rename_i fx cx
  left;refine⟨f,fx++xs++cx,?_,Wv f _ cr C S w _ c cs h hg (by simpa using(h1.u ha).u h2) hS⟩;simp only[Deferred.ofValue,Sem.run_bind,Sem.run_pure,Result.andThen_ok,invoke];exact DZ he hb _ w
 .next l=>
  cases hv with
  |Z hf _ _=>exact absurd rfl (hf l)
  |bW hd=>
  right;obtain⟨f,tmps,gH,body,CF,ZR⟩:=TT gJ h hg ha hS c cs;refine⟨_,f,tmps,gH,body,?_,ZR⟩;simp only[Deferred.ofValue,Sem.run_bind,Sem.run_pure,Result.andThen_ok,invoke,Array.empty_append];exact CF
 .next name first=>
  cases hv with
  |Z hf h1 h2=>
  rename_i fx cx
  have Zc:=h1.u ha;split at h
  .next r rest heq=>
   rw[heq]at Zc;obtain⟨p,hp,h⟩:=Qa.1 h;left;generalize hq:fx.toList++xs.toList=q at Zc;cases Zc with
   | @J _ _ x _ ys mQ dw=>
   obtain⟨zs,hz,hvz⟩:=GX he hS mQ dw hp;refine⟨p.1,zs,?_,Wv p.1 p.2 cr C S w zs c cs h hg hvz hS⟩;have wc:fx++xs=(x::ys).toArray:=by apply Array.ext';simp[hq]
   simp only[Deferred.ofValue,Sem.run_bind,Sem.run_pure,Result.andThen_ok,invoke,wc];have h0:(x::ys).toArray[0]?=some x:=by simp
   have h1:(x::ys).toArray.extract 1 (x::ys).toArray.size=ys.toArray:=by
    apply Array.ext';simp
   simp only[h0,h1];exact hz
  .cases h
 .cases h
end
section
variable {E : c_} {P : Program}
theorem Mi (f:FuncId) (tmps:Array Value) (params:Array Tmp) (gH body:Code) (w:World):
 (Instr.enterLoop f tmps params gH body none).run P w= .ok (w.heap.size+1,[{target:= .collected w.heap.size,args:= #[]}])
  (e_.u (e_.u w (.deferred (some []))) (.loop {state:= .ready,pending:=none,fn:=f,tmps,params,assign:=gH,body,defers:=w.heap.size})):=by
 simp[Instr.enterLoop,e_.u];rfl
theorem s_range {b:Frame} {a:Act} {k:List Item} {cs:List Frame} {w w':World} {f:Operand} {params:Array Tmp} {gH body:Code} {l:Nat} {mk:List Deferred} {g:FuncId} {ys:Array Value} (hr:b.roundOf=none)
 (h1:(Instr.enterLoop b.fn a.tmps params gH body none).run P w= .ok (l,mk) w')
 (h2:(do let d<-Deferred.ofValue (a.eval f) #[.func (.yield l) #[] #[]];invoke d.target d.args:Sem Next).run P w'= .ok (.enter g ys) w'):
 step P (lone (Wi b a (.code (.rangeFunc f params gH body)::k)) cs w)= .next (lone (Frame.enter P g ys .normal) (Wi b ⟨a.tmps,mk++a.defers⟩ (.inRangeFunc l::k)::cs) w'):=by
 refine step_lone_go ?_;have e1:=M9 b ⟨a.tmps,mk++a.defers⟩ (.inRangeFunc l::k);have e2:(⟨a.tmps,mk++a.defers⟩:Act).eval=a.eval:=by funext x;cases x<;>rfl
 rw[e2]at e1;simp only[Wi,hr]at e1;simp only[stepG,stepG.exec,Wi,hr,Sem.runT_eq,h1,GStep.bare_after,stepG.apply,resolve,e1];have e3:Array.map a.eval #[Operand.const (.func (.yield l) #[] #[])]= #[.func (.yield l) #[] #[]]:=by simp[Act.eval]
 simp only[e3,h2,if_true];rfl
theorem Ps {w:World} {l:Nat} {L:Loop} (h:w.heap[l]?=some (.loop L)) (hs:L.state≠ .busy):(Instr.endLoop l).run P w= .ok L.pending (e_.g w l (.loop {L with state:= .exhausted})):=by
 have hs':(L.state== .busy)=false:=by simpa using hs
 simp only[Instr.endLoop,Sem.run_bind,EL h,Result.andThen_ok,hs',Bool.false_eq_true,if_false,DA h (by simp),Sem.run_pure]
theorem Sd {b:Frame} {a:Act} {k:List Item} {cs:List Frame} {w w':World} {l:Nat} {jump:Option Code} (h:(Instr.endLoop l).run P w= .ok jump w'):
 step P (lone (Wi b a (.endRangeFunc l::k)) cs w)= .next (lone (Wi b a ((jump.map Item.code).toList++k)) cs w'):=
 step_lone_go (by simp[stepG,stepG.exec,Wi,h])
theorem Jh (b:Frame) (a:Act) (l:Nat) (k:List Item) (v:Value):(Wi b a (.inRangeFunc l::k)).finish v=Wi b a (.endRangeFunc l::k):=rfl
theorem Ji {l Cv:Nat} {fr cR:Fr} {T:Tr AV} {b:Frame} {a2:Act} {k:List Item} {cs:List Frame} {C3:Cx} {S3:St} {w3:World} {m:Machine} (hS:WW C3 S3 w3) (hF:o9 C3 cR b a2 cs) (hT:TR C3 cR.nt T a2.tmps)
 (Y1:(C3.a l).b=Cv) (hn:cR.nt=fr.nt) (hr:cR.a=fr.a) (hp:cR.Xi=fr.Xi) (XM:Steps P m (lone (Wi b a2 (.endRangeFunc Cv::k)) cs w3)):
 f_ P C3 S3 w3 fr b k cs m (YS l cR T S3 (S3.b.g l)):=by
 unfold YS;split
 .next lp hl=>
  obtain⟨hd,x,hx,hrr⟩:=hS.a _ _ hl;cases hrr with
  | @O _ L3 qz hpd3 htr3 hps3 hasg3 hbody3=>
  split
  .exact Aq
  .next wo=>
   have hnb':L3.state≠ .busy:=by rw[qz];exact fun h=>wo h
   have t4:=CE.B hS hl (.O {lp with a:= .exhausted}) (.loop {L3 with state:= .exhausted}) (.O rfl hpd3 htr3 hps3 hasg3 hbody3);rw[Y1]at hx t4;have YM:=Ps (P:=P) hx hnb';have jH:=XM.trans (.one (Sd (P:=P) (b:=b) (a:=a2) (k:=k) (cs:=cs) YM));refine Bp t4 ?_;have one:∀(e:Ex),B_ P b k cs C3 m e a2 (e_.g w3 Cv (.loop {L3 with state:= .exhausted}))->
    f_ P C3 (S3.z l (some (.O {lp with a:= .exhausted}))) (e_.g w3 Cv (.loop {L3 with state:= .exhausted})) fr b k cs m
     (.O ⟨e,cR,T,S3.z l (some (.O {lp with a:= .exhausted}))⟩):=by
    intro e he l hl;cases hl;refine⟨_,Qp.2 U,C3,_,_,cs,CE.g t4.c,hT,hF,hn,hr,?_,he⟩;show uU fr.Xi cR.Xi cs cs;rw[hp];exact .J
   have key:∀jump,lp.b=jump->Steps P m (lone (Wi b a2 ((jump.map Item.code).toList++k)) cs (e_.g w3 Cv (.loop {L3 with state:= .exhausted}))):=by
    intro jump hj;rw[<-hj,<-hpd3];exact jH
   unfold di;split
   .next hp=>exact one .J (key _ hp)
   .next hp=>exact one .Y ⟨k,key _ hp⟩
   .next id hp=>exact one (.Z id) ⟨k,key _ hp,rfl⟩
   .exact Aq
 .exact Aq
theorem N9 {l Cv:Nat} {fr cR:Fr} {T:Tr AV} {b:Frame} {a2:Act} {k:List Item} {cs:List Frame} {C2:Cx} {S2:St} {w2:World} {m:Machine} (hF:o9 C2 cR b a2 cs) (hT:TR C2 cR.nt T a2.tmps)
 (hd:C2.D l) (Y1:(C2.a l).b=Cv) (hn:cR.nt=fr.nt) (hr:cR.a=fr.a) (hp:cR.Xi=fr.Xi) {cr:CR} (h:o_ P m (Wi b a2 (.inRangeFunc Cv::k)) cs C2 S2 w2 cr):
 f_ P C2 S2 w2 fr b k cs m (X4 cR T S2 (fun _ s3=>YS l cR T s3 (s3.b.g l)) (some cr)):=by
 cases cr with
 |J v=>
  obtain⟨C3,x,w3,hs,t3,_⟩:=h;rw[Jh]at hs;exact Bp t3 (Ji t3.c (hF.g t3.a) (hT.mono t3.a) (by rw[t3.a.a _ hd];exact Y1) hn hr hp hs)
 |O v S3=>
  obtain⟨C3,x,w3,hs,t3,_⟩:=h;rw[Jh]at hs;exact Bp t3 (Ji t3.c (hF.g t3.a) (hT.mono t3.a) (by rw[t3.a.a _ hd];exact Y1) hn hr hp hs)
 |Y v S3=>
  obtain⟨C3,x,w3,hs,t3,aJ⟩:=h;rw[NA]at hs;refine Bp t3 ?_;intro l hl;cases hl;refine⟨_,Qp.2 U,C3,a2,w3,cs,CE.g t3.c,hT.mono t3.a,hF.g t3.a,hn,hr,?_,_,x,hs,aJ,by intro _ _ _ _ _ h;cases h⟩;show uU fr.Xi cR.Xi cs cs;rw[hp];exact .J
theorem N8 {C:Cx} {S:St} {w:World} (hS:WW C S w) {nt:Nat} {T:Tr AV} {a:Act} (hT:TR C nt T a.tmps) (fn:FuncId) (params:Array Tmp) (gH body:Code):
 ∃C2,CE C S w C2 ((S.g (.Z true)).g (.O {a:= .ready,b:=none,d:=0,nt:=nt,c:=T,params:=params.toList,assign:=gH,body}))
  (e_.u (e_.u w (.deferred (some []))) (.loop {state:= .ready,pending:=none,fn,tmps:=a.tmps,params,assign:=gH,body,defers:=w.heap.size}))/\
  C2.D S.a/\(C2.a S.a).b=w.heap.size/\C2.D (S.g (.Z true)).a/\(C2.a (S.g (.Z true)).a).b=w.heap.size+1:=by
 have t1:=CE.A hS (.Z true) (.deferred (some [])) 0 .Z;have hTr1:=hT.mono t1.a;have e2:=Hb t1.c 0;have t2:=CE.A t1.c (.O {a:= .ready,b:=none,d:=0,nt:=nt,c:=T,params:=params.toList,assign:=gH,body})
  (.loop {state:= .ready,pending:=none,fn,tmps:=a.tmps,params,assign:=gH,body,defers:=w.heap.size}) 0 (.O rfl rfl (hTr1.mono e2) rfl rfl rfl)
 refine⟨_,t1.u t2,.inl (.inr U),?_,.inr U,?_⟩
 .have:S.a≠(S.g (.Z true)).a:=by show S.a≠S.a+1;omega
  simp[Cx.A,this]
 .simp[Cx.A,e_.u]
theorem Ms (he:Wd E P) {ev:Ev} (Wv:ZB E P ev) {f:Operand} {params:Array Tmp} {gH body:Code}:
 YV E P (.rangeFunc f params gH body) (fun fr T s=>dj E ev params.toList gH body fr T s (Ci E f T)):=by
 intro C S w fr T b a k cs hg hT hF hS;show f_ P C S w fr b k cs _ (dj E ev params.toList gH body fr T S (Ci E f T));cases hof:Ci E f T with
 |none=>exact Aq
 |some v=>
 have hTa:TR C a.tmps.size T a.tmps:=⟨rfl,hT.2⟩
 have hv:=Al hg hTa hof;unfold dj j9;simp only;split
 .next g first cap=>
  obtain⟨nt,defers,Xi,round⟩:=fr;cases round with
  |some l=>exact Aq
  |none=>
  simp only;have eO:b.roundOf=none:=by have:=hF.c;cases this with|J h=>exact h
  cases hb:CV E g with
  |false=>exact Aq
  |true=>
  simp only[cond_true];generalize hq:a.eval f=q at hv;cases hv with
  |Z qM h1 h2=>
  rename_i fx cx
  obtain⟨C2,t12,hD0,hpl0,hD1,uw⟩:=N8 hS hT b.fn params gH body;have hlen:=Mi (P:=P) b.fn a.tmps params gH body w;generalize (S.g (.Z true)).a=l at hD1 uw|-;generalize e_.u (e_.u w (.deferred (some []))) (.loop {state:= .ready,pending:=none,fn:=b.fn,tmps:=a.tmps,params,assign:=gH,body,defers:=w.heap.size})=w2 at t12 hlen;generalize (S.g (.Z true)).g (.O {a:= .ready,b:=none,d:=0,nt:=nt,c:=T,params:=params.toList,assign:=gH,body})=S2 at t12|-;generalize w.heap.size+1=Cv at uw hlen;have hyield:VR C2 (.an (.yield l) [] []) (.func (.yield Cv) #[] #[]):=by
   have:=VR.bW (C:=C2) hD1;rw[uw]at this;exact this
  have Xx:Wx C2 (first++[.an (.yield l) [] []]++cap) (fx++ #[Value.func (.yield Cv) #[] #[]]++cx).toList:=by
   simpa using((h1.z t12.a).u (.A hyield)).u (h2.z t12.a)
  have hinv:(do let d<-Deferred.ofValue (a.eval f) #[Value.func (.yield Cv) #[] #[]];invoke d.target d.args:Sem Next).run P w2= .ok (.enter g (fx++ #[Value.func (.yield Cv) #[] #[]]++cx)) w2:=by
   rw[hq];simp only[Deferred.ofValue,Sem.run_bind,Sem.run_pure,Result.andThen_ok,invoke];exact DZ he hb _ w2
  have W7:=s_range (P:=P) (b:=b) (a:=a) (k:=k) (cs:=cs) (f:=f) eO hlen hinv;have hF2:o9 C2 ⟨nt, {a:= .J S.a,args:=[]}::defers,Xi,none⟩ b ⟨a.tmps,[{target:= .collected w.heap.size,args:= #[]}]++a.defers⟩ cs:=by
   refine⟨.J ?_ (hF.d.g t12.a),(hF.g t12.a).e,(hF.g t12.a).c⟩;have:=qH.J (C:=C2) hD0;rw[hpl0]at this;exact this
  cases nk:WM E ev g (first++[.an (.yield l) [] []]++cap) S2 with
  |none=>exact Aq
  |some cr=>
   have ZR:=Wv g _ cr C2 S2 w2 _ (Wi b ⟨a.tmps,[{target:= .collected w.heap.size,args:= #[]}]++a.defers⟩ (.inRangeFunc Cv::k)) cs nk (hg.mono t12.a) Xx t12.c;exact Bp t12 (f_.steps (.one W7) (N9 hF2 (hT.mono t12.a) hD1 uw U U U ZR))
 .exact Aq
end
def pV (E:c_) (P:Program):Prop:=
 ∀(ev:Ev),ZB E P ev->ZC E P ev->∀(id:Nat) (ops:Array Oper),YV E P (.region id ops true) ((pI E ops.toList true).run ev)
section
variable {E : c_} {P : Program}
theorem F7 (he:Wd E P) (hx:ZW E P) (hd:pV E P) {ev:Ev} (gJ:lX E P ev) (Wv:ZB E P ev) (WJ:ZC E P ev):∀c,YV E P c ((Yr E c).run ev)
 | .skip=>Uu fun _ _ _ _ _=>s_skip
 | .label _=>Uu fun _ _ _ _ _=>s_label
 | .region id ops true=>hd ev Wv WJ id ops
 | .region id ops false=>Ul he hx Wv WJ
 | .seq a b=>ok_seq (F7 he hx hd gJ Wv WJ a) (F7 he hx hd gJ Wv WJ b)
 | .cond _ a b=>ok_cond (F7 he hx hd gJ Wv WJ a) (F7 he hx hd gJ Wv WJ b)
 | .block _ body=>wN (F7 he hx hd gJ Wv WJ body)
 | .loop body=>ok_loop (F7 he hx hd gJ Wv WJ body) (gJ (.loop body))
 | .scope body=>wO (F7 he hx hd gJ Wv WJ body)
 | .exit _=>ok_exit
 | .ret=>ok_ret
 | .rangeFunc _ _ _ _=>Ms he Wv
 | .goto _=>Mr
 | .refuse _=>Mr
theorem tF (he:Wd E P) (hx:ZW E P) (hd:pV E P) (jZ:fu E P) (fy:E.c=true->∀ev,lX E P ev->lb E P ev):∀n,lX E P (ev E n)
 |0=>fun _=>Mr
 |n+1=>fun c=>by
  have ih:=tF he hx hd jZ fy n;have Wv:=Rz he jZ ih (fun h=>fy h _ ih);exact F7 he hx hd ih Wv (V9 he ih Wv) c
theorem Qs (he:Wd E P) (hx:ZW E P) (hd:pV E P) (jZ:fu E P) (fy:E.c=true->∀ev,lX E P ev->lb E P ev) (n:Nat):ZB E P (ev E n):=
 Rz he jZ (tF he hx hd jZ fy n) (fun h=>fy h _ (tF he hx hd jZ fy n))
end
end Am
