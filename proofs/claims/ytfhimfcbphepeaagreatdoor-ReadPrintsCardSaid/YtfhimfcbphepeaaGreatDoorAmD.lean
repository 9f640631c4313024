/- The abstract machine: its control and its calls are the model's. -/
import Derived.Test.YtfhimfcbphepeaaGreatDoorAmC
import Derived.Calls
import Derived.Lib.UnsafeStr
import Derived.Lib.Bytealg
import Derived.Laws.Externs
import Derived.Laws.AppendOwn
import Derived.KernelRfl
set_option linter.unusedSectionVars false
set_option linter.unusedVariables false
set_option linter.unusedSimpArgs false
namespace Am
open Go
def Yo (b:Frame) (a:Act) (todo:List Item):Frame:= {fn:=b.fn,tmps:=a.tmps,todo,defers:=a.defers,mode:= .run,kind:=b.kind,roundOf:=b.roundOf}
theorem N7 (b:Frame) (a:Act) (todo:List Item):(Yo b a todo).eval=a.eval:=by
 funext x;cases x<;>rfl
section
variable {P : Program} {b : Frame} {a : Act} {k : List Item} {cs : List Frame} {w : World}
theorem s_skip:step P (lone (Yo b a (.code .skip::k)) cs w)= .next (lone (Yo b a k) cs w):=step_lone_go (by simp[stepG,stepG.exec,Yo])
theorem s_label {l:Nat}:step P (lone (Yo b a (.code (.label l)::k)) cs w)= .next (lone (Yo b a k) cs w):=step_lone_go (by simp[stepG,stepG.exec,Yo])
theorem VH {id:Nat}:step P (lone (Yo b a (.inBlock id::k)) cs w)= .next (lone (Yo b a k) cs w):=step_lone_go (by simp[stepG,stepG.exec,Yo])
theorem VG {c:Code}:step P (lone (Yo b a (.inScope c::k)) cs w)= .next (lone (Yo b a k) cs w):=step_lone_go (by simp[stepG,stepG.exec,Yo])
theorem s_seq {x y:Code}:step P (lone (Yo b a (.code (.seq x y)::k)) cs w)= .next (lone (Yo b a (.code x:: .code y::k)) cs w):=step_lone_go (by simp[stepG,stepG.exec,Yo])
theorem s_cond {c:Operand} {x y:Code} {t:Bool} (h:a.eval c= .bool t):
 step P (lone (Yo b a (.code (.cond c x y)::k)) cs w)= .next (lone (Yo b a (.code (if t then x else y)::k)) cs w):=
 step_lone_go (by
  have:=congrFun (N7 b a (.code (.cond c x y)::k)) c;simp only[Yo]at this;simp[stepG,stepG.exec,Yo,this,h])
theorem s_block {id:Nat} {c:Code}:step P (lone (Yo b a (.code (.block id c)::k)) cs w)= .next (lone (Yo b a (.code c:: .inBlock id::k)) cs w):=step_lone_go (by simp[stepG,stepG.exec,Yo])
theorem zm {c:Code}:step P (lone (Yo b a (.code (.loop c)::k)) cs w)= .next (lone (Yo b a (.code c:: .inLoop c::k)) cs w):=step_lone_go (by simp[stepG,stepG.exec,Yo])
theorem zn {c:Code}:step P (lone (Yo b a (.inLoop c::k)) cs w)= .next (lone (Yo b a (.code c:: .inLoop c::k)) cs w):=step_lone_go (by simp[stepG,stepG.exec,Yo])
theorem s_scope {c:Code}:step P (lone (Yo b a (.code (.scope c)::k)) cs w)= .next (lone (Yo b a (.code c:: .inScope c::k)) cs w):=step_lone_go (by simp[stepG,stepG.exec,Yo])
theorem s_exit {id:Nat} {k':List Item} (h:exitTo id k=some k'):step P (lone (Yo b a (.code (.exit id)::k)) cs w)= .next (lone (Yo b a k') cs w):=
 step_lone_go (by simp[stepG,stepG.exec,Yo,h])
theorem zo {id:Nat} {ops:Array Oper}:step P (lone (Yo b a (.code (.region id ops false)::k)) cs w)= .next (lone (Yo b a (.inRegion ops (List.range ops.size)::k)) cs w):=
 step_lone_go (by simp[stepG,stepG.exec,Yo])
theorem Hu {id:Nat} {ops:Array Oper}:step P (lone (Yo b a (.code (.region id ops true)::k)) cs w)=
 .next (lone (Yo b a (.inRegion ops (Region.schedule (P.follows .mixedOrders) ops (w.tape w.drawn (.order b.fn id)))::k)) cs {w with drawn:=w.drawn+1}):=
 step_lone_go (by simp[stepG,stepG.exec,Yo,choose,Sem.run,Question.forced,Question.cut])
theorem IF {ops:Array Oper}:step P (lone (Yo b a (.inRegion ops []::k)) cs w)= .next (lone (Yo b a k) cs w):=step_lone_go (by simp[stepG,stepG.exec,Yo])
theorem Dp (b:Frame) (a:Act) (ops:Array Oper) (i:Nat) (rest:List Nat) (k:List Item) (v:Value):
 (Yo b a (.inRegion ops (i::rest)::k)).finish v=Yo b (a.put ((ops[i]?).bind (·.dst)) v) (.inRegion ops rest::k):=by
 cases h:(ops[i]?).bind (·.dst)<;>simp[Frame.finish,Yo,Act.put,h]
theorem Ox {ops:Array Oper} {i:Nat} {rest:List Nat} (h:((ops[i]?).map (Region.wanted · (yielded ops a.tmps))).getD false=false):
 step P (lone (Yo b a (.inRegion ops (i::rest)::k)) cs w)= .next (lone (Yo b (a.put ((ops[i]?).bind (·.dst)) undef) (.inRegion ops rest::k)) cs w):=by
 rw[<-Dp];exact step_lone_go (by
  have h':=h;simp only[Yo]at*;simp[stepG,stepG.exec,h'])
theorem tN {ops:Array Oper} {i:Nat} {rest:List Nat} {o:Oper} (ho:ops[i]?=some o) (hw:Region.wanted o (yielded ops a.tmps)=true) (hr:b.roundOf=none\/∀c,o.op≠ .defer c):
 stepG P true {frame:=Yo b a (.inRegion ops (i::rest)::k),callers:=cs,status:= .running,dying:=none} w=
  stepG.apply P true (Yo b a (.inRegion ops (i::rest)::k)) cs none (execOp a.eval o) w:=by
 have he:=N7 b a (.inRegion ops (i::rest)::k);simp only[Yo]at he;rcases hr with hr|hr
 .rw[hr]at he;simp[stepG,stepG.exec,stepG.oper,Frame.oper?,Yo,ho,hw,he,hr]
 .simp only[stepG,stepG.exec,stepG.oper,Frame.oper?,Yo,ho,hw,he];cases hro:b.roundOf with
  |none=>simp[hw]
  |some l=>
   rw[hro]at he;cases aY:o.op<;>first|exact absurd aY (hr _)|simp[hw,he]
section op
variable {ops : Array Oper} {i : Nat} {rest : List Nat} {o : Oper} {w' : World} (ho : ops[i]? = some o) (hw : Region.wanted o (yielded ops a.tmps) = true) (hr : b.roundOf = none \/ ∀ c, o.op ≠ .defer c)
include ho hw hr
theorem BF {v:Value} (h:(execOp a.eval o).run P w= .ok (.value v) w'):
 step P (lone (Yo b a (.inRegion ops (i::rest)::k)) cs w)= .next (lone (Yo b (a.put o.dst v) (.inRegion ops rest::k)) cs w'):=by
 have cn:=Dp b a ops i rest k v;rw[ho]at cn;refine step_lone_go ?_;rw[tN ho hw hr];simp only[Qe]at cn;rw[<-cn];simp[stepG.apply,h]
theorem Oy (h:(execOp a.eval o).run P w= .ok .skip w'):
 step P (lone (Yo b a (.inRegion ops (i::rest)::k)) cs w)= .next (lone (Yo b (a.put o.dst undef) (.inRegion ops rest::k)) cs w'):=by
 have cn:=Dp b a ops i rest k undef;rw[ho]at cn;refine step_lone_go ?_;rw[tN ho hw hr];simp only[Qe]at cn;rw[<-cn];simp[stepG.apply,h]
theorem Ig {f:FuncId} {args:Array Value} (h:(execOp a.eval o).run P w= .ok (.enter f args) w'):
 step P (lone (Yo b a (.inRegion ops (i::rest)::k)) cs w)= .next (lone (Frame.enter P f args .normal) (Yo b a (.inRegion ops (i::rest)::k)::cs) w'):=by
 refine step_lone_go ?_;rw[tN ho hw hr];simp[stepG.apply,h,Yo]
theorem QS {l:Nat} {f:FuncId} {tmps:Array Value} {ld body:Code} (h:(execOp a.eval o).run P w= .ok (.round l f tmps ld body) w'):
 step P (lone (Yo b a (.inRegion ops (i::rest)::k)) cs w)= .next (lone (Frame.round l f tmps ld body .normal) (Yo b a (.inRegion ops (i::rest)::k)::cs) w'):=by
 refine step_lone_go ?_;rw[tN ho hw hr];simp[stepG.apply,h,Yo]
theorem s_defer {d:Deferred} (h:(execOp a.eval o).run P w= .ok (.defer d) w'):
 step P (lone (Yo b a (.inRegion ops (i::rest)::k)) cs w)= .next (lone (Yo b ({a with defers:=d::a.defers}.put o.dst undef) (.inRegion ops rest::k)) cs w'):=by
 have cn:=Dp b {a with defers:=d::a.defers} ops i rest k undef;rw[ho]at cn;simp only[Qe]at cn;refine step_lone_go ?_;rw[tN ho hw hr,<-cn];simp[stepG.apply,h,Yo]
theorem s_panic {v:Value} (h:(execOp a.eval o).run P w= .halt (.panic v) w'):
 step P (lone (Yo b a (.inRegion ops (i::rest)::k)) cs w)=
  .next (lone {Yo b a (.inRegion ops (i::rest)::k)with mode:= .panicking [{v,recovered:=false}]} cs w'):=by
 refine step_lone_go ?_;rw[tN ho hw hr];simp[stepG.apply,h,Yo,Frame.raise]
theorem Ll (h:(execOp a.eval o).run P w= .ok .recover w') (hro:b.roundOf=none) (ht:tryRecover (Yo b a (.inRegion ops (i::rest)::k)) cs=none):
 step P (lone (Yo b a (.inRegion ops (i::rest)::k)) cs w)= .next (lone (Yo b (a.put o.dst .nilIface) (.inRegion ops rest::k)) cs w'):=by
 have cn:=Dp b a ops i rest k .nilIface;rw[ho]at cn;simp only[Qe]at cn;refine step_lone_go ?_;rw[tN ho hw hr,<-cn];have:(Yo b a (.inRegion ops (i::rest)::k)).roundOf=none:=hro;simp[stepG.apply,h,this,ht]
theorem Lj {v:Value} {bq:List Frame} (h:(execOp a.eval o).run P w= .ok .recover w') (hro:b.roundOf=none) (ht:tryRecover (Yo b a (.inRegion ops (i::rest)::k)) cs=some (v,bq)):
 step P (lone (Yo b a (.inRegion ops (i::rest)::k)) cs w)= .next (lone (Yo b (a.put o.dst v) (.inRegion ops rest::k)) bq w'):=by
 have cn:=Dp b a ops i rest k v;rw[ho]at cn;simp only[Qe]at cn;refine step_lone_go ?_;rw[tN ho hw hr,<-cn];have:(Yo b a (.inRegion ops (i::rest)::k)).roundOf=none:=hro;simp[stepG.apply,h,this,ht]
end op
end
def rp (b:Frame) (cs:List Frame):Prop:=tryRecover b cs=none
def mark:List Frame->List Frame
 |c::rest=> {c with mode:=match c.mode with| .panicking (e::l)=> .panicking ({e with recovered:=true}::l)|m=>m}::rest
 | []=>[]
inductive oz (C:Cx):List kJ->List Deferred->Prop where
 |O:oz C [] []
 |J {d:kJ} {x:Deferred} {l:List kJ} {r:List Deferred} (h:tH C d x) (t:oz C l r):oz C (d::l) (x::r)
theorem tH.mono {C C':Cx} (e:n_ C C') {d:kJ} {x:Deferred} (h:tH C d x):tH C' d x:=by
 cases h with
 |fn hf ha hb=>exact .fn hf (ha.mono e) (hb.mono e)
 |J hd=>rw[<-e.a _ hd];exact .J (e.D _ hd)
theorem oz.mono {C C':Cx} (e:n_ C C') {d:List kJ} {x:List Deferred} (h:oz C d x):oz C' d x:=by
 induction h with
 |O=>exact .O
 |J h _ ih=>exact .J (h.mono e) ih
inductive zp (C:Cx) (b:Frame) (cs:List Frame):Option AV->Prop where
 |none (h:rp b cs):zp C b cs none
 |some {v:AV} {x:Value} {c:Frame} {rest:List Frame} (hk:b.kind= .deferred) (YO:cs=c::rest) (hm:c.mode= .panicking [{v:=x,recovered:=false}]) (hv:VR C v x):zp C b cs (some v)
inductive uQ (C:Cx) (b:Frame):Option Nat->Prop where
 |none (h:b.roundOf=none):uQ C b none
 |some {l:Nat} (hd:C.D l) (h:b.roundOf=some (C.a l).Cr):uQ C b (some l)
structure rq (C:Cx) (fr:Fr) (b:Frame) (a:Act) (cs:List Frame):Prop where
 d:oz C fr.defers a.defers
 e:zp C b cs fr.Zv
 c:uQ C b fr.a
theorem rq.mono {C C':Cx} (e:n_ C C') {fr:Fr} {b:Frame} {a:Act} {cs:List Frame} (h:rq C fr b a cs):rq C' fr b a cs:=by
 refine⟨h.d.mono e,?_,?_⟩
 .have:=h.e;generalize fr.Zv=p at this;cases this with
  |none h=>exact .none h
  |some hk YO hm hv=>exact .some hk YO hm (hv.mono e)
 .have:=h.c;generalize fr.a=p at this;cases this with
  |none h=>exact .none h
  |some hd h=>exact .some (e.D _ hd) (by rw[h,e.a _ hd])
inductive xK:Option AV->Option AV->List Frame->List Frame->Prop where
 |same {p:Option AV} {cs:List Frame}:xK p p cs cs
 |J {v:AV} {cs:List Frame}:xK (some v) none cs (mark cs)
theorem xK.trans {p q r:Option AV} {a b c:List Frame} (h:xK p q a b) (g:xK q r b c):xK p r a c:=by
 cases h with
 |same=>exact g
 |J=>
  generalize hq:(none:Option AV)=q' at g;cases g with
  |same=>subst hq;exact .J
  |J=>cases hq
def sh (k:List Item):Prop:=∀d wr r s k',k≠ .call d wr r s::k'
def E' (P:Program) (b:Frame) (k:List Item) (cs:List Frame) (C:Cx) (m:Machine):Ex->Act->World->Prop
 | .J,a,w=>Steps P m (lone (Yo b a k) cs w)
 | .G' id,a,w=>∃k2,Steps P m (lone (Yo b a (.code (.exit id)::k2)) cs w)/\exitTo id k2=exitTo id k
 | .Z,a,w=>∃k2,Steps P m (lone (Yo b a (.code .ret::k2)) cs w)
 | .O v,a,w=>∃k2 x,Steps P m (lone {Yo b a k2 with mode:= .panicking [{v:=x,recovered:=false}]} cs w)/\VR C v x/\sh k2
theorem E'.steps {P:Program} {b:Frame} {k:List Item} {cs:List Frame} {C:Cx} {m m':Machine} (hs:Steps P m m') {e:Ex} {a:Act} {w:World} (h:E' P b k cs C m' e a w):E' P b k cs C m e a w:=by
 cases e with
 |J=>exact hs.trans h
 |G' id=>obtain⟨k2,h1,h2⟩:=h;exact⟨k2,hs.trans h1,h2⟩
 |Z=>obtain⟨k2,h1⟩:=h;exact⟨k2,hs.trans h1⟩
 |O v=>obtain⟨k2,x,h1,h2⟩:=h;exact⟨k2,x,hs.trans h1,h2⟩
def nN:f_->Option (List dJ)
 | .J=>none
 | .one r=>some [r]
 | .O l=>some l
def g_ (P:Program) (C:Cx) (S:St) (w:World) (fr:Fr) (b:Frame) (k:List Item) (cs:List Frame) (m:Machine) (out:f_):Prop:=
 ∀l,nN out=some l->∃r∈l,∃C' a' w' bq,C6 C S w C' r.a w'/\TR C' r.b.nt r.T a'.tmps/\rq C' r.b b a' bq/\r.b.nt=fr.nt/\r.b.a=fr.a/\
  xK fr.Zv r.b.Zv cs bq/\E' P b k bq C' m r.c a' w'
theorem Ay {P:Program} {C:Cx} {S:St} {w:World} {fr:Fr} {b:Frame} {k:List Item} {cs:List Frame} {m:Machine}:g_ P C S w fr b k cs m .J:=fun _ h=>by cases h
theorem g_.steps {P:Program} {C:Cx} {S:St} {w:World} {fr:Fr} {b:Frame} {k:List Item} {cs:List Frame} {m m':Machine} {out:f_} (hs:Steps P m m') (h:g_ P C S w fr b k cs m' out):
 g_ P C S w fr b k cs m out:=fun l hl=>
 let⟨r,hr,C',a',w',bq,h1,h2,h3,h4,h5,h6,h7⟩:=h l hl;⟨r,hr,C',a',w',bq,h1,h2,h3,h4,h5,h6,h7.steps hs⟩
def bU (E:a_) (P:Program) (c:Code) (run:yh):Prop:=
 ∀(C:Cx) (S:St) (w:World) (fr:Fr) (T:Tr AV) (b:Frame) (a:Act) (k:List Item) (cs:List Frame),YV E C->TR C fr.nt T a.tmps->rq C fr b a cs->YR C S w->
  g_ P C S w fr b k cs (lone (Yo b a (.code c::k)) cs w) (run fr T S)
theorem FO {k:dJ->f_}:∀ {l:List dJ} {y:List dJ},f_.B k l=some y->∀r∈l,∃l',nN (k r)=some l'/\∀x∈l',x∈y
 |a::l,y,h,r,hr=>by
  simp only[f_.B]at h;cases ha:k a with
  |J=>rw[ha]at h;cases h
  |one x=>
   rw[ha]at h;cases hj:f_.B k l with
   |none=>rw[hj]at h;cases h
   |some z=>
    rw[hj]at h;cases h;rcases Qk.1 hr with rfl|hr
    .exact⟨[x],by rw[ha];rfl,fun q hq=>by simp at hq;subst hq;exact Qh ..⟩
    .obtain⟨l',h1,h2⟩:=FO hj r hr;exact⟨l',h1,fun q hq=>Qg _ (h2 q hq)⟩
  |O xs=>
   rw[ha]at h;cases hj:f_.B k l with
   |none=>rw[hj]at h;cases h
   |some z=>
    rw[hj]at h;cases h;rcases Qk.1 hr with rfl|hr
    .exact⟨xs,by rw[ha];rfl,fun q hq=>List.mem_append_left _ hq⟩
    .obtain⟨l',h1,h2⟩:=FO hj r hr;exact⟨l',h1,fun q hq=>List.mem_append_right _ (h2 q hq)⟩
theorem Vs {o:f_} {k:dJ->f_} {l:List dJ} (h:nN (o.u k)=some l):∃l0,nN o=some l0/\∀r∈l0,∃l',nN (k r)=some l'/\∀x∈l',x∈l:=by
 cases o with
 |J=>cases h
 |one r=>exact⟨[r],rfl,fun q hq=>by simp at hq;subst hq;exact⟨l,h,fun x hx=>hx⟩⟩
 |O xs=>
  refine⟨xs,U,?_⟩;unfold f_.u at h;simp only at h;cases hj:f_.B k xs with
  |none=>rw[hj]at h;cases h
  |some y=>grind [f_.A,nN,FO]
theorem g_.then {E:a_} {P:Program} {C:Cx} {S:St} {w:World} {fr:Fr} {b:Frame} {k k0:List Item} {cs:List Frame} {m:Machine} {out:f_} {kf:dJ->f_} (hg:YV E C)
 (h:g_ P C S w fr b k0 cs m out)
 (hk:∀(r:dJ) (C':Cx) (a':Act) (w':World) (bq:List Frame) (m':Machine),YV E C'->YR C' r.a w'->TR C' r.b.nt r.T a'.tmps->rq C' r.b b a' bq->E' P b k0 bq C' m' r.c a' w'->
  g_ P C' r.a w' r.b b k bq m' (kf r)):g_ P C S w fr b k cs m (out.u kf):=by
 intro l hl;obtain⟨l0,h0,h1⟩:=Vs hl;obtain⟨r,hr,C',a',w',bq,t,hT,hF,hn,nO,YO,he⟩:=h l0 h0;obtain⟨l',ck,et⟩:=h1 r hr;obtain⟨r2,tO,C2,a2,w2,cs2,t2,hT2,hF2,kP,hrd2,hcs2,he2⟩:=hk r C' a' w' bq m (hg.mono t.a) t.c hT hF he l' ck;exact⟨r2,et r2 tO,C2,a2,w2,cs2,t.trans t2,hT2,hF2,kP.trans hn,hrd2.trans nO,YO.trans hcs2,he2⟩
theorem BS {P:Program} {C:Cx} {r:dJ} {w:World} {b:Frame} {a:Act} {k:List Item} {cs:List Frame} {m:Machine} (hS:YR C r.a w) (hT:TR C r.b.nt r.T a.tmps) (hF:rq C r.b b a cs)
 (he:E' P b k cs C m r.c a w):g_ P C r.a w r.b b k cs m (.one r):=by
 intro l hl;cases hl;exact⟨r,Qp.2 U,C,a,w,cs,C6.u hS,hT,hF,U,U,.same,he⟩
section
variable {E : a_} {P : Program}
def pU (E:a_) (P:Program) (ev:Ev):Prop:=∀c,bU E P c (ev c)
theorem Wq {ev:Ev} {c:Code} (h:∀(b:Frame) (a:Act) (k:List Item) (cs:List Frame) (w:World),step P (lone (Yo b a (.code c::k)) cs w)= .next (lone (Yo b a k) cs w)):bU E P c (vA.run ev):=by
 intro C S w fr T b a k cs hg hT hF hS;exact BS (r:=⟨.J,fr,T,S⟩) hS hT hF (.one (h b a k cs w))
theorem PB {x:Item} (h:∀id,x≠ .inBlock id) (id:Nat) (k:List Item):exitTo id (x::k)=exitTo id k:=by
 cases x<;>first|rfl|exact absurd rfl (h _)
theorem Lf {b:Frame} {x:Item} {k:List Item} {cs:List Frame} {C:Cx} {m:Machine} {e:Ex} {a:Act} {w:World} (hx:∀id,x≠ .inBlock id) (hn:e≠ .J)
 (h:E' P b (x::k) cs C m e a w):E' P b k cs C m e a w:=by
 cases e with
 |J=>exact absurd rfl hn
 |G' id=>obtain⟨k2,h1,h2⟩:=h;exact⟨k2,h1,by rw[h2,PB hx]⟩
 |Z=>exact h
 |O v=>exact h
theorem ok_seq {x y:Code} {ka kb:yh} (ha:bU E P x ka) (hb:bU E P y kb):bU E P (.seq x y) (fun fr T s=>(ka fr T s).u (oP kb)):=by
 intro C S w fr T b a k cs hg hT hF hS;refine g_.steps (.one s_seq) (g_.then hg (ha C S w fr T b a (.code y::k) cs hg hT hF hS) ?_);intro r C' a' w' bq m' jd yT dU zq he;unfold oP;split
 .next h=>
  rw[h]at he;exact g_.steps he (hb C' r.a w' r.b r.T b a' k bq jd dU zq yT)
 .grind [BS,Lf]
theorem ok_cond {x:Operand} {c d:Code} {ka kb:yh} (ha:bU E P c ka) (hb:bU E P d kb):bU E P (.cond x c d) (fun fr T s=>kt ka kb fr T s (Ch E x T)):=by
 intro C S w fr T b a k cs hg hT hF hS;show g_ P C S w fr b k cs _ (kt ka kb fr T S (Ch E x T));unfold kt;split
 .next t hx=>
  have hTa:TR C a.tmps.size T a.tmps:=⟨rfl,hT.2⟩
  have hv:=An hg hTa hx;generalize hq:a.eval x=q at hv;cases hv;have hs:=s_cond (P:=P) (b:=b) (k:=k) (cs:=cs) (w:=w) (x:=c) (y:=d) hq;cases t with
  |true=>exact g_.steps (.one hs) (ha C S w fr T b a k cs hg hT hF hS)
  |false=>exact g_.steps (.one hs) (hb C S w fr T b a k cs hg hT hF hS)
 .exact Ay
theorem zr {id:Nat} {c:Code} {ka:yh} (ha:bU E P c ka):bU E P (.block id c) (fun fr T s=>(ka fr T s).u (fA id)):=by
 intro C S w fr T b a k cs hg hT hF hS;refine g_.steps (.one s_block) (g_.then hg (ha C S w fr T b a (.inBlock id::k) cs hg hT hF hS) ?_);intro r C' a' w' bq m' jd yT dU zq he;obtain⟨ex,ZN,T',Zy⟩:=r;unfold fA;cases ex with
 |G' i=>
  obtain⟨k2,h1,h2⟩:=he;simp only;cases hi:Nat.beq i id with
  |true=>
   have:=Qb hi;subst this;simp only[cond_true];have hk:exitTo i k2=some k:=by rw[h2];simp[exitTo]
   exact BS (r:=⟨.J,ZN,T',Zy⟩) yT dU zq (h1.trans (.one (s_exit hk)))
  |false=>
   have ZT:=Nat.ne_of_beq_eq_false hi;simp only[cond_false];refine BS (r:=⟨.G' i,ZN,T',Zy⟩) yT dU zq ⟨k2,h1,?_⟩;rw[h2];have:(id==i)=false:=by simp;exact fun h=>ZT h.symm
   simp[exitTo,this]
 |J=>exact BS (r:=⟨.J,ZN,T',Zy⟩) yT dU zq (Steps.trans he (.one VH))
 |Z=>exact BS (r:=⟨.Z,ZN,T',Zy⟩) yT dU zq he
 |O v=>exact BS (r:=⟨.O v,ZN,T',Zy⟩) yT dU zq he
theorem zt {c:Code} {ka:yh} (ha:bU E P c ka):bU E P (.scope c) ka:=by
 intro C S w fr T b a k cs hg hT hF hS l hl;obtain⟨r,hr,C',a',w',bq,t,h2,h3,h4,h5,h6,he⟩:=ha C S w fr T b a (.inScope c::k) cs hg hT hF hS l hl;refine⟨r,hr,C',a',w',bq,t,h2,h3,h4,h5,h6,E'.steps (.one s_scope) ?_⟩;by_cases hn:r.c= .J
 .rw[hn]at he|-;exact Steps.trans he (.one VG)
 .grind [Lf]
theorem Gx {f g:Frame} {cs bq:List Frame} {w w':World} (h:lone f cs w=lone g bq w'):f=g:=by
 have:=congrArg Machine.gs h;simp[lone]at this;exact this.1
theorem GJ {m m' m'':Machine} (h:Steps P m m'') (ZT:m≠m'') (he:step P m=step P m'):Steps P m' m'':=by
 obtain⟨n,hn⟩:=h;cases n with
 |zero=>exact absurd (by simpa[runN]using hn) ZT
 |succ n=>
  refine⟨n+1,?_⟩;unfold runN at hn|-;rw[<-he];exact hn
theorem RR {C:Cx} {S:St} {w:World} {fr:Fr} {b:Frame} {a:Act} {c:Code} {k:List Item} {cs:List Frame} {out:f_}
 (h:g_ P C S w fr b k cs (lone (Yo b a (.code (.loop c)::k)) cs w) out):g_ P C S w fr b k cs (lone (Yo b a (.inLoop c::k)) cs w) out:=by
 have Zc:step P (lone (Yo b a (.code (.loop c)::k)) cs w)=step P (lone (Yo b a (.inLoop c::k)) cs w):=zm.trans zn.symm;intro l hl;obtain⟨r,hr,C',a',w',bq,t,h2,h3,h4,h5,h6,he⟩:=h l hl;refine⟨r,hr,C',a',w',bq,t,h2,h3,h4,h5,h6,?_⟩;generalize r.c=e at he;cases e with
 |J=>
  refine GJ he (fun hm=>?_) Zc;have:=congrArg Frame.todo (Gx hm);have:=congrArg List.length this;simp[Yo]at this
 |G' id=>
  obtain⟨k2,h1,h2⟩:=he;refine⟨k2,GJ h1 (fun hm=>?_) Zc,h2⟩;have:=congrArg Frame.todo (Gx hm);simp[Yo]at this
 |Z=>
  obtain⟨k2,h1⟩:=he;refine⟨k2,GJ h1 (fun hm=>?_) Zc⟩;have:=congrArg Frame.todo (Gx hm);simp[Yo]at this
 |O v=>
  obtain⟨k2,x,h1,h2⟩:=he;refine⟨k2,x,GJ h1 (fun hm=>?_) Zc,h2⟩;have:=congrArg Frame.mode (Gx hm);simp[Yo]at this
theorem ok_loop {c:Code} {ka kl:yh} (ha:bU E P c ka) (hl:bU E P (.loop c) kl):bU E P (.loop c) (fun fr T s=>(ka fr T s).u (oP kl)):=by
 intro C S w fr T b a k cs hg hT hF hS;refine g_.steps (.one zm) (g_.then hg (ha C S w fr T b a (.inLoop c::k) cs hg hT hF hS) ?_);intro r C' a' w' bq m' jd yT dU zq he;unfold oP;split
 .next h=>
  rw[h]at he;exact g_.steps he (RR (hl C' r.a w' r.b r.T b a' k bq jd dU zq yT))
 .grind [BS,Lf]
theorem ok_exit {id:Nat}:bU E P (.exit id) (fun fr T s=> .one ⟨.G' id,fr,T,s⟩):=by
 intro C S w fr T b a k cs hg hT hF hS;exact BS (r:=⟨.G' id,fr,T,S⟩) hS hT hF ⟨k,.refl _ _,U⟩
theorem ok_ret:bU E P .ret (fun fr T s=> .one ⟨.Z,fr,T,s⟩):=by
 intro C S w fr T b a k cs hg hT hF hS;exact BS (r:=⟨.Z,fr,T,S⟩) hS hT hF ⟨k,.refl _ _⟩
theorem Nh {c:Code}:bU E P c (fun _ _ _=> .J):=fun _ _ _ _ _ _ _ _ _ _ _ _ _=>Ay
end
def k9 (P:Program) (m:Machine) (c:Frame) (cs:List Frame) (C:Cx) (S:St) (w:World):CR->Prop
 | .same v=>∃C' x w',Steps P m (lone (c.finish x) cs w')/\C6 C S w C' S w'/\VR C' v x
 | .J v S'=>∃C' x w',Steps P m (lone (c.finish x) cs w')/\C6 C S w C' S' w'/\VR C' v x
 | .O v S'=>∃C' x w',Steps P m (lone (c.raise [{v:=x,recovered:=false}]) cs w')/\C6 C S w C' S' w'/\VR C' v x
def du (E:a_) (P:Program) (ev:Ev):Prop:=
 ∀(f:FuncId) (args:List AV) (cr:CR) (C:Cx) (S:St) (w:World) (xs:Array Value) (c:Frame) (cs:List Frame),Y8 E ev f args S=some cr->YV E C->Y0 C args xs.toList->YR C S w->
  k9 P (lone (Frame.enter P f xs .normal) (c::cs) w) c cs C S w cr
def dw (E:a_) (P:Program) (ev:Ev):Prop:=
 ∀(g:AV) (args:List AV) (cr:CR) (C:Cx) (S:St) (w:World) (gx:Value) (xs:Array Value) (c:Frame) (cs:List Frame),aj E ev args S g=some cr->YV E C->VR C g gx->Y0 C args xs.toList->YR C S w->
  (∃f ys,(do let d<-Deferred.ofValue gx xs;invoke d.target d.args:Sem Next).run P w= .ok (.enter f ys) w/\k9 P (lone (Frame.enter P f ys .normal) (c::cs) w) c cs C S w cr)\/
  (∃l f tmps ld body,(do let d<-Deferred.ofValue gx xs;invoke d.target d.args:Sem Next).run P w= .ok (.round l f tmps ld body) w/\k9 P (lone (Frame.round l f tmps ld body .normal) (c::cs) w) c cs C S w cr)
def si (E:a_) (P:Program) (ops:Array Oper) (idx:List Nat) (dst:Option Tmp) (kr:Fr->Tr AV->AV->St->f_):Prop:=
 ∀(C:Cx) (S:St) (w:World) (fr:Fr) (T:Tr AV) (b:Frame) (a:Act) (k:List Item) (cs:List Frame) (v:AV) (x:Value),YV E C->TR C fr.nt T a.tmps->rq C fr b a cs->YR C S w->VR C v x->
  g_ P C S w fr b k cs (lone (Yo b (a.put dst x) (.inRegion ops idx::k)) cs w) (kr fr T v S)
def zu (E:a_) (P:Program) (ops:Array Oper) (idx:List Nat) (run:yh):Prop:=
 ∀(C:Cx) (S:St) (w:World) (fr:Fr) (T:Tr AV) (b:Frame) (a:Act) (k:List Item) (cs:List Frame),YV E C->TR C fr.nt T a.tmps->rq C fr b a cs->YR C S w->
  g_ P C S w fr b k cs (lone (Yo b a (.inRegion ops idx::k)) cs w) (run fr T S)
section
variable {E : a_} {P : Program}
theorem B6 {C C1:Cx} {S S1:St} {w w1:World} {fr:Fr} {b:Frame} {k:List Item} {cs:List Frame} {m:Machine} {out:f_} (t:C6 C S w C1 S1 w1) (h:g_ P C1 S1 w1 fr b k cs m out):
 g_ P C S w fr b k cs m out:=fun l hl=>
 let⟨r,hr,C',a',w',bq,h1,h2,h3,h4,h5,h6,h7⟩:=h l hl;⟨r,hr,C',a',w',bq,t.trans h1,h2,h3,h4,h5,h6,h7⟩
theorem LR (a:Act) (d:Option Tmp) (v:Value):(a.put d v).defers=a.defers:=by cases d<;>rfl
theorem Sv (a:Act) (d:Option Tmp) (v:Value):(a.put d v).tmps.size=a.tmps.size:=by cases d<;>simp[Act.put]
theorem rq.u {C:Cx} {fr:Fr} {b:Frame} {a:Act} {cs:List Frame} (h:rq C fr b a cs) (d:Option Tmp) (v:Value):rq C fr b (a.put d v) cs:=⟨by rw[LR];exact h.d,h.e,h.c⟩
theorem TR.put {C:Cx} {nt:Nat} {T:Tr AV} {a:Act} (h:TR C nt T a.tmps) {d:Nat} (hd:d<nt) {v:AV} {x:Value} (hv:VR C v x):TR C nt (T.A d (some v)) (a.put (some d) x).tmps:=by
 refine⟨by rw[Sv];exact h.1,fun i u hi=>?_⟩;rw[Ap]at hi;simp only[Act.put,Array.getElem?_setIfInBounds];split at hi
 .next e=>subst e;cases hi;exact⟨x,by simp[h.1,hd],hv⟩
 .next e=>
  obtain⟨y,hy,hr⟩:=h.2 i u hi;exact⟨y,by rw[if_neg (fun e'=>e e'.symm)];exact hy,hr⟩
theorem zw {ops:Array Oper} {idx:List Nat} {dst:Option Nat} {k:Cl} {ev:Ev} (h:zu E P ops idx (k.run ev)):si E P ops idx dst ((bD dst k).run ev):=by
 intro C S w fr T b a k' cs v x hg hT hF hS hv;cases dst with
 |none=>exact h C S w fr T b a k' cs hg hT hF hS
 |some d=>
  show g_ P C S w fr b k' cs _ (bif Nat.blt d fr.nt then _ else _);cases hd:Nat.blt d fr.nt with
  |false=>exact Ay
  |true=>
   have C8:d<fr.nt:=by simpa[Nat.blt_eq]using hd
   exact h C S w fr (T.A d (some v)) b (a.put (some d) x) k' cs hg (hT.put C8 hv) (hF.u _ _) hS
theorem zy {a b:f_} {y:List dJ} (h:nN (f_.G a b)=some y):∃x z,nN a=some x/\nN b=some z/\y=x++z:=by
 cases a<;>cases b<;>first|(cases h;done)|(cases h;exact⟨_,_,rfl,rfl,by simp⟩)
theorem JY {k:AV->St->f_}:∀ {l:List (AV×St)} {y:List dJ},nN (ae k l)=some y->∀p∈l,∃l',nN (k p.1 p.2)=some l'/\∀x∈l',x∈y
 | [p],y,h,q,hq=>by
  simp at hq;subst hq;exact⟨y,h,fun x hx=>hx⟩
 |p::p'::l,y,h,q,hq=>by
  obtain⟨x,z,h1,h2,rfl⟩:=zy (a:=k p.1 p.2) (b:=ae k (p'::l)) h;rcases Qk.1 hq with rfl|hq
  .grind
  .obtain⟨l',h3,h4⟩:=JY h2 q hq;exact⟨l',h3,fun x hx=>List.mem_append_right _ (h4 x hx)⟩
theorem Le {C:Cx} {S:St} {w:World} {fr:Fr} {b:Frame} {k':List Item} {cs:List Frame} {m:Machine} {k:AV->St->f_} {l:List (AV×St)} {p:AV×St} (hp:p∈l)
 (h:g_ P C S w fr b k' cs m (k p.1 p.2)):g_ P C S w fr b k' cs m (ae k l):=by
 intro y hy;obtain⟨l',h1,h2⟩:=JY hy p hp;obtain⟨r,hr,rest⟩:=h l' h1;exact⟨r,h2 r hr,rest⟩
theorem RT {s:St} {v:AV}:∀ {l:List AV},v∈l->(v,s)∈tC s l
 |a::l,h=>by
  simp only[tC];rcases Qk.1 h with rfl|h
  .exact Qh ..
  .exact Qg _ (RT h)
theorem JQ {o:Oper} {so:fN} (h:ZW E o.type o.op=so) (h1:∀f,so≠ .H' f) (h2:so≠ .J):∀c,o.op≠ .defer c:=by grind [ZW,l8]
theorem OB (b:Frame) (a:Act) (todo:List Item) (chain:List PanicEntry):(Yo b a todo).raise chain= {Yo b a todo with mode:= .panicking chain}:=rfl
theorem zz {ops:Array Oper} {i:Nat} {idx:List Nat} {o:Oper} (ho:ops[i]?=some o) {kr:Fr->Tr AV->AV->St->f_} (hk:si E P ops idx o.dst kr) {C:Cx} {S:St} {w:World} {fr:Fr} {T:Tr AV} {b:Frame}
 {a:Act} {k':List Item} {cs:List Frame} (hg:YV E C) (hT:TR C fr.nt T a.tmps) (hF:rq C fr b a cs) (hS:YR C S w) {m:Machine} {cr:CR}
 (h:k9 P m (Yo b a (.inRegion ops (i::idx)::k')) cs C S w cr):g_ P C S w fr b k' cs m (ZB fr T S (kr fr T) (some cr)):=by
 have cn:=fun v=>Dp b a ops i idx k' v;simp only[ho,Qe]at cn;cases cr with
 |same v=>
  obtain⟨C',x,w',hs,t,hv⟩:=h;rw[cn]at hs;exact g_.steps hs (B6 t (hk C' S w' fr T b a k' cs v x (hg.mono t.a) (hT.mono t.a) (hF.mono t.a) t.c hv))
 |J v S'=>
  obtain⟨C',x,w',hs,t,hv⟩:=h;rw[cn]at hs;exact g_.steps hs (B6 t (hk C' S' w' fr T b a k' cs v x (hg.mono t.a) (hT.mono t.a) (hF.mono t.a) t.c hv))
 |O v S'=>
  obtain⟨C',x,w',hs,t,hv⟩:=h;rw[OB]at hs;exact B6 t (BS (r:=⟨.O v,fr,T,S'⟩) t.c (hT.mono t.a) (hF.mono t.a) ⟨_,x,hs,hv,by intro _ _ _ _ _ h;cases h⟩)
theorem ok_step {ev:Ev} (Y6:du E P ev) (YU:dw E P ev) {ops:Array Oper} {i:Nat} {idx:List Nat} {o:Oper} (ho:ops[i]?=some o) {so:fN} (gE:b5 E P o so) (heq:ZW E o.type o.op=so) {k:td}
 (hk:si E P ops idx o.dst (k.run ev)) {C:Cx} {S:St} {w:World} {fr:Fr} {T:Tr AV} {b:Frame} {a:Act} {k':List Item} {cs:List Frame} (hg:YV E C) (hT:TR C fr.nt T a.tmps)
 (hF:rq C fr b a cs) (hS:YR C S w) (hw:Region.wanted o (yielded ops a.tmps)=true):
 g_ P C S w fr b k' cs (lone (Yo b a (.inRegion ops (i::idx)::k')) cs w) ((Z0 E so k).run ev fr T S):=by
 have hTa:TR C a.tmps.size T a.tmps:=⟨rfl,hT.2⟩
 have sp:=gE C T a S w hg hTa hS;have hr:(∀f,so≠ .H' f)->so≠ .J->b.roundOf=none\/∀c,o.op≠ .defer c:=fun h1 h2=> .inr (JQ heq h1 h2);cases so with
 |J=>exact Ay
 |make f=>
  show g_ P C S w fr b k' cs _ (rb S (k.run ev fr T) (f T));cases hf:f T with
  |none=>exact Ay
  |some mk=>
   cases mk with
   |O v=>
    obtain⟨C',x,w',CG,t,hv⟩:=sp.1 v hf;exact g_.steps (.one (BF ho hw (hr (by simp) (by simp)) CG)) (B6 t (hk C' S w' fr T b a k' cs v x (hg.mono t.a) (hT.mono t.a) (hF.mono t.a) t.c hv))
   |J ob g=>
    obtain⟨C',x,w',CG,t,hv⟩:=sp.2 ob g hf;exact g_.steps (.one (BF ho hw (hr (by simp) (by simp)) CG)) (B6 t (hk C' _ w' fr T b a k' cs _ x (hg.mono t.a) (hT.mono t.a) (hF.mono t.a) t.c hv))
 |O f=>
  show g_ P C S w fr b k' cs _ (ZR (fun v=>k.run ev fr T v S) (f T));cases hf:f T with
  |none=>exact Ay
  |some v=>
   obtain⟨x,CG,hv⟩:=sp v hf;exact g_.steps (.one (BF ho hw (hr (by simp) (by simp)) CG)) (hk C S w fr T b a k' cs v x hg hT hF hS hv)
 |Z xo f=>
  show g_ P C S w fr b k' cs _ (ZR (fun v=>k.run ev fr T v S) (f T S));cases hf:f T S with
  |none=>exact Ay
  |some v=>
   obtain⟨x,CG,hv⟩:=sp v hf;exact g_.steps (.one (BF ho hw (hr (by simp) (by simp)) CG)) (hk C S w fr T b a k' cs v x hg hT hF hS hv)
 |I' f=>
  show g_ P C S w fr b k' cs _ (ZR (fun v=>k.run ev fr T v S) (f T S));cases hf:f T S with
  |none=>exact Ay
  |some v=>
   obtain⟨x,CG,hv⟩:=sp v hf;exact g_.steps (.one (BF ho hw (hr (by simp) (by simp)) CG)) (hk C S w fr T b a k' cs v x hg hT hF hS hv)
 |I_ only xo f=>
  show g_ P C S w fr b k' cs _ (rU (k.run ev fr T) (f T S));cases hf:f T S with
  |none=>exact Ay
  |some p=>
   obtain⟨v,S'⟩:=p;obtain⟨C',nx,w',CG,t,fB⟩:=sp v S' hf;cases fB with
   | @J _ x hv=>exact g_.steps (.one (BF ho hw (hr (by simp) (by simp)) CG)) (B6 t (hk C' S' w' fr T b a k' cs v x (hg.mono t.a) (hT.mono t.a) (hF.mono t.a) t.c hv))
   |O=>exact g_.steps (.one (Oy ho hw (hr (by simp) (by simp)) CG)) (B6 t (hk C' S' w' fr T b a k' cs _ undef (hg.mono t.a) (hT.mono t.a) (hF.mono t.a) t.c VR.A))
 |J' f=>
  show g_ P C S w fr b k' cs _ (cw (k.run ev fr T) ((f T).bind fun l=>some (tC S l)));cases hf:f T with
  |none=>exact Ay
  |some l=>
   obtain⟨v,hv,x,CG,eV⟩:=sp l hf;exact g_.steps (.one (BF ho hw (hr (by simp) (by simp)) CG)) (Le (RT hv) (hk C S w fr T b a k' cs v x hg hT hF hS eV))
 |qU f=>
  show g_ P C S w fr b k' cs _ (cw (k.run ev fr T) (f T S));cases hf:f T S with
  |none=>exact Ay
  |some l=>
   obtain⟨p,hp,C',x,w',CG,t,eV⟩:=sp l hf;exact g_.steps (.one (BF ho hw (hr (by simp) (by simp)) CG)) (B6 t (Le hp (hk C' p.2 w' fr T b a k' cs p.1 x (hg.mono t.a) (hT.mono t.a) (hF.mono t.a) t.c eV)))
 |H_ f=>
  show g_ P C S w fr b k' cs _ (ZB fr T S (k.run ev fr T) ((f T S).bind fun p=>Y8 E ev p.1 p.2 S));cases hf:f T S with
  |none=>exact Ay
  |some p=>
   obtain⟨g,args⟩:=p;obtain⟨xs,CG,Zh⟩:=sp g args hf;simp only[Qe];cases qJ:Y8 E ev g args S with
   |none=>exact Ay
   |some cr=>
    have dM:=Y6 g args cr C S w xs (Yo b a (.inRegion ops (i::idx)::k')) cs qJ hg Zh hS;exact g_.steps (.one (Ig ho hw (hr (by simp) (by simp)) CG)) (zz ho hk hg hT hF hS dM)
 |dN f ar=>
  show g_ P C S w fr b k' cs _ (ZB fr T S (k.run ev fr T) ((f T).bind fun g=>(ar T).bind fun args=>aj E ev args S g));cases hf:f T with
  |none=>exact Ay
  |some g=>
  cases ha:ar T with
  |none=>exact Ay
  |some args=>
   obtain⟨gx,xs,hgx,iw,hex⟩:=sp g args hf ha;simp only[Qe];cases qJ:aj E ev args S g with
   |none=>exact Ay
   |some cr=>
    rcases YU g args cr C S w gx xs (Yo b a (.inRegion ops (i::idx)::k')) cs qJ hg hgx iw hS with⟨f',ys,CG,dM⟩|⟨l,f',tmps,ld,body,CG,dM⟩
    .rw[<-hex]at CG;exact g_.steps (.one (Ig ho hw (hr (by simp) (by simp)) CG)) (zz ho hk hg hT hF hS dM)
    .rw[<-hex]at CG;exact g_.steps (.one (QS ho hw (hr (by simp) (by simp)) CG)) (zz ho hk hg hT hF hS dM)
 |H' f=>
  show g_ P C S w fr b k' cs _ (mB fr (fun fr v=>k.run ev fr T v S) (f T));cases hf:f T with
  |none=>exact Ay
  |some d=>
   obtain⟨dv,CG,hd⟩:=sp d hf;obtain⟨nt,defers,Zv,round⟩:=fr;cases round with
   |some l=>exact Ay
   |none=>
    have mK:b.roundOf=none:=by have:=hF.c;cases this with|none h=>exact h
    have:=hk C S w ⟨nt,d::defers,Zv,none⟩ T b {a with defers:=dv::a.defers} k' cs (.O []) undef hg hT ⟨.J hd hF.d,hF.e,hF.c⟩ hS VR.A;exact g_.steps (.one (s_defer ho hw (.inl mK) CG)) this
 |J_ f=>
  show g_ P C S w fr b k' cs _ (ZR (fun v=> .one ⟨.O v,fr,T,S⟩) (f T));cases hf:f T with
  |none=>exact Ay
  |some v=>
   obtain⟨x,CG,hv⟩:=sp v hf;exact BS (r:=⟨.O v,fr,T,S⟩) hS hT hF ⟨_,x,.one (s_panic ho hw (hr (by simp) (by simp)) CG),hv,by intro _ _ _ _ _ h;cases h⟩
 |G'=>
  show g_ P C S w fr b k' cs _ (pN fr fun fr v=>k.run ev fr T v S);obtain⟨nt,defers,Zv,round⟩:=fr;cases round with
  |some l=>exact Ay
  |none=>
   have mK:b.roundOf=none:=by have:=hF.c;cases this with|none h=>exact h
   have htr:∀todo,tryRecover (Yo b a todo) cs=tryRecover b cs:=by
    intro todo;cases hk0:b.kind<;>cases cs<;>simp[tryRecover,Yo,hk0]
   have wQ:=hF.e;cases Zv with
   |none=>
    cases wQ with
    |none bG=>
     exact g_.steps (.one (Ll ho hw (hr (by simp) (by simp)) sp mK (by rw[htr];exact bG))) (hk C S w ⟨nt,defers,none,none⟩ T b a k' cs .Yk .nilIface hg hT hF hS .Yk)
   |some v=>
    cases wQ with
    | @some _ x c rest hkd YO hm hv=>
     subst YO;have hrec:tryRecover b (c::rest)=some (x,mark (c::rest)):=by
      simp[tryRecover,hkd,hm,mark]
     have dx:=hk C S w ⟨nt,defers,none,none⟩ T b a k' (mark (c::rest)) v x hg hT ⟨hF.d,.none (by simp[rp,tryRecover,mark,hkd,hm]),hF.c⟩ hS hv;refine g_.steps (.one (Lj ho hw (hr (by simp) (by simp)) sp mK (by rw[htr];exact hrec))) ?_;intro l hl;obtain⟨r,gD,C',a',w',bq,h1,h2,h3,h4,h5,h6,h7⟩:=dx l hl;exact⟨r,gD,C',a',w',bq,h1,h2,h3,h4,h5,xK.trans .J h6,h7⟩
end
section
variable {E : a_} {P : Program}
theorem TI {C:Cx} {want:Bool} {v:AV} {x:Value} (hv:VR C v x) {t:Bool} (h:iJ want (some v)=some t):((match some x with|some (.bool b)=>some b|_=>none:Option Bool)==some want)=t:=by
 cases hv with
 |bool b=>
  simp only[iJ]at h;cases h;cases b<;>cases want<;>rfl
 |any x hx=>cases h
 |_=>simp only[iJ]at h;cases h;cases want<;>rfl
theorem Jv {C:Cx} {T:Tr AV} {a:Act} (hT:TR C a.tmps.size T a.tmps) {ops:Array Oper} {o:Oper} {j:Nat} {want:Bool} (hg:o.guard=some (j,want)) {t:Bool} (h:Zs ops.toList (j,want) T=some t):
 Region.wanted o (yielded ops a.tmps)=t:=by
 have hw:Region.wanted o (yielded ops a.tmps)=(yielded ops a.tmps j==some want):=by unfold Region.wanted;rw[hg]
 rw[hw];unfold Zs fw at h;rw[EN,Array.getElem?_toList]at h;unfold yielded;cases ho:ops[j]? with
 |none=>
  rw[ho]at h;cases h;cases want<;>rfl
 |some oj=>
  rw[ho]at h;cases hd:oj.dst with
  |none=>
   simp only[Qe,hd,Option.bind_none]at h|-;cases h;cases want<;>rfl
  |some d=>
   simp only[Qe,hd]at h|-;cases hp:Tr.G (r_ d) T with
   |none=>rw[hp]at h;cases h
   |some v=>
    rw[hp]at h;obtain⟨x,hx,hv⟩:=hT.2 d v hp;rw[hx];exact TI hv h
theorem Uo {ev:Ev} {ops:Array Oper} {i:Nat} {idx:List Nat} {o:Oper} (ho:ops[i]?=some o) {step:Cl} {k:td} (hk:si E P ops idx o.dst (k.run ev))
 (hs:∀(C:Cx) (S:St) (w:World) (fr:Fr) (T:Tr AV) (b:Frame) (a:Act) (k':List Item) (cs:List Frame),YV E C->TR C fr.nt T a.tmps->rq C fr b a cs->YR C S w->
  Region.wanted o (yielded ops a.tmps)=true->g_ P C S w fr b k' cs (lone (Yo b a (.inRegion ops (i::idx)::k')) cs w) (step.run ev fr T S)):
 zu E P ops (i::idx) ((q_ ops.toList o.guard step k).run ev):=by
 intro C S w fr T b a k' cs hg hT hF hS;unfold q_;cases sj:o.guard with
 |none=>exact hs C S w fr T b a k' cs hg hT hF hS (by unfold Region.wanted;rw[sj])
 |some g=>
  show g_ P C S w fr b k' cs _ (gZ (fun _=>step.run ev fr T S) (fun _=>k.run ev fr T (.O []) S) (Zs ops.toList g T));cases hw:Zs ops.toList g T with
  |none=>exact Ay
  |some t=>
   have hwt:=Jv (C:=C) (a:=a) ⟨rfl,hT.2⟩ (o:=o) (j:=g.1) (want:=g.2) (by rw[sj]) hw;cases t with
   |true=>exact hs C S w fr T b a k' cs hg hT hF hS hwt
   |false=>
    have hsk:=Ox (P:=P) (b:=b) (a:=a) (k:=k') (cs:=cs) (w:=w) (ops:=ops) (i:=i) (rest:=idx) (by rw[ho];exact hwt);simp only[ho,Qe]at hsk;exact g_.steps (.one hsk) (hk C S w fr T b a k' cs _ undef hg hT hF hS VR.A)
inductive Idx (ops:Array Oper):List Nat->List Oper->Prop where
 |O:Idx ops [] []
 |J {i:Nat} {o:Oper} {is:List Nat} {os:List Oper} (h:ops[i]?=some o) (t:Idx ops is os):Idx ops (i::is) (o::os)
theorem Wg (he:Ym E P) (hx:eo E P) {ev:Ev} (Y6:du E P ev) (YU:dw E P ev) {ops:Array Oper}:∀ {rest:List Oper} {idx:List Nat},
 Idx ops idx rest->zu E P ops idx ((cy E ops.toList rest).run ev)
 |_,_,.O=>by
  intro C S w fr T b a k cs hg hT hF hS;exact BS (r:=⟨.J,fr,T,S⟩) hS hT hF (.one IF)
 |o::rest,i::idx,.J ho t=>by
  have ih:=Wg he hx Y6 YU t;have hk:=zw (dst:=o.dst) ih;exact Uo ho hk fun C S w fr T b a k' cs hg hT hF hS hw=>ok_step Y6 YU ho (vL he hx o) U hk hg hT hF hS hw
theorem O7 (ops:Array Oper):∀m n,n+m=ops.size->Idx ops (List.range' n m) (ops.toList.drop n)
 |0,n,h=>by
  rw[List.drop_of_length_le (by simp;omega)];exact .O
 |m+1,n,h=>by
  have C8:n<ops.toList.length:=by simp;omega
  rw[List.drop_eq_getElem_cons C8,List.range'_succ];refine .J ?_ (O7 ops m (n+1) (by omega));rw[<-Array.getElem?_toList,Qi C8]
theorem O8 (ops:Array Oper):Idx ops (List.range ops.size) ops.toList:=by
 have:=O7 ops ops.size 0 (by omega);rw[List.range_eq_range'];simpa using this
theorem Wh (he:Ym E P) (hx:eo E P) {ev:Ev} (Y6:du E P ev) (YU:dw E P ev) {id:Nat} {ops:Array Oper}:bU E P (.region id ops false) ((cy E ops.toList ops.toList).run ev):=by
 intro C S w fr T b a k cs hg hT hF hS;exact g_.steps (.one zo) (Wg he hx Y6 YU (O8 ops) C S w fr T b a k cs hg hT hF hS)
end
section
variable {E : a_} {P : Program}
def sk (tmps:Array Value):ResultVar->Sem Value
 | .tmp t=>pure (tmps.getD t undef)
 | .cell a t=>do loadVar t (<-asAddr (tmps.getD a undef))
theorem Ii (he:Ym E P) {C:Cx} {S:St} {w:World} {T:Tr AV} {tmps:Array Value} (hT:TR C tmps.size T tmps) (hS:YR C S w):
 ∀ {rs:List ResultVar} {vs:List AV},aX E S T rs=some vs->
  ∃xs,(rs.mapM (sk tmps)).run P w= .ok xs w/\Y0 C vs xs
 | [],vs,h=>by cases h;exact⟨[],by simp,.O⟩
 | .tmp t::l,vs,h=>by
  simp only[aX]at h;obtain⟨v,hv,h⟩:=Qa.1 h;obtain⟨r,hr,h⟩:=Qa.1 h;cases h;obtain⟨x,hx,eV⟩:=hT.2 t v hv;obtain⟨xs,iw,Zh⟩:=Ii he hT hS hr;have:tmps.getD t undef=x:=by simp[Array.getD_eq_getD_getElem?,hx]
  exact⟨x::xs,by simp only[List.mapM_cons,sk,Sem.run_bind,this,Sem.run_pure,Result.andThen_ok,iw],.J eV Zh⟩
 | .cell a t::l,vs,h=>by
  simp only[aX]at h;obtain⟨p,hp,h⟩:=Qa.1 h;obtain⟨v,hv,h⟩:=Qa.1 h;obtain⟨r,hr,h⟩:=Qa.1 h;cases h;obtain⟨x,hx,eV⟩:=hT.2 a p hp;obtain⟨ad,y,rfl,hl,mb⟩:=H7 (P:=P) he hS eV hv;obtain⟨xs,iw,Zh⟩:=Ii he hT hS hr;have:tmps.getD a undef= .pointer (some ad):=by simp[Array.getD_eq_getD_getElem?,hx]
  exact⟨y::xs,by simp only[List.mapM_cons,sk,Sem.run_bind,this,asAddr,Sem.run_pure,Result.andThen_ok,hl,iw],.J mb Zh⟩
theorem oneA_ok {C:Cx} {vs:List AV} {xs:List Value} (h:Y0 C vs xs):VR C (eT vs) (if h:xs.toArray.size=1 then xs.toArray[0]else .tuple xs.toArray):=by
 cases h with
 |O=>exact .J (by simpa using Y0.O)
 |J h1 t=>
  cases t with
  |O=>exact h1
  |J h2 t=>exact .J (by simpa[eT]using Y0.J h1 (Y0.J h2 t))
theorem J8 (he:Ym E P) {C:Cx} {S:St} {w:World} {T:Tr AV} {tmps:Array Value} (hT:TR C tmps.size T tmps) (hS:YR C S w) {fn:Func} {vs:List AV} (h:aX E S T fn.results.toList=some vs):
 ∃x,(results fn tmps).run P w= .ok x w/\VR C (eT vs) x:=by
 obtain⟨xs,iw,Zh⟩:=Ii (P:=P) he hT hS h;refine⟨_,?_,oneA_ok Zh⟩;have hr:results fn tmps=(do let vs<-fn.results.mapM (sk tmps);pure (if h:vs.size=1 then vs[0]else .tuple vs)):=by
  unfold results
  congr 1
 rw[hr,Array.mapM_eq_mapM_toList];simp only[Sem.run_bind,Sem.run_map,iw,Result.andThen_ok,Sem.run_pure]
inductive jB (C:Cx):FrameMode->Option AV->Prop where
 |J:jB C .returning none
 |O {v:AV} {x:Value} (h:VR C v x):jB C (.panicking [{v:=x,recovered:=false}]) (some v)
theorem jB.mono {C C':Cx} (e:n_ C C') {m:FrameMode} {v:Option AV} (h:jB C m v):jB C' m v:=by
 cases h with
 |J=>exact .J
 |O h=>exact .O (h.mono e)
def CN (b:Frame) (a:Act) (todo:List Item) (mode:FrameMode):Frame:= {fn:=b.fn,tmps:=a.tmps,todo,defers:=a.defers,mode,kind:=b.kind,roundOf:=b.roundOf}
theorem s_end {b:Frame} {a:Act} {cs:List Frame} {w:World} (hr:b.roundOf=none):step P (lone (Yo b a []) cs w)= .next (lone (CN b a [] .returning) cs w):=
 step_lone_go (by simp[stepG,stepG.exec,Yo,CN,hr])
theorem s_ret {b:Frame} {a:Act} {k:List Item} {cs:List Frame} {w:World} (hr:b.roundOf=none):step P (lone (Yo b a (.code .ret::k)) cs w)= .next (lone (CN b a (.code .ret::k) .returning) cs w):=
 step_lone_go (by simp[stepG,stepG.exec,Yo,CN,hr])
theorem s_take {b:Frame} {t:Array Value} {todo:List Item} {mode:FrameMode} (hm:mode≠ .run) {cs:List Frame} {w:World} {Cr:Nat} {ar:Array Value} {ds:List Deferred} (h:w.heap[Cr]?=some (.deferred (some []))):
 step P (lone (CN b ⟨t, {target:= .collected Cr,args:=ar}::ds⟩ todo mode) cs w)= .next (lone (CN b ⟨t,ds⟩ todo mode) cs (World.u w Cr (.deferred none))):=by
 have CG:(Instr.takeDeferred Cr).run P w= .ok [] (World.u w Cr (.deferred none)):=by
  simp only[Instr.takeDeferred,Sem.run_bind,AN h (by simp),Result.andThen_ok,DN h (by simp),Sem.run_pure]
 refine step_lone_go ?_;cases mode with
 |run=>exact absurd rfl hm
 |returning=>simp[stepG,Go.unwind,CN,CG]
 |panicking ch=>simp[stepG,Go.unwind,CN,CG]
theorem VI {b:Frame} {t:Array Value} {todo:List Item} {mode:FrameMode} (hm:mode≠ .run) {cs:List Frame} {w:World} {fn:Fn} {cap ar:Array Value} {ds:List Deferred} {f:FuncId} {ys:Array Value}
 (h:(invoke (.fn fn cap) ar).run P w= .ok (.enter f ys) w):
 step P (lone (CN b ⟨t, {target:= .fn fn cap,args:=ar}::ds⟩ todo mode) cs w)= .next (lone (Frame.enter P f ys .deferred) (CN b ⟨t,ds⟩ todo mode::cs) w):=by
 refine step_lone_go ?_;cases mode with
 |run=>exact absurd rfl hm
 |returning=>simp[stepG,Go.unwind,callDeferred,CN,h]
 |panicking ch=>simp[stepG,Go.unwind,callDeferred,CN,h]
theorem JI:∀(l:List AV) (j:Nat) (T:Tr AV) (i:Nat),(br j l T).u i=if j<=i/\i<j+l.length then l[i-j]? else T.u i
 | [],j,T,i=>by
  have:¬(j<=i/\i<j+([]:List AV).length):=by simp only[List.length_nil];omega
  rw[if_neg this];rfl
 |v::l,j,T,i=>by
  simp only[br];rw[JI l (j+1) _ i,Ap];simp only[List.length_cons];by_cases h1:i=j
  .subst h1;rw[if_neg (by omega),if_pos rfl,if_pos (by omega)];simp
  .rw[if_neg h1];by_cases h2:j+1<=i/\i<j+1+l.length
   .rw[if_pos h2,if_pos (by omega)];have:i-j=(i-(j+1))+1:=by omega
    rw[this,List.getElem?_cons_succ]
   .rw[if_neg h2,if_neg (by omega)]
theorem nil_get (i:Nat):(Tr.J:Tr AV).u i=none:=by
 unfold Tr.u;cases r_ i<;>rfl
theorem RH {C:Cx} {args:List AV} {ys:Array Value} (h:Y0 C args ys.toList) (nt:Nat):TR C (Nat.max nt (ZA args)) (br 0 args .J) (ys++Array.replicate (nt-ys.size) undef):=by
 have hl:=h.u;simp only[Array.length_toList]at hl;refine⟨?_,fun i v hi=>?_⟩
 .simp only[Array.size_append,Array.size_replicate,BV];rw[hl];show _=max nt args.length;omega
 .rw[JI]at hi;split at hi
  .next C8=>
   obtain⟨y,hy,hr⟩:=h.M (by simpa using hi);refine⟨y,?_,hr⟩;rw[Array.getElem?_append_left (by omega)];simpa using hy
  .rw[nil_get]at hi;cases hi
theorem LO {b:Frame} {t:Array Value} {todo:List Item} {c:Frame} {cs:List Frame} {w:World} {fn:Func} {v:Value} (hk:b.kind= .deferred) (hf:P.funcs[b.fn]?=some fn) (hr:(results fn t).run P w= .ok v w):
 step P (lone (CN b ⟨t,[]⟩ todo .returning) (c::cs) w)= .next (lone (match c.mode with
  | .panicking ({recovered:=true, ..}::older)=>(match older.dropWhile (!·.goexit)with| []=> {c with mode:= .returning}|rest=> {c with mode:= .panicking rest})
  |_=>c) cs w):=
 step_lone_go (by simp[stepG,Go.unwind,CN,hf,hr,doReturn,hk];rfl)
theorem XB (he:Ym E P) {ev:Ev} (jC:pU E P ev) {f:FuncId} {args:List AV} {m:Option AV} {S S':St} {rc:Bool} (h:rR E ev f args m S=some (rc,S')) {C:Cx} {w:World} {ys:Array Value}
 (hg:YV E C) (ha:Y0 C args ys.toList) (hS:YR C S w) {mode:FrameMode} (hm:jB C mode m) (b:Frame) (a:Act) (todo:List Item) (cs:List Frame):
 CI E f=true/\∃C' w' ib,Steps P (lone (Frame.enter P f ys .deferred) (CN b a todo mode::cs) w) (lone (CN b a todo ib) cs w')/\C6 C S w C' S' w'/\jB C' ib (bif rc then none else m):=by
 unfold rR at h;obtain⟨fn,sg,h⟩:=Qa.1 h;obtain⟨c,hc,h⟩:=Qa.1 h;have hp:=he.fn f fn sg;refine⟨by unfold CI;rw[sg];simp only[hc],?_⟩;split at h
 .next wR=>
  have hres0:fn.results= #[]:=Array.ext' (by simpa using wR);have fC:Frame.enter P f ys .deferred=Yo (Frame.enter P f ys .deferred) ⟨ys++Array.replicate (fn.ntmps-ys.size) undef,[]⟩ [.code c]:=by
   simp[Frame.enter,Yo,hp,hc]
  have qC:(Frame.enter P f ys .deferred).kind= .deferred:=rfl;have mK:(Frame.enter P f ys .deferred).roundOf=none:=rfl;have z7:(Frame.enter P f ys .deferred).fn=f:=rfl;generalize aO:Frame.enter P f ys .deferred=bd at fC qC mK z7;have wQ:zp C bd (CN b a todo mode::cs) (frame fn.ntmps args m).Zv:=by
   show zp C bd _ m;cases hm with
   |J=>exact .none (by simp[rp,tryRecover,qC,CN])
   |O hv=>exact .some qC rfl rfl hv
  have dx:=jC c C S w (frame fn.ntmps args m) (br 0 args .J) bd ⟨ys++Array.replicate (fn.ntmps-ys.size) undef,[]⟩ [] (CN b a todo mode::cs) hg (RH ha fn.ntmps)
   ⟨.O,wQ,.none mK⟩ hS
  rw[<-fC]at dx;generalize iR:ev c (frame fn.ntmps args m) (br 0 args .J) S=out at h dx;have fin:∀(r:dJ),out= .one r->(r.c= .J\/r.c= .Z)->r.b.defers=[]->some (r7 m r.b.Zv,r.a)=some (rc,S')->
   ∃C' w' ib,Steps P (lone bd (CN b a todo mode::cs) w) (lone (CN b a todo ib) cs w')/\C6 C S w C' S' w'/\jB C' ib (bif rc then none else m):=by
   intro r hr hex hdf hres';cases hres';obtain⟨r',gD,C',a',w',bq,t,dU,zq,hn,nO,YO,dS⟩:=dx [r] (by rw[hr];rfl);simp only[Qp]at gD;subst gD;have te:a'.defers=[]:=by
    have:=zq.d;rw[hdf]at this;cases hd:a'.defers with
    |nil=>rfl
    |cons x l=>rw[hd]at this;cases this
   have Zc:∃vM,Steps P (lone bd (CN b a todo mode::cs) w) (lone (CN bd ⟨a'.tmps,[]⟩ vM .returning) bq w'):=by
    have ea:a'=⟨a'.tmps,[]⟩:=by rw[<-te]
    rcases hex with hex|hex
    .rw[hex]at dS;exact⟨[],by rw[<-ea];exact Steps.trans dS (.one (s_end mK))⟩
    .rw[hex]at dS;obtain⟨k2,uR⟩:=dS;exact⟨_,by rw[<-ea];exact Steps.trans uR (.one (s_ret mK))⟩
   obtain⟨vM,Zc⟩:=Zc;have hrr:(results fn a'.tmps).run P w'= .ok (.tuple #[]) w':=by simp[results,hres0]
   have hbdf:P.funcs[bd.fn]?=some fn:=by rw[z7];exact hp
   show∃C' w' ib,_;have hpm:(frame fn.ntmps args m).Zv=m:=rfl;rw[hpm]at YO;generalize r'.b.Zv=q at YO;have q9:=hm.mono t.a;cases YO with
   |same=>
    refine⟨C',w',mode,Zc.trans ?_,t,?_⟩
    .have:=LO (P:=P) (b:=bd) (t:=a'.tmps) (todo:=vM) (c:=CN b a todo mode) (cs:=cs) (w:=w') qC hbdf hrr;refine .one (this.trans ?_);cases hm with
     |J=>rfl
     |O hv=>rfl
    .have:r7 m m=false:=by cases m<;>rfl
     rw[this];exact q9
   |J=>
    cases hm with
    | @O v x hv=>
     refine⟨C',w',.returning,Zc.trans ?_,t,.J⟩;have:=LO (P:=P) (b:=bd) (t:=a'.tmps) (todo:=vM) (c:= {CN b a todo (.panicking [{v:=x,recovered:=false}])with mode:= .panicking [{v:=x,recovered:=true}]}) (cs:=cs) (w:=w') qC hbdf hrr;exact .one this
  unfold my at h;split at h
  .next ZN T' st=>
   cases hd:ZN.defers with
   |nil=>rw[hd]at h;exact fin _ rfl (.inl rfl) hd h
   |cons x l=>rw[hd]at h;cases h
  .next ZN T' st=>
   cases hd:ZN.defers with
   |nil=>rw[hd]at h;exact fin _ rfl (.inr rfl) hd h
   |cons x l=>rw[hd]at h;cases h
  .cases h
 .cases h
theorem Hm (he:Ym E P) {ev:Ev} (jC:pU E P ev):∀ {ds:List kJ} {m m':Option AV} {S S':St},Am.x_ E ev ds m S=some (m',S')->∀ {C:Cx} {w:World} {dv:List Deferred} {mode:FrameMode},YV E C->
 oz C ds dv->YR C S w->jB C mode m->∀(b:Frame) (t:Array Value) (todo:List Item) (cs:List Frame),
 ∃C' w' ib,Steps P (lone (CN b ⟨t,dv⟩ todo mode) cs w) (lone (CN b ⟨t,[]⟩ todo ib) cs w')/\C6 C S w C' S' w'/\jB C' ib m'
 | [],m,m',S,S',h,C,w,dv,mode,hg,hd,hS,hm,b,t,todo,cs=>by
  cases h;cases hd;exact⟨C,w,mode,.refl _ _,C6.u hS,hm⟩
 |d::ds,m,m',S,S',h,C,w,dv,mode,hg,hd,hS,hm,b,t,todo,cs=>by
  simp only[Am.x_]at h;obtain⟨p,hp,h9⟩:=Qa.1 h;cases hd with
  |J jt hdt=>
  have CG:mode≠ .run:=by cases hm<;>simp
  unfold mz at hp;cases jt with
  |J hD=>
   rename_i l r
   simp only at hp;split at hp
   .next hb=>
    cases hp;obtain⟨_,x,hx,hr⟩:=hS.a r _ hb;cases hr with
    |G'=>
    have t1:=DS hS hb (.G' false) (.deferred none) .uI;obtain⟨C',w',ib,hs,t2,uS⟩:=Hm he jC h9 (hg.mono t1.a) (hdt.mono t1.a) t1.c (hm.mono t1.a) b t todo cs;exact⟨C',w',ib,.head (s_take CG hx) hs,t1.trans t2,uS⟩
   .cases hp
  |fn hf ha hb=>
   rename_i l fn aa bb xa xb
   cases fn with
   |func f=>
    simp only at hp;obtain⟨q,hq,hp⟩:=Qa.1 hp;cases hp;obtain⟨rc,S1⟩:=q;have aN:Y0 C (aa++bb) (xa++xb).toList:=by simpa using ha.A hb
    obtain⟨jf,C1,w1,mode1,dt,t1,pr⟩:=XB he jC hq hg aN hS hm b ⟨t,l⟩ todo cs;obtain⟨C',w',ib,hs,t2,uS⟩:=Hm he jC h9 (hg.mono t1.a) (hdt.mono t1.a) t1.c pr b t todo cs;refine⟨C',w',ib,.head (VI CG ?_) (dt.trans hs),t1.trans t2,uS⟩;show(callFunc f (xa++xb)).run P w=_;exact Ee he jf _ w
   |_=>cases hp
end
structure vN (C C2:Cx) (S:St) (w:World) (K:List Nat):Prop where
 a:n_ C C2
 Cr:∀b∈K,∀cs t part,S.heap.u b=some (.J cs t part)->∃c e fr,w.heap[(C.a b).Cr]?=some (.cells c e fr)/\C2.M (C.a b).Cr=some c.toList
theorem DX {f:AV->List Nat->Option (AV×List Nat)} {v:AV} {l:List AV} {ks:List Nat} {r} (h:CW.many f (v::l) ks=some r):
 ∃p q,f v ks=some p/\CW.many f l p.2=some q/\r=(p.1::q.1,q.2):=by
 simp only[CW.many]at h;obtain⟨p,hp,h⟩:=Qa.1 h;obtain⟨q,hq,h⟩:=Qa.1 h;cases h;exact⟨p,q,hp,hq,U⟩
theorem Xk {S:St} {fm:Nat}:∀(n:Nat) {v v':AV} {ks jD:List Nat},CW S fm n v ks=some (v',jD)->v.B=true->v'.B=true
 |n+1,v,v',ks,jD,h,hc=>by
  simp only[CW]at h;split at h
  .next b off len sz cap=>
   cases hb:Nat.blt b fm with
   |true=>rw[hb]at h;cases h;rfl
   |false=>
    rw[hb]at h;simp only[cond_false]at h;obtain⟨cs,_,h⟩:=Qa.1 h;obtain⟨l,_,h⟩:=Qa.1 h;obtain⟨p,_,h⟩:=Qa.1 h;cases h;rfl
  .cases hc
  .cases hc
  .next cs len sz cl=>
   cases cl with
   |true=>cases h;rfl
   |false=>
    simp only[cond_false]at h;obtain⟨p,_,h⟩:=Qa.1 h;cases h;rfl
  .obtain⟨p,_,h⟩:=Qa.1 h;cases h;rfl
  .cases h;exact hc
theorem EO {S:St} {fm n:Nat}:∀ {l:List AV} {ks:List Nat} {r},CW.many (CW S fm n) l ks=some r->h_ l->h_ r.1
 | [],ks,r,h,_=>by cases h;exact fun _ h=>by cases h
 |v::l,ks,r,h,hc=>by
  obtain⟨p,q,h1,h2,rfl⟩:=DX h;intro u hu;rcases Qk.1 hu with rfl|hu
  .exact Xk n (v':=p.1) (jD:=p.2) h1 (hc v (Qh ..))
  .exact EO h2 (fun x hx=>hc x (Qg _ hx)) u hu
theorem Hc {f:AV->List Nat->Option (AV×List Nat)}:∀ {l:List AV} {ks:List Nat} {r},CW.many f l ks=some r->r.1.length=l.length
 | [],ks,r,h=>by cases h;rfl
 |v::l,ks,r,h=>by
  obtain⟨p,q,h1,h2,rfl⟩:=DX h;simp[Hc h2]
theorem GA {S:St} {fm:Nat}:∀(n:Nat) {v v':AV} {ks jD:List Nat},CW S fm n v ks=some (v',jD)->∀b∈ks,b∈jD
 |n+1,v,v',ks,jD,h=>by
  have many:∀ {l:List AV} {ks:List Nat} {r},CW.many (CW S fm n) l ks=some r->∀b∈ks,b∈r.2:=by
   intro l;induction l with
   |nil=>intro ks r h b hb;cases h;exact hb
   |cons a l ih=>
    intro ks r h b hb;obtain⟨p,q,h1,h2,rfl⟩:=DX h;exact ih h2 b (GA n (v':=p.1) (jD:=p.2) h1 b hb)
  simp only[CW]at h;split at h
  .next b off len sz cap=>
   cases hb:Nat.blt b fm with
   |true=>rw[hb]at h;cases h;exact fun _ h=>h
   |false=>grind [Qa]
  .obtain⟨p,hp,h⟩:=Qa.1 h;cases h;exact many hp
  .obtain⟨p,hp,h⟩:=Qa.1 h;cases h;exact many hp
  .next cs len sz cl=>
   cases cl with
   |true=>cases h;exact fun _ h=>h
   |false=>grind [Qa]
  .obtain⟨p,hp,h⟩:=Qa.1 h;cases h;exact GA n (v':=p.1) (jD:=p.2) hp
  .cases h;exact fun _ h=>h
theorem Kq {C C2:Cx} {S:St} {w:World} (hS:YR C S w) {fm:Nat} {K:List Nat} (hF:vN C C2 S w K):∀(n:Nat) {v v':AV} {ks jD:List Nat} {x:Value},CW S fm n v ks=some (v',jD)->
 (∀b∈jD,b∈K)->VR C v x->VR C2 v' x
 |n+1,v,v',ks,jD,x,h,hK,hv=>by
  have many:∀ {l:List AV} {ks:List Nat} {r} {xs:List Value},CW.many (CW S fm n) l ks=some r->(∀b∈r.2,b∈K)->Y0 C l xs->Y0 C2 r.1 xs:=by
   intro l;induction l with
   |nil=>intro ks r xs h _ hv;cases h;cases hv;exact .O
   |cons a l ih=>
    intro ks r xs h hK hv;obtain⟨p,q,h1,h2,rfl⟩:=DX h;cases hv with
    |J qG xL=>
    have hk1:∀b∈p.2,b∈q.2:=by
     clear ih xL;have:∀ {l:List AV} {ks:List Nat} {r},CW.many (CW S fm n) l ks=some r->∀b∈ks,b∈r.2:=by
      intro l;induction l with
      |nil=>intro ks r h b hb;cases h;exact hb
      |cons a l ih=>
       intro ks r h b hb;obtain⟨p,q,h1,h2,rfl⟩:=DX h;exact ih h2 b (GA n (v':=p.1) (jD:=p.2) h1 b hb)
     exact this h2
    exact .J (Kq hS hF n (v':=p.1) (jD:=p.2) h1 (fun b hb=>hK b (hk1 b hb)) qG) (ih h2 hK xL)
  simp only[CW]at h;split at h
  .next b off len sz cap=>
   cases hb:Nat.blt b fm with
   |true=>rw[hb]at h;cases h;exact hv.mono hF.a
   |false=>
    rw[hb]at h;simp only[cond_false]at h;obtain⟨cs,YO,h⟩:=Qa.1 h;obtain⟨l,hl,h⟩:=Qa.1 h;obtain⟨p,hp,h⟩:=Qa.1 h;cases h;cases hv with
    |ZX yN hd hc=>
     have:l=[]:=by
      obtain⟨_,_,_,_,h3⟩:=GH hl;exact List.eq_nil_of_length_eq_zero (by simpa using h3)
     subst this;cases hp;exact .Zk _ (by simp) (Qo _)
    |slice hd hc cM=>
     obtain⟨_,c,e,fr,vs,hx,Zh,nq,af,hcc,_⟩:=hS.u YO;obtain⟨t,part,uN⟩:=F1 YO;obtain⟨c',e',ZN,yJ,hM⟩:=hF.Cr b (hK b (Qh ..)) cs t part uN;rw[hx]at yJ;cases yJ;obtain⟨pre,post,hcsl,ZV,sd⟩:=GH hl;rw[hcsl]at Zh hcc;obtain⟨y1,z3,rfl,h1,h4⟩:=AK Zh;obtain⟨y0,y,rfl,h2,h3⟩:=AK h1;have uT:=many hp (fun k hk=>hK k (Qg _ hk)) h3;have hlen:=Hc hp;refine .Ck (Cr:=(C.a b).Cr) (by rw[hlen,sd]) hM (vs:=y) ?_ uT (fun bu=>BJ 40 uT bu) (EO hp hcc.sub.1.sub.2) cM;have:=nq.sub (a:=y0) (b:=y) (c:=z3) rfl;rw[h2.u,ZV]at this;exact this
  .obtain⟨p,hp,h⟩:=Qa.1 h;cases h;cases hv with
   |agg Zh YO=>exact .agg (many hp hK Zh) (EO hp YO)
  .obtain⟨p,hp,h⟩:=Qa.1 h;cases h;cases hv with
   |J Zh=>exact .J (many hp hK Zh)
  .next cs len sz cl=>
   cases cl with
   |true=>cases h;exact hv.mono hF.a
   |false=>
    simp only[cond_false]at h;obtain⟨p,hp,h⟩:=Qa.1 h;cases h;cases hv with
    |Zk a hl cM=>cases hp;exact .Zk a hl cM
    |Ck hl hm ha Zh hc YO cM=>
     have uT:=many hp hK Zh;exact .Ck (by rw[Hc hp,hl]) (hF.a.M _ _ hm) ha uT (fun bu=>BJ 40 uT bu) (EO hp YO) cM
  .obtain⟨p,hp,h⟩:=Qa.1 h;cases h;cases hv with
   |Z hu=>exact .Z (Kq hS hF n (v':=p.1) (jD:=p.2) hp hK hu)
  .cases h;exact hv.mono hF.a
theorem Xl {C C2:Cx} {S:St} {w:World} (hS:YR C S w) {fm n:Nat} {K:List Nat} (hF:vN C C2 S w K):∀ {l:List AV} {ks:List Nat} {r} {xs:List Value},CW.many (CW S fm n) l ks=some r->(∀b∈r.2,b∈K)->Y0 C l xs->Y0 C2 r.1 xs
 | [],ks,r,xs,h,_,hv=>by cases h;cases hv;exact .O
 |v::l,ks,r,xs,h,hK,hv=>by
  obtain⟨p,q,h1,h2,rfl⟩:=DX h;cases hv with
  |J qG xL=>
  have hk1:∀ {l:List AV} {ks:List Nat} {r},CW.many (CW S fm n) l ks=some r->∀b∈ks,b∈r.2:=by
   intro l;induction l with
   |nil=>intro ks r h b hb;cases h;exact hb
   |cons a l ih=>
    intro ks r h b hb;obtain⟨p,q,h1,h2,rfl⟩:=DX h;exact ih h2 b (GA n (v':=p.1) (jD:=p.2) h1 b hb)
  exact .J (Kq hS hF n (v':=p.1) (jD:=p.2) h1 (fun b hb=>hK b (hk1 h2 b hb)) qG) (Xl hS hF h2 hK xL)
theorem frzP_ok {C C2:Cx} {S:St} {w:World} (hS:YR C S w) {K:List Nat} (hF:vN C C2 S w K) {v v':AV} {jD:List Nat} {x:Value} (h:yf S v=some (v',jD)) (hK:∀b∈jD,b∈K) (hv:VR C v x):VR C2 v' x:=by
 unfold yf at h;split at h
 .next b=>
  obtain⟨cs,YO,h⟩:=Qa.1 h;obtain⟨p,hp,h⟩:=Qa.1 h;cases h;cases hv with
  |H_ hd=>
   obtain⟨_,c,e,fr,vs,hx,Zh,nq,af,hcc,_⟩:=hS.u YO;obtain⟨t,part,uN⟩:=F1 YO;obtain⟨c',e',ZN,yJ,hM⟩:=hF.Cr b (hK b (Qh ..)) cs t part uN;rw[hx]at yJ;cases yJ;exact .Zu (Cr:=(C.a b).Cr) hM (vs:=vs) nq (Xl hS hF hp (fun k hk=>hK k (Qg _ hk)) Zh) (EO hp hcc)
 .exact Kq hS hF 40 (v':=v') (jD:=jD) h hK hv
theorem Nx:∀(K:List Nat) (S:St) (b:Nat),(r1 S K).heap.u b=if b∈K then none else S.heap.u b
 | [],S,b=>by simp[r1]
 |a::l,S,b=>by
  simp only[r1];rw[Nx l,JG];by_cases h:b=a
  .subst h;simp
  .simp[h]
theorem Pg:∀(K:List Nat) {C:Cx} {S:St} {w:World},YR C S w->C6 C S w C (r1 S K) w/\∀b∈K,eU S (r1 S K).c b
 | [],C,S,w,hS=>⟨C6.u hS,fun _ h=>by cases h⟩
 |a::l,C,S,w,hS=>by
  have t1:=C6.N hS a;obtain⟨t2,h2⟩:=Pg l t1.c;refine⟨t1.trans t2,fun b hb=>?_⟩;rcases Qk.1 hb with rfl|hb
  .exact(DV S b none).1.mono t2.f
  .exact(h2 b hb).imp id (fun x=>by rw[t1.d]at x;exact x)
open Classical in
noncomputable def Cx.S (C:Cx) (S:St) (w:World) (K:List Nat):Cx:=
 {C with M:=fun Cr=>if∃b∈K,∃o,S.heap.u b=some o/\(C.a b).Cr=Cr then(match w.heap[Cr]? with|some (.cells c _ _)=>some c.toList|_=>none)else C.M Cr}
theorem Tg {C:Cx} {S:St} {w:World} (hS:YR C S w) (K:List Nat):vN C (C.S S w K) S w K/\C6 C S w (C.S S w K) (r1 S K) w:=by
 have hM:∀Cr ms,C.M Cr=some ms->(C.S S w K).M Cr=some ms:=by
  intro Cr ms h;simp only[Cx.S];rw[if_neg]
  .exact h
  .rintro⟨b,hb,o,ho,rfl⟩;rw[hS.apart b o ho]at h;cases h
 have e:n_ C (C.S S w K):=⟨fun _ h=>h,fun _ _=>rfl,hM,fun _ _ h=>h,fun _ _ _=>rfl,fun _ h=>h⟩
 have hinv:∀Cr ms,(C.S S w K).M Cr=some ms->C.M Cr=some ms\/∃b∈K,∃o,S.heap.u b=some o/\(C.a b).Cr=Cr/\∃c e fr,w.heap[Cr]?=some (.cells c e fr)/\c.toList=ms:=by
  intro Cr ms h;simp only[Cx.S]at h;split at h
  .grind
  .exact .inl h
 obtain⟨t1,hU⟩:=Pg K hS;refine⟨⟨e,?_⟩,⟨e,⟨?_,t1.c.inj,t1.c.fresh,?_,?_,t1.c.d,t1.c.f,t1.c.g,fun Cr ms hm=>(hinv Cr ms hm).elim (hS.j Cr ms) fun⟨b,_,o,ho,vO,_⟩=>vO▸hS.g b (hS.a b o ho).1⟩,t1.d,t1.f,t1.g,t1.size,t1.frame,t1.e,t1.k,t1.own,?_,t1.i⟩⟩
 .intro b hb cs t part ho;obtain⟨_,x,hx,hr⟩:=hS.a b _ ho;cases hr with
  |J hv ha hs YO hf hp=>
   refine⟨_,_,_,hx,?_⟩;simp only[Cx.S];rw[if_pos ⟨b,hb,_,ho,rfl⟩,hx]
 .intro b o hb;obtain⟨hd,x,hx,hr⟩:=t1.c.a b o hb;exact⟨hd,x,hx,hr.mono e hd (fun _ h=>h)⟩
 .intro Cr ms hm;rcases hinv Cr ms hm with h|⟨b,hb,o,ho,vO,c,e,fr,hx,hc⟩
  .exact hS.i Cr ms h
  .exact⟨c,e,fr,hx,hc⟩
 .intro b o hb;cases hm:(C.S S w K).M (C.a b).Cr with
  |none=>exact hm
  |some ms=>
   exfalso;rw[Nx]at hb;split at hb
   .cases hb
   .next hnk=>
    rcases hinv _ ms hm with h|⟨b',dG,o',vP,vO,_⟩
    .rw[hS.apart b o hb]at h;cases h
    .exact hnk (hS.inj b' b o' o vP hb vO▸dG)
 .grind
theorem Gn {C C':Cx} {m:Nat} (hD:∀b,b<m->C'.D b->C.D b/\C'.a b=C.a b) (hG:∀b n,b<m->C'.G b n->C.G b n/\C'.b b n=C.b b n):
 ∀(n:Nat) {v:AV} {x:Value},Cw m n v=true->VR C' v x->VR (C.N C') v x
 |n+1,v,x,h,hv=>by
  have many:∀ {l:List AV} {xs:List Value},l.all (Cw m n)=true->Y0 C' l xs->Y0 (C.N C') l xs:=by
   intro l;induction l with
   |nil=>intro xs _ hv;cases hv;exact .O
   |cons a l ih=>
    intro xs h hv;simp only[List.all_cons,Qf]at h;cases hv with
    |J h1 t=>exact .J (Gn hD hG n h.1 h1) (ih h.2 t)
  have hbare:n_ C'.A (C.N C').A:=⟨fun _ x=>x.elim,fun _ x=>x.elim,fun _ _ h=>h,fun _ _ x=>x.elim,fun _ _ x=>x.elim,fun _ h=>h⟩
  cases hv with
  |bool b=>exact .bool b
  |int k n=>exact .int k n
  |O hs=>exact .O hs
  |Ys=>exact .Ys
  | @H_ _ b off hd=>
   simp only[Cw]at h;obtain⟨h1,h2⟩:=hD b (by simpa[Nat.blt_eq]using h) hd;rw[h2];exact VR.H_ (C:=C.N C') h1
  |Zu hm ha Zh hc=>exact .Zu (C:=C.N C') hm ha (many (by simpa[Cw]using h) Zh) hc
  |Ca a hx=>exact .Ca a hx
  | @slice _ b off len sz cap c hd hc cM=>
   simp only[Cw]at h;obtain⟨h1,h2⟩:=hD b (by simpa[Nat.blt_eq]using h) hd;rw[h2];refine VR.slice (C:=C.N C') h1 ?_ cM;cases cap with
   |some k=>exact hc
   |none=>simp only[tE,h2]at hc;exact hc
  | @ZX _ b off sz a c hx hd hc=>
   simp only[Cw]at h;obtain⟨h1,h2⟩:=hD b (by simpa[Nat.blt_eq]using h) hd;rw[h2]at hc;exact VR.ZX (C:=C.N C') hx h1 hc
  |Zk a h0 cM=>exact .Zk a h0 cM
  | @Ck _ Cr off len sz c cl cs ms vs hl hm ha Zh hc YO cM=>
   simp only[Cw,Bool.or_eq_true]at h;refine VR.Ck (C:=C.N C') hl hm ha ?_ (fun bu=>(hc bu).mono hbare) YO cM;rcases h with h|h
   .exact((hc h).mono hbare).mono (.vB _)
   .exact many h Zh
  |Zn=>exact .Zn
  | @I_ _ b hd=>
   simp only[Cw]at h;obtain⟨h1,h2⟩:=hD b (by simpa[Nat.blt_eq]using h) hd;rw[h2];exact VR.I_ (C:=C.N C') h1
  | @jv _ b n hg=>
   simp only[Cw]at h;obtain⟨h1,h2⟩:=hG b n (by simpa[Nat.blt_eq]using h) hg;rw[h2];exact VR.jv (C:=C.N C') h1
  |fJ p=>exact .fJ p
  |any x h=>exact .any x h
  | @G' _ fn a b x y hf ha hb=>
   have:(a.all (Cw m n)&&b.all (Cw m n))=true:=by
    cases fn with
    |yield l=>exact absurd rfl (hf l)
    |_=>simpa[Cw]using h
   simp only[Qf]at this;exact .G' hf (many this.1 ha) (many this.2 hb)
  | @H' _ l hd=>
   simp only[Cw]at h;obtain⟨h1,h2⟩:=hD l (by simpa[Nat.blt_eq]using h) hd;rw[h2];exact VR.H' (C:=C.N C') h1
  |Cz=>exact .Cz
  |Z hu=>exact .Z (Gn hD hG n (by simpa[Cw]using h) hu)
  |Yk=>exact .Yk
  |agg Zh YO=>exact .agg (many (by simpa[Cw]using h) Zh) YO
  |J Zh=>exact .J (many (by simpa[Cw]using h) Zh)
section
variable {E : a_} {P : Program}
theorem HC {n:Nat} {v v':AV} {S S':St} (h:YE n v S=some (v',S')) {C:Cx} {w:World} (hS:YR C S w) {x:Value} (hv:VR C v x):∃C',C6 C S w C' S' w/\VR C' v' x:=by
 unfold YE at h;obtain⟨p,hp,h⟩:=Qa.1 h;cases h;obtain⟨hf,ht⟩:=Tg hS p.2;exact⟨_,ht,Kq hS hf 40 (v':=p.1) (jD:=p.2) hp (fun _ h=>h) hv⟩
theorem U8 {v v':AV} {S S':St} (h:pg v S=some (v',S')) {C:Cx} {w:World} (hS:YR C S w) {x:Value} (hv:VR C v x):∃C',C6 C S w C' S' w/\VR C' v' x:=by
 unfold pg at h;obtain⟨p,hp,h⟩:=Qa.1 h;cases h;obtain⟨hf,ht⟩:=Tg hS p.2;exact⟨_,ht,frzP_ok hS hf (v':=p.1) (jD:=p.2) hp (fun _ h=>h) hv⟩
theorem Xm {f:FuncId} {s0:St} {v v':AV} {S S':St} (h:frozen E f s0 v S=some (v',S')) {C:Cx} {w:World} (hS:YR C S w) {x:Value} (hv:VR C v x):∃C',C6 C S w C' S' w/\VR C' v' x:=by
 unfold frozen at h;split at h
 .cases h;exact⟨C,C6.u hS,hv⟩
 .split at h
  .exact HC h hS hv
  .cases h;exact⟨C,C6.u hS,hv⟩
 .exact U8 h hS hv
 .exact HC h hS hv
def CrR (C:Cx) (S:St) (w:World) (x:Value) (w':World):CR->Prop
 | .same v=>∃C',C6 C S w C' S w'/\VR C' v x
 | .J v S'=>∃C',C6 C S w C' S' w'/\VR C' v x
 | .O _ _=>False
theorem SM {f:FuncId} {S S1:St} {v:AV} {cr:CR} (h:k_ E f S v S1=some cr) {C C1:Cx} {w w1:World} (hS:YR C S w) (t:C6 C S.u w C1 S1 w1) {x:Value} (hv:VR C1 v x):CrR C S w x w1 cr:=by
 unfold k_ at h;obtain⟨p,hp,h⟩:=Qa.1 h;cases h;obtain⟨v',S'⟩:=p;obtain⟨C2,t2,vQ⟩:=Xm hp t.c hv;have t3:=t.trans t2;unfold bh;simp only;split
 .next CU=>
  cases hu:Cw S.a 40 v' with
  |false=>exact⟨C2,t3.I hS,vQ⟩
  |true=>
   refine⟨_,t3.J hS CU,Gn (m:=S.a) (fun b hb hd=>?_) (fun b n hb hg=>?_) 40 hu vQ⟩
   .have vG:C.D b:=(t3.k b hd).resolve_right (fun h=>by have:S.a<=b:=h;omega);exact⟨vG,t3.a.a b vG⟩
   .have po:=t3.c.d b n hg;have vG:C.D b:=(t3.k b po).resolve_right (fun h=>by have:S.a<=b:=h;omega);have hk:=(t3.e b vG (fun hm=>by
     rcases hm with hm|hm
     .rw[CU]at hm;cases hm
     .have:S.a<=b:=hm;omega)).2 n hg
    exact⟨hk,t3.a.c b n hk⟩
 .exact⟨C2,t3.I hS,vQ⟩
end
def ky (n:String):Bool:=n== "internal/abi.NoEscape" ||n== "internal/bytealg.MakeNoZero" ||n== "internal/bytealg.CountString" ||n== "internal/bytealg.IndexByteString"
def mM (fn:Func):Bool:= !(ky fn.name)||(Extern.allNextRows.lookup fn.origin).isNone
theorem N3 {fn:Func} {n:String} {e:Array Value->Sem Value} (hn:fn.name=n) (h1:Extern.allGenericRows.lookup n=none) (h2:Extern.allTypedRows.lookup n=none) (h3:Extern.allRows.lookup n=some e):
 Extern.find fn=some e:=by
 unfold Extern.find;simp[hn,h1,h2,h3]
theorem UD {fn:Func} {n:String} {e:Extern.Typed} (hn:fn.name=n) (h1:Extern.allGenericRows.lookup n=none) (h2:Extern.allTypedRows.lookup n=some e):
 Extern.find fn=some (e fn.params fn.resultTypes):=by
 unfold Extern.find;simp[hn,h1,h2]
theorem DK {fn:Func} {n:String} (hn:fn.name=n) (h1:Extern.allNextRows.lookup n=none) (h2:(Extern.allNextRows.lookup fn.origin).isNone=true):Extern.findNext fn=none:=by
 unfold Extern.findNext;have:Extern.allNextRows.lookup fn.origin=none:=by simpa using h2
 simp[hn,h1,this]
section
variable {E : a_} {P : Program} (he : Ym E P)
include he
theorem N5 {o:Oper} {c:Call} {f:FuncId} {fn:Func} {e:Array Value->Sem Value} (ho:o.op= .call c) (hc:c.callee= .value (.func f)) (hf:E.a.u f=some fn) (hb:fn.body.isNone=true) (hn:Extern.findNext fn=none)
 (hfd:Extern.find fn=some e) (a:Act) (w:World):(execOp a.eval o).run P w=((e (c.args.toList.map a.eval).toArray).run P w).andThen fun v w'=> .ok (.value v) w':=by
 simp only[execOp,ho,resolve,hc,Act.eval,Deferred.ofValue,Sem.run_bind,Sem.run_pure,Result.andThen_ok,invoke,Array.empty_append,Array.append_empty];rw[F2,run_callFunc_extern (he.fn f fn hf) (he.c f fn hf) hb hn hfd]
omit he in
theorem toU8 {n:Nat} (h:n<256) (b:UInt8):(b==n.toUInt8)=Nat.beq b.toNat n:=by
 have h1:n.toUInt8.toNat=n:=by simp[Nat.mod_eq_of_lt h]
 cases hb:Nat.beq b.toNat n with
 |true=>
  have:=Qb hb;have:b=n.toUInt8:=UInt8.toNat_inj.1 (by rw[h1];exact this);simp[this]
 |false=>grind [Nat.ne_of_beq_eq_false]
omit he in
theorem XK {n:Nat} (h:n<256):∀l:List UInt8,Go.Lib.countByte l n.toUInt8=wG n l
 | []=>rfl
 |b::l=>by
  have ih:=XK h l;simp only[Go.Lib.countByte,wG]at ih|-;rw[List.count_cons,toU8 h,ih];cases Nat.beq b.toNat n<;>rfl
omit he in
theorem WS {n:Nat} (h:n<256):∀l:List UInt8,Go.Lib.indexByte l n.toUInt8=(match yc n l with|some k=>(k:Int)|none=> -1)
 | []=>rfl
 |b::l=>by
  have ih:=WS h l;simp only[Go.Lib.indexByte,yc,toU8 h];cases Nat.beq b.toNat n with
  |true=>rfl
  |false=>grind
omit he in
theorem Hg:∀(n t:Nat) (acc:Array Value),(Extern.BytealgMakeNoZero.digits n t acc).size=acc.size+n
 |0,_,_=>rfl
 |n+1,t,acc=>by
  rw[Extern.BytealgMakeNoZero.digits,Hg n,Array.size_push];omega
theorem Uw {t e:TypeId} (hu:CS E t=some (.slice e)) (ps:Array TypeId) (n:Nat) (hn:n<=281474976710656) (w:World):
 ∃cs:Array Value,(Extern.BytealgMakeNoZero.makeNoZero ps #[t] #[.int .i64 (n:Int)]).run P w= .ok (.slice (some ⟨w.heap.size,0,none⟩) n cs.size) (World.A {w with drawn:=w.drawn+1+1} (.cells cs e (0,0)))/\n<=cs.size:=by
 have h1:¬(n:Int)<0:=by omega
 have h2:¬(281474976710656:Int)<(n:Int):=by omega
 have uU:∃(m1 m2:String) (q:Question),Extern.BytealgMakeNoZero.makeNoZero ps #[t] #[.int .i64 (n:Int)]=
  (do
   let .slice elem<-underlying t|stuck m1
   if(n:Int)<0||(n:Int)>2^48 then runtimePanic (.error m2)
   let cap<-choose (.appendCap (n:Int).toNat 0 elem)
   askRoom cap
   let bytes<-choose q
   let a<-newRow elem (Extern.BytealgMakeNoZero.digits cap bytes #[])
   pure (.slice (some a) (n:Int).toNat cap))/\q.forced=false:=⟨_,_,_,rfl,rfl⟩
 obtain⟨m1,m2,q,uU,hq⟩:=uU;refine⟨Extern.BytealgMakeNoZero.digits (grownCap w n 0 e) (q.cut (w.tape (w.drawn+1) q)) #[],?_,?_⟩
 .rw[uU];have kN:(Question.appendCap n 0 e).forced=false:=rfl;simp[run_underlying (Dw he hu),h1,h2,hq,kN,newRow,Hg,grownCap,World.A];rfl
 .rw[Hg];simpa using grownCap_ge w n 0 e
omit he in
theorem R8 {a b v:AV} (h:uC a b=some v):∃l c,a= .J l/\b= .int .u8 ((c:Nat):Int)/\c<256/\v= .int .i64 (wG c l):=by
 unfold uC at h;split at h
 .grind [Nat.blt_eq]
 .cases h
omit he in
theorem Kl {a b v:AV} (h:l4 a b=some v):∃l c,a= .J l/\b= .int .u8 ((c:Nat):Int)/\c<256/\v= .int .i64 (match yc c l with|some k=>(k:Int)|none=> -1):=by
 unfold l4 at h;split at h
 .grind [Nat.blt_eq]
 .cases h
theorem ok_ext (za:∀f fn,E.a.u f=some fn->mM fn=true) {o:Oper} {c:Call} {f:FuncId} (ho:o.op= .call c) (hc:c.callee= .value (.func f)) (hb:CI E f=false):
 b5 E P o (mw E f (F' E f) c.args.toList):=by
 cases hf:E.a.u f with
 |none=>
  have:F' E f= "" :=by simp[F',hf]
  rw[this];unfold mw;split
  .exact Ao
  .exact Ao
  .exact Ao
 |some fn=>
 have yF:F' E f=fn.name:=by simp[F',hf]
 have jf:fn.body.isNone=true:=by grind [CI]
 have hor':=za f fn hf;have org:ky fn.name=true->(Extern.allNextRows.lookup fn.origin).isNone=true:=by grind [mM]
 rw[yF];unfold mw;split
 .next x aN=>
  cases h1:(fn.name== "internal/abi.NoEscape")with
  |true=>
   have hn:fn.name= "internal/abi.NoEscape" :=by simpa using h1
   have ht:=org (by simp[ky,h1]);have run:=N5 he ho hc hf jf (DK hn U ht) (N3 (e:=Extern.AbiNoEscape.same) hn U U U);intro C T a S w hg hT hS v h;refine⟨a.eval x,?_,An hg hT h⟩;rw[run,aN];rfl
  |false=>
  cases h2:(fn.name== "internal/bytealg.MakeNoZero")with
  |true=>
   have hn:fn.name= "internal/bytealg.MakeNoZero" :=by simpa using h2
   have ht:=org (by simp[ky,h2]);have run:=N5 he ho hc hf jf (DK hn U ht) (UD (e:=Extern.BytealgMakeNoZero.makeNoZero) hn U U);simp only[cond_false,cond_true];rw[hf];cases kO:ye E (some fn)with
   |none=>exact Ao
   |some e=>
   simp only;have hrt:∃t,fn.resultTypes= #[t]/\CS E t=some (.slice e):=by grind [ye]
   obtain⟨t,hrt,hu⟩:=hrt;intro C T a S w hg hT hS;have key:∀m,((Ch E x T).bind (pf e))=some m->∃n:Nat,VR C (.int .i64 (n:Int)) (a.eval x)/\0<n/\n<=1099511627776/\m= .J (.J [] e true) fun i=> .slice i 0 n 1 none:=by
    intro m h;obtain⟨v,hv,h⟩:=Qa.1 h;unfold pf at h;split at h
    .next n=>
     cases uy:(Nat.blt 0 n&&Nat.ble n 1099511627776)with
     |false=>rw[uy]at h;cases h
     |true=>
      rw[uy]at h;simp only[cond_true,Option.some.injEq]at h;rw[Qf]at uy;exact⟨n,An hg hT hv,by simpa[Nat.blt_eq]using uy.1,Qc uy.2,h.symm⟩
    .cases h
   refine⟨fun v h=>?_,fun ob g h=>?_⟩
   .grind
   .obtain⟨n,hv,se,gM,h⟩:=key _ h;cases h;generalize hq:a.eval x=q at hv;cases hv;obtain⟨cs,hrow,hle⟩:=Uw he hu fn.params n (by omega) w;have ku:=C6.B hS (w.drawn+1);have zA:=C6.B ku.c (w.drawn+1+1);have hal:=DQ zA.c (cs:=[]) (c:=cs) (vs:=[]) (ex:=cs.toList) .O (by simp) (fun _ h=>by cases h) e true (fun h=>by cases h);refine⟨_,_,_,?_,(ku.trans zA).trans hal,DZ (n:=cs.size) (cap:=none) (c:=cs.size) ⟨by simp,Nat.one_pos⟩ hle⟩;rw[run,aN];simp only[List.map_cons,List.map_nil,hq,hrt];rw[hrow];rfl
  |false=>simp_all [Ao]
 .next x y aN=>
  cases h1:(fn.name== "internal/bytealg.CountString")with
  |true=>
   have hn:fn.name= "internal/bytealg.CountString" :=by simpa using h1
   have ht:=org (by simp[ky,h1]);have run:=N5 he ho hc hf jf (DK hn U ht) (N3 (e:=Extern.BytealgCount.count) hn U U U);intro C T a S w hg hT hS v h;obtain⟨u1,hu1,h⟩:=Qa.1 h;obtain⟨u2,yK,h⟩:=Qa.1 h;have qG:=An hg hT hu1;have vQ:=An hg hT yK;obtain⟨l,c',rfl,rfl,oV,rfl⟩:=R8 h;generalize kN:a.eval x=q1 at qG;generalize np:a.eval y=q2 at vQ;cases qG with
   | @O _ _ s hs=>
   cases vQ;refine⟨_,?_,.int _ _⟩;rw[run,aN];simp only[List.map_cons,List.map_nil,kN,np];have:=Go.Lib.run_countString (P:=P) s (c':Int) w;simp only[Int.toNat_natCast]at this;rw[hs,XK oV]at this;show((Extern.BytealgCount.count #[.string s,.int .u8 (c':Int)]).run P w).andThen _=_;rw[this];rfl
  |false=>
  cases h2:(fn.name== "internal/bytealg.IndexByteString")with
  |true=>
   have hn:fn.name= "internal/bytealg.IndexByteString" :=by simpa using h2
   have ht:=org (by simp[ky,h2]);have run:=N5 he ho hc hf jf (DK hn U ht) (N3 (e:=Extern.BytealgIndexByte.indexByte) hn U U U);intro C T a S w hg hT hS v h;obtain⟨u1,hu1,h⟩:=Qa.1 h;obtain⟨u2,yK,h⟩:=Qa.1 h;have qG:=An hg hT hu1;have vQ:=An hg hT yK;obtain⟨l,c',rfl,rfl,oV,rfl⟩:=Kl h;generalize kN:a.eval x=q1 at qG;generalize np:a.eval y=q2 at vQ;cases qG with
   | @O _ _ s hs=>
   cases vQ;have:=Go.Lib.run_indexByteString (P:=P) s (c':Int) w;simp only[Int.toNat_natCast]at this;rw[hs,WS oV]at this;refine⟨_,?_,.int _ _⟩;rw[run,aN];simp only[List.map_cons,List.map_nil,kN,np];show((Extern.BytealgIndexByte.indexByte #[.string s,.int .u8 (c':Int)]).run P w).andThen _=_;rw[this];rfl
  |false=>simp_all [Ao]
 .exact Ao
omit he in
theorem junk_ok {C:Cx} {S:St} {w:World} (hS:YR C S w) {ts:Array TypeId} {ty e:TypeId} (hp:P.underlying ty=some (.pointer e)) (a:Option Addr) (ha:x8 C a) (n c:Nat):
 ∃C' p w',(Builtin.unsafeSliceData_ ts ty #[.slice a n c]).run P w= .ok (.pointer p) w'/\C6 C S w C' S w':=by
 cases a with
 |none=>exact⟨C,none,w,rfl,C6.u hS⟩
 |some ad=>
  cases c with
  |succ c=>exact⟨C,some ad,w,rfl,C6.u hS⟩
  |zero=>
   have uU:Builtin.unsafeSliceData_ ts ty #[.slice (some ad) n 0]=
    (do
     if(0:Nat)≠0 then pure (.pointer (some ad))
     else if(<-viewAt ad.block).isSome then pure (.pointer (some ad))
     else pure (.pointer (some ⟨<-newObj (.view ad (<-elemOf ty)),0,none⟩))):=rfl
   rw[uU];have C8:=hS.f _ (ha ad rfl);have hx:w.heap[ad.block]?=some w.heap[ad.block]:=Array.getElem?_eq_getElem C8;generalize w.heap[ad.block]=x at hx;have hel:(elemOf ty).run P w= .ok e w:=by simp[elemOf,run_underlying hp]
   have made:(viewAt ad.block).run P w= .ok none w->∃C' p w',(do
    if(0:Nat)≠0 then pure (.pointer (some ad))
    else if(<-viewAt ad.block).isSome then pure (.pointer (some ad))
    else pure (.pointer (some ⟨<-newObj (.view ad (<-elemOf ty)),0,none⟩)):Sem Value).run P w= .ok (.pointer p) w'/\C6 C S w C' S w':=by
    intro hv;refine⟨C,some ⟨w.heap.size,0,none⟩,World.A w (.view ad e),?_,I5 hS _⟩;simp[hv,hel,World.A]
   cases x with
   |cells q t f=>exact made (by simp[viewAt,World.shape?,hx])
   |view q t=>
    refine⟨C,some ad,w,?_,C6.u hS⟩;have hv:(viewAt ad.block).run P w= .ok (some (q,t)) w:=by
     simp only[viewAt,Sem.run_bind,run_shape,World.shape?,hx,Result.andThen_ok];simp[AN hx (by simp)]
    simp[hv]
   |_=>
    refine made ?_;simp only[viewAt,Sem.run_bind,run_shape,World.shape?,hx,Result.andThen_ok];simp[AN hx (by simp)]
theorem ok_data {o:Oper} {c:Call} {x:Operand} (ho:o.op= .call c) (hc:c.callee= .builtin .unsafeSliceData) (aN:c.args.toList=[x]):b5 E P o (vw E o.type x):=by
 unfold vw;split
 .next e hu=>
  have hp:=Dw he hu;have uM:∀ρ:Operand->Value,c.args.map ρ= #[ρ x]:=by intro ρ;apply Array.ext';simp[aN]
  have hZ:∀(ρ:Operand->Value) (w:World),(execOp ρ o).run P w=((Builtin.unsafeSliceData_ c.argTypes o.type #[ρ x]).run P w).andThen fun v w'=> .ok (.value v) w':=by
   intro ρ w;simp only[execOp,ho,resolve,hc,Sem.run_bind,Sem.run_pure,Result.andThen_ok,invoke,builtin,uM]
  intro C T a S w hg hT hS;refine⟨fun v h=>?_,fun ob g h=>?_⟩
  .obtain⟨u,ov,h⟩:=Qa.1 h;have hv:=An hg hT ov;rw[hZ];unfold ra at h;split at h
   .next r hr=>
    cases h;have fJ:∀ad n k,a.eval x= .slice ad n k->x8 C ad->v= .fJ->∃C' y w',((Builtin.unsafeSliceData_ c.argTypes o.type #[a.eval x]).run P w).andThen (fun v w'=> .ok (Next.value v) w')= .ok (.value y) w'/\C6 C S w C' S w'/\VR C' v y:=by
     intro ad n k h1 h2 h3;obtain⟨C',p,w',hr,ht⟩:=junk_ok (P:=P) hS (ts:=c.argTypes) hp ad h2 n k;exact⟨C',.pointer p,w',by rw[h1,hr];rfl,ht,by rw[h3];exact .fJ p⟩
    generalize hq:a.eval x=q at hv;cases hv with
    |Ca ad hx=>cases hr;rw[<-hq];exact fJ _ _ _ hq hx rfl
    | @slice _ b off len sz cap k hd ek cM=>
     cases len with
     |zero=>cases hr;rw[<-hq];exact fJ _ _ _ hq (.some (hS.g _ hd)) rfl
     |succ len=>
      cases hr;refine⟨C,_,w,?_,C6.u hS,.H_ hd⟩;cases k with
      |zero=>omega
      |succ k=>rfl
    |ZX hx hd ek=>cases hr;rw[<-hq];exact fJ _ _ _ hq (.some hx) rfl
    |_=>simp[yd]at hr
   .cases h
  .grind [ra,Qa]
 .exact Ao
omit he in
theorem Qu {C:Cx} {S:St} {w:World} (h:YR C S w) {b:Nat} {o0:Cv} (nk:S.heap.u b=some o0) (x:Obj):C6 C S w C (S.B b none) (World.u w (C.a b).Cr x):=by
 have gz:=fun k=>JG S b k none;have f:∀j oj,(S.B b none).heap.u j=some oj->j≠b/\S.heap.u j=some oj:=by grind
 refine⟨.u C,⟨fun k ok hk=>?_,fun k k' ok vD hk oQ=>h.inj k k' ok vD (f k ok hk).2 (f k' vD oQ).2,h.fresh,fun Cr ms hm=>?_,fun k ok hk=>h.apart k ok (f k ok hk).2,h.d,
  fun k hk=>by simpa[World.u]using h.f k hk,h.g,h.j⟩,rfl,(DV S b _).2,Qj _,by simp[World.u],fun Cr _ hn=>?_,fun k _ hm=>?_,fun _ h=> .inl h,
  fun k ok hk=> .inl ⟨(h.a k ok (f k ok hk).2).1,ok,(f k ok hk).2⟩,fun _ _ h=> .inl h,⟨rfl,rfl,rfl⟩⟩
 .obtain⟨ZT,oQ⟩:=f k ok hk;obtain⟨hd,y,hy,hr⟩:=h.a k ok oQ;exact⟨hd,y,by rw[Bi,if_neg (fun e=>ZT (h.inj k b ok o0 oQ nk e))];exact hy,hr⟩
 .obtain⟨c,ty,fr,hc,e⟩:=h.i Cr ms hm;refine⟨c,ty,fr,?_,e⟩;rw[Bi,if_neg];· exact hc
  intro e';have:=h.apart b o0 nk;rw[<-e',hm]at this;cases this
 .grind [Bi,DV]
 .grind [DV]
omit he in
theorem H8:∀(ns:List Int) (a:Addr) (acc:ByteArray) {w:World},qF w a (ns.map (.int .u8))->(∀i j,(a.add i).add j=a.add (i+j))->
 (loadBytes a acc ns.length).run P w= .ok ⟨acc.data++(ns.map fun n=>UInt8.ofNat n.toNat).toArray⟩ w
 | [],a,acc,w,_,_=>by simp[loadBytes]
 |n::ns,a,acc,w,h,hadd=>by
  have h0:w.cell? a=some (.int .u8 n):=by
   have:=h 0 (.int .u8 n) rfl;simpa[Addr.add]using this
  have ih:=H8 ns (a.add 1) (acc.push n.toNat.toUInt8) (w:=w) (fun j v hj=>by rw[hadd];rw[Nat.add_comm];exact h (j+1) v (by simpa using hj)) (fun i j=>by rw[hadd,hadd,hadd,Nat.add_assoc]);simp only[List.length_cons,loadBytes,Sem.run_bind,run_load,h0,Result.andThen];rw[ih]
  congr 1
  apply ByteArray.ext;simp[ByteArray.push]
theorem Uz {e:TypeId} (hn:Am.an E e=some 1) {count off n:Nat} (h:off+n<=count):liesAt P P.depth e (count/P.cellsOf e) off e n=true:=by
 have hc:=I2 (P:=P) he hn;have tJ:∃q,P.depth=q+2:=⟨_,rfl⟩
 obtain⟨q,hq⟩:=tJ;rw[hc,Nat.div_one,hq,liesAt];refine Bool.or_eq_true_iff.2 (.inl ?_);rw[hq,rowAt,hc];simp[h,sameLayout,Nat.mod_one]
omit he in
theorem Xn {w:World} {Cr off n:Nat} {c:Array Value} {e:TypeId} {fr:Nat×Nat} (h:w.heap[Cr]?=some (.cells c e fr)) (hn:n≠0):
 ∃ZN,w.freeze ⟨Cr,off,none⟩ n=World.u w Cr (.cells c e ZN):=by
 unfold World.freeze World.u;rw[if_neg hn,JT h];exact⟨_,U⟩
omit he in
theorem O6 {s:St} {e' n:Nat} {v:AV} {r:AV×St} (h:kg s E e' n v=some r):
 (n=0/\r=(.J [],s)/\(v= .Ys\/v= .fJ\/∃b off,v= .Z b off))\/(n≠0/\∃b off,v= .Z b off/\j4 s E e' b off n (s.heap.u b)=some r):=by
 unfold kg at h;split at h
 .cases h0:Nat.beq n 0 with
  |true=>rw[h0]at h;cases h;exact .inl ⟨Qb h0,rfl,.inr (.inr ⟨_,_,rfl⟩)⟩
  |false=>rw[h0]at h;exact .inr ⟨Nat.ne_of_beq_eq_false h0,_,_,rfl,h⟩
 .cases h0:Nat.beq n 0 with
  |true=>rw[h0]at h;cases h;exact .inl ⟨Qb h0,rfl,.inr (.inl rfl)⟩
  |false=>rw[h0]at h;cases h
 .cases h0:Nat.beq n 0 with
  |true=>rw[h0]at h;cases h;exact .inl ⟨Qb h0,rfl,.inl rfl⟩
  |false=>rw[h0]at h;cases h
 .cases h
omit he in
theorem MV {s:St} {e' b off n:Nat} {o:Option Cv} {r:AV×St} (h:j4 s E e' b off n o=some r):
 ∃cs part l q,o=some (.J cs e' part)/\y_ cs off n=some l/\ZE l=some q/\r=(.J q,s.B b none):=by
 unfold j4 at h;split at h
 .next cs e part=>
  cases xM:(Nat.beq e e'&&r5 E e)with
  |false=>rw[xM]at h;cases h
  |true=>
   rw[xM]at h;simp only[cond_true]at h;rw[Qf]at xM;have:=Qb xM.1;subst this;obtain⟨l,hl,h'⟩:=Qa.1 h;obtain⟨q,hq,h''⟩:=Qa.1 h';cases h'';exact⟨_,_,l,q,U,hl,hq,U⟩
 .cases h
theorem ok_str {o:Oper} {c:Call} {t:TypeId} {ts:List TypeId} {x y:Operand} (ho:o.op= .call c) (hc:c.callee= .builtin .unsafeString) (th:c.argTypes.toList=t::ts) (aN:c.args.toList=[x,y]):
 b5 E P o (pd E t x y):=by
 unfold pd;split
 .next e hu=>
  cases oU:(r5 E e&&Nat.beq ((Am.an E e).getD 0) 1)with
  |false=>exact Ao
  |true=>
  rw[Qf]at oU;have af:Am.an E e=some 1:=by
   cases hq:Am.an E e with
   |none=>rw[hq]at oU;exact absurd oU.2 (by decide)
   |some k=>simp_all [Qb]
  have hp:=Dw he hu;have uM:∀ρ:Operand->Value,c.args.map ρ= #[ρ x,ρ y]:=by intro ρ;apply Array.ext';simp[aN]
  have wK:c.argTypes[0]?=some t:=by rw[<-Array.getElem?_toList,th];rfl
  have hZ:∀(ρ:Operand->Value) (w:World),(execOp ρ o).run P w=((Builtin.unsafeString_ c.argTypes o.type #[ρ x,ρ y]).run P w).andThen fun v w'=> .ok (.value v) w':=by
   intro ρ w;simp only[execOp,ho,resolve,hc,Sem.run_bind,Sem.run_pure,Result.andThen_ok,invoke,builtin,uM]
  intro C T a S w hg hT hS v S' h;obtain⟨av,oy,h⟩:=Qa.1 h;obtain⟨bv,yU,h⟩:=Qa.1 h;obtain⟨n,hn,h⟩:=Qa.1 h;have hv:=An hg hT oy;have hw:=An hg hT yU;cases hle:Nat.ble n 1099511627776 with
  |false=>rw[hle]at h;cases h
  |true=>
  rw[hle]at h;simp only[cond_true]at h;have hle':=Qc hle;obtain⟨k,hk⟩:∃k,a.eval y= .int k (n:Int):=by
   unfold Ze at hn;split at hn
   .next k' m=>
    cases hn;generalize a.eval y=q at hw;cases hw;exact⟨_,U⟩
   .cases hn
  have hmax:IntKind.i64.max=9223372036854775807:=rfl;have mG:¬((n:Int)<0):=by omega
  have hbig:¬((9223372036854775807:Int)<(n:Int)):=by omega
  have zB:∃(m1 m2 m3:String) (u:Unsupported),∀(ts:Array TypeId) (ty:TypeId) (l:Value),Builtin.unsafeString_ ts ty #[.pointer none,l]=
   (do
    let n<-asInt l
    let some pt:=ts[0]?|stuck m1
    if n<0 then runtimePanic (.error m2)
    if n>IntKind.i64.max then unsupported u
    if n=0 then pure (.string .empty)
    else runtimePanic (.error m3)):=⟨_,_,_,_,fun _ _ _=>rfl⟩
  have vR:∃(m1 m2:String) (u u':Unsupported),∀(ts:Array TypeId) (ty:TypeId) (l:Value) (ad:Addr),Builtin.unsafeString_ ts ty #[.pointer (some ad),l]=
   (do
    let n<-asInt l
    let some pt:=ts[0]?|stuck m1
    if n<0 then runtimePanic (.error m2)
    if n>IntKind.i64.max then unsupported u
    if n=0 then pure (.string .empty)
    else if<-variablesAt ad (<-elemOf pt) n.toNat then do
     let s<-loadBytes ad .empty n.toNat
     freeze ad n.toNat
     pure (.string s)
    else unsupported u'):=⟨_,_,_,_,fun _ _ _ _=>rfl⟩
  obtain⟨_,_,_,_,zB⟩:=zB;obtain⟨_,_,_,_,vR⟩:=vR;have nothing:∀p,a.eval x= .pointer p->n=0->(execOp a.eval o).run P w= .ok (.value (.string .empty)) w:=by
   intro p hpx h0;subst h0;rw[hZ,hpx,hk];cases p with
   |none=>rw[zB];simp[asInt,asIntOf,wK,hmax]
   |some ad=>rw[vR];simp[asInt,asIntOf,wK,hmax]
  rcases O6 h with⟨h0,tj,jE⟩|⟨se,b,off,rfl,Z2⟩
  .cases tj;have hpx:∃p,a.eval x= .pointer p:=by
    generalize a.eval x=q at hv;rcases jE with rfl|rfl|⟨b,off,rfl⟩<;>cases hv<;>exact⟨_,rfl⟩
   obtain⟨p,hpx⟩:=hpx;exact⟨C,_,w,nothing p hpx h0,C6.u hS,.J (.O U)⟩
  .obtain⟨cs,part,l,r,uN,hl,hr,wR⟩:=MV Z2;cases wR;generalize hq:a.eval x=q at hv;cases hv with
   |H_ hd=>
   obtain⟨_,xo,hx,za⟩:=hS.a b _ uN;cases za with
   |J Zh ha hs YO hf oR=>
   rename_i cc fr vs
   obtain⟨pre,post,hcsl,ZV,sd⟩:=GH hl;rw[hcsl]at Zh;obtain⟨y1,z3,rfl,h1,h4⟩:=AK Zh;obtain⟨y0,ym,rfl,h2,h3⟩:=AK h1;obtain⟨ns,hns,hrr⟩:=Ef h3 hr;have nq:=ha.sub (a:=y0) (b:=ym) (c:=z3) rfl;rw[h2.u,ZV]at nq;have hlen:ns.length=n:=by
    have:=h3.u;rw[hns]at this;simp only[Qn]at this;omega
   have ox:=Iu hx nq;rw[hns]at ox;have rk:=H8 (P:=P) ns ⟨(C.a b).Cr,(C.a b).base+off,none⟩ .empty ox (fun i j=>by simp[Bh,Nat.add_assoc]);rw[hlen]at rk;have b7:(C.a b).base+off+n<=cc.size:=by
    have:=nq.le;rw[hns]at this;simp only[Qn,hlen,Array.length_toList]at this;exact this
   have yP:=Uz (P:=P) he af b7;have hsh:w.shape? (C.a b).Cr=some (e,cc.size):=by simp[World.shape?,hx]
   obtain⟨ZN,hfz⟩:=Xn (off:=(C.a b).base+off) hx se;refine⟨C,.value (.string ⟨(ByteArray.empty).data++(ns.map fun n=>UInt8.ofNat n.toNat).toArray⟩),_,?_,Qu hS uN (.cells cc e ZN),.J (.O ?_)⟩
   .rw[hZ,hq,hk,<-hfz,vR];simp[asInt,asIntOf,wK,hmax,mG,hbig,se,variablesAt,hsh,elemOf,run_underlying hp,yP,rk]
   .rw[hrr];simp
 .exact Ao
theorem zC (za:∀f fn,E.a.u f=some fn->mM fn=true):eo E P:=
 ⟨fun _ _ _ _ h1 h2 h3=>ok_ext he za h1 h2 h3,fun _ _ _ _ h1 h2 h3=>ok_data he h1 h2 h3,fun _ _ _ _ _ _ _ h1 h2 h3 h4=>ok_str he h1 h2 h3 h4⟩
end
structure lL (E:a_) (P:Program):Prop where
 ay:∀(f:FuncId) (args:List AV) (v:AV),E.d f args=some v->∀(C:Cx) (S:St) (w:World) (xs:Array Value) (c:Frame) (cs:List Frame),YV E C->Y0 C args xs.toList->YR C S w->
  k9 P (lone (Frame.enter P f xs .normal) (c::cs) w) c cs C S w (.same v)
 jw:∀(f:FuncId) (g:List AV->St->Option (AV×St)),E.g f=some g->∀(args:List AV) (S:St) (v:AV) (S':St),g args S=some (v,S')->∀(C:Cx) (w:World) (xs:Array Value) (c:Frame) (cs:List Frame),YV E C->Y0 C args xs.toList->YR C S w->
  k9 P (lone (Frame.enter P f xs .normal) (c::cs) w) c cs C S w (.J v S')
section
variable {E : a_} {P : Program}
theorem xK.none {p q:Option AV} {a b:List Frame} (h:xK p q a b) (hp:p=none):b=a:=by
 cases h with
 |same=>rfl
 |J=>cases hp
theorem leaves {b:Frame} {cs:List Frame} {C:Cx} {m:Machine} {ex:Ex} {a:Act} {w:World} (hr:b.roundOf=none) (he:E' P b [] cs C m ex a w) {mo:Option AV} (hm:gu ex=some mo):
 ∃todo mode,Steps P m (lone (CN b a todo mode) cs w)/\jB C mode mo:=by
 cases ex with
 |J=>cases hm;exact⟨[],.returning,Steps.trans he (.one (s_end hr)),.J⟩
 |Z=>cases hm;obtain⟨k2,h⟩:=he;exact⟨_,.returning,Steps.trans h (.one (s_ret hr)),.J⟩
 |O v=>cases hm;obtain⟨k2,x,h,hv,_⟩:=he;exact⟨k2,_,h,.O hv⟩
 |G' id=>cases hm
theorem CrR.returns {C:Cx} {S:St} {w w':World} {x:Value} {cr:CR} (h:CrR C S w x w' cr) {m:Machine} {c:Frame} {cs:List Frame} (hs:Steps P m (lone (c.finish x) cs w')):k9 P m c cs C S w cr:=by
 cases cr with
 |same v=>obtain⟨C',t,hv⟩:=h;exact⟨C',x,w',hs,t,hv⟩
 |J v S'=>obtain⟨C',t,hv⟩:=h;exact⟨C',x,w',hs,t,hv⟩
 |O v S'=>cases h
theorem R4 (he:Ym E P) {ev:Ev} (jC:pU E P ev) {f:FuncId} {fn:Func} (hp:P.funcs[f]?=some fn) {S:St} {r:dJ} {cr:CR} (h:ZF E ev f fn S r=some cr) {C C1:Cx} {w w1:World} (hg:YV E C)
 (hS:YR C S w) (t:C6 C S.u w C1 r.a w1) {b:Frame} {a1:Act} (hT:TR C1 r.b.nt r.T a1.tmps) {c:Frame} {cs:List Frame} (hF:rq C1 r.b b a1 (c::cs)) (hk:b.kind= .normal) (hr:b.roundOf=none) (hf:b.fn=f)
 {m:Machine} (dS:E' P b [] (c::cs) C1 m r.c a1 w1):k9 P m c cs C S w cr:=by
 unfold ZF at h;obtain⟨mo,kQ,h⟩:=Qa.1 h;obtain⟨p,ow,h⟩:=Qa.1 h;obtain⟨m',S'⟩:=p;obtain⟨todo,mode,dt,pr⟩:=leaves hr dS kQ;have ff:=hg.mono t.a;obtain⟨C2,w2,mode2,qK,t2,uS⟩:=Hm he jC ow ff hF.d t.c pr b a1.tmps todo (c::cs);have Zc:=dt.trans qK;have t3:=t.trans t2;unfold r9 at h;cases uS with
 |J=>
  simp only at h;obtain⟨vs,Zh,h⟩:=Qa.1 h;have hTT:TR C2 a1.tmps.size r.T a1.tmps:=⟨rfl,(hT.mono t2.a).2⟩
  obtain⟨x,hx,eV⟩:=J8 he hTT t3.c Zh;refine(SM h hS t3 eV).returns (Zc.trans (.one ?_));exact step_leave_returned ⟨U,U,hk,fn,by show P.funcs[b.fn]?=_;rw[hf];exact hp,hx⟩
 | @O v x hv=>
  simp only at h;cases h;refine⟨C2,x,w2,Zc.trans (.one ?_),t3.I hS,hv⟩;exact step_leave_panicked ⟨U,U,fn,by show P.funcs[b.fn]?=_;rw[hf];exact hp⟩
theorem YR.B {C:Cx} {S:St} {w:World} (h:YR C S w):YR C S.u w:=h.I _ _
theorem Su {a b:AV} (h:pL a b=true):a=b:=by
 unfold pL at h;split at h
 .next x y=>cases x<;>cases y<;>first|rfl|cases h
 .next j a k b=>
  by_cases hk:j=k
  .rw[if_pos hk]at h;rw[hk,of_decide_eq_true h]
  .rw[if_neg hk]at h;cases h
 .next a b=>rw[AY]at h;rw[of_decide_eq_true h]
 .rfl
 .simp only[Qf]at h;rw[Qb h.1,Qb h.2]
 .rfl
 .next a b c d e f g i j k=>
  simp only[Qf]at h;obtain⟨⟨⟨⟨h1,h2⟩,h3⟩,h4⟩,h5⟩:=h;rw[Qb h1,Qb h2,Qb h3,Qb h4];unfold sameO at h5;split at h5
  .rfl
  .rw[Qb h5]
  .cases h5
 .rfl
 .rw[Qb h]
 .cases h
theorem IZ:∀ {a b:List AV},la a b=true->a=b
 | [],[],_=>rfl
 | [],_::_,h=>by cases h
 |_::_,[],h=>by cases h
 |a::l,b::r,h=>by
  simp only[la,Qf]at h;rw[Su h.1,IZ h.2]
theorem Ht {a b:AV} (h:eK a (some b)=true):a=b:=by
 unfold eK at h;split at h
 .next e=>cases e;rw[IZ h]
 .next e=>cases e;rw[IZ h]
 .next e=>cases e;exact Su h
 .next e=>cases e
mutual
theorem He:∀ {a b:AV},bM a b=true->a=b
 | .bool a,b,h=>by
  cases b<;>simp only[bM]at h<;>try (cases h;done)
  rename_i b;cases a<;>cases b<;>first|rfl|cases h
 | .int j a,b,h=>by
  cases b<;>simp only[bM]at h<;>try (cases h;done)
  split at h
  .next hk=>subst hk;simp at h;rw[h]
  .cases h
 | .J a,b,h=>by
  cases b<;>simp only[bM]at h<;>try (cases h;done)
  rw[AY]at h;simp at h;rw[h]
 | .Ys,b,h=>by cases b<;>first|rfl|(simp only[bM]at h;cases h)
 | .Ca,b,h=>by cases b<;>first|rfl|(simp only[bM]at h;cases h)
 | .Zn,b,h=>by cases b<;>first|rfl|(simp only[bM]at h;cases h)
 | .Cz,b,h=>by cases b<;>first|rfl|(simp only[bM]at h;cases h)
 | .Yk,b,h=>by cases b<;>first|rfl|(simp only[bM]at h;cases h)
 | .Zu a,b,h=>by
  cases b<;>simp only[bM]at h<;>try (cases h;done)
  rw[GD h]
 | .Ck a l s c,b,h=>by
  cases b<;>simp only[bM]at h<;>try (cases h;done)
  simp only[Qf]at h;obtain⟨⟨⟨h1,h2⟩,h3⟩,h4⟩:=h;rename_i cl
  have:=Qb h1;have:=Qb h2;have hc:c=cl:=by cases c<;>cases cl<;>first|rfl|cases h3
  subst_vars
  rw[GD h4]
 | .H' t a,b,h=>by
  cases b<;>simp only[bM]at h<;>try (cases h;done)
  rw[Qf]at h;have:=Qb h.1;subst this;rw[He h.2]
 | .agg a,b,h=>by
  cases b<;>simp only[bM]at h<;>try (cases h;done)
  rw[GD h]
 | .O a,b,h=>by
  cases b<;>simp only[bM]at h<;>try (cases h;done)
  rw[GD h]
 | .Z _ _,b,h=>by cases b<;>simp only[bM]at h<;>cases h
 | .slice _ _ _ _ _,b,h=>by cases b<;>simp only[bM]at h<;>cases h
 | .H_ _,b,h=>by cases b<;>simp only[bM]at h<;>cases h
 | .jv _ _,b,h=>by cases b<;>simp only[bM]at h<;>cases h
 | .fJ,b,h=>by cases b<;>simp only[bM]at h<;>cases h
 | .any,b,h=>by cases b<;>simp only[bM]at h<;>cases h
 | .G' _ _ _,b,h=>by cases b<;>simp only[bM]at h<;>cases h
theorem GD:∀ {a b:List AV},fR a b=true->a=b
 | [],b,h=>by cases b<;>first|rfl|(simp only[fR]at h;cases h)
 |a::l,b,h=>by
  cases b with
  |nil=>simp only[fR]at h;cases h
  |cons c r=>
   simp only[fR,Qf]at h;rw[He h.1,GD h.2]
end
theorem LH {C C':Cx} {S:St} {w w':World} (hS:YR C S w) (t:C6 C S.I w C' S.I w'):C6 C S w C' S w':=by
 have bG:∀b,C.D b->¬eU S.I S.I.c b:=fun b hb hm=>by
  rcases hm with h|h
  .cases h
  .exact Nat.lt_irrefl _ (Nat.lt_of_lt_of_le (hS.fresh b hb) h)
 have hno':∀b o,S.heap.u b=some o->¬eU S.I S.I.c b:=fun b o hb=>bG b (hS.a b o hb).1;exact {a:=t.a,c:=t.c.I _ _,d:=rfl,f:=fun _ h=>h,g:=Qj _,size:=t.size,frame:=fun Cr hb _=>t.frame Cr hb fun b o ho hm=>absurd hm (hno' b o ho),e:=fun b hb _=>t.e b hb (bG b hb),k:=t.k,own:=fun b o ho=>(t.own b o ho).elim .inl fun h=>h.elim (fun h=> .inr (.inl h)) fun⟨b0,o0,h0,h1,_⟩=>absurd h1 (hno' b0 o0 h0),j:=fun Cr ms hm=>(t.j Cr ms hm).elim .inl fun h=>h.elim (fun h=> .inr (.inl h)) fun⟨b0,o0,h0,h1,_⟩=>absurd h1 (hno' b0 o0 h0),i:=t.i}
theorem TH {P:Program} {m:Machine} {c:Frame} {cs:List Frame} {C:Cx} {S:St} {w:World} {v:AV} (hS:YR C S w) (h:k9 P m c cs C S.I w (.same v)):k9 P m c cs C S w (.same v):=by
 obtain⟨C',x,w',hs,t,hv⟩:=h;exact⟨C',x,w',hs,LH hS t,hv⟩
theorem KM {ev:Ev} {f:FuncId} {fn:Func} {S:St} {v:AV}:∀ {l:List dJ},cG E ev f fn S v l=true->∀r∈l,ZF E ev f fn S.I r=some (.same v)
 | [],_,r,hr=>by cases hr
 |a::l,h,r,hr=>by
  simp only[cG]at h;split at h
  .next u hu=>
   rw[Qf]at h;rcases Qk.1 hr with rfl|hr
   .rw[He h.1]at hu;unfold n5 at hu;split at hu
    .next v' he=>cases hu;exact he
    .cases hu
   .exact KM h.2 r hr
  .cases h
theorem SG {ev:Ev} {f:FuncId} {fn:Func} {S:St} {r0:dJ} {l:List dJ} {cr:CR} (h:v_ E ev f fn S r0 l=some cr):
 ∃v,cr= .same v/\∀r∈r0::l,ZF E ev f fn S.I r=some (.same v):=by
 unfold v_ at h;obtain⟨v,hv,h⟩:=Qa.1 h;cases ha:cG E ev f fn S v l with
 |false=>rw[ha]at h;cases h
 |true=>
  rw[ha]at h;cases h;refine⟨v,rfl,fun r hr=>?_⟩;rcases Qk.1 hr with rfl|hr
  .unfold n5 at hv;split at hv
   .next v' he=>cases hv;exact he
   .cases hv
  .exact KM ha r hr
def py (E:a_) (P:Program) (ev:Ev):Prop:=
 ∀(f:FuncId) (fn:Func) (S:St) (r0:dJ) (l:List dJ) (cr:CR),lF E ev f fn S r0 l=some cr->∀(C:Cx) (w:World),YR C S w->∀(r:dJ),r∈r0::l->∀(m:Machine) (c:Frame) (cs:List Frame),
  (∀cr',ZF E ev f fn S.I r=some cr'->k9 P m c cs C S.I w cr')->k9 P m c cs C S w cr
theorem T4 (he:Ym E P) (mN:lL E P) {ev:Ev} (jC:pU E P ev) (jF:E.c=true->py E P ev):du E P ev:=by
 intro f args cr C S w xs c cs h hg ha hS;unfold Y8 at h;cases hm:E.d f args with
 |some v=>
  rw[hm]at h;cases h;exact mN.ay f args v hm C S w xs c cs hg ha hS
 |none=>
  rw[hm]at h;simp only at h;cases sg:E.a.u f with
  |none=>
   rw[sg]at h;simp only at h;unfold vz at h;cases jd:E.g f with
   |none=>rw[jd]at h;cases h
   |some g=>
    rw[jd]at h;obtain⟨p,hp,h⟩:=Qa.1 h;cases h;exact mN.jw f g jd args S p.1 p.2 hp C w xs c cs hg ha hS
  |some fn=>
  rw[sg]at h;simp only at h;obtain⟨cd,hc,h⟩:=Qa.1 h;have hp:=he.fn f fn sg;have fC:Frame.enter P f xs .normal=Yo (Frame.enter P f xs .normal) ⟨xs++Array.replicate (fn.ntmps-xs.size) undef,[]⟩ [.code cd]:=by
   simp[Frame.enter,Yo,hp,hc]
  have qC:(Frame.enter P f xs .normal).kind= .normal:=rfl;have mK:(Frame.enter P f xs .normal).roundOf=none:=rfl;have z7:(Frame.enter P f xs .normal).fn=f:=rfl;generalize Frame.enter P f xs .normal=bd at fC qC mK z7;have dx:=jC cd C S.u w (frame fn.ntmps args none) (br 0 args .J) bd ⟨xs++Array.replicate (fn.ntmps-xs.size) undef,[]⟩ [] (c::cs) hg (RH ha fn.ntmps)
   ⟨.O,.none (by simp[rp,tryRecover,qC]),.none mK⟩ hS.B
  rw[<-fC]at dx;generalize iR:ev cd (frame fn.ntmps args none) (br 0 args .J) S.u=out at h dx;unfold dj at h;split at h
  .next r=>
   obtain⟨r',gD,C1,a1,w1,cs1,t,hT,hF,hn,nO,YO,dS⟩:=dx [r] rfl;simp only[Qp]at gD;subst gD;have:=YO.none rfl;subst this;exact R4 he jC hp h hg hS t hT hF qC mK z7 dS
  .next r l=>
   obtain⟨r',gD,C1,a1,w1,cs1,t,hT,hF,hn,nO,YO,dS⟩:=dx (r::l) rfl;have:=YO.none rfl;subst this;have sm:YR C S.I w:=hS.I _ _;have ht':C6 C S.I.u w C1 r'.a w1:=t;cases pr:v_ E ev f fn S r l with
   |some c1=>
    rw[pr]at h;cases h;obtain⟨v,rfl,ZI⟩:=SG pr;exact TH hS (R4 he jC hp (ZI r' gD) hg sm ht' hT hF qC mK z7 dS)
   |none=>
   rw[pr]at h;unfold cH at h;cases uV:E.c with
   |false=>rw[uV]at h;cases h
   |true=>
   rw[uV]at h;simp only[cond_true]at h;refine jF uV f fn S r l cr h C w hS r' gD _ c cs fun cr' hcr'=>?_;exact R4 he jC hp hcr' hg sm ht' hT hF qC mK z7 dS
  .cases h
end
section
variable {E : a_} {P : Program}
theorem IH {C:Cx} {nt:Nat}:∀ {ps:List Nat} {vs:List AV} {xs:List Value} {T T':Tr AV} {tmps:Array Value},fc nt ps vs T=some T'->TR C nt T tmps->Y0 C vs xs->
 ps.length=xs.length/\TR C nt T' ((ps.zip xs).foldl (fun t (p:Nat×Value)=>t.setIfInBounds p.1 p.2) tmps)
 | [],[],xs,T,T',tmps,h,hT,hv=>by
  cases h;cases hv;exact⟨rfl,hT⟩
 | [],_::_,_,_,_,_,h,_,_=>by cases h
 |_::_,[],_,_,_,_,h,_,_=>by cases h
 |p::ps,v::vs,_,T,T',tmps,h,hT,.J (x:=x) (xs:=xs) qG xL=>by
  simp only[fc]at h;cases hp:Nat.blt p nt with
  |false=>rw[hp]at h;cases h
  |true=>
   rw[hp]at h;have C8:p<nt:=by simpa[Nat.blt_eq]using hp
   have h1:TR C nt (T.A p (some v)) (tmps.setIfInBounds p x):=TR.put (a:=⟨tmps,[]⟩) hT C8 qG;obtain⟨h2,h3⟩:=IH h h1 xL;exact⟨by simp[h2],by simpa using h3⟩
theorem Fj {w:World} {l:Nat} {L:Loop} (h:w.heap[l]?=some (.loop L)):(Instr.getLoop l).run P w= .ok L w:=by
 simp only[Instr.getLoop,Sem.run_bind,AN h (by simp),Result.andThen_ok,Sem.run_pure]
theorem s_begin {b:Frame} {a:Act} {k:List Item} {cs:List Frame} {w w':World} {l:Nat} (hr:b.roundOf=some l) (h:(Instr.beginRound l).run P w= .ok () w'):
 step P (lone (Yo b a (.beginRound::k)) cs w)= .next (lone (Yo b a k) cs w'):=
 step_lone_go (by simp[stepG,stepG.exec,stepG.apply,Yo,hr,h,Frame.finish])
theorem Uc {b:Frame} {a:Act} {c:Frame} {cs:List Frame} {w w':World} {l:Nat} {v:Value} (hk:b.kind= .normal) (hr:b.roundOf=some l) (h:(Instr.endRound l none).run P w= .ok v w'):
 step P (lone (Yo b a []) (c::cs) w)= .next (lone (c.finish v) cs w'):=
 step_lone_go (by simp[stepG,stepG.exec,Yo,hr,h,doReturn,hk])
theorem Ub {b:Frame} {a:Act} {k:List Item} {c:Frame} {cs:List Frame} {w w':World} {l:Nat} {v:Value} (hk:b.kind= .normal) (hr:b.roundOf=some l) (h:(Instr.endRound l (some .ret)).run P w= .ok v w'):
 step P (lone (Yo b a (.code .ret::k)) (c::cs) w)= .next (lone (c.finish v) cs w'):=
 step_lone_go (by simp[stepG,stepG.exec,Yo,hr,h,doReturn,hk])
theorem QR {b:Frame} {a:Act} {k:List Item} {c:Frame} {cs:List Frame} {w w':World} {l id:Nat} {v:Value} (hk:b.kind= .normal) (hr:b.roundOf=some l) (he:exitTo id k=none)
 (h:(Instr.endRound l (some (.exit id))).run P w= .ok v w'):
 step P (lone (Yo b a (.code (.exit id)::k)) (c::cs) w)= .next (lone (c.finish v) cs w'):=
 step_lone_go (by simp[stepG,stepG.exec,Yo,hr,h,he,doReturn,hk])
theorem Ow {b:Frame} {t:Array Value} {k:List Item} (hn:sh k) {c:Frame} {cs:List Frame} {w:World} {ch:List PanicEntry}:
 step P (lone (CN b ⟨t,[]⟩ k (.panicking ch)) (c::cs) w)= .next (lone (c.raise ch) cs w):=by
 refine step_lone_go ?_;have:(CN b ⟨t,[]⟩ k (.panicking ch)).catches P=false:=by
  unfold Frame.catches;split
  .next h1 h2=>exact absurd h2 (hn _ _ _ _ _)
  .rfl
 simp only[CN]at this;simp[stepG,Go.unwind,CN,this]
theorem VJ {w:World} {l:Nat} {L:Loop} (h:w.heap[l]?=some (.loop L)) (hs:L.state= .ready):(Instr.beginRound l).run P w= .ok () (World.u w l (.loop {L with state:= .busy})):=by
 simp only[Instr.beginRound,Sem.run_bind,Fj h,Result.andThen_ok,DN h (by simp),hs,Sem.run_pure]
theorem O1 {w:World} {l:Nat} {L:Loop} (h:w.heap[l]?=some (.loop L)) (jump:Option Code):
 (Instr.endRound l jump).run P w= .ok (.bool jump.isNone) (World.u w l (.loop {L with state:=if jump.isNone then .ready else .done,pending:=jump})):=by
 simp only[Instr.endRound,Sem.run_bind,Fj h,Result.andThen_ok,DN h (by simp),Sem.run_pure]
theorem VN {ev:Ev} (jC:pU E P ev) {l:Nat} {args:List AV} {cr:CR} {C:Cx} {S:St} {w:World} {xs:Array Value} (h:rT ev l args S=some cr) (hg:YV E C) (ha:Y0 C args xs.toList) (hS:YR C S w)
 (c:Frame) (cs:List Frame):∃f tmps ld body,(Instr.yield (C.a l).Cr xs).run P w= .ok (.round (C.a l).Cr f tmps ld body) w/\
  k9 P (lone (Frame.round (C.a l).Cr f tmps ld body .normal) (c::cs) w) c cs C S w cr:=by
 unfold rT rS at h;split at h
 .next lp hl=>
  obtain⟨T,mO,h⟩:=Qa.1 h;obtain⟨hd,x,hx,hr⟩:=hS.a l _ hl;cases hr with
  | @O _ L hs hpd htr nG hasg jf=>
  obtain⟨hlen,hT⟩:=IH mO htr ha;have hfold:(L.params.zip xs).foldl (fun tmps (p:Nat×Value)=>tmps.setIfInBounds p.1 p.2) L.tmps=(lp.params.zip xs.toList).foldl (fun t (p:Nat×Value)=>t.setIfInBounds p.1 p.2) L.tmps:=by
   rw[<-Array.foldl_toList,Array.toList_zip,nG]
  have af:xs.size=L.params.size:=by
   have:L.params.size=lp.params.length:=by rw[<-nG];simp
   rw[this,hlen];simp
  refine⟨L.fn,(lp.params.zip xs.toList).foldl (fun t (p:Nat×Value)=>t.setIfInBounds p.1 p.2) L.tmps,lp.assign,lp.body,?_,?_⟩
  .simp only[Instr.yield,Sem.run_bind,Fj hx,Result.andThen_ok,af,ne_eq,not_true_eq_false,if_false,Sem.run_pure,<-hasg,<-jf];rw[<-hfold]
  .generalize (lp.params.zip xs.toList).foldl (fun t (p:Nat×Value)=>t.setIfInBounds p.1 p.2) L.tmps=tmps at hT;have qC:(Frame.round (C.a l).Cr L.fn tmps lp.assign lp.body .normal).kind= .normal:=rfl;have mK:(Frame.round (C.a l).Cr L.fn tmps lp.assign lp.body .normal).roundOf=some (C.a l).Cr:=rfl;have fC:Frame.round (C.a l).Cr L.fn tmps lp.assign lp.body .normal=Yo (Frame.round (C.a l).Cr L.fn tmps lp.assign lp.body .normal) ⟨tmps,[]⟩ [.code lp.assign,.beginRound,.code lp.body]:=rfl;generalize Frame.round (C.a l).Cr L.fn tmps lp.assign lp.body .normal=b at qC mK fC;have dx:=jC lp.assign C S w ⟨lp.nt,[],none,some l⟩ T b ⟨tmps,[]⟩ [.beginRound,.code lp.body] (c::cs) hg hT ⟨.O,.none (by simp[rp,tryRecover,qC]),.some hd mK⟩ hS;rw[<-fC]at dx;generalize ev lp.assign ⟨lp.nt,[],none,some l⟩ T S=out at h dx;unfold gw at h;split at h
   .next fr T1 s1=>
    obtain⟨r',gD,C1,a1,w1,cs1,t1,hT1,hF1,gM,hrd1,hcs1,hend1⟩:=dx _ rfl;simp only[Qp]at gD;subst gD;have:=hcs1.none rfl;subst this;simp only at gM hrd1 hT1 hF1 t1 hend1 hcs1;unfold n8 at h;split at h
    .next wS nI=>
     split at h
     .next Zc=>
      obtain⟨jt,x1,xI,hr1⟩:=t1.c.a l _ nI;cases hr1 with
      | @O _ L1 dt hpd1 htr1 hps1 hasg1 hbody1=>
      have wT:C1.a l=C.a l:=t1.a.a l hd;have hbegin:=VJ (P:=P) xI (by rw[dt,Zc]);have t2:=DS t1.c nI (.Z {wS with a:= .busy}) (.loop {L1 with state:= .busy}) (.O rfl hpd1 htr1 hps1 hasg1 hbody1);have jG:Steps P (lone b (c::cs) w) (lone (Yo b a1 [.code lp.body]) (c::cs) (World.u w1 (C1.a l).Cr (.loop {L1 with state:= .busy}))):=
       Steps.trans hend1 (.one (s_begin (by rw[wT];exact mK) hbegin))
      have zD:=jC lp.body C1 _ _ fr T1 b a1 [] (c::cs) (hg.mono t1.a) hT1 hF1 t2.c;generalize ev lp.body fr T1 (s1.B l (some (.Z {wS with a:= .busy})))=out2 at h zD;unfold pM at h;split at h
      .next r=>
       split at h
       .next hdf=>
        obtain⟨r',gD,C2,a2,w2,cs2,t3,hT2,hF2,kP,hrd2,hcs2,o7⟩:=zD [r] rfl;simp only[Qp]at gD;subst gD;have hfp:fr.Zv=none:=by
         have:=hcs1;generalize fr.Zv=q at this;cases this with
         |same=>rfl
        have:=hcs2.none hfp;subst this;have t4:=(t1.trans t2).trans t3;have hpl2:C2.a l=C.a l:=t4.a.a l hd;have te:a2.defers=[]:=by
         have:=hF2.d;rw[hdf]at this;cases hd:a2.defers with
         |nil=>rfl
         |cons x l=>rw[hd]at this;cases this
        unfold n7 at h;split at h
        .next fW mf=>
         obtain⟨po,x2,hx2,tO⟩:=t4.c.a l _ mf;cases tO with
         | @O _ L2 qK hpd2 htr2 hps2 hasg2 hbody2=>
         rw[hpl2]at hx2;have fin:∀(jump:Option Code) (go:Bool),jump.isNone=go->Steps P (lone b (c::cs) w) (lone (c.finish (.bool go)) cs (World.u w2 (C.a l).Cr (.loop {L2 with state:=if jump.isNone then .ready else .done,pending:=jump})))->
          j7 l r'.a fW jump go=some cr->k9 P (lone b (c::cs) w) c cs C S w cr:=by
          intro jump go hjg hsteps xB;unfold j7 at xB;cases xB;have t5:=DS t4.c mf (.Z {fW with a:=bif go then .ready else .done,b:=jump}) (.loop {L2 with state:=if jump.isNone then .ready else .done,pending:=jump})
           (.O (by rw[hjg];cases go<;>rfl) rfl htr2 hps2 hasg2 hbody2)
          rw[hpl2]at t5;exact⟨C2,_,_,hsteps,t4.trans t5,.bool go⟩
         have zE:=fun jump=>O1 (P:=P) hx2 jump;cases hex:r'.c with
         |J=>
          rw[hex]at h o7;exact fin none true U (jG.trans (Steps.trans o7 (.one (Uc qC mK (zE none))))) h
         |Z=>
          rw[hex]at h o7;obtain⟨k2,uR⟩:=o7;exact fin (some .ret) false U (jG.trans (uR.trans (.one (Ub qC mK (zE _))))) h
         |G' id=>
          rw[hex]at h o7;obtain⟨k2,uR,hto⟩:=o7;exact fin (some (.exit id)) false U (jG.trans (uR.trans (.one (QR qC mK (by rw[hto];rfl) (zE _))))) h
         |O v=>
          rw[hex]at h o7;cases h;obtain⟨k2,x,uR,hv,hnc⟩:=o7;refine⟨C2,x,w2,jG.trans (uR.trans (.one ?_)),t4,hv⟩;have ea:({Yo b a2 k2 with mode:= .panicking [{v:=x,recovered:=false}]}:Frame)=CN b ⟨a2.tmps,[]⟩ k2 (.panicking [{v:=x,recovered:=false}]):=by
           simp[Yo,CN,te]
          rw[ea];exact Ow hnc
        .cases h
       .cases h
      .cases h
     .cases h
    .cases h
   .cases h
 .cases h
theorem XR (he:Ym E P) {ev:Ev} (jC:pU E P ev) (Y6:du E P ev):dw E P ev:=by
 intro g args cr C S w gx xs c cs h hg hv ha hS;unfold aj at h;split at h
 .next f first cap=>
  cases hb:CI E f with
  |false=>rw[hb]at h;cases h
  |true=>
  rw[hb]at h;simp only[cond_true]at h;cases hv with
  |G' hf h1 h2=>
  rename_i fx cx
  left;refine⟨f,fx++xs++cx,?_,Y6 f _ cr C S w _ c cs h hg (by simpa using(h1.A ha).A h2) hS⟩;simp only[Deferred.ofValue,Sem.run_bind,Sem.run_pure,Result.andThen_ok,invoke];exact Ee he hb _ w
 .next l=>
  cases hv with
  |G' hf _ _=>exact absurd rfl (hf l)
  |H' hd=>
  right;obtain⟨f,tmps,ld,body,CG,dM⟩:=VN jC h hg ha hS c cs;refine⟨_,f,tmps,ld,body,?_,dM⟩;simp only[Deferred.ofValue,Sem.run_bind,Sem.run_pure,Result.andThen_ok,invoke,Array.empty_append];exact CG
 .next name first=>
  cases hv with
  |G' hf h1 h2=>
  rename_i fx cx
  have ZI:=h1.A ha;split at h
  .next r rest heq=>
   rw[heq]at ZI;obtain⟨p,hp,h⟩:=Qa.1 h;left;generalize hq:fx.toList++xs.toList=q at ZI;cases ZI with
   | @J _ _ x _ ys tj ia=>
   obtain⟨zs,hz,hvz⟩:=HB he hS tj ia hp;refine⟨p.1,zs,?_,Y6 p.1 p.2 cr C S w zs c cs h hg hvz hS⟩;have wJ:fx++xs=(x::ys).toArray:=by apply Array.ext';simp[hq]
   simp only[Deferred.ofValue,Sem.run_bind,Sem.run_pure,Result.andThen_ok,invoke,wJ];have h0:(x::ys).toArray[0]?=some x:=by simp
   have h1:(x::ys).toArray.extract 1 (x::ys).toArray.size=ys.toArray:=by
    apply Array.ext';simp
   simp only[h0,h1];exact hz
  .cases h
 .cases h
end
section
variable {E : a_} {P : Program}
theorem MT (f:FuncId) (tmps:Array Value) (params:Array Tmp) (ld body:Code) (w:World):
 (Instr.enterLoop f tmps params ld body none).run P w= .ok (w.heap.size+1,[{target:= .collected w.heap.size,args:= #[]}])
  (World.A (World.A w (.deferred (some []))) (.loop {state:= .ready,pending:=none,fn:=f,tmps,params,assign:=ld,body,defers:=w.heap.size})):=by
 simp[Instr.enterLoop,World.A];rfl
theorem s_range {b:Frame} {a:Act} {k:List Item} {cs:List Frame} {w w':World} {f:Operand} {params:Array Tmp} {ld body:Code} {l:Nat} {mk:List Deferred} {g:FuncId} {ys:Array Value} (hr:b.roundOf=none)
 (h1:(Instr.enterLoop b.fn a.tmps params ld body none).run P w= .ok (l,mk) w')
 (h2:(do let d<-Deferred.ofValue (a.eval f) #[.func (.yield l) #[] #[]];invoke d.target d.args:Sem Next).run P w'= .ok (.enter g ys) w'):
 step P (lone (Yo b a (.code (.rangeFunc f params ld body)::k)) cs w)= .next (lone (Frame.enter P g ys .normal) (Yo b ⟨a.tmps,mk++a.defers⟩ (.inRangeFunc l::k)::cs) w'):=by
 refine step_lone_go ?_;have e1:=N7 b ⟨a.tmps,mk++a.defers⟩ (.inRangeFunc l::k);have e2:(⟨a.tmps,mk++a.defers⟩:Act).eval=a.eval:=by funext x;cases x<;>rfl
 rw[e2]at e1;simp only[Yo,hr]at e1;simp only[stepG,stepG.exec,Yo,hr,Sem.runT_eq,h1,GStep.bare_after,stepG.apply,resolve,e1];have e3:Array.map a.eval #[Operand.const (.func (.yield l) #[] #[])]= #[.func (.yield l) #[] #[]]:=by simp[Act.eval]
 simp only[e3,h2,if_true];rfl
theorem QT {w:World} {l:Nat} {L:Loop} (h:w.heap[l]?=some (.loop L)) (hs:L.state≠ .busy):(Instr.endLoop l).run P w= .ok L.pending (World.u w l (.loop {L with state:= .exhausted})):=by
 have hs':(L.state== .busy)=false:=by simpa using hs
 simp only[Instr.endLoop,Sem.run_bind,Fj h,Result.andThen_ok,hs',Bool.false_eq_true,if_false,DN h (by simp),Sem.run_pure]
theorem Ud {b:Frame} {a:Act} {k:List Item} {cs:List Frame} {w w':World} {l:Nat} {jump:Option Code} (h:(Instr.endLoop l).run P w= .ok jump w'):
 step P (lone (Yo b a (.endRangeFunc l::k)) cs w)= .next (lone (Yo b a ((jump.map Item.code).toList++k)) cs w'):=
 step_lone_go (by simp[stepG,stepG.exec,Yo,h])
theorem JE (b:Frame) (a:Act) (l:Nat) (k:List Item) (v:Value):(Yo b a (.inRangeFunc l::k)).finish v=Yo b a (.endRangeFunc l::k):=rfl
theorem JF {l Cr:Nat} {fr ic:Fr} {T:Tr AV} {b:Frame} {a2:Act} {k:List Item} {cs:List Frame} {C3:Cx} {S3:St} {w3:World} {m:Machine} (hS:YR C3 S3 w3) (hF:rq C3 ic b a2 cs) (hT:TR C3 ic.nt T a2.tmps)
 (ZV:(C3.a l).Cr=Cr) (hn:ic.nt=fr.nt) (hr:ic.a=fr.a) (hp:ic.Zv=fr.Zv) (Zc:Steps P m (lone (Yo b a2 (.endRangeFunc Cr::k)) cs w3)):
 g_ P C3 S3 w3 fr b k cs m (bO l ic T S3 (S3.heap.u l)):=by
 unfold bO;split
 .next lp hl=>
  obtain⟨hd,x,hx,hrr⟩:=hS.a _ _ hl;cases hrr with
  | @O _ L3 hs3 hpd3 htr3 hps3 hasg3 hbody3=>
  split
  .exact Ay
  .next yV=>
   have hnb':L3.state≠ .busy:=by rw[hs3];exact fun h=>yV h
   have t4:=DS hS hl (.Z {lp with a:= .exhausted}) (.loop {L3 with state:= .exhausted}) (.O rfl hpd3 htr3 hps3 hasg3 hbody3);rw[ZV]at hx t4;have dS:=QT (P:=P) hx hnb';have jG:=Zc.trans (.one (Ud (P:=P) (b:=b) (a:=a2) (k:=k) (cs:=cs) dS));refine B6 t4 ?_;have one:∀(e:Ex),E' P b k cs C3 m e a2 (World.u w3 Cr (.loop {L3 with state:= .exhausted}))->
    g_ P C3 (S3.B l (some (.Z {lp with a:= .exhausted}))) (World.u w3 Cr (.loop {L3 with state:= .exhausted})) fr b k cs m
     (.one ⟨e,ic,T,S3.B l (some (.Z {lp with a:= .exhausted}))⟩):=by
    intro e he l hl;cases hl;refine⟨_,Qp.2 U,C3,_,_,cs,C6.u t4.c,hT,hF,hn,hr,?_,he⟩;show xK fr.Zv ic.Zv cs cs;rw[hp];exact .same
   have key:∀jump,lp.b=jump->Steps P m (lone (Yo b a2 ((jump.map Item.code).toList++k)) cs (World.u w3 Cr (.loop {L3 with state:= .exhausted}))):=by
    intro jump hj;rw[<-hj,<-hpd3];exact jG
   unfold hJ;split
   .next hp=>exact one .J (key _ hp)
   .next hp=>exact one .Z ⟨k,key _ hp⟩
   .next id hp=>exact one (.G' id) ⟨k,key _ hp,rfl⟩
   .exact Ay
 .exact Ay
theorem OA {l Cr:Nat} {fr ic:Fr} {T:Tr AV} {b:Frame} {a2:Act} {k:List Item} {cs:List Frame} {C2:Cx} {S2:St} {w2:World} {m:Machine} (hF:rq C2 ic b a2 cs) (hT:TR C2 ic.nt T a2.tmps)
 (hd:C2.D l) (ZV:(C2.a l).Cr=Cr) (hn:ic.nt=fr.nt) (hr:ic.a=fr.a) (hp:ic.Zv=fr.Zv) {cr:CR} (h:k9 P m (Yo b a2 (.inRangeFunc Cr::k)) cs C2 S2 w2 cr):
 g_ P C2 S2 w2 fr b k cs m (ZB ic T S2 (fun _ s3=>bO l ic T s3 (s3.heap.u l)) (some cr)):=by
 cases cr with
 |same v=>
  obtain⟨C3,x,w3,hs,t3,_⟩:=h;rw[JE]at hs;exact B6 t3 (JF t3.c (hF.mono t3.a) (hT.mono t3.a) (by rw[t3.a.a _ hd];exact ZV) hn hr hp hs)
 |J v S3=>
  obtain⟨C3,x,w3,hs,t3,_⟩:=h;rw[JE]at hs;exact B6 t3 (JF t3.c (hF.mono t3.a) (hT.mono t3.a) (by rw[t3.a.a _ hd];exact ZV) hn hr hp hs)
 |O v S3=>
  obtain⟨C3,x,w3,hs,t3,eV⟩:=h;rw[OB]at hs;refine B6 t3 ?_;intro l hl;cases hl;refine⟨_,Qp.2 U,C3,a2,w3,cs,C6.u t3.c,hT.mono t3.a,hF.mono t3.a,hn,hr,?_,_,x,hs,eV,by intro _ _ _ _ _ h;cases h⟩;show xK fr.Zv ic.Zv cs cs;rw[hp];exact .same
theorem O9 {C:Cx} {S:St} {w:World} (hS:YR C S w) {nt:Nat} {T:Tr AV} {a:Act} (hT:TR C nt T a.tmps) (fn:FuncId) (params:Array Tmp) (ld body:Code):
 ∃C2,C6 C S w C2 ((S.A (.G' true)).A (.Z {a:= .ready,b:=none,fn:=0,nt:=nt,c:=T,params:=params.toList,assign:=ld,body}))
  (World.A (World.A w (.deferred (some []))) (.loop {state:= .ready,pending:=none,fn,tmps:=a.tmps,params,assign:=ld,body,defers:=w.heap.size}))/\
  C2.D S.a/\(C2.a S.a).Cr=w.heap.size/\C2.D (S.A (.G' true)).a/\(C2.a (S.A (.G' true)).a).Cr=w.heap.size+1:=by
 have t1:=C6.A hS (.G' true) (.deferred (some [])) 0 .G';have hTr1:=hT.mono t1.a;have e2:=FQ t1.c 0;have t2:=C6.A t1.c (.Z {a:= .ready,b:=none,fn:=0,nt:=nt,c:=T,params:=params.toList,assign:=ld,body})
  (.loop {state:= .ready,pending:=none,fn,tmps:=a.tmps,params,assign:=ld,body,defers:=w.heap.size}) 0 (.O rfl rfl (hTr1.mono e2) rfl rfl rfl)
 refine⟨_,t1.trans t2,.inl (.inr U),?_,.inr U,?_⟩
 .have:S.a≠(S.A (.G' true)).a:=by show S.a≠S.a+1;omega
  simp[Cx.J,this]
 .simp[Cx.J,World.A]
theorem Ni (he:Ym E P) {ev:Ev} (Y6:du E P ev) {f:Operand} {params:Array Tmp} {ld body:Code}:
 bU E P (.rangeFunc f params ld body) (fun fr T s=>hO E ev params.toList ld body fr T s (Ch E f T)):=by
 intro C S w fr T b a k cs hg hT hF hS;show g_ P C S w fr b k cs _ (hO E ev params.toList ld body fr T S (Ch E f T));cases hof:Ch E f T with
 |none=>exact Ay
 |some v=>
 have hTa:TR C a.tmps.size T a.tmps:=⟨rfl,hT.2⟩
 have hv:=An hg hTa hof;unfold hO nD;simp only;split
 .next g first cap=>
  obtain⟨nt,defers,Zv,round⟩:=fr;cases round with
  |some l=>exact Ay
  |none=>
  simp only;have mK:b.roundOf=none:=by have:=hF.c;cases this with|none h=>exact h
  cases hb:CI E g with
  |false=>exact Ay
  |true=>
  simp only[cond_true];generalize hq:a.eval f=q at hv;cases hv with
  |G' sg h1 h2=>
  rename_i fx cx
  obtain⟨C2,t12,hD0,hpl0,hD1,wT⟩:=O9 hS hT b.fn params ld body;have hlen:=MT (P:=P) b.fn a.tmps params ld body w;generalize (S.A (.G' true)).a=l at hD1 wT|-;generalize World.A (World.A w (.deferred (some []))) (.loop {state:= .ready,pending:=none,fn:=b.fn,tmps:=a.tmps,params,assign:=ld,body,defers:=w.heap.size})=w2 at t12 hlen;generalize (S.A (.G' true)).A (.Z {a:= .ready,b:=none,fn:=0,nt:=nt,c:=T,params:=params.toList,assign:=ld,body})=S2 at t12|-;generalize w.heap.size+1=Cr at wT hlen;have hyield:VR C2 (.G' (.yield l) [] []) (.func (.yield Cr) #[] #[]):=by
   have:=VR.H' (C:=C2) hD1;rw[wT]at this;exact this
  have aN:Y0 C2 (first++[.G' (.yield l) [] []]++cap) (fx++ #[Value.func (.yield Cr) #[] #[]]++cx).toList:=by
   simpa using((h1.mono t12.a).A (.one hyield)).A (h2.mono t12.a)
  have hinv:(do let d<-Deferred.ofValue (a.eval f) #[Value.func (.yield Cr) #[] #[]];invoke d.target d.args:Sem Next).run P w2= .ok (.enter g (fx++ #[Value.func (.yield Cr) #[] #[]]++cx)) w2:=by
   rw[hq];simp only[Deferred.ofValue,Sem.run_bind,Sem.run_pure,Result.andThen_ok,invoke];exact Ee he hb _ w2
  have pV:=s_range (P:=P) (b:=b) (a:=a) (k:=k) (cs:=cs) (f:=f) mK hlen hinv;have hF2:rq C2 ⟨nt, {a:= .J S.a,args:=[]}::defers,Zv,none⟩ b ⟨a.tmps,[{target:= .collected w.heap.size,args:= #[]}]++a.defers⟩ cs:=by
   refine⟨.J ?_ (hF.d.mono t12.a),(hF.mono t12.a).e,(hF.mono t12.a).c⟩;have:=tH.J (C:=C2) hD0;rw[hpl0]at this;exact this
  cases qJ:Y8 E ev g (first++[.G' (.yield l) [] []]++cap) S2 with
  |none=>exact Ay
  |some cr=>
   have dM:=Y6 g _ cr C2 S2 w2 _ (Yo b ⟨a.tmps,[{target:= .collected w.heap.size,args:= #[]}]++a.defers⟩ (.inRangeFunc Cr::k)) cs qJ (hg.mono t12.a) aN t12.c;exact B6 t12 (g_.steps (.one pV) (OA hF2 (hT.mono t12.a) hD1 wT U U U dM))
 .exact Ay
end
def sn (E:a_) (P:Program):Prop:=
 ∀(ev:Ev),du E P ev->dw E P ev->∀(id:Nat) (ops:Array Oper),bU E P (.region id ops true) ((rW E ops.toList true).run ev)
section
variable {E : a_} {P : Program}
theorem FZ (he:Ym E P) (hx:eo E P) (hd:sn E P) {ev:Ev} (jC:pU E P ev) (Y6:du E P ev) (YU:dw E P ev):∀c,bU E P c ((ZK E c).run ev)
 | .skip=>Wq fun _ _ _ _ _=>s_skip
 | .label _=>Wq fun _ _ _ _ _=>s_label
 | .region id ops true=>hd ev Y6 YU id ops
 | .region id ops false=>Wh he hx Y6 YU
 | .seq a b=>ok_seq (FZ he hx hd jC Y6 YU a) (FZ he hx hd jC Y6 YU b)
 | .cond _ a b=>ok_cond (FZ he hx hd jC Y6 YU a) (FZ he hx hd jC Y6 YU b)
 | .block _ body=>zr (FZ he hx hd jC Y6 YU body)
 | .loop body=>ok_loop (FZ he hx hd jC Y6 YU body) (jC (.loop body))
 | .scope body=>zt (FZ he hx hd jC Y6 YU body)
 | .exit _=>ok_exit
 | .ret=>ok_ret
 | .rangeFunc _ _ _ _=>Ni he Y6
 | .goto _=>Nh
 | .refuse _=>Nh
theorem vS (he:Ym E P) (hx:eo E P) (hd:sn E P) (mN:lL E P) (jF:E.c=true->∀ev,pU E P ev->py E P ev):∀n,pU E P (ev E n)
 |0=>fun _=>Nh
 |n+1=>fun c=>by
  have ih:=vS he hx hd mN jF n;have Y6:=T4 he mN ih (fun h=>jF h _ ih);exact FZ he hx hd ih Y6 (XR he ih Y6) c
theorem XQ (he:Ym E P) (hx:eo E P) (hd:sn E P) (mN:lL E P) (jF:E.c=true->∀ev,pU E P ev->py E P ev) (n:Nat):du E P (ev E n):=
 T4 he mN (vS he hx hd mN jF n) (fun h=>jF h _ (vS he hx hd mN jF n))
end
end Am
