/- The abstract machine: its control and its calls are the model's. -/
import Derived.Test.YtfhimfcbphepeaaGreatDoorAmC
import Derived.Calls
import Derived.Lib.UnsafeStr
import Derived.Lib.Bytealg
import Derived.Laws.Externs
import Derived.Laws.AppendOwn
import Derived.KernelRfl
set_option linter.unusedSectionVars false
set_option linter.unusedVariables false
set_option linter.unusedSimpArgs false
namespace Am
open Go
def CX (b:Frame) (a:Act) (todo:List Item):Frame:= {fn:=b.fn,tmps:=a.tmps,todo,defers:=a.defers,mode:= .run,kind:=b.kind,roundOf:=b.roundOf}
theorem M8 (b:Frame) (a:Act) (todo:List Item):(CX b a todo).eval=a.eval:=by
 funext x;cases x<;>rfl
section
variable {P : Program} {b : Frame} {a : Act} {k : List Item} {cs : List Frame} {w : World}
theorem s_skip:step P (lone (CX b a (.code .skip::k)) cs w)= .next (lone (CX b a k) cs w):=step_lone_go (by simp[stepG,stepG.exec,CX])
theorem zj {l:Nat}:step P (lone (CX b a (.code (.label l)::k)) cs w)= .next (lone (CX b a k) cs w):=step_lone_go (by simp[stepG,stepG.exec,CX])
theorem T3 {id:Nat}:step P (lone (CX b a (.inBlock id::k)) cs w)= .next (lone (CX b a k) cs w):=step_lone_go (by simp[stepG,stepG.exec,CX])
theorem Tz {c:Code}:step P (lone (CX b a (.inScope c::k)) cs w)= .next (lone (CX b a k) cs w):=step_lone_go (by simp[stepG,stepG.exec,CX])
theorem s_seq {x y:Code}:step P (lone (CX b a (.code (.seq x y)::k)) cs w)= .next (lone (CX b a (.code x:: .code y::k)) cs w):=step_lone_go (by simp[stepG,stepG.exec,CX])
theorem s_cond {c:Operand} {x y:Code} {t:Bool} (h:a.eval c= .bool t):
 step P (lone (CX b a (.code (.cond c x y)::k)) cs w)= .next (lone (CX b a (.code (if t then x else y)::k)) cs w):=
 step_lone_go (by
  have:=congrFun (M8 b a (.code (.cond c x y)::k)) c;simp only[CX]at this;simp[stepG,stepG.exec,CX,this,h])
theorem zk {id:Nat} {c:Code}:step P (lone (CX b a (.code (.block id c)::k)) cs w)= .next (lone (CX b a (.code c:: .inBlock id::k)) cs w):=step_lone_go (by simp[stepG,stepG.exec,CX])
theorem uV {c:Code}:step P (lone (CX b a (.code (.loop c)::k)) cs w)= .next (lone (CX b a (.code c:: .inLoop c::k)) cs w):=step_lone_go (by simp[stepG,stepG.exec,CX])
theorem uW {c:Code}:step P (lone (CX b a (.inLoop c::k)) cs w)= .next (lone (CX b a (.code c:: .inLoop c::k)) cs w):=step_lone_go (by simp[stepG,stepG.exec,CX])
theorem zl {c:Code}:step P (lone (CX b a (.code (.scope c)::k)) cs w)= .next (lone (CX b a (.code c:: .inScope c::k)) cs w):=step_lone_go (by simp[stepG,stepG.exec,CX])
theorem s_exit {id:Nat} {k':List Item} (h:exitTo id k=some k'):step P (lone (CX b a (.code (.exit id)::k)) cs w)= .next (lone (CX b a k') cs w):=
 step_lone_go (by simp[stepG,stepG.exec,CX,h])
theorem uX {id:Nat} {ops:Array Oper}:step P (lone (CX b a (.code (.region id ops false)::k)) cs w)= .next (lone (CX b a (.inRegion ops (List.range ops.size)::k)) cs w):=
 step_lone_go (by simp[stepG,stepG.exec,CX])
theorem Gz {id:Nat} {ops:Array Oper}:step P (lone (CX b a (.code (.region id ops true)::k)) cs w)=
 .next (lone (CX b a (.inRegion ops (Region.schedule (P.follows .mixedOrders) ops (w.tape w.drawn (.order b.fn id)))::k)) cs {w with drawn:=w.drawn+1}):=
 step_lone_go (by simp[stepG,stepG.exec,CX,choose,Sem.run,Question.forced,Question.cut])
theorem HU {ops:Array Oper}:step P (lone (CX b a (.inRegion ops []::k)) cs w)= .next (lone (CX b a k) cs w):=step_lone_go (by simp[stepG,stepG.exec,CX])
theorem BN (b:Frame) (a:Act) (ops:Array Oper) (i:Nat) (rest:List Nat) (k:List Item) (v:Value):
 (CX b a (.inRegion ops (i::rest)::k)).finish v=CX b (a.put ((ops[i]?).bind (·.dst)) v) (.inRegion ops rest::k):=by
 cases h:(ops[i]?).bind (·.dst)<;>simp[Frame.finish,CX,Act.put,h]
theorem No {ops:Array Oper} {i:Nat} {rest:List Nat} (h:((ops[i]?).map (Region.wanted · (yielded ops a.tmps))).getD false=false):
 step P (lone (CX b a (.inRegion ops (i::rest)::k)) cs w)= .next (lone (CX b (a.put ((ops[i]?).bind (·.dst)) undef) (.inRegion ops rest::k)) cs w):=by
 rw[<-BN];exact step_lone_go (by
  have h':=h;simp only[CX]at*;simp[stepG,stepG.exec,h'])
theorem oY {ops:Array Oper} {i:Nat} {rest:List Nat} {o:Oper} (ho:ops[i]?=some o) (hw:Region.wanted o (yielded ops a.tmps)=true) (hr:b.roundOf=none\/∀c,o.op≠ .defer c):
 stepG P true {frame:=CX b a (.inRegion ops (i::rest)::k),callers:=cs,status:= .running,dying:=none} w=
  stepG.apply P true (CX b a (.inRegion ops (i::rest)::k)) cs none (execOp a.eval o) w:=by
 have he:=M8 b a (.inRegion ops (i::rest)::k);simp only[CX]at he;rcases hr with hr|hr
 .rw[hr]at he;simp[stepG,stepG.exec,stepG.oper,Frame.oper?,CX,ho,hw,he,hr]
 .simp only[stepG,stepG.exec,stepG.oper,Frame.oper?,CX,ho,hw,he];cases hro:b.roundOf with
  |none=>simp[hw]
  |some l=>
   rw[hro]at he;cases Yc:o.op<;>first|exact absurd Yc (hr _)|simp[hw,he]
section op
variable {ops : Array Oper} {i : Nat} {rest : List Nat} {o : Oper} {w' : World} (ho : ops[i]? = some o) (hw : Region.wanted o (yielded ops a.tmps) = true) (hr : b.roundOf = none \/ ∀ c, o.op ≠ .defer c)
include ho hw hr
theorem Bx {v:Value} (h:(execOp a.eval o).run P w= .ok (.value v) w'):
 step P (lone (CX b a (.inRegion ops (i::rest)::k)) cs w)= .next (lone (CX b (a.put o.dst v) (.inRegion ops rest::k)) cs w'):=by
 have Yg:=BN b a ops i rest k v;rw[ho]at Yg;refine step_lone_go ?_;rw[oY ho hw hr];simp only[Qe]at Yg;rw[<-Yg];simp[stepG.apply,h]
theorem Np (h:(execOp a.eval o).run P w= .ok .skip w'):
 step P (lone (CX b a (.inRegion ops (i::rest)::k)) cs w)= .next (lone (CX b (a.put o.dst undef) (.inRegion ops rest::k)) cs w'):=by
 have Yg:=BN b a ops i rest k undef;rw[ho]at Yg;refine step_lone_go ?_;rw[oY ho hw hr];simp only[Qe]at Yg;rw[<-Yg];simp[stepG.apply,h]
theorem Hv {f:FuncId} {args:Array Value} (h:(execOp a.eval o).run P w= .ok (.enter f args) w'):
 step P (lone (CX b a (.inRegion ops (i::rest)::k)) cs w)= .next (lone (Frame.enter P f args .normal) (CX b a (.inRegion ops (i::rest)::k)::cs) w'):=by
 refine step_lone_go ?_;rw[oY ho hw hr];simp[stepG.apply,h,CX]
theorem Pi {l:Nat} {f:FuncId} {tmps:Array Value} {ft body:Code} (h:(execOp a.eval o).run P w= .ok (.round l f tmps ft body) w'):
 step P (lone (CX b a (.inRegion ops (i::rest)::k)) cs w)= .next (lone (Frame.round l f tmps ft body .normal) (CX b a (.inRegion ops (i::rest)::k)::cs) w'):=by
 refine step_lone_go ?_;rw[oY ho hw hr];simp[stepG.apply,h,CX]
theorem zm {d:Deferred} (h:(execOp a.eval o).run P w= .ok (.defer d) w'):
 step P (lone (CX b a (.inRegion ops (i::rest)::k)) cs w)= .next (lone (CX b ({a with defers:=d::a.defers}.put o.dst undef) (.inRegion ops rest::k)) cs w'):=by
 have Yg:=BN b {a with defers:=d::a.defers} ops i rest k undef;rw[ho]at Yg;simp only[Qe]at Yg;refine step_lone_go ?_;rw[oY ho hw hr,<-Yg];simp[stepG.apply,h,CX]
theorem zn {v:Value} (h:(execOp a.eval o).run P w= .halt (.panic v) w'):
 step P (lone (CX b a (.inRegion ops (i::rest)::k)) cs w)=
  .next (lone {CX b a (.inRegion ops (i::rest)::k)with mode:= .panicking [{v,recovered:=false}]} cs w'):=by
 refine step_lone_go ?_;rw[oY ho hw hr];simp[stepG.apply,h,CX,Frame.raise]
theorem JW (h:(execOp a.eval o).run P w= .ok .recover w') (hro:b.roundOf=none) (ht:tryRecover (CX b a (.inRegion ops (i::rest)::k)) cs=none):
 step P (lone (CX b a (.inRegion ops (i::rest)::k)) cs w)= .next (lone (CX b (a.put o.dst .nilIface) (.inRegion ops rest::k)) cs w'):=by
 have Yg:=BN b a ops i rest k .nilIface;rw[ho]at Yg;simp only[Qe]at Yg;refine step_lone_go ?_;rw[oY ho hw hr,<-Yg];have:(CX b a (.inRegion ops (i::rest)::k)).roundOf=none:=hro;simp[stepG.apply,h,this,ht]
theorem JV {v:Value} {XU:List Frame} (h:(execOp a.eval o).run P w= .ok .recover w') (hro:b.roundOf=none) (ht:tryRecover (CX b a (.inRegion ops (i::rest)::k)) cs=some (v,XU)):
 step P (lone (CX b a (.inRegion ops (i::rest)::k)) cs w)= .next (lone (CX b (a.put o.dst v) (.inRegion ops rest::k)) XU w'):=by
 have Yg:=BN b a ops i rest k v;rw[ho]at Yg;simp only[Qe]at Yg;refine step_lone_go ?_;rw[oY ho hw hr,<-Yg];have:(CX b a (.inRegion ops (i::rest)::k)).roundOf=none:=hro;simp[stepG.apply,h,this,ht]
end op
end
def mr (b:Frame) (cs:List Frame):Prop:=tryRecover b cs=none
def mark:List Frame->List Frame
 |c::rest=> {c with mode:=match c.mode with| .panicking (e::l)=> .panicking ({e with recovered:=true}::l)|m=>m}::rest
 | []=>[]
inductive jt (C:Cx):List fD->List Deferred->Prop where
 |nil:jt C [] []
 |cons {d:fD} {x:Deferred} {l:List fD} {r:List Deferred} (h:oP C d x) (t:jt C l r):jt C (d::l) (x::r)
theorem oP.mono {C C':Cx} (e:Ext C C') {d:fD} {x:Deferred} (h:oP C d x):oP C' d x:=by
 cases h with
 |fn hf ha hb=>exact .fn hf (ha.mono e) (hb.mono e)
 |collected hd=>rw[<-e.pl _ hd];exact .collected (e.D _ hd)
theorem jt.mono {C C':Cx} (e:Ext C C') {d:List fD} {x:List Deferred} (h:jt C d x):jt C' d x:=by
 induction h with
 |nil=>exact .nil
 |cons h _ ih=>exact .cons (h.mono e) ih
inductive uY (C:Cx) (b:Frame) (cs:List Frame):Option AV->Prop where
 |none (h:mr b cs):uY C b cs none
 |some {v:AV} {x:Value} {c:Frame} {rest:List Frame} (hk:b.kind= .deferred) (Wt:cs=c::rest) (hm:c.mode= .panicking [{v:=x,recovered:=false}]) (hv:VR C v x):uY C b cs (some v)
inductive qy (C:Cx) (b:Frame):Option Nat->Prop where
 |none (h:b.roundOf=none):qy C b none
 |some {l:Nat} (hd:C.D l) (h:b.roundOf=some (C.pl l).Ci):qy C b (some l)
structure mu (C:Cx) (fr:Fr) (b:Frame) (a:Act) (cs:List Frame):Prop where
 defs:jt C fr.defers a.defers
 WR:uY C b cs fr.WR
 round:qy C b fr.round
theorem mu.mono {C C':Cx} (e:Ext C C') {fr:Fr} {b:Frame} {a:Act} {cs:List Frame} (h:mu C fr b a cs):mu C' fr b a cs:=by
 refine⟨h.defs.mono e,?_,?_⟩
 .have:=h.WR;generalize fr.WR=p at this;cases this with
  |none h=>exact .none h
  |some hk Wt hm hv=>exact .some hk Wt hm (hv.mono e)
 .have:=h.round;generalize fr.round=p at this;cases this with
  |none h=>exact .none h
  |some hd h=>exact .some (e.D _ hd) (by rw[h,e.pl _ hd])
inductive tu:Option AV->Option AV->List Frame->List Frame->Prop where
 |same {p:Option AV} {cs:List Frame}:tu p p cs cs
 |sM {v:AV} {cs:List Frame}:tu (some v) none cs (mark cs)
theorem tu.trans {p q r:Option AV} {a b c:List Frame} (h:tu p q a b) (g:tu q r b c):tu p r a c:=by
 cases h with
 |same=>exact g
 |sM=>
  generalize hq:(none:Option AV)=q' at g;cases g with
  |same=>subst hq;exact .sM
  |sM=>cases hq
def nQ (k:List Item):Prop:=∀d wr r s k',k≠ .call d wr r s::k'
def Ends (P:Program) (b:Frame) (k:List Item) (cs:List Frame) (C:Cx) (m:Machine):Ex->Act->World->Prop
 | .normal,a,w=>Steps P m (lone (CX b a k) cs w)
 | .exit id,a,w=>∃k2,Steps P m (lone (CX b a (.code (.exit id)::k2)) cs w)/\exitTo id k2=exitTo id k
 | .ret,a,w=>∃k2,Steps P m (lone (CX b a (.code .ret::k2)) cs w)
 | .panic v,a,w=>∃k2 x,Steps P m (lone {CX b a k2 with mode:= .panicking [{v:=x,recovered:=false}]} cs w)/\VR C v x/\nQ k2
theorem Ends.steps {P:Program} {b:Frame} {k:List Item} {cs:List Frame} {C:Cx} {m m':Machine} (hs:Steps P m m') {e:Ex} {a:Act} {w:World} (h:Ends P b k cs C m' e a w):Ends P b k cs C m e a w:=by
 cases e with
 |normal=>exact hs.trans h
 |exit id=>obtain⟨k2,h1,h2⟩:=h;exact⟨k2,hs.trans h1,h2⟩
 |ret=>obtain⟨k2,h1⟩:=h;exact⟨k2,hs.trans h1⟩
 |panic v=>obtain⟨k2,x,h1,h2⟩:=h;exact⟨k2,x,hs.trans h1,h2⟩
def iX:Out->Option (List bO)
 | .stuck=>none
 | .one r=>some [r]
 | .many l=>some l
def Good (P:Program) (C:Cx) (S:St) (w:World) (fr:Fr) (b:Frame) (k:List Item) (cs:List Frame) (m:Machine) (out:Out):Prop:=
 ∀l,iX out=some l->∃r∈l,∃C' a' w' XU,Cu C S w C' r.st w'/\TR C' r.fr.nt r.T a'.tmps/\mu C' r.fr b a' XU/\r.fr.nt=fr.nt/\r.fr.round=fr.round/\
  tu fr.WR r.fr.WR cs XU/\Ends P b k XU C' m r.ex a' w'
theorem A1 {P:Program} {C:Cx} {S:St} {w:World} {fr:Fr} {b:Frame} {k:List Item} {cs:List Frame} {m:Machine}:Good P C S w fr b k cs m .stuck:=fun _ h=>by cases h
theorem Good.steps {P:Program} {C:Cx} {S:St} {w:World} {fr:Fr} {b:Frame} {k:List Item} {cs:List Frame} {m m':Machine} {out:Out} (hs:Steps P m m') (h:Good P C S w fr b k cs m' out):
 Good P C S w fr b k cs m out:=fun l hl=>
 let⟨r,hr,C',a',w',XU,h1,h2,h3,h4,h5,h6,h7⟩:=h l hl;⟨r,hr,C',a',w',XU,h1,h2,h3,h4,h5,h6,h7.steps hs⟩
def YB (E:Env) (P:Program) (c:Code) (run:tU):Prop:=
 ∀(C:Cx) (S:St) (w:World) (fr:Fr) (T:Tr AV) (b:Frame) (a:Act) (k:List Item) (cs:List Frame),W5 E C->TR C fr.nt T a.tmps->mu C fr b a cs->W2 C S w->
  Good P C S w fr b k cs (lone (CX b a (.code c::k)) cs w) (run fr T S)
theorem Fb {k:bO->Out}:∀ {l:List bO} {y:List bO},Out.aZ k l=some y->∀r∈l,∃l',iX (k r)=some l'/\∀x∈l',x∈y
 |a::l,y,h,r,hr=>by
  simp only[Out.aZ]at h;cases ha:k a with
  |stuck=>rw[ha]at h;cases h
  |one x=>
   rw[ha]at h;cases hj:Out.aZ k l with
   |none=>rw[hj]at h;cases h
   |some z=>
    rw[hj]at h;cases h;rcases Qk.1 hr with rfl|hr
    .exact⟨[x],by rw[ha];rfl,fun q hq=>by simp at hq;subst hq;exact Qh ..⟩
    .obtain⟨l',h1,h2⟩:=Fb hj r hr;exact⟨l',h1,fun q hq=>Qg _ (h2 q hq)⟩
  |many xs=>
   rw[ha]at h;cases hj:Out.aZ k l with
   |none=>rw[hj]at h;cases h
   |some z=>
    rw[hj]at h;cases h;rcases Qk.1 hr with rfl|hr
    .exact⟨xs,by rw[ha];rfl,fun q hq=>List.mem_append_left _ hq⟩
    .obtain⟨l',h1,h2⟩:=Fb hj r hr;exact⟨l',h1,fun q hq=>List.mem_append_right _ (h2 q hq)⟩
theorem Tk {o:Out} {k:bO->Out} {l:List bO} (h:iX (o.then k)=some l):∃l0,iX o=some l0/\∀r∈l0,∃l',iX (k r)=some l'/\∀x∈l',x∈l:=by
 cases o with
 |stuck=>cases h
 |one r=>exact⟨[r],rfl,fun q hq=>by simp at hq;subst hq;exact⟨l,h,fun x hx=>hx⟩⟩
 |many xs=>
  refine⟨xs,U,?_⟩;unfold Out.then at h;simp only at h;cases hj:Out.aZ k xs with
  |none=>rw[hj]at h;cases h
  |some y=>grind [Out.ofList,iX,Fb]
theorem Good.then {E:Env} {P:Program} {C:Cx} {S:St} {w:World} {fr:Fr} {b:Frame} {k k0:List Item} {cs:List Frame} {m:Machine} {out:Out} {kf:bO->Out} (hg:W5 E C)
 (h:Good P C S w fr b k0 cs m out)
 (hk:∀(r:bO) (C':Cx) (a':Act) (w':World) (XU:List Frame) (m':Machine),W5 E C'->W2 C' r.st w'->TR C' r.fr.nt r.T a'.tmps->mu C' r.fr b a' XU->Ends P b k0 XU C' m' r.ex a' w'->
  Good P C' r.st w' r.fr b k XU m' (kf r)):Good P C S w fr b k cs m (out.then kf):=by
 intro l hl;obtain⟨l0,h0,h1⟩:=Tk hl;obtain⟨r,hr,C',a',w',XU,t,hT,hF,hn,iY,Wt,he⟩:=h l0 h0;obtain⟨l',ZC,ZP⟩:=h1 r hr;obtain⟨r2,qz,C2,a2,w2,cs2,t2,kN,hF2,hn2,hrd2,hcs2,he2⟩:=hk r C' a' w' XU m (hg.mono t.ext) t.st hT hF he l' ZC;exact⟨r2,ZP r2 qz,C2,a2,w2,cs2,t.trans t2,kN,hF2,hn2.trans hn,hrd2.trans iY,Wt.trans hcs2,he2⟩
theorem Good.one {P:Program} {C:Cx} {r:bO} {w:World} {b:Frame} {a:Act} {k:List Item} {cs:List Frame} {m:Machine} (hS:W2 C r.st w) (hT:TR C r.fr.nt r.T a.tmps) (hF:mu C r.fr b a cs)
 (he:Ends P b k cs C m r.ex a w):Good P C r.st w r.fr b k cs m (.one r):=by
 intro l hl;cases hl;exact⟨r,Qn.2 U,C,a,w,cs,Cu.refl hS,hT,hF,U,U,.same,he⟩
section
variable {E : Env} {P : Program}
def kO (E:Env) (P:Program) (ev:Ev):Prop:=∀c,YB E P c (ev c)
theorem TY {ev:Ev} {c:Code} (h:∀(b:Frame) (a:Act) (k:List Item) (cs:List Frame) (w:World),step P (lone (CX b a (.code c::k)) cs w)= .next (lone (CX b a k) cs w)):YB E P c (qU.run ev):=by
 intro C S w fr T b a k cs hg hT hF hS;exact Good.one (r:=⟨.normal,fr,T,S⟩) hS hT hF (.one (h b a k cs w))
theorem Oc {x:Item} (h:∀id,x≠ .inBlock id) (id:Nat) (k:List Item):exitTo id (x::k)=exitTo id k:=by
 cases x<;>first|rfl|exact absurd rfl (h _)
theorem JS {b:Frame} {x:Item} {k:List Item} {cs:List Frame} {C:Cx} {m:Machine} {e:Ex} {a:Act} {w:World} (hx:∀id,x≠ .inBlock id) (hn:e≠ .normal)
 (h:Ends P b (x::k) cs C m e a w):Ends P b k cs C m e a w:=by
 cases e with
 |normal=>exact absurd rfl hn
 |exit id=>obtain⟨k2,h1,h2⟩:=h;exact⟨k2,h1,by rw[h2,Oc hx]⟩
 |ret=>exact h
 |panic v=>exact h
theorem ok_seq {x y:Code} {ka kb:tU} (ha:YB E P x ka) (hb:YB E P y kb):YB E P (.seq x y) (fun fr T s=>(ka fr T s).then (lu kb)):=by
 intro C S w fr T b a k cs hg hT hF hS;refine Good.steps (.one s_seq) (Good.then hg (ha C S w fr T b a (.code y::k) cs hg hT hF hS) ?_);intro r C' a' w' XU m' eU uE ZQ uZ he;unfold lu;split
 .next h=>
  rw[h]at he;exact Good.steps he (hb C' r.st w' r.fr r.T b a' k XU eU ZQ uZ uE)
 .grind [Good.one,JS]
theorem zp {x:Operand} {c d:Code} {ka kb:tU} (ha:YB E P c ka) (hb:YB E P d kb):YB E P (.cond x c d) (fun fr T s=>eT ka kb fr T s (Cg E x T)):=by
 intro C S w fr T b a k cs hg hT hF hS;show Good P C S w fr b k cs _ (eT ka kb fr T S (Cg E x T));unfold eT;split
 .next t hx=>
  have hTa:TR C a.tmps.size T a.tmps:=⟨rfl,hT.2⟩
  have hv:=Ak hg hTa hx;generalize hq:a.eval x=q at hv;cases hv;have hs:=s_cond (P:=P) (b:=b) (k:=k) (cs:=cs) (w:=w) (x:=c) (y:=d) hq;cases t with
  |true=>exact Good.steps (.one hs) (ha C S w fr T b a k cs hg hT hF hS)
  |false=>exact Good.steps (.one hs) (hb C S w fr T b a k cs hg hT hF hS)
 .exact A1
theorem vc {id:Nat} {c:Code} {ka:tU} (ha:YB E P c ka):YB E P (.block id c) (fun fr T s=>(ka fr T s).then (ef id)):=by
 intro C S w fr T b a k cs hg hT hF hS;refine Good.steps (.one zk) (Good.then hg (ha C S w fr T b a (.inBlock id::k) cs hg hT hF hS) ?_);intro r C' a' w' XU m' eU uE ZQ uZ he;obtain⟨ex,Yf,T',ZD⟩:=r;unfold ef;cases ex with
 |exit i=>
  obtain⟨k2,h1,h2⟩:=he;simp only;cases hi:Nat.beq i id with
  |true=>
   have:=Qb hi;subst this;simp only[cond_true];have hk:exitTo i k2=some k:=by rw[h2];simp[exitTo]
   exact Good.one (r:=⟨.normal,Yf,T',ZD⟩) uE ZQ uZ (h1.trans (.one (s_exit hk)))
  |false=>
   have YM:=Nat.ne_of_beq_eq_false hi;simp only[cond_false];refine Good.one (r:=⟨.exit i,Yf,T',ZD⟩) uE ZQ uZ ⟨k2,h1,?_⟩;rw[h2];have:(id==i)=false:=by simp;exact fun h=>YM h.symm
   simp[exitTo,this]
 |normal=>exact Good.one (r:=⟨.normal,Yf,T',ZD⟩) uE ZQ uZ (Steps.trans he (.one T3))
 |ret=>exact Good.one (r:=⟨.ret,Yf,T',ZD⟩) uE ZQ uZ he
 |panic v=>exact Good.one (r:=⟨.panic v,Yf,T',ZD⟩) uE ZQ uZ he
theorem vd {c:Code} {ka:tU} (ha:YB E P c ka):YB E P (.scope c) ka:=by
 intro C S w fr T b a k cs hg hT hF hS l hl;obtain⟨r,hr,C',a',w',XU,t,h2,h3,h4,h5,h6,he⟩:=ha C S w fr T b a (.inScope c::k) cs hg hT hF hS l hl;refine⟨r,hr,C',a',w',XU,t,h2,h3,h4,h5,h6,Ends.steps (.one zl) ?_⟩;by_cases hn:r.ex= .normal
 .rw[hn]at he|-;exact Steps.trans he (.one Tz)
 .grind [JS]
theorem FA {f g:Frame} {cs XU:List Frame} {w w':World} (h:lone f cs w=lone g XU w'):f=g:=by
 have:=congrArg Machine.gs h;simp[lone]at this;exact this.1
theorem FM {m m' m'':Machine} (h:Steps P m m'') (YM:m≠m'') (he:step P m=step P m'):Steps P m' m'':=by
 obtain⟨n,hn⟩:=h;cases n with
 |zero=>exact absurd (by simpa[runN]using hn) YM
 |succ n=>
  refine⟨n+1,?_⟩;unfold runN at hn|-;rw[<-he];exact hn
theorem PO {C:Cx} {S:St} {w:World} {fr:Fr} {b:Frame} {a:Act} {c:Code} {k:List Item} {cs:List Frame} {out:Out}
 (h:Good P C S w fr b k cs (lone (CX b a (.code (.loop c)::k)) cs w) out):Good P C S w fr b k cs (lone (CX b a (.inLoop c::k)) cs w) out:=by
 have WT:step P (lone (CX b a (.code (.loop c)::k)) cs w)=step P (lone (CX b a (.inLoop c::k)) cs w):=uV.trans uW.symm;intro l hl;obtain⟨r,hr,C',a',w',XU,t,h2,h3,h4,h5,h6,he⟩:=h l hl;refine⟨r,hr,C',a',w',XU,t,h2,h3,h4,h5,h6,?_⟩;generalize r.ex=e at he;cases e with
 |normal=>
  refine FM he (fun hm=>?_) WT;have:=congrArg Frame.todo (FA hm);have:=congrArg List.length this;simp[CX]at this
 |exit id=>
  obtain⟨k2,h1,h2⟩:=he;refine⟨k2,FM h1 (fun hm=>?_) WT,h2⟩;have:=congrArg Frame.todo (FA hm);simp[CX]at this
 |ret=>
  obtain⟨k2,h1⟩:=he;refine⟨k2,FM h1 (fun hm=>?_) WT⟩;have:=congrArg Frame.todo (FA hm);simp[CX]at this
 |panic v=>
  obtain⟨k2,x,h1,h2⟩:=he;refine⟨k2,x,FM h1 (fun hm=>?_) WT,h2⟩;have:=congrArg Frame.mode (FA hm);simp[CX]at this
theorem zq {c:Code} {ka kl:tU} (ha:YB E P c ka) (hl:YB E P (.loop c) kl):YB E P (.loop c) (fun fr T s=>(ka fr T s).then (lu kl)):=by
 intro C S w fr T b a k cs hg hT hF hS;refine Good.steps (.one uV) (Good.then hg (ha C S w fr T b a (.inLoop c::k) cs hg hT hF hS) ?_);intro r C' a' w' XU m' eU uE ZQ uZ he;unfold lu;split
 .next h=>
  rw[h]at he;exact Good.steps he (PO (hl C' r.st w' r.fr r.T b a' k XU eU ZQ uZ uE))
 .grind [Good.one,JS]
theorem zr {id:Nat}:YB E P (.exit id) (fun fr T s=> .one ⟨.exit id,fr,T,s⟩):=by
 intro C S w fr T b a k cs hg hT hF hS;exact Good.one (r:=⟨.exit id,fr,T,S⟩) hS hT hF ⟨k,.refl _ _,U⟩
theorem ok_ret:YB E P .ret (fun fr T s=> .one ⟨.ret,fr,T,s⟩):=by
 intro C S w fr T b a k cs hg hT hF hS;exact Good.one (r:=⟨.ret,fr,T,S⟩) hS hT hF ⟨k,.refl _ _⟩
theorem Mj {c:Code}:YB E P c (fun _ _ _=> .stuck):=fun _ _ _ _ _ _ _ _ _ _ _ _ _=>A1
end
def Returns (P:Program) (m:Machine) (c:Frame) (cs:List Frame) (C:Cx) (S:St) (w:World):CR->Prop
 | .same v=>∃C' x w',Steps P m (lone (c.finish x) cs w')/\Cu C S w C' S w'/\VR C' v x
 | .val v S'=>∃C' x w',Steps P m (lone (c.finish x) cs w')/\Cu C S w C' S' w'/\VR C' v x
 | .WR v S'=>∃C' x w',Steps P m (lone (c.raise [{v:=x,recovered:=false}]) cs w')/\Cu C S w C' S' w'/\VR C' v x
def Zi (E:Env) (P:Program) (ev:Ev):Prop:=
 ∀(f:FuncId) (args:List AV) (cr:CR) (C:Cx) (S:St) (w:World) (xs:Array Value) (c:Frame) (cs:List Frame),WA E ev f args S=some cr->W5 E C->Wc C args xs.toList->W2 C S w->
  Returns P (lone (Frame.enter P f xs .normal) (c::cs) w) c cs C S w cr
def Zj (E:Env) (P:Program) (ev:Ev):Prop:=
 ∀(g:AV) (args:List AV) (cr:CR) (C:Cx) (S:St) (w:World) (gx:Value) (xs:Array Value) (c:Frame) (cs:List Frame),Yi E ev args S g=some cr->W5 E C->VR C g gx->Wc C args xs.toList->W2 C S w->
  (∃f ys,(do let d<-Deferred.ofValue gx xs;invoke d.target d.args:Sem Next).run P w= .ok (.enter f ys) w/\Returns P (lone (Frame.enter P f ys .normal) (c::cs) w) c cs C S w cr)\/
  (∃l f tmps ft body,(do let d<-Deferred.ofValue gx xs;invoke d.target d.args:Sem Next).run P w= .ok (.round l f tmps ft body) w/\Returns P (lone (Frame.round l f tmps ft body .normal) (c::cs) w) c cs C S w cr)
def nR (E:Env) (P:Program) (ops:Array Oper) (idx:List Nat) (dst:Option Tmp) (kr:Fr->Tr AV->AV->St->Out):Prop:=
 ∀(C:Cx) (S:St) (w:World) (fr:Fr) (T:Tr AV) (b:Frame) (a:Act) (k:List Item) (cs:List Frame) (v:AV) (x:Value),W5 E C->TR C fr.nt T a.tmps->mu C fr b a cs->W2 C S w->VR C v x->
  Good P C S w fr b k cs (lone (CX b (a.put dst x) (.inRegion ops idx::k)) cs w) (kr fr T v S)
def ve (E:Env) (P:Program) (ops:Array Oper) (idx:List Nat) (run:tU):Prop:=
 ∀(C:Cx) (S:St) (w:World) (fr:Fr) (T:Tr AV) (b:Frame) (a:Act) (k:List Item) (cs:List Frame),W5 E C->TR C fr.nt T a.tmps->mu C fr b a cs->W2 C S w->
  Good P C S w fr b k cs (lone (CX b a (.inRegion ops idx::k)) cs w) (run fr T S)
section
variable {E : Env} {P : Program}
theorem Bj {C C1:Cx} {S S1:St} {w w1:World} {fr:Fr} {b:Frame} {k:List Item} {cs:List Frame} {m:Machine} {out:Out} (t:Cu C S w C1 S1 w1) (h:Good P C1 S1 w1 fr b k cs m out):
 Good P C S w fr b k cs m out:=fun l hl=>
 let⟨r,hr,C',a',w',XU,h1,h2,h3,h4,h5,h6,h7⟩:=h l hl;⟨r,hr,C',a',w',XU,t.trans h1,h2,h3,h4,h5,h6,h7⟩
theorem KH (a:Act) (d:Option Tmp) (v:Value):(a.put d v).defers=a.defers:=by cases d<;>rfl
theorem Qs (a:Act) (d:Option Tmp) (v:Value):(a.put d v).tmps.size=a.tmps.size:=by cases d<;>simp[Act.put]
theorem mu.put {C:Cx} {fr:Fr} {b:Frame} {a:Act} {cs:List Frame} (h:mu C fr b a cs) (d:Option Tmp) (v:Value):mu C fr b (a.put d v) cs:=⟨by rw[KH];exact h.defs,h.WR,h.round⟩
theorem TR.put {C:Cx} {nt:Nat} {T:Tr AV} {a:Act} (h:TR C nt T a.tmps) {d:Nat} (hd:d<nt) {v:AV} {x:Value} (hv:VR C v x):TR C nt (T.set d (some v)) (a.put (some d) x).tmps:=by
 refine⟨by rw[Qs];exact h.1,fun i u hi=>?_⟩;rw[Ay]at hi;simp only[Act.put,Array.getElem?_setIfInBounds];split at hi
 .next e=>subst e;cases hi;exact⟨x,by simp[h.1,hd],hv⟩
 .next e=>
  obtain⟨y,hy,hr⟩:=h.2 i u hi;exact⟨y,by rw[if_neg (fun e'=>e e'.symm)];exact hy,hr⟩
theorem vf {ops:Array Oper} {idx:List Nat} {dst:Option Nat} {k:Cl} {ev:Ev} (h:ve E P ops idx (k.run ev)):nR E P ops idx dst ((YS dst k).run ev):=by
 intro C S w fr T b a k' cs v x hg hT hF hS hv;cases dst with
 |none=>exact h C S w fr T b a k' cs hg hT hF hS
 |some d=>
  show Good P C S w fr b k' cs _ (bif Nat.blt d fr.nt then _ else _);cases hd:Nat.blt d fr.nt with
  |false=>exact A1
  |true=>
   have Co:d<fr.nt:=by simpa[Nat.blt_eq]using hd
   exact h C S w fr (T.set d (some v)) b (a.put (some d) x) k' cs hg (hT.put Co hv) (hF.put _ _) hS
theorem vg {a b:Out} {y:List bO} (h:iX (Out.app a b)=some y):∃x z,iX a=some x/\iX b=some z/\y=x++z:=by
 cases a<;>cases b<;>first|(cases h;done)|(cases h;exact⟨_,_,rfl,rfl,by simp⟩)
theorem Jd {k:AV->St->Out}:∀ {l:List (AV×St)} {y:List bO},iX (Ya k l)=some y->∀p∈l,∃l',iX (k p.1 p.2)=some l'/\∀x∈l',x∈y
 | [p],y,h,q,hq=>by
  simp at hq;subst hq;exact⟨y,h,fun x hx=>hx⟩
 |p::p'::l,y,h,q,hq=>by
  obtain⟨x,z,h1,h2,rfl⟩:=vg (a:=k p.1 p.2) (b:=Ya k (p'::l)) h;rcases Qk.1 hq with rfl|hq
  .grind
  .obtain⟨l',h3,h4⟩:=Jd h2 q hq;exact⟨l',h3,fun x hx=>List.mem_append_right _ (h4 x hx)⟩
theorem JR {C:Cx} {S:St} {w:World} {fr:Fr} {b:Frame} {k':List Item} {cs:List Frame} {m:Machine} {k:AV->St->Out} {l:List (AV×St)} {p:AV×St} (hp:p∈l)
 (h:Good P C S w fr b k' cs m (k p.1 p.2)):Good P C S w fr b k' cs m (Ya k l):=by
 intro y hy;obtain⟨l',h1,h2⟩:=Jd hy p hp;obtain⟨r,hr,rest⟩:=h l' h1;exact⟨r,h2 r hr,rest⟩
theorem PQ {s:St} {v:AV}:∀ {l:List AV},v∈l->(v,s)∈oL s l
 |a::l,h=>by
  simp only[oL];rcases Qk.1 h with rfl|h
  .exact Qh ..
  .exact Qg _ (PQ h)
theorem IV {o:Oper} {so:bf} (h:Xz E o.type o.op=so) (h1:∀f,so≠ .defer f) (h2:so≠ .bad):∀c,o.op≠ .defer c:=by grind [Xz,fI]
theorem N4 (b:Frame) (a:Act) (todo:List Item) (chain:List PanicEntry):(CX b a todo).raise chain= {CX b a todo with mode:= .panicking chain}:=rfl
theorem vh {ops:Array Oper} {i:Nat} {idx:List Nat} {o:Oper} (ho:ops[i]?=some o) {kr:Fr->Tr AV->AV->St->Out} (hk:nR E P ops idx o.dst kr) {C:Cx} {S:St} {w:World} {fr:Fr} {T:Tr AV} {b:Frame}
 {a:Act} {k':List Item} {cs:List Frame} (hg:W5 E C) (hT:TR C fr.nt T a.tmps) (hF:mu C fr b a cs) (hS:W2 C S w) {m:Machine} {cr:CR}
 (h:Returns P m (CX b a (.inRegion ops (i::idx)::k')) cs C S w cr):Good P C S w fr b k' cs m (Xy fr T S (kr fr T) (some cr)):=by
 have Yg:=fun v=>BN b a ops i idx k' v;simp only[ho,Qe]at Yg;cases cr with
 |same v=>
  obtain⟨C',x,w',hs,t,hv⟩:=h;rw[Yg]at hs;exact Good.steps hs (Bj t (hk C' S w' fr T b a k' cs v x (hg.mono t.ext) (hT.mono t.ext) (hF.mono t.ext) t.st hv))
 |val v S'=>
  obtain⟨C',x,w',hs,t,hv⟩:=h;rw[Yg]at hs;exact Good.steps hs (Bj t (hk C' S' w' fr T b a k' cs v x (hg.mono t.ext) (hT.mono t.ext) (hF.mono t.ext) t.st hv))
 |WR v S'=>
  obtain⟨C',x,w',hs,t,hv⟩:=h;rw[N4]at hs;exact Bj t (Good.one (r:=⟨.panic v,fr,T,S'⟩) t.st (hT.mono t.ext) (hF.mono t.ext) ⟨_,x,hs,hv,by intro _ _ _ _ _ h;cases h⟩)
theorem zt {ev:Ev} (Wi:Zi E P ev) (W3:Zj E P ev) {ops:Array Oper} {i:Nat} {idx:List Nat} {o:Oper} (ho:ops[i]?=some o) {so:bf} (ZW:Yq E P o so) (heq:Xz E o.type o.op=so) {k:oM}
 (hk:nR E P ops idx o.dst (k.run ev)) {C:Cx} {S:St} {w:World} {fr:Fr} {T:Tr AV} {b:Frame} {a:Act} {k':List Item} {cs:List Frame} (hg:W5 E C) (hT:TR C fr.nt T a.tmps)
 (hF:mu C fr b a cs) (hS:W2 C S w) (hw:Region.wanted o (yielded ops a.tmps)=true):
 Good P C S w fr b k' cs (lone (CX b a (.inRegion ops (i::idx)::k')) cs w) ((Xd E so k).run ev fr T S):=by
 have hTa:TR C a.tmps.size T a.tmps:=⟨rfl,hT.2⟩
 have sp:=ZW C T a S w hg hTa hS;have hr:(∀f,so≠ .defer f)->so≠ .bad->b.roundOf=none\/∀c,o.op≠ .defer c:=fun h1 h2=> .inr (IV heq h1 h2);cases so with
 |bad=>exact A1
 |make f=>
  show Good P C S w fr b k' cs _ (mc S (k.run ev fr T) (f T));cases hf:f T with
  |none=>exact A1
  |some mk=>
   cases mk with
   |val v=>
    obtain⟨C',x,w',C8,t,hv⟩:=sp.1 v hf;exact Good.steps (.one (Bx ho hw (hr (by simp) (by simp)) C8)) (Bj t (hk C' S w' fr T b a k' cs v x (hg.mono t.ext) (hT.mono t.ext) (hF.mono t.ext) t.st hv))
   |obj ob g=>
    obtain⟨C',x,w',C8,t,hv⟩:=sp.2 ob g hf;exact Good.steps (.one (Bx ho hw (hr (by simp) (by simp)) C8)) (Bj t (hk C' _ w' fr T b a k' cs _ x (hg.mono t.ext) (hT.mono t.ext) (hF.mono t.ext) t.st hv))
 |pure f=>
  show Good P C S w fr b k' cs _ (X0 (fun v=>k.run ev fr T v S) (f T));cases hf:f T with
  |none=>exact A1
  |some v=>
   obtain⟨x,C8,hv⟩:=sp v hf;exact Good.steps (.one (Bx ho hw (hr (by simp) (by simp)) C8)) (hk C S w fr T b a k' cs v x hg hT hF hS hv)
 |read xo f=>
  show Good P C S w fr b k' cs _ (X0 (fun v=>k.run ev fr T v S) (f T S));cases hf:f T S with
  |none=>exact A1
  |some v=>
   obtain⟨x,C8,hv⟩:=sp v hf;exact Good.steps (.one (Bx ho hw (hr (by simp) (by simp)) C8)) (hk C S w fr T b a k' cs v x hg hT hF hS hv)
 |look f=>
  show Good P C S w fr b k' cs _ (X0 (fun v=>k.run ev fr T v S) (f T S));cases hf:f T S with
  |none=>exact A1
  |some v=>
   obtain⟨x,C8,hv⟩:=sp v hf;exact Good.steps (.one (Bx ho hw (hr (by simp) (by simp)) C8)) (hk C S w fr T b a k' cs v x hg hT hF hS hv)
 |act only xo f=>
  show Good P C S w fr b k' cs _ (nv (k.run ev fr T) (f T S));cases hf:f T S with
  |none=>exact A1
  |some p=>
   obtain⟨v,S'⟩:=p;obtain⟨C',nx,w',C8,t,aC⟩:=sp v S' hf;cases aC with
   | @value _ x hv=>exact Good.steps (.one (Bx ho hw (hr (by simp) (by simp)) C8)) (Bj t (hk C' S' w' fr T b a k' cs v x (hg.mono t.ext) (hT.mono t.ext) (hF.mono t.ext) t.st hv))
   |skip=>exact Good.steps (.one (Np ho hw (hr (by simp) (by simp)) C8)) (Bj t (hk C' S' w' fr T b a k' cs _ undef (hg.mono t.ext) (hT.mono t.ext) (hF.mono t.ext) t.st VR.unit))
 |pick f=>
  show Good P C S w fr b k' cs _ (ZJ (k.run ev fr T) ((f T).bind fun l=>some (oL S l)));cases hf:f T with
  |none=>exact A1
  |some l=>
   obtain⟨v,hv,x,C8,aw⟩:=sp l hf;exact Good.steps (.one (Bx ho hw (hr (by simp) (by simp)) C8)) (JR (PQ hv) (hk C S w fr T b a k' cs v x hg hT hF hS aw))
 |lO f=>
  show Good P C S w fr b k' cs _ (ZJ (k.run ev fr T) (f T S));cases hf:f T S with
  |none=>exact A1
  |some l=>
   obtain⟨p,hp,C',x,w',C8,t,aw⟩:=sp l hf;exact Good.steps (.one (Bx ho hw (hr (by simp) (by simp)) C8)) (Bj t (JR hp (hk C' p.2 w' fr T b a k' cs p.1 x (hg.mono t.ext) (hT.mono t.ext) (hF.mono t.ext) t.st aw)))
 |call f=>
  show Good P C S w fr b k' cs _ (Xy fr T S (k.run ev fr T) ((f T S).bind fun p=>WA E ev p.1 p.2 S));cases hf:f T S with
  |none=>exact A1
  |some p=>
   obtain⟨g,args⟩:=p;obtain⟨xs,C8,WQ⟩:=sp g args hf;simp only[Qe];cases lE:WA E ev g args S with
   |none=>exact A1
   |some cr=>
    have Zx:=Wi g args cr C S w xs (CX b a (.inRegion ops (i::idx)::k')) cs lE hg WQ hS;exact Good.steps (.one (Hv ho hw (hr (by simp) (by simp)) C8)) (vh ho hk hg hT hF hS Zx)
 |ah f ar=>
  show Good P C S w fr b k' cs _ (Xy fr T S (k.run ev fr T) ((f T).bind fun g=>(ar T).bind fun args=>Yi E ev args S g));cases hf:f T with
  |none=>exact A1
  |some g=>
  cases ha:ar T with
  |none=>exact A1
  |some args=>
   obtain⟨gx,xs,hgx,eX,hex⟩:=sp g args hf ha;simp only[Qe];cases lE:Yi E ev args S g with
   |none=>exact A1
   |some cr=>
    rcases W3 g args cr C S w gx xs (CX b a (.inRegion ops (i::idx)::k')) cs lE hg hgx eX hS with⟨f',ys,C8,Zx⟩|⟨l,f',tmps,ft,body,C8,Zx⟩
    .rw[<-hex]at C8;exact Good.steps (.one (Hv ho hw (hr (by simp) (by simp)) C8)) (vh ho hk hg hT hF hS Zx)
    .rw[<-hex]at C8;exact Good.steps (.one (Pi ho hw (hr (by simp) (by simp)) C8)) (vh ho hk hg hT hF hS Zx)
 |defer f=>
  show Good P C S w fr b k' cs _ (hY fr (fun fr v=>k.run ev fr T v S) (f T));cases hf:f T with
  |none=>exact A1
  |some d=>
   obtain⟨dv,C8,hd⟩:=sp d hf;obtain⟨nt,defers,WR,round⟩:=fr;cases round with
   |some l=>exact A1
   |none=>
    have ig:b.roundOf=none:=by have:=hF.round;cases this with|none h=>exact h
    have:=hk C S w ⟨nt,d::defers,WR,none⟩ T b {a with defers:=dv::a.defers} k' cs (.tuple []) undef hg hT ⟨.cons hd hF.defs,hF.WR,hF.round⟩ hS VR.unit;exact Good.steps (.one (zm ho hw (.inl ig) C8)) this
 |panic f=>
  show Good P C S w fr b k' cs _ (X0 (fun v=> .one ⟨.panic v,fr,T,S⟩) (f T));cases hf:f T with
  |none=>exact A1
  |some v=>
   obtain⟨x,C8,hv⟩:=sp v hf;exact Good.one (r:=⟨.panic v,fr,T,S⟩) hS hT hF ⟨_,x,.one (zn ho hw (hr (by simp) (by simp)) C8),hv,by intro _ _ _ _ _ h;cases h⟩
 |recover=>
  show Good P C S w fr b k' cs _ (kD fr fun fr v=>k.run ev fr T v S);obtain⟨nt,defers,WR,round⟩:=fr;cases round with
  |some l=>exact A1
  |none=>
   have ig:b.roundOf=none:=by have:=hF.round;cases this with|none h=>exact h
   have htr:∀todo,tryRecover (CX b a todo) cs=tryRecover b cs:=by
    intro todo;cases xY:b.kind<;>cases cs<;>simp[tryRecover,CX,xY]
   have sN:=hF.WR;cases WR with
   |none=>
    cases sN with
    |none Z4=>
     exact Good.steps (.one (JW ho hw (hr (by simp) (by simp)) sp ig (by rw[htr];exact Z4))) (hk C S w ⟨nt,defers,none,none⟩ T b a k' cs .CP .nilIface hg hT hF hS .CP)
   |some v=>
    cases sN with
    | @some _ x c rest oR Wt hm hv=>
     subst Wt;have hrec:tryRecover b (c::rest)=some (x,mark (c::rest)):=by
      simp[tryRecover,oR,hm,mark]
     have Zk:=hk C S w ⟨nt,defers,none,none⟩ T b a k' (mark (c::rest)) v x hg hT ⟨hF.defs,.none (by simp[mr,tryRecover,mark,oR,hm]),hF.round⟩ hS hv;refine Good.steps (.one (JV ho hw (hr (by simp) (by simp)) sp ig (by rw[htr];exact hrec))) ?_;intro l hl;obtain⟨r,dD,C',a',w',XU,h1,h2,h3,h4,h5,h6,h7⟩:=Zk l hl;exact⟨r,dD,C',a',w',XU,h1,h2,h3,h4,h5,tu.trans .sM h6,h7⟩
end
section
variable {E : Env} {P : Program}
theorem Rt {C:Cx} {want:Bool} {v:AV} {x:Value} (hv:VR C v x) {t:Bool} (h:cN want (some v)=some t):((match some x with|some (.bool b)=>some b|_=>none:Option Bool)==some want)=t:=by
 cases hv with
 |bool b=>
  simp only[cN]at h;cases h;cases b<;>cases want<;>rfl
 |any x hx=>cases h
 |_=>simp only[cN]at h;cases h;cases want<;>rfl
theorem I5 {C:Cx} {T:Tr AV} {a:Act} (hT:TR C a.tmps.size T a.tmps) {ops:Array Oper} {o:Oper} {j:Nat} {want:Bool} (hg:o.guard=some (j,want)) {t:Bool} (h:WN ops.toList (j,want) T=some t):
 Region.wanted o (yielded ops a.tmps)=t:=by
 have hw:Region.wanted o (yielded ops a.tmps)=(yielded ops a.tmps j==some want):=by unfold Region.wanted;rw[hg]
 rw[hw];unfold WN aK at h;rw[DV,Array.getElem?_toList]at h;unfold yielded;cases ho:ops[j]? with
 |none=>
  rw[ho]at h;cases h;cases want<;>rfl
 |some oj=>
  rw[ho]at h;cases hd:oj.dst with
  |none=>
   simp only[Qe,hd,Option.bind_none]at h|-;cases h;cases want<;>rfl
  |some d=>
   simp only[Qe,hd]at h|-;cases hp:Tr.ff (pathOf d) T with
   |none=>rw[hp]at h;cases h
   |some v=>
    rw[hp]at h;obtain⟨x,hx,hv⟩:=hT.2 d v hp;rw[hx];exact Rt hv h
theorem RL {ev:Ev} {ops:Array Oper} {i:Nat} {idx:List Nat} {o:Oper} (ho:ops[i]?=some o) {step:Cl} {k:oM} (hk:nR E P ops idx o.dst (k.run ev))
 (hs:∀(C:Cx) (S:St) (w:World) (fr:Fr) (T:Tr AV) (b:Frame) (a:Act) (k':List Item) (cs:List Frame),W5 E C->TR C fr.nt T a.tmps->mu C fr b a cs->W2 C S w->
  Region.wanted o (yielded ops a.tmps)=true->Good P C S w fr b k' cs (lone (CX b a (.inRegion ops (i::idx)::k')) cs w) (step.run ev fr T S)):
 ve E P ops (i::idx) ((guarded ops.toList o.guard step k).run ev):=by
 intro C S w fr T b a k' cs hg hT hF hS;unfold guarded;cases nS:o.guard with
 |none=>exact hs C S w fr T b a k' cs hg hT hF hS (by unfold Region.wanted;rw[nS])
 |some g=>
  show Good P C S w fr b k' cs _ (cp (fun _=>step.run ev fr T S) (fun _=>k.run ev fr T (.tuple []) S) (WN ops.toList g T));cases hw:WN ops.toList g T with
  |none=>exact A1
  |some t=>
   have hwt:=I5 (C:=C) (a:=a) ⟨rfl,hT.2⟩ (o:=o) (j:=g.1) (want:=g.2) (by rw[nS]) hw;cases t with
   |true=>exact hs C S w fr T b a k' cs hg hT hF hS hwt
   |false=>
    have pQ:=No (P:=P) (b:=b) (a:=a) (k:=k') (cs:=cs) (w:=w) (ops:=ops) (i:=i) (rest:=idx) (by rw[ho];exact hwt);simp only[ho,Qe]at pQ;exact Good.steps (.one pQ) (hk C S w fr T b a k' cs _ undef hg hT hF hS VR.unit)
inductive Idx (ops:Array Oper):List Nat->List Oper->Prop where
 |nil:Idx ops [] []
 |cons {i:Nat} {o:Oper} {is:List Nat} {os:List Oper} (h:ops[i]?=some o) (t:Idx ops is os):Idx ops (i::is) (o::os)
theorem TK (he:CV E P) (hx:ZO E P) {ev:Ev} (Wi:Zi E P ev) (W3:Zj E P ev) {ops:Array Oper}:∀ {rest:List Oper} {idx:List Nat},
 Idx ops idx rest->ve E P ops idx ((al E ops.toList rest).run ev)
 |_,_,.nil=>by
  intro C S w fr T b a k cs hg hT hF hS;exact Good.one (r:=⟨.normal,fr,T,S⟩) hS hT hF (.one HU)
 |o::rest,i::idx,.cons ho t=>by
  have ih:=TK he hx Wi W3 t;have hk:=vf (dst:=o.dst) ih;exact RL ho hk fun C S w fr T b a k' cs hg hT hF hS hw=>zt Wi W3 ho (rq he hx o) U hk hg hT hF hS hw
theorem N0 (ops:Array Oper):∀m n,n+m=ops.size->Idx ops (List.range' n m) (ops.toList.drop n)
 |0,n,h=>by
  rw[List.drop_of_length_le (by simp;omega)];exact .nil
 |m+1,n,h=>by
  have Co:n<ops.toList.length:=by simp;omega
  rw[List.drop_eq_getElem_cons Co,List.range'_succ];refine .cons ?_ (N0 ops m (n+1) (by omega));rw[<-Array.getElem?_toList,Qi Co]
theorem N1 (ops:Array Oper):Idx ops (List.range ops.size) ops.toList:=by
 have:=N0 ops ops.size 0 (by omega);rw[List.range_eq_range'];simpa using this
theorem TL (he:CV E P) (hx:ZO E P) {ev:Ev} (Wi:Zi E P ev) (W3:Zj E P ev) {id:Nat} {ops:Array Oper}:YB E P (.region id ops false) ((al E ops.toList ops.toList).run ev):=by
 intro C S w fr T b a k cs hg hT hF hS;exact Good.steps (.one uX) (TK he hx Wi W3 (N1 ops) C S w fr T b a k cs hg hT hF hS)
end
section
variable {E : Env} {P : Program}
def nU (tmps:Array Value):ResultVar->Sem Value
 | .tmp t=>pure (tmps.getD t undef)
 | .cell a t=>do loadVar t (<-asAddr (tmps.getD a undef))
theorem Hw (he:CV E P) {C:Cx} {S:St} {w:World} {T:Tr AV} {tmps:Array Value} (hT:TR C tmps.size T tmps) (hS:W2 C S w):
 ∀ {rs:List ResultVar} {vs:List AV},Yt E S T rs=some vs->
  ∃xs,(rs.mapM (nU tmps)).run P w= .ok xs w/\Wc C vs xs
 | [],vs,h=>by cases h;exact⟨[],by simp,.nil⟩
 | .tmp t::l,vs,h=>by
  simp only[Yt]at h;obtain⟨v,hv,h⟩:=Qa.1 h;obtain⟨r,hr,h⟩:=Qa.1 h;cases h;obtain⟨x,hx,aw⟩:=hT.2 t v hv;obtain⟨xs,eX,WQ⟩:=Hw he hT hS hr;have:tmps.getD t undef=x:=by simp[Array.getD_eq_getD_getElem?,hx]
  exact⟨x::xs,by simp only[List.mapM_cons,nU,Sem.run_bind,this,Sem.run_pure,Result.andThen_ok,eX],.cons aw WQ⟩
 | .cell a t::l,vs,h=>by
  simp only[Yt]at h;obtain⟨p,hp,h⟩:=Qa.1 h;obtain⟨v,hv,h⟩:=Qa.1 h;obtain⟨r,hr,h⟩:=Qa.1 h;cases h;obtain⟨x,hx,aw⟩:=hT.2 a p hp;obtain⟨ad,y,rfl,hl,gz⟩:=GK (P:=P) he hS aw hv;obtain⟨xs,eX,WQ⟩:=Hw he hT hS hr;have:tmps.getD a undef= .pointer (some ad):=by simp[Array.getD_eq_getD_getElem?,hx]
  exact⟨y::xs,by simp only[List.mapM_cons,nU,Sem.run_bind,this,asAddr,Sem.run_pure,Result.andThen_ok,hl,eX],.cons gz WQ⟩
theorem zu {C:Cx} {vs:List AV} {xs:List Value} (h:Wc C vs xs):VR C (ck vs) (if h:xs.toArray.size=1 then xs.toArray[0]else .tuple xs.toArray):=by
 cases h with
 |nil=>exact .tuple (by simpa using Wc.nil)
 |cons h1 t=>
  cases t with
  |nil=>exact h1
  |cons h2 t=>exact .tuple (by simpa[ck]using Wc.cons h1 (Wc.cons h2 t))
theorem IH (he:CV E P) {C:Cx} {S:St} {w:World} {T:Tr AV} {tmps:Array Value} (hT:TR C tmps.size T tmps) (hS:W2 C S w) {fn:Func} {vs:List AV} (h:Yt E S T fn.results.toList=some vs):
 ∃x,(results fn tmps).run P w= .ok x w/\VR C (ck vs) x:=by
 obtain⟨xs,eX,WQ⟩:=Hw (P:=P) he hT hS h;refine⟨_,?_,zu WQ⟩;have hr:results fn tmps=(do let vs<-fn.results.mapM (nU tmps);pure (if h:vs.size=1 then vs[0]else .tuple vs)):=by
  unfold results
  congr 1
 rw[hr,Array.mapM_eq_mapM_toList];simp only[Sem.run_bind,Sem.run_map,eX,Result.andThen_ok,Sem.run_pure]
inductive ej (C:Cx):FrameMode->Option AV->Prop where
 |ret:ej C .returning none
 |WR {v:AV} {x:Value} (h:VR C v x):ej C (.panicking [{v:=x,recovered:=false}]) (some v)
theorem ej.mono {C C':Cx} (e:Ext C C') {m:FrameMode} {v:Option AV} (h:ej C m v):ej C' m v:=by
 cases h with
 |ret=>exact .ret
 |WR h=>exact .WR (h.mono e)
def CF (b:Frame) (a:Act) (todo:List Item) (mode:FrameMode):Frame:= {fn:=b.fn,tmps:=a.tmps,todo,defers:=a.defers,mode,kind:=b.kind,roundOf:=b.roundOf}
theorem s_end {b:Frame} {a:Act} {cs:List Frame} {w:World} (hr:b.roundOf=none):step P (lone (CX b a []) cs w)= .next (lone (CF b a [] .returning) cs w):=
 step_lone_go (by simp[stepG,stepG.exec,CX,CF,hr])
theorem s_ret {b:Frame} {a:Act} {k:List Item} {cs:List Frame} {w:World} (hr:b.roundOf=none):step P (lone (CX b a (.code .ret::k)) cs w)= .next (lone (CF b a (.code .ret::k) .returning) cs w):=
 step_lone_go (by simp[stepG,stepG.exec,CX,CF,hr])
theorem s_take {b:Frame} {t:Array Value} {todo:List Item} {mode:FrameMode} (hm:mode≠ .run) {cs:List Frame} {w:World} {Ci:Nat} {ar:Array Value} {ds:List Deferred} (h:w.heap[Ci]?=some (.deferred (some []))):
 step P (lone (CF b ⟨t, {target:= .collected Ci,args:=ar}::ds⟩ todo mode) cs w)= .next (lone (CF b ⟨t,ds⟩ todo mode) cs (World.CW w Ci (.deferred none))):=by
 have C8:(Instr.takeDeferred Ci).run P w= .ok [] (World.CW w Ci (.deferred none)):=by
  simp only[Instr.takeDeferred,Sem.run_bind,AG h (by simp),Result.andThen_ok,Dn h (by simp),Sem.run_pure]
 refine step_lone_go ?_;cases mode with
 |run=>exact absurd rfl hm
 |returning=>simp[stepG,Go.unwind,CF,C8]
 |panicking ch=>simp[stepG,Go.unwind,CF,C8]
theorem T4 {b:Frame} {t:Array Value} {todo:List Item} {mode:FrameMode} (hm:mode≠ .run) {cs:List Frame} {w:World} {fn:Fn} {cap ar:Array Value} {ds:List Deferred} {f:FuncId} {ys:Array Value}
 (h:(invoke (.fn fn cap) ar).run P w= .ok (.enter f ys) w):
 step P (lone (CF b ⟨t, {target:= .fn fn cap,args:=ar}::ds⟩ todo mode) cs w)= .next (lone (Frame.enter P f ys .deferred) (CF b ⟨t,ds⟩ todo mode::cs) w):=by
 refine step_lone_go ?_;cases mode with
 |run=>exact absurd rfl hm
 |returning=>simp[stepG,Go.unwind,callDeferred,CF,h]
 |panicking ch=>simp[stepG,Go.unwind,callDeferred,CF,h]
theorem IR:∀(l:List AV) (j:Nat) (T:Tr AV) (i:Nat),(Yl j l T).get i=if j<=i/\i<j+l.length then l[i-j]? else T.get i
 | [],j,T,i=>by
  have:¬(j<=i/\i<j+([]:List AV).length):=by simp only[List.length_nil];omega
  rw[if_neg this];rfl
 |v::l,j,T,i=>by
  simp only[Yl];rw[IR l (j+1) _ i,Ay];simp only[List.length_cons];by_cases h1:i=j
  .subst h1;rw[if_neg (by omega),if_pos rfl,if_pos (by omega)];simp
  .rw[if_neg h1];by_cases h2:j+1<=i/\i<j+1+l.length
   .rw[if_pos h2,if_pos (by omega)];have:i-j=(i-(j+1))+1:=by omega
    rw[this,List.getElem?_cons_succ]
   .rw[if_neg h2,if_neg (by omega)]
theorem zw (i:Nat):(Tr.nil:Tr AV).get i=none:=by
 unfold Tr.get;cases pathOf i<;>rfl
theorem PI {C:Cx} {args:List AV} {ys:Array Value} (h:Wc C args ys.toList) (nt:Nat):TR C (Nat.max nt (WL args)) (Yl 0 args .nil) (ys++Array.replicate (nt-ys.size) undef):=by
 have hl:=h.length;simp only[Array.length_toList]at hl;refine⟨?_,fun i v hi=>?_⟩
 .simp only[Array.size_append,Array.size_replicate,Bl];rw[hl];show _=max nt args.length;omega
 .rw[IR]at hi;split at hi
  .next Co=>
   obtain⟨y,hy,hr⟩:=h.get (by simpa using hi);refine⟨y,?_,hr⟩;rw[Array.getElem?_append_left (by omega)];simpa using hy
  .rw[zw]at hi;cases hi
theorem KF {b:Frame} {t:Array Value} {todo:List Item} {c:Frame} {cs:List Frame} {w:World} {fn:Func} {v:Value} (hk:b.kind= .deferred) (hf:P.funcs[b.fn]?=some fn) (hr:(results fn t).run P w= .ok v w):
 step P (lone (CF b ⟨t,[]⟩ todo .returning) (c::cs) w)= .next (lone (match c.mode with
  | .panicking ({recovered:=true, ..}::older)=>(match older.dropWhile (!·.goexit)with| []=> {c with mode:= .returning}|rest=> {c with mode:= .panicking rest})
  |_=>c) cs w):=
 step_lone_go (by simp[stepG,Go.unwind,CF,hf,hr,doReturn,hk];rfl)
theorem Vs (he:CV E P) {ev:Ev} (fu:kO E P ev) {f:FuncId} {args:List AV} {m:Option AV} {S S':St} {rc:Bool} (h:na E ev f args m S=some (rc,S')) {C:Cx} {w:World} {ys:Array Value}
 (hg:W5 E C) (ha:Wc C args ys.toList) (hS:W2 C S w) {mode:FrameMode} (hm:ej C mode m) (b:Frame) (a:Act) (todo:List Item) (cs:List Frame):
 C7 E f=true/\∃C' w' c9,Steps P (lone (Frame.enter P f ys .deferred) (CF b a todo mode::cs) w) (lone (CF b a todo c9) cs w')/\Cu C S w C' S' w'/\ej C' c9 (bif rc then none else m):=by
 unfold na at h;obtain⟨fn,nO,h⟩:=Qa.1 h;obtain⟨c,hc,h⟩:=Qa.1 h;have hp:=he.fn f fn nO;refine⟨by unfold C7;rw[nO];simp only[hc],?_⟩;split at h
 .next sO=>
  have hres0:fn.results= #[]:=Array.ext' (by simpa using sO);have aN:Frame.enter P f ys .deferred=CX (Frame.enter P f ys .deferred) ⟨ys++Array.replicate (fn.ntmps-ys.size) undef,[]⟩ [.code c]:=by
   simp[Frame.enter,CX,hp,hc]
  have lk:(Frame.enter P f ys .deferred).kind= .deferred:=rfl;have ig:(Frame.enter P f ys .deferred).roundOf=none:=rfl;have q7:(Frame.enter P f ys .deferred).fn=f:=rfl;generalize ZR:Frame.enter P f ys .deferred=bd at aN lk ig q7;have sN:uY C bd (CF b a todo mode::cs) (frame fn.ntmps args m).WR:=by
   show uY C bd _ m;cases hm with
   |ret=>exact .none (by simp[mr,tryRecover,lk,CF])
   |WR hv=>exact .some lk rfl rfl hv
  have Zk:=fu c C S w (frame fn.ntmps args m) (Yl 0 args .nil) bd ⟨ys++Array.replicate (fn.ntmps-ys.size) undef,[]⟩ [] (CF b a todo mode::cs) hg (PI ha fn.ntmps)
   ⟨.nil,sN,.none ig⟩ hS
  rw[<-aN]at Zk;generalize cU:ev c (frame fn.ntmps args m) (Yl 0 args .nil) S=out at h Zk;have fin:∀(r:bO),out= .one r->(r.ex= .normal\/r.ex= .ret)->r.fr.defers=[]->some (recovered m r.fr.WR,r.st)=some (rc,S')->
   ∃C' w' c9,Steps P (lone bd (CF b a todo mode::cs) w) (lone (CF b a todo c9) cs w')/\Cu C S w C' S' w'/\ej C' c9 (bif rc then none else m):=by
   intro r hr hex hdf hres';cases hres';obtain⟨r',dD,C',a',w',XU,t,ZQ,uZ,hn,iY,Wt,ZM⟩:=Zk [r] (by rw[hr];rfl);simp only[Qn]at dD;subst dD;have o5:a'.defers=[]:=by
    have:=uZ.defs;rw[hdf]at this;cases hd:a'.defers with
    |nil=>rfl
    |cons x l=>rw[hd]at this;cases this
   have WT:∃ru,Steps P (lone bd (CF b a todo mode::cs) w) (lone (CF bd ⟨a'.tmps,[]⟩ ru .returning) XU w'):=by
    have ea:a'=⟨a'.tmps,[]⟩:=by rw[<-o5]
    rcases hex with hex|hex
    .rw[hex]at ZM;exact⟨[],by rw[<-ea];exact Steps.trans ZM (.one (s_end ig))⟩
    .rw[hex]at ZM;obtain⟨k2,jP⟩:=ZM;exact⟨_,by rw[<-ea];exact Steps.trans jP (.one (s_ret ig))⟩
   obtain⟨ru,WT⟩:=WT;have hrr:(results fn a'.tmps).run P w'= .ok (.tuple #[]) w':=by simp[results,hres0]
   have hbdf:P.funcs[bd.fn]?=some fn:=by rw[q7];exact hp
   show∃C' w' c9,_;have hpm:(frame fn.ntmps args m).WR=m:=rfl;rw[hpm]at Wt;generalize r'.fr.WR=q at Wt;have lh:=hm.mono t.ext;cases Wt with
   |same=>
    refine⟨C',w',mode,WT.trans ?_,t,?_⟩
    .have:=KF (P:=P) (b:=bd) (t:=a'.tmps) (todo:=ru) (c:=CF b a todo mode) (cs:=cs) (w:=w') lk hbdf hrr;refine .one (this.trans ?_);cases hm with
     |ret=>rfl
     |WR hv=>rfl
    .have:recovered m m=false:=by cases m<;>rfl
     rw[this];exact lh
   |sM=>
    cases hm with
    | @WR v x hv=>
     refine⟨C',w',.returning,WT.trans ?_,t,.ret⟩;have:=KF (P:=P) (b:=bd) (t:=a'.tmps) (todo:=ru) (c:= {CF b a todo (.panicking [{v:=x,recovered:=false}])with mode:= .panicking [{v:=x,recovered:=true}]}) (cs:=cs) (w:=w') lk hbdf hrr;exact .one this
  unfold hI at h;split at h
  .next Yf T' st=>
   cases hd:Yf.defers with
   |nil=>rw[hd]at h;exact fin _ rfl (.inl rfl) hd h
   |cons x l=>rw[hd]at h;cases h
  .next Yf T' st=>
   cases hd:Yf.defers with
   |nil=>rw[hd]at h;exact fin _ rfl (.inr rfl) hd h
   |cons x l=>rw[hd]at h;cases h
  .cases h
 .cases h
theorem Gs (he:CV E P) {ev:Ev} (fu:kO E P ev):∀ {ds:List fD} {m m':Option AV} {S S':St},Am.unwind E ev ds m S=some (m',S')->∀ {C:Cx} {w:World} {dv:List Deferred} {mode:FrameMode},W5 E C->
 jt C ds dv->W2 C S w->ej C mode m->∀(b:Frame) (t:Array Value) (todo:List Item) (cs:List Frame),
 ∃C' w' c9,Steps P (lone (CF b ⟨t,dv⟩ todo mode) cs w) (lone (CF b ⟨t,[]⟩ todo c9) cs w')/\Cu C S w C' S' w'/\ej C' c9 m'
 | [],m,m',S,S',h,C,w,dv,mode,hg,hd,hS,hm,b,t,todo,cs=>by
  cases h;cases hd;exact⟨C,w,mode,.refl _ _,Cu.refl hS,hm⟩
 |d::ds,m,m',S,S',h,C,w,dv,mode,hg,hd,hS,hm,b,t,todo,cs=>by
  simp only[Am.unwind]at h;obtain⟨p,hp,h9⟩:=Qa.1 h;cases hd with
  |cons du hdt=>
  have C8:mode≠ .run:=by cases hm<;>simp
  unfold hJ at hp;cases du with
  |collected hD=>
   rename_i l r
   simp only at hp;split at hp
   .next hb=>
    cases hp;obtain⟨_,x,hx,hr⟩:=hS.live r _ hb;cases hr with
    |defs=>
    have t1:=El hS hb (.defs false) (.deferred none) .qk;obtain⟨C',w',c9,hs,t2,zy⟩:=Gs he fu h9 (hg.mono t1.ext) (hdt.mono t1.ext) t1.st (hm.mono t1.ext) b t todo cs;exact⟨C',w',c9,.head (s_take C8 hx) hs,t1.trans t2,zy⟩
   .cases hp
  |fn hf ha hb=>
   rename_i l fn aa bb xa xb
   cases fn with
   |func f=>
    simp only at hp;obtain⟨q,hq,hp⟩:=Qa.1 hp;cases hp;obtain⟨rc,S1⟩:=q;have XY:Wc C (aa++bb) (xa++xb).toList:=by simpa using ha.append hb
    obtain⟨dw,C1,w1,mode1,Z5,t1,lF⟩:=Vs he fu hq hg XY hS hm b ⟨t,l⟩ todo cs;obtain⟨C',w',c9,hs,t2,zy⟩:=Gs he fu h9 (hg.mono t1.ext) (hdt.mono t1.ext) t1.st lF b t todo cs;refine⟨C',w',c9,.head (T4 C8 ?_) (Z5.trans hs),t1.trans t2,zy⟩;show(callFunc f (xa++xb)).run P w=_;exact D0 he dw _ w
   |_=>cases hp
end
structure rv (C C2:Cx) (S:St) (w:World) (K:List Nat):Prop where
 ext:Ext C C2
 Ci:∀b∈K,∀cs t part,S.heap.get b=some (.cells cs t part)->∃c e fr,w.heap[(C.pl b).Ci]?=some (.cells c e fr)/\C2.M (C.pl b).Ci=some c.toList
theorem Dw {f:AV->List Nat->Option (AV×List Nat)} {v:AV} {l:List AV} {ks:List Nat} {r} (h:Cs.many f (v::l) ks=some r):
 ∃p q,f v ks=some p/\Cs.many f l p.2=some q/\r=(p.1::q.1,q.2):=by
 simp only[Cs.many]at h;obtain⟨p,hp,h⟩:=Qa.1 h;obtain⟨q,hq,h⟩:=Qa.1 h;cases h;exact⟨p,q,hp,hq,U⟩
theorem UL {S:St} {fm:Nat}:∀(n:Nat) {v v':AV} {ks Zt:List Nat},Cs S fm n v ks=some (v',Zt)->v.dL=true->v'.dL=true
 |n+1,v,v',ks,Zt,h,hc=>by
  simp only[Cs]at h;split at h
  .next b off len sz cap=>
   cases hb:Nat.blt b fm with
   |true=>rw[hb]at h;cases h;rfl
   |false=>
    rw[hb]at h;simp only[cond_false]at h;obtain⟨cs,_,h⟩:=Qa.1 h;obtain⟨l,_,h⟩:=Qa.1 h;obtain⟨p,_,h⟩:=Qa.1 h;cases h;rfl
  .cases hc
  .cases hc
  .next cs len sz cl=>
   cases cl with
   |true=>cases h;rfl
   |false=>
    simp only[cond_false]at h;obtain⟨p,_,h⟩:=Qa.1 h;cases h;rfl
  .obtain⟨p,_,h⟩:=Qa.1 h;cases h;rfl
  .cases h;exact hc
theorem DW {S:St} {fm n:Nat}:∀ {l:List AV} {ks:List Nat} {r},Cs.many (Cs S fm n) l ks=some r->Cells l->Cells r.1
 | [],ks,r,h,_=>by cases h;exact fun _ h=>by cases h
 |v::l,ks,r,h,hc=>by
  obtain⟨p,q,h1,h2,rfl⟩:=Dw h;intro u hu;rcases Qk.1 hu with rfl|hu
  .exact UL n (v':=p.1) (Zt:=p.2) h1 (hc v (Qh ..))
  .exact DW h2 (fun x hx=>hc x (Qg _ hx)) u hu
theorem Ge {f:AV->List Nat->Option (AV×List Nat)}:∀ {l:List AV} {ks:List Nat} {r},Cs.many f l ks=some r->r.1.length=l.length
 | [],ks,r,h=>by cases h;rfl
 |v::l,ks,r,h=>by
  obtain⟨p,q,h1,h2,rfl⟩:=Dw h;simp[Ge h2]
theorem FE {S:St} {fm:Nat}:∀(n:Nat) {v v':AV} {ks Zt:List Nat},Cs S fm n v ks=some (v',Zt)->∀b∈ks,b∈Zt
 |n+1,v,v',ks,Zt,h=>by
  have many:∀ {l:List AV} {ks:List Nat} {r},Cs.many (Cs S fm n) l ks=some r->∀b∈ks,b∈r.2:=by
   intro l;induction l with
   |nil=>intro ks r h b hb;cases h;exact hb
   |cons a l ih=>
    intro ks r h b hb;obtain⟨p,q,h1,h2,rfl⟩:=Dw h;exact ih h2 b (FE n (v':=p.1) (Zt:=p.2) h1 b hb)
  simp only[Cs]at h;split at h
  .next b off len sz cap=>
   cases hb:Nat.blt b fm with
   |true=>rw[hb]at h;cases h;exact fun _ h=>h
   |false=>grind [Qa]
  .obtain⟨p,hp,h⟩:=Qa.1 h;cases h;exact many hp
  .obtain⟨p,hp,h⟩:=Qa.1 h;cases h;exact many hp
  .next cs len sz cl=>
   cases cl with
   |true=>cases h;exact fun _ h=>h
   |false=>grind [Qa]
  .obtain⟨p,hp,h⟩:=Qa.1 h;cases h;exact FE n (v':=p.1) (Zt:=p.2) hp
  .cases h;exact fun _ h=>h
theorem Jq {C C2:Cx} {S:St} {w:World} (hS:W2 C S w) {fm:Nat} {K:List Nat} (hF:rv C C2 S w K):∀(n:Nat) {v v':AV} {ks Zt:List Nat} {x:Value},Cs S fm n v ks=some (v',Zt)->
 (∀b∈Zt,b∈K)->VR C v x->VR C2 v' x
 |n+1,v,v',ks,Zt,x,h,hK,hv=>by
  have many:∀ {l:List AV} {ks:List Nat} {r} {xs:List Value},Cs.many (Cs S fm n) l ks=some r->(∀b∈r.2,b∈K)->Wc C l xs->Wc C2 r.1 xs:=by
   intro l;induction l with
   |nil=>intro ks r xs h _ hv;cases h;cases hv;exact .nil
   |cons a l ih=>
    intro ks r xs h hK hv;obtain⟨p,q,h1,h2,rfl⟩:=Dw h;cases hv with
    |cons pN yh=>
    have tv:∀b∈p.2,b∈q.2:=by
     clear ih yh;have:∀ {l:List AV} {ks:List Nat} {r},Cs.many (Cs S fm n) l ks=some r->∀b∈ks,b∈r.2:=by
      intro l;induction l with
      |nil=>intro ks r h b hb;cases h;exact hb
      |cons a l ih=>
       intro ks r h b hb;obtain⟨p,q,h1,h2,rfl⟩:=Dw h;exact ih h2 b (FE n (v':=p.1) (Zt:=p.2) h1 b hb)
     exact this h2
    exact .cons (Jq hS hF n (v':=p.1) (Zt:=p.2) h1 (fun b hb=>hK b (tv b hb)) pN) (ih h2 hK yh)
  simp only[Cs]at h;split at h
  .next b off len sz cap=>
   cases hb:Nat.blt b fm with
   |true=>rw[hb]at h;cases h;exact hv.mono hF.ext
   |false=>
    rw[hb]at h;simp only[cond_false]at h;obtain⟨cs,Wt,h⟩:=Qa.1 h;obtain⟨l,hl,h⟩:=Qa.1 h;obtain⟨p,hp,h⟩:=Qa.1 h;cases h;cases hv with
    |X1 sx hd hc=>
     have:l=[]:=by
      obtain⟨_,_,_,_,h3⟩:=FJ hl;exact List.eq_nil_of_length_eq_zero (by simpa using h3)
     subst this;cases hp;exact .W1 _ (by simp) (Qm _)
    |slice hd hc YK=>
     obtain⟨_,c,e,fr,vs,hx,WQ,j4,Xn,hcc,_⟩:=hS.cells Wt;obtain⟨t,part,tq⟩:=EA Wt;obtain⟨c',e',Yf,u0,hM⟩:=hF.Ci b (hK b (Qh ..)) cs t part tq;rw[hx]at u0;cases u0;obtain⟨pre,post,hcsl,XV,pO⟩:=FJ hl;rw[hcsl]at WQ hcc;obtain⟨y1,z3,rfl,h1,h4⟩:=AF WQ;obtain⟨y0,y,rfl,h2,h3⟩:=AF h1;have hvl:=many hp (fun k hk=>hK k (Qg _ hk)) h3;have hlen:=Ge hp;refine .Cf (Ci:=(C.pl b).Ci) (by rw[hlen,pO]) hM (vs:=y) ?_ hvl (fun X7=>B0 40 hvl X7) (DW hp hcc.sub.1.sub.2) YK;have:=j4.sub (a:=y0) (b:=y) (c:=z3) rfl;rw[h2.length,XV]at this;exact this
  .obtain⟨p,hp,h⟩:=Qa.1 h;cases h;cases hv with
   |agg WQ Wt=>exact .agg (many hp hK WQ) (DW hp Wt)
  .obtain⟨p,hp,h⟩:=Qa.1 h;cases h;cases hv with
   |tuple WQ=>exact .tuple (many hp hK WQ)
  .next cs len sz cl=>
   cases cl with
   |true=>cases h;exact hv.mono hF.ext
   |false=>
    simp only[cond_false]at h;obtain⟨p,hp,h⟩:=Qa.1 h;cases h;cases hv with
    |W1 a hl YK=>cases hp;exact .W1 a hl YK
    |Cf hl hm ha WQ hc Wt YK=>
     have hvl:=many hp hK WQ;exact .Cf (by rw[Ge hp,hl]) (hF.ext.M _ _ hm) ha hvl (fun X7=>B0 40 hvl X7) (DW hp Wt) YK
  .obtain⟨p,hp,h⟩:=Qa.1 h;cases h;cases hv with
   |iface hu=>exact .iface (Jq hS hF n (v':=p.1) (Zt:=p.2) hp hK hu)
  .cases h;exact hv.mono hF.ext
theorem UM {C C2:Cx} {S:St} {w:World} (hS:W2 C S w) {fm n:Nat} {K:List Nat} (hF:rv C C2 S w K):∀ {l:List AV} {ks:List Nat} {r} {xs:List Value},Cs.many (Cs S fm n) l ks=some r->(∀b∈r.2,b∈K)->Wc C l xs->Wc C2 r.1 xs
 | [],ks,r,xs,h,_,hv=>by cases h;cases hv;exact .nil
 |v::l,ks,r,xs,h,hK,hv=>by
  obtain⟨p,q,h1,h2,rfl⟩:=Dw h;cases hv with
  |cons pN yh=>
  have tv:∀ {l:List AV} {ks:List Nat} {r},Cs.many (Cs S fm n) l ks=some r->∀b∈ks,b∈r.2:=by
   intro l;induction l with
   |nil=>intro ks r h b hb;cases h;exact hb
   |cons a l ih=>
    intro ks r h b hb;obtain⟨p,q,h1,h2,rfl⟩:=Dw h;exact ih h2 b (FE n (v':=p.1) (Zt:=p.2) h1 b hb)
  exact .cons (Jq hS hF n (v':=p.1) (Zt:=p.2) h1 (fun b hb=>hK b (tv h2 b hb)) pN) (UM hS hF h2 hK yh)
theorem zz {C C2:Cx} {S:St} {w:World} (hS:W2 C S w) {K:List Nat} (hF:rv C C2 S w K) {v v':AV} {Zt:List Nat} {x:Value} (h:oK S v=some (v',Zt)) (hK:∀b∈Zt,b∈K) (hv:VR C v x):VR C2 v' x:=by
 unfold oK at h;split at h
 .next b=>
  obtain⟨cs,Wt,h⟩:=Qa.1 h;obtain⟨p,hp,h⟩:=Qa.1 h;cases h;cases hv with
  |ptr hd=>
   obtain⟨_,c,e,fr,vs,hx,WQ,j4,Xn,hcc,_⟩:=hS.cells Wt;obtain⟨t,part,tq⟩:=EA Wt;obtain⟨c',e',Yf,u0,hM⟩:=hF.Ci b (hK b (Qh ..)) cs t part tq;rw[hx]at u0;cases u0;exact .Wl (Ci:=(C.pl b).Ci) hM (vs:=vs) j4 (UM hS hF hp (fun k hk=>hK k (Qg _ hk)) WQ) (DW hp hcc)
 .exact Jq hS hF 40 (v':=v') (Zt:=Zt) h hK hv
theorem Mv:∀(K:List Nat) (S:St) (b:Nat),(kill S K).heap.get b=if b∈K then none else S.heap.get b
 | [],S,b=>by simp[kill]
 |a::l,S,b=>by
  simp only[kill];rw[Mv l,IQ];by_cases h:b=a
  .subst h;simp
  .simp[h]
theorem NP:∀(K:List Nat) {C:Cx} {S:St} {w:World},W2 C S w->Cu C S w C (kill S K) w/\∀b∈K,aq S (kill S K).log b
 | [],C,S,w,hS=>⟨Cu.refl hS,fun _ h=>by cases h⟩
 |a::l,C,S,w,hS=>by
  have t1:=Cu.kill hS a;obtain⟨t2,h2⟩:=NP l t1.st;refine⟨t1.trans t2,fun b hb=>?_⟩;rcases Qk.1 hb with rfl|hb
  .exact(Dt S b none).1.mono t2.log
  .exact(h2 b hb).imp id (fun x=>by rw[t1.bound]at x;exact x)
open Classical in
noncomputable def Cx.ij (C:Cx) (S:St) (w:World) (K:List Nat):Cx:=
 {C with M:=fun Ci=>if∃b∈K,∃o,S.heap.get b=some o/\(C.pl b).Ci=Ci then(match w.heap[Ci]? with|some (.cells c _ _)=>some c.toList|_=>none)else C.M Ci}
theorem QL {C:Cx} {S:St} {w:World} (hS:W2 C S w) (K:List Nat):rv C (C.ij S w K) S w K/\Cu C S w (C.ij S w K) (kill S K) w:=by
 have hM:∀Ci ms,C.M Ci=some ms->(C.ij S w K).M Ci=some ms:=by
  intro Ci ms h;simp only[Cx.ij];rw[if_neg]
  .exact h
  .rintro⟨b,hb,o,ho,rfl⟩;rw[hS.apart b o ho]at h;cases h
 have e:Ext C (C.ij S w K):=⟨fun _ h=>h,fun _ _=>rfl,hM,fun _ _ h=>h,fun _ _ _=>rfl,fun _ h=>h⟩
 have hinv:∀Ci ms,(C.ij S w K).M Ci=some ms->C.M Ci=some ms\/∃b∈K,∃o,S.heap.get b=some o/\(C.pl b).Ci=Ci/\∃c e fr,w.heap[Ci]?=some (.cells c e fr)/\c.toList=ms:=by
  intro Ci ms h;simp only[Cx.ij]at h;split at h
  .grind
  .exact .inl h
 obtain⟨t1,cw⟩:=NP K hS;refine⟨⟨e,?_⟩,⟨e,⟨?_,t1.st.inj,t1.st.fresh,?_,?_,t1.st.stamps,t1.st.there,t1.st.WS,fun Ci ms hm=>(hinv Ci ms hm).elim (hS.XP Ci ms) fun⟨b,_,o,ho,nV,_⟩=>nV▸hS.WS b (hS.live b o ho).1⟩,t1.bound,t1.log,t1.next,t1.size,t1.frame,t1.kept,t1.iS,t1.own,?_,t1.YQ⟩⟩
 .intro b hb cs t part ho;obtain⟨_,x,hx,hr⟩:=hS.live b _ ho;cases hr with
  |cells hv ha hs Wt hf hp=>
   refine⟨_,_,_,hx,?_⟩;simp only[Cx.ij];rw[if_pos ⟨b,hb,_,ho,rfl⟩,hx]
 .intro b o hb;obtain⟨hd,x,hx,hr⟩:=t1.st.live b o hb;exact⟨hd,x,hx,hr.mono e hd (fun _ h=>h)⟩
 .intro Ci ms hm;rcases hinv Ci ms hm with h|⟨b,hb,o,ho,nV,c,e,fr,hx,hc⟩
  .exact hS.kG Ci ms h
  .exact⟨c,e,fr,hx,hc⟩
 .intro b o hb;cases hm:(C.ij S w K).M (C.pl b).Ci with
  |none=>exact hm
  |some ms=>
   exfalso;rw[Mv]at hb;split at hb
   .cases hb
   .next hnk=>
    rcases hinv _ ms hm with h|⟨b',ZL,o',ry,nV,_⟩
    .rw[hS.apart b o hb]at h;cases h
    .exact hnk (hS.inj b' b o' o ry hb nV▸ZL)
 .grind
theorem F1 {C C':Cx} {m:Nat} (hD:∀b,b<m->C'.D b->C.D b/\C'.pl b=C.pl b) (hG:∀b n,b<m->C'.G b n->C.G b n/\C'.gh b n=C.gh b n):
 ∀(n:Nat) {v:AV} {x:Value},Cr m n v=true->VR C' v x->VR (C.YT C') v x
 |n+1,v,x,h,hv=>by
  have many:∀ {l:List AV} {xs:List Value},l.all (Cr m n)=true->Wc C' l xs->Wc (C.YT C') l xs:=by
   intro l;induction l with
   |nil=>intro xs _ hv;cases hv;exact .nil
   |cons a l ih=>
    intro xs h hv;simp only[List.all_cons,Qf]at h;cases hv with
    |cons h1 t=>exact .cons (F1 hD hG n h.1 h1) (ih h.2 t)
  have hbare:Ext C'.bare (C.YT C').bare:=⟨fun _ x=>x.elim,fun _ x=>x.elim,fun _ _ h=>h,fun _ _ x=>x.elim,fun _ _ x=>x.elim,fun _ h=>h⟩
  cases hv with
  |bool b=>exact .bool b
  |int k n=>exact .int k n
  |str hs=>exact .str hs
  |CU=>exact .CU
  | @ptr _ b off hd=>
   simp only[Cr]at h;obtain⟨h1,h2⟩:=hD b (by simpa[Nat.blt_eq]using h) hd;rw[h2];exact VR.ptr (C:=C.YT C') h1
  |Wl hm ha WQ hc=>exact .Wl (C:=C.YT C') hm ha (many (by simpa[Cr]using h) WQ) hc
  |Ca a hx=>exact .Ca a hx
  | @slice _ b off len sz cap c hd hc YK=>
   simp only[Cr]at h;obtain⟨h1,h2⟩:=hD b (by simpa[Nat.blt_eq]using h) hd;rw[h2];refine VR.slice (C:=C.YT C') h1 ?_ YK;cases cap with
   |some k=>exact hc
   |none=>simp only[oO,h2]at hc;exact hc
  | @X1 _ b off sz a c hx hd hc=>
   simp only[Cr]at h;obtain⟨h1,h2⟩:=hD b (by simpa[Nat.blt_eq]using h) hd;rw[h2]at hc;exact VR.X1 (C:=C.YT C') hx h1 hc
  |W1 a h0 YK=>exact .W1 a h0 YK
  | @Cf _ Ci off len sz c cl cs ms vs hl hm ha WQ hc Wt YK=>
   simp only[Cr,Bool.or_eq_true]at h;refine VR.Cf (C:=C.YT C') hl hm ha ?_ (fun X7=>(hc X7).mono hbare) Wt YK;rcases h with h|h
   .exact((hc h).mono hbare).mono (.n8 _)
   .exact many h WQ
  |WI=>exact .WI
  | @map _ b hd=>
   simp only[Cr]at h;obtain⟨h1,h2⟩:=hD b (by simpa[Nat.blt_eq]using h) hd;rw[h2];exact VR.map (C:=C.YT C') h1
  | @dK _ b n hg=>
   simp only[Cr]at h;obtain⟨h1,h2⟩:=hG b n (by simpa[Nat.blt_eq]using h) hg;rw[h2];exact VR.dK (C:=C.YT C') h1
  |bE p=>exact .bE p
  |any x h=>exact .any x h
  | @func _ fn a b x y hf ha hb=>
   have:(a.all (Cr m n)&&b.all (Cr m n))=true:=by
    cases fn with
    |yield l=>exact absurd rfl (hf l)
    |_=>simpa[Cr]using h
   simp only[Qf]at this;exact .func hf (many this.1 ha) (many this.2 hb)
  | @yield _ l hd=>
   simp only[Cr]at h;obtain⟨h1,h2⟩:=hD l (by simpa[Nat.blt_eq]using h) hd;rw[h2];exact VR.yield (C:=C.YT C') h1
  |WE=>exact .WE
  |iface hu=>exact .iface (F1 hD hG n (by simpa[Cr]using h) hu)
  |CP=>exact .CP
  |agg WQ Wt=>exact .agg (many (by simpa[Cr]using h) WQ) Wt
  |tuple WQ=>exact .tuple (many (by simpa[Cr]using h) WQ)
section
variable {E : Env} {P : Program}
theorem GT {n:Nat} {v v':AV} {S S':St} (h:Wm n v S=some (v',S')) {C:Cx} {w:World} (hS:W2 C S w) {x:Value} (hv:VR C v x):∃C',Cu C S w C' S' w/\VR C' v' x:=by
 unfold Wm at h;obtain⟨p,hp,h⟩:=Qa.1 h;cases h;obtain⟨hf,ht⟩:=QL hS p.2;exact⟨_,ht,Jq hS hf 40 (v':=p.1) (Zt:=p.2) hp (fun _ h=>h) hv⟩
theorem Sv {v v':AV} {S S':St} (h:eN v S=some (v',S')) {C:Cx} {w:World} (hS:W2 C S w) {x:Value} (hv:VR C v x):∃C',Cu C S w C' S' w/\VR C' v' x:=by
 unfold eN at h;obtain⟨p,hp,h⟩:=Qa.1 h;cases h;obtain⟨hf,ht⟩:=QL hS p.2;exact⟨_,ht,zz hS hf (v':=p.1) (Zt:=p.2) hp (fun _ h=>h) hv⟩
theorem UN {f:FuncId} {s0:St} {v v':AV} {S S':St} (h:frozen E f s0 v S=some (v',S')) {C:Cx} {w:World} (hS:W2 C S w) {x:Value} (hv:VR C v x):∃C',Cu C S w C' S' w/\VR C' v' x:=by
 unfold frozen at h;split at h
 .cases h;exact⟨C,Cu.refl hS,hv⟩
 .split at h
  .exact GT h hS hv
  .cases h;exact⟨C,Cu.refl hS,hv⟩
 .exact Sv h hS hv
 .exact GT h hS hv
def CrR (C:Cx) (S:St) (w:World) (x:Value) (w':World):CR->Prop
 | .same v=>∃C',Cu C S w C' S w'/\VR C' v x
 | .val v S'=>∃C',Cu C S w C' S' w'/\VR C' v x
 | .WR _ _=>False
theorem Q9 {f:FuncId} {S S1:St} {v:AV} {cr:CR} (h:leave E f S v S1=some cr) {C C1:Cx} {w w1:World} (hS:W2 C S w) (t:Cu C S.enter w C1 S1 w1) {x:Value} (hv:VR C1 v x):CrR C S w x w1 cr:=by
 unfold leave at h;obtain⟨p,hp,h⟩:=Qa.1 h;cases h;obtain⟨v',S'⟩:=p;obtain⟨C2,t2,sQ⟩:=UN hp t.st hv;have t3:=t.trans t2;unfold YF;simp only;split
 .next Wk=>
  cases hu:Cr S.next 40 v' with
  |false=>exact⟨C2,t3.back hS,sQ⟩
  |true=>
   refine⟨_,t3.forget hS Wk,F1 (m:=S.next) (fun b hb hd=>?_) (fun b n hb hg=>?_) 40 hu sQ⟩
   .have ri:C.D b:=(t3.iS b hd).resolve_right (fun h=>by have:S.next<=b:=h;omega);exact⟨ri,t3.ext.pl b ri⟩
   .have qu:=t3.st.stamps b n hg;have ri:C.D b:=(t3.iS b qu).resolve_right (fun h=>by have:S.next<=b:=h;omega);have hk:=(t3.kept b ri (fun hm=>by
     rcases hm with hm|hm
     .rw[Wk]at hm;cases hm
     .have:S.next<=b:=hm;omega)).2 n hg
    exact⟨hk,t3.ext.gh b n hk⟩
 .exact⟨C2,t3.back hS,sQ⟩
end
def eY (n:String):Bool:=n== "internal/abi.NoEscape" ||n== "internal/bytealg.MakeNoZero" ||n== "internal/bytealg.CountString" ||n== "internal/bytealg.IndexByteString"
def im (fn:Func):Bool:= !(eY fn.name)||(Extern.allNextRows.lookup fn.origin).isNone
theorem M0 {fn:Func} {n:String} {e:Array Value->Sem Value} (hn:fn.name=n) (h1:Extern.allGenericRows.lookup n=none) (h2:Extern.allTypedRows.lookup n=none) (h3:Extern.allRows.lookup n=some e):
 Extern.find fn=some e:=by
 unfold Extern.find;simp[hn,h1,h2,h3]
theorem S4 {fn:Func} {n:String} {e:Extern.Typed} (hn:fn.name=n) (h1:Extern.allGenericRows.lookup n=none) (h2:Extern.allTypedRows.lookup n=some e):
 Extern.find fn=some (e fn.params fn.resultTypes):=by
 unfold Extern.find;simp[hn,h1,h2]
theorem Dm {fn:Func} {n:String} (hn:fn.name=n) (h1:Extern.allNextRows.lookup n=none) (h2:(Extern.allNextRows.lookup fn.origin).isNone=true):Extern.findNext fn=none:=by
 unfold Extern.findNext;have:Extern.allNextRows.lookup fn.origin=none:=by simpa using h2
 simp[hn,h1,this]
section
variable {E : Env} {P : Program} (he : CV E P)
include he
theorem M7 {o:Oper} {c:Call} {f:FuncId} {fn:Func} {e:Array Value->Sem Value} (ho:o.op= .call c) (hc:c.callee= .value (.func f)) (hf:E.fns.get f=some fn) (hb:fn.body.isNone=true) (hn:Extern.findNext fn=none)
 (hfd:Extern.find fn=some e) (a:Act) (w:World):(execOp a.eval o).run P w=((e (c.args.toList.map a.eval).toArray).run P w).andThen fun v w'=> .ok (.value v) w':=by
 simp only[execOp,ho,resolve,hc,Act.eval,Deferred.ofValue,Sem.run_bind,Sem.run_pure,Result.andThen_ok,invoke,Array.empty_append,Array.append_empty];rw[EB,run_callFunc_extern (he.fn f fn hf) (he.lone f fn hf) hb hn hfd]
omit he in
theorem toU8 {n:Nat} (h:n<256) (b:UInt8):(b==n.toUInt8)=Nat.beq b.toNat n:=by
 have h1:n.toUInt8.toNat=n:=by simp[Nat.mod_eq_of_lt h]
 cases hb:Nat.beq b.toNat n with
 |true=>
  have:=Qb hb;have:b=n.toUInt8:=UInt8.toNat_inj.1 (by rw[h1];exact this);simp[this]
 |false=>grind [Nat.ne_of_beq_eq_false]
omit he in
theorem Vy {n:Nat} (h:n<256):∀l:List UInt8,Go.Lib.countByte l n.toUInt8=mT n l
 | []=>rfl
 |b::l=>by
  have ih:=Vy h l;simp only[Go.Lib.countByte,mT]at ih|-;rw[List.count_cons,toU8 h,ih];cases Nat.beq b.toNat n<;>rfl
omit he in
theorem UA {n:Nat} (h:n<256):∀l:List UInt8,Go.Lib.indexByte l n.toUInt8=(match tO n l with|some k=>(k:Int)|none=> -1)
 | []=>rfl
 |b::l=>by
  have ih:=UA h l;simp only[Go.Lib.indexByte,tO,toU8 h];cases Nat.beq b.toNat n with
  |true=>rfl
  |false=>grind
omit he in
theorem Gl:∀(n t:Nat) (acc:Array Value),(Extern.BytealgMakeNoZero.digits n t acc).size=acc.size+n
 |0,_,_=>rfl
 |n+1,t,acc=>by
  rw[Extern.BytealgMakeNoZero.digits,Gl n,Array.size_push];omega
theorem RU {t e:TypeId} (hu:CN E t=some (.slice e)) (ps:Array TypeId) (n:Nat) (hn:n<=281474976710656) (w:World):
 ∃cs:Array Value,(Extern.BytealgMakeNoZero.makeNoZero ps #[t] #[.int .i64 (n:Int)]).run P w= .ok (.slice (some ⟨w.heap.size,0,none⟩) n cs.size) (World.Wb {w with drawn:=w.drawn+1+1} (.cells cs e (0,0)))/\n<=cs.size:=by
 have h1:¬(n:Int)<0:=by omega
 have h2:¬(281474976710656:Int)<(n:Int):=by omega
 have q8:∃(m1 m2:String) (q:Question),Extern.BytealgMakeNoZero.makeNoZero ps #[t] #[.int .i64 (n:Int)]=
  (do
   let .slice elem<-underlying t|stuck m1
   if(n:Int)<0||(n:Int)>2^48 then runtimePanic (.error m2)
   let cap<-choose (.appendCap (n:Int).toNat 0 elem)
   askRoom cap
   let bytes<-choose q
   let a<-newRow elem (Extern.BytealgMakeNoZero.digits cap bytes #[])
   pure (.slice (some a) (n:Int).toNat cap))/\q.forced=false:=⟨_,_,_,rfl,rfl⟩
 obtain⟨m1,m2,q,q8,hq⟩:=q8;refine⟨Extern.BytealgMakeNoZero.digits (grownCap w n 0 e) (q.cut (w.tape (w.drawn+1) q)) #[],?_,?_⟩
 .rw[q8];have fo:(Question.appendCap n 0 e).forced=false:=rfl;simp[run_underlying (BU he hu),h1,h2,hq,fo,newRow,Gl,grownCap,World.Wb];rfl
 .rw[Gl];simpa using grownCap_ge w n 0 e
omit he in
theorem PD {a b v:AV} (h:km a b=some v):∃l c,a= .str l/\b= .int .u8 ((c:Nat):Int)/\c<256/\v= .int .i64 (mT c l):=by
 unfold km at h;split at h
 .grind [Nat.blt_eq]
 .cases h
omit he in
theorem Jl {a b v:AV} (h:fG a b=some v):∃l c,a= .str l/\b= .int .u8 ((c:Nat):Int)/\c<256/\v= .int .i64 (match tO c l with|some k=>(k:Int)|none=> -1):=by
 unfold fG at h;split at h
 .grind [Nat.blt_eq]
 .cases h
theorem ok_ext (uL:∀f fn,E.fns.get f=some fn->im fn=true) {o:Oper} {c:Call} {f:FuncId} (ho:o.op= .call c) (hc:c.callee= .value (.func f)) (hb:C7 E f=false):
 Yq E P o (gY E f (nameOf E f) c.args.toList):=by
 cases hf:E.fns.get f with
 |none=>
  have:nameOf E f= "" :=by simp[nameOf,hf]
  rw[this];unfold gY;split
  .exact Ap
  .exact Ap
  .exact Ap
 |some fn=>
 have uv:nameOf E f=fn.name:=by simp[nameOf,hf]
 have dw:fn.body.isNone=true:=by grind [C7]
 have hor':=uL f fn hf;have org:eY fn.name=true->(Extern.allNextRows.lookup fn.origin).isNone=true:=by grind [im]
 rw[uv];unfold gY;split
 .next x XY=>
  cases h1:(fn.name== "internal/abi.NoEscape")with
  |true=>
   have hn:fn.name= "internal/abi.NoEscape" :=by simpa using h1
   have ht:=org (by simp[eY,h1]);have run:=M7 he ho hc hf dw (Dm hn (by kernel_rfl) ht) (M0 (e:=Extern.AbiNoEscape.same) hn (by kernel_rfl) (by kernel_rfl) (by kernel_rfl));intro C T a S w hg hT hS v h;refine⟨a.eval x,?_,Ak hg hT h⟩;rw[run,XY];rfl
  |false=>
  cases h2:(fn.name== "internal/bytealg.MakeNoZero")with
  |true=>
   have hn:fn.name= "internal/bytealg.MakeNoZero" :=by simpa using h2
   have ht:=org (by simp[eY,h2]);have run:=M7 he ho hc hf dw (Dm hn (by kernel_rfl) ht) (S4 (e:=Extern.BytealgMakeNoZero.makeNoZero) hn (by kernel_rfl) (by kernel_rfl));simp only[cond_false,cond_true];rw[hf];cases ei:tT E (some fn)with
   |none=>exact Ap
   |some e=>
   simp only;have hrt:∃t,fn.resultTypes= #[t]/\CN E t=some (.slice e):=by grind [tT]
   obtain⟨t,hrt,hu⟩:=hrt;intro C T a S w hg hT hS;have key:∀m,((Cg E x T).bind (jI e))=some m->∃n:Nat,VR C (.int .i64 (n:Int)) (a.eval x)/\0<n/\n<=1099511627776/\m= .obj (.cells [] e true) fun i=> .slice i 0 n 1 none:=by
    intro m h;obtain⟨v,hv,h⟩:=Qa.1 h;unfold jI at h;split at h
    .next n=>
     cases nE:(Nat.blt 0 n&&Nat.ble n 1099511627776)with
     |false=>rw[nE]at h;cases h
     |true=>
      rw[nE]at h;simp only[cond_true,Option.some.injEq]at h;rw[Qf]at nE;exact⟨n,Ak hg hT hv,by simpa[Nat.blt_eq]using nE.1,Qc nE.2,h.symm⟩
    .cases h
   refine⟨fun v h=>?_,fun ob g h=>?_⟩
   .grind
   .obtain⟨n,hv,nL,lG,h⟩:=key _ h;cases h;generalize hq:a.eval x=q at hv;cases hv;obtain⟨cs,hrow,hle⟩:=RU he hu fn.params n (by omega) w;have yW:=Cu.drew hS (w.drawn+1);have hw2:=Cu.drew yW.st (w.drawn+1+1);have uB:=Dp hw2.st (cs:=[]) (c:=cs) (vs:=[]) (ex:=cs.toList) .nil (by simp) (fun _ h=>by cases h) e true (fun h=>by cases h);refine⟨_,_,_,?_,(yW.trans hw2).trans uB,Dx (n:=cs.size) (cap:=none) (c:=cs.size) ⟨by simp,Nat.one_pos⟩ hle⟩;rw[run,XY];simp only[List.map_cons,List.map_nil,hq,hrt];rw[hrow];rfl
  |false=>simp_all [Ap]
 .next x y XY=>
  cases h1:(fn.name== "internal/bytealg.CountString")with
  |true=>
   have hn:fn.name= "internal/bytealg.CountString" :=by simpa using h1
   have ht:=org (by simp[eY,h1]);have run:=M7 he ho hc hf dw (Dm hn (by kernel_rfl) ht) (M0 (e:=Extern.BytealgCount.count) hn (by kernel_rfl) (by kernel_rfl) (by kernel_rfl));intro C T a S w hg hT hS v h;obtain⟨u1,hu1,h⟩:=Qa.1 h;obtain⟨u2,u5,h⟩:=Qa.1 h;have pN:=Ak hg hT hu1;have sQ:=Ak hg hT u5;obtain⟨l,c',rfl,rfl,j5,rfl⟩:=PD h;generalize fo:a.eval x=q1 at pN;generalize lj:a.eval y=q2 at sQ;cases pN with
   | @str _ _ s hs=>
   cases sQ;refine⟨_,?_,.int _ _⟩;rw[run,XY];simp only[List.map_cons,List.map_nil,fo,lj];have:=Go.Lib.run_countString (P:=P) s (c':Int) w;simp only[Int.toNat_natCast]at this;rw[hs,Vy j5]at this;show((Extern.BytealgCount.count #[.string s,.int .u8 (c':Int)]).run P w).andThen _=_;rw[this];rfl
  |false=>
  cases h2:(fn.name== "internal/bytealg.IndexByteString")with
  |true=>
   have hn:fn.name= "internal/bytealg.IndexByteString" :=by simpa using h2
   have ht:=org (by simp[eY,h2]);have run:=M7 he ho hc hf dw (Dm hn (by kernel_rfl) ht) (M0 (e:=Extern.BytealgIndexByte.indexByte) hn (by kernel_rfl) (by kernel_rfl) (by kernel_rfl));intro C T a S w hg hT hS v h;obtain⟨u1,hu1,h⟩:=Qa.1 h;obtain⟨u2,u5,h⟩:=Qa.1 h;have pN:=Ak hg hT hu1;have sQ:=Ak hg hT u5;obtain⟨l,c',rfl,rfl,j5,rfl⟩:=Jl h;generalize fo:a.eval x=q1 at pN;generalize lj:a.eval y=q2 at sQ;cases pN with
   | @str _ _ s hs=>
   cases sQ;have:=Go.Lib.run_indexByteString (P:=P) s (c':Int) w;simp only[Int.toNat_natCast]at this;rw[hs,UA j5]at this;refine⟨_,?_,.int _ _⟩;rw[run,XY];simp only[List.map_cons,List.map_nil,fo,lj];show((Extern.BytealgIndexByte.indexByte #[.string s,.int .u8 (c':Int)]).run P w).andThen _=_;rw[this];rfl
  |false=>simp_all [Ap]
 .exact Ap
omit he in
theorem z7 {C:Cx} {S:St} {w:World} (hS:W2 C S w) {ts:Array TypeId} {ty e:TypeId} (hp:P.underlying ty=some (.pointer e)) (a:Option Addr) (ha:tk C a) (n c:Nat):
 ∃C' p w',(Builtin.unsafeSliceData_ ts ty #[.slice a n c]).run P w= .ok (.pointer p) w'/\Cu C S w C' S w':=by
 cases a with
 |none=>exact⟨C,none,w,rfl,Cu.refl hS⟩
 |some ad=>
  cases c with
  |succ c=>exact⟨C,some ad,w,rfl,Cu.refl hS⟩
  |zero=>
   have q8:Builtin.unsafeSliceData_ ts ty #[.slice (some ad) n 0]=
    (do
     if(0:Nat)≠0 then pure (.pointer (some ad))
     else if(<-viewAt ad.block).isSome then pure (.pointer (some ad))
     else pure (.pointer (some ⟨<-newObj (.view ad (<-elemOf ty)),0,none⟩))):=rfl
   rw[q8];have Co:=hS.there _ (ha ad rfl);have hx:w.heap[ad.block]?=some w.heap[ad.block]:=Array.getElem?_eq_getElem Co;generalize w.heap[ad.block]=x at hx;have hel:(elemOf ty).run P w= .ok e w:=by simp[elemOf,run_underlying hp]
   have made:(viewAt ad.block).run P w= .ok none w->∃C' p w',(do
    if(0:Nat)≠0 then pure (.pointer (some ad))
    else if(<-viewAt ad.block).isSome then pure (.pointer (some ad))
    else pure (.pointer (some ⟨<-newObj (.view ad (<-elemOf ty)),0,none⟩)):Sem Value).run P w= .ok (.pointer p) w'/\Cu C S w C' S w':=by
    intro hv;refine⟨C,some ⟨w.heap.size,0,none⟩,World.Wb w (.view ad e),?_,HJ hS _⟩;simp[hv,hel,World.Wb]
   cases x with
   |cells q t f=>exact made (by simp[viewAt,World.shape?,hx])
   |view q t=>
    refine⟨C,some ad,w,?_,Cu.refl hS⟩;have hv:(viewAt ad.block).run P w= .ok (some (q,t)) w:=by
     simp only[viewAt,Sem.run_bind,run_shape,World.shape?,hx,Result.andThen_ok];simp[AG hx (by simp)]
    simp[hv]
   |_=>
    refine made ?_;simp only[viewAt,Sem.run_bind,run_shape,World.shape?,hx,Result.andThen_ok];simp[AG hx (by simp)]
theorem z8 {o:Oper} {c:Call} {x:Operand} (ho:o.op= .call c) (hc:c.callee= .builtin .unsafeSliceData) (XY:c.args.toList=[x]):Yq E P o (qS E o.type x):=by
 unfold qS;split
 .next e hu=>
  have hp:=BU he hu;have qw:∀ρ:Operand->Value,c.args.map ρ= #[ρ x]:=by intro ρ;apply Array.ext';simp[XY]
  have cy:∀(ρ:Operand->Value) (w:World),(execOp ρ o).run P w=((Builtin.unsafeSliceData_ c.argTypes o.type #[ρ x]).run P w).andThen fun v w'=> .ok (.value v) w':=by
   intro ρ w;simp only[execOp,ho,resolve,hc,Sem.run_bind,Sem.run_pure,Result.andThen_ok,invoke,builtin,qw]
  intro C T a S w hg hT hS;refine⟨fun v h=>?_,fun ob g h=>?_⟩
  .obtain⟨u,jN,h⟩:=Qa.1 h;have hv:=Ak hg hT jN;rw[cy];unfold mb at h;split at h
   .next r hr=>
    cases h;have bE:∀ad n k,a.eval x= .slice ad n k->tk C ad->v= .bE->∃C' y w',((Builtin.unsafeSliceData_ c.argTypes o.type #[a.eval x]).run P w).andThen (fun v w'=> .ok (Next.value v) w')= .ok (.value y) w'/\Cu C S w C' S w'/\VR C' v y:=by
     intro ad n k h1 h2 h3;obtain⟨C',p,w',hr,ht⟩:=z7 (P:=P) hS (ts:=c.argTypes) hp ad h2 n k;exact⟨C',.pointer p,w',by rw[h1,hr];rfl,ht,by rw[h3];exact .bE p⟩
    generalize hq:a.eval x=q at hv;cases hv with
    |Ca ad hx=>cases hr;rw[<-hq];exact bE _ _ _ hq hx rfl
    | @slice _ b off len sz cap k hd ZK YK=>
     cases len with
     |zero=>cases hr;rw[<-hq];exact bE _ _ _ hq (.some (hS.WS _ hd)) rfl
     |succ len=>
      cases hr;refine⟨C,_,w,?_,Cu.refl hS,.ptr hd⟩;cases k with
      |zero=>omega
      |succ k=>rfl
    |X1 hx hd ZK=>cases hr;rw[<-hq];exact bE _ _ _ hq (.some hx) rfl
    |_=>simp[tR]at hr
   .cases h
  .grind [mb,Qa]
 .exact Ap
omit he in
theorem OF {C:Cx} {S:St} {w:World} (h:W2 C S w) {b:Nat} {o0:Cw} (au:S.heap.get b=some o0) (x:Obj):Cu C S w C (S.put b none) (World.CW w (C.pl b).Ci x):=by
 have eg:=fun k=>IQ S b k none;have f:∀j oj,(S.put b none).heap.get j=some oj->j≠b/\S.heap.get j=some oj:=by grind
 refine⟨.refl C,⟨fun k ok hk=>?_,fun k k' ok qX hk j3=>h.inj k k' ok qX (f k ok hk).2 (f k' qX j3).2,h.fresh,fun Ci ms hm=>?_,fun k ok hk=>h.apart k ok (f k ok hk).2,h.stamps,
  fun k hk=>by simpa[World.CW]using h.there k hk,h.WS,h.XP⟩,rfl,(Dt S b _).2,Qj _,by simp[World.CW],fun Ci _ hn=>?_,fun k _ hm=>?_,fun _ h=> .inl h,
  fun k ok hk=> .inl ⟨(h.live k ok (f k ok hk).2).1,ok,(f k ok hk).2⟩,fun _ _ h=> .inl h,⟨rfl,rfl,rfl⟩⟩
 .obtain⟨YM,j3⟩:=f k ok hk;obtain⟨hd,y,hy,hr⟩:=h.live k ok j3;exact⟨hd,y,by rw[AU,if_neg (fun e=>YM (h.inj k b ok o0 j3 au e))];exact hy,hr⟩
 .obtain⟨c,ty,fr,hc,e⟩:=h.kG Ci ms hm;refine⟨c,ty,fr,?_,e⟩;rw[AU,if_neg];· exact hc
  intro e';have:=h.apart b o0 au;rw[<-e',hm]at this;cases this
 .grind [AU,Dt]
 .grind [Dt]
omit he in
theorem GL:∀(ns:List Int) (a:Addr) (acc:ByteArray) {w:World},lz w a (ns.map (.int .u8))->(∀i j,(a.add i).add j=a.add (i+j))->
 (loadBytes a acc ns.length).run P w= .ok ⟨acc.data++(ns.map fun n=>UInt8.ofNat n.toNat).toArray⟩ w
 | [],a,acc,w,_,_=>by simp[loadBytes]
 |n::ns,a,acc,w,h,z9=>by
  have h0:w.cell? a=some (.int .u8 n):=by
   have:=h 0 (.int .u8 n) rfl;simpa[Addr.add]using this
  have ih:=GL ns (a.add 1) (acc.push n.toNat.toUInt8) (w:=w) (fun j v hj=>by rw[z9];rw[Nat.add_comm];exact h (j+1) v (by simpa using hj)) (fun i j=>by rw[z9,z9,z9,Nat.add_assoc]);simp only[List.length_cons,loadBytes,Sem.run_bind,run_load,h0,Result.andThen];rw[ih]
  congr 1
  apply ByteArray.ext;simp[ByteArray.push]
theorem Sd {e:TypeId} (hn:Am.sizeOf E e=some 1) {count off n:Nat} (h:off+n<=count):liesAt P P.depth e (count/P.cellsOf e) off e n=true:=by
 have hc:=HH (P:=P) he hn;have uy:∃q,P.depth=q+2:=⟨_,rfl⟩
 obtain⟨q,hq⟩:=uy;rw[hc,Nat.div_one,hq,liesAt];refine Bool.or_eq_true_iff.2 (.inl ?_);rw[hq,rowAt,hc];simp[h,sameLayout,Nat.mod_one]
omit he in
theorem UP {w:World} {Ci off n:Nat} {c:Array Value} {e:TypeId} {fr:Nat×Nat} (h:w.heap[Ci]?=some (.cells c e fr)) (hn:n≠0):
 ∃Yf,w.freeze ⟨Ci,off,none⟩ n=World.CW w Ci (.cells c e Yf):=by
 unfold World.freeze World.CW;rw[if_neg hn,NK h];exact⟨_,U⟩
omit he in
theorem Ny {s:St} {e' n:Nat} {v:AV} {r:AV×St} (h:eL s E e' n v=some r):
 (n=0/\r=(.str [],s)/\(v= .CU\/v= .bE\/∃b off,v= .ptr b off))\/(n≠0/\∃b off,v= .ptr b off/\dU s E e' b off n (s.heap.get b)=some r):=by
 unfold eL at h;split at h
 .cases h0:Nat.beq n 0 with
  |true=>rw[h0]at h;cases h;exact .inl ⟨Qb h0,rfl,.inr (.inr ⟨_,_,rfl⟩)⟩
  |false=>rw[h0]at h;exact .inr ⟨Nat.ne_of_beq_eq_false h0,_,_,rfl,h⟩
 .cases h0:Nat.beq n 0 with
  |true=>rw[h0]at h;cases h;exact .inl ⟨Qb h0,rfl,.inr (.inl rfl)⟩
  |false=>rw[h0]at h;cases h
 .cases h0:Nat.beq n 0 with
  |true=>rw[h0]at h;cases h;exact .inl ⟨Qb h0,rfl,.inl rfl⟩
  |false=>rw[h0]at h;cases h
 .cases h
omit he in
theorem Mc {s:St} {e' b off n:Nat} {o:Option Cw} {r:AV×St} (h:dU s E e' b off n o=some r):
 ∃cs part l q,o=some (.cells cs e' part)/\cut cs off n=some l/\Xg l=some q/\r=(.str q,s.put b none):=by
 unfold dU at h;split at h
 .next cs e part=>
  cases he0:(Nat.beq e e'&&isByte E e)with
  |false=>rw[he0]at h;cases h
  |true=>
   rw[he0]at h;simp only[cond_true]at h;rw[Qf]at he0;have:=Qb he0.1;subst this;obtain⟨l,hl,h'⟩:=Qa.1 h;obtain⟨q,hq,h''⟩:=Qa.1 h';cases h'';exact⟨_,_,l,q,U,hl,hq,U⟩
 .cases h
theorem ok_str {o:Oper} {c:Call} {t:TypeId} {ts:List TypeId} {x y:Operand} (ho:o.op= .call c) (hc:c.callee= .builtin .unsafeString) (fO:c.argTypes.toList=t::ts) (XY:c.args.toList=[x,y]):
 Yq E P o (jH E t x y):=by
 unfold jH;split
 .next e hu=>
  cases fM:(isByte E e&&Nat.beq ((Am.sizeOf E e).getD 0) 1)with
  |false=>exact Ap
  |true=>
  rw[Qf]at fM;have Xn:Am.sizeOf E e=some 1:=by
   cases hq:Am.sizeOf E e with
   |none=>rw[hq]at fM;exact absurd fM.2 (by decide)
   |some k=>simp_all [Qb]
  have hp:=BU he hu;have qw:∀ρ:Operand->Value,c.args.map ρ= #[ρ x,ρ y]:=by intro ρ;apply Array.ext';simp[XY]
  have s9:c.argTypes[0]?=some t:=by rw[<-Array.getElem?_toList,fO];rfl
  have cy:∀(ρ:Operand->Value) (w:World),(execOp ρ o).run P w=((Builtin.unsafeString_ c.argTypes o.type #[ρ x,ρ y]).run P w).andThen fun v w'=> .ok (.value v) w':=by
   intro ρ w;simp only[execOp,ho,resolve,hc,Sem.run_bind,Sem.run_pure,Result.andThen_ok,invoke,builtin,qw]
  intro C T a S w hg hT hS v S' h;obtain⟨av,jq,h⟩:=Qa.1 h;obtain⟨bv,uF,h⟩:=Qa.1 h;obtain⟨n,hn,h⟩:=Qa.1 h;have hv:=Ak hg hT jq;have hw:=Ak hg hT uF;cases hle:Nat.ble n 1099511627776 with
  |false=>rw[hle]at h;cases h
  |true=>
  rw[hle]at h;simp only[cond_true]at h;have hle':=Qc hle;obtain⟨k,hk⟩:∃k,a.eval y= .int k (n:Int):=by
   unfold Xi at hn;split at hn
   .next k' m=>
    cases hn;generalize a.eval y=q at hw;cases hw;exact⟨_,U⟩
   .cases hn
  have hmax:IntKind.i64.max=9223372036854775807:=rfl;have nG:¬((n:Int)<0):=by omega
  have hbig:¬((9223372036854775807:Int)<(n:Int)):=by omega
  have vi:∃(m1 m2 m3:String) (u:Unsupported),∀(ts:Array TypeId) (ty:TypeId) (l:Value),Builtin.unsafeString_ ts ty #[.pointer none,l]=
   (do
    let n<-asInt l
    let some pt:=ts[0]?|stuck m1
    if n<0 then runtimePanic (.error m2)
    if n>IntKind.i64.max then unsupported u
    if n=0 then pure (.string .empty)
    else runtimePanic (.error m3)):=⟨_,_,_,_,fun _ _ _=>rfl⟩
  have rz:∃(m1 m2:String) (u u':Unsupported),∀(ts:Array TypeId) (ty:TypeId) (l:Value) (ad:Addr),Builtin.unsafeString_ ts ty #[.pointer (some ad),l]=
   (do
    let n<-asInt l
    let some pt:=ts[0]?|stuck m1
    if n<0 then runtimePanic (.error m2)
    if n>IntKind.i64.max then unsupported u
    if n=0 then pure (.string .empty)
    else if<-variablesAt ad (<-elemOf pt) n.toNat then do
     let s<-loadBytes ad .empty n.toNat
     freeze ad n.toNat
     pure (.string s)
    else unsupported u'):=⟨_,_,_,_,fun _ _ _ _=>rfl⟩
  obtain⟨_,_,_,_,vi⟩:=vi;obtain⟨_,_,_,_,rz⟩:=rz;have nothing:∀p,a.eval x= .pointer p->n=0->(execOp a.eval o).run P w= .ok (.value (.string .empty)) w:=by
   intro p hpx h0;subst h0;rw[cy,hpx,hk];cases p with
   |none=>rw[vi];simp[asInt,asIntOf,s9,hmax]
   |some ad=>rw[rz];simp[asInt,asIntOf,s9,hmax]
  rcases Ny h with⟨h0,oX,ek⟩|⟨nL,b,off,rfl,hin⟩
  .cases oX;have hpx:∃p,a.eval x= .pointer p:=by
    generalize a.eval x=q at hv;rcases ek with rfl|rfl|⟨b,off,rfl⟩<;>cases hv<;>exact⟨_,rfl⟩
   obtain⟨p,hpx⟩:=hpx;exact⟨C,_,w,nothing p hpx h0,Cu.refl hS,.value (.str U)⟩
  .obtain⟨cs,part,l,r,tq,hl,hr,sO⟩:=Mc hin;cases sO;generalize hq:a.eval x=q at hv;cases hv with
   |ptr hd=>
   obtain⟨_,xo,hx,uL⟩:=hS.live b _ tq;cases uL with
   |cells WQ ha hs Wt hf kH=>
   rename_i cc fr vs
   obtain⟨pre,post,hcsl,XV,pO⟩:=FJ hl;rw[hcsl]at WQ;obtain⟨y1,z3,rfl,h1,h4⟩:=AF WQ;obtain⟨y0,ym,rfl,h2,h3⟩:=AF h1;obtain⟨ns,hns,hrr⟩:=D3 h3 hr;have j4:=ha.sub (a:=y0) (b:=ym) (c:=z3) rfl;rw[h2.length,XV]at j4;have hlen:ns.length=n:=by
    have:=h3.length;rw[hns]at this;simp only[List.length_map]at this;omega
   have jo:=Jo hx j4;rw[hns]at jo;have mj:=GL (P:=P) ns ⟨(C.pl b).Ci,(C.pl b).base+off,none⟩ .empty jo (fun i j=>by simp[Bm,Nat.add_assoc]);rw[hlen]at mj;have YY:(C.pl b).base+off+n<=cc.size:=by
    have:=j4.le;rw[hns]at this;simp only[List.length_map,hlen,Array.length_toList]at this;exact this
   have uC:=Sd (P:=P) he Xn YY;have hsh:w.shape? (C.pl b).Ci=some (e,cc.size):=by simp[World.shape?,hx]
   obtain⟨Yf,hfz⟩:=UP (off:=(C.pl b).base+off) hx nL;refine⟨C,.value (.string ⟨(ByteArray.empty).data++(ns.map fun n=>UInt8.ofNat n.toNat).toArray⟩),_,?_,OF hS tq (.cells cc e Yf),.value (.str ?_)⟩
   .rw[cy,hq,hk,<-hfz,rz];simp[asInt,asIntOf,s9,hmax,nG,hbig,nL,variablesAt,hsh,elemOf,run_underlying hp,uC,mj]
   .rw[hrr];simp
 .exact Ap
theorem vk (uL:∀f fn,E.fns.get f=some fn->im fn=true):ZO E P:=
 ⟨fun _ _ _ _ h1 h2 h3=>ok_ext he uL h1 h2 h3,fun _ _ _ _ h1 h2 h3=>z8 he h1 h2 h3,fun _ _ _ _ _ _ _ h1 h2 h3 h4=>ok_str he h1 h2 h3 h4⟩
end
structure fQ (E:Env) (P:Program):Prop where
 Y3:∀(f:FuncId) (args:List AV) (v:AV),E.Y3 f args=some v->∀(C:Cx) (S:St) (w:World) (xs:Array Value) (c:Frame) (cs:List Frame),W5 E C->Wc C args xs.toList->W2 C S w->
  Returns P (lone (Frame.enter P f xs .normal) (c::cs) w) c cs C S w (.same v)
 gH:∀(f:FuncId) (g:List AV->St->Option (AV×St)),E.gH f=some g->∀(args:List AV) (S:St) (v:AV) (S':St),g args S=some (v,S')->∀(C:Cx) (w:World) (xs:Array Value) (c:Frame) (cs:List Frame),W5 E C->Wc C args xs.toList->W2 C S w->
  Returns P (lone (Frame.enter P f xs .normal) (c::cs) w) c cs C S w (.val v S')
section
variable {E : Env} {P : Program}
theorem tu.none {p q:Option AV} {a b:List Frame} (h:tu p q a b) (hp:p=none):b=a:=by
 cases h with
 |same=>rfl
 |sM=>cases hp
theorem leaves {b:Frame} {cs:List Frame} {C:Cx} {m:Machine} {ex:Ex} {a:Act} {w:World} (hr:b.roundOf=none) (he:Ends P b [] cs C m ex a w) {mo:Option AV} (hm:fK ex=some mo):
 ∃todo mode,Steps P m (lone (CF b a todo mode) cs w)/\ej C mode mo:=by
 cases ex with
 |normal=>cases hm;exact⟨[],.returning,Steps.trans he (.one (s_end hr)),.ret⟩
 |ret=>cases hm;obtain⟨k2,h⟩:=he;exact⟨_,.returning,Steps.trans h (.one (s_ret hr)),.ret⟩
 |panic v=>cases hm;obtain⟨k2,x,h,hv,_⟩:=he;exact⟨k2,_,h,.WR hv⟩
 |exit id=>cases hm
theorem CrR.returns {C:Cx} {S:St} {w w':World} {x:Value} {cr:CR} (h:CrR C S w x w' cr) {m:Machine} {c:Frame} {cs:List Frame} (hs:Steps P m (lone (c.finish x) cs w')):Returns P m c cs C S w cr:=by
 cases cr with
 |same v=>obtain⟨C',t,hv⟩:=h;exact⟨C',x,w',hs,t,hv⟩
 |val v S'=>obtain⟨C',t,hv⟩:=h;exact⟨C',x,w',hs,t,hv⟩
 |WR v S'=>cases h
theorem PB (he:CV E P) {ev:Ev} (fu:kO E P ev) {f:FuncId} {fn:Func} (hp:P.funcs[f]?=some fn) {S:St} {r:bO} {cr:CR} (h:ZI E ev f fn S r=some cr) {C C1:Cx} {w w1:World} (hg:W5 E C)
 (hS:W2 C S w) (t:Cu C S.enter w C1 r.st w1) {b:Frame} {a1:Act} (hT:TR C1 r.fr.nt r.T a1.tmps) {c:Frame} {cs:List Frame} (hF:mu C1 r.fr b a1 (c::cs)) (hk:b.kind= .normal) (hr:b.roundOf=none) (hf:b.fn=f)
 {m:Machine} (ZM:Ends P b [] (c::cs) C1 m r.ex a1 w1):Returns P m c cs C S w cr:=by
 unfold ZI at h;obtain⟨mo,iZ,h⟩:=Qa.1 h;obtain⟨p,s8,h⟩:=Qa.1 h;obtain⟨m',S'⟩:=p;obtain⟨todo,mode,Z5,lF⟩:=leaves hr ZM iZ;have iC:=hg.mono t.ext;obtain⟨C2,w2,mode2,oZ,t2,zy⟩:=Gs he fu s8 iC hF.defs t.st lF b a1.tmps todo (c::cs);have WT:=Z5.trans oZ;have t3:=t.trans t2;unfold endWith at h;cases zy with
 |ret=>
  simp only at h;obtain⟨vs,WQ,h⟩:=Qa.1 h;have zA:TR C2 a1.tmps.size r.T a1.tmps:=⟨rfl,(hT.mono t2.ext).2⟩
  obtain⟨x,hx,aw⟩:=IH he zA t3.st WQ;refine(Q9 h hS t3 aw).returns (WT.trans (.one ?_));exact step_leave_returned ⟨U,U,hk,fn,by show P.funcs[b.fn]?=_;rw[hf];exact hp,hx⟩
 | @WR v x hv=>
  simp only at h;cases h;refine⟨C2,x,w2,WT.trans (.one ?_),t3.back hS,hv⟩;exact step_leave_panicked ⟨U,U,fn,by show P.funcs[b.fn]?=_;rw[hf];exact hp⟩
theorem W2.enter {C:Cx} {S:St} {w:World} (h:W2 C S w):W2 C S.enter w:=h.ib _ _
theorem Qr {a b:AV} (h:ku a b=true):a=b:=by
 unfold ku at h;split at h
 .next x y=>cases x<;>cases y<;>first|rfl|cases h
 .next j a k b=>
  by_cases hk:j=k
  .rw[if_pos hk]at h;rw[hk,of_decide_eq_true h]
  .rw[if_neg hk]at h;cases h
 .next a b=>rw[AB]at h;rw[of_decide_eq_true h]
 .rfl
 .simp only[Qf]at h;rw[Qb h.1,Qb h.2]
 .rfl
 .next a b c d e f g i j k=>
  simp only[Qf]at h;obtain⟨⟨⟨⟨h1,h2⟩,h3⟩,h4⟩,h5⟩:=h;rw[Qb h1,Qb h2,Qb h3,Qb h4];unfold sameO at h5;split at h5
  .rfl
  .rw[Qb h5]
  .cases h5
 .rfl
 .rw[Qb h]
 .cases h
theorem Is:∀ {a b:List AV},fk a b=true->a=b
 | [],[],_=>rfl
 | [],_::_,h=>by cases h
 |_::_,[],h=>by cases h
 |a::l,b::r,h=>by
  simp only[fk,Qf]at h;rw[Qr h.1,Is h.2]
theorem Gy {a b:AV} (h:aJ a (some b)=true):a=b:=by
 unfold aJ at h;split at h
 .next e=>cases e;rw[Is h]
 .next e=>cases e;rw[Is h]
 .next e=>cases e;exact Qr h
 .next e=>cases e
mutual
theorem HC:∀ {a b:AV},Zu a b=true->a=b
 | .bool a,b,h=>by
  cases b<;>simp only[Zu]at h<;>try (cases h;done)
  rename_i b;cases a<;>cases b<;>first|rfl|cases h
 | .int j a,b,h=>by
  cases b<;>simp only[Zu]at h<;>try (cases h;done)
  split at h
  .next hk=>subst hk;simp at h;rw[h]
  .cases h
 | .str a,b,h=>by
  cases b<;>simp only[Zu]at h<;>try (cases h;done)
  rw[AB]at h;simp at h;rw[h]
 | .CU,b,h=>by cases b<;>first|rfl|(simp only[Zu]at h;cases h)
 | .Ca,b,h=>by cases b<;>first|rfl|(simp only[Zu]at h;cases h)
 | .WI,b,h=>by cases b<;>first|rfl|(simp only[Zu]at h;cases h)
 | .WE,b,h=>by cases b<;>first|rfl|(simp only[Zu]at h;cases h)
 | .CP,b,h=>by cases b<;>first|rfl|(simp only[Zu]at h;cases h)
 | .Wl a,b,h=>by
  cases b<;>simp only[Zu]at h<;>try (cases h;done)
  rw[FH h]
 | .Cf a l s c,b,h=>by
  cases b<;>simp only[Zu]at h<;>try (cases h;done)
  simp only[Qf]at h;obtain⟨⟨⟨h1,h2⟩,h3⟩,h4⟩:=h;rename_i cl
  have:=Qb h1;have:=Qb h2;have hc:c=cl:=by cases c<;>cases cl<;>first|rfl|cases h3
  subst_vars
  rw[FH h4]
 | .iface t a,b,h=>by
  cases b<;>simp only[Zu]at h<;>try (cases h;done)
  rw[Qf]at h;have:=Qb h.1;subst this;rw[HC h.2]
 | .agg a,b,h=>by
  cases b<;>simp only[Zu]at h<;>try (cases h;done)
  rw[FH h]
 | .tuple a,b,h=>by
  cases b<;>simp only[Zu]at h<;>try (cases h;done)
  rw[FH h]
 | .ptr _ _,b,h=>by cases b<;>simp only[Zu]at h<;>cases h
 | .slice _ _ _ _ _,b,h=>by cases b<;>simp only[Zu]at h<;>cases h
 | .map _,b,h=>by cases b<;>simp only[Zu]at h<;>cases h
 | .dK _ _,b,h=>by cases b<;>simp only[Zu]at h<;>cases h
 | .bE,b,h=>by cases b<;>simp only[Zu]at h<;>cases h
 | .any,b,h=>by cases b<;>simp only[Zu]at h<;>cases h
 | .func _ _ _,b,h=>by cases b<;>simp only[Zu]at h<;>cases h
theorem FH:∀ {a b:List AV},dX a b=true->a=b
 | [],b,h=>by cases b<;>first|rfl|(simp only[dX]at h;cases h)
 |a::l,b,h=>by
  cases b with
  |nil=>simp only[dX]at h;cases h
  |cons c r=>
   simp only[dX,Qf]at h;rw[HC h.1,FH h.2]
end
theorem K9 {C C':Cx} {S:St} {w w':World} (hS:W2 C S w) (t:Cu C S.whole w C' S.whole w'):Cu C S w C' S w':=by
 have Z4:∀b,C.D b->¬aq S.whole S.whole.log b:=fun b hb hm=>by
  rcases hm with h|h
  .cases h
  .exact Nat.lt_irrefl _ (Nat.lt_of_lt_of_le (hS.fresh b hb) h)
 have hno':∀b o,S.heap.get b=some o->¬aq S.whole S.whole.log b:=fun b o hb=>Z4 b (hS.live b o hb).1;exact {ext:=t.ext,st:=t.st.ib _ _,bound:=rfl,log:=fun _ h=>h,next:=Qj _,size:=t.size,frame:=fun Ci hb _=>t.frame Ci hb fun b o ho hm=>absurd hm (hno' b o ho),kept:=fun b hb _=>t.kept b hb (Z4 b hb),iS:=t.iS,own:=fun b o ho=>(t.own b o ho).elim .inl fun h=>h.elim (fun h=> .inr (.inl h)) fun⟨b0,o0,h0,h1,_⟩=>absurd h1 (hno' b0 o0 h0),cu:=fun Ci ms hm=>(t.cu Ci ms hm).elim .inl fun h=>h.elim (fun h=> .inr (.inl h)) fun⟨b0,o0,h0,h1,_⟩=>absurd h1 (hno' b0 o0 h0),YQ:=t.YQ}
theorem Rs {P:Program} {m:Machine} {c:Frame} {cs:List Frame} {C:Cx} {S:St} {w:World} {v:AV} (hS:W2 C S w) (h:Returns P m c cs C S.whole w (.same v)):Returns P m c cs C S w (.same v):=by
 obtain⟨C',x,w',hs,t,hv⟩:=h;exact⟨C',x,w',hs,K9 hS t,hv⟩
theorem JD {ev:Ev} {f:FuncId} {fn:Func} {S:St} {v:AV}:∀ {l:List bO},hU E ev f fn S v l=true->∀r∈l,ZI E ev f fn S.whole r=some (.same v)
 | [],_,r,hr=>by cases hr
 |a::l,h,r,hr=>by
  simp only[hU]at h;split at h
  .next u hu=>
   rw[Qf]at h;rcases Qk.1 hr with rfl|hr
   .rw[HC h.1]at hu;unfold ni at hu;split at hu
    .next v' he=>cases hu;exact he
    .cases hu
   .exact JD h.2 r hr
  .cases h
theorem Q6 {ev:Ev} {f:FuncId} {fn:Func} {S:St} {r0:bO} {l:List bO} {cr:CR} (h:many1 E ev f fn S r0 l=some cr):
 ∃v,cr= .same v/\∀r∈r0::l,ZI E ev f fn S.whole r=some (.same v):=by
 unfold many1 at h;obtain⟨v,hv,h⟩:=Qa.1 h;cases ha:hU E ev f fn S v l with
 |false=>rw[ha]at h;cases h
 |true=>
  rw[ha]at h;cases h;refine⟨v,rfl,fun r hr=>?_⟩;rcases Qk.1 hr with rfl|hr
  .unfold ni at hv;split at hv
   .next v' he=>cases hv;exact he
   .cases hv
  .exact JD ha r hr
def jQ (E:Env) (P:Program) (ev:Ev):Prop:=
 ∀(f:FuncId) (fn:Func) (S:St) (r0:bO) (l:List bO) (cr:CR),nj E ev f fn S r0 l=some cr->∀(C:Cx) (w:World),W2 C S w->∀(r:bO),r∈r0::l->∀(m:Machine) (c:Frame) (cs:List Frame),
  (∀cr',ZI E ev f fn S.whole r=some cr'->Returns P m c cs C S.whole w cr')->Returns P m c cs C S w cr
theorem Rc (he:CV E P) (iq:fQ E P) {ev:Ev} (fu:kO E P ev) (en:E.merge=true->jQ E P ev):Zi E P ev:=by
 intro f args cr C S w xs c cs h hg ha hS;unfold WA at h;cases hm:E.Y3 f args with
 |some v=>
  rw[hm]at h;cases h;exact iq.Y3 f args v hm C S w xs c cs hg ha hS
 |none=>
  rw[hm]at h;simp only at h;cases nO:E.fns.get f with
  |none=>
   rw[nO]at h;simp only at h;unfold tV at h;cases eU:E.gH f with
   |none=>rw[eU]at h;cases h
   |some g=>
    rw[eU]at h;obtain⟨p,hp,h⟩:=Qa.1 h;cases h;exact iq.gH f g eU args S p.1 p.2 hp C w xs c cs hg ha hS
  |some fn=>
  rw[nO]at h;simp only at h;obtain⟨cd,hc,h⟩:=Qa.1 h;have hp:=he.fn f fn nO;have aN:Frame.enter P f xs .normal=CX (Frame.enter P f xs .normal) ⟨xs++Array.replicate (fn.ntmps-xs.size) undef,[]⟩ [.code cd]:=by
   simp[Frame.enter,CX,hp,hc]
  have lk:(Frame.enter P f xs .normal).kind= .normal:=rfl;have ig:(Frame.enter P f xs .normal).roundOf=none:=rfl;have q7:(Frame.enter P f xs .normal).fn=f:=rfl;generalize Frame.enter P f xs .normal=bd at aN lk ig q7;have Zk:=fu cd C S.enter w (frame fn.ntmps args none) (Yl 0 args .nil) bd ⟨xs++Array.replicate (fn.ntmps-xs.size) undef,[]⟩ [] (c::cs) hg (PI ha fn.ntmps)
   ⟨.nil,.none (by simp[mr,tryRecover,lk]),.none ig⟩ hS.enter
  rw[<-aN]at Zk;generalize cU:ev cd (frame fn.ntmps args none) (Yl 0 args .nil) S.enter=out at h Zk;unfold nq at h;split at h
  .next r=>
   obtain⟨r',dD,C1,a1,w1,cs1,t,hT,hF,hn,iY,Wt,ZM⟩:=Zk [r] rfl;simp only[Qn]at dD;subst dD;have:=Wt.none rfl;subst this;exact PB he fu hp h hg hS t hT hF lk ig q7 ZM
  .next r l=>
   obtain⟨r',dD,C1,a1,w1,cs1,t,hT,hF,hn,iY,Wt,ZM⟩:=Zk (r::l) rfl;have:=Wt.none rfl;subst this;have nW:W2 C S.whole w:=hS.ib _ _;have ht':Cu C S.whole.enter w C1 r'.st w1:=t;cases lF:many1 E ev f fn S r l with
   |some c1=>
    rw[lF]at h;cases h;obtain⟨v,rfl,Za⟩:=Q6 lF;exact Rs hS (PB he fu hp (Za r' dD) hg nW ht' hT hF lk ig q7 ZM)
   |none=>
   rw[lF]at h;unfold nk at h;cases yi:E.merge with
   |false=>rw[yi]at h;cases h
   |true=>
   rw[yi]at h;simp only[cond_true]at h;refine en yi f fn S r l cr h C w hS r' dD _ c cs fun cr' hcr'=>?_;exact PB he fu hp hcr' hg nW ht' hT hF lk ig q7 ZM
  .cases h
end
section
variable {E : Env} {P : Program}
theorem HX {C:Cx} {nt:Nat}:∀ {ps:List Nat} {vs:List AV} {xs:List Value} {T T':Tr AV} {tmps:Array Value},a9 nt ps vs T=some T'->TR C nt T tmps->Wc C vs xs->
 ps.length=xs.length/\TR C nt T' ((ps.zip xs).foldl (fun t (p:Nat×Value)=>t.setIfInBounds p.1 p.2) tmps)
 | [],[],xs,T,T',tmps,h,hT,hv=>by
  cases h;cases hv;exact⟨rfl,hT⟩
 | [],_::_,_,_,_,_,h,_,_=>by cases h
 |_::_,[],_,_,_,_,h,_,_=>by cases h
 |p::ps,v::vs,_,T,T',tmps,h,hT,.cons (x:=x) (xs:=xs) pN yh=>by
  simp only[a9]at h;cases hp:Nat.blt p nt with
  |false=>rw[hp]at h;cases h
  |true=>
   rw[hp]at h;have Co:p<nt:=by simpa[Nat.blt_eq]using hp
   have h1:TR C nt (T.set p (some v)) (tmps.setIfInBounds p x):=TR.put (a:=⟨tmps,[]⟩) hT Co pN;obtain⟨h2,h3⟩:=HX h h1 yh;exact⟨by simp[h2],by simpa using h3⟩
theorem Ey {w:World} {l:Nat} {L:Loop} (h:w.heap[l]?=some (.loop L)):(Instr.getLoop l).run P w= .ok L w:=by
 simp only[Instr.getLoop,Sem.run_bind,AG h (by simp),Result.andThen_ok,Sem.run_pure]
theorem zB {b:Frame} {a:Act} {k:List Item} {cs:List Frame} {w w':World} {l:Nat} (hr:b.roundOf=some l) (h:(Instr.beginRound l).run P w= .ok () w'):
 step P (lone (CX b a (.beginRound::k)) cs w)= .next (lone (CX b a k) cs w'):=
 step_lone_go (by simp[stepG,stepG.exec,stepG.apply,CX,hr,h,Frame.finish])
theorem R7 {b:Frame} {a:Act} {c:Frame} {cs:List Frame} {w w':World} {l:Nat} {v:Value} (hk:b.kind= .normal) (hr:b.roundOf=some l) (h:(Instr.endRound l none).run P w= .ok v w'):
 step P (lone (CX b a []) (c::cs) w)= .next (lone (c.finish v) cs w'):=
 step_lone_go (by simp[stepG,stepG.exec,CX,hr,h,doReturn,hk])
theorem R6 {b:Frame} {a:Act} {k:List Item} {c:Frame} {cs:List Frame} {w w':World} {l:Nat} {v:Value} (hk:b.kind= .normal) (hr:b.roundOf=some l) (h:(Instr.endRound l (some .ret)).run P w= .ok v w'):
 step P (lone (CX b a (.code .ret::k)) (c::cs) w)= .next (lone (c.finish v) cs w'):=
 step_lone_go (by simp[stepG,stepG.exec,CX,hr,h,doReturn,hk])
theorem Ph {b:Frame} {a:Act} {k:List Item} {c:Frame} {cs:List Frame} {w w':World} {l id:Nat} {v:Value} (hk:b.kind= .normal) (hr:b.roundOf=some l) (he:exitTo id k=none)
 (h:(Instr.endRound l (some (.exit id))).run P w= .ok v w'):
 step P (lone (CX b a (.code (.exit id)::k)) (c::cs) w)= .next (lone (c.finish v) cs w'):=
 step_lone_go (by simp[stepG,stepG.exec,CX,hr,h,he,doReturn,hk])
theorem Nn {b:Frame} {t:Array Value} {k:List Item} (hn:nQ k) {c:Frame} {cs:List Frame} {w:World} {ch:List PanicEntry}:
 step P (lone (CF b ⟨t,[]⟩ k (.panicking ch)) (c::cs) w)= .next (lone (c.raise ch) cs w):=by
 refine step_lone_go ?_;have:(CF b ⟨t,[]⟩ k (.panicking ch)).catches P=false:=by
  unfold Frame.catches;split
  .next h1 h2=>exact absurd h2 (hn _ _ _ _ _)
  .rfl
 simp only[CF]at this;simp[stepG,Go.unwind,CF,this]
theorem T5 {w:World} {l:Nat} {L:Loop} (h:w.heap[l]?=some (.loop L)) (hs:L.state= .ready):(Instr.beginRound l).run P w= .ok () (World.CW w l (.loop {L with state:= .busy})):=by
 simp only[Instr.beginRound,Sem.run_bind,Ey h,Result.andThen_ok,Dn h (by simp),hs,Sem.run_pure]
theorem Ns {w:World} {l:Nat} {L:Loop} (h:w.heap[l]?=some (.loop L)) (jump:Option Code):
 (Instr.endRound l jump).run P w= .ok (.bool jump.isNone) (World.CW w l (.loop {L with state:=if jump.isNone then .ready else .done,pending:=jump})):=by
 simp only[Instr.endRound,Sem.run_bind,Ey h,Result.andThen_ok,Dn h (by simp),Sem.run_pure]
theorem T7 {ev:Ev} (fu:kO E P ev) {l:Nat} {args:List AV} {cr:CR} {C:Cx} {S:St} {w:World} {xs:Array Value} (h:nu ev l args S=some cr) (hg:W5 E C) (ha:Wc C args xs.toList) (hS:W2 C S w)
 (c:Frame) (cs:List Frame):∃f tmps ft body,(Instr.yield (C.pl l).Ci xs).run P w= .ok (.round (C.pl l).Ci f tmps ft body) w/\
  Returns P (lone (Frame.round (C.pl l).Ci f tmps ft body .normal) (c::cs) w) c cs C S w cr:=by
 unfold nu nr at h;split at h
 .next lp hl=>
  obtain⟨T,ir,h⟩:=Qa.1 h;obtain⟨hd,x,hx,hr⟩:=hS.live l _ hl;cases hr with
  | @loop _ L hs hpd htr nD hasg dw=>
  obtain⟨hlen,hT⟩:=HX ir htr ha;have hfold:(L.params.zip xs).foldl (fun tmps (p:Nat×Value)=>tmps.setIfInBounds p.1 p.2) L.tmps=(lp.params.zip xs.toList).foldl (fun t (p:Nat×Value)=>t.setIfInBounds p.1 p.2) L.tmps:=by
   rw[<-Array.foldl_toList,Array.toList_zip,nD]
  have Xn:xs.size=L.params.size:=by
   have:L.params.size=lp.params.length:=by rw[<-nD];simp
   rw[this,hlen];simp
  refine⟨L.fn,(lp.params.zip xs.toList).foldl (fun t (p:Nat×Value)=>t.setIfInBounds p.1 p.2) L.tmps,lp.assign,lp.body,?_,?_⟩
  .simp only[Instr.yield,Sem.run_bind,Ey hx,Result.andThen_ok,Xn,ne_eq,not_true_eq_false,if_false,Sem.run_pure,<-hasg,<-dw];rw[<-hfold]
  .generalize (lp.params.zip xs.toList).foldl (fun t (p:Nat×Value)=>t.setIfInBounds p.1 p.2) L.tmps=tmps at hT;have lk:(Frame.round (C.pl l).Ci L.fn tmps lp.assign lp.body .normal).kind= .normal:=rfl;have ig:(Frame.round (C.pl l).Ci L.fn tmps lp.assign lp.body .normal).roundOf=some (C.pl l).Ci:=rfl;have aN:Frame.round (C.pl l).Ci L.fn tmps lp.assign lp.body .normal=CX (Frame.round (C.pl l).Ci L.fn tmps lp.assign lp.body .normal) ⟨tmps,[]⟩ [.code lp.assign,.beginRound,.code lp.body]:=rfl;generalize Frame.round (C.pl l).Ci L.fn tmps lp.assign lp.body .normal=b at lk ig aN;have Zk:=fu lp.assign C S w ⟨lp.nt,[],none,some l⟩ T b ⟨tmps,[]⟩ [.beginRound,.code lp.body] (c::cs) hg hT ⟨.nil,.none (by simp[mr,tryRecover,lk]),.some hd ig⟩ hS;rw[<-aN]at Zk;generalize ev lp.assign ⟨lp.nt,[],none,some l⟩ T S=out at h Zk;unfold bL at h;split at h
   .next fr T1 s1=>
    obtain⟨r',dD,C1,a1,w1,cs1,t1,zC,hF1,lG,hrd1,hcs1,hend1⟩:=Zk _ rfl;simp only[Qn]at dD;subst dD;have:=hcs1.none rfl;subst this;simp only at lG hrd1 zC hF1 t1 hend1 hcs1;unfold iN at h;split at h
    .next sR mi=>
     split at h
     .next WT=>
      obtain⟨du,x1,hx1,hr1⟩:=t1.st.live l _ mi;cases hr1 with
      | @loop _ L1 Z5 hpd1 htr1 hps1 hasg1 hbody1=>
      have sS:C1.pl l=C.pl l:=t1.ext.pl l hd;have hbegin:=T5 (P:=P) hx1 (by rw[Z5,WT]);have t2:=El t1.st mi (.loop {sR with state:= .busy}) (.loop {L1 with state:= .busy}) (.loop rfl hpd1 htr1 hps1 hasg1 hbody1);have pc:Steps P (lone b (c::cs) w) (lone (CX b a1 [.code lp.body]) (c::cs) (World.CW w1 (C1.pl l).Ci (.loop {L1 with state:= .busy}))):=
       Steps.trans hend1 (.one (zB (by rw[sS];exact ig) hbegin))
      have vl:=fu lp.body C1 _ _ fr T1 b a1 [] (c::cs) (hg.mono t1.ext) zC hF1 t2.st;generalize ev lp.body fr T1 (s1.put l (some (.loop {sR with state:= .busy})))=out2 at h vl;unfold kA at h;split at h
      .next r=>
       split at h
       .next hdf=>
        obtain⟨r',dD,C2,a2,w2,cs2,t3,kN,hF2,hn2,hrd2,hcs2,ju⟩:=vl [r] rfl;simp only[Qn]at dD;subst dD;have hfp:fr.WR=none:=by
         have:=hcs1;generalize fr.WR=q at this;cases this with
         |same=>rfl
        have:=hcs2.none hfp;subst this;have t4:=(t1.trans t2).trans t3;have hpl2:C2.pl l=C.pl l:=t4.ext.pl l hd;have o5:a2.defers=[]:=by
         have:=hF2.defs;rw[hdf]at this;cases hd:a2.defers with
         |nil=>rfl
         |cons x l=>rw[hd]at this;cases this
        unfold iM at h;split at h
        .next fR yj=>
         obtain⟨qu,x2,hx2,qz⟩:=t4.st.live l _ yj;cases qz with
         | @loop _ L2 oZ hpd2 htr2 hps2 hasg2 hbody2=>
         rw[hpl2]at hx2;have fin:∀(jump:Option Code) (go:Bool),jump.isNone=go->Steps P (lone b (c::cs) w) (lone (c.finish (.bool go)) cs (World.CW w2 (C.pl l).Ci (.loop {L2 with state:=if jump.isNone then .ready else .done,pending:=jump})))->
          dY l r'.st fR jump go=some cr->Returns P (lone b (c::cs) w) c cs C S w cr:=by
          intro jump go hjg hsteps tp;unfold dY at tp;cases tp;have t5:=El t4.st yj (.loop {fR with state:=bif go then .ready else .done,pending:=jump}) (.loop {L2 with state:=if jump.isNone then .ready else .done,pending:=jump})
           (.loop (by rw[hjg];cases go<;>rfl) rfl htr2 hps2 hasg2 hbody2)
          rw[hpl2]at t5;exact⟨C2,_,_,hsteps,t4.trans t5,.bool go⟩
         have vn:=fun jump=>Ns (P:=P) hx2 jump;cases hex:r'.ex with
         |normal=>
          rw[hex]at h ju;exact fin none true U (pc.trans (Steps.trans ju (.one (R7 lk ig (vn none))))) h
         |ret=>
          rw[hex]at h ju;obtain⟨k2,jP⟩:=ju;exact fin (some .ret) false U (pc.trans (jP.trans (.one (R6 lk ig (vn _))))) h
         |exit id=>
          rw[hex]at h ju;obtain⟨k2,jP,hto⟩:=ju;exact fin (some (.exit id)) false U (pc.trans (jP.trans (.one (Ph lk ig (by rw[hto];rfl) (vn _))))) h
         |panic v=>
          rw[hex]at h ju;cases h;obtain⟨k2,x,jP,hv,hnc⟩:=ju;refine⟨C2,x,w2,pc.trans (jP.trans (.one ?_)),t4,hv⟩;have ea:({CX b a2 k2 with mode:= .panicking [{v:=x,recovered:=false}]}:Frame)=CF b ⟨a2.tmps,[]⟩ k2 (.panicking [{v:=x,recovered:=false}]):=by
           simp[CX,CF,o5]
          rw[ea];exact Nn hnc
        .cases h
       .cases h
      .cases h
     .cases h
    .cases h
   .cases h
 .cases h
theorem V7 (he:CV E P) {ev:Ev} (fu:kO E P ev) (Wi:Zi E P ev):Zj E P ev:=by
 intro g args cr C S w gx xs c cs h hg hv ha hS;unfold Yi at h;split at h
 .next f first cap=>
  cases hb:C7 E f with
  |false=>rw[hb]at h;cases h
  |true=>
  rw[hb]at h;simp only[cond_true]at h;cases hv with
  |func hf h1 h2=>
  rename_i fx cx
  left;refine⟨f,fx++xs++cx,?_,Wi f _ cr C S w _ c cs h hg (by simpa using(h1.append ha).append h2) hS⟩;simp only[Deferred.ofValue,Sem.run_bind,Sem.run_pure,Result.andThen_ok,invoke];exact D0 he hb _ w
 .next l=>
  cases hv with
  |func hf _ _=>exact absurd rfl (hf l)
  |yield hd=>
  right;obtain⟨f,tmps,ft,body,C8,Zx⟩:=T7 fu h hg ha hS c cs;refine⟨_,f,tmps,ft,body,?_,Zx⟩;simp only[Deferred.ofValue,Sem.run_bind,Sem.run_pure,Result.andThen_ok,invoke,Array.empty_append];exact C8
 .next name first=>
  cases hv with
  |func hf h1 h2=>
  rename_i fx cx
  have Za:=h1.append ha;split at h
  .next r rest heq=>
   rw[heq]at Za;obtain⟨p,hp,h⟩:=Qa.1 h;left;generalize hq:fx.toList++xs.toList=q at Za;cases Za with
   | @cons _ _ x _ ys oX cz=>
   obtain⟨zs,hz,hvz⟩:=GQ he hS oX cz hp;refine⟨p.1,zs,?_,Wi p.1 p.2 cr C S w zs c cs h hg hvz hS⟩;have sy:fx++xs=(x::ys).toArray:=by apply Array.ext';simp[hq]
   simp only[Deferred.ofValue,Sem.run_bind,Sem.run_pure,Result.andThen_ok,invoke,sy];have h0:(x::ys).toArray[0]?=some x:=by simp
   have h1:(x::ys).toArray.extract 1 (x::ys).toArray.size=ys.toArray:=by
    apply Array.ext';simp
   simp only[h0,h1];exact hz
  .cases h
 .cases h
end
section
variable {E : Env} {P : Program}
theorem LZ (f:FuncId) (tmps:Array Value) (params:Array Tmp) (ft body:Code) (w:World):
 (Instr.enterLoop f tmps params ft body none).run P w= .ok (w.heap.size+1,[{target:= .collected w.heap.size,args:= #[]}])
  (World.Wb (World.Wb w (.deferred (some []))) (.loop {state:= .ready,pending:=none,fn:=f,tmps,params,assign:=ft,body,defers:=w.heap.size})):=by
 simp[Instr.enterLoop,World.Wb];rfl
theorem zD {b:Frame} {a:Act} {k:List Item} {cs:List Frame} {w w':World} {f:Operand} {params:Array Tmp} {ft body:Code} {l:Nat} {mk:List Deferred} {g:FuncId} {ys:Array Value} (hr:b.roundOf=none)
 (h1:(Instr.enterLoop b.fn a.tmps params ft body none).run P w= .ok (l,mk) w')
 (h2:(do let d<-Deferred.ofValue (a.eval f) #[.func (.yield l) #[] #[]];invoke d.target d.args:Sem Next).run P w'= .ok (.enter g ys) w'):
 step P (lone (CX b a (.code (.rangeFunc f params ft body)::k)) cs w)= .next (lone (Frame.enter P g ys .normal) (CX b ⟨a.tmps,mk++a.defers⟩ (.inRangeFunc l::k)::cs) w'):=by
 refine step_lone_go ?_;have e1:=M8 b ⟨a.tmps,mk++a.defers⟩ (.inRangeFunc l::k);have e2:(⟨a.tmps,mk++a.defers⟩:Act).eval=a.eval:=by funext x;cases x<;>rfl
 rw[e2]at e1;simp only[CX,hr]at e1;simp only[stepG,stepG.exec,CX,hr,Sem.runT_eq,h1,GStep.bare_after,stepG.apply,resolve,e1];have e3:Array.map a.eval #[Operand.const (.func (.yield l) #[] #[])]= #[.func (.yield l) #[] #[]]:=by simp[Act.eval]
 simp only[e3,h2,if_true];rfl
theorem Pj {w:World} {l:Nat} {L:Loop} (h:w.heap[l]?=some (.loop L)) (hs:L.state≠ .busy):(Instr.endLoop l).run P w= .ok L.pending (World.CW w l (.loop {L with state:= .exhausted})):=by
 have hs':(L.state== .busy)=false:=by simpa using hs
 simp only[Instr.endLoop,Sem.run_bind,Ey h,Result.andThen_ok,hs',Bool.false_eq_true,if_false,Dn h (by simp),Sem.run_pure]
theorem R8 {b:Frame} {a:Act} {k:List Item} {cs:List Frame} {w w':World} {l:Nat} {jump:Option Code} (h:(Instr.endLoop l).run P w= .ok jump w'):
 step P (lone (CX b a (.endRangeFunc l::k)) cs w)= .next (lone (CX b a ((jump.map Item.code).toList++k)) cs w'):=
 step_lone_go (by simp[stepG,stepG.exec,CX,h])
theorem IN (b:Frame) (a:Act) (l:Nat) (k:List Item) (v:Value):(CX b a (.inRangeFunc l::k)).finish v=CX b a (.endRangeFunc l::k):=rfl
theorem IP {l Ci:Nat} {fr cV:Fr} {T:Tr AV} {b:Frame} {a2:Act} {k:List Item} {cs:List Frame} {C3:Cx} {S3:St} {w3:World} {m:Machine} (hS:W2 C3 S3 w3) (hF:mu C3 cV b a2 cs) (hT:TR C3 cV.nt T a2.tmps)
 (XV:(C3.pl l).Ci=Ci) (hn:cV.nt=fr.nt) (hr:cV.round=fr.round) (hp:cV.WR=fr.WR) (WT:Steps P m (lone (CX b a2 (.endRangeFunc Ci::k)) cs w3)):
 Good P C3 S3 w3 fr b k cs m (Y5 l cV T S3 (S3.heap.get l)):=by
 unfold Y5;split
 .next lp hl=>
  obtain⟨hd,x,hx,hrr⟩:=hS.live _ _ hl;cases hrr with
  | @loop _ L3 aX hpd3 htr3 hps3 hasg3 hbody3=>
  split
  .exact A1
  .next uG=>
   have hnb':L3.state≠ .busy:=by rw[aX];exact fun h=>uG h
   have t4:=El hS hl (.loop {lp with state:= .exhausted}) (.loop {L3 with state:= .exhausted}) (.loop rfl hpd3 htr3 hps3 hasg3 hbody3);rw[XV]at hx t4;have ZM:=Pj (P:=P) hx hnb';have pc:=WT.trans (.one (R8 (P:=P) (b:=b) (a:=a2) (k:=k) (cs:=cs) ZM));refine Bj t4 ?_;have one:∀(e:Ex),Ends P b k cs C3 m e a2 (World.CW w3 Ci (.loop {L3 with state:= .exhausted}))->
    Good P C3 (S3.put l (some (.loop {lp with state:= .exhausted}))) (World.CW w3 Ci (.loop {L3 with state:= .exhausted})) fr b k cs m
     (.one ⟨e,cV,T,S3.put l (some (.loop {lp with state:= .exhausted}))⟩):=by
    intro e he l hl;cases hl;refine⟨_,Qn.2 U,C3,_,_,cs,Cu.refl t4.st,hT,hF,hn,hr,?_,he⟩;show tu fr.WR cV.WR cs cs;rw[hp];exact .same
   have key:∀jump,lp.pending=jump->Steps P m (lone (CX b a2 ((jump.map Item.code).toList++k)) cs (World.CW w3 Ci (.loop {L3 with state:= .exhausted}))):=by
    intro jump hj;rw[<-hj,<-hpd3];exact pc
   unfold cq;split
   .next hp=>exact one .normal (key _ hp)
   .next hp=>exact one .ret ⟨k,key _ hp⟩
   .next id hp=>exact one (.exit id) ⟨k,key _ hp,rfl⟩
   .exact A1
 .exact A1
theorem N3 {l Ci:Nat} {fr cV:Fr} {T:Tr AV} {b:Frame} {a2:Act} {k:List Item} {cs:List Frame} {C2:Cx} {S2:St} {w2:World} {m:Machine} (hF:mu C2 cV b a2 cs) (hT:TR C2 cV.nt T a2.tmps)
 (hd:C2.D l) (XV:(C2.pl l).Ci=Ci) (hn:cV.nt=fr.nt) (hr:cV.round=fr.round) (hp:cV.WR=fr.WR) {cr:CR} (h:Returns P m (CX b a2 (.inRangeFunc Ci::k)) cs C2 S2 w2 cr):
 Good P C2 S2 w2 fr b k cs m (Xy cV T S2 (fun _ s3=>Y5 l cV T s3 (s3.heap.get l)) (some cr)):=by
 cases cr with
 |same v=>
  obtain⟨C3,x,w3,hs,t3,_⟩:=h;rw[IN]at hs;exact Bj t3 (IP t3.st (hF.mono t3.ext) (hT.mono t3.ext) (by rw[t3.ext.pl _ hd];exact XV) hn hr hp hs)
 |val v S3=>
  obtain⟨C3,x,w3,hs,t3,_⟩:=h;rw[IN]at hs;exact Bj t3 (IP t3.st (hF.mono t3.ext) (hT.mono t3.ext) (by rw[t3.ext.pl _ hd];exact XV) hn hr hp hs)
 |WR v S3=>
  obtain⟨C3,x,w3,hs,t3,aw⟩:=h;rw[N4]at hs;refine Bj t3 ?_;intro l hl;cases hl;refine⟨_,Qn.2 U,C3,a2,w3,cs,Cu.refl t3.st,hT.mono t3.ext,hF.mono t3.ext,hn,hr,?_,_,x,hs,aw,by intro _ _ _ _ _ h;cases h⟩;show tu fr.WR cV.WR cs cs;rw[hp];exact .same
theorem N2 {C:Cx} {S:St} {w:World} (hS:W2 C S w) {nt:Nat} {T:Tr AV} {a:Act} (hT:TR C nt T a.tmps) (fn:FuncId) (params:Array Tmp) (ft body:Code):
 ∃C2,Cu C S w C2 ((S.alloc (.defs true)).alloc (.loop {state:= .ready,pending:=none,fn:=0,nt:=nt,tmps:=T,params:=params.toList,assign:=ft,body}))
  (World.Wb (World.Wb w (.deferred (some []))) (.loop {state:= .ready,pending:=none,fn,tmps:=a.tmps,params,assign:=ft,body,defers:=w.heap.size}))/\
  C2.D S.next/\(C2.pl S.next).Ci=w.heap.size/\C2.D (S.alloc (.defs true)).next/\(C2.pl (S.alloc (.defs true)).next).Ci=w.heap.size+1:=by
 have t1:=Cu.alloc hS (.defs true) (.deferred (some [])) 0 .defs;have hTr1:=hT.mono t1.ext;have e2:=Fg t1.st 0;have t2:=Cu.alloc t1.st (.loop {state:= .ready,pending:=none,fn:=0,nt:=nt,tmps:=T,params:=params.toList,assign:=ft,body})
  (.loop {state:= .ready,pending:=none,fn,tmps:=a.tmps,params,assign:=ft,body,defers:=w.heap.size}) 0 (.loop rfl rfl (hTr1.mono e2) rfl rfl rfl)
 refine⟨_,t1.trans t2,.inl (.inr U),?_,.inr U,?_⟩
 .have:S.next≠(S.alloc (.defs true)).next:=by show S.next≠S.next+1;omega
  simp[Cx.Cy,this]
 .simp[Cx.Cy,World.Wb]
theorem Ml (he:CV E P) {ev:Ev} (Wi:Zi E P ev) {f:Operand} {params:Array Tmp} {ft body:Code}:
 YB E P (.rangeFunc f params ft body) (fun fr T s=>ct E ev params.toList ft body fr T s (Cg E f T)):=by
 intro C S w fr T b a k cs hg hT hF hS;show Good P C S w fr b k cs _ (ct E ev params.toList ft body fr T S (Cg E f T));cases hof:Cg E f T with
 |none=>exact A1
 |some v=>
 have hTa:TR C a.tmps.size T a.tmps:=⟨rfl,hT.2⟩
 have hv:=Ak hg hTa hof;unfold ct iQ;simp only;split
 .next g first cap=>
  obtain⟨nt,defers,WR,round⟩:=fr;cases round with
  |some l=>exact A1
  |none=>
  simp only;have ig:b.roundOf=none:=by have:=hF.round;cases this with|none h=>exact h
  cases hb:C7 E g with
  |false=>exact A1
  |true=>
  simp only[cond_true];generalize hq:a.eval f=q at hv;cases hv with
  |func nO h1 h2=>
  rename_i fx cx
  obtain⟨C2,t12,hD0,hpl0,hD1,sS⟩:=N2 hS hT b.fn params ft body;have hlen:=LZ (P:=P) b.fn a.tmps params ft body w;generalize (S.alloc (.defs true)).next=l at hD1 sS|-;generalize World.Wb (World.Wb w (.deferred (some []))) (.loop {state:= .ready,pending:=none,fn:=b.fn,tmps:=a.tmps,params,assign:=ft,body,defers:=w.heap.size})=w2 at t12 hlen;generalize (S.alloc (.defs true)).alloc (.loop {state:= .ready,pending:=none,fn:=0,nt:=nt,tmps:=T,params:=params.toList,assign:=ft,body})=S2 at t12|-;generalize w.heap.size+1=Ci at sS hlen;have hyield:VR C2 (.func (.yield l) [] []) (.func (.yield Ci) #[] #[]):=by
   have:=VR.yield (C:=C2) hD1;rw[sS]at this;exact this
  have XY:Wc C2 (first++[.func (.yield l) [] []]++cap) (fx++ #[Value.func (.yield Ci) #[] #[]]++cx).toList:=by
   simpa using((h1.mono t12.ext).append (.one hyield)).append (h2.mono t12.ext)
  have hinv:(do let d<-Deferred.ofValue (a.eval f) #[Value.func (.yield Ci) #[] #[]];invoke d.target d.args:Sem Next).run P w2= .ok (.enter g (fx++ #[Value.func (.yield Ci) #[] #[]]++cx)) w2:=by
   rw[hq];simp only[Deferred.ofValue,Sem.run_bind,Sem.run_pure,Result.andThen_ok,invoke];exact D0 he hb _ w2
  have kP:=zD (P:=P) (b:=b) (a:=a) (k:=k) (cs:=cs) (f:=f) ig hlen hinv;have hF2:mu C2 ⟨nt, {target:= .collected S.next,args:=[]}::defers,WR,none⟩ b ⟨a.tmps,[{target:= .collected w.heap.size,args:= #[]}]++a.defers⟩ cs:=by
   refine⟨.cons ?_ (hF.defs.mono t12.ext),(hF.mono t12.ext).WR,(hF.mono t12.ext).round⟩;have:=oP.collected (C:=C2) hD0;rw[hpl0]at this;exact this
  cases lE:WA E ev g (first++[.func (.yield l) [] []]++cap) S2 with
  |none=>exact A1
  |some cr=>
   have Zx:=Wi g _ cr C2 S2 w2 _ (CX b ⟨a.tmps,[{target:= .collected w.heap.size,args:= #[]}]++a.defers⟩ (.inRangeFunc Ci::k)) cs lE (hg.mono t12.ext) XY t12.st;exact Bj t12 (Good.steps (.one kP) (N3 hF2 (hT.mono t12.ext) hD1 sS U U U Zx))
 .exact A1
end
def nZ (E:Env) (P:Program):Prop:=
 ∀(ev:Ev),Zi E P ev->Zj E P ev->∀(id:Nat) (ops:Array Oper),YB E P (.region id ops true) ((n7 E ops.toList true).run ev)
section
variable {E : Env} {P : Program}
theorem Fs (he:CV E P) (hx:ZO E P) (hd:nZ E P) {ev:Ev} (fu:kO E P ev) (Wi:Zi E P ev) (W3:Zj E P ev):∀c,YB E P c ((XO E c).run ev)
 | .skip=>TY fun _ _ _ _ _=>s_skip
 | .label _=>TY fun _ _ _ _ _=>zj
 | .region id ops true=>hd ev Wi W3 id ops
 | .region id ops false=>TL he hx Wi W3
 | .seq a b=>ok_seq (Fs he hx hd fu Wi W3 a) (Fs he hx hd fu Wi W3 b)
 | .cond _ a b=>zp (Fs he hx hd fu Wi W3 a) (Fs he hx hd fu Wi W3 b)
 | .block _ body=>vc (Fs he hx hd fu Wi W3 body)
 | .loop body=>zq (Fs he hx hd fu Wi W3 body) (fu (.loop body))
 | .scope body=>vd (Fs he hx hd fu Wi W3 body)
 | .exit _=>zr
 | .ret=>ok_ret
 | .rangeFunc _ _ _ _=>Ml he Wi
 | .goto _=>Mj
 | .refuse _=>Mj
theorem rC (he:CV E P) (hx:ZO E P) (hd:nZ E P) (iq:fQ E P) (en:E.merge=true->∀ev,kO E P ev->jQ E P ev):∀n,kO E P (ev E n)
 |0=>fun _=>Mj
 |n+1=>fun c=>by
  have ih:=rC he hx hd iq en n;have Wi:=Rc he iq ih (fun h=>en h _ ih);exact Fs he hx hd ih Wi (V7 he ih Wi) c
theorem V6 (he:CV E P) (hx:ZO E P) (hd:nZ E P) (iq:fQ E P) (en:E.merge=true->∀ev,kO E P ev->jQ E P ev) (n:Nat):Zi E P (ev E n):=
 Rc he iq (rC he hx hd iq en n) (fun h=>en h _ (rC he hx hd iq en n))
end
end Am
