/- The abstract machine: its control and its calls are the model's. -/
import Derived.Test.YtpihdbhocgcbpaaGreatDoorAmC
import Derived.Calls
import Derived.Lib.UnsafeStr
import Derived.Lib.Bytealg
import Derived.Laws.Externs
import Derived.Laws.AppendOwn
import Derived.KernelRfl
set_option linter.unusedSectionVars false
set_option linter.unusedVariables false
set_option linter.unusedSimpArgs false
namespace Am
open Go
def CZ (b:Frame) (a:Act) (todo:List Item):Frame:= {fn:=b.fn,tmps:=a.tmps,todo,defers:=a.defers,mode:= .run,kind:=b.kind,roundOf:=b.roundOf}
theorem MH (b:Frame) (a:Act) (todo:List Item):(CZ b a todo).eval=a.eval:=by
 funext x;cases x<;>rfl
section
variable {P : Program} {b : Frame} {a : Act} {k : List Item} {cs : List Frame} {w : World}
theorem Aae:step P (lone (CZ b a (.code .skip::k)) cs w)= .next (lone (CZ b a k) cs w):=step_lone_go (by simp[stepG,stepG.exec,CZ])
theorem wk {l:Nat}:step P (lone (CZ b a (.code (.label l)::k)) cs w)= .next (lone (CZ b a k) cs w):=step_lone_go (by simp[stepG,stepG.exec,CZ])
theorem Tt {id:Nat}:step P (lone (CZ b a (.inBlock id::k)) cs w)= .next (lone (CZ b a k) cs w):=step_lone_go (by simp[stepG,stepG.exec,CZ])
theorem Ts {c:Code}:step P (lone (CZ b a (.inScope c::k)) cs w)= .next (lone (CZ b a k) cs w):=step_lone_go (by simp[stepG,stepG.exec,CZ])
theorem s_seq {x y:Code}:step P (lone (CZ b a (.code (.seq x y)::k)) cs w)= .next (lone (CZ b a (.code x:: .code y::k)) cs w):=step_lone_go (by simp[stepG,stepG.exec,CZ])
theorem Aaf {c:Operand} {x y:Code} {t:Bool} (h:a.eval c= .bool t):
 step P (lone (CZ b a (.code (.cond c x y)::k)) cs w)= .next (lone (CZ b a (.code (if t then x else y)::k)) cs w):=
 step_lone_go (by
  have:=congrFun (MH b a (.code (.cond c x y)::k)) c;simp only[CZ]at this;simp[stepG,stepG.exec,CZ,this,h])
theorem wm {id:Nat} {c:Code}:step P (lone (CZ b a (.code (.block id c)::k)) cs w)= .next (lone (CZ b a (.code c:: .inBlock id::k)) cs w):=step_lone_go (by simp[stepG,stepG.exec,CZ])
theorem rI {c:Code}:step P (lone (CZ b a (.code (.loop c)::k)) cs w)= .next (lone (CZ b a (.code c:: .inLoop c::k)) cs w):=step_lone_go (by simp[stepG,stepG.exec,CZ])
theorem rJ {c:Code}:step P (lone (CZ b a (.inLoop c::k)) cs w)= .next (lone (CZ b a (.code c:: .inLoop c::k)) cs w):=step_lone_go (by simp[stepG,stepG.exec,CZ])
theorem wo {c:Code}:step P (lone (CZ b a (.code (.scope c)::k)) cs w)= .next (lone (CZ b a (.code c:: .inScope c::k)) cs w):=step_lone_go (by simp[stepG,stepG.exec,CZ])
theorem Aag {id:Nat} {k':List Item} (h:exitTo id k=some k'):step P (lone (CZ b a (.code (.exit id)::k)) cs w)= .next (lone (CZ b a k') cs w):=
 step_lone_go (by simp[stepG,stepG.exec,CZ,h])
theorem rK {id:Nat} {ops:Array Oper}:step P (lone (CZ b a (.code (.region id ops false)::k)) cs w)= .next (lone (CZ b a (.inRegion ops (List.range ops.size)::k)) cs w):=
 step_lone_go (by simp[stepG,stepG.exec,CZ])
theorem HL {id:Nat} {ops:Array Oper}:step P (lone (CZ b a (.code (.region id ops true)::k)) cs w)=
 .next (lone (CZ b a (.inRegion ops (Region.schedule (P.follows .mixedOrders) ops (w.tape w.drawn (.order b.fn id)))::k)) cs {w with drawn:=w.drawn+1}):=
 step_lone_go (by simp[stepG,stepG.exec,CZ,choose,Sem.run,Question.forced,Question.cut])
theorem IS {ops:Array Oper}:step P (lone (CZ b a (.inRegion ops []::k)) cs w)= .next (lone (CZ b a k) cs w):=step_lone_go (by simp[stepG,stepG.exec,CZ])
theorem DK (b:Frame) (a:Act) (ops:Array Oper) (i:Nat) (rest:List Nat) (k:List Item) (v:Value):
 (CZ b a (.inRegion ops (i::rest)::k)).finish v=CZ b (a.put ((ops[i]?).bind (·.dst)) v) (.inRegion ops rest::k):=by
 cases h:(ops[i]?).bind (·.dst)<;>simp[Frame.finish,CZ,Act.put,h]
theorem Nr {ops:Array Oper} {i:Nat} {rest:List Nat} (h:((ops[i]?).map (Region.wanted · (yielded ops a.tmps))).getD false=false):
 step P (lone (CZ b a (.inRegion ops (i::rest)::k)) cs w)= .next (lone (CZ b (a.put ((ops[i]?).bind (·.dst)) undef) (.inRegion ops rest::k)) cs w):=by
 rw[←DK];exact step_lone_go (by
  have h':=h;simp only[CZ]at*;simp[stepG,stepG.exec,h'])
theorem mu {ops:Array Oper} {i:Nat} {rest:List Nat} {o:Oper} (ho:ops[i]?=some o) (hw:Region.wanted o (yielded ops a.tmps)=true) (hr:b.roundOf=none∨∀c,o.op≠ .defer c):
 stepG P true {frame:=CZ b a (.inRegion ops (i::rest)::k),callers:=cs,status:= .running,dying:=none} w=
  stepG.apply P true (CZ b a (.inRegion ops (i::rest)::k)) cs none (execOp a.eval o) w:=by
 have he:=MH b a (.inRegion ops (i::rest)::k);simp only[CZ]at he;rcases hr with hr|hr
 ·rw[hr]at he;simp[stepG,stepG.exec,stepG.oper,Frame.oper?,CZ,ho,hw,he,hr]
 ·simp only[stepG,stepG.exec,stepG.oper,Frame.oper?,CZ,ho,hw,he];cases hro:b.roundOf with
  |none=>simp[hw]
  |some l=>
   rw[hro]at he;cases XX:o.op<;>first|exact absurd XX (hr _)|simp[hw,he]
section op
variable {ops : Array Oper} {i : Nat} {rest : List Nat} {o : Oper} {w' : World} (ho : ops[i]? = some o) (hw : Region.wanted o (yielded ops a.tmps) = true) (hr : b.roundOf = none ∨ ∀ c, o.op ≠ .defer c)
include ho hw hr
theorem Dp {v:Value} (h:(execOp a.eval o).run P w= .ok (.value v) w'):
 step P (lone (CZ b a (.inRegion ops (i::rest)::k)) cs w)= .next (lone (CZ b (a.put o.dst v) (.inRegion ops rest::k)) cs w'):=by
 have Yn:=DK b a ops i rest k v;rw[ho]at Yn;refine step_lone_go ?_;rw[mu ho hw hr];simp only[Qe]at Yn;rw[←Yn];simp[stepG.apply,h]
theorem Ns (h:(execOp a.eval o).run P w= .ok .skip w'):
 step P (lone (CZ b a (.inRegion ops (i::rest)::k)) cs w)= .next (lone (CZ b (a.put o.dst undef) (.inRegion ops rest::k)) cs w'):=by
 have Yn:=DK b a ops i rest k undef;rw[ho]at Yn;refine step_lone_go ?_;rw[mu ho hw hr];simp only[Qe]at Yn;rw[←Yn];simp[stepG.apply,h]
theorem I3 {f:FuncId} {args:Array Value} (h:(execOp a.eval o).run P w= .ok (.enter f args) w'):
 step P (lone (CZ b a (.inRegion ops (i::rest)::k)) cs w)= .next (lone (Frame.enter P f args .normal) (CZ b a (.inRegion ops (i::rest)::k)::cs) w'):=by
 refine step_lone_go ?_;rw[mu ho hw hr];simp[stepG.apply,h,CZ]
theorem Pe {l:Nat} {f:FuncId} {tmps:Array Value} {dN body:Code} (h:(execOp a.eval o).run P w= .ok (.round l f tmps dN body) w'):
 step P (lone (CZ b a (.inRegion ops (i::rest)::k)) cs w)= .next (lone (Frame.round l f tmps dN body .normal) (CZ b a (.inRegion ops (i::rest)::k)::cs) w'):=by
 refine step_lone_go ?_;rw[mu ho hw hr];simp[stepG.apply,h,CZ]
theorem wq {d:Deferred} (h:(execOp a.eval o).run P w= .ok (.defer d) w'):
 step P (lone (CZ b a (.inRegion ops (i::rest)::k)) cs w)= .next (lone (CZ b ({a with defers:=d::a.defers}.put o.dst undef) (.inRegion ops rest::k)) cs w'):=by
 have Yn:=DK b {a with defers:=d::a.defers} ops i rest k undef;rw[ho]at Yn;simp only[Qe]at Yn;refine step_lone_go ?_;rw[mu ho hw hr,←Yn];simp[stepG.apply,h,CZ]
theorem wu {v:Value} (h:(execOp a.eval o).run P w= .halt (.panic v) w'):
 step P (lone (CZ b a (.inRegion ops (i::rest)::k)) cs w)=
  .next (lone {CZ b a (.inRegion ops (i::rest)::k)with mode:= .panicking [{v,recovered:=false}]} cs w'):=by
 refine step_lone_go ?_;rw[mu ho hw hr];simp[stepG.apply,h,CZ,Frame.raise]
theorem KX (h:(execOp a.eval o).run P w= .ok .recover w') (hro:b.roundOf=none) (ht:tryRecover (CZ b a (.inRegion ops (i::rest)::k)) cs=none):
 step P (lone (CZ b a (.inRegion ops (i::rest)::k)) cs w)= .next (lone (CZ b (a.put o.dst .nilIface) (.inRegion ops rest::k)) cs w'):=by
 have Yn:=DK b a ops i rest k .nilIface;rw[ho]at Yn;simp only[Qe]at Yn;refine step_lone_go ?_;rw[mu ho hw hr,←Yn];have:(CZ b a (.inRegion ops (i::rest)::k)).roundOf=none:=hro;simp[stepG.apply,h,this,ht]
theorem KW {v:Value} {XS:List Frame} (h:(execOp a.eval o).run P w= .ok .recover w') (hro:b.roundOf=none) (ht:tryRecover (CZ b a (.inRegion ops (i::rest)::k)) cs=some (v,XS)):
 step P (lone (CZ b a (.inRegion ops (i::rest)::k)) cs w)= .next (lone (CZ b (a.put o.dst v) (.inRegion ops rest::k)) XS w'):=by
 have Yn:=DK b a ops i rest k v;rw[ho]at Yn;simp only[Qe]at Yn;refine step_lone_go ?_;rw[mu ho hw hr,←Yn];have:(CZ b a (.inRegion ops (i::rest)::k)).roundOf=none:=hro;simp[stepG.apply,h,this,ht]
end op
end
def jT (b:Frame) (cs:List Frame):Prop:=tryRecover b cs=none
def mark:List Frame→List Frame
 |c::rest=> {c with mode:=match c.mode with| .panicking (e::l)=> .panicking ({e with recovered:=true}::l)|m=>m}::rest
 | []=>[]
inductive gz (C:Cx):List dX→List Deferred→Prop where
 |nil:gz C [] []
 |cons {d:dX} {x:Deferred} {l:List dX} {r:List Deferred} (h:mi C d x) (t:gz C l r):gz C (d::l) (x::r)
theorem mi.mono {C C':Cx} (e:Ext C C') {d:dX} {x:Deferred} (h:mi C d x):mi C' d x:=by
 cases h with
 |fn hf ha hb=>exact .fn hf (ha.mono e) (hb.mono e)
 |collected hd=>rw[←e.pl _ hd];exact .collected (e.D _ hd)
theorem gz.mono {C C':Cx} (e:Ext C C') {d:List dX} {x:List Deferred} (h:gz C d x):gz C' d x:=by
 induction h with
 |nil=>exact .nil
 |cons h _ ih=>exact .cons (h.mono e) ih
inductive rL (C:Cx) (b:Frame) (cs:List Frame):Option AV→Prop where
 |none (h:jT b cs):rL C b cs none
 |some {v:AV} {x:Value} {c:Frame} {rest:List Frame} (hk:b.kind= .deferred) (VX:cs=c::rest) (hm:c.mode= .panicking [{v:=x,recovered:=false}]) (hv:VR C v x):rL C b cs (some v)
inductive n7 (C:Cx) (b:Frame):Option Nat→Prop where
 |none (h:b.roundOf=none):n7 C b none
 |some {l:Nat} (hd:C.D l) (h:b.roundOf=some (C.pl l).Cn):n7 C b (some l)
structure jU (C:Cx) (fr:Fr) (b:Frame) (a:Act) (cs:List Frame):Prop where
 defs:gz C fr.defers a.defers
 WD:rL C b cs fr.WD
 round:n7 C b fr.round
theorem jU.mono {C C':Cx} (e:Ext C C') {fr:Fr} {b:Frame} {a:Act} {cs:List Frame} (h:jU C fr b a cs):jU C' fr b a cs:=by
 refine⟨h.defs.mono e,?_,?_⟩
 ·have:=h.WD;generalize fr.WD=p at this;cases this with
  |none h=>exact .none h
  |some hk VX hm hv=>exact .some hk VX hm (hv.mono e)
 ·have:=h.round;generalize fr.round=p at this;cases this with
  |none h=>exact .none h
  |some hd h=>exact .some (e.D _ hd) (by rw[h,e.pl _ hd])
inductive pU:Option AV→Option AV→List Frame→List Frame→Prop where
 |same {p:Option AV} {cs:List Frame}:pU p p cs cs
 |py {v:AV} {cs:List Frame}:pU (some v) none cs (mark cs)
theorem pU.trans {p q r:Option AV} {a b c:List Frame} (h:pU p q a b) (g:pU q r b c):pU p r a c:=by
 cases h with
 |same=>exact g
 |py=>
  generalize hq:(none:Option AV)=q' at g;cases g with
  |same=>subst hq;exact .py
  |py=>cases hq
def la (k:List Item):Prop:=∀d wr r s k',k≠ .call d wr r s::k'
def Ends (P:Program) (b:Frame) (k:List Item) (cs:List Frame) (C:Cx) (m:Machine):Ex→Act→World→Prop
 | .normal,a,w=>Steps P m (lone (CZ b a k) cs w)
 | .exit id,a,w=>∃k2,Steps P m (lone (CZ b a (.code (.exit id)::k2)) cs w)∧exitTo id k2=exitTo id k
 | .ret,a,w=>∃k2,Steps P m (lone (CZ b a (.code .ret::k2)) cs w)
 | .panic v,a,w=>∃k2 x,Steps P m (lone {CZ b a k2 with mode:= .panicking [{v:=x,recovered:=false}]} cs w)∧VR C v x∧la k2
theorem Ends.steps {P:Program} {b:Frame} {k:List Item} {cs:List Frame} {C:Cx} {m m':Machine} (hs:Steps P m m') {e:Ex} {a:Act} {w:World} (h:Ends P b k cs C m' e a w):Ends P b k cs C m e a w:=by
 cases e with
 |normal=>exact hs.trans h
 |exit id=>obtain⟨k2,h1,h2⟩:=h;exact⟨k2,hs.trans h1,h2⟩
 |ret=>obtain⟨k2,h1⟩:=h;exact⟨k2,hs.trans h1⟩
 |panic v=>obtain⟨k2,x,h1,h2⟩:=h;exact⟨k2,x,hs.trans h1,h2⟩
def gf:Out→Option (List Z2)
 | .stuck=>none
 | .one r=>some [r]
 | .many l=>some l
def Good (P:Program) (C:Cx) (S:St) (w:World) (fr:Fr) (b:Frame) (k:List Item) (cs:List Frame) (m:Machine) (out:Out):Prop:=
 ∀l,gf out=some l→∃r∈l,∃C' a' w' XS,Cv C S w C' r.st w'∧TR C' r.fr.nt r.T a'.tmps∧jU C' r.fr b a' XS∧r.fr.nt=fr.nt∧r.fr.round=fr.round∧
  pU fr.WD r.fr.WD cs XS∧Ends P b k XS C' m r.ex a' w'
theorem AE {P:Program} {C:Cx} {S:St} {w:World} {fr:Fr} {b:Frame} {k:List Item} {cs:List Frame} {m:Machine}:Good P C S w fr b k cs m .stuck:=fun _ h=>by cases h
theorem Good.steps {P:Program} {C:Cx} {S:St} {w:World} {fr:Fr} {b:Frame} {k:List Item} {cs:List Frame} {m m':Machine} {out:Out} (hs:Steps P m m') (h:Good P C S w fr b k cs m' out):
 Good P C S w fr b k cs m out:=fun l hl=>
 let⟨r,hr,C',a',w',XS,h1,h2,h3,h4,h5,h6,h7⟩:=h l hl;⟨r,hr,C',a',w',XS,h1,h2,h3,h4,h5,h6,h7.steps hs⟩
def Yj (E:Env) (P:Program) (c:Code) (run:qw):Prop:=
 ∀(C:Cx) (S:St) (w:World) (fr:Fr) (T:Tr AV) (b:Frame) (a:Act) (k:List Item) (cs:List Frame),Wg E C→TR C fr.nt T a.tmps→jU C fr b a cs→Wn C S w→
  Good P C S w fr b k cs (lone (CZ b a (.code c::k)) cs w) (run fr T S)
theorem G7 {k:Z2→Out}:∀ {l:List Z2} {y:List Z2},Out.ah k l=some y→∀r∈l,∃l',gf (k r)=some l'∧∀x∈l',x∈y
 |a::l,y,h,r,hr=>by
  simp only[Out.ah]at h;cases ha:k a with
  |stuck=>rw[ha]at h;cases h
  |one x=>
   rw[ha]at h;cases hj:Out.ah k l with
   |none=>rw[hj]at h;cases h
   |some z=>
    rw[hj]at h;cases h;rcases Qk.1 hr with rfl|hr
    ·exact⟨[x],by rw[ha];rfl,fun q hq=>by simp at hq;subst hq;exact Qh ..⟩
    ·obtain⟨l',h1,h2⟩:=G7 hj r hr;exact⟨l',h1,fun q hq=>Qg _ (h2 q hq)⟩
  |many xs=>
   rw[ha]at h;cases hj:Out.ah k l with
   |none=>rw[hj]at h;cases h
   |some z=>
    rw[hj]at h;cases h;rcases Qk.1 hr with rfl|hr
    ·exact⟨xs,by rw[ha];rfl,fun q hq=>List.mem_append_left _ hq⟩
    ·obtain⟨l',h1,h2⟩:=G7 hj r hr;exact⟨l',h1,fun q hq=>List.mem_append_right _ (h2 q hq)⟩
theorem SY {o:Out} {k:Z2→Out} {l:List Z2} (h:gf (o.then k)=some l):∃l0,gf o=some l0∧∀r∈l0,∃l',gf (k r)=some l'∧∀x∈l',x∈l:=by
 cases o with
 |stuck=>cases h
 |one r=>exact⟨[r],rfl,fun q hq=>by simp at hq;subst hq;exact⟨l,h,fun x hx=>hx⟩⟩
 |many xs=>
  refine⟨xs,rfl,?_⟩;unfold Out.then at h;simp only at h;cases hj:Out.ah k xs with
  |none=>rw[hj]at h;cases h
  |some y=>
   rw[hj]at h;have:y=l:=by simpa[Out.ofList,gf]using h
   subst this;exact G7 hj
theorem Good.then {E:Env} {P:Program} {C:Cx} {S:St} {w:World} {fr:Fr} {b:Frame} {k k0:List Item} {cs:List Frame} {m:Machine} {out:Out} {kf:Z2→Out} (hg:Wg E C)
 (h:Good P C S w fr b k0 cs m out)
 (hk:∀(r:Z2) (C':Cx) (a':Act) (w':World) (XS:List Frame) (m':Machine),Wg E C'→Wn C' r.st w'→TR C' r.fr.nt r.T a'.tmps→jU C' r.fr b a' XS→Ends P b k0 XS C' m' r.ex a' w'→
  Good P C' r.st w' r.fr b k XS m' (kf r)):Good P C S w fr b k cs m (out.then kf):=by
 intro l hl;obtain⟨l0,h0,h1⟩:=SY hl;obtain⟨r,hr,C',a',w',XS,t,hT,hF,hn,dO,VX,he⟩:=h l0 h0;obtain⟨l',gK,Zk⟩:=h1 r hr;obtain⟨r2,n8,C2,a2,w2,cs2,t2,wv,hF2,mv,hrd2,Aah,he2⟩:=hk r C' a' w' XS m (hg.mono t.ext) t.st hT hF he l' gK;exact⟨r2,Zk r2 n8,C2,a2,w2,cs2,t.trans t2,wv,hF2,mv.trans hn,hrd2.trans dO,VX.trans Aah,he2⟩
theorem Good.one {P:Program} {C:Cx} {r:Z2} {w:World} {b:Frame} {a:Act} {k:List Item} {cs:List Frame} {m:Machine} (hS:Wn C r.st w) (hT:TR C r.fr.nt r.T a.tmps) (hF:jU C r.fr b a cs)
 (he:Ends P b k cs C m r.ex a w):Good P C r.st w r.fr b k cs m (.one r):=by
 intro l hl;cases hl;exact⟨r,Qp.2 U,C,a,w,cs,Cv.refl hS,hT,hF,rfl,rfl,.same,he⟩
section
variable {E : Env} {P : Program}
def iR (E:Env) (P:Program) (ev:Ev):Prop:=∀c,Yj E P c (ev c)
theorem Ud {ev:Ev} {c:Code} (h:∀(b:Frame) (a:Act) (k:List Item) (cs:List Frame) (w:World),step P (lone (CZ b a (.code c::k)) cs w)= .next (lone (CZ b a k) cs w)):Yj E P c (ou.run ev):=by
 intro C S w fr T b a k cs hg hT hF hS;exact Good.one (r:=⟨.normal,fr,T,S⟩) hS hT hF (.one (h b a k cs w))
theorem Ol {x:Item} (h:∀id,x≠ .inBlock id) (id:Nat) (k:List Item):exitTo id (x::k)=exitTo id k:=by
 cases x<;>first|rfl|exact absurd rfl (h _)
theorem KU {b:Frame} {x:Item} {k:List Item} {cs:List Frame} {C:Cx} {m:Machine} {e:Ex} {a:Act} {w:World} (hx:∀id,x≠ .inBlock id) (hn:e≠ .normal)
 (h:Ends P b (x::k) cs C m e a w):Ends P b k cs C m e a w:=by
 cases e with
 |normal=>exact absurd rfl hn
 |exit id=>obtain⟨k2,h1,h2⟩:=h;exact⟨k2,h1,by rw[h2,Ol hx]⟩
 |ret=>exact h
 |panic v=>exact h
theorem Aai {x y:Code} {ka kb:qw} (ha:Yj E P x ka) (hb:Yj E P y kb):Yj E P (.seq x y) (fun fr T s=>(ka fr T s).then (jn kb)):=by
 intro C S w fr T b a k cs hg hT hF hS;refine Good.steps (.one s_seq) (Good.then hg (ha C S w fr T b a (.code y::k) cs hg hT hF hS) ?_);intro r C' a' w' XS m' hU ph YP pz he;unfold jn;split
 ·next h=>
  rw[h]at he;exact Good.steps he (hb C' r.st w' r.fr r.T b a' k XS hU YP pz ph)
 ·next h=>exact Good.one ph YP pz (KU (x:= .code y) (by simp) (fun e=>h e) he)
theorem wx {x:Operand} {c d:Code} {ka kb:qw} (ha:Yj E P c ka) (hb:Yj E P d kb):Yj E P (.cond x c d) (fun fr T s=>dr ka kb fr T s (Cc E x T)):=by
 intro C S w fr T b a k cs hg hT hF hS;show Good P C S w fr b k cs _ (dr ka kb fr T S (Cc E x T));unfold dr;split
 ·next t hx=>
  have hTa:TR C a.tmps.size T a.tmps:=⟨rfl,hT.2⟩
  have hv:=Ay hg hTa hx;generalize hq:a.eval x=q at hv;cases hv;have hs:=Aaf (P:=P) (b:=b) (k:=k) (cs:=cs) (w:=w) (x:=c) (y:=d) hq;cases t with
  |true=>exact Good.steps (.one hs) (ha C S w fr T b a k cs hg hT hF hS)
  |false=>exact Good.steps (.one hs) (hb C S w fr T b a k cs hg hT hF hS)
 ·exact AE
theorem rM {id:Nat} {c:Code} {ka:qw} (ha:Yj E P c ka):Yj E P (.block id c) (fun fr T s=>(ka fr T s).then (cL id)):=by
 intro C S w fr T b a k cs hg hT hF hS;refine Good.steps (.one wm) (Good.then hg (ha C S w fr T b a (.inBlock id::k) cs hg hT hF hS) ?_);intro r C' a' w' XS m' hU ph YP pz he;obtain⟨ex,Xz,T',Zw⟩:=r;unfold cL;cases ex with
 |exit i=>
  obtain⟨k2,h1,h2⟩:=he;simp only;cases hi:Nat.beq i id with
  |true=>
   have:=Qb hi;subst this;simp only[cond_true];have hk:exitTo i k2=some k:=by rw[h2];simp[exitTo]
   exact Good.one (r:=⟨.normal,Xz,T',Zw⟩) ph YP pz (h1.trans (.one (Aag hk)))
  |false=>
   have Xl:=Nat.ne_of_beq_eq_false hi;simp only[cond_false];refine Good.one (r:=⟨.exit i,Xz,T',Zw⟩) ph YP pz ⟨k2,h1,?_⟩;rw[h2];have:(id==i)=false:=by simp;exact fun h=>Xl h.symm
   simp[exitTo,this]
 |normal=>exact Good.one (r:=⟨.normal,Xz,T',Zw⟩) ph YP pz (Steps.trans he (.one Tt))
 |ret=>exact Good.one (r:=⟨.ret,Xz,T',Zw⟩) ph YP pz he
 |panic v=>exact Good.one (r:=⟨.panic v,Xz,T',Zw⟩) ph YP pz he
theorem rN {c:Code} {ka:qw} (ha:Yj E P c ka):Yj E P (.scope c) ka:=by
 intro C S w fr T b a k cs hg hT hF hS l hl;obtain⟨r,hr,C',a',w',XS,t,h2,h3,h4,h5,h6,he⟩:=ha C S w fr T b a (.inScope c::k) cs hg hT hF hS l hl;refine⟨r,hr,C',a',w',XS,t,h2,h3,h4,h5,h6,Ends.steps (.one wo) ?_⟩;by_cases hn:r.ex= .normal
 ·rw[hn]at he⊢;exact Steps.trans he (.one Ts)
 ·exact KU (x:= .inScope c) (by simp) hn he
theorem GV {f g:Frame} {cs XS:List Frame} {w w':World} (h:lone f cs w=lone g XS w'):f=g:=by
 have:=congrArg Machine.gs h;simp[lone]at this;exact this.1
theorem Hg {m m' m'':Machine} (h:Steps P m m'') (Xl:m≠m'') (he:step P m=step P m'):Steps P m' m'':=by
 obtain⟨n,hn⟩:=h;cases n with
 |zero=>exact absurd (by simpa[runN]using hn) Xl
 |succ n=>
  refine⟨n+1,?_⟩;unfold runN at hn⊢;rw[←he];exact hn
theorem PZ {C:Cx} {S:St} {w:World} {fr:Fr} {b:Frame} {a:Act} {c:Code} {k:List Item} {cs:List Frame} {out:Out}
 (h:Good P C S w fr b k cs (lone (CZ b a (.code (.loop c)::k)) cs w) out):Good P C S w fr b k cs (lone (CZ b a (.inLoop c::k)) cs w) out:=by
 have Xp:step P (lone (CZ b a (.code (.loop c)::k)) cs w)=step P (lone (CZ b a (.inLoop c::k)) cs w):=rI.trans rJ.symm;intro l hl;obtain⟨r,hr,C',a',w',XS,t,h2,h3,h4,h5,h6,he⟩:=h l hl;refine⟨r,hr,C',a',w',XS,t,h2,h3,h4,h5,h6,?_⟩;generalize r.ex=e at he;cases e with
 |normal=>
  refine Hg he (fun hm=>?_) Xp;have:=congrArg Frame.todo (GV hm);have:=congrArg List.length this;simp[CZ]at this
 |exit id=>
  obtain⟨k2,h1,h2⟩:=he;refine⟨k2,Hg h1 (fun hm=>?_) Xp,h2⟩;have:=congrArg Frame.todo (GV hm);simp[CZ]at this
 |ret=>
  obtain⟨k2,h1⟩:=he;refine⟨k2,Hg h1 (fun hm=>?_) Xp⟩;have:=congrArg Frame.todo (GV hm);simp[CZ]at this
 |panic v=>
  obtain⟨k2,x,h1,h2⟩:=he;refine⟨k2,x,Hg h1 (fun hm=>?_) Xp,h2⟩;have:=congrArg Frame.mode (GV hm);simp[CZ]at this
theorem wy {c:Code} {ka kl:qw} (ha:Yj E P c ka) (hl:Yj E P (.loop c) kl):Yj E P (.loop c) (fun fr T s=>(ka fr T s).then (jn kl)):=by
 intro C S w fr T b a k cs hg hT hF hS;refine Good.steps (.one rI) (Good.then hg (ha C S w fr T b a (.inLoop c::k) cs hg hT hF hS) ?_);intro r C' a' w' XS m' hU ph YP pz he;unfold jn;split
 ·next h=>
  rw[h]at he;exact Good.steps he (PZ (hl C' r.st w' r.fr r.T b a' k XS hU YP pz ph))
 ·next h=>exact Good.one ph YP pz (KU (x:= .inLoop c) (by simp) (fun e=>h e) he)
theorem wz {id:Nat}:Yj E P (.exit id) (fun fr T s=> .one ⟨.exit id,fr,T,s⟩):=by
 intro C S w fr T b a k cs hg hT hF hS;exact Good.one (r:=⟨.exit id,fr,T,S⟩) hS hT hF ⟨k,.refl _ _,rfl⟩
theorem Aaj:Yj E P .ret (fun fr T s=> .one ⟨.ret,fr,T,s⟩):=by
 intro C S w fr T b a k cs hg hT hF hS;exact Good.one (r:=⟨.ret,fr,T,S⟩) hS hT hF ⟨k,.refl _ _⟩
theorem Mn {c:Code}:Yj E P c (fun _ _ _=> .stuck):=fun _ _ _ _ _ _ _ _ _ _ _ _ _=>AE
end
def Returns (P:Program) (m:Machine) (c:Frame) (cs:List Frame) (C:Cx) (S:St) (w:World):CR→Prop
 | .same v=>∃C' x w',Steps P m (lone (c.finish x) cs w')∧Cv C S w C' S w'∧VR C' v x
 | .val v S'=>∃C' x w',Steps P m (lone (c.finish x) cs w')∧Cv C S w C' S' w'∧VR C' v x
 | .WD v S'=>∃C' x w',Steps P m (lone (c.raise [{v:=x,recovered:=false}]) cs w')∧Cv C S w C' S' w'∧VR C' v x
def YF (E:Env) (P:Program) (ev:Ev):Prop:=
 ∀(f:FuncId) (args:List AV) (cr:CR) (C:Cx) (S:St) (w:World) (xs:Array Value) (c:Frame) (cs:List Frame),We E ev f args S=some cr→Wg E C→VS C args xs.toList→Wn C S w→
  Returns P (lone (Frame.enter P f xs .normal) (c::cs) w) c cs C S w cr
def YG (E:Env) (P:Program) (ev:Ev):Prop:=
 ∀(g:AV) (args:List AV) (cr:CR) (C:Cx) (S:St) (w:World) (gx:Value) (xs:Array Value) (c:Frame) (cs:List Frame),Ya E ev args S g=some cr→Wg E C→VR C g gx→VS C args xs.toList→Wn C S w→
  (∃f ys,(do let d←Deferred.ofValue gx xs;invoke d.target d.args:Sem Next).run P w= .ok (.enter f ys) w∧Returns P (lone (Frame.enter P f ys .normal) (c::cs) w) c cs C S w cr)∨
  (∃l f tmps dN body,(do let d←Deferred.ofValue gx xs;invoke d.target d.args:Sem Next).run P w= .ok (.round l f tmps dN body) w∧Returns P (lone (Frame.round l f tmps dN body .normal) (c::cs) w) c cs C S w cr)
def lb (E:Env) (P:Program) (ops:Array Oper) (idx:List Nat) (dst:Option Tmp) (kr:Fr→Tr AV→AV→St→Out):Prop:=
 ∀(C:Cx) (S:St) (w:World) (fr:Fr) (T:Tr AV) (b:Frame) (a:Act) (k:List Item) (cs:List Frame) (v:AV) (x:Value),Wg E C→TR C fr.nt T a.tmps→jU C fr b a cs→Wn C S w→VR C v x→
  Good P C S w fr b k cs (lone (CZ b (a.put dst x) (.inRegion ops idx::k)) cs w) (kr fr T v S)
def rO (E:Env) (P:Program) (ops:Array Oper) (idx:List Nat) (run:qw):Prop:=
 ∀(C:Cx) (S:St) (w:World) (fr:Fr) (T:Tr AV) (b:Frame) (a:Act) (k:List Item) (cs:List Frame),Wg E C→TR C fr.nt T a.tmps→jU C fr b a cs→Wn C S w→
  Good P C S w fr b k cs (lone (CZ b a (.inRegion ops idx::k)) cs w) (run fr T S)
section
variable {E : Env} {P : Program}
theorem BQ {C C1:Cx} {S S1:St} {w w1:World} {fr:Fr} {b:Frame} {k:List Item} {cs:List Frame} {m:Machine} {out:Out} (t:Cv C S w C1 S1 w1) (h:Good P C1 S1 w1 fr b k cs m out):
 Good P C S w fr b k cs m out:=fun l hl=>
 let⟨r,hr,C',a',w',XS,h1,h2,h3,h4,h5,h6,h7⟩:=h l hl;⟨r,hr,C',a',w',XS,t.trans h1,h2,h3,h4,h5,h6,h7⟩
theorem Lw (a:Act) (d:Option Tmp) (v:Value):(a.put d v).defers=a.defers:=by cases d<;>rfl
theorem Q9 (a:Act) (d:Option Tmp) (v:Value):(a.put d v).tmps.size=a.tmps.size:=by cases d<;>simp[Act.put]
theorem jU.put {C:Cx} {fr:Fr} {b:Frame} {a:Act} {cs:List Frame} (h:jU C fr b a cs) (d:Option Tmp) (v:Value):jU C fr b (a.put d v) cs:=⟨by rw[Lw];exact h.defs,h.WD,h.round⟩
theorem TR.put {C:Cx} {nt:Nat} {T:Tr AV} {a:Act} (h:TR C nt T a.tmps) {d:Nat} (hd:d<nt) {v:AV} {x:Value} (hv:VR C v x):TR C nt (T.set d (some v)) (a.put (some d) x).tmps:=by
 refine⟨by rw[Q9];exact h.1,fun i u hi=>?_⟩;rw[AF]at hi;simp only[Act.put,Array.getElem?_setIfInBounds];split at hi
 ·next e=>subst e;cases hi;exact⟨x,by simp[h.1,hd],hv⟩
 ·next e=>
  obtain⟨y,hy,hr⟩:=h.2 i u hi;exact⟨y,by rw[if_neg (fun e'=>e e'.symm)];exact hy,hr⟩
theorem rP {ops:Array Oper} {idx:List Nat} {dst:Option Nat} {k:Cl} {ev:Ev} (h:rO E P ops idx (k.run ev)):lb E P ops idx dst ((Y5 dst k).run ev):=by
 intro C S w fr T b a k' cs v x hg hT hF hS hv;cases dst with
 |none=>exact h C S w fr T b a k' cs hg hT hF hS
 |some d=>
  show Good P C S w fr b k' cs _ (bif Nat.blt d fr.nt then _ else _);cases hd:Nat.blt d fr.nt with
  |false=>exact AE
  |true=>
   have C6:d<fr.nt:=by simpa[Nat.blt_eq]using hd
   exact h C S w fr (T.set d (some v)) b (a.put (some d) x) k' cs hg (hT.put C6 hv) (hF.put _ _) hS
theorem rQ {a b:Out} {y:List Z2} (h:gf (Out.app a b)=some y):∃x z,gf a=some x∧gf b=some z∧y=x++z:=by
 cases a<;>cases b<;>first|(cases h;done)|(cases h;exact⟨_,_,rfl,rfl,by simp⟩)
theorem Kb {k:AV→St→Out}:∀ {l:List (AV×St)} {y:List Z2},gf (XF k l)=some y→∀p∈l,∃l',gf (k p.1 p.2)=some l'∧∀x∈l',x∈y
 | [p],y,h,q,hq=>by
  simp at hq;subst hq;exact⟨y,h,fun x hx=>hx⟩
 |p::p'::l,y,h,q,hq=>by
  obtain⟨x,z,h1,h2,rfl⟩:=rQ (a:=k p.1 p.2) (b:=XF k (p'::l)) h;rcases Qk.1 hq with rfl|hq
  ·exact⟨x,h1,fun x hx=>List.mem_append_left _ hx⟩
  ·obtain⟨l',h3,h4⟩:=Kb h2 q hq;exact⟨l',h3,fun x hx=>List.mem_append_right _ (h4 x hx)⟩
theorem KS {C:Cx} {S:St} {w:World} {fr:Fr} {b:Frame} {k':List Item} {cs:List Frame} {m:Machine} {k:AV→St→Out} {l:List (AV×St)} {p:AV×St} (hp:p∈l)
 (h:Good P C S w fr b k' cs m (k p.1 p.2)):Good P C S w fr b k' cs m (XF k l):=by
 intro y hy;obtain⟨l',h1,h2⟩:=Kb hy p hp;obtain⟨r,hr,rest⟩:=h l' h1;exact⟨r,h2 r hr,rest⟩
theorem Qs {s:St} {v:AV}:∀ {l:List AV},v∈l→(v,s)∈mb s l
 |a::l,h=>by
  simp only[mb];rcases Qk.1 h with rfl|h
  ·exact Qh ..
  ·exact Qg _ (Qs h)
theorem JU {o:Oper} {so:ZY} (h:Xg E o.type o.op=so) (h1:∀f,so≠ .defer f) (h2:so≠ .bad):∀c,o.op≠ .defer c:=by
 intro c hc;rw[hc]at h;simp only[Xg,ed]at h;split at h
 ·exact h1 _ h.symm
 ·exact h2 h.symm
theorem N3 (b:Frame) (a:Act) (todo:List Item) (chain:List PanicEntry):(CZ b a todo).raise chain= {CZ b a todo with mode:= .panicking chain}:=rfl
theorem rR {ops:Array Oper} {i:Nat} {idx:List Nat} {o:Oper} (ho:ops[i]?=some o) {kr:Fr→Tr AV→AV→St→Out} (hk:lb E P ops idx o.dst kr) {C:Cx} {S:St} {w:World} {fr:Fr} {T:Tr AV} {b:Frame}
 {a:Act} {k':List Item} {cs:List Frame} (hg:Wg E C) (hT:TR C fr.nt T a.tmps) (hF:jU C fr b a cs) (hS:Wn C S w) {m:Machine} {cr:CR}
 (h:Returns P m (CZ b a (.inRegion ops (i::idx)::k')) cs C S w cr):Good P C S w fr b k' cs m (Xy fr T S (kr fr T) (some cr)):=by
 have Yn:=fun v=>DK b a ops i idx k' v;simp only[ho,Qe]at Yn;cases cr with
 |same v=>
  obtain⟨C',x,w',hs,t,hv⟩:=h;rw[Yn]at hs;exact Good.steps hs (BQ t (hk C' S w' fr T b a k' cs v x (hg.mono t.ext) (hT.mono t.ext) (hF.mono t.ext) t.st hv))
 |val v S'=>
  obtain⟨C',x,w',hs,t,hv⟩:=h;rw[Yn]at hs;exact Good.steps hs (BQ t (hk C' S' w' fr T b a k' cs v x (hg.mono t.ext) (hT.mono t.ext) (hF.mono t.ext) t.st hv))
 |WD v S'=>
  obtain⟨C',x,w',hs,t,hv⟩:=h;rw[N3]at hs;exact BQ t (Good.one (r:=⟨.panic v,fr,T,S'⟩) t.st (hT.mono t.ext) (hF.mono t.ext) ⟨_,x,hs,hv,by intro _ _ _ _ _ h;cases h⟩)
theorem wA {ev:Ev} (VJ:YF E P ev) (Wi:YG E P ev) {ops:Array Oper} {i:Nat} {idx:List Nat} {o:Oper} (ho:ops[i]?=some o) {so:ZY} (aH:XN E P o so) (heq:Xg E o.type o.op=so) {k:mT}
 (hk:lb E P ops idx o.dst (k.run ev)) {C:Cx} {S:St} {w:World} {fr:Fr} {T:Tr AV} {b:Frame} {a:Act} {k':List Item} {cs:List Frame} (hg:Wg E C) (hT:TR C fr.nt T a.tmps)
 (hF:jU C fr b a cs) (hS:Wn C S w) (hw:Region.wanted o (yielded ops a.tmps)=true):
 Good P C S w fr b k' cs (lone (CZ b a (.inRegion ops (i::idx)::k')) cs w) ((WW E so k).run ev fr T S):=by
 have hTa:TR C a.tmps.size T a.tmps:=⟨rfl,hT.2⟩
 have sp:=aH C T a S w hg hTa hS;have hr:(∀f,so≠ .defer f)→so≠ .bad→b.roundOf=none∨∀c,o.op≠ .defer c:=fun h1 h2=> .inr (JU heq h1 h2);cases so with
 |bad=>exact AE
 |make f=>
  show Good P C S w fr b k' cs _ (jI S (k.run ev fr T) (f T));cases hf:f T with
  |none=>exact AE
  |some mk=>
   cases mk with
   |val v=>
    obtain⟨C',x,w',C5,t,hv⟩:=sp.1 v hf;exact Good.steps (.one (Dp ho hw (hr (by simp) (by simp)) C5)) (BQ t (hk C' S w' fr T b a k' cs v x (hg.mono t.ext) (hT.mono t.ext) (hF.mono t.ext) t.st hv))
   |obj ob g=>
    obtain⟨C',x,w',C5,t,hv⟩:=sp.2 ob g hf;exact Good.steps (.one (Dp ho hw (hr (by simp) (by simp)) C5)) (BQ t (hk C' _ w' fr T b a k' cs _ x (hg.mono t.ext) (hT.mono t.ext) (hF.mono t.ext) t.st hv))
 |pure f=>
  show Good P C S w fr b k' cs _ (Xh (fun v=>k.run ev fr T v S) (f T));cases hf:f T with
  |none=>exact AE
  |some v=>
   obtain⟨x,C5,hv⟩:=sp v hf;exact Good.steps (.one (Dp ho hw (hr (by simp) (by simp)) C5)) (hk C S w fr T b a k' cs v x hg hT hF hS hv)
 |read xo f=>
  show Good P C S w fr b k' cs _ (Xh (fun v=>k.run ev fr T v S) (f T S));cases hf:f T S with
  |none=>exact AE
  |some v=>
   obtain⟨x,C5,hv⟩:=sp v hf;exact Good.steps (.one (Dp ho hw (hr (by simp) (by simp)) C5)) (hk C S w fr T b a k' cs v x hg hT hF hS hv)
 |look f=>
  show Good P C S w fr b k' cs _ (Xh (fun v=>k.run ev fr T v S) (f T S));cases hf:f T S with
  |none=>exact AE
  |some v=>
   obtain⟨x,C5,hv⟩:=sp v hf;exact Good.steps (.one (Dp ho hw (hr (by simp) (by simp)) C5)) (hk C S w fr T b a k' cs v x hg hT hF hS hv)
 |act only xo f=>
  show Good P C S w fr b k' cs _ (kQ (k.run ev fr T) (f T S));cases hf:f T S with
  |none=>exact AE
  |some p=>
   obtain⟨v,S'⟩:=p;obtain⟨C',nx,w',C5,t,az⟩:=sp v S' hf;cases az with
   | @value _ x hv=>exact Good.steps (.one (Dp ho hw (hr (by simp) (by simp)) C5)) (BQ t (hk C' S' w' fr T b a k' cs v x (hg.mono t.ext) (hT.mono t.ext) (hF.mono t.ext) t.st hv))
   |skip=>exact Good.steps (.one (Ns ho hw (hr (by simp) (by simp)) C5)) (BQ t (hk C' S' w' fr T b a k' cs _ undef (hg.mono t.ext) (hT.mono t.ext) (hF.mono t.ext) t.st VR.unit))
 |pick f=>
  show Good P C S w fr b k' cs _ (Zi (k.run ev fr T) ((f T).bind fun l=>some (mb S l)));cases hf:f T with
  |none=>exact AE
  |some l=>
   obtain⟨v,hv,x,C5,Yq⟩:=sp l hf;exact Good.steps (.one (Dp ho hw (hr (by simp) (by simp)) C5)) (KS (Qs hv) (hk C S w fr T b a k' cs v x hg hT hF hS Yq))
 |j6 f=>
  show Good P C S w fr b k' cs _ (Zi (k.run ev fr T) (f T S));cases hf:f T S with
  |none=>exact AE
  |some l=>
   obtain⟨p,hp,C',x,w',C5,t,Yq⟩:=sp l hf;exact Good.steps (.one (Dp ho hw (hr (by simp) (by simp)) C5)) (BQ t (KS hp (hk C' p.2 w' fr T b a k' cs p.1 x (hg.mono t.ext) (hT.mono t.ext) (hF.mono t.ext) t.st Yq)))
 |call f=>
  show Good P C S w fr b k' cs _ (Xy fr T S (k.run ev fr T) ((f T S).bind fun p=>We E ev p.1 p.2 S));cases hf:f T S with
  |none=>exact AE
  |some p=>
   obtain⟨g,args⟩:=p;obtain⟨xs,C5,Wk⟩:=sp g args hf;simp only[Qe];cases jv:We E ev g args S with
   |none=>exact AE
   |some cr=>
    have YQ:=VJ g args cr C S w xs (CZ b a (.inRegion ops (i::idx)::k')) cs jv hg Wk hS;exact Good.steps (.one (I3 ho hw (hr (by simp) (by simp)) C5)) (rR ho hk hg hT hF hS YQ)
 |ZB f ar=>
  show Good P C S w fr b k' cs _ (Xy fr T S (k.run ev fr T) ((f T).bind fun g=>(ar T).bind fun args=>Ya E ev args S g));cases hf:f T with
  |none=>exact AE
  |some g=>
  cases ha:ar T with
  |none=>exact AE
  |some args=>
   obtain⟨gx,xs,hgx,ZQ,hex⟩:=sp g args hf ha;simp only[Qe];cases jv:Ya E ev args S g with
   |none=>exact AE
   |some cr=>
    rcases Wi g args cr C S w gx xs (CZ b a (.inRegion ops (i::idx)::k')) cs jv hg hgx ZQ hS with⟨f',ys,C5,YQ⟩|⟨l,f',tmps,dN,body,C5,YQ⟩
    ·rw[←hex]at C5;exact Good.steps (.one (I3 ho hw (hr (by simp) (by simp)) C5)) (rR ho hk hg hT hF hS YQ)
    ·rw[←hex]at C5;exact Good.steps (.one (Pe ho hw (hr (by simp) (by simp)) C5)) (rR ho hk hg hT hF hS YQ)
 |defer f=>
  show Good P C S w fr b k' cs _ (fh fr (fun fr v=>k.run ev fr T v S) (f T));cases hf:f T with
  |none=>exact AE
  |some d=>
   obtain⟨dv,C5,hd⟩:=sp d hf;obtain⟨nt,defers,WD,round⟩:=fr;cases round with
   |some l=>exact AE
   |none=>
    have fw:b.roundOf=none:=by have:=hF.round;cases this with|none h=>exact h
    have:=hk C S w ⟨nt,d::defers,WD,none⟩ T b {a with defers:=dv::a.defers} k' cs (.tuple []) undef hg hT ⟨.cons hd hF.defs,hF.WD,hF.round⟩ hS VR.unit;exact Good.steps (.one (wq ho hw (.inl fw) C5)) this
 |panic f=>
  show Good P C S w fr b k' cs _ (Xh (fun v=> .one ⟨.panic v,fr,T,S⟩) (f T));cases hf:f T with
  |none=>exact AE
  |some v=>
   obtain⟨x,C5,hv⟩:=sp v hf;exact Good.one (r:=⟨.panic v,fr,T,S⟩) hS hT hF ⟨_,x,.one (wu ho hw (hr (by simp) (by simp)) C5),hv,by intro _ _ _ _ _ h;cases h⟩
 |recover=>
  show Good P C S w fr b k' cs _ (iH fr fun fr v=>k.run ev fr T v S);obtain⟨nt,defers,WD,round⟩:=fr;cases round with
  |some l=>exact AE
  |none=>
   have fw:b.roundOf=none:=by have:=hF.round;cases this with|none h=>exact h
   have htr:∀todo,tryRecover (CZ b a todo) cs=tryRecover b cs:=by
    intro todo;cases z5:b.kind<;>cases cs<;>simp[tryRecover,CZ,z5]
   have p8:=hF.WD;cases WD with
   |none=>
    cases p8 with
    |none XG=>
     exact Good.steps (.one (KX ho hw (hr (by simp) (by simp)) sp fw (by rw[htr];exact XG))) (hk C S w ⟨nt,defers,none,none⟩ T b a k' cs .C8 .nilIface hg hT hF hS .C8)
   |some v=>
    cases p8 with
    | @some _ x c rest y9 VX hm hv=>
     subst VX;have hrec:tryRecover b (c::rest)=some (x,mark (c::rest)):=by
      simp[tryRecover,y9,hm,mark]
     have YH:=hk C S w ⟨nt,defers,none,none⟩ T b a k' (mark (c::rest)) v x hg hT ⟨hF.defs,.none (by simp[jT,tryRecover,mark,y9,hm]),hF.round⟩ hS hv;refine Good.steps (.one (KW ho hw (hr (by simp) (by simp)) sp fw (by rw[htr];exact hrec))) ?_;intro l hl;obtain⟨r,b9,C',a',w',XS,h1,h2,h3,h4,h5,h6,h7⟩:=YH l hl;exact⟨r,b9,C',a',w',XS,h1,h2,h3,h4,h5,pU.trans .py h6,h7⟩
end
section
variable {E : Env} {P : Program}
theorem Rz {C:Cx} {want:Bool} {v:AV} {x:Value} (hv:VR C v x) {t:Bool} (h:bt want (some v)=some t):((match some x with|some (.bool b)=>some b|_=>none:Option Bool)==some want)=t:=by
 cases hv with
 |bool b=>
  simp only[bt]at h;cases h;cases b<;>cases want<;>rfl
 |_=>simp only[bt]at h;cases h;cases want<;>rfl
theorem J1 {C:Cx} {T:Tr AV} {a:Act} (hT:TR C a.tmps.size T a.tmps) {ops:Array Oper} {o:Oper} {j:Nat} {want:Bool} (hg:o.guard=some (j,want)) {t:Bool} (h:W4 ops.toList (j,want) T=some t):
 Region.wanted o (yielded ops a.tmps)=t:=by
 have hw:Region.wanted o (yielded ops a.tmps)=(yielded ops a.tmps j==some want):=by unfold Region.wanted;rw[hg]
 rw[hw];unfold W4 ZN at h;rw[EP,Array.getElem?_toList]at h;unfold yielded;cases ho:ops[j]? with
 |none=>
  rw[ho]at h;cases h;cases want<;>rfl
 |some oj=>
  rw[ho]at h;cases hd:oj.dst with
  |none=>
   simp only[Qe,hd,Option.bind_none]at h⊢;cases h;cases want<;>rfl
  |some d=>
   simp only[Qe,hd]at h⊢;cases hp:Tr.dC (pathOf d) T with
   |none=>rw[hp]at h;cases h
   |some v=>
    rw[hp]at h;obtain⟨x,hx,hv⟩:=hT.2 d v hp;rw[hx];exact Rz hv h
theorem Sd {ev:Ev} {ops:Array Oper} {i:Nat} {idx:List Nat} {o:Oper} (ho:ops[i]?=some o) {step:Cl} {k:mT} (hk:lb E P ops idx o.dst (k.run ev))
 (hs:∀(C:Cx) (S:St) (w:World) (fr:Fr) (T:Tr AV) (b:Frame) (a:Act) (k':List Item) (cs:List Frame),Wg E C→TR C fr.nt T a.tmps→jU C fr b a cs→Wn C S w→
  Region.wanted o (yielded ops a.tmps)=true→Good P C S w fr b k' cs (lone (CZ b a (.inRegion ops (i::idx)::k')) cs w) (step.run ev fr T S)):
 rO E P ops (i::idx) ((guarded ops.toList o.guard step k).run ev):=by
 intro C S w fr T b a k' cs hg hT hF hS;unfold guarded;cases lL:o.guard with
 |none=>exact hs C S w fr T b a k' cs hg hT hF hS (by unfold Region.wanted;rw[lL])
 |some g=>
  show Good P C S w fr b k' cs _ (aT (fun _=>step.run ev fr T S) (fun _=>k.run ev fr T (.tuple []) S) (W4 ops.toList g T));cases hw:W4 ops.toList g T with
  |none=>exact AE
  |some t=>
   have hwt:=J1 (C:=C) (a:=a) ⟨rfl,hT.2⟩ (o:=o) (j:=g.1) (want:=g.2) (by rw[lL]) hw;cases t with
   |true=>exact hs C S w fr T b a k' cs hg hT hF hS hwt
   |false=>
    have hsk:=Nr (P:=P) (b:=b) (a:=a) (k:=k') (cs:=cs) (w:=w) (ops:=ops) (i:=i) (rest:=idx) (by rw[ho];exact hwt);simp only[ho,Qe]at hsk;exact Good.steps (.one hsk) (hk C S w fr T b a k' cs _ undef hg hT hF hS VR.unit)
inductive Idx (ops:Array Oper):List Nat→List Oper→Prop where
 |nil:Idx ops [] []
 |cons {i:Nat} {o:Oper} {is:List Nat} {os:List Oper} (h:ops[i]?=some o) (t:Idx ops is os):Idx ops (i::is) (o::os)
theorem TT (he:CN E P) (hx:Y6 E P) {ev:Ev} (VJ:YF E P ev) (Wi:YG E P ev) {ops:Array Oper}:∀ {rest:List Oper} {idx:List Nat},
 Idx ops idx rest→rO E P ops idx ((Zo E ops.toList rest).run ev)
 |_,_,.nil=>by
  intro C S w fr T b a k cs hg hT hF hS;exact Good.one (r:=⟨.normal,fr,T,S⟩) hS hT hF (.one IS)
 |o::rest,i::idx,.cons ho t=>by
  have ih:=TT he hx VJ Wi t;have hk:=rP (dst:=o.dst) ih;exact Sd ho hk fun C S w fr T b a k' cs hg hT hF hS hw=>wA VJ Wi ho (o9 he hx o) U hk hg hT hF hS hw
theorem Nz (ops:Array Oper):∀m n,n+m=ops.size→Idx ops (List.range' n m) (ops.toList.drop n)
 |0,n,h=>by
  rw[List.drop_of_length_le (by simp;omega)];exact .nil
 |m+1,n,h=>by
  have C6:n<ops.toList.length:=by simp;omega
  rw[List.drop_eq_getElem_cons C6,List.range'_succ];refine .cons ?_ (Nz ops m (n+1) (by omega));rw[←Array.getElem?_toList,Qi C6]
theorem N0 (ops:Array Oper):Idx ops (List.range ops.size) ops.toList:=by
 have:=Nz ops ops.size 0 (by omega);rw[List.range_eq_range'];simpa using this
theorem TU (he:CN E P) (hx:Y6 E P) {ev:Ev} (VJ:YF E P ev) (Wi:YG E P ev) {id:Nat} {ops:Array Oper}:Yj E P (.region id ops false) ((Zo E ops.toList ops.toList).run ev):=by
 intro C S w fr T b a k cs hg hT hF hS;exact Good.steps (.one rK) (TT he hx VJ Wi (N0 ops) C S w fr T b a k cs hg hT hF hS)
end
section
variable {E : Env} {P : Program}
def ld (tmps:Array Value):ResultVar→Sem Value
 | .tmp t=>pure (tmps.getD t undef)
 | .cell a t=>do loadVar t (←asAddr (tmps.getD a undef))
theorem I4 (he:CN E P) {C:Cx} {S:St} {w:World} {T:Tr AV} {tmps:Array Value} (hT:TR C tmps.size T tmps) (hS:Wn C S w):
 ∀ {rs:List ResultVar} {vs:List AV},XL E S T rs=some vs→
  ∃xs,(rs.mapM (ld tmps)).run P w= .ok xs w∧VS C vs xs
 | [],vs,h=>by cases h;exact⟨[],by simp,.nil⟩
 | .tmp t::l,vs,h=>by
  simp only[XL]at h;obtain⟨v,hv,h⟩:=Qa.1 h;obtain⟨r,hr,h⟩:=Qa.1 h;cases h;obtain⟨x,hx,Yq⟩:=hT.2 t v hv;obtain⟨xs,ZQ,Wk⟩:=I4 he hT hS hr;have:tmps.getD t undef=x:=by simp[Array.getD_eq_getD_getElem?,hx]
  exact⟨x::xs,by simp only[List.mapM_cons,ld,Sem.run_bind,this,Sem.run_pure,Result.andThen_ok,ZQ],.cons Yq Wk⟩
 | .cell a t::l,vs,h=>by
  simp only[XL]at h;obtain⟨p,hp,h⟩:=Qa.1 h;obtain⟨v,hv,h⟩:=Qa.1 h;obtain⟨r,hr,h⟩:=Qa.1 h;cases h;obtain⟨x,hx,Yq⟩:=hT.2 a p hp;obtain⟨ad,y,rfl,hl,dL⟩:=HZ (P:=P) he hS Yq hv;obtain⟨xs,ZQ,Wk⟩:=I4 he hT hS hr;have:tmps.getD a undef= .pointer (some ad):=by simp[Array.getD_eq_getD_getElem?,hx]
  exact⟨y::xs,by simp only[List.mapM_cons,ld,Sem.run_bind,this,asAddr,Sem.run_pure,Result.andThen_ok,hl,ZQ],.cons dL Wk⟩
theorem wB {C:Cx} {vs:List AV} {xs:List Value} (h:VS C vs xs):VR C (ZM vs) (if h:xs.toArray.size=1 then xs.toArray[0]else .tuple xs.toArray):=by
 cases h with
 |nil=>exact .tuple (by simpa using VS.nil)
 |cons h1 t=>
  cases t with
  |nil=>exact h1
  |cons h2 t=>exact .tuple (by simpa[ZM]using VS.cons h1 (VS.cons h2 t))
theorem JE (he:CN E P) {C:Cx} {S:St} {w:World} {T:Tr AV} {tmps:Array Value} (hT:TR C tmps.size T tmps) (hS:Wn C S w) {fn:Func} {vs:List AV} (h:XL E S T fn.results.toList=some vs):
 ∃x,(results fn tmps).run P w= .ok x w∧VR C (ZM vs) x:=by
 obtain⟨xs,ZQ,Wk⟩:=I4 (P:=P) he hT hS h;refine⟨_,?_,wB Wk⟩;have hr:results fn tmps=(do let vs←fn.results.mapM (ld tmps);pure (if h:vs.size=1 then vs[0]else .tuple vs)):=by
  unfold results
  congr 1
 rw[hr,Array.mapM_eq_mapM_toList];simp only[Sem.run_bind,Sem.run_map,ZQ,Result.andThen_ok,Sem.run_pure]
inductive cN (C:Cx):FrameMode→Option AV→Prop where
 |ret:cN C .returning none
 |WD {v:AV} {x:Value} (h:VR C v x):cN C (.panicking [{v:=x,recovered:=false}]) (some v)
theorem cN.mono {C C':Cx} (e:Ext C C') {m:FrameMode} {v:Option AV} (h:cN C m v):cN C' m v:=by
 cases h with
 |ret=>exact .ret
 |WD h=>exact .WD (h.mono e)
def CE (b:Frame) (a:Act) (todo:List Item) (mode:FrameMode):Frame:= {fn:=b.fn,tmps:=a.tmps,todo,defers:=a.defers,mode,kind:=b.kind,roundOf:=b.roundOf}
theorem yJ {b:Frame} {a:Act} {cs:List Frame} {w:World} (hr:b.roundOf=none):step P (lone (CZ b a []) cs w)= .next (lone (CE b a [] .returning) cs w):=
 step_lone_go (by simp[stepG,stepG.exec,CZ,CE,hr])
theorem yK {b:Frame} {a:Act} {k:List Item} {cs:List Frame} {w:World} (hr:b.roundOf=none):step P (lone (CZ b a (.code .ret::k)) cs w)= .next (lone (CE b a (.code .ret::k) .returning) cs w):=
 step_lone_go (by simp[stepG,stepG.exec,CZ,CE,hr])
theorem Aak {b:Frame} {t:Array Value} {todo:List Item} {mode:FrameMode} (hm:mode≠ .run) {cs:List Frame} {w:World} {Cn:Nat} {ar:Array Value} {ds:List Deferred} (h:w.heap[Cn]?=some (.deferred (some []))):
 step P (lone (CE b ⟨t, {target:= .collected Cn,args:=ar}::ds⟩ todo mode) cs w)= .next (lone (CE b ⟨t,ds⟩ todo mode) cs (World.CP w Cn (.deferred none))):=by
 have C5:(Instr.takeDeferred Cn).run P w= .ok [] (World.CP w Cn (.deferred none)):=by
  simp only[Instr.takeDeferred,Sem.run_bind,AR h (by simp),Result.andThen_ok,DI h (by simp),Sem.run_pure]
 refine step_lone_go ?_;cases mode with
 |run=>exact absurd rfl hm
 |returning=>simp[stepG,Go.unwind,CE,C5]
 |panicking ch=>simp[stepG,Go.unwind,CE,C5]
theorem Tu {b:Frame} {t:Array Value} {todo:List Item} {mode:FrameMode} (hm:mode≠ .run) {cs:List Frame} {w:World} {fn:Fn} {cap ar:Array Value} {ds:List Deferred} {f:FuncId} {ys:Array Value}
 (h:(invoke (.fn fn cap) ar).run P w= .ok (.enter f ys) w):
 step P (lone (CE b ⟨t, {target:= .fn fn cap,args:=ar}::ds⟩ todo mode) cs w)= .next (lone (Frame.enter P f ys .deferred) (CE b ⟨t,ds⟩ todo mode::cs) w):=by
 refine step_lone_go ?_;cases mode with
 |run=>exact absurd rfl hm
 |returning=>simp[stepG,Go.unwind,callDeferred,CE,h]
 |panicking ch=>simp[stepG,Go.unwind,callDeferred,CE,h]
theorem JN:∀(l:List AV) (j:Nat) (T:Tr AV) (i:Nat),(XV j l T).get i=if j≤i∧i<j+l.length then l[i-j]? else T.get i
 | [],j,T,i=>by
  have:¬(j≤i∧i<j+([]:List AV).length):=by simp only[List.length_nil];omega
  rw[if_neg this];rfl
 |v::l,j,T,i=>by
  simp only[XV];rw[JN l (j+1) _ i,AF];simp only[List.length_cons];by_cases h1:i=j
  ·subst h1;rw[if_neg (by omega),if_pos rfl,if_pos (by omega)];simp
  ·rw[if_neg h1];by_cases h2:j+1≤i∧i<j+1+l.length
   ·rw[if_pos h2,if_pos (by omega)];have:i-j=(i-(j+1))+1:=by omega
    rw[this,List.getElem?_cons_succ]
   ·rw[if_neg h2,if_neg (by omega)]
theorem wC (i:Nat):(Tr.nil:Tr AV).get i=none:=by
 unfold Tr.get;cases pathOf i<;>rfl
theorem PS {C:Cx} {args:List AV} {ys:Array Value} (h:VS C args ys.toList) (nt:Nat):TR C (Nat.max nt (W6 args)) (XV 0 args .nil) (ys++Array.replicate (nt-ys.size) undef):=by
 have hl:=h.length;simp only[Array.length_toList]at hl;refine⟨?_,fun i v hi=>?_⟩
 ·simp only[Array.size_append,Array.size_replicate,D1];rw[hl];show _=max nt args.length;omega
 ·rw[JN]at hi;split at hi
  ·next C6=>
   obtain⟨y,hy,hr⟩:=h.get (by simpa using hi);refine⟨y,?_,hr⟩;rw[Array.getElem?_append_left (by omega)];simpa using hy
  ·rw[wC]at hi;cases hi
theorem Lt {b:Frame} {t:Array Value} {todo:List Item} {c:Frame} {cs:List Frame} {w:World} {fn:Func} {v:Value} (hk:b.kind= .deferred) (hf:P.funcs[b.fn]?=some fn) (hr:(results fn t).run P w= .ok v w):
 step P (lone (CE b ⟨t,[]⟩ todo .returning) (c::cs) w)= .next (lone (match c.mode with
  | .panicking ({recovered:=true, ..}::older)=>(match older.dropWhile (!·.goexit)with| []=> {c with mode:= .returning}|rest=> {c with mode:= .panicking rest})
  |_=>c) cs w):=
 step_lone_go (by simp[stepG,Go.unwind,CE,hf,hr,doReturn,hk];rfl)
theorem Vi (he:CN E P) {ev:Ev} (dP:iR E P ev) {f:FuncId} {args:List AV} {m:Option AV} {S S':St} {rc:Bool} (h:kL E ev f args m S=some (rc,S')) {C:Cx} {w:World} {ys:Array Value}
 (hg:Wg E C) (ha:VS C args ys.toList) (hS:Wn C S w) {mode:FrameMode} (hm:cN C mode m) (b:Frame) (a:Act) (todo:List Item) (cs:List Frame):
 CI E f=true∧∃C' w' aY,Steps P (lone (Frame.enter P f ys .deferred) (CE b a todo mode::cs) w) (lone (CE b a todo aY) cs w')∧Cv C S w C' S' w'∧cN C' aY (bif rc then none else m):=by
 unfold kL at h;obtain⟨fn,kZ,h⟩:=Qa.1 h;obtain⟨c,hc,h⟩:=Qa.1 h;have hp:=he.fn f fn kZ;refine⟨by unfold CI;rw[kZ];simp only[hc],?_⟩;split at h
 ·next p9=>
  have hres0:fn.results= #[]:=Array.ext' (by simpa using p9);have ZS:Frame.enter P f ys .deferred=CZ (Frame.enter P f ys .deferred) ⟨ys++Array.replicate (fn.ntmps-ys.size) undef,[]⟩ [.code c]:=by
   simp[Frame.enter,CZ,hp,hc]
  have jk:(Frame.enter P f ys .deferred).kind= .deferred:=rfl;have fw:(Frame.enter P f ys .deferred).roundOf=none:=rfl;have rS:(Frame.enter P f ys .deferred).fn=f:=rfl;generalize dz:Frame.enter P f ys .deferred=bd at ZS jk fw rS;have p8:rL C bd (CE b a todo mode::cs) (frame fn.ntmps args m).WD:=by
   show rL C bd _ m;cases hm with
   |ret=>exact .none (by simp[jT,tryRecover,jk,CE])
   |WD hv=>exact .some jk rfl rfl hv
  have YH:=dP c C S w (frame fn.ntmps args m) (XV 0 args .nil) bd ⟨ys++Array.replicate (fn.ntmps-ys.size) undef,[]⟩ [] (CE b a todo mode::cs) hg (PS ha fn.ntmps)
   ⟨.nil,p8,.none fw⟩ hS
  rw[←ZS]at YH;generalize bA:ev c (frame fn.ntmps args m) (XV 0 args .nil) S=out at h YH;have fin:∀(r:Z2),out= .one r→(r.ex= .normal∨r.ex= .ret)→r.fr.defers=[]→some (recovered m r.fr.WD,r.st)=some (rc,S')→
   ∃C' w' aY,Steps P (lone bd (CE b a todo mode::cs) w) (lone (CE b a todo aY) cs w')∧Cv C S w C' S' w'∧cN C' aY (bif rc then none else m):=by
   intro r hr hex hdf hres';cases hres';obtain⟨r',b9,C',a',w',XS,t,YP,pz,hn,dO,VX,Zb⟩:=YH [r] (by rw[hr];rfl);simp only[Qp]at b9;subst b9;have lG:a'.defers=[]:=by
    have:=pz.defs;rw[hdf]at this;cases hd:a'.defers with
    |nil=>rfl
    |cons x l=>rw[hd]at this;cases this
   have Xp:∃oA,Steps P (lone bd (CE b a todo mode::cs) w) (lone (CE bd ⟨a'.tmps,[]⟩ oA .returning) XS w'):=by
    have ea:a'=⟨a'.tmps,[]⟩:=by rw[←lG]
    rcases hex with hex|hex
    ·rw[hex]at Zb;exact⟨[],by rw[←ea];exact Steps.trans Zb (.one (yJ fw))⟩
    ·rw[hex]at Zb;obtain⟨k2,mW⟩:=Zb;exact⟨_,by rw[←ea];exact Steps.trans mW (.one (yK fw))⟩
   obtain⟨oA,Xp⟩:=Xp;have hrr:(results fn a'.tmps).run P w'= .ok (.tuple #[]) w':=by simp[results,hres0]
   have hbdf:P.funcs[bd.fn]?=some fn:=by rw[rS];exact hp
   show∃C' w' aY,_;have hpm:(frame fn.ntmps args m).WD=m:=rfl;rw[hpm]at VX;generalize r'.fr.WD=q at VX;have jf:=hm.mono t.ext;cases VX with
   |same=>
    refine⟨C',w',mode,Xp.trans ?_,t,?_⟩
    ·have:=Lt (P:=P) (b:=bd) (t:=a'.tmps) (todo:=oA) (c:=CE b a todo mode) (cs:=cs) (w:=w') jk hbdf hrr;refine .one (this.trans ?_);cases hm with
     |ret=>rfl
     |WD hv=>rfl
    ·have:recovered m m=false:=by cases m<;>rfl
     rw[this];exact jf
   |py=>
    cases hm with
    | @WD v x hv=>
     refine⟨C',w',.returning,Xp.trans ?_,t,.ret⟩;have:=Lt (P:=P) (b:=bd) (t:=a'.tmps) (todo:=oA) (c:= {CE b a todo (.panicking [{v:=x,recovered:=false}])with mode:= .panicking [{v:=x,recovered:=true}]}) (cs:=cs) (w:=w') jk hbdf hrr;exact .one this
  unfold fc at h;split at h
  ·next Xz T' st=>
   cases hd:Xz.defers with
   |nil=>rw[hd]at h;exact fin _ rfl (.inl rfl) hd h
   |cons x l=>rw[hd]at h;cases h
  ·next Xz T' st=>
   cases hd:Xz.defers with
   |nil=>rw[hd]at h;exact fin _ rfl (.inr rfl) hd h
   |cons x l=>rw[hd]at h;cases h
  ·cases h
 ·cases h
theorem HE (he:CN E P) {ev:Ev} (dP:iR E P ev):∀ {ds:List dX} {m m':Option AV} {S S':St},Am.unwind E ev ds m S=some (m',S')→∀ {C:Cx} {w:World} {dv:List Deferred} {mode:FrameMode},Wg E C→
 gz C ds dv→Wn C S w→cN C mode m→∀(b:Frame) (t:Array Value) (todo:List Item) (cs:List Frame),
 ∃C' w' aY,Steps P (lone (CE b ⟨t,dv⟩ todo mode) cs w) (lone (CE b ⟨t,[]⟩ todo aY) cs w')∧Cv C S w C' S' w'∧cN C' aY m'
 | [],m,m',S,S',h,C,w,dv,mode,hg,hd,hS,hm,b,t,todo,cs=>by
  cases h;cases hd;exact⟨C,w,mode,.refl _ _,Cv.refl hS,hm⟩
 |d::ds,m,m',S,S',h,C,w,dv,mode,hg,hd,hS,hm,b,t,todo,cs=>by
  simp only[Am.unwind]at h;obtain⟨p,hp,h9⟩:=Qa.1 h;cases hd with
  |cons dx hdt=>
  have C5:mode≠ .run:=by cases hm<;>simp
  unfold fe at hp;cases dx with
  |collected hD=>
   rename_i l r
   simp only at hp;split at hp
   ·next hb=>
    cases hp;obtain⟨_,x,hx,hr⟩:=hS.live r _ hb;cases hr with
    |defs=>
    have t1:=EJ hS hb (.defs false) (.deferred none) .nz;obtain⟨C',w',aY,hs,t2,Zj⟩:=HE he dP h9 (hg.mono t1.ext) (hdt.mono t1.ext) t1.st (hm.mono t1.ext) b t todo cs;exact⟨C',w',aY,.head (Aak C5 hx) hs,t1.trans t2,Zj⟩
   ·cases hp
  |fn hf ha hb=>
   rename_i l fn aa bb xa xb
   cases fn with
   |func f=>
    simp only at hp;obtain⟨q,hq,hp⟩:=Qa.1 hp;cases hp;obtain⟨rc,S1⟩:=q;have X0:VS C (aa++bb) (xa++xb).toList:=by simpa using ha.append hb
    obtain⟨dQ,C1,w1,mode1,Xm,t1,gR⟩:=Vi he dP hq hg X0 hS hm b ⟨t,l⟩ todo cs;obtain⟨C',w',aY,hs,t2,Zj⟩:=HE he dP h9 (hg.mono t1.ext) (hdt.mono t1.ext) t1.st gR b t todo cs;refine⟨C',w',aY,.head (Tu C5 ?_) (Xm.trans hs),t1.trans t2,Zj⟩;show(callFunc f (xa++xb)).run P w=_;exact Ff he dQ _ w
   |_=>cases hp
end
structure yL (C C2:Cx) (S:St) (w:World) (K:List Nat):Prop where
 ext:Ext C C2
 Cn:∀b∈K,∀cs t part,S.heap.get b=some (.cells cs t part)→∃c e fr,w.heap[(C.pl b).Cn]?=some (.cells c e fr)∧C2.M (C.pl b).Cn=some c.toList
theorem G4 {f:AV→List Nat→Option (AV×List Nat)} {v:AV} {l:List AV} {ks:List Nat} {r} (h:CH.many f (v::l) ks=some r):
 ∃p q,f v ks=some p∧CH.many f l p.2=some q∧r=(p.1::q.1,q.2):=by
 simp only[CH.many]at h;obtain⟨p,hp,h⟩:=Qa.1 h;obtain⟨q,hq,h⟩:=Qa.1 h;cases h;exact⟨p,q,hp,hq,rfl⟩
theorem UQ {S:St} {fm:Nat}:∀(n:Nat) {v v':AV} {ks jV:List Nat},CH S fm n v ks=some (v',jV)→v.ck=true→v'.ck=true
 |n+1,v,v',ks,jV,h,hc=>by
  simp only[CH]at h;split at h
  ·next b off len sz cap=>
   cases hb:Nat.blt b fm with
   |true=>rw[hb]at h;cases h;rfl
   |false=>
    rw[hb]at h;simp only[cond_false]at h;obtain⟨cs,_,h⟩:=Qa.1 h;obtain⟨l,_,h⟩:=Qa.1 h;obtain⟨p,_,h⟩:=Qa.1 h;cases h;rfl
  ·cases hc
  ·cases hc
  ·next cs len sz cl=>
   cases cl with
   |true=>cases h;rfl
   |false=>
    simp only[cond_false]at h;obtain⟨p,_,h⟩:=Qa.1 h;cases h;rfl
  ·obtain⟨p,_,h⟩:=Qa.1 h;cases h;rfl
  ·cases h;exact hc
theorem GU {S:St} {fm n:Nat}:∀ {l:List AV} {ks:List Nat} {r},CH.many (CH S fm n) l ks=some r→Cells l→Cells r.1
 | [],ks,r,h,_=>by cases h;exact fun _ h=>by cases h
 |v::l,ks,r,h,hc=>by
  obtain⟨p,q,h1,h2,rfl⟩:=G4 h;intro u hu;rcases Qk.1 hu with rfl|hu
  ·exact UQ n (v':=p.1) (jV:=p.2) h1 (hc v (Qh ..))
  ·exact GU h2 (fun x hx=>hc x (Qg _ hx)) u hu
theorem H3 {f:AV→List Nat→Option (AV×List Nat)}:∀ {l:List AV} {ks:List Nat} {r},CH.many f l ks=some r→r.1.length=l.length
 | [],ks,r,h=>by cases h;rfl
 |v::l,ks,r,h=>by
  obtain⟨p,q,h1,h2,rfl⟩:=G4 h;simp[H3 h2]
theorem IC {S:St} {fm:Nat}:∀(n:Nat) {v v':AV} {ks jV:List Nat},CH S fm n v ks=some (v',jV)→∀b∈ks,b∈jV
 |n+1,v,v',ks,jV,h=>by
  have many:∀ {l:List AV} {ks:List Nat} {r},CH.many (CH S fm n) l ks=some r→∀b∈ks,b∈r.2:=by
   intro l;induction l with
   |nil=>intro ks r h b hb;cases h;exact hb
   |cons a l ih=>
    intro ks r h b hb;obtain⟨p,q,h1,h2,rfl⟩:=G4 h;exact ih h2 b (IC n (v':=p.1) (jV:=p.2) h1 b hb)
  simp only[CH]at h;split at h
  ·next b off len sz cap=>
   cases hb:Nat.blt b fm with
   |true=>rw[hb]at h;cases h;exact fun _ h=>h
   |false=>
    rw[hb]at h;simp only[cond_false]at h;obtain⟨cs,_,h⟩:=Qa.1 h;obtain⟨l,_,h⟩:=Qa.1 h;obtain⟨p,hp,h⟩:=Qa.1 h;cases h;exact fun x hx=>Qg _ (many hp x hx)
  ·obtain⟨p,hp,h⟩:=Qa.1 h;cases h;exact many hp
  ·obtain⟨p,hp,h⟩:=Qa.1 h;cases h;exact many hp
  ·next cs len sz cl=>
   cases cl with
   |true=>cases h;exact fun _ h=>h
   |false=>
    simp only[cond_false]at h;obtain⟨p,hp,h⟩:=Qa.1 h;cases h;exact many hp
  ·obtain⟨p,hp,h⟩:=Qa.1 h;cases h;exact IC n (v':=p.1) (jV:=p.2) hp
  ·cases h;exact fun _ h=>h
theorem P9 {C C2:Cx} {S:St} {w:World} (hS:Wn C S w) {fm:Nat} {K:List Nat} (hF:yL C C2 S w K):∀(n:Nat) {v v':AV} {ks jV:List Nat} {x:Value},CH S fm n v ks=some (v',jV)→
 (∀b∈jV,b∈K)→VR C v x→VR C2 v' x
 |n+1,v,v',ks,jV,x,h,hK,hv=>by
  have many:∀ {l:List AV} {ks:List Nat} {r} {xs:List Value},CH.many (CH S fm n) l ks=some r→(∀b∈r.2,b∈K)→VS C l xs→VS C2 r.1 xs:=by
   intro l;induction l with
   |nil=>intro ks r xs h _ hv;cases h;cases hv;exact .nil
   |cons a l ih=>
    intro ks r xs h hK hv;obtain⟨p,q,h1,h2,rfl⟩:=G4 h;cases hv with
    |cons lH pV=>
    have rT:∀b∈p.2,b∈q.2:=by
     clear ih pV;have:∀ {l:List AV} {ks:List Nat} {r},CH.many (CH S fm n) l ks=some r→∀b∈ks,b∈r.2:=by
      intro l;induction l with
      |nil=>intro ks r h b hb;cases h;exact hb
      |cons a l ih=>
       intro ks r h b hb;obtain⟨p,q,h1,h2,rfl⟩:=G4 h;exact ih h2 b (IC n (v':=p.1) (jV:=p.2) h1 b hb)
     exact this h2
    exact .cons (P9 hS hF n (v':=p.1) (jV:=p.2) h1 (fun b hb=>hK b (rT b hb)) lH) (ih h2 hK pV)
  simp only[CH]at h;split at h
  ·next b off len sz cap=>
   cases hb:Nat.blt b fm with
   |true=>rw[hb]at h;cases h;exact hv.mono hF.ext
   |false=>
    rw[hb]at h;simp only[cond_false]at h;obtain⟨cs,VX,h⟩:=Qa.1 h;obtain⟨l,hl,h⟩:=Qa.1 h;obtain⟨p,hp,h⟩:=Qa.1 h;cases h;cases hv with
    |Xj pc hd hc=>
     have:l=[]:=by
      obtain⟨_,_,_,_,h3⟩:=He hl;exact List.eq_nil_of_length_eq_zero (by simpa using h3)
     subst this;cases hp;exact .VT _ (by simp) (Qo _)
    |slice hd hc Yl=>
     obtain⟨_,c,e,fr,vs,hx,Wk,ZZ,XA,vX,_⟩:=hS.cells VX;obtain⟨t,part,mV⟩:=Ix VX;obtain⟨c',e',Xz,oz,hM⟩:=hF.Cn b (hK b (Qh ..)) cs t part mV;rw[hx]at oz;cases oz;obtain⟨pre,post,Aal,X3,pf⟩:=He hl;rw[Aal]at Wk vX;obtain⟨y1,z3,rfl,h1,h4⟩:=AY Wk;obtain⟨y0,y,rfl,h2,h3⟩:=AY h1;have vk:=many hp (fun k hk=>hK k (Qg _ hk)) h3;have hlen:=H3 hp;refine .Cd (Cn:=(C.pl b).Cn) (by rw[hlen,pf]) hM (vs:=y) ?_ vk (fun XK=>B1 40 vk XK) (GU hp vX.sub.1.sub.2) Yl;have:=ZZ.sub (a:=y0) (b:=y) (c:=z3) rfl;rw[h2.length,X3]at this;exact this
  ·obtain⟨p,hp,h⟩:=Qa.1 h;cases h;cases hv with
   |agg Wk VX=>exact .agg (many hp hK Wk) (GU hp VX)
  ·obtain⟨p,hp,h⟩:=Qa.1 h;cases h;cases hv with
   |tuple Wk=>exact .tuple (many hp hK Wk)
  ·next cs len sz cl=>
   cases cl with
   |true=>cases h;exact hv.mono hF.ext
   |false=>
    simp only[cond_false]at h;obtain⟨p,hp,h⟩:=Qa.1 h;cases h;cases hv with
    |VT a hl Yl=>cases hp;exact .VT a hl Yl
    |Cd hl hm ha Wk hc VX Yl=>
     have vk:=many hp hK Wk;exact .Cd (by rw[H3 hp,hl]) (hF.ext.M _ _ hm) ha vk (fun XK=>B1 40 vk XK) (GU hp VX) Yl
  ·obtain⟨p,hp,h⟩:=Qa.1 h;cases h;cases hv with
   |iface hu=>exact .iface (P9 hS hF n (v':=p.1) (jV:=p.2) hp hK hu)
  ·cases h;exact hv.mono hF.ext
theorem Mz:∀(K:List Nat) (S:St) (b:Nat),(kill S K).heap.get b=if b∈K then none else S.heap.get b
 | [],S,b=>by simp[kill]
 |a::l,S,b=>by
  simp only[kill];rw[Mz l,JM];by_cases h:b=a
  ·subst h;simp
  ·simp[h]
theorem NT:∀(K:List Nat) {C:Cx} {S:St} {w:World},Wn C S w→Cv C S w C (kill S K) w∧∀b∈K,Z6 S (kill S K).log b
 | [],C,S,w,hS=>⟨Cv.refl hS,fun _ h=>by cases h⟩
 |a::l,C,S,w,hS=>by
  have t1:=Cv.kill hS a;obtain⟨t2,h2⟩:=NT l t1.st;refine⟨t1.trans t2,fun b hb=>?_⟩;rcases Qk.1 hb with rfl|hb
  ·exact(EO S b none).1.mono t2.log
  ·exact(h2 b hb).imp id (fun x=>by rw[t1.bound]at x;exact x)
open Classical in
noncomputable def Cx.fy (C:Cx) (S:St) (w:World) (K:List Nat):Cx:=
 {C with M:=fun Cn=>if∃b∈K,∃o,S.heap.get b=some o∧(C.pl b).Cn=Cn then(match w.heap[Cn]? with|some (.cells c _ _)=>some c.toList|_=>none)else C.M Cn}
theorem rU {C:Cx} {S:St} {w:World} (hS:Wn C S w) (K:List Nat):yL C (C.fy S w K) S w K∧Cv C S w (C.fy S w K) (kill S K) w:=by
 have hM:∀Cn ms,C.M Cn=some ms→(C.fy S w K).M Cn=some ms:=by
  intro Cn ms h;simp only[Cx.fy];rw[if_neg]
  ·exact h
  ·rintro⟨b,hb,o,ho,rfl⟩;rw[hS.apart b o ho]at h;cases h
 have e:Ext C (C.fy S w K):=⟨fun _ h=>h,fun _ _=>rfl,hM,fun _ _ h=>h,fun _ _ _=>rfl,fun _ h=>h⟩
 have hinv:∀Cn ms,(C.fy S w K).M Cn=some ms→C.M Cn=some ms∨∃b∈K,∃o,S.heap.get b=some o∧(C.pl b).Cn=Cn∧∃c e fr,w.heap[Cn]?=some (.cells c e fr)∧c.toList=ms:=by
  intro Cn ms h;simp only[Cx.fy]at h;split at h
  ·next hex=>
   obtain⟨b,hb,o,ho,lM⟩:=hex;split at h
   ·next c e fr hx=>cases h;exact .inr ⟨b,hb,o,ho,lM,c,e,fr,hx,rfl⟩
   ·cases h
  ·exact .inl h
 obtain⟨t1,ZP⟩:=NT K hS;refine⟨⟨e,?_⟩,⟨e,⟨?_,t1.st.inj,t1.st.fresh,?_,?_,t1.st.stamps,t1.st.there,t1.st.Ww,fun Cn ms hm=>(hinv Cn ms hm).elim (hS.Xu Cn ms) fun⟨b,_,o,ho,lM,_⟩=>lM▸hS.Ww b (hS.live b o ho).1⟩,t1.bound,t1.log,t1.next,t1.size,t1.frame,t1.kept,t1.fW,t1.own,?_,t1.Yz⟩⟩
 ·intro b hb cs t part ho;obtain⟨_,x,hx,hr⟩:=hS.live b _ ho;cases hr with
  |cells hv ha hs VX hf hp=>
   refine⟨_,_,_,hx,?_⟩;simp only[Cx.fy];rw[if_pos ⟨b,hb,_,ho,rfl⟩,hx]
 ·intro b o hb;obtain⟨hd,x,hx,hr⟩:=t1.st.live b o hb;exact⟨hd,x,hx,hr.mono e hd (fun _ h=>h)⟩
 ·intro Cn ms hm;rcases hinv Cn ms hm with h|⟨b,hb,o,ho,lM,c,e,fr,hx,hc⟩
  ·exact hS.iK Cn ms h
  ·exact⟨c,e,fr,hx,hc⟩
 ·intro b o hb;cases hm:(C.fy S w K).M (C.pl b).Cn with
  |none=>exact hm
  |some ms=>
   exfalso;rw[Mz]at hb;split at hb
   ·cases hb
   ·next hnk=>
    rcases hinv _ ms hm with h|⟨b',YN,o',vm,lM,_⟩
    ·rw[hS.apart b o hb]at h;cases h
    ·exact hnk (hS.inj b' b o' o vm hb lM▸YN)
 ·intro Cn ms hm;rcases hinv Cn ms hm with h|⟨b,hb,o,ho,lM,_⟩
  ·exact .inl h
  ·exact .inr (.inr ⟨b,o,ho,ZP b hb,lM⟩)
theorem GN {C C':Cx} {m:Nat} (hD:∀b,b<m→C'.D b→C.D b∧C'.pl b=C.pl b) (hG:∀b n,b<m→C'.G b n→C.G b n∧C'.gh b n=C.gh b n):
 ∀(n:Nat) {v:AV} {x:Value},Cz m n v=true→VR C' v x→VR (C.Yi C') v x
 |n+1,v,x,h,hv=>by
  have many:∀ {l:List AV} {xs:List Value},l.all (Cz m n)=true→VS C' l xs→VS (C.Yi C') l xs:=by
   intro l;induction l with
   |nil=>intro xs _ hv;cases hv;exact .nil
   |cons a l ih=>
    intro xs h hv;simp only[List.all_cons,Qf]at h;cases hv with
    |cons h1 t=>exact .cons (GN hD hG n h.1 h1) (ih h.2 t)
  have yM:Ext C'.bare (C.Yi C').bare:=⟨fun _ x=>x.elim,fun _ x=>x.elim,fun _ _ h=>h,fun _ _ x=>x.elim,fun _ _ x=>x.elim,fun _ h=>h⟩
  cases hv with
  |bool b=>exact .bool b
  |int k n=>exact .int k n
  |str hs=>exact .str hs
  |CJ=>exact .CJ
  | @ptr _ b off hd=>
   simp only[Cz]at h;obtain⟨h1,h2⟩:=hD b (by simpa[Nat.blt_eq]using h) hd;rw[h2];exact VR.ptr (C:=C.Yi C') h1
  |WO hm ha Wk hc=>exact .WO (C:=C.Yi C') hm ha (many (by simpa[Cz]using h) Wk) hc
  |Ca a hx=>exact .Ca a hx
  | @slice _ b off len sz cap c hd hc Yl=>
   simp only[Cz]at h;obtain⟨h1,h2⟩:=hD b (by simpa[Nat.blt_eq]using h) hd;rw[h2];refine VR.slice (C:=C.Yi C') h1 ?_ Yl;cases cap with
   |some k=>exact hc
   |none=>simp only[mf,h2]at hc;exact hc
  | @Xj _ b off sz a c hx hd hc=>
   simp only[Cz]at h;obtain⟨h1,h2⟩:=hD b (by simpa[Nat.blt_eq]using h) hd;rw[h2]at hc;exact VR.Xj (C:=C.Yi C') hx h1 hc
  |VT a h0 Yl=>exact .VT a h0 Yl
  | @Cd _ Cn off len sz c cl cs ms vs hl hm ha Wk hc VX Yl=>
   simp only[Cz,Bool.or_eq_true]at h;refine VR.Cd (C:=C.Yi C') hl hm ha ?_ (fun XK=>(hc XK).mono yM) VX Yl;rcases h with h|h
   ·exact((hc h).mono yM).mono (.ov _)
   ·exact many h Wk
  |VU=>exact .VU
  | @map _ b hd=>
   simp only[Cz]at h;obtain⟨h1,h2⟩:=hD b (by simpa[Nat.blt_eq]using h) hd;rw[h2];exact VR.map (C:=C.Yi C') h1
  | @YS _ b n hg=>
   simp only[Cz]at h;obtain⟨h1,h2⟩:=hG b n (by simpa[Nat.blt_eq]using h) hg;rw[h2];exact VR.YS (C:=C.Yi C') h1
  |ab p=>exact .ab p
  | @func _ fn a b x y hf ha hb=>
   have:(a.all (Cz m n)&&b.all (Cz m n))=true:=by
    cases fn with
    |yield l=>exact absurd rfl (hf l)
    |_=>simpa[Cz]using h
   simp only[Qf]at this;exact .func hf (many this.1 ha) (many this.2 hb)
  | @yield _ l hd=>
   simp only[Cz]at h;obtain⟨h1,h2⟩:=hD l (by simpa[Nat.blt_eq]using h) hd;rw[h2];exact VR.yield (C:=C.Yi C') h1
  |Cu=>exact .Cu
  |iface hu=>exact .iface (GN hD hG n (by simpa[Cz]using h) hu)
  |C8=>exact .C8
  |agg Wk VX=>exact .agg (many (by simpa[Cz]using h) Wk) VX
  |tuple Wk=>exact .tuple (many (by simpa[Cz]using h) Wk)
section
variable {E : Env} {P : Program}
theorem Ij {n:Nat} {v v':AV} {S S':St} (h:Wb n v S=some (v',S')) {C:Cx} {w:World} (hS:Wn C S w) {x:Value} (hv:VR C v x):∃C',Cv C S w C' S' w∧VR C' v' x:=by
 unfold Wb at h;obtain⟨p,hp,h⟩:=Qa.1 h;cases h;obtain⟨hf,ht⟩:=rU hS p.2;exact⟨_,ht,P9 hS hf 40 (v':=p.1) (jV:=p.2) hp (fun _ h=>h) hv⟩
theorem UR {f:FuncId} {s0:St} {v v':AV} {S S':St} (h:frozen E f s0 v S=some (v',S')) {C:Cx} {w:World} (hS:Wn C S w) {x:Value} (hv:VR C v x):∃C',Cv C S w C' S' w∧VR C' v' x:=by
 unfold frozen at h;split at h
 ·cases h;exact⟨C,Cv.refl hS,hv⟩
 ·split at h
  ·exact Ij h hS hv
  ·cases h;exact⟨C,Cv.refl hS,hv⟩
 ·exact Ij h hS hv
def CrR (C:Cx) (S:St) (w:World) (x:Value) (w':World):CR→Prop
 | .same v=>∃C',Cv C S w C' S w'∧VR C' v x
 | .val v S'=>∃C',Cv C S w C' S' w'∧VR C' v x
 | .WD _ _=>False
theorem QM {f:FuncId} {S S1:St} {v:AV} {cr:CR} (h:leave E f S v S1=some cr) {C C1:Cx} {w w1:World} (hS:Wn C S w) (t:Cv C S.enter w C1 S1 w1) {x:Value} (hv:VR C1 v x):CrR C S w x w1 cr:=by
 unfold leave at h;obtain⟨p,hp,h⟩:=Qa.1 h;cases h;obtain⟨v',S'⟩:=p;obtain⟨C2,t2,oB⟩:=UR hp t.st hv;have t3:=t.trans t2;unfold Yx;simp only;split
 ·next Wm=>
  cases hu:Cz S.next 40 v' with
  |false=>exact⟨C2,t3.back hS,oB⟩
  |true=>
   refine⟨_,t3.forget hS Wm,GN (m:=S.next) (fun b hb hd=>?_) (fun b n hb hg=>?_) 40 hu oB⟩
   ·have mr:C.D b:=(t3.fW b hd).resolve_right (fun h=>by have:S.next≤b:=h;omega);exact⟨mr,t3.ext.pl b mr⟩
   ·have jq:=t3.st.stamps b n hg;have mr:C.D b:=(t3.fW b jq).resolve_right (fun h=>by have:S.next≤b:=h;omega);have hk:=(t3.kept b mr (fun hm=>by
     rcases hm with hm|hm
     ·rw[Wm]at hm;cases hm
     ·have:S.next≤b:=hm;omega)).2 n hg
    exact⟨hk,t3.ext.gh b n hk⟩
 ·exact⟨C2,t3.back hS,oB⟩
end
def dA (n:String):Bool:=n== "internal/abi.NoEscape" ||n== "internal/bytealg.MakeNoZero" ||n== "internal/bytealg.CountString" ||n== "internal/bytealg.IndexByteString"
def fA (fn:Func):Bool:= !(dA fn.name)||(Extern.allNextRows.lookup fn.origin).isNone
theorem MB {fn:Func} {n:String} {e:Array Value→Sem Value} (hn:fn.name=n) (h1:Extern.allGenericRows.lookup n=none) (h2:Extern.allTypedRows.lookup n=none) (h3:Extern.allRows.lookup n=some e):
 Extern.find fn=some e:=by
 unfold Extern.find;simp[hn,h1,h2,h3]
theorem S6 {fn:Func} {n:String} {e:Extern.Typed} (hn:fn.name=n) (h1:Extern.allGenericRows.lookup n=none) (h2:Extern.allTypedRows.lookup n=some e):
 Extern.find fn=some (e fn.params fn.resultTypes):=by
 unfold Extern.find;simp[hn,h1,h2]
theorem EE {fn:Func} {n:String} (hn:fn.name=n) (h1:Extern.allNextRows.lookup n=none) (h2:(Extern.allNextRows.lookup fn.origin).isNone=true):Extern.findNext fn=none:=by
 unfold Extern.findNext;have:Extern.allNextRows.lookup fn.origin=none:=by simpa using h2
 simp[hn,h1,this]
section
variable {E : Env} {P : Program} (he : CN E P)
include he
theorem MG {o:Oper} {c:Call} {f:FuncId} {fn:Func} {e:Array Value→Sem Value} (ho:o.op= .call c) (hc:c.callee= .value (.func f)) (hf:E.fns.get f=some fn) (hb:fn.body.isNone=true) (hn:Extern.findNext fn=none)
 (hfd:Extern.find fn=some e) (a:Act) (w:World):(execOp a.eval o).run P w=((e (c.args.toList.map a.eval).toArray).run P w).andThen fun v w'=> .ok (.value v) w':=by
 simp only[execOp,ho,resolve,hc,Act.eval,Deferred.ofValue,Sem.run_bind,Sem.run_pure,Result.andThen_ok,invoke,Array.empty_append,Array.append_empty];rw[Gi,run_callFunc_extern (he.fn f fn hf) (he.lone f fn hf) hb hn hfd]
omit he in
theorem toU8 {n:Nat} (h:n<256) (b:UInt8):(b==n.toUInt8)=Nat.beq b.toNat n:=by
 have h1:n.toUInt8.toNat=n:=by simp[Nat.mod_eq_of_lt h]
 cases hb:Nat.beq b.toNat n with
 |true=>
  have:=Qb hb;have:b=n.toUInt8:=UInt8.toNat_inj.1 (by rw[h1];exact this);simp[this]
 |false=>
  have:=Nat.ne_of_beq_eq_false hb;have Xl:b≠n.toUInt8:=fun e=>this (by rw[e,h1]);simp[Xl]
omit he in
theorem Vn {n:Nat} (h:n<256):∀l:List UInt8,Go.Lib.countByte l n.toUInt8=aN n l
 | []=>rfl
 |b::l=>by
  have ih:=Vn h l;simp only[Go.Lib.countByte,aN]at ih⊢;rw[List.count_cons,toU8 h,ih];cases Nat.beq b.toNat n<;>rfl
omit he in
theorem U9 {n:Nat} (h:n<256):∀l:List UInt8,Go.Lib.indexByte l n.toUInt8=(match jm n l with|some k=>(k:Int)|none=> -1)
 | []=>rfl
 |b::l=>by
  have ih:=U9 h l;simp only[Go.Lib.indexByte,jm,toU8 h];cases Nat.beq b.toNat n with
  |true=>rfl
  |false=>
   simp only[Bool.false_eq_true,if_false,cond_false];rw[ih];cases hi:jm n l with
   |none=>rfl
   |some k=>
    simp only[Qe];have:¬(((k:Int)== -1)=true):=by
     intro h;simp at h
    rw[if_neg this];rfl
omit he in
theorem H8:∀(n t:Nat) (acc:Array Value),(Extern.BytealgMakeNoZero.digits n t acc).size=acc.size+n
 |0,_,_=>rfl
 |n+1,t,acc=>by
  rw[Extern.BytealgMakeNoZero.digits,H8 n,Array.size_push];omega
theorem Sk {t e:TypeId} (hu:C7 E t=some (.slice e)) (ps:Array TypeId) (n:Nat) (hn:n≤281474976710656) (w:World):
 ∃cs:Array Value,(Extern.BytealgMakeNoZero.makeNoZero ps #[t] #[.int .i64 (n:Int)]).run P w= .ok (.slice (some ⟨w.heap.size,0,none⟩) n cs.size) (World.VN {w with drawn:=w.drawn+1+1} (.cells cs e (0,0)))∧n≤cs.size:=by
 have h1:¬(n:Int)<0:=by omega
 have h2:¬(281474976710656:Int)<(n:Int):=by omega
 have rV:∃(m1 m2:String) (q:Question),Extern.BytealgMakeNoZero.makeNoZero ps #[t] #[.int .i64 (n:Int)]=
  (do
   let .slice elem←underlying t|stuck m1
   if(n:Int)<0||(n:Int)>2^48 then runtimePanic (.error m2)
   let cap←choose (.appendCap (n:Int).toNat 0 elem)
   askRoom cap
   let bytes←choose q
   let a←newRow elem (Extern.BytealgMakeNoZero.digits cap bytes #[])
   pure (.slice (some a) (n:Int).toNat cap))∧q.forced=false:=⟨_,_,_,rfl,rfl⟩
 obtain⟨m1,m2,q,rV,hq⟩:=rV;refine⟨Extern.BytealgMakeNoZero.digits (grownCap w n 0 e) (q.cut (w.tape (w.drawn+1) q)) #[],?_,?_⟩
 ·rw[rV];have dK:(Question.appendCap n 0 e).forced=false:=rfl;simp[run_underlying (Ed he hu),h1,h2,hq,dK,newRow,H8,grownCap,World.VN];rfl
 ·rw[H8];simpa using grownCap_ge w n 0 e
omit he in
theorem PL {a b v:AV} (h:ix a b=some v):∃l c,a= .str l∧b= .int .u8 ((c:Nat):Int)∧c<256∧v= .int .i64 (aN c l):=by
 unfold ix at h;split at h
 ·next l c=>
  cases C6:Nat.blt c 256 with
  |false=>rw[C6]at h;cases h
  |true=>rw[C6]at h;cases h;exact⟨l,c,rfl,rfl,by simpa[Nat.blt_eq]using C6,rfl⟩
 ·cases h
omit he in
theorem Kh {a b v:AV} (h:ZI a b=some v):∃l c,a= .str l∧b= .int .u8 ((c:Nat):Int)∧c<256∧v= .int .i64 (match jm c l with|some k=>(k:Int)|none=> -1):=by
 unfold ZI at h;split at h
 ·next l c=>
  cases C6:Nat.blt c 256 with
  |false=>rw[C6]at h;cases h
  |true=>
   rw[C6]at h;simp only[cond_true]at h;refine⟨l,c,rfl,rfl,by simpa[Nat.blt_eq]using C6,?_⟩;cases hi:jm c l with
   |none=>rw[hi]at h;cases h;rfl
   |some k=>rw[hi]at h;cases h;rfl
 ·cases h
theorem Aam (n6:∀f fn,E.fns.get f=some fn→fA fn=true) {o:Oper} {c:Call} {f:FuncId} (ho:o.op= .call c) (hc:c.callee= .value (.func f)) (hb:CI E f=false):
 XN E P o (eY E f (nameOf E f) c.args.toList):=by
 cases hf:E.fns.get f with
 |none=>
  have:nameOf E f= "" :=by simp[nameOf,hf]
  rw[this];unfold eY;split
  ·exact A5
  ·exact A5
  ·exact A5
 |some fn=>
 have qL:nameOf E f=fn.name:=by simp[nameOf,hf]
 have dQ:fn.body.isNone=true:=by
  unfold CI at hb;rw[hf]at hb;cases hq:fn.body with
  |none=>rfl
  |some x=>simp only[hq]at hb;cases hb
 have Aan:=n6 f fn hf;have org:dA fn.name=true→(Extern.allNextRows.lookup fn.origin).isNone=true:=by
  intro h;unfold fA at Aan;rw[h]at Aan;simpa using Aan
 rw[qL];unfold eY;split
 ·next x X0=>
  cases h1:(fn.name== "internal/abi.NoEscape")with
  |true=>
   have hn:fn.name= "internal/abi.NoEscape" :=by simpa using h1
   have ht:=org (by simp[dA,h1]);have run:=MG he ho hc hf dQ (EE hn (by kernel_rfl) ht) (MB (e:=Extern.AbiNoEscape.same) hn (by kernel_rfl) (by kernel_rfl) (by kernel_rfl));intro C T a S w hg hT hS v h;refine⟨a.eval x,?_,Ay hg hT h⟩;rw[run,X0];rfl
  |false=>
  cases h2:(fn.name== "internal/bytealg.MakeNoZero")with
  |true=>
   have hn:fn.name= "internal/bytealg.MakeNoZero" :=by simpa using h2
   have ht:=org (by simp[dA,h2]);have run:=MG he ho hc hf dQ (EE hn (by kernel_rfl) ht) (S6 (e:=Extern.BytealgMakeNoZero.makeNoZero) hn (by kernel_rfl) (by kernel_rfl));simp only[cond_false,cond_true];rw[hf];cases aW:qu E (some fn)with
   |none=>exact A5
   |some e=>
   simp only;have hrt:∃t,fn.resultTypes= #[t]∧C7 E t=some (.slice e):=by
    unfold qu at aW;split at aW
    ·next fn' kZ=>
     cases kZ;split at aW
     ·next t hl=>
      split at aW
      ·next e' hu=>
       cases hq:isByte E e' with
       |false=>rw[hq]at aW;cases aW
       |true=>
        rw[hq]at aW;cases aW;exact⟨t,by apply Array.ext';simpa using hl,hu⟩
      ·cases aW
     ·cases aW
    ·cases aW
   obtain⟨t,hrt,hu⟩:=hrt;intro C T a S w hg hT hS;have key:∀m,((Cc E x T).bind (gZ e))=some m→∃n:Nat,VR C (.int .i64 (n:Int)) (a.eval x)∧0<n∧n≤1099511627776∧m= .obj (.cells [] e true) fun i=> .slice i 0 n 1 none:=by
    intro m h;obtain⟨v,hv,h⟩:=Qa.1 h;unfold gZ at h;split at h
    ·next n=>
     cases iL:(Nat.blt 0 n&&Nat.ble n 1099511627776)with
     |false=>rw[iL]at h;cases h
     |true=>
      rw[iL]at h;simp only[cond_true,Option.some.injEq]at h;rw[Qf]at iL;exact⟨n,Ay hg hT hv,by simpa[Nat.blt_eq]using iL.1,Qc iL.2,h.symm⟩
    ·cases h
   refine⟨fun v h=>?_,fun ob g h=>?_⟩
   ·obtain⟨n,_,_,_,h⟩:=key _ h;cases h
   ·obtain⟨n,hv,mn,fB,h⟩:=key _ h;cases h;generalize hq:a.eval x=q at hv;cases hv;obtain⟨cs,zN,hle⟩:=Sk he hu fn.params n (by omega) w;have gN:=Cv.drew hS (w.drawn+1);have pW:=Cv.drew gN.st (w.drawn+1+1);have jj:=EI pW.st (cs:=[]) (c:=cs) (vs:=[]) (ex:=cs.toList) .nil (by simp) (fun _ h=>by cases h) e true (fun h=>by cases h);refine⟨_,_,_,?_,(gN.trans pW).trans jj,Fa (n:=cs.size) (cap:=none) (c:=cs.size) ⟨by simp,Nat.one_pos⟩ hle⟩;rw[run,X0];simp only[List.map_cons,List.map_nil,hq,hrt];rw[zN];rfl
  |false=>
   simp only[cond_false];exact A5
 ·next x y X0=>
  cases h1:(fn.name== "internal/bytealg.CountString")with
  |true=>
   have hn:fn.name= "internal/bytealg.CountString" :=by simpa using h1
   have ht:=org (by simp[dA,h1]);have run:=MG he ho hc hf dQ (EE hn (by kernel_rfl) ht) (MB (e:=Extern.BytealgCount.count) hn (by kernel_rfl) (by kernel_rfl) (by kernel_rfl));intro C T a S w hg hT hS v h;obtain⟨u1,hu1,h⟩:=Qa.1 h;obtain⟨u2,qT,h⟩:=Qa.1 h;have lH:=Ay hg hT hu1;have oB:=Ay hg hT qT;obtain⟨l,c',rfl,rfl,gQ,rfl⟩:=PL h;generalize dK:a.eval x=q1 at lH;generalize jg:a.eval y=q2 at oB;cases lH with
   | @str _ _ s hs=>
   cases oB;refine⟨_,?_,.int _ _⟩;rw[run,X0];simp only[List.map_cons,List.map_nil,dK,jg];have:=Go.Lib.run_countString (P:=P) s (c':Int) w;simp only[Int.toNat_natCast]at this;rw[hs,Vn gQ]at this;show((Extern.BytealgCount.count #[.string s,.int .u8 (c':Int)]).run P w).andThen _=_;rw[this];rfl
  |false=>
  cases h2:(fn.name== "internal/bytealg.IndexByteString")with
  |true=>
   have hn:fn.name= "internal/bytealg.IndexByteString" :=by simpa using h2
   have ht:=org (by simp[dA,h2]);have run:=MG he ho hc hf dQ (EE hn (by kernel_rfl) ht) (MB (e:=Extern.BytealgIndexByte.indexByte) hn (by kernel_rfl) (by kernel_rfl) (by kernel_rfl));intro C T a S w hg hT hS v h;obtain⟨u1,hu1,h⟩:=Qa.1 h;obtain⟨u2,qT,h⟩:=Qa.1 h;have lH:=Ay hg hT hu1;have oB:=Ay hg hT qT;obtain⟨l,c',rfl,rfl,gQ,rfl⟩:=Kh h;generalize dK:a.eval x=q1 at lH;generalize jg:a.eval y=q2 at oB;cases lH with
   | @str _ _ s hs=>
   cases oB;have:=Go.Lib.run_indexByteString (P:=P) s (c':Int) w;simp only[Int.toNat_natCast]at this;rw[hs,U9 gQ]at this;refine⟨_,?_,.int _ _⟩;rw[run,X0];simp only[List.map_cons,List.map_nil,dK,jg];show((Extern.BytealgIndexByte.indexByte #[.string s,.int .u8 (c':Int)]).run P w).andThen _=_;rw[this];rfl
  |false=>
   simp only[cond_false];exact A5
 ·exact A5
omit he in
theorem wD {C:Cx} {S:St} {w:World} (hS:Wn C S w) {ts:Array TypeId} {ty e:TypeId} (hp:P.underlying ty=some (.pointer e)) (a:Option Addr) (ha:oX C a) (n c:Nat):
 ∃C' p w',(Builtin.unsafeSliceData_ ts ty #[.slice a n c]).run P w= .ok (.pointer p) w'∧Cv C S w C' S w':=by
 cases a with
 |none=>exact⟨C,none,w,rfl,Cv.refl hS⟩
 |some ad=>
  cases c with
  |succ c=>exact⟨C,some ad,w,rfl,Cv.refl hS⟩
  |zero=>
   have rV:Builtin.unsafeSliceData_ ts ty #[.slice (some ad) n 0]=
    (do
     if(0:Nat)≠0 then pure (.pointer (some ad))
     else if(←viewAt ad.block).isSome then pure (.pointer (some ad))
     else pure (.pointer (some ⟨←newObj (.view ad (←elemOf ty)),0,none⟩))):=rfl
   rw[rV];have C6:=hS.there _ (ha ad rfl);have hx:w.heap[ad.block]?=some w.heap[ad.block]:=Array.getElem?_eq_getElem C6;generalize w.heap[ad.block]=x at hx;have hel:(elemOf ty).run P w= .ok e w:=by simp[elemOf,run_underlying hp]
   have made:(viewAt ad.block).run P w= .ok none w→∃C' p w',(do
    if(0:Nat)≠0 then pure (.pointer (some ad))
    else if(←viewAt ad.block).isSome then pure (.pointer (some ad))
    else pure (.pointer (some ⟨←newObj (.view ad (←elemOf ty)),0,none⟩)):Sem Value).run P w= .ok (.pointer p) w'∧Cv C S w C' S w':=by
    intro hv;refine⟨C,some ⟨w.heap.size,0,none⟩,World.VN w (.view ad e),?_,IN hS _⟩;simp[hv,hel,World.VN]
   cases x with
   |cells q t f=>exact made (by simp[viewAt,World.shape?,hx])
   |view q t=>
    refine⟨C,some ad,w,?_,Cv.refl hS⟩;have hv:(viewAt ad.block).run P w= .ok (some (q,t)) w:=by
     simp only[viewAt,Sem.run_bind,run_shape,World.shape?,hx,Result.andThen_ok];simp[AR hx (by simp)]
    simp[hv]
   |_=>
    refine made ?_;simp only[viewAt,Sem.run_bind,run_shape,World.shape?,hx,Result.andThen_ok];simp[AR hx (by simp)]
theorem wE {o:Oper} {c:Call} {x:Operand} (ho:o.op= .call c) (hc:c.callee= .builtin .unsafeSliceData) (X0:c.args.toList=[x]):XN E P o (oo E o.type x):=by
 unfold oo;split
 ·next e hu=>
  have hp:=Ed he hu;have n4:∀ρ:Operand→Value,c.args.map ρ= #[ρ x]:=by intro ρ;apply Array.ext';simp[X0]
  have aX:∀(ρ:Operand→Value) (w:World),(execOp ρ o).run P w=((Builtin.unsafeSliceData_ c.argTypes o.type #[ρ x]).run P w).andThen fun v w'=> .ok (.value v) w':=by
   intro ρ w;simp only[execOp,ho,resolve,hc,Sem.run_bind,Sem.run_pure,Result.andThen_ok,invoke,builtin,n4]
  intro C T a S w hg hT hS;refine⟨fun v h=>?_,fun ob g h=>?_⟩
  ·obtain⟨u,eD,h⟩:=Qa.1 h;have hv:=Ay hg hT eD;rw[aX];unfold jF at h;split at h
   ·next r hr=>
    cases h;have ab:∀ad n k,a.eval x= .slice ad n k→oX C ad→v= .ab→∃C' y w',((Builtin.unsafeSliceData_ c.argTypes o.type #[a.eval x]).run P w).andThen (fun v w'=> .ok (Next.value v) w')= .ok (.value y) w'∧Cv C S w C' S w'∧VR C' v y:=by
     intro ad n k h1 h2 h3;obtain⟨C',p,w',hr,ht⟩:=wD (P:=P) hS (ts:=c.argTypes) hp ad h2 n k;exact⟨C',.pointer p,w',by rw[h1,hr];rfl,ht,by rw[h3];exact .ab p⟩
    generalize hq:a.eval x=q at hv;cases hv with
    |Ca ad hx=>cases hr;rw[←hq];exact ab _ _ _ hq hx rfl
    | @slice _ b off len sz cap k hd YM Yl=>
     cases len with
     |zero=>cases hr;rw[←hq];exact ab _ _ _ hq (.some (hS.Ww _ hd)) rfl
     |succ len=>
      cases hr;refine⟨C,_,w,?_,Cv.refl hS,.ptr hd⟩;cases k with
      |zero=>omega
      |succ k=>rfl
    |Xj hx hd YM=>cases hr;rw[←hq];exact ab _ _ _ hq (.some hx) rfl
    |_=>simp[qt]at hr
   ·cases h
  ·obtain⟨u,eD,h⟩:=Qa.1 h;unfold jF at h;split at h<;>cases h
 ·exact A5
omit he in
theorem O7 {C:Cx} {S:St} {w:World} (h:Wn C S w) {b:Nat} {o0:CB} (du:S.heap.get b=some o0) (x:Obj):Cv C S w C (S.put b none) (World.CP w (C.pl b).Cn x):=by
 have aG:=fun k=>JM S b k none;have f:∀j oj,(S.put b none).heap.get j=some oj→j≠b∧S.heap.get j=some oj:=by
  intro j oj hj;rw[aG]at hj;split at hj
  ·cases hj
  ·next Xl=>exact⟨Xl,hj⟩
 refine⟨.refl C,⟨fun k ok hk=>?_,fun k k' ok oy hk gL=>h.inj k k' ok oy (f k ok hk).2 (f k' oy gL).2,h.fresh,fun Cn ms hm=>?_,fun k ok hk=>h.apart k ok (f k ok hk).2,h.stamps,
  fun k hk=>by simpa[World.CP]using h.there k hk,h.Ww,h.Xu⟩,rfl,(EO S b _).2,Qj _,by simp[World.CP],fun Cn _ hn=>?_,fun k _ hm=>?_,fun _ h=> .inl h,
  fun k ok hk=> .inl ⟨(h.live k ok (f k ok hk).2).1,ok,(f k ok hk).2⟩,fun _ _ h=> .inl h,⟨rfl,rfl,rfl⟩⟩
 ·obtain⟨Xl,gL⟩:=f k ok hk;obtain⟨hd,y,hy,hr⟩:=h.live k ok gL;exact⟨hd,y,by rw[BC,if_neg (fun e=>Xl (h.inj k b ok o0 gL du e))];exact hy,hr⟩
 ·obtain⟨c,ty,fr,hc,e⟩:=h.iK Cn ms hm;refine⟨c,ty,fr,?_,e⟩;rw[BC,if_neg];· exact hc
  intro e';have:=h.apart b o0 du;rw[←e',hm]at this;cases this
 ·rw[BC,if_neg];intro e;exact hn b o0 du (EO S b _).1 e.symm
 ·have hk:k≠b:=by rintro rfl;exact hm (EO S k _).1
  exact⟨by rw[aG,if_neg hk],fun _ h=>h⟩
omit he in
theorem Ia:∀(ns:List Int) (a:Addr) (acc:ByteArray) {w:World},jo w a (ns.map (.int .u8))→(∀i j,(a.add i).add j=a.add (i+j))→
 (loadBytes a acc ns.length).run P w= .ok ⟨acc.data++(ns.map fun n=>UInt8.ofNat n.toNat).toArray⟩ w
 | [],a,acc,w,_,_=>by simp[loadBytes]
 |n::ns,a,acc,w,h,wF=>by
  have h0:w.cell? a=some (.int .u8 n):=by
   have:=h 0 (.int .u8 n) rfl;simpa[Addr.add]using this
  have ih:=Ia ns (a.add 1) (acc.push n.toNat.toUInt8) (w:=w) (fun j v hj=>by rw[wF];rw[Nat.add_comm];exact h (j+1) v (by simpa using hj)) (fun i j=>by rw[wF,wF,wF,Nat.add_assoc]);simp only[List.length_cons,loadBytes,Sem.run_bind,run_load,h0,Result.andThen];rw[ih]
  congr 1
  apply ByteArray.ext;simp[ByteArray.push]
theorem Sq {e:TypeId} (hn:Am.sizeOf E e=some 1) {count off n:Nat} (h:off+n≤count):liesAt P P.depth e (count/P.cellsOf e) off e n=true:=by
 have hc:=IL (P:=P) he hn;have qP:∃q,P.depth=q+2:=⟨_,rfl⟩
 obtain⟨q,hq⟩:=qP;rw[hc,Nat.div_one,hq,liesAt];refine Bool.or_eq_true_iff.2 (.inl ?_);rw[hq,rowAt,hc];simp[h,sameLayout,Nat.mod_one]
omit he in
theorem UT {w:World} {Cn off n:Nat} {c:Array Value} {e:TypeId} {fr:Nat×Nat} (h:w.heap[Cn]?=some (.cells c e fr)) (hn:n≠0):
 ∃Xz,w.freeze ⟨Cn,off,none⟩ n=World.CP w Cn (.cells c e Xz):=by
 unfold World.freeze World.CP;rw[if_neg hn,NK h];exact⟨_,rfl⟩
omit he in
theorem Ny {s:St} {e' n:Nat} {v:AV} {r:AV×St} (h:dj s E e' n v=some r):
 (n=0∧r=(.str [],s)∧(v= .CJ∨v= .ab∨∃b off,v= .ptr b off))∨(n≠0∧∃b off,v= .ptr b off∧cz s E e' b off n (s.heap.get b)=some r):=by
 unfold dj at h;split at h
 ·cases h0:Nat.beq n 0 with
  |true=>rw[h0]at h;cases h;exact .inl ⟨Qb h0,rfl,.inr (.inr ⟨_,_,rfl⟩)⟩
  |false=>rw[h0]at h;exact .inr ⟨Nat.ne_of_beq_eq_false h0,_,_,rfl,h⟩
 ·cases h0:Nat.beq n 0 with
  |true=>rw[h0]at h;cases h;exact .inl ⟨Qb h0,rfl,.inr (.inl rfl)⟩
  |false=>rw[h0]at h;cases h
 ·cases h0:Nat.beq n 0 with
  |true=>rw[h0]at h;cases h;exact .inl ⟨Qb h0,rfl,.inl rfl⟩
  |false=>rw[h0]at h;cases h
 ·cases h
omit he in
theorem Mi {s:St} {e' b off n:Nat} {o:Option CB} {r:AV×St} (h:cz s E e' b off n o=some r):
 ∃cs part l q,o=some (.cells cs e' part)∧cut cs off n=some l∧WR l=some q∧r=(.str q,s.put b none):=by
 unfold cz at h;split at h
 ·next cs e part=>
  cases vn:(Nat.beq e e'&&isByte E e)with
  |false=>rw[vn]at h;cases h
  |true=>
   rw[vn]at h;simp only[cond_true]at h;rw[Qf]at vn;have:=Qb vn.1;subst this;obtain⟨l,hl,h'⟩:=Qa.1 h;obtain⟨q,hq,h''⟩:=Qa.1 h';cases h'';exact⟨_,_,l,q,rfl,hl,hq,rfl⟩
 ·cases h
theorem Aao {o:Oper} {c:Call} {t:TypeId} {ts:List TypeId} {x y:Operand} (ho:o.op= .call c) (hc:c.callee= .builtin .unsafeString) (jt:c.argTypes.toList=t::ts) (X0:c.args.toList=[x,y]):
 XN E P o (gY E t x y):=by
 unfold gY;split
 ·next e hu=>
  cases bW:(isByte E e&&Nat.beq ((Am.sizeOf E e).getD 0) 1)with
  |false=>exact A5
  |true=>
  rw[Qf]at bW;have XA:Am.sizeOf E e=some 1:=by
   cases hq:Am.sizeOf E e with
   |none=>rw[hq]at bW;exact absurd bW.2 (by decide)
   |some k=>
    have h1:=bW.2;rw[hq]at h1;have:k=1:=Qb h1;rw[this]
  have hp:=Ed he hu;have n4:∀ρ:Operand→Value,c.args.map ρ= #[ρ x,ρ y]:=by intro ρ;apply Array.ext';simp[X0]
  have pe:c.argTypes[0]?=some t:=by rw[←Array.getElem?_toList,jt];rfl
  have aX:∀(ρ:Operand→Value) (w:World),(execOp ρ o).run P w=((Builtin.unsafeString_ c.argTypes o.type #[ρ x,ρ y]).run P w).andThen fun v w'=> .ok (.value v) w':=by
   intro ρ w;simp only[execOp,ho,resolve,hc,Sem.run_bind,Sem.run_pure,Result.andThen_ok,invoke,builtin,n4]
  intro C T a S w hg hT hS v S' h;obtain⟨av,cj,h⟩:=Qa.1 h;obtain⟨bv,pj,h⟩:=Qa.1 h;obtain⟨n,hn,h⟩:=Qa.1 h;have hv:=Ay hg hT cj;have hw:=Ay hg hT pj;cases hle:Nat.ble n 1099511627776 with
  |false=>rw[hle]at h;cases h
  |true=>
  rw[hle]at h;simp only[cond_true]at h;have hle':=Qc hle;obtain⟨k,hk⟩:∃k,a.eval y= .int k (n:Int):=by
   unfold VW at hn;split at hn
   ·next k' m=>
    cases hn;generalize a.eval y=q at hw;cases hw;exact⟨_,rfl⟩
   ·cases hn
  have Aap:IntKind.i64.max=9223372036854775807:=rfl;have iN:¬((n:Int)<0):=by omega
  have hbig:¬((9223372036854775807:Int)<(n:Int)):=by omega
  have rW:∃(m1 m2 m3:String) (u:Unsupported),∀(ts:Array TypeId) (ty:TypeId) (l:Value),Builtin.unsafeString_ ts ty #[.pointer none,l]=
   (do
    let n←asInt l
    let some pt:=ts[0]?|stuck m1
    if n<0 then runtimePanic (.error m2)
    if n>IntKind.i64.max then unsupported u
    if n=0 then pure (.string .empty)
    else runtimePanic (.error m3)):=⟨_,_,_,_,fun _ _ _=>rfl⟩
  have oD:∃(m1 m2:String) (u u':Unsupported),∀(ts:Array TypeId) (ty:TypeId) (l:Value) (ad:Addr),Builtin.unsafeString_ ts ty #[.pointer (some ad),l]=
   (do
    let n←asInt l
    let some pt:=ts[0]?|stuck m1
    if n<0 then runtimePanic (.error m2)
    if n>IntKind.i64.max then unsupported u
    if n=0 then pure (.string .empty)
    else if←variablesAt ad (←elemOf pt) n.toNat then do
     let s←loadBytes ad .empty n.toNat
     freeze ad n.toNat
     pure (.string s)
    else unsupported u'):=⟨_,_,_,_,fun _ _ _ _=>rfl⟩
  obtain⟨_,_,_,_,rW⟩:=rW;obtain⟨_,_,_,_,oD⟩:=oD;have nothing:∀p,a.eval x= .pointer p→n=0→(execOp a.eval o).run P w= .ok (.value (.string .empty)) w:=by
   intro p hpx h0;subst h0;rw[aX,hpx,hk];cases p with
   |none=>rw[rW];simp[asInt,asIntOf,pe,Aap]
   |some ad=>rw[oD];simp[asInt,asIntOf,pe,Aap]
  rcases Ny h with⟨h0,kY,bP⟩|⟨mn,b,off,rfl,yE⟩
  ·cases kY;have hpx:∃p,a.eval x= .pointer p:=by
    generalize a.eval x=q at hv;rcases bP with rfl|rfl|⟨b,off,rfl⟩<;>cases hv<;>exact⟨_,rfl⟩
   obtain⟨p,hpx⟩:=hpx;exact⟨C,_,w,nothing p hpx h0,Cv.refl hS,.value (.str U)⟩
  ·obtain⟨cs,part,l,r,mV,hl,hr,p9⟩:=Mi yE;cases p9;generalize hq:a.eval x=q at hv;cases hv with
   |ptr hd=>
   obtain⟨_,xo,hx,n6⟩:=hS.live b _ mV;cases n6 with
   |cells Wk ha hs VX hf gw=>
   rename_i cc fr vs
   obtain⟨pre,post,Aal,X3,pf⟩:=He hl;rw[Aal]at Wk;obtain⟨y1,z3,rfl,h1,h4⟩:=AY Wk;obtain⟨y0,ym,rfl,h2,h3⟩:=AY h1;obtain⟨ns,hns,hrr⟩:=Fg h3 hr;have ZZ:=ha.sub (a:=y0) (b:=ym) (c:=z3) rfl;rw[h2.length,X3]at ZZ;have hlen:ns.length=n:=by
    have:=h3.length;rw[hns]at this;simp only[Qn]at this;omega
   have gy:=Kl hx ZZ;rw[hns]at gy;have lF:=Ia (P:=P) ns ⟨(C.pl b).Cn,(C.pl b).base+off,none⟩ .empty gy (fun i j=>by simp[B7,Nat.add_assoc]);rw[hlen]at lF;have YD:(C.pl b).base+off+n≤cc.size:=by
    have:=ZZ.le;rw[hns]at this;simp only[Qn,hlen,Array.length_toList]at this;exact this
   have qZ:=Sq (P:=P) he XA YD;have hsh:w.shape? (C.pl b).Cn=some (e,cc.size):=by simp[World.shape?,hx]
   obtain⟨Xz,pX⟩:=UT (off:=(C.pl b).base+off) hx mn;refine⟨C,.value (.string ⟨(ByteArray.empty).data++(ns.map fun n=>UInt8.ofNat n.toNat).toArray⟩),_,?_,O7 hS mV (.cells cc e Xz),.value (.str ?_)⟩
   ·rw[aX,hq,hk,←pX,oD];simp[asInt,asIntOf,pe,Aap,iN,hbig,mn,variablesAt,hsh,elemOf,run_underlying hp,qZ,lF]
   ·rw[hrr];simp
 ·exact A5
theorem QY (n6:∀f fn,E.fns.get f=some fn→fA fn=true):Y6 E P:=
 ⟨fun _ _ _ _ h1 h2 h3=>Aam he n6 h1 h2 h3,fun _ _ _ _ h1 h2 h3=>wE he h1 h2 h3,fun _ _ _ _ _ _ _ h1 h2 h3 h4=>Aao he h1 h2 h3 h4⟩
end
def bB (E:Env) (P:Program):Prop:=
 ∀(f:FuncId) (args:List AV) (v:AV),E.Cs f args=some v→∀(C:Cx) (S:St) (w:World) (xs:Array Value) (c:Frame) (cs:List Frame),Wg E C→VS C args xs.toList→Wn C S w→
  Returns P (lone (Frame.enter P f xs .normal) (c::cs) w) c cs C S w (.same v)
section
variable {E : Env} {P : Program}
theorem pU.none {p q:Option AV} {a b:List Frame} (h:pU p q a b) (hp:p=none):b=a:=by
 cases h with
 |same=>rfl
 |py=>cases hp
theorem leaves {b:Frame} {cs:List Frame} {C:Cx} {m:Machine} {ex:Ex} {a:Act} {w:World} (hr:b.roundOf=none) (he:Ends P b [] cs C m ex a w) {mo:Option AV} (hm:cD ex=some mo):
 ∃todo mode,Steps P m (lone (CE b a todo mode) cs w)∧cN C mode mo:=by
 cases ex with
 |normal=>cases hm;exact⟨[],.returning,Steps.trans he (.one (yJ hr)),.ret⟩
 |ret=>cases hm;obtain⟨k2,h⟩:=he;exact⟨_,.returning,Steps.trans h (.one (yK hr)),.ret⟩
 |panic v=>cases hm;obtain⟨k2,x,h,hv,_⟩:=he;exact⟨k2,_,h,.WD hv⟩
 |exit id=>cases hm
theorem CrR.returns {C:Cx} {S:St} {w w':World} {x:Value} {cr:CR} (h:CrR C S w x w' cr) {m:Machine} {c:Frame} {cs:List Frame} (hs:Steps P m (lone (c.finish x) cs w')):Returns P m c cs C S w cr:=by
 cases cr with
 |same v=>obtain⟨C',t,hv⟩:=h;exact⟨C',x,w',hs,t,hv⟩
 |val v S'=>obtain⟨C',t,hv⟩:=h;exact⟨C',x,w',hs,t,hv⟩
 |WD v S'=>cases h
theorem PH (he:CN E P) {ev:Ev} (dP:iR E P ev) {f:FuncId} {fn:Func} (hp:P.funcs[f]?=some fn) {S:St} {r:Z2} {cr:CR} (h:YY E ev f fn S r=some cr) {C C1:Cx} {w w1:World} (hg:Wg E C)
 (hS:Wn C S w) (t:Cv C S.enter w C1 r.st w1) {b:Frame} {a1:Act} (hT:TR C1 r.fr.nt r.T a1.tmps) {c:Frame} {cs:List Frame} (hF:jU C1 r.fr b a1 (c::cs)) (hk:b.kind= .normal) (hr:b.roundOf=none) (hf:b.fn=f)
 {m:Machine} (Zb:Ends P b [] (c::cs) C1 m r.ex a1 w1):Returns P m c cs C S w cr:=by
 unfold YY at h;obtain⟨mo,fC,h⟩:=Qa.1 h;obtain⟨p,ek,h⟩:=Qa.1 h;obtain⟨m',S'⟩:=p;obtain⟨todo,mode,Xm,gR⟩:=leaves hr Zb fC;have eE:=hg.mono t.ext;obtain⟨C2,w2,mode2,jw,t2,Zj⟩:=HE he dP ek eE hF.defs t.st gR b a1.tmps todo (c::cs);have Xp:=Xm.trans jw;have t3:=t.trans t2;unfold endWith at h;cases Zj with
 |ret=>
  simp only at h;obtain⟨vs,Wk,h⟩:=Qa.1 h;have wG:TR C2 a1.tmps.size r.T a1.tmps:=⟨rfl,(hT.mono t2.ext).2⟩
  obtain⟨x,hx,Yq⟩:=JE he wG t3.st Wk;refine(QM h hS t3 Yq).returns (Xp.trans (.one ?_));exact step_leave_returned ⟨rfl,rfl,hk,fn,by show P.funcs[b.fn]?=_;rw[hf];exact hp,hx⟩
 | @WD v x hv=>
  simp only at h;cases h;refine⟨C2,x,w2,Xp.trans (.one ?_),t3.back hS,hv⟩;exact step_leave_panicked ⟨rfl,rfl,fn,by show P.funcs[b.fn]?=_;rw[hf];exact hp⟩
theorem Wn.enter {C:Cx} {S:St} {w:World} (h:Wn C S w):Wn C S.enter w:=h.fk _ _
theorem Q6 {a b:AV} (h:fb a b=true):a=b:=by
 unfold fb at h;split at h
 ·next x y=>cases x<;>cases y<;>first|rfl|cases h
 ·next j a k b=>
  by_cases hk:j=k
  ·rw[if_pos hk]at h;rw[hk,of_decide_eq_true h]
  ·rw[if_neg hk]at h;cases h
 ·next a b=>rw[Bu]at h;rw[of_decide_eq_true h]
 ·rfl
 ·simp only[Qf]at h;rw[Qb h.1,Qb h.2]
 ·rfl
 ·next a b c d e f g i j k=>
  simp only[Qf]at h;obtain⟨⟨⟨⟨h1,h2⟩,h3⟩,h4⟩,h5⟩:=h;rw[Qb h1,Qb h2,Qb h3,Qb h4];unfold y6 at h5;split at h5
  ·rfl
  ·rw[Qb h5]
  ·cases h5
 ·rfl
 ·rw[Qb h]
 ·cases h
theorem Jk:∀ {a b:List AV},cC a b=true→a=b
 | [],[],_=>rfl
 | [],_::_,h=>by cases h
 |_::_,[],h=>by cases h
 |a::l,b::r,h=>by
  simp only[cC,Qf]at h;rw[Q6 h.1,Jk h.2]
theorem HK {a b:AV} (h:Zu a (some b)=true):a=b:=by
 unfold Zu at h;split at h
 ·next e=>cases e;rw[Jk h]
 ·next e=>cases e;rw[Jk h]
 ·next e=>cases e;exact Q6 h
 ·next e=>cases e
mutual
theorem IF:∀ {a b:AV},Za a b=true→a=b
 | .bool a,b,h=>by
  cases b<;>simp only[Za]at h<;>try (cases h;done)
  rename_i b;cases a<;>cases b<;>first|rfl|cases h
 | .int j a,b,h=>by
  cases b<;>simp only[Za]at h<;>try (cases h;done)
  split at h
  ·next hk=>subst hk;simp at h;rw[h]
  ·cases h
 | .str a,b,h=>by
  cases b<;>simp only[Za]at h<;>try (cases h;done)
  rw[Bu]at h;simp at h;rw[h]
 | .CJ,b,h=>by cases b<;>first|rfl|(simp only[Za]at h;cases h)
 | .Ca,b,h=>by cases b<;>first|rfl|(simp only[Za]at h;cases h)
 | .VU,b,h=>by cases b<;>first|rfl|(simp only[Za]at h;cases h)
 | .Cu,b,h=>by cases b<;>first|rfl|(simp only[Za]at h;cases h)
 | .C8,b,h=>by cases b<;>first|rfl|(simp only[Za]at h;cases h)
 | .WO a,b,h=>by
  cases b<;>simp only[Za]at h<;>try (cases h;done)
  rw[Ha h]
 | .Cd a l s c,b,h=>by
  cases b<;>simp only[Za]at h<;>try (cases h;done)
  simp only[Qf]at h;obtain⟨⟨⟨h1,h2⟩,h3⟩,h4⟩:=h;rename_i cl
  have:=Qb h1;have:=Qb h2;have hc:c=cl:=by cases c<;>cases cl<;>first|rfl|cases h3
  subst_vars
  rw[Ha h4]
 | .iface t a,b,h=>by
  cases b<;>simp only[Za]at h<;>try (cases h;done)
  rw[Qf]at h;have:=Qb h.1;subst this;rw[IF h.2]
 | .agg a,b,h=>by
  cases b<;>simp only[Za]at h<;>try (cases h;done)
  rw[Ha h]
 | .tuple a,b,h=>by
  cases b<;>simp only[Za]at h<;>try (cases h;done)
  rw[Ha h]
 | .ptr _ _,b,h=>by cases b<;>simp only[Za]at h<;>cases h
 | .slice _ _ _ _ _,b,h=>by cases b<;>simp only[Za]at h<;>cases h
 | .map _,b,h=>by cases b<;>simp only[Za]at h<;>cases h
 | .YS _ _,b,h=>by cases b<;>simp only[Za]at h<;>cases h
 | .ab,b,h=>by cases b<;>simp only[Za]at h<;>cases h
 | .func _ _ _,b,h=>by cases b<;>simp only[Za]at h<;>cases h
theorem Ha:∀ {a b:List AV},cI a b=true→a=b
 | [],b,h=>by cases b<;>first|rfl|(simp only[cI]at h;cases h)
 |a::l,b,h=>by
  cases b with
  |nil=>simp only[cI]at h;cases h
  |cons c r=>
   simp only[cI,Qf]at h;rw[IF h.1,Ha h.2]
end
theorem Ln {C C':Cx} {S:St} {w w':World} (hS:Wn C S w) (t:Cv C S.whole w C' S.whole w'):Cv C S w C' S w':=by
 have XG:∀b,C.D b→¬Z6 S.whole S.whole.log b:=fun b hb hm=>by
  rcases hm with h|h
  ·cases h
  ·exact Nat.lt_irrefl _ (Nat.lt_of_lt_of_le (hS.fresh b hb) h)
 have Aaq:∀b o,S.heap.get b=some o→¬Z6 S.whole S.whole.log b:=fun b o hb=>XG b (hS.live b o hb).1;exact {ext:=t.ext,st:=t.st.fk _ _,bound:=rfl,log:=fun _ h=>h,next:=Qj _,size:=t.size,frame:=fun Cn hb _=>t.frame Cn hb fun b o ho hm=>absurd hm (Aaq b o ho),kept:=fun b hb _=>t.kept b hb (XG b hb),fW:=t.fW,own:=fun b o ho=>(t.own b o ho).elim .inl fun h=>h.elim (fun h=> .inr (.inl h)) fun⟨b0,o0,h0,h1,_⟩=>absurd h1 (Aaq b0 o0 h0),aV:=fun Cn ms hm=>(t.aV Cn ms hm).elim .inl fun h=>h.elim (fun h=> .inr (.inl h)) fun⟨b0,o0,h0,h1,_⟩=>absurd h1 (Aaq b0 o0 h0),Yz:=t.Yz}
theorem Ry {P:Program} {m:Machine} {c:Frame} {cs:List Frame} {C:Cx} {S:St} {w:World} {v:AV} (hS:Wn C S w) (h:Returns P m c cs C S.whole w (.same v)):Returns P m c cs C S w (.same v):=by
 obtain⟨C',x,w',hs,t,hv⟩:=h;exact⟨C',x,w',hs,Ln hS t,hv⟩
theorem KH {ev:Ev} {f:FuncId} {fn:Func} {S:St} {v:AV}:∀ {l:List Z2},fg E ev f fn S v l=true→∀r∈l,YY E ev f fn S.whole r=some (.same v)
 | [],_,r,hr=>by cases hr
 |a::l,h,r,hr=>by
  simp only[fg]at h;split at h
  ·next u hu=>
   rw[Qf]at h;rcases Qk.1 hr with rfl|hr
   ·rw[IF h.1]at hu;unfold kM at hu;split at hu
    ·next v' he=>cases hu;exact he
    ·cases hu
   ·exact KH h.2 r hr
  ·cases h
theorem QJ {ev:Ev} {f:FuncId} {fn:Func} {S:St} {r0:Z2} {l:List Z2} {cr:CR} (h:many1 E ev f fn S r0 l=some cr):
 ∃v,cr= .same v∧∀r∈r0::l,YY E ev f fn S.whole r=some (.same v):=by
 unfold many1 at h;obtain⟨v,hv,h⟩:=Qa.1 h;cases ha:fg E ev f fn S v l with
 |false=>rw[ha]at h;cases h
 |true=>
  rw[ha]at h;cases h;refine⟨v,rfl,fun r hr=>?_⟩;rcases Qk.1 hr with rfl|hr
  ·unfold kM at hv;split at hv
   ·next v' he=>cases hv;exact he
   ·cases hv
  ·exact KH ha r hr
def ib (E:Env) (P:Program) (ev:Ev):Prop:=
 ∀(f:FuncId) (fn:Func) (S:St) (r0:Z2) (l:List Z2) (cr:CR),kN E ev f fn S r0 l=some cr→∀(C:Cx) (w:World),Wn C S w→∀(r:Z2),r∈r0::l→∀(m:Machine) (c:Frame) (cs:List Frame),
  (∀cr',YY E ev f fn S.whole r=some cr'→Returns P m c cs C S.whole w cr')→Returns P m c cs C S w cr
theorem Rj (he:CN E P) (gG:bB E P) {ev:Ev} (dP:iR E P ev) (cO:E.merge=true→ib E P ev):YF E P ev:=by
 intro f args cr C S w xs c cs h hg ha hS;unfold We at h;cases hm:E.Cs f args with
 |some v=>
  rw[hm]at h;cases h;exact gG f args v hm C S w xs c cs hg ha hS
 |none=>
  rw[hm]at h;simp only at h;obtain⟨fn,kZ,h⟩:=Qa.1 h;obtain⟨cd,hc,h⟩:=Qa.1 h;have hp:=he.fn f fn kZ;have ZS:Frame.enter P f xs .normal=CZ (Frame.enter P f xs .normal) ⟨xs++Array.replicate (fn.ntmps-xs.size) undef,[]⟩ [.code cd]:=by
   simp[Frame.enter,CZ,hp,hc]
  have jk:(Frame.enter P f xs .normal).kind= .normal:=rfl;have fw:(Frame.enter P f xs .normal).roundOf=none:=rfl;have rS:(Frame.enter P f xs .normal).fn=f:=rfl;generalize Frame.enter P f xs .normal=bd at ZS jk fw rS;have YH:=dP cd C S.enter w (frame fn.ntmps args none) (XV 0 args .nil) bd ⟨xs++Array.replicate (fn.ntmps-xs.size) undef,[]⟩ [] (c::cs) hg (PS ha fn.ntmps)
   ⟨.nil,.none (by simp[jT,tryRecover,jk]),.none fw⟩ hS.enter
  rw[←ZS]at YH;generalize bA:ev cd (frame fn.ntmps args none) (XV 0 args .nil) S.enter=out at h YH;unfold kP at h;split at h
  ·next r=>
   obtain⟨r',b9,C1,a1,w1,cs1,t,hT,hF,hn,dO,VX,Zb⟩:=YH [r] rfl;simp only[Qp]at b9;subst b9;have:=VX.none rfl;subst this;exact PH he dP hp h hg hS t hT hF jk fw rS Zb
  ·next r l=>
   obtain⟨r',b9,C1,a1,w1,cs1,t,hT,hF,hn,dO,VX,Zb⟩:=YH (r::l) rfl;have:=VX.none rfl;subst this;have lf:Wn C S.whole w:=hS.fk _ _;have ht':Cv C S.whole.enter w C1 r'.st w1:=t;cases gR:many1 E ev f fn S r l with
   |some c1=>
    rw[gR]at h;cases h;obtain⟨v,rfl,Ym⟩:=QJ gR;exact Ry hS (PH he dP hp (Ym r' b9) hg lf ht' hT hF jk fw rS Zb)
   |none=>
   rw[gR]at h;unfold kO at h;cases lO:E.merge with
   |false=>rw[lO]at h;cases h
   |true=>
   rw[lO]at h;simp only[cond_true]at h;refine cO lO f fn S r l cr h C w hS r' b9 _ c cs fun cr' hcr'=>?_;exact PH he dP hp hcr' hg lf ht' hT hF jk fw rS Zb
  ·cases h
end
section
variable {E : Env} {P : Program}
theorem IU {C:Cx} {nt:Nat}:∀ {ps:List Nat} {vs:List AV} {xs:List Value} {T T':Tr AV} {tmps:Array Value},aQ nt ps vs T=some T'→TR C nt T tmps→VS C vs xs→
 ps.length=xs.length∧TR C nt T' ((ps.zip xs).foldl (fun t (p:Nat×Value)=>t.setIfInBounds p.1 p.2) tmps)
 | [],[],xs,T,T',tmps,h,hT,hv=>by
  cases h;cases hv;exact⟨rfl,hT⟩
 | [],_::_,_,_,_,_,h,_,_=>by cases h
 |_::_,[],_,_,_,_,h,_,_=>by cases h
 |p::ps,v::vs,_,T,T',tmps,h,hT,.cons (x:=x) (xs:=xs) lH pV=>by
  simp only[aQ]at h;cases hp:Nat.blt p nt with
  |false=>rw[hp]at h;cases h
  |true=>
   rw[hp]at h;have C6:p<nt:=by simpa[Nat.blt_eq]using hp
   have h1:TR C nt (T.set p (some v)) (tmps.setIfInBounds p x):=TR.put (a:=⟨tmps,[]⟩) hT C6 lH;obtain⟨h2,h3⟩:=IU h h1 pV;exact⟨by simp[h2],by simpa using h3⟩
theorem FT {w:World} {l:Nat} {L:Loop} (h:w.heap[l]?=some (.loop L)):(Instr.getLoop l).run P w= .ok L w:=by
 simp only[Instr.getLoop,Sem.run_bind,AR h (by simp),Result.andThen_ok,Sem.run_pure]
theorem wH {b:Frame} {a:Act} {k:List Item} {cs:List Frame} {w w':World} {l:Nat} (hr:b.roundOf=some l) (h:(Instr.beginRound l).run P w= .ok () w'):
 step P (lone (CZ b a (.beginRound::k)) cs w)= .next (lone (CZ b a k) cs w'):=
 step_lone_go (by simp[stepG,stepG.exec,stepG.apply,CZ,hr,h,Frame.finish])
theorem RQ {b:Frame} {a:Act} {c:Frame} {cs:List Frame} {w w':World} {l:Nat} {v:Value} (hk:b.kind= .normal) (hr:b.roundOf=some l) (h:(Instr.endRound l none).run P w= .ok v w'):
 step P (lone (CZ b a []) (c::cs) w)= .next (lone (c.finish v) cs w'):=
 step_lone_go (by simp[stepG,stepG.exec,CZ,hr,h,doReturn,hk])
theorem RO {b:Frame} {a:Act} {k:List Item} {c:Frame} {cs:List Frame} {w w':World} {l:Nat} {v:Value} (hk:b.kind= .normal) (hr:b.roundOf=some l) (h:(Instr.endRound l (some .ret)).run P w= .ok v w'):
 step P (lone (CZ b a (.code .ret::k)) (c::cs) w)= .next (lone (c.finish v) cs w'):=
 step_lone_go (by simp[stepG,stepG.exec,CZ,hr,h,doReturn,hk])
theorem Pd {b:Frame} {a:Act} {k:List Item} {c:Frame} {cs:List Frame} {w w':World} {l id:Nat} {v:Value} (hk:b.kind= .normal) (hr:b.roundOf=some l) (he:exitTo id k=none)
 (h:(Instr.endRound l (some (.exit id))).run P w= .ok v w'):
 step P (lone (CZ b a (.code (.exit id)::k)) (c::cs) w)= .next (lone (c.finish v) cs w'):=
 step_lone_go (by simp[stepG,stepG.exec,CZ,hr,h,he,doReturn,hk])
theorem Np {b:Frame} {t:Array Value} {k:List Item} (hn:la k) {c:Frame} {cs:List Frame} {w:World} {ch:List PanicEntry}:
 step P (lone (CE b ⟨t,[]⟩ k (.panicking ch)) (c::cs) w)= .next (lone (c.raise ch) cs w):=by
 refine step_lone_go ?_;have:(CE b ⟨t,[]⟩ k (.panicking ch)).catches P=false:=by
  unfold Frame.catches;split
  ·next h1 h2=>exact absurd h2 (hn _ _ _ _ _)
  ·rfl
 simp only[CE]at this;simp[stepG,Go.unwind,CE,this]
theorem Tv {w:World} {l:Nat} {L:Loop} (h:w.heap[l]?=some (.loop L)) (hs:L.state= .ready):(Instr.beginRound l).run P w= .ok () (World.CP w l (.loop {L with state:= .busy})):=by
 simp only[Instr.beginRound,Sem.run_bind,FT h,Result.andThen_ok,DI h (by simp),hs,Sem.run_pure]
theorem Nu {w:World} {l:Nat} {L:Loop} (h:w.heap[l]?=some (.loop L)) (jump:Option Code):
 (Instr.endRound l jump).run P w= .ok (.bool jump.isNone) (World.CP w l (.loop {L with state:=if jump.isNone then .ready else .done,pending:=jump})):=by
 simp only[Instr.endRound,Sem.run_bind,FT h,Result.andThen_ok,DI h (by simp),Sem.run_pure]
theorem Ty {ev:Ev} (dP:iR E P ev) {l:Nat} {args:List AV} {cr:CR} {C:Cx} {S:St} {w:World} {xs:Array Value} (h:nu ev l args S=some cr) (hg:Wg E C) (ha:VS C args xs.toList) (hS:Wn C S w)
 (c:Frame) (cs:List Frame):∃f tmps dN body,(Instr.yield (C.pl l).Cn xs).run P w= .ok (.round (C.pl l).Cn f tmps dN body) w∧
  Returns P (lone (Frame.round (C.pl l).Cn f tmps dN body .normal) (c::cs) w) c cs C S w cr:=by
 unfold nu ot at h;split at h
 ·next lp hl=>
  obtain⟨T,jW,h⟩:=Qa.1 h;obtain⟨hd,x,hx,hr⟩:=hS.live l _ hl;cases hr with
  | @loop _ L hs hpd htr ow hasg dQ=>
  obtain⟨hlen,hT⟩:=IU jW htr ha;have hfold:(L.params.zip xs).foldl (fun tmps (p:Nat×Value)=>tmps.setIfInBounds p.1 p.2) L.tmps=(lp.params.zip xs.toList).foldl (fun t (p:Nat×Value)=>t.setIfInBounds p.1 p.2) L.tmps:=by
   rw[←Array.foldl_toList,Array.toList_zip,ow]
  have XA:xs.size=L.params.size:=by
   have:L.params.size=lp.params.length:=by rw[←ow];simp
   rw[this,hlen];simp
  refine⟨L.fn,(lp.params.zip xs.toList).foldl (fun t (p:Nat×Value)=>t.setIfInBounds p.1 p.2) L.tmps,lp.assign,lp.body,?_,?_⟩
  ·simp only[Instr.yield,Sem.run_bind,FT hx,Result.andThen_ok,XA,ne_eq,not_true_eq_false,if_false,Sem.run_pure,←hasg,←dQ];rw[←hfold]
  ·generalize (lp.params.zip xs.toList).foldl (fun t (p:Nat×Value)=>t.setIfInBounds p.1 p.2) L.tmps=tmps at hT;have jk:(Frame.round (C.pl l).Cn L.fn tmps lp.assign lp.body .normal).kind= .normal:=rfl;have fw:(Frame.round (C.pl l).Cn L.fn tmps lp.assign lp.body .normal).roundOf=some (C.pl l).Cn:=rfl;have ZS:Frame.round (C.pl l).Cn L.fn tmps lp.assign lp.body .normal=CZ (Frame.round (C.pl l).Cn L.fn tmps lp.assign lp.body .normal) ⟨tmps,[]⟩ [.code lp.assign,.beginRound,.code lp.body]:=rfl;generalize Frame.round (C.pl l).Cn L.fn tmps lp.assign lp.body .normal=b at jk fw ZS;have YH:=dP lp.assign C S w ⟨lp.nt,[],none,some l⟩ T b ⟨tmps,[]⟩ [.beginRound,.code lp.body] (c::cs) hg hT ⟨.nil,.none (by simp[jT,tryRecover,jk]),.some hd fw⟩ hS;rw[←ZS]at YH;generalize ev lp.assign ⟨lp.nt,[],none,some l⟩ T S=out at h YH;unfold dJ at h;split at h
   ·next fr T1 s1=>
    obtain⟨r',b9,C1,a1,w1,cs1,t1,hT1,hF1,fB,hrd1,Aar,yN⟩:=YH _ rfl;simp only[Qp]at b9;subst b9;have:=Aar.none rfl;subst this;simp only at fB hrd1 hT1 hF1 t1 yN Aar;unfold jH at h;split at h
    ·next lp1 aB=>
     split at h
     ·next Xp=>
      obtain⟨dx,x1,hx1,hr1⟩:=t1.st.live l _ aB;cases hr1 with
      | @loop _ L1 Xm hpd1 htr1 hps1 hasg1 Aas=>
      have pA:C1.pl l=C.pl l:=t1.ext.pl l hd;have Aat:=Tv (P:=P) hx1 (by rw[Xm,Xp]);have t2:=EJ t1.st aB (.loop {lp1 with state:= .busy}) (.loop {L1 with state:= .busy}) (.loop rfl hpd1 htr1 hps1 hasg1 Aas);have mw:Steps P (lone b (c::cs) w) (lone (CZ b a1 [.code lp.body]) (c::cs) (World.CP w1 (C1.pl l).Cn (.loop {L1 with state:= .busy}))):=
       Steps.trans yN (.one (wH (by rw[pA];exact fw) Aat))
      have rX:=dP lp.body C1 _ _ fr T1 b a1 [] (c::cs) (hg.mono t1.ext) hT1 hF1 t2.st;generalize ev lp.body fr T1 (s1.put l (some (.loop {lp1 with state:= .busy})))=out2 at h rX;unfold ma at h;split at h
      ·next r=>
       split at h
       ·next hdf=>
        obtain⟨r',b9,C2,a2,w2,cs2,t3,wv,hF2,mv,hrd2,Aah,gH⟩:=rX [r] rfl;simp only[Qp]at b9;subst b9;have hfp:fr.WD=none:=by
         have:=Aar;generalize fr.WD=q at this;cases this with
         |same=>rfl
        have:=Aah.none hfp;subst this;have t4:=(t1.trans t2).trans t3;have hpl2:C2.pl l=C.pl l:=t4.ext.pl l hd;have lG:a2.defers=[]:=by
         have:=hF2.defs;rw[hdf]at this;cases hd:a2.defers with
         |nil=>rfl
         |cons x l=>rw[hd]at this;cases this
        unfold jG at h;split at h
        ·next lp2 aZ=>
         obtain⟨jq,x2,yO,n8⟩:=t4.st.live l _ aZ;cases n8 with
         | @loop _ L2 jw hpd2 htr2 hps2 hasg2 Aau=>
         rw[hpl2]at yO;have fin:∀(jump:Option Code) (go:Bool),jump.isNone=go→Steps P (lone b (c::cs) w) (lone (c.finish (.bool go)) cs (World.CP w2 (C.pl l).Cn (.loop {L2 with state:=if jump.isNone then .ready else .done,pending:=jump})))→
          cJ l r'.st lp2 jump go=some cr→Returns P (lone b (c::cs) w) c cs C S w cr:=by
          intro jump go hjg Aav pP;unfold cJ at pP;cases pP;have t5:=EJ t4.st aZ (.loop {lp2 with state:=bif go then .ready else .done,pending:=jump}) (.loop {L2 with state:=if jump.isNone then .ready else .done,pending:=jump})
           (.loop (by rw[hjg];cases go<;>rfl) rfl htr2 hps2 hasg2 Aau)
          rw[hpl2]at t5;exact⟨C2,_,_,Aav,t4.trans t5,.bool go⟩
         have rY:=fun jump=>Nu (P:=P) yO jump;cases hex:r'.ex with
         |normal=>
          rw[hex]at h gH;exact fin none true U (mw.trans (Steps.trans gH (.one (RQ jk fw (rY none))))) h
         |ret=>
          rw[hex]at h gH;obtain⟨k2,mW⟩:=gH;exact fin (some .ret) false U (mw.trans (mW.trans (.one (RO jk fw (rY _))))) h
         |exit id=>
          rw[hex]at h gH;obtain⟨k2,mW,my⟩:=gH;exact fin (some (.exit id)) false U (mw.trans (mW.trans (.one (Pd jk fw (by rw[my];rfl) (rY _))))) h
         |panic v=>
          rw[hex]at h gH;cases h;obtain⟨k2,x,mW,hv,hnc⟩:=gH;refine⟨C2,x,w2,mw.trans (mW.trans (.one ?_)),t4,hv⟩;have ea:({CZ b a2 k2 with mode:= .panicking [{v:=x,recovered:=false}]}:Frame)=CE b ⟨a2.tmps,[]⟩ k2 (.panicking [{v:=x,recovered:=false}]):=by
           simp[CZ,CE,lG]
          rw[ea];exact Np hnc
        ·cases h
       ·cases h
      ·cases h
     ·cases h
    ·cases h
   ·cases h
 ·cases h
theorem Vr (he:CN E P) {ev:Ev} (dP:iR E P ev) (VJ:YF E P ev):YG E P ev:=by
 intro g args cr C S w gx xs c cs h hg hv ha hS;unfold Ya at h;split at h
 ·next f first cap=>
  cases hb:CI E f with
  |false=>rw[hb]at h;cases h
  |true=>
  rw[hb]at h;simp only[cond_true]at h;cases hv with
  |func hf h1 h2=>
  rename_i fx cx
  left;refine⟨f,fx++xs++cx,?_,VJ f _ cr C S w _ c cs h hg (by simpa using(h1.append ha).append h2) hS⟩;simp only[Deferred.ofValue,Sem.run_bind,Sem.run_pure,Result.andThen_ok,invoke];exact Ff he hb _ w
 ·next l=>
  cases hv with
  |func hf _ _=>exact absurd rfl (hf l)
  |yield hd=>
  right;obtain⟨f,tmps,dN,body,C5,YQ⟩:=Ty dP h hg ha hS c cs;refine⟨_,f,tmps,dN,body,?_,YQ⟩;simp only[Deferred.ofValue,Sem.run_bind,Sem.run_pure,Result.andThen_ok,invoke,Array.empty_append];exact C5
 ·next name first=>
  cases hv with
  |func hf h1 h2=>
  rename_i fx cx
  have Ym:=h1.append ha;split at h
  ·next r rest heq=>
   rw[heq]at Ym;obtain⟨p,hp,h⟩:=Qa.1 h;left;generalize hq:fx.toList++xs.toList=q at Ym;cases Ym with
   | @cons _ _ x _ ys kY ZR=>
   obtain⟨zs,hz,hvz⟩:=If he hS kY ZR hp;refine⟨p.1,zs,?_,VJ p.1 p.2 cr C S w zs c cs h hg hvz hS⟩;have ei:fx++xs=(x::ys).toArray:=by apply Array.ext';simp[hq]
   simp only[Deferred.ofValue,Sem.run_bind,Sem.run_pure,Result.andThen_ok,invoke,ei];have h0:(x::ys).toArray[0]?=some x:=by simp
   have h1:(x::ys).toArray.extract 1 (x::ys).toArray.size=ys.toArray:=by
    apply Array.ext';simp
   simp only[h0,h1];exact hz
  ·cases h
 ·cases h
end
section
variable {E : Env} {P : Program}
theorem Mg (f:FuncId) (tmps:Array Value) (params:Array Tmp) (dN body:Code) (w:World):
 (Instr.enterLoop f tmps params dN body none).run P w= .ok (w.heap.size+1,[{target:= .collected w.heap.size,args:= #[]}])
  (World.VN (World.VN w (.deferred (some []))) (.loop {state:= .ready,pending:=none,fn:=f,tmps,params,assign:=dN,body,defers:=w.heap.size})):=by
 simp[Instr.enterLoop,World.VN];rfl
theorem wI {b:Frame} {a:Act} {k:List Item} {cs:List Frame} {w w':World} {f:Operand} {params:Array Tmp} {dN body:Code} {l:Nat} {mk:List Deferred} {g:FuncId} {ys:Array Value} (hr:b.roundOf=none)
 (h1:(Instr.enterLoop b.fn a.tmps params dN body none).run P w= .ok (l,mk) w')
 (h2:(do let d←Deferred.ofValue (a.eval f) #[.func (.yield l) #[] #[]];invoke d.target d.args:Sem Next).run P w'= .ok (.enter g ys) w'):
 step P (lone (CZ b a (.code (.rangeFunc f params dN body)::k)) cs w)= .next (lone (Frame.enter P g ys .normal) (CZ b ⟨a.tmps,mk++a.defers⟩ (.inRangeFunc l::k)::cs) w'):=by
 refine step_lone_go ?_;have e1:=MH b ⟨a.tmps,mk++a.defers⟩ (.inRangeFunc l::k);have e2:(⟨a.tmps,mk++a.defers⟩:Act).eval=a.eval:=by funext x;cases x<;>rfl
 rw[e2]at e1;simp only[CZ,hr]at e1;simp only[stepG,stepG.exec,CZ,hr,Sem.runT_eq,h1,GStep.bare_after,stepG.apply,resolve,e1];have e3:Array.map a.eval #[Operand.const (.func (.yield l) #[] #[])]= #[.func (.yield l) #[] #[]]:=by simp[Act.eval]
 simp only[e3,h2,if_true];rfl
theorem Pg {w:World} {l:Nat} {L:Loop} (h:w.heap[l]?=some (.loop L)) (hs:L.state≠ .busy):(Instr.endLoop l).run P w= .ok L.pending (World.CP w l (.loop {L with state:= .exhausted})):=by
 have hs':(L.state== .busy)=false:=by simpa using hs
 simp only[Instr.endLoop,Sem.run_bind,FT h,Result.andThen_ok,hs',Bool.false_eq_true,if_false,DI h (by simp),Sem.run_pure]
theorem RR {b:Frame} {a:Act} {k:List Item} {cs:List Frame} {w w':World} {l:Nat} {jump:Option Code} (h:(Instr.endLoop l).run P w= .ok jump w'):
 step P (lone (CZ b a (.endRangeFunc l::k)) cs w)= .next (lone (CZ b a ((jump.map Item.code).toList++k)) cs w'):=
 step_lone_go (by simp[stepG,stepG.exec,CZ,h])
theorem JK (b:Frame) (a:Act) (l:Nat) (k:List Item) (v:Value):(CZ b a (.inRangeFunc l::k)).finish v=CZ b a (.endRangeFunc l::k):=rfl
theorem JL {l Cn:Nat} {fr cP:Fr} {T:Tr AV} {b:Frame} {a2:Act} {k:List Item} {cs:List Frame} {C3:Cx} {S3:St} {w3:World} {m:Machine} (hS:Wn C3 S3 w3) (hF:jU C3 cP b a2 cs) (hT:TR C3 cP.nt T a2.tmps)
 (X3:(C3.pl l).Cn=Cn) (hn:cP.nt=fr.nt) (hr:cP.round=fr.round) (hp:cP.WD=fr.WD) (Xp:Steps P m (lone (CZ b a2 (.endRangeFunc Cn::k)) cs w3)):
 Good P C3 S3 w3 fr b k cs m (dt l cP T S3 (S3.heap.get l)):=by
 unfold dt;split
 ·next lp hl=>
  obtain⟨hd,x,hx,hrr⟩:=hS.live _ _ hl;cases hrr with
  | @loop _ L3 hs3 hpd3 htr3 hps3 hasg3 Aaw=>
  split
  ·exact AE
  ·next ri=>
   have hnb':L3.state≠ .busy:=by rw[hs3];exact fun h=>ri h
   have t4:=EJ hS hl (.loop {lp with state:= .exhausted}) (.loop {L3 with state:= .exhausted}) (.loop rfl hpd3 htr3 hps3 hasg3 Aaw);rw[X3]at hx t4;have Zb:=Pg (P:=P) hx hnb';have mw:=Xp.trans (.one (RR (P:=P) (b:=b) (a:=a2) (k:=k) (cs:=cs) Zb));refine BQ t4 ?_;have one:∀(e:Ex),Ends P b k cs C3 m e a2 (World.CP w3 Cn (.loop {L3 with state:= .exhausted}))→
    Good P C3 (S3.put l (some (.loop {lp with state:= .exhausted}))) (World.CP w3 Cn (.loop {L3 with state:= .exhausted})) fr b k cs m
     (.one ⟨e,cP,T,S3.put l (some (.loop {lp with state:= .exhausted}))⟩):=by
    intro e he l hl;cases hl;refine⟨_,Qp.2 U,C3,_,_,cs,Cv.refl t4.st,hT,hF,hn,hr,?_,he⟩;show pU fr.WD cP.WD cs cs;rw[hp];exact .same
   have key:∀jump,lp.pending=jump→Steps P m (lone (CZ b a2 ((jump.map Item.code).toList++k)) cs (World.CP w3 Cn (.loop {L3 with state:= .exhausted}))):=by
    intro jump hj;rw[←hj,←hpd3];exact mw
   unfold jM;split
   ·next hp=>exact one .normal (key _ hp)
   ·next hp=>exact one .ret ⟨k,key _ hp⟩
   ·next id hp=>exact one (.exit id) ⟨k,key _ hp,rfl⟩
   ·exact AE
 ·exact AE
theorem N2 {l Cn:Nat} {fr cP:Fr} {T:Tr AV} {b:Frame} {a2:Act} {k:List Item} {cs:List Frame} {C2:Cx} {S2:St} {w2:World} {m:Machine} (hF:jU C2 cP b a2 cs) (hT:TR C2 cP.nt T a2.tmps)
 (hd:C2.D l) (X3:(C2.pl l).Cn=Cn) (hn:cP.nt=fr.nt) (hr:cP.round=fr.round) (hp:cP.WD=fr.WD) {cr:CR} (h:Returns P m (CZ b a2 (.inRangeFunc Cn::k)) cs C2 S2 w2 cr):
 Good P C2 S2 w2 fr b k cs m (Xy cP T S2 (fun _ s3=>dt l cP T s3 (s3.heap.get l)) (some cr)):=by
 cases cr with
 |same v=>
  obtain⟨C3,x,w3,hs,t3,_⟩:=h;rw[JK]at hs;exact BQ t3 (JL t3.st (hF.mono t3.ext) (hT.mono t3.ext) (by rw[t3.ext.pl _ hd];exact X3) hn hr hp hs)
 |val v S3=>
  obtain⟨C3,x,w3,hs,t3,_⟩:=h;rw[JK]at hs;exact BQ t3 (JL t3.st (hF.mono t3.ext) (hT.mono t3.ext) (by rw[t3.ext.pl _ hd];exact X3) hn hr hp hs)
 |WD v S3=>
  obtain⟨C3,x,w3,hs,t3,Yq⟩:=h;rw[N3]at hs;refine BQ t3 ?_;intro l hl;cases hl;refine⟨_,Qp.2 U,C3,a2,w3,cs,Cv.refl t3.st,hT.mono t3.ext,hF.mono t3.ext,hn,hr,?_,_,x,hs,Yq,by intro _ _ _ _ _ h;cases h⟩;show pU fr.WD cP.WD cs cs;rw[hp];exact .same
theorem N1 {C:Cx} {S:St} {w:World} (hS:Wn C S w) {nt:Nat} {T:Tr AV} {a:Act} (hT:TR C nt T a.tmps) (fn:FuncId) (params:Array Tmp) (dN body:Code):
 ∃C2,Cv C S w C2 ((S.alloc (.defs true)).alloc (.loop {state:= .ready,pending:=none,fn:=0,nt:=nt,tmps:=T,params:=params.toList,assign:=dN,body}))
  (World.VN (World.VN w (.deferred (some []))) (.loop {state:= .ready,pending:=none,fn,tmps:=a.tmps,params,assign:=dN,body,defers:=w.heap.size}))∧
  C2.D S.next∧(C2.pl S.next).Cn=w.heap.size∧C2.D (S.alloc (.defs true)).next∧(C2.pl (S.alloc (.defs true)).next).Cn=w.heap.size+1:=by
 have t1:=Cv.alloc hS (.defs true) (.deferred (some [])) 0 .defs;have hTr1:=hT.mono t1.ext;have e2:=GB t1.st 0;have t2:=Cv.alloc t1.st (.loop {state:= .ready,pending:=none,fn:=0,nt:=nt,tmps:=T,params:=params.toList,assign:=dN,body})
  (.loop {state:= .ready,pending:=none,fn,tmps:=a.tmps,params,assign:=dN,body,defers:=w.heap.size}) 0 (.loop rfl rfl (hTr1.mono e2) rfl rfl rfl)
 refine⟨_,t1.trans t2,.inl (.inr U),?_,.inr U,?_⟩
 ·have:S.next≠(S.alloc (.defs true)).next:=by show S.next≠S.next+1;omega
  simp[Cx.Cw,this]
 ·simp[Cx.Cw,World.VN]
theorem Mo (he:CN E P) {ev:Ev} (VJ:YF E P ev) {f:Operand} {params:Array Tmp} {dN body:Code}:
 Yj E P (.rangeFunc f params dN body) (fun fr T s=>fj E ev params.toList dN body fr T s (Cc E f T)):=by
 intro C S w fr T b a k cs hg hT hF hS;show Good P C S w fr b k cs _ (fj E ev params.toList dN body fr T S (Cc E f T));cases hof:Cc E f T with
 |none=>exact AE
 |some v=>
 have hTa:TR C a.tmps.size T a.tmps:=⟨rfl,hT.2⟩
 have hv:=Ay hg hTa hof;unfold fj jN;simp only;split
 ·next g first cap=>
  obtain⟨nt,defers,WD,round⟩:=fr;cases round with
  |some l=>exact AE
  |none=>
  simp only;have fw:b.roundOf=none:=by have:=hF.round;cases this with|none h=>exact h
  cases hb:CI E g with
  |false=>exact AE
  |true=>
  simp only[cond_true];generalize hq:a.eval f=q at hv;cases hv with
  |func kZ h1 h2=>
  rename_i fx cx
  obtain⟨C2,t12,hD0,hpl0,hD1,pA⟩:=N1 hS hT b.fn params dN body;have hlen:=Mg (P:=P) b.fn a.tmps params dN body w;generalize (S.alloc (.defs true)).next=l at hD1 pA⊢;generalize World.VN (World.VN w (.deferred (some []))) (.loop {state:= .ready,pending:=none,fn:=b.fn,tmps:=a.tmps,params,assign:=dN,body,defers:=w.heap.size})=w2 at t12 hlen;generalize (S.alloc (.defs true)).alloc (.loop {state:= .ready,pending:=none,fn:=0,nt:=nt,tmps:=T,params:=params.toList,assign:=dN,body})=S2 at t12⊢;generalize w.heap.size+1=Cn at pA hlen;have Aax:VR C2 (.func (.yield l) [] []) (.func (.yield Cn) #[] #[]):=by
   have:=VR.yield (C:=C2) hD1;rw[pA]at this;exact this
  have X0:VS C2 (first++[.func (.yield l) [] []]++cap) (fx++ #[Value.func (.yield Cn) #[] #[]]++cx).toList:=by
   simpa using((h1.mono t12.ext).append (.one Aax)).append (h2.mono t12.ext)
  have hinv:(do let d←Deferred.ofValue (a.eval f) #[Value.func (.yield Cn) #[] #[]];invoke d.target d.args:Sem Next).run P w2= .ok (.enter g (fx++ #[Value.func (.yield Cn) #[] #[]]++cx)) w2:=by
   rw[hq];simp only[Deferred.ofValue,Sem.run_bind,Sem.run_pure,Result.andThen_ok,invoke];exact Ff he hb _ w2
  have dR:=wI (P:=P) (b:=b) (a:=a) (k:=k) (cs:=cs) (f:=f) fw hlen hinv;have hF2:jU C2 ⟨nt, {target:= .collected S.next,args:=[]}::defers,WD,none⟩ b ⟨a.tmps,[{target:= .collected w.heap.size,args:= #[]}]++a.defers⟩ cs:=by
   refine⟨.cons ?_ (hF.defs.mono t12.ext),(hF.mono t12.ext).WD,(hF.mono t12.ext).round⟩;have:=mi.collected (C:=C2) hD0;rw[hpl0]at this;exact this
  cases jv:We E ev g (first++[.func (.yield l) [] []]++cap) S2 with
  |none=>exact AE
  |some cr=>
   have YQ:=VJ g _ cr C2 S2 w2 _ (CZ b ⟨a.tmps,[{target:= .collected w.heap.size,args:= #[]}]++a.defers⟩ (.inRangeFunc Cn::k)) cs jv (hg.mono t12.ext) X0 t12.st;exact BQ t12 (Good.steps (.one dR) (N2 hF2 (hT.mono t12.ext) hD1 pA U U U YQ))
 ·exact AE
end
def lh (E:Env) (P:Program):Prop:=
 ∀(ev:Ev),YF E P ev→YG E P ev→∀(id:Nat) (ops:Array Oper),Yj E P (.region id ops true) ((hQ E ops.toList true).run ev)
section
variable {E : Env} {P : Program}
theorem GF (he:CN E P) (hx:Y6 E P) (hd:lh E P) {ev:Ev} (dP:iR E P ev) (VJ:YF E P ev) (Wi:YG E P ev):∀c,Yj E P c ((XC E c).run ev)
 | .skip=>Ud fun _ _ _ _ _=>Aae
 | .label _=>Ud fun _ _ _ _ _=>wk
 | .region id ops true=>hd ev VJ Wi id ops
 | .region id ops false=>TU he hx VJ Wi
 | .seq a b=>Aai (GF he hx hd dP VJ Wi a) (GF he hx hd dP VJ Wi b)
 | .cond _ a b=>wx (GF he hx hd dP VJ Wi a) (GF he hx hd dP VJ Wi b)
 | .block _ body=>rM (GF he hx hd dP VJ Wi body)
 | .loop body=>wy (GF he hx hd dP VJ Wi body) (dP (.loop body))
 | .scope body=>rN (GF he hx hd dP VJ Wi body)
 | .exit _=>wz
 | .ret=>Aaj
 | .rangeFunc _ _ _ _=>Mo he VJ
 | .goto _=>Mn
 | .refuse _=>Mn
theorem oE (he:CN E P) (hx:Y6 E P) (hd:lh E P) (gG:bB E P) (cO:E.merge=true→∀ev,iR E P ev→ib E P ev):∀n,iR E P (ev E n)
 |0=>fun _=>Mn
 |n+1=>fun c=>by
  have ih:=oE he hx hd gG cO n;have VJ:=Rj he gG ih (fun h=>cO h _ ih);exact GF he hx hd ih VJ (Vr he ih VJ) c
theorem MR (he:CN E P) (hx:Y6 E P) (hd:lh E P) (gG:bB E P) (cO:E.merge=true→∀ev,iR E P ev→ib E P ev) (n:Nat):YF E P (ev E n):=
 Rj he gG (oE he hx hd gG cO n) (fun h=>cO h _ (oE he hx hd gG cO n))
end
end Am
