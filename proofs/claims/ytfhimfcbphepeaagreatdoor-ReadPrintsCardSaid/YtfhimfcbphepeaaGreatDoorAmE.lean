/- The abstract machine: regions that draw their order; calls that are known ahead. -/
import Derived.Test.YtfhimfcbphepeaaGreatDoorAmD
import Derived.Below
set_option linter.unusedSectionVars false
set_option linter.unusedVariables false
set_option linter.unusedSimpArgs false
namespace Am
open Go
section
variable {E : a_} {P : Program}
theorem op_read {ops:Array Oper} {i:Nat} {idx:List Nat} {o:Oper} (ho:ops[i]?=some o) {xo:Tr AV->Option AV} {F:Tr AV->St->Option AV} (gE:b5 E P o (.Z xo F)) (heq:ZW E o.type o.op= .Z xo F)
 {C:Cx} {S:St} {w:World} {T:Tr AV} {b:Frame} {a:Act} {k:List Item} {cs:List Frame} (hg:YV E C) (hT:TR C a.tmps.size T a.tmps)
 (hS:YR C S w) (hw:Region.wanted o (yielded ops a.tmps)=true) {v:AV} (h:F T S=some v):
 ∃x,Steps P (lone (Yo b a (.inRegion ops (i::idx)::k)) cs w) (lone (Yo b (a.put o.dst x) (.inRegion ops idx::k)) cs w)/\VR C v x:=by
 obtain⟨x,CG,hv⟩:=gE C T a S w hg hT hS v h;have hr:b.roundOf=none\/∀c,o.op≠ .defer c:= .inr (JQ heq (by simp) (by simp));exact⟨x,.one (BF ho hw hr CG),hv⟩
theorem op_exec {ev:Ev} (Y6:du E P ev) (YU:dw E P ev) {ops:Array Oper} {i:Nat} {idx:List Nat} {o:Oper} (ho:ops[i]?=some o) {so:fN} (gE:b5 E P o so) (heq:ZW E o.type o.op=so)
 (kN:∀f,so≠ .H' f) (np:so≠ .G') {C:Cx} {S S':St} {w:World} {fr ZN:Fr} {T TV:Tr AV} {b:Frame} {a:Act} {k:List Item} {cs:List Frame} (hg:YV E C) (hT:TR C a.tmps.size T a.tmps)
 (hS:YR C S w) (hw:Region.wanted o (yielded ops a.tmps)=true) (h:(Z0 E so K0).run ev fr T S= .one ⟨.J,ZN,TV,S'⟩):
 ∃v C' x w',TV=fy v/\ZN=fr/\Steps P (lone (Yo b a (.inRegion ops (i::idx)::k)) cs w) (lone (Yo b (a.put o.dst x) (.inRegion ops idx::k)) cs w')/\C6 C S w C' S' w'/\VR C' v x:=by
 have sp:=gE C T a S w hg hT hS;have hr:so≠ .J->b.roundOf=none\/∀c,o.op≠ .defer c:=fun h2=> .inr (JQ heq kN h2);have cn:=fun v=>Dp b a ops i idx k v;simp only[ho,Qe]at cn;have cr_:∀ {cr:CR} {m:Machine},k9 P m (Yo b a (.inRegion ops (i::idx)::k)) cs C S w cr->ZB fr T S (fun v s=> .one ⟨.J,fr,fy v,s⟩) (some cr)= .one ⟨.J,ZN,TV,S'⟩->
  ∃v C' x w',TV=fy v/\ZN=fr/\Steps P m (lone (Yo b (a.put o.dst x) (.inRegion ops idx::k)) cs w')/\C6 C S w C' S' w'/\VR C' v x:=by
  intro cr m dM h;cases cr with
  |same v=>
   obtain⟨C',x,w',hs,t,hv⟩:=dM;cases h;rw[cn]at hs;exact⟨v,C',x,w',U,U,hs,t,hv⟩
  |J v s=>
   obtain⟨C',x,w',hs,t,hv⟩:=dM;cases h;rw[cn]at hs;exact⟨v,C',x,w',U,U,hs,t,hv⟩
  |O v s=>cases h
 cases so with
 |J=>cases h
 |make f=>
  change rb S (fun v s=> .one ⟨.J,fr,fy v,s⟩) (f T)=_ at h;cases hf:f T with
  |none=>rw[hf]at h;cases h
  |some mk=>
   rw[hf]at h;cases mk with
   |O v=>
    obtain⟨C',x,w',CG,t,hv⟩:=sp.1 v hf;cases h;exact⟨v,C',x,w',U,U,.one (BF ho hw (hr (by simp)) CG),t,hv⟩
   |J ob g=>
    obtain⟨C',x,w',CG,t,hv⟩:=sp.2 ob g hf;cases h;exact⟨_,C',x,w',U,U,.one (BF ho hw (hr (by simp)) CG),t,hv⟩
 |O f=>
  change ZR (fun v=> .one ⟨.J,fr,fy v,S⟩) (f T)=_ at h;cases hf:f T with
  |none=>rw[hf]at h;cases h
  |some v=>
   rw[hf]at h;obtain⟨x,CG,hv⟩:=sp v hf;cases h;exact⟨v,C,x,w,U,U,.one (BF ho hw (hr (by simp)) CG),C6.u hS,hv⟩
 |Z xo f=>
  change ZR (fun v=> .one ⟨.J,fr,fy v,S⟩) (f T S)=_ at h;cases hf:f T S with
  |none=>rw[hf]at h;cases h
  |some v=>
   rw[hf]at h;obtain⟨x,CG,hv⟩:=sp v hf;cases h;exact⟨v,C,x,w,U,U,.one (BF ho hw (hr (by simp)) CG),C6.u hS,hv⟩
 |I' f=>
  change ZR (fun v=> .one ⟨.J,fr,fy v,S⟩) (f T S)=_ at h;cases hf:f T S with
  |none=>rw[hf]at h;cases h
  |some v=>
   rw[hf]at h;obtain⟨x,CG,hv⟩:=sp v hf;cases h;exact⟨v,C,x,w,U,U,.one (BF ho hw (hr (by simp)) CG),C6.u hS,hv⟩
 |I_ only xo f=>
  change rU (fun v s=> .one ⟨.J,fr,fy v,s⟩) (f T S)=_ at h;cases hf:f T S with
  |none=>rw[hf]at h;cases h
  |some p=>
   rw[hf]at h;obtain⟨v,S1⟩:=p;obtain⟨C',nx,w',CG,t,fB⟩:=sp v S1 hf;cases h;cases fB with
   | @J _ x hv=>exact⟨v,C',x,w',rfl,rfl,.one (BF ho hw (hr (by simp)) CG),t,hv⟩
   |O=>exact⟨_,C',undef,w',rfl,rfl,.one (Oy ho hw (hr (by simp)) CG),t,VR.A⟩
 |J' f=>
  change cw (fun v s=> .one ⟨.J,fr,fy v,s⟩) ((f T).bind fun l=>some (tC S l))=_ at h;cases hf:f T with
  |none=>rw[hf]at h;cases h
  |some l=>
   rw[hf]at h;obtain⟨v,hv,x,CG,eV⟩:=sp l hf;cases l with
   |nil=>cases hv
   |cons u l=>
    cases l with
    |nil=>
     simp only[Qp]at hv;subst hv;cases h;exact⟨v,C,x,w,U,U,.one (BF ho hw (hr (by simp)) CG),C6.u hS,eV⟩
    |cons u2 l=>
     exfalso;simp only[Qe,cw,tC,ae]at h;cases kQ:ae (fun v s=>f_.one ⟨.J,fr,fy v,s⟩) ((u2,S)::tC S l)with
     |J=>simp only[ae]at kQ;rw[kQ]at h;cases h
     |one r=>simp only[ae]at kQ;rw[kQ]at h;cases h
     |O r=>simp only[ae]at kQ;rw[kQ]at h;cases h
 |qU f=>
  change cw (fun v s=> .one ⟨.J,fr,fy v,s⟩) (f T S)=_ at h;cases hf:f T S with
  |none=>rw[hf]at h;cases h
  |some l=>
   rw[hf]at h;obtain⟨p,hp,C',x,w',CG,t,eV⟩:=sp l hf;cases l with
   |nil=>cases hp
   |cons u l=>
    cases l with
    |nil=>
     simp only[Qp]at hp;subst hp;cases h;exact⟨_,C',x,w',U,U,.one (BF ho hw (hr (by simp)) CG),t,eV⟩
    |cons u2 l=>
     exfalso;simp only[cw,ae]at h;cases kQ:ae (fun v s=>f_.one ⟨.J,fr,fy v,s⟩) (u2::l)with
     |J=>simp only[ae]at kQ;rw[kQ]at h;cases h
     |one r=>simp only[ae]at kQ;rw[kQ]at h;cases h
     |O r=>simp only[ae]at kQ;rw[kQ]at h;cases h
 |H_ f=>
  change ZB fr T S (fun v s=> .one ⟨.J,fr,fy v,s⟩) ((f T S).bind fun p=>Y8 E ev p.1 p.2 S)=_ at h;cases hf:f T S with
  |none=>rw[hf]at h;cases h
  |some p=>
   rw[hf]at h;obtain⟨g,args⟩:=p;obtain⟨xs,CG,Zh⟩:=sp g args hf;simp only[Qe]at h;cases qJ:Y8 E ev g args S with
   |none=>rw[qJ]at h;cases h
   |some cr=>
    rw[qJ]at h;have dM:=Y6 g args cr C S w xs (Yo b a (.inRegion ops (i::idx)::k)) cs qJ hg Zh hS;obtain⟨v,C',x,w',h1,h2,h3,h4,h5⟩:=cr_ dM h;exact⟨v,C',x,w',h1,h2,.head (Ig ho hw (hr (by simp)) CG) h3,h4,h5⟩
 |dN f ar=>
  change ZB fr T S (fun v s=> .one ⟨.J,fr,fy v,s⟩) ((f T).bind fun g=>(ar T).bind fun args=>aj E ev args S g)=_ at h;cases hf:f T with
  |none=>rw[hf]at h;cases h
  |some g=>
  cases ha:ar T with
  |none=>rw[hf,ha]at h;cases h
  |some args=>
   rw[hf,ha]at h;obtain⟨gx,xs,hgx,iw,hex⟩:=sp g args hf ha;simp only[Qe]at h;cases qJ:aj E ev args S g with
   |none=>rw[qJ]at h;cases h
   |some cr=>
    rw[qJ]at h;rcases YU g args cr C S w gx xs (Yo b a (.inRegion ops (i::idx)::k)) cs qJ hg hgx iw hS with⟨f',ys,CG,dM⟩|⟨l,f',tmps,ld,body,CG,dM⟩
    .rw[<-hex]at CG;obtain⟨v,C',x,w',h1,h2,h3,h4,h5⟩:=cr_ dM h;exact⟨v,C',x,w',h1,h2,.head (Ig ho hw (hr (by simp)) CG) h3,h4,h5⟩
    .rw[<-hex]at CG;obtain⟨v,C',x,w',h1,h2,h3,h4,h5⟩:=cr_ dM h;exact⟨v,C',x,w',h1,h2,.head (QS ho hw (hr (by simp)) CG) h3,h4,h5⟩
 |H' f=>exact absurd rfl (kN f)
 |J_ f=>
  change ZR (fun v=> .one ⟨.O v,fr,T,S⟩) (f T)=_ at h;cases hf:f T with
  |none=>rw[hf]at h;cases h
  |some v=>rw[hf]at h;cases h
 |G'=>exact absurd rfl np
theorem zF {ev:Ev} (Y6:du E P ev) (YU:dw E P ev) {ops:Array Oper} {i:Nat} {idx:List Nat} {o:Oper} (ho:ops[i]?=some o) {so:fN} (gE:b5 E P o so) (heq:ZW E o.type o.op=so)
 (hq:(∃F,so= .H_ F)\/∃F A,so= .dN F A) {C:Cx} {S S':St} {w:World} {fr:Fr} {T:Tr AV} {v:AV} {b:Frame} {a:Act} {k:List Item} {cs:List Frame} (hg:YV E C) (hT:TR C a.tmps.size T a.tmps)
 (hS:YR C S w) (hw:Region.wanted o (yielded ops a.tmps)=true) (h:iL ((Z0 E so K0).run ev fr T S)=some (v,S')):
 ∃C' x w',Steps P (lone (Yo b a (.inRegion ops (i::idx)::k)) cs w) (lone {Yo b a (.inRegion ops (i::idx)::k)with mode:= .panicking [{v:=x,recovered:=false}]} cs w')/\C6 C S w C' S' w'/\VR C' v x:=by
 have sp:=gE C T a S w hg hT hS;have hr:b.roundOf=none\/∀c,o.op≠ .defer c:=by
  rcases hq with⟨F,rfl⟩|⟨F,A,rfl⟩
  .exact .inr (JQ heq (by simp) (by simp))
  .exact .inr (JQ heq (by simp) (by simp))
 have cr_:∀ {cr:CR} {m:Machine},k9 P m (Yo b a (.inRegion ops (i::idx)::k)) cs C S w cr->iL (ZB fr T S (fun v s=> .one ⟨.J,fr,fy v,s⟩) (some cr))=some (v,S')->
  ∃C' x w',Steps P m (lone {Yo b a (.inRegion ops (i::idx)::k)with mode:= .panicking [{v:=x,recovered:=false}]} cs w')/\C6 C S w C' S' w'/\VR C' v x:=by
  intro cr m dM h;cases cr with
  |same v=>cases h
  |J v s=>cases h
  |O v s=>
   obtain⟨C',x,w',hs,t,hv⟩:=dM;cases h;exact⟨C',x,w',hs,t,hv⟩
 rcases hq with⟨f,rfl⟩|⟨f,ar,rfl⟩
 .change iL (ZB fr T S (fun v s=> .one ⟨.J,fr,fy v,s⟩) ((f T S).bind fun p=>Y8 E ev p.1 p.2 S))=_ at h;cases hf:f T S with
  |none=>rw[hf]at h;cases h
  |some p=>
   rw[hf]at h;obtain⟨g,args⟩:=p;obtain⟨xs,CG,Zh⟩:=sp g args hf;simp only[Qe]at h;cases qJ:Y8 E ev g args S with
   |none=>rw[qJ]at h;cases h
   |some cr=>
    rw[qJ]at h;have dM:=Y6 g args cr C S w xs (Yo b a (.inRegion ops (i::idx)::k)) cs qJ hg Zh hS;obtain⟨C',x,w',h3,h4,h5⟩:=cr_ dM h;exact⟨C',x,w',.head (Ig ho hw hr CG) h3,h4,h5⟩
 .change iL (ZB fr T S (fun v s=> .one ⟨.J,fr,fy v,s⟩) ((f T).bind fun g=>(ar T).bind fun args=>aj E ev args S g))=_ at h;cases hf:f T with
  |none=>rw[hf]at h;cases h
  |some g=>
  cases ha:ar T with
  |none=>rw[hf,ha]at h;cases h
  |some args=>
   rw[hf,ha]at h;obtain⟨gx,xs,hgx,iw,hex⟩:=sp g args hf ha;simp only[Qe]at h;cases qJ:aj E ev args S g with
   |none=>rw[qJ]at h;cases h
   |some cr=>
    rw[qJ]at h;rcases YU g args cr C S w gx xs (Yo b a (.inRegion ops (i::idx)::k)) cs qJ hg hgx iw hS with⟨f',ys,CG,dM⟩|⟨l,f',tmps,ld,body,CG,dM⟩
    .rw[<-hex]at CG;obtain⟨C',x,w',h3,h4,h5⟩:=cr_ dM h;exact⟨C',x,w',.head (Ig ho hw hr CG) h3,h4,h5⟩
    .rw[<-hex]at CG;obtain⟨C',x,w',h3,h4,h5⟩:=cr_ dM h;exact⟨C',x,w',.head (QS ho hw hr CG) h3,h4,h5⟩
end
def nQ (ops:List Oper) (i j:Nat):Prop:=∃o,ops[i]?=some o/\∃e∈o.after.toList,Region.binds .any e=true/\e.on=j
inductive lf (ops:List Oper):(Nat->Prop)->List Nat->Prop where
 |O {D:Nat->Prop} (h:∀i,i<ops.length->D i):lf ops D []
 |J {D:Nat->Prop} {i:Nat} {l:List Nat} (hi:i<ops.length) (hd:¬D i) (he:∀j,nQ ops i j->D j) (t:lf ops (fun k=>D k\/k=i) l):lf ops D (i::l)
theorem zG {ops:Array Oper} {m:Region.Mode} {qL:Nat->Nat} (hr:∀i o,ops[i]?=some o->∀e∈o.after.toList,Region.binds m e=true->e.on<ops.size/\qL e.on<qL i)
 (hany:∀e,Region.binds .any e=true->Region.binds m e=true):∀(fuel t:Nat) (listed:Array Bool) (acc:List Nat),listed.size=ops.size->listed.toList.countP (! ·)<=fuel->
 ∃l,Region.linearise.go m ops fuel t listed acc=acc.reverse++l/\lf ops.toList (fun i=>listed[i]?=some true) l:=by
 intro fuel;have unl:∀(listed:Array Bool),listed.size=ops.size->∀i,i<ops.size->listed[i]?=some true\/listed[i]?=some false:=by
  intro listed hs i hi;rw[Array.getElem?_eq_getElem (by omega)];cases listed[i]<;>simp
 induction fuel with
 |zero=>
  intro t listed acc hs hc;refine⟨[],by simp[Region.linearise.go],.O fun i hi=>?_⟩;rcases unl listed hs i (by simpa using hi)with h|h
  .exact h
  .exfalso;have aM:false∈listed.toList:=by rw[Array.mem_toList_iff];exact Array.mem_of_getElem? h
   have:=List.countP_pos_iff (p:=(! · :Bool->Bool)) (l:=listed.toList)|>.2 ⟨false,aM,rfl⟩;omega
 |succ fuel ih=>
  intro t listed acc hs hc;unfold Region.linearise.go;simp only;generalize hrs:(List.range ops.size).filter (fun i=> !listed.getD i true&&((ops[i]?).map (·.after.all fun e=> !Region.binds m e||listed.getD e.on false)).getD false)=rs;have aM:∀i,i∈rs↔i<ops.size/\listed[i]?=some false/\∃o,ops[i]?=some o/\∀e∈o.after.toList,Region.binds m e=true->listed[e.on]?=some true:=by
   intro i;rw[<-hrs,List.mem_filter,List.mem_range];refine and_congr_right fun hi=>?_;rw[Qf];refine and_congr ?_ ?_
   .rcases unl listed hs i hi with h|h<;>simp[Array.getD_eq_getD_getElem?,h]
   .rw[Array.getElem?_eq_getElem hi];simp only[Option.map_some,Option.getD_some,Array.all_eq_true_iff_forall_mem,Option.some.injEq,exists_eq_left',Array.mem_toList_iff,Bool.or_eq_true,Bool.not_eq_true'];refine forall_congr' fun e=>forall_congr' fun _=>?_;constructor
    .rintro(h|h) hb
     .rw[hb]at h;cases h
     .rw[Array.getD_eq_getD_getElem?]at h;cases hl:listed[e.on]? with
      |none=>rw[hl]at h;cases h
      |some b=>rw[hl]at h;simp at h;rw[h]
    .intro h;cases hb:Region.binds m e with
     |false=>exact .inl rfl
     |true=>right;rw[Array.getD_eq_getD_getElem?,h hb];rfl
  cases hsel:rs[t % rs.length]? with
  |none=>
   refine⟨[],by simp,.O ?_⟩;have hemp:rs=[]:=by
    cases rs with
    |nil=>rfl
    |cons a l=>
     exfalso;have:t % (a::l).length<(a::l).length:=Nat.mod_lt _ (by simp);rw[Qi this]at hsel;cases hsel
   have all:∀r i,qL i=r->i<ops.size->listed[i]?=some true:=by
    intro r;induction r using Nat.strongRecOn with
    |_ r ihr=>
     intro i hri hi;rcases unl listed hs i hi with h|h
     .exact h
     .exfalso;have:i∈rs:=(aM i).2 ⟨hi,h,ops[i],Array.getElem?_eq_getElem hi,fun e he hb=>by
       obtain⟨h1,h2⟩:=hr i _ (Array.getElem?_eq_getElem hi) e he hb;exact ihr (qL e.on) (by omega) e.on U h1⟩
      rw[hemp]at this;cases this
   exact fun i hi=>all _ i U (by simpa using hi)
  |some i=>
   have hi:i∈rs:=List.mem_of_getElem? hsel;obtain⟨C8,yr,o,ho,hed⟩:=(aM i).1 hi;have oV:i<listed.size:=by omega
   have hcnt:(listed.setIfInBounds i true).toList.countP (! ·)<=fuel:=by
    rw[Array.toList_setIfInBounds,List.countP_set (by simpa using oV)];have gz:listed.toList[i]'(by simpa using oV)=false:=by
     have:listed[i]=false:=by rw[Array.getElem?_eq_getElem oV]at yr;exact Option.some.inj yr
     simpa using this
    rw[gz];simp;simp at hc;omega
   obtain⟨l,hl,zH⟩:=ih (t/rs.length) (listed.setIfInBounds i true) (i::acc) (by simpa using hs) hcnt;refine⟨i::l,by simpa using hl,.J (by simpa using C8) (by rw[yr];simp) ?_ ?_⟩
   .rintro j ⟨o',vP,e,he,hb,rfl⟩;rw[Array.getElem?_toList,ho]at vP;cases vP;exact hed e he (hany e hb)
   .have:(fun k=>listed[k]?=some true\/k=i)=(fun k=>(listed.setIfInBounds i true)[k]?=some true):=by
     funext k
     apply propext;rw[Array.getElem?_setIfInBounds];by_cases hk:i=k
     .subst hk;simp[oV]
     .simp only[hk,if_false];constructor
      .rintro(h|h)
       .exact h
       .exact absurd h.symm hk
      .exact .inl
    rw[this];exact zH
theorem Kf {ops:Array Oper} {m:Region.Mode} {qL:Nat->Nat} (hr:∀i o,ops[i]?=some o->∀e∈o.after.toList,Region.binds m e=true->e.on<ops.size/\qL e.on<qL i)
 (hany:∀e,Region.binds .any e=true->Region.binds m e=true) (t:Nat):lf ops.toList (fun _=>False) (Region.linearise m ops t):=by
 obtain⟨l,h1,h2⟩:=zG hr hany ops.size t (Array.replicate ops.size false) [] (by simp) (by
  have:=List.countP_le_length (p:=(! · :Bool->Bool)) (l:=(Array.replicate ops.size false).toList);simpa using this)
 have hl:Region.linearise m ops t=l:=by unfold Region.linearise;rw[h1];rfl
 rw[hl];have:(fun i=>(Array.replicate ops.size false)[i]?=some true)=(fun _:Nat=>False):=by
  funext i
  apply propext;rw[Array.getElem?_replicate];split<;>simp
 rw[this]at h2;exact h2
theorem KI {m:Region.Mode} (e:Edge) (h:Region.binds .any e=true):Region.binds m e=true:=by
 unfold Region.binds at*;split at h<;>first|(simp at h;done)|rfl
theorem BM {i:Nat}:∀ {l:List Edge},fe i l=true->∀e∈l,(∀r,e.ground≠ .gcOnly r)->e.on<i
 |a::l,h,e,he,hn=>by
  simp only[fe,Qf]at h;rcases Qk.1 he with rfl|he
  .have h1:=h.1;split at h1
   .next r hr=>exact absurd hr (hn r)
   .simpa[Nat.blt_eq]using h1
  .exact BM h.2 e he hn
theorem Mp {n i:Nat} {nC:List Nat}:∀ {l:List Edge},mE n nC i l=true->∀e∈l,Region.binds .gc e=true->e.on<n/\rj e.on nC<rj i nC
 |a::l,h,e,he,hb=>by
  simp only[mE,Qf]at h;rcases Qk.1 he with rfl|he
  .have h1:=h.1;rw[hb]at h1;simpa[Nat.blt_eq]using h1
  .exact Mp h.2 e he hb
theorem Te {n:Nat} {nC:List Nat}:∀ {l:List Oper} {j:Nat},tD n nC l j=true->∀i o,l[i]?=some o->mE n nC (j+i) o.after.toList=true
 |a::l,j,h,0,o,ho=>by
  simp only[tD,Qf]at h;simp at ho;subst ho;exact h.1
 |a::l,j,h,i+1,o,ho=>by
  simp only[tD,Qf]at h;have:=Te h.2 i o (by simpa using ho);rw[show j+(i+1)=j+1+i by omega];exact this
 | [],_,_,_,_,ho=>by simp at ho
theorem Pu:∀ {l:List Edge},lH l=false->∀e∈l,∀r,e.ground≠ .gcOnly r
 |a::l,h,e,he,r,hr=>by
  simp only[lH]at h;split at h
  .cases h
  .next hn=>
   rcases Qk.1 he with rfl|he
   .exact hn r hr
   .exact Pu h e he r hr
theorem U5 {a:Oper} {l:List Oper} (h:pQ (a::l)=false):lH a.after.toList=false/\pQ l=false:=by
 unfold pQ at h;generalize lH a.after.toList=q at h;cases q with
 |true=>cases h
 |false=>exact⟨rfl,h⟩
theorem Ta:∀ {l:List Oper},pQ l=false->∀o,o∈l->lH o.after.toList=false
 | [],_,_,ho=>by cases ho
 |a::l,h,o,ho=>by
  obtain⟨h1,h2⟩:=U5 h;cases ho with
  |head=>exact h1
  |tail _ ho=>exact Ta h2 o ho
theorem JC {ops:List Oper} {bs:List Nat}:∀ {l:List Oper} {j:Nat},j9 ops bs l j=true->∀i o,l[i]?=some o->uH ops bs (j+i) o (l.drop (i+1))=true
 |a::l,j,h,0,o,ho=>by
  simp only[j9,Qf]at h;simp at ho;subst ho;exact h.1
 |a::l,j,h,i+1,o,ho=>by
  simp only[j9,Qf]at h;have:=JC h.2 i o (by simpa using ho);rw[show j+(i+1)=j+1+i by omega];exact this
 | [],_,_,_,_,ho=>by simp at ho
theorem HL {ops:List Oper} (h:Z8 ops=true) {i:Nat} {o:Oper} (ho:ops[i]?=some o):uH ops (Y3 ops) i o (ops.drop (i+1))=true:=by
 unfold Z8 at h;rw[Qf]at h;have:=JC h.1 i o ho;simpa using this
theorem Fx {ops:List Oper} (h:Z8 ops=true) {i:Nat} {o:Oper} (ho:ops[i]?=some o):fe i o.after.toList=true:=by
 have:=HL h ho;unfold uH at this;simp only[Qf]at this;exact this.1.1.2
theorem J6 {ops:Array Oper} (h:Z8 ops.toList=true) (mixed:Bool) (t:Nat):lf ops.toList (fun _=>False) (Region.schedule mixed ops t):=by
 have vI:∀i o,ops[i]?=some o->fe i o.after.toList=true:=fun i o ho=>Fx h (by rw[Array.getElem?_toList];exact ho);have C8:∀i o,ops[i]?=some o->i<ops.size:=by
  intro i o ho;rcases Nat.lt_or_ge i ops.size with h|h
  .exact h
  .rw[Array.getElem?_eq_none h]at ho;cases ho
 have plain:∀(m:Region.Mode),m≠ .gc->∀t,lf ops.toList (fun _=>False) (Region.linearise m ops t):=by
  intro m hm t;refine Kf (qL:=id) (fun i o ho e he hb=>?_) KI t;have ti:∀r,e.ground≠ .gcOnly r:=by
   intro r hr;unfold Region.binds at hb;rw[hr]at hb;simp at hb;exact hm hb
  have:=BM (vI i o ho) e he ti;exact⟨Nat.lt_trans this (C8 i o ho),this⟩
 have gc:∀t,lf ops.toList (fun _=>False) (Region.linearise .gc ops t):=by
  intro t;unfold Z8 at h;rw[Qf]at h;cases hg:pQ ops.toList with
  |true=>
   have h2:=h.2;rw[hg]at h2;simp only[cond_true,BV,Array.length_toList]at h2;refine Kf (qL:=fun i=>rj i (Region.linearise .gc ops.toList.toArray 0)) (fun i o ho e he hb=>?_) KI t;have:=Te h2 i o (by rw[Array.getElem?_toList];exact ho);rw[Nat.zero_add]at this;exact Mp this e he hb
  |false=>
   refine Kf (qL:=id) (fun i o ho e he hb=>?_) KI t;have ti:=Pu (Ta hg o (by rw[Array.mem_toList_iff];exact Array.mem_of_getElem? ho)) e he;have:=BM (vI i o ho) e he ti;exact⟨Nat.lt_trans this (C8 i o ho),this⟩
 unfold Region.schedule;split
 .exact plain .any (by simp) t
 .split
  .exact plain .text (by simp) _
  .exact gc _
theorem Tx (acc:Array Nat) (j:Nat):∀(l:List Edge) (s:Nat),
 (l.foldl (fun s e=>if Region.binds .any e then s|||2^e.on|||acc.getD e.on 0 else s) s).testBit j=true↔
  s.testBit j=true\/∃e∈l,Region.binds .any e=true/\(e.on=j\/(acc.getD e.on 0).testBit j=true)
 | [],s=>by simp
 |e::l,s=>by
  rw[List.foldl_cons,Tx acc j l];cases hb:Region.binds .any e with
  |true=>
   simp only[if_true,Nat.testBit_or,Bool.or_eq_true,Nat.testBit_two_pow,decide_eq_true_eq,Qk,exists_eq_or_imp,hb,true_and];constructor
   .rintro(((h|h)|h)|h)
    .exact .inl h
    .exact .inr (.inl (.inl h))
    .exact .inr (.inl (.inr h))
    .exact .inr (.inr h)
   .rintro(h|(h|h)|h)
    .exact .inl (.inl (.inl h))
    .exact .inl (.inl (.inr h))
    .exact .inl (.inr h)
    .exact .inr h
  |false=>
   simp only[Bool.false_eq_true,if_false,Qk,exists_eq_or_imp,hb,false_and,false_or]
theorem P3 (f:Array Nat->Oper->Nat):∀(l:List Oper) (acc:Array Nat),(l.foldl (fun acc o=>acc.push (f acc o)) acc).size=acc.size+l.length/\
 (∀i,i<acc.size->(l.foldl (fun acc o=>acc.push (f acc o)) acc)[i]?=acc[i]?)/\
 (∀i o,l[i]?=some o->∃pre:Array Nat,(l.foldl (fun acc o=>acc.push (f acc o)) acc)[acc.size+i]?=some (f pre o)/\pre.size=acc.size+i/\
  ∀k,k<pre.size->pre[k]?=(l.foldl (fun acc o=>acc.push (f acc o)) acc)[k]?)
 | [],acc=>⟨by simp,fun _ _=>rfl,fun i o h=>by simp at h⟩
 |a::l,acc=>by
  obtain⟨h1,h2,h3⟩:=P3 f l (acc.push (f acc a));simp only[List.foldl_cons];refine⟨by rw[h1];simp;omega,fun i hi=>?_,fun i o ho=>?_⟩
  .rw[h2 i (by simp;omega),Array.getElem?_push_lt hi];rw[Array.getElem?_eq_getElem hi]
  .cases i with
   |zero=>
    simp at ho;subst ho;refine⟨acc,?_,by simp,fun k hk=>?_⟩
    .rw[Nat.add_zero,h2 acc.size (by simp)];exact Array.getElem?_push_size
    .rw[h2 k (by simp;omega),Array.getElem?_push_lt hk,Array.getElem?_eq_getElem hk]
   |succ i=>
    obtain⟨pre,ow,tL,hp3⟩:=h3 i o (by simpa using ho);refine⟨pre,?_,?_,hp3⟩
    .rw[<-ow];congr 1;simp;omega
    .rw[tL];simp;omega
def jH (ops:List Oper) (i j:Nat):Prop:=Nat.testBit ((pa (Y3 ops) i).getD 0) j=true
theorem XW {ops:List Oper} (h:Z8 ops=true) {i:Nat} {o:Oper} (ho:ops[i]?=some o) (j:Nat):
 jH ops i j↔∃e∈o.after.toList,Region.binds .any e=true/\(e.on=j\/jH ops e.on j):=by
 obtain⟨h1,h2,h3⟩:=P3 (fun acc o=>o.after.foldl (fun s e=>if Region.binds .any e then s|||2^e.on|||acc.getD e.on 0 else s) 0) ops #[];have hbef:Region.before ops.toArray=ops.foldl (fun acc o=>acc.push (o.after.foldl (fun s e=>if Region.binds .any e then s|||2^e.on|||acc.getD e.on 0 else s) 0)) #[]:=by
  unfold Region.before;rw[<-Array.foldl_toList]
 have dL:∀k,pa (Y3 ops) k=(Region.before ops.toArray)[k]?:=by
  intro k;unfold Y3;rw[EN,Array.getElem?_toList]
 rw[<-hbef]at h1 h2 h3;obtain⟨pre,ow,tL,hp3⟩:=h3 i o ho;simp only[List.size_toArray,List.length_nil,Nat.zero_add]at ow tL;unfold jH;rw[dL i,ow];simp only[Option.getD_some];rw[<-Array.foldl_toList,Tx];simp only[Nat.zero_testBit,Bool.false_eq_true,false_or];have hb:=Fx h ho;constructor
 .rintro⟨e,he,sq,hj⟩;have ti:∀r,e.ground≠ .gcOnly r:=by
   intro r hr;unfold Region.binds at sq;rw[hr]at sq;simp at sq
  have C8:=BM hb e he ti;refine⟨e,he,sq,hj.imp id fun hj=>?_⟩;rw[dL,<-hp3 e.on (by omega),<-Array.getD_eq_getD_getElem?];exact hj
 .rintro⟨e,he,sq,hj⟩;have ti:∀r,e.ground≠ .gcOnly r:=by
   intro r hr;unfold Region.binds at sq;rw[hr]at sq;simp at sq
  have C8:=BM hb e he ti;refine⟨e,he,sq,hj.imp id fun hj=>?_⟩;rw[dL,<-hp3 e.on (by omega),<-Array.getD_eq_getD_getElem?]at hj;exact hj
theorem PX {ops:List Oper} (h:Z8 ops=true):∀(i j:Nat),i<ops.length->jH ops i j->j<i:=by
 intro i;induction i using Nat.strongRecOn with
 |_ i ih=>
  intro j hi ha;have ho:ops[i]?=some ops[i]:=Qi hi;obtain⟨e,he,hb,hj⟩:=(XW h ho j).1 ha;have ti:∀r,e.ground≠ .gcOnly r:=by
   intro r hr;unfold Region.binds at hb;rw[hr]at hb;simp at hb
  have C8:=BM (Fx h ho) e he ti;rcases hj with rfl|hj
  .exact C8
  .exact Nat.lt_trans (ih e.on C8 j (by omega) hj) C8
theorem GI {ops:List Oper} (h:Z8 ops=true) {D:Nat->Prop} (hD:∀i,D i->∀j,nQ ops i j->D j):∀(i j:Nat),i<ops.length->D i->jH ops i j->D j:=by
 intro i;induction i using Nat.strongRecOn with
 |_ i ih=>
  intro j hi hd ha;have ho:ops[i]?=some ops[i]:=Qi hi;obtain⟨e,he,hb,hj⟩:=(XW h ho j).1 ha;have ti:∀r,e.ground≠ .gcOnly r:=by
   intro r hr;unfold Region.binds at hb;rw[hr]at hb;simp at hb
  have C8:=BM (Fx h ho) e he ti;have hde:D e.on:=hD i hd e.on ⟨_,ho,e,he,hb,rfl⟩;rcases hj with rfl|hj
  .exact hde
  .exact ih e.on C8 j (by omega) hde hj
theorem Ru {Yw b:Nat}:∀ {l:YI},bN Yw b l=true↔∃j,(j,b)∈l/\Nat.testBit Yw j=false
 | []=>by simp[bN]
 |p::l=>by
  obtain⟨pi,pb⟩:=p;simp only[bN];cases hq:(Nat.beq pb b&& !(Nat.testBit Yw pi))with
  |true=>
   simp only[cond_true,true_iff];rw[Qf]at hq;have:=Qb hq.1;subst this;exact⟨pi,Qh ..,by simpa using hq.2⟩
  |false=>
   simp only[cond_false];rw[Ru];constructor
   .rintro⟨j,h1,h2⟩;exact⟨j,Qg _ h1,h2⟩
   .rintro⟨j,h1,h2⟩;rcases Qk.1 h1 with h1|h1
    .cases h1;rw[Bool.and_eq_false_iff]at hq;rcases hq with hq|hq
     .rw[Nat.beq_refl]at hq;cases hq
     .rw[h2]at hq;cases hq
    .exact⟨j,h1,h2⟩
theorem Hd {Yw:Nat}:∀(l:YI) (h:Tr Cv) (b:Nat) (o:Cv),(iK Yw l h).u b=some o->h.u b=some o/\∀j,(j,b)∈l->Nat.testBit Yw j=true
 | [],h,b,o,hg=>⟨hg,fun _ h=>by cases h⟩
 |p::l,h,b,o,hg=>by
  obtain⟨pi,pb⟩:=p;simp only[iK]at hg;cases hq:Nat.testBit Yw pi with
  |true=>
   rw[hq]at hg;obtain⟨h1,h2⟩:=Hd l _ b o hg;refine⟨h1,fun j hj=>?_⟩;rcases Qk.1 hj with hj|hj
   .cases hj;exact hq
   .exact h2 j hj
  |false=>
   rw[hq]at hg;obtain⟨h1,h2⟩:=Hd l _ b o hg;simp only[cond_false,Ap]at h1;split at h1
   .cases h1
   .next ZT=>
    refine⟨h1,fun j hj=>?_⟩;rcases Qk.1 hj with hj|hj
    .cases hj;exact absurd rfl ZT
    .exact h2 j hj
theorem AX {α:Type} (i:Nat):(Tr.J:Tr α).u i=none:=by
 unfold Tr.u;cases r_ i<;>rfl
theorem J0 {Yw:Nat} {news:YI} {h:Tr Cv} {t:l_} {b:Nat} {o:Cv} (hg:(YL Yw news h t).u b=some o):h.u b=some o/\(∀j,(j,b)∈news->Nat.testBit Yw j=true)/\kK b t=true:=by
 cases t with
 |J=>rw[YL,AX]at hg;cases hg
 |block c=>
  simp only[YL]at hg;cases hq:bN Yw c news with
  |true=>rw[hq]at hg;rw[cond_true,AX]at hg;cases hg
  |false=>
   rw[hq]at hg;simp only[cond_false,Ap,AX]at hg;split at hg
   .next e=>
    subst e;refine⟨hg,fun j hj=>?_,by simp[kK]⟩;cases hb:Nat.testBit Yw j with
    |true=>rfl
    |false=>rw[Ru.2 ⟨j,hj,hb⟩]at hq;cases hq
   .cases hg
 |all=>
  obtain⟨h1,h2⟩:=Hd _ _ _ _ hg;exact⟨h1,h2,U⟩
theorem EL (T:Tr AV):∀(l:List Nat) (t:Tr AV) (i:Nat),(aw T l t).u i=if i∈l then T.u i else t.u i
 | [],t,i=>by simp[aw]
 |a::l,t,i=>by
  simp only[aw];rw[EL T l,Ap];by_cases h1:i∈l
  .simp[h1]
  .by_cases h2:i=a
   .subst h2;simp
   .simp[h1,h2]
theorem Ja:∀ {n b x:Nat},x∈dm b n↔b<=x/\x<b+n
 |0,b,x=>by simp only[dm,List.not_mem_nil,false_iff];omega
 |n+1,b,x=>by
  simp only[dm,Qk];rw[Ja];omega
theorem BI (h':Tr Cv):∀(l:List Nat) (h:Tr Cv) (b:Nat),(Z1 h' l h).u b=if b∈l then h'.u b else h.u b
 | [],h,b=>by simp[Z1]
 |a::l,h,b=>by
  simp only[Z1];rw[BI h' l,Ap];by_cases h1:b∈l
  .simp[h1]
  .by_cases h2:b=a
   .subst h2;simp
   .simp[h1,h2]
theorem Sd {i:Nat} {news:YI}:∀ {l:List Nat} {p:Nat×Nat},p∈cj i news l↔(p.1=i/\p.2∈l)\/p∈news
 | [],p=>by simp[cj]
 |b::l,p=>by
  simp only[cj,Qk];rw[Sd];constructor
  .rintro(rfl|h|h)
   .exact .inl ⟨U,.inl U⟩
   .exact .inl ⟨h.1,.inr h.2⟩
   .exact .inr h
  .rintro(⟨h1,h2|h2⟩|h)
   .left;cases p;simp_all
   .exact .inr (.inl ⟨h1,h2⟩)
   .exact .inr (.inr h)
theorem HD {Yw b n:Nat} {o:Option Cv}:∀ {l:eD},fz Yw b n o l=true->∀p∈l,Nat.testBit Yw p.1=false->kK b p.2.1=false\/p.2.2 n o=true
 |q::l,h,p,hp,ha=>by
  simp only[fz]at h;cases hq:Nat.testBit Yw q.1 with
  |true=>
   rw[hq]at h;rcases Qk.1 hp with rfl|hp
   .rw[hq]at ha;cases ha
   .exact HD h p hp ha
  |false=>
   rw[hq]at h;simp only[cond_false]at h;cases hh:kK b q.2.1 with
   |true=>
    rw[hh]at h;simp only[cond_true,Qf]at h;rcases Qk.1 hp with rfl|hp
    .exact .inr h.1
    .exact HD h.2 p hp ha
   |false=>
    rw[hh]at h;rcases Qk.1 hp with rfl|hp
    .exact .inl hh
    .exact HD h p hp ha
theorem JV {Yw next n:Nat} {H:Tr Cv} {q:fK}:∀ {l:List Nat},aE Yw next n H q l=true->∀b∈l,b<next/\(∀j,(j,b)∈q.b->Nat.testBit Yw j=true)/\
 ∀p∈q.c,Nat.testBit Yw p.1=false->kK b p.2.1=false\/p.2.2 n (H.u b)=true
 |a::l,h,b,hb=>by
  simp only[aE,Qf,Bool.not_eq_true']at h;rcases Qk.1 hb with rfl|hb
  .refine⟨by simpa[Nat.blt_eq]using h.1.1.1,fun j hj=>?_,HD h.1.2⟩;cases hq:Nat.testBit Yw j with
   |true=>rfl
   |false=>rw[Ru.2 ⟨j,hj,hq⟩]at h;simp at h
  .exact JV h.2 b hb
theorem VU {d:Option Nat} {nt:Nat} {v:AV} {T T':Tr AV} (h:putC d nt v T=some T'):(∀t,d=some t->t<nt)/\∀t,T'.u t=if d=some t then some v else T.u t:=by
 unfold putC at h;split at h
 .next k=>
  cases hk:Nat.blt k nt with
  |false=>rw[hk]at h;cases h
  |true=>
   rw[hk]at h;cases h;refine⟨fun t ht=>(by cases ht;simpa[Nat.blt_eq]using hk),fun t=>?_⟩;show(T.A k (some v)).u t=_;rw[Ap];by_cases e:t=k
   .subst e;simp
   .have:¬k=t:=fun h=>e h.symm;simp[e,this]
 .simp_all
structure zI (nt:Nat) (d:ph) (q:fK) (r:l_×AV×St) (q':fK):Prop where
 m:q.a.a<=r.2.2.a
 c:∀b∈r.2.2.c,b<q.a.a/\(∀j,(j,b)∈q.b->Nat.testBit d.a j=true)/\∀p∈q.c,Nat.testBit d.a p.1=false->kK b p.2.1=false\/p.2.2 r.2.2.a (r.2.2.heap.u b)=true
 a:q'.a.a=r.2.2.a
 f:q'.a.b=q.a.b
 g:q'.a.c=below q.a.b r.2.2.c q.a.c
 heap:∀b,q'.a.heap.u b=if b∈r.2.2.c\/(q.a.a<=b/\b<r.2.2.a)then r.2.2.heap.u b else q.a.heap.u b
 k:∀j b,(j,b)∈q'.b↔(j=d.i/\(b∈r.2.2.c\/(q.a.a<=b/\b<r.2.2.a)))\/(j,b)∈q.b
 e:∀p,p∈q'.c↔p=(d.i,r.1,mD d q r)\/p∈q.c
 l:∀t,d.o.dst=some t->t<nt
 T:∀t,q'.T.u t=if d.o.dst=some t then some r.2.1 else q.T.u t
theorem Sw {nt:Nat} {d:ph} {q q':fK} {r:l_×AV×St} (h:YT nt d q r=some q'):zI nt d q r q':=by
 unfold YT at h;cases hc:(Nat.ble q.a.a r.2.2.a&&aE d.a q.a.a r.2.2.a r.2.2.heap q r.2.2.c)with
 |false=>rw[hc]at h;cases h
 |true=>
 rw[hc]at h;simp only[cond_true]at h;rw[Qf]at hc;obtain⟨T,hT,h⟩:=Qa.1 h;cases h;have hle:=Qc hc.1;obtain⟨h1,h2⟩:=VU hT;refine⟨hle,JV hc.2,rfl,rfl,rfl,fun b=>?_,fun j b=>?_,fun p=>by simp,h1,h2⟩
 .grind [BI,Ja,Z1]
 .grind [Sd,Ja]
noncomputable def cY (E:a_) (ops:List Oper) (i:Nat) (o:Oper):ph:= {o,so:=ZW E o.type o.op,i,a:=(pa (Y3 ops) i).getD 0,b:=b_ o.op.operands.toList}
structure iS (E:a_) (ops:List Oper) (ev:Ev) (fr:Fr) (f:Nat->fK) (r:Nat->l_×AV×St) (X:Nat->Prop):Prop where
 run:∀i o,¬X i->ops[i]?=some o->Zt E ops ev fr (cY E ops i o) (f i)=some (r i)
 a:∀i o,ops[i]?=some o->zI fr.nt (cY E ops i o) (f i) (r i) (f (i+1))
theorem KC {E:a_} {ops:List Oper} {ev:Ev} {fr:Fr}:∀ {l:List Oper} {i0:Nat} {q q':fK},ko E ops ev fr (bE E (Y3 ops) l i0) q=some q'->
 ∃(f:Nat->fK) (r:Nat->l_×AV×St),f i0=q/\f (i0+l.length)=q'/\∀k o,l[k]?=some o->Zt E ops ev fr (cY E ops (i0+k) o) (f (i0+k))=some (r (i0+k))/\
  zI fr.nt (cY E ops (i0+k) o) (f (i0+k)) (r (i0+k)) (f (i0+k+1))
 | [],i0,q,q',h=>by
  cases h;exact⟨fun _=>q,fun _=>(.J,.Yk,q.a),rfl,rfl,fun k o h=>by simp at h⟩
 |o::l,i0,q,q',h=>by
  simp only[bE,ko]at h;obtain⟨r0,tj,h⟩:=Qa.1 h;obtain⟨q1,kN,h⟩:=Qa.1 h;obtain⟨f,r,h1,h2,h3⟩:=KC h;refine⟨fun n=>if n=i0 then q else f n,fun n=>if n=i0 then r0 else r n,by simp,?_,fun k o' ho=>?_⟩
  .have:i0+(o::l).length≠i0:=by simp
   simp only[this,if_false];rw[<-h2];congr 1;simp;omega
  .cases k with
   |zero=>
    simp at ho;subst ho;have ZT:i0+1≠i0:=by omega
    simp only[Nat.add_zero,if_true,ZT,if_false,h1];exact⟨tj,Sw kN⟩
   |succ k=>
    have:=h3 k o' (by simpa using ho);have e1:i0+(k+1)=i0+1+k:=by omega
    have n1:i0+1+k≠i0:=by omega
    have n2:i0+1+k+1≠i0:=by omega
    simp only[e1,n1,n2,if_false];exact this
theorem JB {E:a_} {ops:List Oper} {ev:Ev} {fr:Fr} {p:Nat}:∀ {l:List Oper} {i0:Nat} {q q':fK},fS E ops ev fr p (bE E (Y3 ops) l i0) q=some q'->
 ∃(f:Nat->fK) (r:Nat->l_×AV×St),f i0=q/\f (i0+l.length)=q'/\∀k o,l[k]?=some o->(Nat.testBit (cY E ops (i0+k) o).a p=false->Zt E ops ev fr (cY E ops (i0+k) o) (f (i0+k))=some (r (i0+k)))/\
  zI fr.nt (cY E ops (i0+k) o) (f (i0+k)) (r (i0+k)) (f (i0+k+1))/\(r (i0+k)).2.2.a=(f (i0+k)).a.a/\(r (i0+k)).2.2.c=[]
 | [],i0,q,q',h=>by
  cases h;exact⟨fun _=>q,fun _=>(.J,.Yk,q.a),rfl,rfl,fun k o h=>by simp at h⟩
 |o::l,i0,q,q',h=>by
  have one:∃r0 q1,(Nat.testBit (cY E ops i0 o).a p=false->Zt E ops ev fr (cY E ops i0 o) q=some r0)/\YT fr.nt (cY E ops i0 o) q r0=some q1/\r0.2.2.a=q.a.a/\r0.2.2.c=[]/\
   fS E ops ev fr p (bE E (Y3 ops) l (i0+1)) q1=some q':=by
   change (bif Nat.testBit (cY E ops i0 o).a p then _ else _)=_ at h;cases hb:Nat.testBit (cY E ops i0 o).a p with
   |true=>
    rw[hb]at h;obtain⟨q1,h1,h2⟩:=Qa.1 h;exact⟨_,q1,(fun h=>by cases h),h1,rfl,rfl,h2⟩
   |false=>
    rw[hb]at h;obtain⟨r0,h1,h2⟩:=Qa.1 h;cases hc:(Nat.beq r0.2.2.a q.a.a&&yi r0.2.2.c)with
    |false=>rw[hc]at h2;cases h2
    |true=>
     rw[hc]at h2;obtain⟨q1,h3,h4⟩:=Qa.1 h2;rw[Qf]at hc;refine⟨r0,q1,fun _=>h1,h3,Qb hc.1,?_,h4⟩;cases hl:r0.2.2.c with
     |nil=>rfl
     |cons _ _=>rw[hl]at hc;cases hc.2
  obtain⟨r0,q1,tj,kN,se,je,ia⟩:=one;obtain⟨f,r,h1,h2,h3⟩:=JB ia;refine⟨fun n=>if n=i0 then q else f n,fun n=>if n=i0 then r0 else r n,by simp,?_,fun k o' ho=>?_⟩
  .have:i0+(o::l).length≠i0:=by simp
   simp only[this,if_false];rw[<-h2];congr 1;simp;omega
  .cases k with
   |zero=>
    simp at ho;subst ho;have ZT:i0+1≠i0:=by omega
    simp only[Nat.add_zero,if_true,ZT,if_false,h1];exact⟨tj,Sw kN,se,je⟩
   |succ k=>
    have:=h3 k o' (by simpa using ho);have e1:i0+(k+1)=i0+1+k:=by omega
    have n1:i0+1+k≠i0:=by omega
    have n2:i0+1+k+1≠i0:=by omega
    simp only[e1,n1,n2,if_false];exact this
theorem Qq {Yw:Nat}:∀ {l:YI},iN Yw l=true->∀p∈l,Nat.testBit Yw p.1=true
 | [],_,_,h=>by cases h
 |q::l,h,p,hp=>by
  simp only[iN,Qf]at h;cases hp with
  |head=>exact h.1
  |tail _ hp=>exact Qq h.2 p hp
structure zJ (E:a_) (ops:List Oper) (ev:Ev) (fr:Fr) (f:Nat->fK) (r:Nat->l_×AV×St) (i0:Nat) (l:List Oper) (p:Nat) (v:AV):Prop where
 run:∀k o,l[k]?=some o->i0+k≠p->Nat.testBit (cY E ops (i0+k) o).a p=false\/i0+k<p->Zt E ops ev fr (cY E ops (i0+k) o) (f (i0+k))=some (r (i0+k))
 c:∀k o,l[k]?=some o->zI fr.nt (cY E ops (i0+k) o) (f (i0+k)) (r (i0+k)) (f (i0+k+1))
 b:∃k o,i0+k=p/\l[k]?=some o/\iM E ops ev fr (cY E ops p o) (f p)=some (v,(r p).2.2)/\(∀n∈(f p).b,Nat.testBit (cY E ops p o).a n.1=true)/\(r p).1= .all
 a:∀k,k<l.length->p<i0+k->(r (i0+k)).2.2.a=(f (i0+k)).a.a/\(r (i0+k)).2.2.c=[]
theorem GR {E:a_} {ops:List Oper} {ev:Ev} {fr:Fr} {T0:Tr AV}:∀ {l:List Oper} {i0:Nat} {q:fK} {rs:List dJ},nN (dq E ops ev fr T0 (bE E (Y3 ops) l i0) q)=some rs->
 (∃q',ko E ops ev fr (bE E (Y3 ops) l i0) q=some q'/\rs=[⟨.J,fr,q'.T,q'.a⟩])\/
 ∃f r p v,f i0=q/\zJ E ops ev fr f r i0 l p v/\rs=[⟨.O v,fr,cL ops T0,(f (i0+l.length)).a⟩]
 | [],i0,q,rs,h=>by
  cases h;exact .inl ⟨q,U,U⟩
 |o::l,i0,q,rs,h=>by
  change nN (match Zt E ops ev fr (cY E ops i0 o) q with
   |some r=>match YT fr.nt (cY E ops i0 o) q r with
    |some q'=>dq E ops ev fr T0 (bE E (Y3 ops) l (i0+1)) q'
    |none=> .J
   |none=>pO E ops ev fr T0 (cY E ops i0 o) (bE E (Y3 ops) l (i0+1)) q (iM E ops ev fr (cY E ops i0 o) q))=_ at h
  cases hr:Zt E ops ev fr (cY E ops i0 o) q with
  |some r0=>
   rw[hr]at h;simp only at h;cases hp:YT fr.nt (cY E ops i0 o) q r0 with
   |none=>rw[hp]at h;cases h
   |some q1=>
    rw[hp]at h;simp only at h;rcases GR h with⟨q',h1,h2⟩|⟨f,r,p,v,hf,hs,h2⟩
    .refine .inl ⟨q',?_,h2⟩;show(Zt E ops ev fr (cY E ops i0 o) q).bind _=_;rw[hr];show(YT fr.nt (cY E ops i0 o) q r0).bind _=_;rw[hp];exact h1
    .obtain⟨kp,op,hkp,_⟩:=hs.b;have ow:i0+1<=p:=by omega
     have ne:∀k,i0+1+k≠i0:=fun k=>by omega
     have ne2:∀k,i0+1+k+1≠i0:=fun k=>by omega
     refine .inr ⟨fun n=>if n=i0 then q else f n,fun n=>if n=i0 then r0 else r n,p,v,by simp,⟨fun k o' ho hn hx=>?_,fun k o' ho=>?_,?_,fun k hk C8=>?_⟩,?_⟩
     .cases k with
      |zero=>
       simp at ho;subst ho;simp only[Nat.add_zero,if_true];exact hr
      |succ k=>
       have e1:i0+(k+1)=i0+1+k:=by omega
       rw[e1]at hn hx|-;simp only[ne,if_false];exact hs.run k o' (by simpa using ho) hn hx
     .cases k with
      |zero=>
       simp at ho;subst ho;have ZT:i0+1≠i0:=by omega
       simp only[Nat.add_zero,if_true,ZT,if_false,hf];exact Sw hp
      |succ k=>
       have e1:i0+(k+1)=i0+1+k:=by omega
       simp only[e1,ne,ne2,if_false];exact hs.c k o' (by simpa using ho)
     .obtain⟨k,o',hk,ho,h3⟩:=hs.b;have hpn:p≠i0:=by omega
      refine⟨k+1,o',by omega,by simpa using ho,?_⟩;simp only[hpn,if_false];exact h3
     .cases k with
      |zero=>omega
      |succ k=>
       have e1:i0+(k+1)=i0+1+k:=by omega
       rw[e1]at C8|-;simp only[ne,if_false];exact hs.a k (by simpa using hk) C8
     .have ZT:i0+(o::l).length≠i0:=by simp
      simp only[ZT,if_false];rw[h2];have:i0+(o::l).length=i0+1+l.length:=by simp;omega
      rw[this]
  |none=>
   rw[hr]at h;simp only at h;cases hq:iM E ops ev fr (cY E ops i0 o) q with
   |none=>rw[hq]at h;cases h
   |some vs=>
    obtain⟨v,s⟩:=vs;rw[hq]at h;unfold pO at h;simp only at h;cases ha:iN (cY E ops i0 o).a q.b with
    |false=>rw[ha]at h;cases h
    |true=>
     rw[ha]at h;simp only[cond_true]at h;cases hd:(YT fr.nt (cY E ops i0 o) q (.all,.O [],s)).bind (fS E ops ev fr (cY E ops i0 o).i (bE E (Y3 ops) l (i0+1)))with
     |none=>rw[hd]at h;cases h
     |some q'=>
      rw[hd]at h;cases h;obtain⟨q1,kN,ia⟩:=Qa.1 hd;obtain⟨f,r,h1,h2,h3⟩:=JB (p:=i0) ia;have ne:∀k,i0+1+k≠i0:=fun k=>by omega
      have ne2:∀k,i0+1+k+1≠i0:=fun k=>by omega
      refine .inr ⟨fun n=>if n=i0 then q else f n,fun n=>if n=i0 then(.all,.O [],s)else r n,i0,v,by simp,⟨fun k o' ho hn hx=>?_,fun k o' ho=>?_,⟨0,o,rfl,rfl,by simpa using hq,by simpa using Qq ha,by simp⟩,fun k hk C8=>?_⟩,?_⟩
      .cases k with
       |zero=>exact absurd rfl hn
       |succ k=>
        have e1:i0+(k+1)=i0+1+k:=by omega
        rw[e1]at hn hx|-;simp only[ne,if_false];exact(h3 k o' (by simpa using ho)).1 (hx.resolve_right (by omega))
      .cases k with
       |zero=>
        simp at ho;subst ho;have ZT:i0+1≠i0:=by omega
        simp only[Nat.add_zero,if_true,ZT,if_false,h1];exact Sw kN
       |succ k=>
        have e1:i0+(k+1)=i0+1+k:=by omega
        simp only[e1,ne,ne2,if_false];exact(h3 k o' (by simpa using ho)).2.1
      .cases k with
       |zero=>omega
       |succ k=>
        have e1:i0+(k+1)=i0+1+k:=by omega
        rw[e1];simp only[ne,if_false];exact(h3 k _ (Qi (show k<l.length by simpa using hk))).2.2
      .have ZT:i0+(o::l).length≠i0:=by simp
       simp only[ZT,if_false];have:i0+(o::l).length=i0+1+l.length:=by simp;omega
       rw[this,h2]
section
variable {E : a_} {ops : List Oper} {ev : Ev} {fr : Fr} {f : Nat -> fK} {r : Nat -> l_ × AV × St} {X : Nat -> Prop} (hs : iS E ops ev fr f r X)
def Wr (f:Nat->fK) (r:Nat->l_×AV×St) (i b:Nat):Prop:=b∈(r i).2.2.c\/((f i).a.a<=b/\b<(r i).2.2.a)
include hs
theorem MQ {i:Nat} (hi:i<ops.length):(f i).a.a<=(f (i+1)).a.a:=by
 have:=hs.a i _ (Qi hi);rw[this.a];exact this.m
theorem BB {i j : Nat} (h : i <= j) (hj : j <= ops.length) : (f i).a.a <= (f j).a.a := by
  induction j with
  | zero => have : i = 0 := by omega
            subst this; exact Qj _
  | succ j ih =>
    rcases Nat.lt_or_ge i (j + 1) with h' | h'
    . grind [Nat.le_trans, MQ]
    . have : i = j + 1 := by omega
      subst this; exact Qj _
theorem Om {i:Nat} (hi:i<=ops.length):(f i).a.b=(f 0).a.b:=by
 induction i with
 |zero=>rfl
 |succ i ih=>rw[(hs.a i _ (Qi (show i<ops.length by omega))).f,ih (by omega)]
theorem MR (h0:(f 0).b=[]) {i:Nat} (hi:i<=ops.length) (j b:Nat):(j,b)∈(f i).b↔j<i/\Wr f r j b:=by
 induction i with
 |zero=>rw[h0];simp
 |succ i ih=>
  have hp:=hs.a i _ (Qi (show i<ops.length by omega));rw[hp.k,ih (by omega)];show(j=i/\_)\/_↔_;constructor
  .rintro(⟨rfl,h⟩|⟨h1,h2⟩)
   .exact⟨by omega,h⟩
   .exact⟨by omega,h2⟩
  .rintro⟨h1,h2⟩;rcases Nat.lt_or_ge j i with h|h
   .exact .inr ⟨h,h2⟩
   .have:j=i:=by omega
    subst this;exact .inl ⟨U,h2⟩
theorem TY {i j:Nat} (hi:i<=ops.length) (hj:j<i) {o:Oper} (ho:ops[j]?=some o):(j,(r j).1,mD (cY E ops j o) (f j) (r j))∈(f i).c:=by
 induction i with
 |zero=>omega
 |succ i ih=>
  have hp:=hs.a i _ (Qi (show i<ops.length by omega));rw[hp.e];rcases Nat.lt_or_ge j i with h|h
  .exact .inr (ih (by omega) h)
  .have:j=i:=by omega
   subst this;rw[Qi (show j<ops.length by omega)]at ho;cases ho;exact .inl U
theorem VD {i j : Nat} (h : i <= j) (hj : j <= ops.length) : ∀ b ∈ (f i).a.c, b ∈ (f j).a.c := by
  induction j with
  | zero => have : i = 0 := by omega
            subst this; exact fun _ h => h
  | succ j ih =>
    rcases Nat.lt_or_ge i (j + 1) with h' | h'
    . intro b hb
      rw [(hs.a j _ (Qi (show j < ops.length by omega))).g];exact BL (.inr (ih (by omega) (by omega) b hb))
    . have : i = j + 1 := by omega
      subst this; exact fun _ h => h
theorem So {i:Nat} (hi:i<ops.length) {b:Nat} (hb:b∈(r i).2.2.c):eU (f 0).a (f ops.length).a.c b:=by
 have hp:=hs.a i _ (Qi hi);rcases Nat.lt_or_ge b (f 0).a.b with h|h
 .left;refine VD hs (show i+1<=ops.length by omega) (Qj _) b ?_;rw[hp.g];refine BL (.inl ⟨hb,?_⟩);rw[Om hs (by omega)];exact h
 .exact .inr h
theorem TZ (h0:∀b,(f 0).a.a<=b->(f 0).a.heap.u b=none) {i:Nat} (hi:i<=ops.length):∀b,(f i).a.a<=b->(f i).a.heap.u b=none:=by
 induction i with
 |zero=>exact h0
 |succ i ih=>
  intro b hb;have hp:=hs.a i _ (Qi (show i<ops.length by omega));rw[hp.heap];have hle:=hp.m;rw[hp.a]at hb;rw[if_neg]
  .exact ih (by omega) b (by omega)
  .rintro(h|⟨_,h⟩)
   .have:=(hp.c b h).1;omega
   .omega
end
def Cx.B (C:Cx) (m:Nat):Cx:= {C with D:=fun b=>C.D b/\b<m,G:=fun b n=>C.G b n/\b<m}
theorem Kg {C C':Cx} (e:n_ C C') {m m':Nat} (h:m<=m'):n_ (C.B m) (C'.B m'):=
 ⟨fun b hb=>⟨e.D b hb.1,by have:=hb.2;omega⟩,fun b hb=>e.a b hb.1,e.M,fun b n hb=>⟨e.G b n hb.1,by have:=hb.2;omega⟩,fun b n hb=>e.c b n hb.1,e.X⟩
theorem WA {C:Cx} {m:Nat}:n_ (C.B m) C:=⟨fun _ hb=>hb.1,fun _ _=>rfl,fun _ _ h=>h,fun _ _ h=>h.1,fun _ _ _=>rfl,fun _ h=>h⟩
open Classical in
noncomputable def Zw (f:Nat->fK) (r:Nat->l_×AV×St) (D:Nat->Prop):Nat->Nat->Option Cv
 |0,b=>(f 0).a.heap.u b
 |i+1,b=>if D i/\Wr f r i b then(r i).2.2.heap.u b else Zw f r D i b
open Classical in
noncomputable def iT (f:Nat->fK) (r:Nat->l_×AV×St) (D:Nat->Prop):Nat->Nat->Nat
 |0,_=>(f 0).a.a
 |i+1,b=>if D i/\Wr f r i b then(f (i+1)).a.a else iT f r D i b
section
variable {E : a_} {ops : List Oper} {ev : Ev} {fr : Fr} {f : Nat -> fK} {r : Nat -> l_ × AV × St}
theorem HP {D D':Nat->Prop} {b:Nat}:∀ {i:Nat},(∀j,j<i->Wr f r j b->(D j↔D' j))->Zw f r D i b=Zw f r D' i b/\iT f r D i b=iT f r D' i b
 |0,_=>⟨rfl,rfl⟩
 |i+1,h=>by
  obtain⟨h1,h2⟩:=HP (i:=i) fun j hj=>h j (by omega);simp only[Zw,iT];have:(D i/\Wr f r i b)↔(D' i/\Wr f r i b):=and_congr_left fun hw=>h i (by omega) hw;by_cases hd:D i/\Wr f r i b
  .rw[if_pos hd,if_pos (this.1 hd),if_pos hd,if_pos (this.1 hd)];exact⟨rfl,rfl⟩
  .have vG:=fun x=>hd (this.2 x);rw[if_neg hd,if_neg vG,if_neg hd,if_neg vG];exact⟨h1,h2⟩
theorem EX {D : Nat -> Prop} {b i : Nat} : ∀ {n : Nat}, i <= n -> (∀ j, i <= j -> j < n -> D j -> ¬ Wr f r j b) -> Zw f r D n b = Zw f r D i b /\ iT f r D n b = iT f r D i b
  | 0, h, _ => by have : i = 0 := by omega
                  subst this; exact ⟨rfl, rfl⟩
  | n + 1, h, hn => by
    rcases Nat.lt_or_ge i (n + 1) with h' | h'
    . obtain ⟨h1, h2⟩ := EX (n := n) (by omega) fun j hj hl => hn j hj (by omega)
      simp only [Zw, iT];have : ¬ (D n /\ Wr f r n b) := fun x => hn n (by omega) (by omega) x.1 x.2;rw [if_neg this, if_neg this]; exact ⟨h1, h2⟩
    . have : i = n + 1 := by omega
      subst this; exact ⟨rfl, rfl⟩
variable {X : Nat -> Prop} (hs : iS E ops ev fr f r X)
include hs
theorem NI {b:Nat}:∀ {i:Nat},i<=ops.length->Zw f r (fun _=>True) i b=(f i).a.heap.u b
 |0,_=>rfl
 |i+1,h=>by
  have hp:=hs.a i _ (Qi (show i<ops.length by omega));simp only[Zw];rw[hp.heap,NI (by omega)];by_cases hw:Wr f r i b
  .rw[if_pos ⟨trivial,hw⟩];exact(if_pos hw).symm
  .rw[if_neg (fun x=>hw x.2)];exact(if_neg hw).symm
theorem zK {D:Nat->Prop} {b:Nat}:∀ {i:Nat},i<=ops.length->iT f r D i b<=(f i).a.a
 |0,_=>Qj _
 |i+1,h=>by
  simp only[iT];split
  .exact Qj _
  .exact Nat.le_trans (zK (by omega)) (MQ hs (by omega))
theorem wr_lt {i b:Nat} (hi:i<ops.length) (h:Wr f r i b):b<(f (i+1)).a.a:=by
 have hp:=hs.a i _ (Qi hi);rcases h with h|h
 .exact Nat.lt_of_lt_of_le (hp.c b h).1 (MQ hs hi)
 .rw[hp.a];exact h.2
theorem KD {D:Nat->Prop} {b:Nat} {o:Cv} (h0:∀b o,(f 0).a.heap.u b=some o->b<(f 0).a.a):∀ {i:Nat},i<=ops.length->Zw f r D i b=some o->b<iT f r D i b
 |0,_,h=>h0 b o h
 |i+1,hi,h=>by
  simp only[Zw,iT]at h|-;split at h
  .next hd=>rw[if_pos hd];exact wr_lt hs (by omega) hd.2
  .next hd=>rw[if_neg hd];exact KD h0 (by omega) h
theorem zL (t:Nat):∀ {i:Nat},i<=ops.length->(∃j o,j<i/\ops[j]?=some o/\o.dst=some t/\(f i).T.u t=some (r j).2.1)\/
 ((∀j o,j<i->ops[j]?=some o->o.dst≠some t)/\(f i).T.u t=(f 0).T.u t)
 |0,_=> .inr ⟨fun j o hj=>by omega,rfl⟩
 |i+1,hi=>by
  have ho:ops[i]?=some ops[i]:=Qi (show i<ops.length by omega);have hp:=hs.a i _ ho;have hT:(f (i+1)).T.u t=if ops[i].dst=some t then some (r i).2.1 else(f i).T.u t:=hp.T t;by_cases hd:ops[i].dst=some t
  .exact .inl ⟨i,_,by omega,ho,hd,by rw[hT,if_pos hd]⟩
  .rw[if_neg hd]at hT;rcases zL t (i:=i) (by omega)with⟨j,o,hj,vP,vG,hg⟩|⟨h1,h2⟩
   .exact .inl ⟨j,o,by omega,vP,vG,by rw[hT];exact hg⟩
   .refine .inr ⟨fun j o hj vP=>?_,hT.trans h2⟩;rcases Nat.lt_or_ge j i with h|h
    .exact h1 j o h vP
    .have:j=i:=by omega
     subst this;rw[ho]at vP;cases vP;exact hd
end
theorem Ux {d:Nat} {a:Oper} {l:List Oper} (h:ri d (a::l)=true):a.dst≠some d/\ri d l=true:=by
 unfold ri at h;rw[Qf]at h;refine⟨fun e=>?_,h.2⟩;have:=h.1;unfold oq at this;rw[e]at this;simp at this
theorem SB {d:Nat}:∀ {l:List Oper},ri d l=true->∀o,o∈l->o.dst≠some d
 | [],_,_,ho=>by cases ho
 |a::l,h,o,ho=>by
  obtain⟨h1,h2⟩:=Ux h;cases ho with
  |head=>exact h1
  |tail _ ho=>exact SB h2 o ho
theorem LW {ops:List Oper} (h:Z8 ops=true) {i j t:Nat} {o p:Oper} (hi:ops[i]?=some o) (hj:ops[j]?=some p) (ho:o.dst=some t) (hp:p.dst=some t):i=j:=by
 have key:∀ {i j:Nat} {o p:Oper},ops[i]?=some o->ops[j]?=some p->o.dst=some t->p.dst=some t->¬i<j:=by
  intro i j o p hi hj ho hp C8;have:=HL h hi;unfold uH at this;simp only[Qf,ho]at this;have aM:p∈ops.drop (i+1):=by
   have:(ops.drop (i+1))[j-(i+1)]?=some p:=by rw[List.getElem?_drop];rw[<-hj];congr 1;omega
   exact List.mem_of_getElem? this
  exact SB this.1.2 p aM hp
 have h1:=key hi hj ho hp;have h2:=key hj hi hp ho;omega
theorem Oj {bs:List Nat} {i Yw t:Nat}:∀ {l:List Oper} {j:Nat},n9 bs i Yw t l j=true->∀k o,l[k]?=some o->o.dst=some t->i=j+k\/Nat.testBit Yw (j+k)=true\/Nat.testBit ((pa bs (j+k)).getD 0) i=true
 |a::l,j,h,0,o,ho,hd=>by
  simp at ho;subst ho;simp only[n9,Qf,Bool.or_eq_true,Bool.not_eq_true']at h;rcases h.1 with((h1|h1)|h1)|h1
  .exact .inl (Qb h1)
  .simp only[oq,hd]at h1;rw[Nat.beq_refl]at h1;cases h1
  .exact .inr (.inl h1)
  .exact .inr (.inr h1)
 |a::l,j,h,k+1,o,ho,hd=>by
  simp only[n9,Qf]at h;have:=Oj h.2 k o (by simpa using ho) hd;rw[show j+(k+1)=j+1+k by omega];exact this
 | [],_,_,_,_,ho,_=>by simp at ho
theorem J3 {ops:List Oper} {bs:List Nat} {i Yw:Nat}:∀ {l:List Nat},pj ops bs i Yw l=true->∀t∈l,n9 bs i Yw t ops 0=true
 |a::l,h,t,ht=>by
  simp only[pj,Qf]at h;rcases Qk.1 ht with rfl|ht
  .exact h.1
  .exact J3 h.2 t ht
theorem zM {ops:List Oper} (h:Z8 ops=true) {i j t:Nat} {o p:Oper} (hi:ops[i]?=some o) (ht:t∈b_ o.op.operands.toList) (hj:ops[j]?=some p) (hp:p.dst=some t):i=j\/jH ops i j\/jH ops j i:=by
 have:=HL h hi;unfold uH at this;simp only[Qf]at this;have:=Oj (J3 this.1.1.1 t ht) j p hj hp;simpa[jH]using this
theorem Xa {ops:List Oper} (h:Z8 ops=true) {i:Nat} {o:Oper} (hi:ops[i]?=some o) {g:Nat×Bool} (hg:o.guard=some g):jH ops i g.1:=by
 have:=HL h hi;unfold uH at this;simp only[Qf,hg]at this;exact this.2
section
variable (f : Nat -> fK) (r : Nat -> l_ × AV × St) (n : Nat)
def tP (b:Nat):Prop:=eU (f 0).a (f n).a.c b
structure Inv (C0:Cx) (w0:World) (D:Nat->Prop) (C:Cx) (w:World):Prop where
 m:∀i,D i->i<n
 d:n_ C0 C
 heap:∀b o,Zw f r D n b=some o->C.D b/\∃x,w.heap[(C.a b).Cr]?=some x/\OR (C.B (iT f r D n b)) b o x
 inj:∀b b' o o',Zw f r D n b=some o->Zw f r D n b'=some o'->(C.a b).Cr=(C.a b').Cr->b=b'
 l:∀b,C.D b->C0.D b\/∃j,D j/\(f j).a.a<=b/\b<(r j).2.2.a
 s:∀Cr ms,C.M Cr=some ms->∃c e fr,w.heap[Cr]?=some (.cells c e fr)/\c.toList=ms
 apart:∀b o,Zw f r D n b=some o->C.M (C.a b).Cr=none
 a:∀b k,C.G b k->C.D b
 g:∀k,C.X k->k<w.heap.size
 p:∀b,C.D b->C.X (C.a b).Cr
 t:∀Cr ms,C.M Cr=some ms->C.X Cr
 u:∀b k,C.G b k->C0.G b k\/∃i,D i/\Wr f r i b
 size:w0.heap.size<=w.heap.size
 frame:∀Cr,Cr<w0.heap.size->(∀b o,(f 0).a.heap.u b=some o->tP f n b->(C0.a b).Cr≠Cr)->w.heap[Cr]?=w0.heap[Cr]?
 own:∀b o,Zw f r D n b=some o->(C0.D b/\∃o0,(f 0).a.heap.u b=some o0)\/w0.heap.size<=(C.a b).Cr\/∃b0 o0,(f 0).a.heap.u b0=some o0/\tP f n b0/\(C0.a b0).Cr=(C.a b).Cr
 hQ:∀Cr ms,C.M Cr=some ms->C0.M Cr=some ms\/w0.heap.size<=Cr\/∃b0 o0,(f 0).a.heap.u b0=some o0/\tP f n b0/\(C0.a b0).Cr=Cr
 q:w.tape=w0.tape/\w.os=w0.os/\w.output=w0.output
end
open Classical in
noncomputable def Cx.I (C C':Cx):Cx:=
 {a:=fun b=>if C.D b then C.a b else C'.a b,M:=C'.M,D:=fun b=>C.D b\/C'.D b,b:=fun b k=>if C.G b k then C.b b k else C'.b b k,G:=fun b k=>C.G b k\/C'.G b k,X:=C'.X}
section
variable {E : a_} {ops : List Oper} {ev : Ev} {fr : Fr} {f : Nat -> fK} {r : Nat -> l_ × AV × St} {X : Nat -> Prop} (hs : iS E ops ev fr f r X)
include hs
open Classical in
theorem Inv.step (ZO:Z8 ops=true) (fX:(f 0).b=[]) {C0:Cx} {w0:World} (fD:YR C0 (f 0).a w0) {D:Nat->Prop} {C:Cx} {w:World} (h:Inv f r ops.length C0 w0 D C w) {d:Nat} (hd:d<ops.length) (cW:¬D d)
 (bu:∀i j,D i->jH ops i j->D j) {s s':St} (dt:(r d).2.2.a=s'.a) (qK:(r d).2.2.c=s'.c) (hs3:∀b,Wr f r d b->(r d).2.2.heap.u b=s'.heap.u b) (hsn:s.a=(f d).a.a) (hsb:s.b=(f d).a.a) (wL:s.c=[])
 (et:∀b o,s.heap.u b=some o->Zw f r D ops.length b=some o) (hSs:YR (C.B (f d).a.a) s w) {C1:Cx} {w':World} (t:C6 (C.B (f d).a.a) s w C1 s' w'):
 Inv f r ops.length C0 w0 (fun k=>D k\/k=d) (C.I C1) w'/\n_ C (C.I C1)/\n_ C1 ((C.I C1).B (f (d+1)).a.a):=by
 have hp:=hs.a d _ (Qi hd);have hnext:(f (d+1)).a.a=s'.a:=by rw[<-dt];exact hp.a
 have hle:(f d).a.a<=s'.a:=by rw[<-dt];exact hp.m
 have uW:∀b o,(f 0).a.heap.u b=some o->b<(f 0).a.a:=fun b o hb=>fD.fresh b (fD.a b o hb).1;have cI:∀b,C1.D b->b<s'.a:=t.c.fresh;have k1:∀b,C1.D b->C.D b->b<(f d).a.a:=by
  intro b h1 h2;rcases Nat.lt_or_ge b (f d).a.a with hl|hl
  .exact hl
  .exfalso;rcases h.l b h2 with h0|⟨j,hj,hj1,hj2⟩
   .have a1:=fD.fresh b h0;have a2:=BB hs (Qo d) (Nat.le_of_lt hd);omega
   .have uX:=h.m j hj;have wU:=hs.a j _ (Qi uX);have hjx:=wU.a;rcases Nat.lt_trichotomy j d with C8|rfl|hgt
    .have:=BB hs (show j+1<=d by omega) (Nat.le_of_lt hd);omega
    .exact cW hj
    .have:=BB hs (show d+1<=j by omega) (Nat.le_of_lt uX);have:=cI b h1;omega
 have hold:∀b,C1.D b->C.D b\/(f d).a.a<=b:=by
  intro b hb;rcases t.k b hb with h1|h1
  .exact .inl h1.1
  .rw[hsn]at h1;exact .inr h1
 have e1:n_ C (C.I C1):=by
  refine⟨fun _ h=> .inl h,fun b hb=>by simp[Cx.I,hb],fun Cr ms hm=>?_,fun _ _ h=> .inl h,fun b k hb=>by simp[Cx.I,hb],fun k hk=>t.a.X k hk⟩;exact t.a.M Cr ms hm
 have e2:n_ C1 (C.I C1):=by
  refine⟨fun _ h=> .inr h,fun b hb=>?_,fun _ _ h=>h,fun _ _ h=> .inr h,fun b k hb=>?_,fun _ h=>h⟩
  .by_cases hc:C.D b
   .have:=t.a.a b ⟨hc,k1 b hb hc⟩;simp only[Cx.I,hc,if_true];exact this.symm
   .simp[Cx.I,hc]
  .by_cases hc:C.G b k
   .have oU:=t.c.d b k hb;have:=t.a.c b k ⟨hc,k1 b oU (h.a b k hc)⟩;simp only[Cx.I,hc,if_true];exact this.symm
   .simp[Cx.I,hc]
 have e4:n_ C1 ((C.I C1).B (f (d+1)).a.a):=by
  refine⟨fun b hb=>⟨.inr hb,by rw[hnext];exact cI b hb⟩,fun b hb=>e2.a b hb,fun _ _ h=>h,fun b k hb=>⟨.inr hb,by rw[hnext];exact cI b (t.c.d b k hb)⟩,fun b k hb=>e2.c b k hb,fun _ h=>h⟩
 have yQ:∀b,Wr f r d b↔b∈s'.c\/((f d).a.a<=b/\b<s'.a):=by
  intro b;unfold Wr;rw[dt,qK]
 have hU:∀b o,s.heap.u b=some o->eU s s'.c b->b∈s'.c:=by
  intro b o hb hm;rcases hm with hm|hm
  .exact hm
  .rw[hsb]at hm;have:=(hSs.a b o hb).1.2;omega
 have noLater:∀b,Wr f r d b->∀j,d+1<=j->j<ops.length->D j->¬Wr f r j b:=by
  intro b hb j hj uX hdj hw;have wU:=hs.a j _ (Qi uX);have hmono:=BB hs hj (Nat.le_of_lt uX);rcases hw with hw|hw
  .have hnews:=(MR hs fX (Nat.le_of_lt uX) d b).2 ⟨by omega,hb⟩;exact cW (bu j d hdj ((wU.c b hw).2.1 d hnews))
  .have:=wr_lt hs hd hb;omega
 have mJ:∀b,Zw f r (fun k=>D k\/k=d) ops.length b=(if Wr f r d b then s'.heap.u b else Zw f r D ops.length b)/\
  iT f r (fun k=>D k\/k=d) ops.length b=(if Wr f r d b then(f (d+1)).a.a else iT f r D ops.length b):=by
  intro b;by_cases hb:Wr f r d b
  .have Zc:=EX (f:=f) (r:=r) (D:=fun k=>D k\/k=d) (b:=b) (show d+1<=ops.length by omega) (fun j hj uX hdj=>by
    rcases hdj with hdj|rfl
    .exact noLater b hb j hj uX hdj
    .omega)
   rw[Zc.1,Zc.2];simp only[Zw,iT,or_true,true_and,hb,if_true,hs3 b hb,and_self]
  .have:=HP (f:=f) (r:=r) (D:=fun k=>D k\/k=d) (D':=D) (b:=b) (i:=ops.length) (fun j _ hw=>by
    constructor
    .rintro(hj|rfl)
     .exact hj
     .exact absurd hw hb
    .exact .inl)
   rw[if_neg hb,if_neg hb];exact this
 have hlw:∀b o,Zw f r D ops.length b=some o->(C.a b).Cr<w.heap.size:=by
  intro b o hb;obtain⟨_,x,hx,_⟩:=h.heap b o hb;exact B0 hx
 have hkeep:∀b o,Zw f r D ops.length b=some o->¬Wr f r d b->w'.heap[(C.a b).Cr]?=w.heap[(C.a b).Cr]?:=by
  intro b o hb hnw';refine t.frame _ (hlw b o hb) fun b2 o2 jA hm he=>?_;have hb2':=hU b2 o2 jA hm;have:=h.inj b2 b o2 o (et b2 o2 jA) hb he;subst this;exact hnw' ((yQ b2).2 (.inl hb2'))
 have tQ:∀b o,Wr f r d b->s'.heap.u b=some o->C1.D b/\(C.I C1).a b=C1.a b:=fun b o _ hb=>⟨(t.c.a b o hb).1,e2.a b (t.c.a b o hb).1⟩;have hG1:∀b k,C1.G b k->C.D b->¬Wr f r d b->C.G b k:=by
  intro b k hg hdb hnw';have oU:=t.c.d b k hg;have C8:=k1 b oU hdb;have:=(t.e b ⟨hdb,C8⟩ (fun hm=>by
   rcases hm with hm|hm
   .exact hnw' ((yQ b).2 (.inl hm))
   .rw[hsb]at hm;omega)).2 k hg
  exact this.1
 have hownw:∀b o,Wr f r d b->s'.heap.u b=some o->(Zw f r D ops.length b≠none/\C.D b/\C1.a b=C.a b)\/w.heap.size<=(C1.a b).Cr\/∃b0 o0,Zw f r D ops.length b0=some o0/\b0∈s'.c/\(C.a b0).Cr=(C1.a b).Cr:=by
  intro b o _ hb;rcases t.own b o hb with⟨jt,o0,h0⟩|h1|⟨b0,o0,h0,hm,he⟩
  .exact .inl ⟨by rw[et b o0 h0];simp,jt.1,t.a.a b jt⟩
  .exact .inr (.inl h1)
  .exact .inr (.inr ⟨b0,o0,et b0 o0 h0,hU b0 o0 h0 hm,he⟩)
 have zN:∀b0 o0,Zw f r D ops.length b0=some o0->b0∈s'.c->∀Cr,(C.a b0).Cr=Cr->w0.heap.size<=Cr\/∃b1 o1,(f 0).a.heap.u b1=some o1/\tP f ops.length b1/\(C0.a b1).Cr=Cr:=by
  intro b0 o0 h0 hm Cr he;have hmf:tP f ops.length b0:=So hs hd (by rw[qK];exact hm);rcases h.own b0 o0 h0 with⟨hc0,o1,h1⟩|h1|⟨b1,o1,h1,pr,he1⟩
  .exact .inr ⟨b0,o1,h1,hmf,by rw[<-he,h.d.a b0 hc0]⟩
  .exact .inl (by rw[<-he];exact h1)
  .exact .inr ⟨b1,o1,h1,pr,he1.trans he⟩
 refine⟨⟨?_,h.d.trans e1,?_,?_,?_,?_,?_,?_,t.c.f,?_,t.c.j,?_,Nat.le_trans h.size t.size,?_,?_,?_,?_⟩,e1,e4⟩
 .rintro i (hi|rfl)
  .exact h.m i hi
  .exact hd
 .
   intro b o hb;rw[(mJ b).1]at hb;rw[(mJ b).2];by_cases hw:Wr f r d b
   .rw[if_pos hw]at hb|-;obtain⟨jt,x,hx,hr⟩:=t.c.a b o hb;refine⟨.inr jt,x,by rw[e2.a b jt];exact hx,hr.mono e4 jt fun k hk=>?_⟩;rcases hk.1 with oQ|oQ
    .exact t.a.G b k ⟨oQ,k1 b jt (h.a b k oQ)⟩
    .exact oQ
   .rw[if_neg hw]at hb|-;obtain⟨jt,x,hx,hr⟩:=h.heap b o hb;have C8:=KD hs uW (Qj _) hb;refine⟨.inl jt,x,by rw[e1.a b jt,hkeep b o hb hw];exact hx,hr.mono (Kg e1 (Qj _)) ⟨jt,C8⟩ fun k hk=>⟨?_,C8⟩⟩;rcases hk.1 with oQ|oQ
    .exact oQ
    .exact hG1 b k oQ jt hw
 .
   have mixed:∀b b' o o',Wr f r d b->s'.heap.u b=some o->¬Wr f r d b'->Zw f r D ops.length b'=some o'->(C1.a b).Cr=(C.a b').Cr->False:=by
    intro b b' o o' hw hb xN dG he;rcases hownw b o hw hb with⟨h1,h2,h3⟩|h1|⟨b0,o0,h0,hm,xM⟩
    .cases hc:Zw f r D ops.length b with
     |none=>exact h1 hc
     |some o1=>
      have:=h.inj b b' o1 o' hc dG (by rw[<-h3];exact he);subst this;exact xN hw
    .have:=hlw b' o' dG;omega
    .have:=h.inj b0 b' o0 o' h0 dG (xM.trans he);subst this;exact xN ((yQ b0).2 (.inl hm))
   intro b b' o o' hb dG he;rw[(mJ b).1]at hb;rw[(mJ b').1]at dG;by_cases hw:Wr f r d b
   .rw[if_pos hw]at hb;have p1:=(tQ b o hw hb).2;by_cases xN:Wr f r d b'
    .rw[if_pos xN]at dG;rw[p1,(tQ b' o' xN dG).2]at he;exact t.c.inj b b' o o' hb dG he
    .rw[if_neg xN]at dG;rw[p1,e1.a b' (h.heap b' o' dG).1]at he;exact(mixed b b' o o' hw hb xN dG he).elim
   .rw[if_neg hw]at hb;have p1:=e1.a b (h.heap b o hb).1;by_cases xN:Wr f r d b'
    .rw[if_pos xN]at dG;rw[p1,(tQ b' o' xN dG).2]at he;exact(mixed b' b o' o xN dG hw hb he.symm).elim
    .rw[if_neg xN]at dG;rw[p1,e1.a b' (h.heap b' o' dG).1]at he;exact h.inj b b' o o' hb dG he
 .
   rintro b (hb|hb)
   .rcases h.l b hb with h1|⟨j,h1,h2⟩
    .exact .inl h1
    .exact .inr ⟨j,.inl h1,h2⟩
   .rcases hold b hb with h1|h1
    .rcases h.l b h1 with h2|⟨j,h2,h3⟩
     .exact .inl h2
     .exact .inr ⟨j,.inl h2,h3⟩
    .exact .inr ⟨d,.inr U,h1,by rw[dt];exact cI b hb⟩
 .exact fun Cr ms hm=>t.c.i Cr ms hm
 .
   intro b o hb;rw[(mJ b).1]at hb;by_cases hw:Wr f r d b
   .rw[if_pos hw]at hb;rw[(tQ b o hw hb).2];exact t.c.apart b o hb
   .rw[if_neg hw]at hb;rw[e1.a b (h.heap b o hb).1];show C1.M (C.a b).Cr=none;cases hm:C1.M (C.a b).Cr with
    |none=>rfl
    |some ms=>
     exfalso;rcases t.j _ ms hm with h1|h1|⟨b0,o0,h0,tK,he⟩
     .have h1':C.M (C.a b).Cr=some ms:=h1;rw[h.apart b o hb]at h1';cases h1'
     .have:=hlw b o hb;omega
     .have:=h.inj b0 b o0 o (et b0 o0 h0) hb he;subst this;exact hw ((yQ b0).2 (.inl (hU b0 o0 h0 tK)))
 .
   rintro b k (hg|hg)
   .exact .inl (h.a b k hg)
   .exact .inr (t.c.d b k hg)
 .
   rintro b (hb|hb)
   .rw[e1.a b hb];exact t.a.X _ (h.p b hb)
   .rw[e2.a b hb];exact t.c.g b hb
 .
   rintro b k (hg|hg)
   .rcases h.u b k hg with h1|⟨i,h1,h2⟩
    .exact .inl h1
    .exact .inr ⟨i,.inl h1,h2⟩
   .have oU:=t.c.d b k hg;by_cases hw:Wr f r d b
    .exact .inr ⟨d,.inr U,hw⟩
    .rcases hold b oU with h1|h1
     .rcases h.u b k (hG1 b k hg h1 hw)with h2|⟨i,h2,h3⟩
      .exact .inl h2
      .exact .inr ⟨i,.inl h2,h3⟩
     .exact absurd ((yQ b).2 (.inr ⟨h1,cI b oU⟩)) hw
 .
   intro Cr uJ hn;rw[<-h.frame Cr uJ hn];refine t.frame Cr (Nat.lt_of_lt_of_le uJ h.size) fun b2 o2 jA hm he=>?_;rcases zN b2 o2 (et b2 o2 jA) (hU b2 o2 jA hm) Cr he with h1|⟨b1,o1,h1,h2,h3⟩
   .omega
   .exact hn b1 o1 h1 h2 h3
 .
   intro b o hb;rw[(mJ b).1]at hb;by_cases hw:Wr f r d b
   .rw[if_pos hw]at hb;rw[(tQ b o hw hb).2];rcases hownw b o hw hb with⟨h1,h2,h3⟩|h1|⟨b0,o0,h0,hm,xM⟩
    .cases hc:Zw f r D ops.length b with
     |none=>exact absurd hc h1
     |some o1=>
      rw[h3];exact h.own b o1 hc
    .exact .inr (.inl (Nat.le_trans h.size h1))
    .rcases zN b0 o0 h0 hm _ xM with h1|h1
     .exact .inr (.inl h1)
     .exact .inr (.inr h1)
   .rw[if_neg hw]at hb;rw[e1.a b (h.heap b o hb).1];exact h.own b o hb
 .
   intro Cr ms hm;rcases t.j Cr ms hm with h1|h1|⟨b0,o0,h0,tK,he⟩
   .exact h.hQ Cr ms h1
   .exact .inr (.inl (Nat.le_trans h.size h1))
   .rcases zN b0 o0 (et b0 o0 h0) (hU b0 o0 h0 tK) Cr he with h1|h1
    .exact .inr (.inl h1)
    .exact .inr (.inr h1)
 .exact⟨t.i.1.trans h.q.1,t.i.2.1.trans h.q.2.1,t.i.2.2.trans h.q.2.2⟩
end
section
variable {E : a_} {P : Program} {ops : Array Oper} {ev : Ev} {fr : Fr} {f : Nat -> fK} {r : Nat -> l_ × AV × St}
structure lM (ops:List Oper) (f:Nat->fK) (r:Nat->l_×AV×St) (nt:Nat) (a0:Act) (D:Nat->Prop) (C:Cx) (a:Act):Prop where
 size:a.tmps.size=nt
 b:a.defers=a0.defers
 c:∀i o t,D i->ops[i]?=some o->o.dst=some t->∃x,a.tmps[t]?=some x/\VR (C.B (f (i+1)).a.a) (r i).2.1 x
 d:∀t,(∀i o,D i->ops[i]?=some o->o.dst≠some t)->a.tmps[t]?=a0.tmps[t]?
variable {X : Nat -> Prop} (hs : iS E ops.toList ev fr f r X)
include hs
theorem lM.step (ZO:Z8 ops.toList=true) {a0 a:Act} {D:Nat->Prop} {C C' C1:Cx} (h:lM ops.toList f r fr.nt a0 D C a) {d:Nat} {o:Oper} (ho:ops.toList[d]?=some o) (cW:¬D d) (e:n_ C C') (e4:n_ C1 (C'.B (f (d+1)).a.a))
 {x:Value} (hv:VR C1 (r d).2.1 x):lM ops.toList f r fr.nt a0 (fun k=>D k\/k=d) C' (a.put o.dst x):=by
 have hp:=hs.a d o ho;have dL:∀t,(a.put o.dst x).tmps[t]?=if o.dst=some t then some x else a.tmps[t]?:=by
  intro t;cases hd:o.dst with
  |none=>simp[Act.put]
  |some k=>
   have hk:k<fr.nt:=hp.l k hd;simp only[Act.put,Array.getElem?_setIfInBounds,Option.some.injEq];by_cases hkt:k=t
   .subst hkt;simp[h.size,hk]
   .simp[hkt]
 refine⟨by rw[Sv];exact h.size,by rw[LR];exact h.b,?_,?_⟩
 .rintro i p t (hi|rfl) hpi oR
  .have ZT:o.dst≠some t:=fun hot=>by
    have:=LW ZO hpi ho oR hot;subst this;exact cW hi
   obtain⟨y,hy,mb⟩:=h.c i p t hi hpi oR;exact⟨y,by rw[dL,if_neg ZT];exact hy,mb.mono (Kg e (Qj _))⟩
  .rw[ho]at hpi;cases hpi;exact⟨x,by rw[dL,if_pos oR],hv.mono e4⟩
 .intro t ht;rw[dL,if_neg (ht d o (.inr rfl) ho)];exact h.d t fun i p hi hpi=>ht i p (.inl hi) hpi
theorem lM.reads (ZO:Z8 ops.toList=true) {a0 a:Act} {D:Nat->Prop} {C0 C:Cx} (h:lM ops.toList f r fr.nt a0 D C a) (e0:n_ C0 C) (tR:∀b,C0.D b->b<(f 0).a.a) (hst0:∀b k,C0.G b k->C0.D b)
 (mO:TR C0 fr.nt (f 0).T a0.tmps) {d:Nat} (hd:d<ops.toList.length) (cW:¬D d) (bu:∀i j,D i->jH ops.toList i j->D j) (hdn:∀i,D i->i<ops.toList.length) (eF:∀j,jH ops.toList d j->D j) {t:Nat}
 (hw:∀j p,ops.toList[j]?=some p->p.dst=some t->d=j\/jH ops.toList d j\/jH ops.toList j d) {v:AV} (hv:(f d).T.u t=some v):∃x,a.tmps[t]?=some x/\VR (C.B (f d).a.a) v x:=by
 rcases zL hs t (Nat.le_of_lt hd)with⟨j,p,hj,wU,oR,hg⟩|⟨h1,h2⟩
 .rw[hg]at hv;cases hv;have hdj:D j:=by
   rcases hw j p wU oR with rfl|h1|h1
   .omega
   .exact eF j h1
   .have:=PX ZO j d (by omega) h1;omega
  obtain⟨x,hx,eV⟩:=h.c j p t hdj wU oR;exact⟨x,hx,eV.mono (Kg (.u C) (BB hs (show j+1<=d by omega) (Nat.le_of_lt hd)))⟩
 .have bG:∀i p,D i->ops.toList[i]?=some p->p.dst≠some t:=by
   intro i p hi hpi oR;rcases Nat.lt_trichotomy i d with C8|rfl|hgt
   .exact h1 i p C8 hpi oR
   .exact cW hi
   .grind [PX]
  rw[h2]at hv;obtain⟨x,hx,eV⟩:=mO.2 t v hv;refine⟨x,by rw[h.d t bG];exact hx,eV.mono ?_⟩;have hm:=BB hs (Qo d) (Nat.le_of_lt hd);exact⟨fun b hb=>⟨e0.D b hb,by have:=tR b hb;omega⟩,fun b hb=>e0.a b hb,e0.M,fun b k hb=>⟨e0.G b k hb,by have:=tR b (hst0 b k hb);omega⟩,fun b k hb=>e0.c b k hb,e0.X⟩
theorem sees (ZO:Z8 ops.toList=true) (fX:(f 0).b=[]) {C0:Cx} {w0:World} (fD:YR C0 (f 0).a w0) {D:Nat->Prop} {C:Cx} {w:World} (h:Inv f r ops.toList.length C0 w0 D C w) {d:Nat} (hd:d<ops.toList.length) (cW:¬D d)
 (bu:∀i j,D i->jH ops.toList i j->D j) (eF:∀j,jH ops.toList d j->D j) {b:Nat} {o:Cv} (hg:(f d).a.heap.u b=some o) (hn:∀j,(j,b)∈(f d).b->jH ops.toList d j) (hh:kK b (r d).1=true)
 (o8:∀b j,b<(f d).a.a->d<j->j<ops.toList.length->D j->Wr f r j b->kK b (r d).1=false):
 Zw f r D ops.toList.length b=some o/\iT f r D ops.toList.length b<=(f d).a.a:=by
 have h0:∀b,(f 0).a.a<=b->(f 0).a.heap.u b=none:=by
  intro b hb;cases hc:(f 0).a.heap.u b with
  |none=>rfl
  |some o=>have:=fD.fresh b (fD.a b o hc).1;omega
 have C8:b<(f d).a.a:=by
  rcases Nat.lt_or_ge b (f d).a.a with h1|h1
  .exact h1
  .rw[TZ hs h0 (Nat.le_of_lt hd) b h1]at hg;cases hg
 have hlater:∀j,d<=j->j<ops.toList.length->D j->¬Wr f r j b:=by grind
 have h1:=EX (f:=f) (r:=r) (D:=D) (b:=b) (Nat.le_of_lt hd) hlater;have h2:=HP (f:=f) (r:=r) (D:=D) (D':=fun _=>True) (b:=b) (i:=d) (fun j hj hw=>by
  refine⟨fun _=>trivial,fun _=>eF j (hn j ((MR hs fX (Nat.le_of_lt hd) j b).2 ⟨hj,hw⟩))⟩)
 refine⟨by rw[h1.1,h2.1,NI hs (Nat.le_of_lt hd)];exact hg,?_⟩;rw[h1.2];exact zK hs (Nat.le_of_lt hd)
theorem Sf (ZO:Z8 ops.toList=true) (fX:(f 0).b=[]) {C0:Cx} {w0:World} (fD:YR C0 (f 0).a w0) {D:Nat->Prop} {C:Cx} {w:World} (h:Inv f r ops.toList.length C0 w0 D C w) {d:Nat} (hd:d<ops.toList.length) (cW:¬D d)
 (bu:∀i j,D i->jH ops.toList i j->D j) (eF:∀j,jH ops.toList d j->D j) {H:Tr Cv}
 (hH:∀b o,H.u b=some o->(f d).a.heap.u b=some o/\(∀j,(j,b)∈(f d).b->jH ops.toList d j)/\kK b (r d).1=true)
 (o8:(∃b o,H.u b=some o)->∀b j,b<(f d).a.a->d<j->j<ops.toList.length->D j->Wr f r j b->kK b (r d).1=false):
 YR (C.B (f d).a.a) ((f d).a.J H) w/\∀b o,H.u b=some o->Zw f r D ops.toList.length b=some o:=by
 have zO:=fun b o hb=>sees hs ZO fX fD h hd cW bu eF (hH b o hb).1 (hH b o hb).2.1 (hH b o hb).2.2 (o8 ⟨b,o,hb⟩);have uW:∀b o,(f 0).a.heap.u b=some o->b<(f 0).a.a:=fun b o hb=>fD.fresh b (fD.a b o hb).1;refine⟨⟨?_,?_,fun b hb=>hb.2,h.s,fun b o hb=>h.apart b o (zO b o hb).1,fun b k hg=>⟨h.a b k hg.1,hg.2⟩,h.g,fun b hb=>h.p b hb.1,h.t⟩,fun b o hb=>(zO b o hb).1⟩
 .intro b o hb;obtain⟨h1,h2⟩:=zO b o hb;obtain⟨jt,x,hx,hr⟩:=h.heap b o h1;have C8:=KD hs uW (Qj _) h1;refine⟨⟨jt,by omega⟩,x,hx,hr.mono (Kg (.u C) h2) ⟨jt,C8⟩ fun k hk=>⟨hk.1,C8⟩⟩
 .intro b b' o o' hb dG he;exact h.inj b b' o o' (zO b o hb).1 (zO b' o' dG).1 he
theorem Rl {D:Nat->Prop} {b d j:Nat} (hj:d<j) (hn:j<ops.toList.length) (hd:D j) (hw:Wr f r j b):
 ∃k,d<k/\k<ops.toList.length/\D k/\Wr f r k b/\∀i,k<i->i<ops.toList.length->D i->¬Wr f r i b:=by
 have key:∀m j,ops.toList.length-j<=m->d<j->j<ops.toList.length->D j->Wr f r j b->
  ∃k,d<k/\k<ops.toList.length/\D k/\Wr f r k b/\∀i,k<i->i<ops.toList.length->D i->¬Wr f r i b:=by
  intro m;induction m with
  |zero=>intro j h1 _ h2;omega
  |succ m ih=>grind
 exact key _ j (Qj _) hj hn hd hw
omit hs in
theorem VQ {d:ph} {q:fK} {r:l_×AV×St} {n:Nat} {o:Option Cv} (h:mD d q r n o=true):
 ∃xo F b,d.so= .Z xo F/\r.1= .block b/\uG r.2.1 (F (aw q.T d.b .J) {a:=n,b:=n,c:=[],heap:=Tr.A .J b o})=true/\Cw q.a.a 40 r.2.1=true:=by
 obtain⟨o',so,i,Yw,tmps⟩:=d;obtain⟨t,v⟩:=r;cases so with
 |Z xo F=>
  cases t with
  |block b=>
   simp only[mD,Qf]at h;exact⟨xo,F,b,U,U,h.1,h.2⟩
  |_=>cases h
 |_=>cases h
theorem re_sees (ZO:Z8 ops.toList=true) {C0:Cx} {w0:World} (fD:YR C0 (f 0).a w0) {D:Nat->Prop} {C:Cx} {w:World} (h:Inv f r ops.toList.length C0 w0 D C w) {d:Nat} (hd:d<ops.toList.length) (cW:¬D d)
 (bu:∀i j,D i->jH ops.toList i j->D j) {o:Oper} (ho:ops.toList[d]?=some o) {b j:Nat} (hb:b<(f d).a.a) (hj:d<j) (uX:j<ops.toList.length) (hdj:D j) (hw:Wr f r j b) (hh:kK b (r d).1=true):
 ∃xo F n H,ZW E o.type o.op= .Z xo F/\(f d).a.a<=n/\F (aw (f d).T (b_ o.op.operands.toList) .J) {a:=n,b:=n,c:=[],heap:=H}=some (r d).2.1/\
  Cw (f d).a.a 40 (r d).2.1=true/\YR (C.B n) {a:=n,b:=n,c:=[],heap:=H} w:=by
 have uW:∀b o,(f 0).a.heap.u b=some o->b<(f 0).a.a:=fun b o hb=>fD.fresh b (fD.a b o hb).1;obtain⟨k,k1,k2,k3,k4,k5⟩:=Rl hs hj uX hdj hw;have hpk:=hs.a k _ (Qi k2);have CU:b∈(r k).2.2.c:=by
  rcases k4 with hw|hw
  .exact hw
  .have:=BB hs (Nat.le_of_lt k1) (Nat.le_of_lt k2);omega
 have hna:Nat.testBit (cY E ops.toList k ops.toList[k]).a d=false:=by
  cases hq:Nat.testBit (cY E ops.toList k ops.toList[k]).a d with
  |false=>rfl
  |true=>exact absurd (bu k d k3 hq) cW
 have hre:=((hpk.c b CU).2.2 _ (TY hs (Nat.le_of_lt k2) k1 ho) hna).resolve_left (fun h=>by simp only at h;rw[hh]at h;cases h);simp only at hre;have fB:(f d).a.a<=(r k).2.2.a:=by
  rw[<-hpk.a];exact BB hs (show d<=k+1 by omega) (by omega)
 obtain⟨xo,F,b',gE,hr1,hre1,hre2⟩:=VQ hre;have tf:b'=b:=by
  rw[hr1]at hh;exact(Qb hh).symm
 subst tf;refine⟨xo,F,_,Tr.A .J b' ((r k).2.2.heap.u b'),gE,fB,?_,hre2,?_⟩
 .have h1:=hre1;unfold uG at h1;split at h1
  .next u hu=>
   have:u=(r d).2.1:=by grind [eqU,He,Ht]
   rw[<-this];exact hu
  .cases h1
 .have Zc:=EX (f:=f) (r:=r) (D:=D) (b:=b') (show k+1<=ops.toList.length by omega) (fun i h1 h2 h3=>k5 i (by omega) h2 h3);have hc:Zw f r D ops.toList.length b'=(r k).2.2.heap.u b'/\iT f r D ops.toList.length b'=(r k).2.2.a:=by
   rw[Zc.1,Zc.2];simp only[Zw,iT];rw[if_pos ⟨k3,k4⟩,if_pos ⟨k3,k4⟩];exact⟨U,hpk.a⟩
  have dL:∀c oc,(Tr.A .J b' ((r k).2.2.heap.u b')).u c=some oc->c=b'/\Zw f r D ops.toList.length b'=some oc:=by grind [Ap,AX,Tr.A]
  refine⟨fun c oc hg=>?_,fun c c' oc oc' hg jd _=>(dL c oc hg).1.trans (dL c' oc' jd).1.symm,fun c hg=>hg.2,h.s,fun c oc hg=>?_,fun c k hg=>⟨h.a c k hg.1,hg.2⟩,h.g,fun c hg=>h.p c hg.1,h.t⟩
  .obtain⟨rfl,qA⟩:=dL c oc hg;obtain⟨jt,x,hx,hr⟩:=h.heap c oc qA;have C8:=KD hs uW (Qj _) qA;rw[hc.2]at hr C8;exact⟨⟨jt,C8⟩,x,hx,hr⟩
  .obtain⟨rfl,qA⟩:=dL c oc hg;exact h.apart c oc qA
theorem IR {j8:l_} {out:f_} {q:l_×AV×St} (h:eg j8 out=some q):∃ZN,out= .one ⟨.J,ZN,fy q.2.1,q.2.2⟩/\q.1=j8:=by
 unfold eg at h;split at h
 .cases h;exact⟨_,rfl,rfl⟩
 .cases h
theorem Mz (ZO:Z8 ops.toList=true) {C0:Cx} {w0:World} (kA:YV E C0) (fD:YR C0 (f 0).a w0) {a0:Act}
 (mO:TR C0 fr.nt (f 0).T a0.tmps) {D:Nat->Prop} {C:Cx} {a:Act} {w:World} (h:Inv f r ops.toList.length C0 w0 D C w) (hT:lM ops.toList f r fr.nt a0 D C a) {d:Nat} (hd:d<ops.toList.length) (cW:¬D d)
 (bu:∀i j,D i->jH ops.toList i j->D j) (eF:∀j,jH ops.toList d j->D j) {o:Oper} (ho:ops.toList[d]?=some o):
 TR (C.B (f d).a.a) a.tmps.size (aw (f d).T (b_ o.op.operands.toList) .J) a.tmps/\YV E (C.B (f d).a.a)/\
  ∀g,o.guard=some g->∀tw,Zs ops.toList g (f d).T=some tw->Region.wanted o (yielded ops a.tmps)=tw:=by
 have tR:=fD.fresh;have reads:=fun(t:Nat) (hw:∀j p,ops.toList[j]?=some p->p.dst=some t->d=j\/jH ops.toList d j\/jH ops.toList j d) (v:AV) (hv:(f d).T.u t=some v)=>
  hT.reads hs ZO h.d tR fD.d mO hd cW bu h.m eF hw hv
 have hTp:TR (C.B (f d).a.a) a.tmps.size (aw (f d).T (b_ o.op.operands.toList) .J) a.tmps:=by
  refine⟨rfl,fun t v hv=>?_⟩;rw[EL]at hv;split at hv
  .next ht=>exact reads t (fun j p wU oR=>zM ZO ho ht wU oR) v hv
  .rw[AX]at hv;cases hv
 have tm:YV E (C.B (f d).a.a):=by
  have hm:=BB hs (Qo d) (Nat.le_of_lt hd);exact kA.mono ⟨fun b hb=>⟨h.d.D b hb,by have:=tR b hb;omega⟩,fun b hb=>h.d.a b hb,h.d.M,fun b k hb=>⟨h.d.G b k hb,by have:=tR b (fD.d b k hb);omega⟩,fun b k hb=>h.d.c b k hb,h.d.X⟩
 refine⟨hTp,tm,fun g sj tw htw=>?_⟩;have hgA:=Xa ZO ho sj;have hgj:=PX ZO d g.1 hd hgA;have mP:Region.wanted o (yielded ops a.tmps)=tw:=by
  have wU:ops.toList[g.1]?=some ops.toList[g.1]:=Qi (show g.1<ops.toList.length by omega);generalize ops.toList[g.1]=p at wU;cases hdst:p.dst with
  |none=>grind [EL,AX,EN,Zs,fw,Jv,aw]
  |some t=>
   refine Jv (C:=C.B (f d).a.a) (T:=aw (f d).T [t] .J) (a:=a) ⟨rfl,fun u v hv=>?_⟩ (o:=o) (j:=g.1) (want:=g.2) sj ?_
   .grind [EL,Qp,AX,LW]
   .rw[<-htw];unfold Zs fw;rw[EN,wU];simp only[Qe,hdst];have:=EL (f d).T [t] .J t;simp only[Qp,if_true]at this;unfold Tr.u at this;rw[this]
 exact mP
theorem PL (he:Ym E P) (hx:eo E P) (Y6:du E P ev) (YU:dw E P ev) (ZO:Z8 ops.toList=true) (fX:(f 0).b=[]) {C0:Cx} {w0:World} (kA:YV E C0) (fD:YR C0 (f 0).a w0) {a0:Act}
 (mO:TR C0 fr.nt (f 0).T a0.tmps) {D:Nat->Prop} {C:Cx} {a:Act} {w:World} (h:Inv f r ops.toList.length C0 w0 D C w) (hT:lM ops.toList f r fr.nt a0 D C a) {d:Nat} (hd:d<ops.toList.length) (cW:¬D d)
 (hxd:¬X d) (bu:∀i j,D i->jH ops.toList i j->D j) (eF:∀j,jH ops.toList d j->D j) (b:Frame) (k:List Item) (cs:List Frame) (idx:List Nat):
 ∃C' a' w',Steps P (lone (Yo b a (.inRegion ops (d::idx)::k)) cs w) (lone (Yo b a' (.inRegion ops idx::k)) cs w')/\Inv f r ops.toList.length C0 w0 (fun j=>D j\/j=d) C' w'/\
  lM ops.toList f r fr.nt a0 (fun j=>D j\/j=d) C' a':=by
 have ho:ops.toList[d]?=some ops.toList[d]:=Qi hd;generalize ops.toList[d]=o at ho;have hoA:ops[d]?=some o:=by rw[<-Array.getElem?_toList];exact ho
 have CG:=hs.run d o hxd ho;have tR:=fD.fresh;obtain⟨hTp,tm,hwd⟩:=Mz hs ZO kA fD mO h hT hd cW bu eF ho;have go:Region.wanted o (yielded ops a.tmps)=true->bj E ev fr (cY E ops.toList d o) (f d) (aw (f d).T (b_ o.op.operands.toList) .J)=some (r d)->
  ∃C' a' w',Steps P (lone (Yo b a (.inRegion ops (d::idx)::k)) cs w) (lone (Yo b a' (.inRegion ops idx::k)) cs w')/\Inv f r ops.toList.length C0 w0 (fun j=>D j\/j=d) C' w'/\
   lM ops.toList f r fr.nt a0 (fun j=>D j\/j=d) C' a':=by
  intro mP kB;by_cases cI:∃b j,b<(f d).a.a/\d<j/\j<ops.toList.length/\D j/\Wr f r j b/\kK b (r d).1=true
  .obtain⟨b0,j,q1,q2,q3,q4,q5,q6⟩:=cI;obtain⟨xo,F,n,H,gE,hn,hF,hu,hSt⟩:=re_sees hs ZO fD h hd cW bu ho q1 q2 q3 q4 q5 q6;have hread:=vL he hx o;rw[gE]at hread;have elim:n_ (C.B (f d).a.a) (C.B n):=Kg (.u C) hn;obtain⟨x,Zc,hv⟩:=op_read (P:=P) (idx:=idx) (b:=b) (k:=k) (cs:=cs) hoA hread gE (tm.mono elim) (hTp.mono elim) hSt mP hF;have qG:VR (C.B (f d).a.a) (r d).2.1 x:=
    Gn (C:=C.B (f d).a.a) (C':=C.B n) (m:=(f d).a.a) (fun b hb hd=>⟨⟨hd.1,hb⟩,rfl⟩) (fun b k hb hg=>⟨⟨hg.1,hb⟩,rfl⟩) 40 hu hv
   have nO:(r d).2.2.a=(f d).a.a/\(r d).2.2.c=[]:=by
    unfold bj at kB;cases hq:aQ (cY E ops.toList d o).so with
    |false=>rw[hq]at kB;cases kB
    |true=>
    rw[hq]at kB;simp only[cond_true]at kB;obtain⟨ZN,iR,_⟩:=IR hs kB;have hso':(cY E ops.toList d o).so= .Z xo F:=gE;rw[hso']at iR;change ZR (fun v=> .one ⟨.J,fr,fy v,_⟩) (F _ _)=_ at iR;cases hf:F (aw (f d).T (b_ o.op.operands.toList) .J) ((f d).a.J (YL (cY E ops.toList d o).a (f d).b (f d).a.heap (ZH (.Z xo F) (aw (f d).T (b_ o.op.operands.toList) .J))))with
    |none=>rw[hf]at iR;cases iR
    |some v=>
     rw[hf]at iR;simp only[ZR,f_.one.injEq,dJ.mk.injEq]at iR;obtain⟨_,_,_,h4⟩:=iR;rw[<-h4];exact⟨U,U⟩
   have et:=Sf hs ZO fX fD h hd cW bu eF (H:= .J) (fun b o' hb=>by rw[AX]at hb;cases hb) (fun⟨b,o',hb⟩=>by rw[AX]at hb;cases hb);obtain⟨hinv,e1,e4⟩:=Inv.step hs ZO fX fD h hd cW bu (s:=(f d).a.J .J) (s':=(f d).a.J .J) nO.1 nO.2 (fun b hw=>by
    rcases hw with hw|hw
    .rw[nO.2]at hw;cases hw
    .rw[nO.1]at hw;omega) rfl rfl rfl et.2 et.1 (C6.u et.1)
   exact⟨_,_,w,Zc,hinv,hT.step hs ZO ho cW e1 e4 qG⟩
  have o8:∀b j,b<(f d).a.a->d<j->j<ops.toList.length->D j->Wr f r j b->kK b (r d).1=false:=by
   intro b j q1 q2 q3 q4 q5;cases q6:kK b (r d).1 with
   |false=>rfl
   |true=>exact absurd ⟨b,j,q1,q2,q3,q4,q5,q6⟩ cI
  unfold bj at kB;cases hq:aQ (cY E ops.toList d o).so with
  |false=>rw[hq]at kB;cases kB
  |true=>
  rw[hq]at kB;simp only[cond_true]at kB;obtain⟨ZN,iR,qM⟩:=IR hs kB;have et:=Sf hs ZO fX fD h hd cW bu eF (H:=YL (cY E ops.toList d o).a (f d).b (f d).a.heap (ZH (cY E ops.toList d o).so (aw (f d).T (b_ o.op.operands.toList) .J))) (by
   intro b o' hb;obtain⟨h1,h2,h3⟩:=J0 hb;exact⟨h1,fun j hj=>h2 j hj,by rw[qM];exact h3⟩) (fun _=>o8)
  have kN:∀F,ZW E o.type o.op≠ .H' F:=by
   intro F hF;have:aQ (ZW E o.type o.op)=true:=hq;rw[hF]at this;cases this
  have np:ZW E o.type o.op≠ .G':=by
   intro hF;have:aQ (ZW E o.type o.op)=true:=hq;rw[hF]at this;cases this
  obtain⟨v,C1,x,w',hTV,_,Zc,t,hv⟩:=op_exec (P:=P) Y6 YU (idx:=idx) (b:=b) (k:=k) (cs:=cs) hoA (vL he hx o) rfl kN np tm hTp et.1 mP iR;have hveq:(r d).2.1=v:=by grind [fy]
  obtain⟨hinv,e1,e4⟩:=Inv.step hs ZO fX fD h hd cW bu (s:=(f d).a.J _) rfl rfl (fun _ _=>rfl) rfl rfl rfl et.2 et.1 t;exact⟨_,_,w',Zc,hinv,hT.step hs ZO ho cW e1 e4 (by rw[hveq];exact hv)⟩
 unfold Zt at CG;have hdo:(cY E ops.toList d o).o=o:=rfl;rw[hdo]at CG;cases sj:o.guard with
 |none=>
  rw[sj]at CG;exact go (by unfold Region.wanted;rw[sj]) CG
 |some g=>
  rw[sj]at CG;simp only at CG;obtain⟨tw,htw,CG⟩:=Qa.1 CG;have mP:=hwd g sj tw htw;cases tw with
  |true=>exact go mP CG
  |false=>
   simp only[cond_false]at CG;have hr:r d=(.J,.O [],(f d).a.J .J):=(Option.some.inj CG).symm;have et:=Sf hs ZO fX fD h hd cW bu eF (H:= .J) (fun b o' hb=>by rw[AX]at hb;cases hb) (fun⟨b,o',hb⟩=>by rw[AX]at hb;cases hb);obtain⟨hinv,e1,e4⟩:=Inv.step hs ZO fX fD h hd cW bu (s:=(f d).a.J .J) (s':=(f d).a.J .J) (by rw[hr]) (by rw[hr]) (fun b _=>by rw[hr]) rfl rfl rfl et.2 et.1 (C6.u et.1);have hsk:=Ox (P:=P) (b:=b) (a:=a) (k:=k) (cs:=cs) (w:=w) (ops:=ops) (i:=d) (rest:=idx) (by rw[hoA];exact mP);simp only[hoA,Qe]at hsk;exact⟨_,_,w,.one hsk,hinv,hT.step hs ZO ho cW e1 e4 (by rw[hr];exact VR.A)⟩
end
section
variable {E : a_} {P : Program} {ops : Array Oper} {ev : Ev} {fr : Fr} {f : Nat -> fK} {r : Nat -> l_ × AV × St} {X : Nat -> Prop} (hs : iS E ops.toList ev fr f r X)
include hs
theorem Pk {C:Cx} {w:World} (hS:YR C (f 0).a w):Inv f r ops.toList.length C w (fun _=>False) C w:=by
 have hc:∀b,Zw f r (fun _=>False) ops.toList.length b=(f 0).a.heap.u b/\iT f r (fun _=>False) ops.toList.length b=(f 0).a.a:=by
  intro b;have:=EX (f:=f) (r:=r) (D:=fun _=>False) (b:=b) (Qo ops.toList.length) (fun _ _ _ h=>h.elim);exact⟨this.1.trans U,this.2.trans U⟩
 have e:n_ C (C.B (f 0).a.a):=⟨fun b hb=>⟨hb,hS.fresh b hb⟩,fun _ _=>rfl,fun _ _ h=>h,fun b k hg=>⟨hg,hS.fresh b (hS.d b k hg)⟩,fun _ _ _=>rfl,fun _ h=>h⟩
 refine⟨fun i h=>h.elim,.u C,?_,?_,fun b hb=> .inl hb,hS.i,?_,hS.d,hS.f,hS.g,hS.j,fun b k hg=> .inl hg,Qj _,fun _ _ _=>rfl,?_,fun _ _ h=> .inl h,⟨rfl,rfl,rfl⟩⟩
 .intro b o hb;rw[(hc b).1]at hb;rw[(hc b).2];obtain⟨hd,x,hx,hr⟩:=hS.a b o hb;exact⟨hd,x,hx,hr.mono e hd fun k hk=>hk.1⟩
 .intro b b' o o' hb dG he;rw[(hc b).1]at hb;rw[(hc b').1]at dG;exact hS.inj b b' o o' hb dG he
 .intro b o hb;rw[(hc b).1]at hb;exact hS.apart b o hb
 .intro b o hb;rw[(hc b).1]at hb;exact .inl ⟨(hS.a b o hb).1,o,hb⟩
theorem UI (he:Ym E P) (hx:eo E P) (Y6:du E P ev) (YU:dw E P ev) (ZO:Z8 ops.toList=true) (fX:(f 0).b=[]) (hX:∀i,¬X i) {C0:Cx} {w0:World} (kA:YV E C0) (fD:YR C0 (f 0).a w0) {a0:Act}
 (mO:TR C0 fr.nt (f 0).T a0.tmps) (b:Frame) (k:List Item) (cs:List Frame) {D:Nat->Prop} {idx:List Nat} (zH:lf ops.toList D idx):∀ {C:Cx} {a:Act} {w:World},Inv f r ops.toList.length C0 w0 D C w->
 lM ops.toList f r fr.nt a0 D C a->(∀i,D i->∀j,nQ ops.toList i j->D j)->
 ∃D' C' a' w',(∀i,i<ops.toList.length->D' i)/\Steps P (lone (Yo b a (.inRegion ops idx::k)) cs w) (lone (Yo b a' k) cs w')/\Inv f r ops.toList.length C0 w0 D' C' w'/\lM ops.toList f r fr.nt a0 D' C' a':=by
 induction zH with
 |O ZI=>
  intro C a w h hT _;exact⟨_,C,a,w,ZI,.one IF,h,hT⟩
 | @J D d idx hd cW hed _ ih=>
  intro C a w h hT bu;have hD':∀i,(D i\/i=d)->∀j,nQ ops.toList i j->(D j\/j=d):=by grind
  have wV:∀i j,D i->jH ops.toList i j->D j:=fun i j hi ha=>GI ZO bu i j (h.m i hi) hi ha;have eF:∀j,jH ops.toList d j->D j:=by
   intro j ha;rcases GI ZO hD' d j hd (.inr rfl) ha with h1|h1
   .exact h1
   .have:=PX ZO d j hd ha;omega
  obtain⟨C',a',w',Zc,hinv,dU⟩:=PL hs he hx Y6 YU ZO fX kA fD mO h hT hd cW (hX d) wV eF b k cs idx;obtain⟨D2,C2,a2,w2,h1,h2,h3,h4⟩:=ih hinv dU hD';exact⟨D2,C2,a2,w2,h1,Zc.trans h2,h3,h4⟩
theorem SS {C0 C:Cx} {w0 w:World} (fD:YR C0 (f 0).a w0) {D:Nat->Prop} (ZI:∀i b,i<ops.toList.length->Wr f r i b->D i) (h:Inv f r ops.toList.length C0 w0 D C w):
 C6 C0 (f 0).a w0 C (f ops.toList.length).a w:=by
 have hc:∀b,Zw f r D ops.toList.length b=(f ops.toList.length).a.heap.u b:=by
  intro b;rw[<-NI hs (Qj _)];exact(HP fun j hj hw=>⟨fun _=>trivial,fun _=>ZI j b hj hw⟩).1
 have uW:∀b o,(f 0).a.heap.u b=some o->b<(f 0).a.a:=fun b o hb=>fD.fresh b (fD.a b o hb).1;have nowr:∀b,C0.D b->¬eU (f 0).a (f ops.toList.length).a.c b->∀j,0<=j->j<ops.toList.length->D j->¬Wr f r j b:=by
  intro b hb hm j _ hj _ hw;rcases hw with hw|hw
  .exact hm (So hs hj hw)
  .have:=fD.fresh b hb;have:=BB hs (Qo j) (Nat.le_of_lt hj);omega
 refine⟨h.d,⟨?_,?_,?_,h.s,?_,h.a,h.g,h.p,h.t⟩,Om hs (Qj _),VD hs (Qo _) (Qj _),BB hs (Qo _) (Qj _),h.size,h.frame,?_,?_,?_,h.hQ,h.q⟩
 .intro b o hb;rw[<-hc]at hb;obtain⟨hd,x,hx,hr⟩:=h.heap b o hb;have C8:=KD hs uW (Qj _) hb;exact⟨hd,x,hx,hr.mono WA ⟨hd,C8⟩ fun k hk=>⟨hk,C8⟩⟩
 .intro b b' o o' hb dG he;rw[<-hc]at hb dG;exact h.inj b b' o o' hb dG he
 .intro b hb;rcases h.l b hb with h1|⟨j,hj,h1,h2⟩
  .exact Nat.lt_of_lt_of_le (fD.fresh b h1) (BB hs (Qo _) (Qj _))
  .have uX:=h.m j hj;have hp:=(hs.a j _ (Qi uX)).a;have:=BB hs (show j+1<=ops.toList.length by omega) (Qj _);omega
 .intro b o hb;rw[<-hc]at hb;exact h.apart b o hb
 .intro b hb hm;refine⟨?_,fun k hk=>?_⟩
  .rw[<-hc];exact(EX (Qo _) (nowr b hb hm)).1.trans U
  .rcases h.u b k hk with h1|⟨i,hi,hw⟩
   .exact h1
   .exact absurd hw (nowr b hb hm i (Qo _) (h.m i hi) hi)
 .intro b hb;rcases h.l b hb with h1|⟨j,hj,h1,_⟩
  .exact .inl h1
  .exact .inr (Nat.le_trans (BB hs (Qo j) (Nat.le_of_lt (h.m j hj))) h1)
 .intro b o hb;rw[<-hc]at hb;exact h.own b o hb
theorem WL {C0 C:Cx} {a0 a:Act} (e:n_ C0 C) (mO:TR C0 fr.nt (f 0).T a0.tmps) {D:Nat->Prop} (ZI:∀i,i<ops.toList.length->D i) (hdn:∀i,D i->i<ops.toList.length) (h:lM ops.toList f r fr.nt a0 D C a):
 TR C fr.nt (f ops.toList.length).T a.tmps:=by
 refine⟨h.size,fun t v hv=>?_⟩;rcases zL hs t (Qj _)with⟨j,p,hj,wU,oR,hg⟩|⟨h1,h2⟩
 .rw[hg]at hv;cases hv;obtain⟨x,hx,eV⟩:=h.c j p t (ZI j hj) wU oR;exact⟨x,hx,eV.mono WA⟩
 .rw[h2]at hv;obtain⟨x,hx,eV⟩:=mO.2 t v hv;exact⟨x,by rw[h.d t fun i p hi hpi=>h1 i p (hdn i hi) hpi];exact hx,eV.mono e⟩
omit hs in
theorem I1:∀(l:List Oper) (T:Tr AV) (t:Nat) (v:AV),(cL l T).u t=some v->T.u t=some v/\∀o∈l,o.dst≠some t
 | [],T,t,v,h=>⟨h,fun o ho=>by cases ho⟩
 |o::l,T,t,v,h=>by
  unfold cL at h;cases hd:o.dst with
  |none=>
   rw[hd]at h;obtain⟨h1,h2⟩:=I1 l T t v h;exact⟨h1,fun p hp=>by
    rcases Qk.1 hp with rfl|hp
    .rw[hd];simp
    .exact h2 p hp⟩
  |some d=>
   rw[hd]at h;obtain⟨h1,h2⟩:=I1 l (T.A d none) t v h;rw[Ap]at h1;by_cases e:t=d
   .rw[if_pos e]at h1;cases h1
   .rw[if_neg e]at h1;exact⟨h1,fun p hp=>by
     rcases Qk.1 hp with rfl|hp
     .rw[hd];simp;exact fun x=>e x.symm
     .exact h2 p hp⟩
theorem Wc (he:Ym E P) (hx:eo E P) (Y6:du E P ev) (YU:dw E P ev) (ZO:Z8 ops.toList=true) (fX:(f 0).b=[]) {p:Nat} {v:AV} (hp:zJ E ops.toList ev fr f r 0 ops.toList p v)
 (hX:∀i,X i↔i=p\/jH ops.toList i p) {C0:Cx} {w0:World} (kA:YV E C0) (fD:YR C0 (f 0).a w0) {a0:Act}
 (mO:TR C0 fr.nt (f 0).T a0.tmps) (b:Frame) (k:List Item) (cs:List Frame) {D:Nat->Prop} {idx:List Nat} (zH:lf ops.toList D idx):∀ {C:Cx} {a:Act} {w:World},Inv f r ops.toList.length C0 w0 D C w->
 lM ops.toList f r fr.nt a0 D C a->(∀i,D i->∀j,nQ ops.toList i j->D j)->¬D p->
 ∃C' a' w' k2 x,Steps P (lone (Yo b a (.inRegion ops idx::k)) cs w) (lone {Yo b a' k2 with mode:= .panicking [{v:=x,recovered:=false}]} cs w')/\C6 C0 (f 0).a w0 C' (f ops.toList.length).a w'/\
  TR C' fr.nt (cL ops.toList (f 0).T) a'.tmps/\a'.defers=a0.defers/\VR C' v x/\sh k2:=by
 obtain⟨kp,op,hkp,aY,vU,hpa,oR⟩:=hp.b;simp only[Nat.zero_add]at hkp;subst hkp;have ZV:kp<ops.toList.length:=(List.getElem?_eq_some_iff.1 aY).1;induction zH with
 |O ZI=>intro C a w h hT _ xJ;exact absurd (ZI kp ZV) xJ
 | @J D d idx hd cW hed _ ih=>
  intro C a w h hT bu xJ;have hD':∀i,(D i\/i=d)->∀j,nQ ops.toList i j->(D j\/j=d):=by grind
  have wV:∀i j,D i->jH ops.toList i j->D j:=fun i j hi ha=>GI ZO bu i j (h.m i hi) hi ha;have eF:∀j,jH ops.toList d j->D j:=by
   intro j ha;rcases GI ZO hD' d j hd (.inr rfl) ha with h1|h1
   .exact h1
   .have:=PX ZO d j hd ha;omega
  by_cases hdp:d=kp
  .subst hdp;have noWr:∀b j,d<j->j<ops.toList.length->¬Wr f r j b:=by
    intro b j hj uX hw;have hq:=hp.a j uX (by omega);simp only[Nat.zero_add]at hq;rcases hw with hw|hw
    .rw[hq.2]at hw;cases hw
    .rw[hq.1]at hw;omega
   obtain⟨hTp,tm,hwd⟩:=Mz hs ZO kA fD mO h hT hd cW wV eF aY;have hoA:ops[d]?=some op:=by rw[<-Array.getElem?_toList];exact aY
   have go:Region.wanted op (yielded ops a.tmps)=true->rh E ev fr (cY E ops.toList d op) (f d) (aw (f d).T (b_ op.op.operands.toList) .J)=some (v,(r d).2.2)->
    ∃C' a' w' k2 x,Steps P (lone (Yo b a (.inRegion ops (d::idx)::k)) cs w) (lone {Yo b a' k2 with mode:= .panicking [{v:=x,recovered:=false}]} cs w')/\C6 C0 (f 0).a w0 C' (f ops.toList.length).a w'/\
    TR C' fr.nt (cL ops.toList (f 0).T) a'.tmps/\a'.defers=a0.defers/\VR C' v x/\sh k2:=by
    intro mP kB;have et:=Sf hs ZO fX fD h hd cW wV eF (H:=YL (cY E ops.toList d op).a (f d).b (f d).a.heap .all) (by
     intro b o' hb;obtain⟨h1,h2,h3⟩:=J0 hb;exact⟨h1,fun j hj=>h2 j hj,by rw[oR];rfl⟩) (fun _ b j _ h2 h3 _ h5=>absurd h5 (noWr b j h2 h3))
    have gE:ZW E op.type op.op=(cY E ops.toList d op).so:=rfl;have hq:((∃F,ZW E op.type op.op= .H_ F)\/∃F A,ZW E op.type op.op= .dN F A)/\
     iL ((Z0 E (ZW E op.type op.op) K0).run ev fr (aw (f d).T (b_ op.op.operands.toList) .J) ((f d).a.J (YL (cY E ops.toList d op).a (f d).b (f d).a.heap .all)))=some (v,(r d).2.2):=by
     unfold rh at kB;rw[<-gE]at kB;cases hc:ZW E op.type op.op with
     |H_ F=>rw[hc]at kB;exact⟨.inl ⟨F,rfl⟩,kB⟩
     |dN F A=>rw[hc]at kB;exact⟨.inr ⟨F,A,rfl⟩,kB⟩
     |_=>rw[hc]at kB;cases kB
    obtain⟨C1,x,w',Zc,t,hv⟩:=zF (P:=P) Y6 YU (idx:=idx) (b:=b) (k:=k) (cs:=cs) hoA (vL he hx op) rfl hq.1 tm hTp et.1 mP hq.2;obtain⟨hinv,e1,e4⟩:=Inv.step hs ZO fX fD h hd cW wV (s:=(f d).a.J _) rfl rfl (fun _ _=>rfl) rfl rfl rfl et.2 et.1 t;have tl:=SS hs fD (fun i b hi hw=>by
     rcases Nat.lt_trichotomy i d with C8|rfl|hgt
     .exact .inl (eF i (hpa (i,b) ((MR hs fX (Nat.le_of_lt hd) i b).2 ⟨C8,hw⟩)))
     .exact .inr U
     .exact absurd hw (noWr b i hgt hi)) hinv
    refine⟨_,a,w',_,x,Zc,tl,⟨hT.size,fun t u hu=>?_⟩,hT.b,(hv.mono e4).mono WA,by intro _ _ _ _ _ h;cases h⟩;obtain⟨h1,h2⟩:=I1 _ _ _ _ hu;obtain⟨y,hy,mb⟩:=mO.2 t u h1;exact⟨y,by rw[hT.d t fun i q hi hq=>h2 q (List.mem_of_getElem? hq)];exact hy,mb.mono hinv.d⟩
   unfold iM at vU;have hdo:(cY E ops.toList d op).o=op:=rfl;rw[hdo]at vU;cases sj:op.guard with
   |none=>
    rw[sj]at vU;exact go (by unfold Region.wanted;rw[sj]) vU
   |some g=>
    rw[sj]at vU;obtain⟨tw,htw,vU⟩:=Qa.1 vU;cases tw with
    |false=>cases vU
    |true=>exact go (hwd g sj true htw) vU
  .have hxd:¬X d:=fun hx=>by
    rcases(hX d).1 hx with h1|h1
    .exact hdp h1
    .exact xJ (eF kp h1)
   obtain⟨C',a',w',Zc,hinv,dU⟩:=PL hs he hx Y6 YU ZO fX kA fD mO h hT hd cW hxd wV eF b k cs idx;obtain⟨C2,a2,w2,k2,x,h1,h2⟩:=ih hinv dU hD' (fun hh=>hh.elim xJ fun h=>hdp h.symm);exact⟨C2,a2,w2,k2,x,Zc.trans h1,h2⟩
end
theorem R5 {E:a_} {P:Program} (he:Ym E P) (hx:eo E P):sn E P:=by
 intro ev Y6 YU id ops C S w fr T b a k cs hg hT hF hS;show g_ P C S w fr b k cs _ ((rV E ops.toList (bE E (Y3 ops.toList) ops.toList 0)).run ev fr T S);unfold rV;cases ZO:Z8 ops.toList with
 |false=>exact Ay
 |true=>
 intro rs hrs;rcases GR hrs with⟨q,hda,rfl⟩|⟨f,r,p,v,hf0,hp,rfl⟩
 rotate_left
 .have hX:∀i,(fun i=>i=p\/jH ops.toList i p) i↔i=p\/jH ops.toList i p:=fun _=> .rfl;have hs:iS E ops.toList ev fr f r (fun i=>i=p\/jH ops.toList i p):=⟨fun i o hx ho=>by
   have:=hp.run i o ho (fun h=>hx (.inl (by omega))) (.inl (by
    simp only[Nat.zero_add];cases hb:Nat.testBit (cY E ops.toList i o).a p with
    |false=>rfl
    |true=>exact absurd (.inr hb) hx))
   simpa only[Nat.zero_add]using this,fun i o ho=>by simpa only[Nat.zero_add]using hp.c i o ho⟩
  have hw0:=C6.B hS (w.drawn+1);have fD:YR C (f 0).a {w with drawn:=w.drawn+1}:=by rw[hf0];exact hw0.c
  have mO:TR C fr.nt (f 0).T a.tmps:=by rw[hf0];exact hT
  have hT00:lM ops.toList f r fr.nt a (fun _=>False) C a:=⟨hT.1,rfl,fun i o t h=>h.elim,fun t _=>rfl⟩
  obtain⟨C',a',w',k2,x,Zc,t,hTT,hde,hv,hnc⟩:=Wc hs he hx Y6 YU ZO (by rw[hf0]) hp hX hg fD mO b k cs (J6 ZO (P.follows .mixedOrders) (w.tape w.drawn (.order b.fn id))) (Pk hs fD) hT00 (fun i h=>h.elim) (fun h=>h);rw[hf0]at t hTT;refine⟨_,Qp.2 U,C',a',w',cs,?_,hTT,⟨?_,(hF.mono t.a).e,(hF.mono t.a).c⟩,U,U,.same,k2,x,.head Hu Zc,hv,hnc⟩
  .simp only[Nat.zero_add];exact hw0.trans t
  .have:=(hF.mono t.a).d;rw[hde];exact this
 obtain⟨f,r,hf0,sg,hseq⟩:=KC hda;simp only[Nat.zero_add]at sg hseq;have hs:iS E ops.toList ev fr f r (fun _=>False):=⟨fun i o _ ho=>(hseq i o ho).1,fun i o ho=>(hseq i o ho).2⟩
 have hw0:=C6.B hS (w.drawn+1);have fD:YR C (f 0).a {w with drawn:=w.drawn+1}:=by rw[hf0];exact hw0.c
 have mO:TR C fr.nt (f 0).T a.tmps:=by rw[hf0];exact hT
 have hT00:lM ops.toList f r fr.nt a (fun _=>False) C a:=⟨hT.1,rfl,fun i o t h=>h.elim,fun t _=>rfl⟩
 obtain⟨D,C',a',w',ZI,Zc,hinv,hTT⟩:=UI hs he hx Y6 YU ZO (by rw[hf0]) (fun _ h=>h) hg fD mO b k cs (J6 ZO (P.follows .mixedOrders) (w.tape w.drawn (.order b.fn id))) (Pk hs fD) hT00 (fun i h=>h.elim);have t:=SS hs fD (fun i _ hi _=>ZI i hi) hinv;have hTn:=WL hs hinv.d mO ZI hinv.m hTT;rw[hf0,sg]at t;rw[sg]at hTn;refine⟨_,Qp.2 U,C',a',w',cs,hw0.trans t,hTn,⟨?_,(hF.mono t.a).e,(hF.mono t.a).c⟩,U,U,.same,.head Hu Zc⟩;have:=(hF.mono t.a).d;rw[hTT.b];exact this
def Cx.O (C:Cx):Cx:= {C with G:=fun _ _=>False}
theorem Ov {C:Cx} {a b:AV} {x:Value} (h:pL a b=true) (hv:VR C a x):VR C.O a x:=by
 cases hv with
 |bool b=>exact .bool b
 |int k n=>exact .int k n
 |O hs=>exact .O hs
 |Ys=>exact .Ys
 |H_ hd=>exact VR.H_ (C:=C.O) hd
 |Ca a hx=>exact .Ca a hx
 |slice hd hc hl=>exact VR.slice (C:=C.O) hd hc hl
 |ZX hx hd hc=>exact VR.ZX (C:=C.O) hx hd hc
 |Zn=>exact .Zn
 |I_ hd=>exact VR.I_ (C:=C.O) hd
 |_=>exfalso;cases b<;>cases h
theorem J7 {C:Cx}:∀ {a b:List AV} {xs:List Value},la a b=true->Y0 C a xs->Y0 C.O a xs
 |_,_,_,_,.O=> .O
 |_,[],_,h,.J _ _=>by cases h
 |_,_::_,_,h,.J hv t=>by
  simp only[la,Qf]at h;exact .J (Ov h.1 hv) (J7 h.2 t)
theorem Ou {C:Cx} {a b:AV} {x:Value} (h:eK a (some b)=true) (hv:VR C a x):VR C.O a x:=by
 unfold eK at h;split at h
 .cases hv with
  |agg Zh YO=>exact .agg (J7 h Zh) YO
 .cases hv with
  |J Zh=>exact .J (J7 h Zh)
 .exact Ov h hv
 .cases h
theorem FI {k:AV}:∀ {l:List Y2} {p:Y2×List Y2},pull k l=some p->∃a b,l=a++p.1::b/\p.2=a++b/\eK k (some p.1.1)=true
 | [],_,h=>by cases h
 |e::l,p,h=>by
  unfold pull at h;cases hs:eK k (some e.1)with
  |true=>
   rw[hs]at h;cases h;exact⟨[],l,U,U,hs⟩
  |false=>
   rw[hs]at h;obtain⟨q,hq,h⟩:=Qa.1 h;cases h;obtain⟨a,b,h1,h2,h3⟩:=FI hq;exact⟨e::a,b,by rw[h1];rfl,by rw[h2];rfl,h3⟩
theorem VV {k:AV} {l:List Y2} {p:Y2×List Y2} (h:pull k l=some p):l.Perm (p.1::p.2):=by grind [FI,List.perm_middle]
theorem Hf {C:Cx} {b:Nat}:∀ {x y:List Y2} {l:List MapEntry},YZ C b (x++y) l->∃l1 l2,l=l1++l2/\YZ C b x l1/\YZ C b y l2
 | [],_,l,h=>⟨[],l,rfl,.O,h⟩
 |_::_,_,_,h=>by
  cases h with
  |J hk hv hg hn t=>
   obtain⟨l1,l2,e,h1,h2⟩:=Hf t;exact⟨_::l1,l2,by rw[e];rfl,.J hk hv hg hn h1,h2⟩
theorem FV {C:Cx} {b:Nat} {y:List Y2} {l2:List MapEntry} (h2:YZ C b y l2):∀ {x:List Y2} {l1:List MapEntry},YZ C b x l1->YZ C b (x++y) (l1++l2)
 |_,_,.O=>h2
 |_,_,.J hk hv hg hn t=> .J hk hv hg hn (FV h2 t)
def ah:List Y2->List Y2->Nat->Nat
 | [],_,n=>n
 |e::r,l,n=>match pull e.1 l with
  |some p=>if e.2.2=n then p.1.2.2 else ah r p.2 n
  |none=>n
theorem Gu {s:Nat}:∀ {l:List Y2},iH s l=true->∀e∈l,s≠e.2.2
 | [],_,e,he=>by cases he
 |a::l,h,e,he=>by
  simp only[iH,Qf,Bool.not_eq_true']at h;rcases Qk.1 he with rfl|he
  .grind [Nat.beq_refl]
  .exact Gu h.2 e he
theorem GY {n:Nat}:∀ {l:List Y2},YD n l=true->∀e∈l,e.2.2<n
 | [],_,e,he=>by cases he
 |a::l,h,e,he=>by
  simp only[YD,Qf]at h;rcases Qk.1 he with rfl|he
  .simpa[Nat.blt_eq]using h.1.1
  .exact GY h.2 e he
theorem MN {n a b:Nat} (h:km n a b=true):a=b\/(n<=a/\n<=b):=by simp_all [Bool.or_eq_true,Qf,km,Qb]
theorem Eu {n0 n1:Nat}:∀ {es l:List Y2},Y5 n0 es l=true->YD n1 es=true->∀e∈es,e.2.2=ah es l e.2.2\/(n0<=e.2.2/\n0<=ah es l e.2.2)
 | [],_,_,_,e,he=>by cases he
 |a::r,l,h,hs,e,he=>by
  simp only[Y5]at h;split at h
  .next p hp=>
   simp only[Qf]at h;simp only[YD,Qf]at hs;simp only[ah,hp];rcases Qk.1 he with rfl|he
   .simp_all [MN]
   .have:a.2.2≠e.2.2:=Gu hs.1.2 e he;rw[if_neg this];exact Eu h.2 hs.2 e he
  .cases h
theorem GZ {C2 C3:Cx} {b m n0 n1:Nat} (nR:∀ {a c:AV} {x:Value},eK a (some c)=true->Cw m 40 a=true->VR C2 a x->VR C3 a x):
 ∀ {es l2:List Y2} {lr:List MapEntry},Y5 n0 es l2=true->YD n1 es=true->(es.all fun e=>Cw m 40 e.1&&Cw m 40 e.2.1)=true->YZ C2 b l2 lr->
  (∀e∈es,C3.G b e.2.2/\C3.b b e.2.2=C2.b b (ah es l2 e.2.2))->∃lr',lr'.Perm lr/\YZ C3 b es lr'
 | [],[],_,_,_,_,h,_=>by cases h;exact⟨[],.nil,.O⟩
 | [],_::_,_,h,_,_,_,_=>by cases h
 |(k,v,s)::r,l2,lr,h,hs,hu,hR,Zc=>by
  simp only[Y5]at h;split at h
  .next p hp=>
   simp only[Qf]at h;simp only[YD,Qf]at hs;simp only[List.all_cons,Qf]at hu;obtain⟨x,y,h1,h2,h3⟩:=FI hp;rw[h1]at hR;obtain⟨lx,ly,rfl,hx,hy⟩:=Hf hR;obtain⟨⟨k2,v2,s2⟩,q⟩:=p;cases hy with
   | @J _ _ _ e _ ly' hk hv hg hn hy=>
    have hR':YZ C2 b q (lx++ly'):=by
     have:q=x++y:=h2;rw[this];exact FV hy hx
    obtain⟨lr',zQ,hR3⟩:=GZ nR h.2 hs.2 hu.2 hR' (fun e' dI=>by
     have ZT:s≠e'.2.2:=Gu hs.1.2 e' dI;have:=Zc e' (Qg _ dI);refine⟨this.1,?_⟩;rw[this.2];simp only[ah,hp];rw[if_neg ZT])
    have dt:=Zc (k,v,s) (Qh ..);simp only[ah,hp,if_true]at dt;have oQ:k=k2:=Ht h3;have hv':v=v2:=Ht h.1.1;refine⟨e::lr',?_,.J (nR h3 hu.1.1 (by rw[oQ];exact hk)) (nR h.1.1 hu.1.2 (by rw[hv'];exact hv)) dt.1 (hn.trans dt.2.symm) hR3⟩;exact(zQ.cons e).trans List.perm_middle.symm
  .cases h
theorem Fm {n0:Nat}:∀ {es l2:List Y2},Y5 n0 es l2=true->(es.map (·.1)).Perm (l2.map (·.1))
 | [],[],_=> .nil
 | [],_::_,h=>by cases h
 |e::r,l2,h=>by
  simp only[Y5]at h;split at h
  .next p hp=>
   simp only[Qf]at h;obtain⟨_,_,_,_,h3⟩:=FI hp;have:=(VV hp).map (·.1);refine .trans ?_ this.symm;simp only[List.map_cons];rw[Ht h3];exact(Fm h.2).cons _
  .cases h
theorem II {n0:Nat} {C:Cx} {b:Nat} {l2:List Y2} {lr:List MapEntry} (hR:YZ C b l2 lr) {n1:Nat}:∀ {es:List Y2},Y5 n0 es l2=true->YD n1 es=true->∀e∈es,C.G b (ah es l2 e.2.2):=by
 intro es;induction es generalizing l2 lr with
 |nil=>intro _ _ e he;cases he
 |cons a r ih=>
  intro h hs e he;simp only[Y5]at h;split at h
  .next p hp=>
   simp only[Qf]at h;simp only[YD,Qf]at hs;obtain⟨x,y,h1,h2,h3⟩:=FI hp;rw[h1]at hR;obtain⟨lx,ly,rfl,hx,hy⟩:=Hf hR;simp only[ah,hp];obtain⟨⟨k2,v2,s2⟩,q⟩:=p;cases hy with
   | @J _ _ _ e' _ ly' hk hv hg hn hy=>
    rcases Qk.1 he with rfl|he
    .simp only[if_true];exact hg
    .have:a.2.2≠e.2.2:=Gu hs.1.2 e he;rw[if_neg this];refine ih (l2:=q) (lr:=lx++ly') ?_ h.2 hs.2 e he;have:q=x++y:=h2;rw[this];exact FV hy hx
  .cases h
theorem Jy (s1:St):∀(L:List Nat) (s:St) (b:Nat),(Zj s1 L s).heap.u b=if b∈L then s1.heap.u b else s.heap.u b
 | [],s,b=>by simp[Zj]
 |c::l,s,b=>by
  simp only[Zj];rw[Jy s1 l];by_cases h1:b∈l
  .simp[h1]
  .grind [St.B,Ap]
theorem Et (s1:St):∀(L:List Nat) (s:St),(Zj s1 L s).a=s.a/\(Zj s1 L s).b=s.b
 | [],_=>⟨rfl,rfl⟩
 |_::l,_=>by simp only[Zj];exact Et s1 l _
theorem Fq {b c:Nat} {l:List Nat} (h:c=b\/c∈l):c∈Z7 b l:=h.elim (fun e=>e▸(Gy b l).1) ((Gy b l).2 c)
theorem GW (s1:St):∀(L:List Nat) (s:St),(∀b∈s.c,b∈(Zj s1 L s).c)/\∀b∈L,b<s.b->b∈(Zj s1 L s).c
 | [],_=>⟨fun _ h=>h,fun _ h=>(by cases h)⟩
 |c::l,s=>by
  simp only[Zj];obtain⟨h1,h2⟩:=GW s1 l (s.B c (s1.heap.u c));refine⟨fun b hb=>h1 b ?_,fun b hb C8=>?_⟩
  .grind [St.B,Fq]
  .grind [St.B,Nat.blt_eq,Fq]
theorem Km {α:Type} {f:α->Nat}:∀ {l:List α},(l.map f).Nodup->∀a∈l,∀b∈l,f a=f b->a=b
 | [],_,a,ha,_,_,_=>by cases ha
 |c::l,h,a,ha,b,hb,e=>by
  simp only[List.map_cons,List.nodup_cons]at h;rcases Qk.1 ha with h1|h1
  .grind
  .rcases Qk.1 hb with h2|h2
   .grind
   .exact Km h.2 a h1 b h2 e
theorem Iw {C:Cx} {b:Nat}:∀ {es:List Y2} {l:List MapEntry},YZ C b es l->l.map (·.born)=es.map fun e=>C.b b e.2.2
 |_,_,.O=>rfl
 |_,_,.J _ _ _ hn t=>by simp only[List.map_cons];rw[hn,Iw t]
theorem TL {C C2:Cx} {S s1 s2:St} {w w2:World} (hS:YR C S w) (t:C6 C S.I w C2 s2 w2) {L:List Nat} (hL:∀b∈s2.c,b∈L) (C8:∀b∈L,b<S.a)
 (hs:∀b∈L,ef S.a (S.heap.u b) (s1.heap.u b) (s2.heap.u b)=true):
 ∃C3,C6 C S w C3 (Zj s1 L S) w2/\(∀ {v a:AV} {x:Value},eK v (some a)=true->Cw S.a 40 v=true->VR C2 v x->VR C3 v x)/\∀ {v:AV} {x:Value},Cm 40 v=true->VR C2 v x->VR C3 v x:=by
 classical
 let nr:Nat->List Y2:=fun b=>match s1.heap.u b with|some (.O es _)=>es|_=>[]
 let ie:Nat->List Y2:=fun b=>match s2.heap.u b with|some (.O es _)=>es|_=>[]
 let C3:Cx:= {C with M:=C2.M,G:=fun b n=>C.G b n\/(b∈L/\∃e∈nr b,e.2.2=n),b:=fun b n=>if C.G b n then C.b b n else C2.b b (ah (nr b) (ie b) n),X:=C2.X}
 have e3:n_ C C3:=⟨fun _ h=>h,fun _ _=>rfl,t.a.M,fun _ _ h=> .inl h,fun b n h=>by show(if C.G b n then _ else _)=_;rw[if_pos h],t.a.X⟩
 have hD:∀b,b<S.a->C2.D b->C.D b/\C2.a b=C.a b:=fun b hb hd=>by
  rcases t.k b hd with h|h
  .exact⟨h,t.a.a b h⟩
  .have:S.a<=b:=h;omega
 have nR:∀ {v a:AV} {x:Value},eK v (some a)=true->Cw S.a 40 v=true->VR C2 v x->VR C3 v x:=by
  intro v a x h hu hv;have h1:VR (C.N C2.O) v x:=Gn (C:=C) (C':=C2.O) (m:=S.a) (fun b hb hd=>hD b hb hd) (fun b n _ hg=>hg.elim) 40 hu (Ou h hv);have e5:n_ (C.N C2.O) C3:=⟨fun _ h=>h,fun _ _=>rfl,fun _ _ h=>h,fun b n h=>e3.G b n h,fun b n h=>e3.c b n h,fun _ h=>h⟩
  exact h1.mono e5
 have e4:n_ C2.A C3:=⟨fun _ x=>x.elim,fun _ x=>x.elim,fun _ _ h=>h,fun _ _ x=>x.elim,fun _ _ x=>x.elim,fun _ h=>h⟩
 have hclo:∀ {v:AV} {x:Value},Cm 40 v=true->VR C2 v x->VR C3 v x:=fun h hv=>(F0 40 hv h).mono e4;refine⟨C3,?_,nR,hclo⟩;have hU:∀b∈L,eU S (Zj s1 L S).c b:=fun b hb=>by
  rcases Nat.lt_or_ge b S.b with h|h
  .exact .inl ((GW s1 L S).2 b hb h)
  .exact .inr h
 have hmw:∀b o,S.heap.u b=some o->eU S.I s2.c b->b∈L:=fun b o hb hm=>by
  rcases hm with h|h
  .exact hL b h
  .have h1:=hS.fresh b (hS.a b o hb).1;have:S.a<=b:=h;omega
 have dL:=Jy s1 L S;have hold:∀b o,(Zj s1 L S).heap.u b=some o->∃o0,S.heap.u b=some o0:=by
  intro b o hb;rw[dL]at hb;split at hb
  .next vV=>
   have:=hs b vV;cases ho:S.heap.u b with
   |none=>rw[ho]at this;simp[ef]at this
   |some o0=>exact⟨o0,rfl⟩
  .exact⟨o,hb⟩
 have hobj:∀b∈L,∀o,s1.heap.u b=some o->∃x,w2.heap[(C.a b).Cr]?=some x/\OR C3 b o x/\C2.M (C.a b).Cr=none:=by
  intro b vV o ho;have gE:=hs b vV;have hb:=C8 b vV;rw[ho]at gE;cases ho0:S.heap.u b with
  |none=>rw[ho0]at gE;simp[ef]at gE
  |some o0=>
  cases zR:s2.heap.u b with
  |none=>rw[zR]at gE;unfold ef at gE;split at gE<;>simp_all
  |some o2=>
  rw[ho0,zR]at gE;obtain⟨po,x,hx,hr⟩:=t.c.a b o2 zR;obtain⟨hdC,ZV⟩:=hD b hb po;have hap:=t.c.apart b o2 zR;rw[ZV]at hx hap;refine⟨x,hx,?_,hap⟩;unfold ef at gE;split at gE
  .next n0 es n fI n' e0 e1 e2=>
   cases e0;cases e1;cases e2;simp only[Qf]at gE;obtain⟨⟨⟨h1,h2⟩,h3⟩,h4⟩:=gE;have hn:=Qb h1;subst hn;obtain⟨_,x0,_,tj⟩:=hS.a b _ ho0;have hst1:nr b=es:=by grind
   have jG:ie b=fI:=by grind
   cases tj with
   | @Z _ _ arr0 l0 _ _ _ _ _ kA _=>
   cases hr with
   | @Z _ _ arr l hp h hk hn hc hg hi=>
    have hσ:∀e∈es,C3.b b e.2.2=C2.b b (ah es fI e.2.2):=by
     intro e he;show(if C.G b e.2.2 then C.b b e.2.2 else C2.b b (ah (nr b) (ie b) e.2.2))=_;rw[hst1,jG];split
     .next hG=>
      have tR:=kA _ hG;rcases Eu h2 h3 e he with h5|h5
      .rw[<-h5,t.a.c b _ hG]
      .omega
     .rfl
    obtain⟨lr',zQ,hR3⟩:=GZ (C2:=C2) (C3:=C3) (b:=b) (m:=S.a) nR h2 h3 h4 h fun e he=>⟨.inr ⟨vV,e,by rw[hst1];exact he,rfl⟩,hσ e he⟩;have hkp:=Fm h2;have yV:(lr'.map (·.born)).Nodup:=(zQ.map (·.born)).nodup_iff.2 hn;have jE:∀n,C3.G b n->(C.G b n/\C3.b b n=C2.b b n/\C2.G b n)\/(¬C.G b n/\∃e∈es,e.2.2=n/\C3.b b n=C2.b b (ah es fI n)/\C2.G b (ah es fI n)):=by
     intro n hG;by_cases hCG:C.G b n
     .exact .inl ⟨hCG,by rw[e3.c b n hCG,t.a.c b n hCG],t.a.G b n hCG⟩
     .rcases hG with hG|⟨_,e,he,mc⟩
      .exact absurd hG hCG
      .rw[hst1]at he;refine .inr ⟨hCG,e,he,mc,?_,?_⟩
       .rw[<-mc];exact hσ e he
       .rw[<-mc];exact II h h2 h3 e he
    refine .Z (zQ.trans hp) hR3 ⟨fun e he=>?_,hkp.nodup_iff.2 hk.2⟩ yV ?_ ?_ ?_
    .have:e.1∈fI.map (·.1):=hkp.subset (List.mem_map.2 ⟨e,he,rfl⟩);obtain⟨e',dI,hee⟩:=List.mem_map.1 this;rw[<-hee];exact hk.1 e' dI
    .grind
    .intro n hG;rcases jE n hG with⟨_,h5,h6⟩|⟨_,e,he,mc,h5,h6⟩
     .exact hg n h6
     .rw[<-mc];exact GY h3 e he
    .intro n m hGn hGm heq;rcases jE n hGn with⟨gM,wW,hn4⟩|⟨gM,e,he,mc,wW,hn4⟩
     .rcases jE m hGm with⟨pr,hm3,hm4⟩|⟨pr,e',dI,hem,hm3,hm4⟩
      .grind
      .have h7:=hi n _ hn4 hm4 (by rw[<-wW,<-hm3];exact heq);rcases Eu h2 h3 e' dI with h8|h8
       .rw[hem]at h8;rw[h7,<-h8]
       .rw[hem,<-h7]at h8;have:=kA n gM;omega
     .rcases jE m hGm with⟨pr,hm3,hm4⟩|⟨pr,e',dI,hem,hm3,hm4⟩
      .have h7:=hi _ m hn4 hm4 (by rw[<-wW,<-hm3];exact heq);rcases Eu h2 h3 e he with h8|h8
       .rw[mc]at h8;rw[<-h7,<-h8]
       .rw[mc,h7]at h8;have:=kA m pr;omega
      .have:=Km (f:=fun e:Y2=>C3.b b e.2.2) (by rw[<-Iw hR3];exact yV) e he e' dI (by show C3.b b e.2.2=C3.b b e'.2.2;rw[mc,hem];exact heq);rw[<-mc,<-hem,this]
  .next t0 p0 a t1 p1 b' t2 p2 e0 e1 e2=>
   cases e0;cases e1;cases e2;simp only[Qf]at gE;obtain⟨⟨⟨h1,h2⟩,h3⟩,h4⟩:=gE;have ha:=IZ h1;subst ha;have hpp:p1=p2:=by grind
   subst hpp;have htt:=Qb h2;subst htt;cases hr with
   | @J _ _ _ c fr vs hv ha af YO hf hp=>
    have Zh:Y0 C3 a vs:=by
     have key:∀ {l:List AV} {xs:List Value},la l l=true->l.all (Cw S.a 40)=true->Y0 C2 l xs->Y0 C3 l xs:=by
      intro l;induction l with
      |nil=>intro xs _ _ h;cases h;exact .O
      |cons u l ih=>
       intro xs h5 h6 h7;simp only[la,Qf]at h5;simp only[List.all_cons,Qf]at h6;cases h7 with
       |J hv t'=>
        refine .J (nR (a:=u) ?_ h6.1 hv) (ih h5.2 h6.2 t');unfold eK;split
        .next e=>simp[pL]at h5
        .next e=>simp[pL]at h5
        .next e=>cases e;exact h5.1
        .next e=>cases e
     exact key h1 h4 hv
    exact .J Zh (by show bP _ (C.a b).base _;rw[<-ZV];exact ha) (by show _=(C.a b).size;rw[<-ZV];exact af) YO hf (fun zQ=>by show(C.a b).base=0/\_;rw[<-ZV];exact hp zQ)
  .cases gE
 have helse:∀b,b∉L->∀o,S.heap.u b=some o->w2.heap[(C.a b).Cr]?=w.heap[(C.a b).Cr]?:=by
  intro b vV o hb;obtain⟨_,x,hx,_⟩:=hS.a b o hb;refine t.frame _ (B0 hx) fun b0 o0 h0 hm vO=>?_;have:=hS.inj b0 b o0 o h0 hb vO;subst this;exact vV (hmw _ _ h0 hm)
 refine⟨e3,⟨?_,?_,?_,t.c.i,?_,?_,t.c.f,fun b hd=>t.a.X _ (hS.g b hd),t.c.j⟩,(Et s1 L S).2,(GW s1 L S).1,by rw[(Et s1 L S).1];exact Qj _,t.size,?_,?_,fun _ h=> .inl h,?_,?_,t.i⟩
 .intro b o hb;obtain⟨o0,h0⟩:=hold b o hb;obtain⟨hdC,x0,yN,tj⟩:=hS.a b o0 h0;rw[dL]at hb;refine⟨hdC,?_⟩;split at hb
  .grind
  .next vV=>
   rw[h0]at hb;cases hb;exact⟨x0,by rw[<-yN];exact helse b vV _ h0,tj.mono e3 hdC fun n hn=>hn.elim id fun h=>absurd h.1 vV⟩
 .intro b b' o o' hb dG he;obtain⟨o0,h0⟩:=hold b o hb;obtain⟨o1,h1⟩:=hold b' o' dG;exact hS.inj b b' o0 o1 h0 h1 he
 .intro b hb;rw[(Et s1 L S).1];exact hS.fresh b hb
 .intro b o hb;obtain⟨o0,h0⟩:=hold b o hb;rw[dL]at hb;split at hb
  .grind
  .next vV=>
   obtain⟨hdC,x,hx,_⟩:=hS.a b o0 h0;show C2.M (C.a b).Cr=none;cases hm:C2.M (C.a b).Cr with
   |none=>rfl
   |some ms=>
    exfalso;rcases t.j _ _ hm with h1|h1|⟨b0,o1,h2,h3,h4⟩
    .rw[hS.apart b o0 h0]at h1;cases h1
    .have:=B0 hx;omega
    .have:=hS.inj b0 b o1 o0 h2 h0 h4;subst this;exact vV (hmw _ _ h2 h3)
 .intro b n hG;rcases hG with h|⟨vV,_⟩
  .exact hS.d b n h
  .have:=hs b vV;cases ho:S.heap.u b with
   |none=>rw[ho]at this;simp[ef]at this
   |some o0=>exact(hS.a b o0 ho).1
 .intro Cr hb hm;exact t.frame Cr hb fun b o ho hmi=>hm b o ho (hU b (hmw b o ho hmi))
 .grind
 .intro b o hb;obtain⟨o0,h0⟩:=hold b o hb;exact .inl ⟨(hS.a b o0 h0).1,o0,h0⟩
 .intro Cr ms hm;rcases t.j Cr ms hm with h1|h1|⟨b0,o0,h0,h2,h3⟩
  .exact .inl h1
  .exact .inr (.inl h1)
  .exact .inr (.inr ⟨b0,o0,h0,hU b0 (hmw b0 o0 h0 h2),h3⟩)
theorem I4:∀(a l:List Nat),(∀b∈a,b∈ZG.j6 a l)/\∀b∈l,b∈ZG.j6 a l
 | [],_=>⟨fun _ h=>(by cases h),fun _ h=>h⟩
 |c::a,l=>by
  simp only[ZG.j6];obtain⟨h1,h2⟩:=I4 a (Z7 c l);refine⟨fun b hb=>?_,fun b hb=>h2 b (Fq (.inr hb))⟩;rcases Qk.1 hb with rfl|hb
  .exact h2 b (Fq (.inl U))
  .exact h1 b hb
theorem Ir:∀(os:List (AV×St)) (l:List Nat),(∀o∈os,∀b∈o.2.c,b∈ZG os l)/\∀b∈l,b∈ZG os l
 | [],_=>⟨fun _ h=>(by cases h),fun _ h=>h⟩
 |q::os,l=>by
  simp only[ZG];obtain⟨h1,h2⟩:=Ir os (ZG.j6 q.2.c l);refine⟨fun o ho b hb=>?_,fun b hb=>h2 b ((I4 q.2.c l).2 b hb)⟩;rcases Qk.1 ho with rfl|ho
  .exact h2 b ((I4 _ l).1 b hb)
  .exact h1 o ho b hb
theorem Mf {s0 a b:St}:∀ {L:List Nat},lE s0 a b L=true->∀n∈L,n<s0.a/\ef s0.a (s0.heap.u n) (a.heap.u n) (b.heap.u n)=true
 | [],_,n,hn=>by cases hn
 |c::l,h,n,hn=>by
  simp only[lE,Qf]at h;rcases Qk.1 hn with rfl|hn
  .grind [Nat.blt_eq]
  .exact Mf h.2 n hn
theorem Kh {m:Nat} {s0:St} {o:AV×St} {L:List Nat}:∀ {os:List (AV×St)},di m s0 o L os=true->∀q∈os,
 ((eK o.1 (some q.1)=true/\Cw m 40 o.1=true)\/(bM o.1 q.1=true/\Cm 40 o.1=true))/\lE s0 o.2 q.2 L=true
 | [],_,q,hq=>by cases hq
 |c::l,h,q,hq=>by
  simp only[di,Qf,Bool.or_eq_true]at h;rcases Qk.1 hq with rfl|hq
  .exact h.1
  .exact Kh h.2 q hq
theorem N1 {n:Nat} {o:AV×St} {p:List Y2×Nat} (h:bC n o=some p):∃b,o.1= .H_ b/\o.2.c=[]/\n<=b/\o.2.heap.u b=some (.O p.1 p.2):=by
 unfold bC at h;split at h
 .next b h1 h2=>
  cases hb:Nat.ble n b with
  |false=>rw[hb]at h;cases h
  |true=>
   rw[hb]at h;simp only[cond_true]at h;split at h
   .next es c h3=>cases h;exact⟨b,h1,h2,Qc hb,h3⟩
   .cases h
 .cases h
theorem FM {n:Nat} {es:List Y2} {c:Nat}:∀ {l:List (AV×St)},ej n es c l=true->∀q∈l,∃fI,bC n q=some (fI,c)/\Y5 0 es fI=true/\cg 0 (some (.O fI c))=true
 |a::l,h,q,hq=>by
  simp only[ej,Qf]at h;rcases Qk.1 hq with rfl|hq
  .cases hf:bC n q with
   |none=>rw[hf]at h;cases h.1
   |some p=>
    rw[hf]at h;obtain⟨fI,c'⟩:=p;simp only[vy,Qf]at h;have:=Qb h.1.1.1;subst this;exact⟨fI,U,h.1.1.2,h.1.2⟩
  .exact FM h.2 q hq
def Cx.V (C:Cx) (b:Nat):Cx:=⟨C.a,C.M,fun _=>False,fun _ n=>C.b b n,fun _ n=>C.G b n,C.X⟩
theorem R2 {C:Cx} {b c:Nat} {es:List Y2} {l:List MapEntry} (h:YZ C b es l) (hu:(es.all fun e=>Cw 0 40 e.1&&Cw 0 40 e.2.1)=true):YZ (C.V b) c es l:=by
 induction h with
 |O=>exact .O
 |J hk hv hg hn _ ih=>
  simp only[List.all_cons,Qf]at hu;have key:∀ {v:AV} {x:Value},Cw 0 40 v=true->VR C v x->VR (C.V b) v x:=fun h hv=>
   Gn (C:=C.V b) (C':=C) (m:=0) (fun b hb _=>absurd hb (Nat.not_lt_zero b)) (fun b n hb _=>absurd hb (Nat.not_lt_zero b)) 40 h hv
  exact .J (key hu.1.1 hk) (key hu.1.2 hv) hg hn (ih hu.2)
theorem zS {C C2:Cx} {S s2:St} {w w2:World} (hS:YR C S w) (t:C6 C S.I w C2 s2 w2) (CU:s2.c=[]) {b2 clock:Nat} {es es2:List Y2} (jA:S.a<=b2) (ru:s2.heap.u b2=some (.O es2 clock))
 (hp:Y5 0 es es2=true) (yK:cg 0 (some (.O es2 clock))=true) (hu:cg 0 (some (.O es clock))=true) (Zc:YD clock es=true) {x:Value} (hv:VR C2 (.H_ b2) x):
 ∃C4,C6 C S w C4 (S.A (.O es clock)) w2/\VR C4 (.H_ S.a) x:=by
 cases hv with
 |I_ po=>
 obtain⟨arr,l,hm⟩:=t.c.A ru;have cW:¬C.D S.a:=fun hd=>Nat.lt_irrefl _ (hS.fresh _ hd);have ti:∀n,¬C.G S.a n:=fun n hg=>cW (hS.d _ _ hg);have bG:∀b o,S.heap.u b=some o->¬eU S.I s2.c b:=by
  intro b o hb hmi;have C8:=hS.fresh b (hS.a b o hb).1;rcases hmi with h|h
  .rw[CU]at h;cases h
  .have:S.a<=b:=h;omega
 have hk:w.heap.size<=(C2.a b2).Cr:=by
  rcases t.own b2 _ ru with⟨hd,_⟩|h|⟨b0,o0,h0,hmi,_⟩
  .have:=hS.fresh b2 hd;omega
  .exact h
  .exact absurd hmi (bG b0 o0 h0)
 let C4:Cx:=⟨fun j=>if j=S.a then⟨(C2.a b2).Cr,0,0⟩else C.a j,C2.M,fun j=>C.D j\/j=S.a,fun j n=>if j=S.a then C2.b b2 (ah es es2 n)else C.b j n,
  fun j n=>C.G j n\/(j=S.a/\∃e∈es,e.2.2=n),C2.X⟩
 have ZT:∀b,C.D b->b≠S.a:=fun b hb e=>cW (e▸hb);have e4:n_ C C4:=⟨fun _ h=> .inl h,fun b hb=>if_neg (ZT b hb),t.a.M,fun _ _ h=> .inl h,fun b n hg=>if_neg (ZT b (hS.d b n hg)),t.a.X⟩
 have ZV:C4.a S.a=⟨(C2.a b2).Cr,0,0⟩:=if_pos rfl;have hghn:∀n,C4.b S.a n=C2.b b2 (ah es es2 n):=fun n=>if_pos rfl;have hR2:=R2 (c:=S.a) hm.j (by simpa[cg]using yK);have hobj:OR C4 S.a (.O es clock) (.map arr clock):=by
  have enoG:n_ (C2.V b2).O C4:=⟨fun _ h=>False.elim h,fun _ h=>False.elim h,fun _ _ h=>h,fun _ _ h=>False.elim h,fun _ _ h=>False.elim h,fun _ h=>h⟩
  obtain⟨lr',zQ,hR3⟩:=GZ (C2:=C2.V b2) (C3:=C4) (b:=S.a) (m:=0) (n0:=0) (n1:=clock) (fun h _ hv=>(Ou h hv).mono enoG)
   hp Zc (by simpa[cg]using hu) hR2 (fun e he=>⟨.inr ⟨rfl,e,he,rfl⟩,hghn _⟩)
  have hkp:=Fm hp;have yV:(lr'.map (·.born)).Nodup:=(zQ.map (·.born)).nodup_iff.2 hm.c;have aM:∀e∈es,C2.G b2 (ah es es2 e.2.2):=fun e he=>II hR2 hp Zc e he;have jE:∀n,C4.G S.a n->∃e∈es,e.2.2=n:=fun n hg=>hg.elim (fun h=>absurd h (ti n)) (fun h=>h.2);refine .Z (zQ.trans hm.a) hR3 ⟨fun e he=>?_,hkp.nodup_iff.2 hm.e.2⟩ yV ?_ ?_ ?_
  .have:e.1∈es2.map (·.1):=hkp.subset (List.mem_map.2 ⟨e,he,rfl⟩);obtain⟨e',dI,hee⟩:=List.mem_map.1 this;rw[<-hee];exact hm.e.1 e' dI
  .intro n hG;obtain⟨e,he,rfl⟩:=jE n hG;rw[hghn];exact hm.i _ (aM e he)
  .intro n hG;obtain⟨e,he,rfl⟩:=jE n hG;exact GY Zc e he
  .intro n m hGn hGm heq;obtain⟨e,he,rfl⟩:=jE n hGn;obtain⟨e',dI,rfl⟩:=jE m hGm;have:=Km (f:=fun e:Y2=>C4.b S.a e.2.2) (by rw[<-Iw hR3];exact yV) e he e' dI heq;rw[this]
 have gz:=fun k=>KL S k (.O es clock);have hold:∀b o,S.heap.u b=some o->w2.heap[(C.a b).Cr]?=w.heap[(C.a b).Cr]?:=fun b o hb=>
  t.frame _ (hS.lt hb) fun b0 o0 h0 hmi _=>bG b0 o0 h0 hmi
 refine⟨C4,⟨e4,⟨?_,?_,?_,t.c.i,?_,?_,t.c.f,?_,t.c.j⟩,rfl,fun _ h=>h,Nat.le_succ _,t.size,?_,?_,?_,?_,?_,t.i⟩,?_⟩
 .intro b o hb;rw[gz]at hb;split at hb
  .next e=>subst e;cases hb;exact⟨.inr rfl,_,by rw[ZV];exact hm.f,hobj⟩
  .next iO=>
   obtain⟨hd,y,hy,hr⟩:=hS.a b o hb;refine⟨.inl hd,y,?_,hr.mono e4 hd (fun n hn=>hn.elim id fun h=>absurd h.1 iO)⟩;rw[e4.a b hd,hold b o hb];exact hy
 .intro b b' o o' hb dG he;rw[gz]at hb dG;split at hb
  .next h1=>
   split at dG
   .next h2=>rw[h1,h2]
   .next h2=>
    exfalso;subst h1;rw[ZV,e4.a b' (hS.a b' o' dG).1]at he;have:=hS.lt dG;simp only at he;omega
  .next h1=>
   split at dG
   .next h2=>
    exfalso;subst h2;rw[ZV,e4.a b (hS.a b o hb).1]at he;have:=hS.lt hb;simp only at he;omega
   .next h2=>
    rw[e4.a b (hS.a b o hb).1,e4.a b' (hS.a b' o' dG).1]at he;exact hS.inj b b' o o' hb dG he
 .rintro b (hd|rfl)
  .exact Nat.lt_succ_of_lt (hS.fresh b hd)
  .exact Nat.lt_succ_self _
 .intro b o hb;rw[gz]at hb;split at hb
  .next e=>subst e;rw[ZV];exact t.c.apart b2 _ ru
  .next iO=>
   obtain⟨hd,y,hy,_⟩:=hS.a b o hb;rw[e4.a b hd];show C2.M (C.a b).Cr=none;cases yu:C2.M (C.a b).Cr with
   |none=>rfl
   |some ms=>
    exfalso;rcases t.j _ _ yu with h1|h1|⟨b0,o1,h2,h3,h4⟩
    .rw[hS.apart b o hb]at h1;cases h1
    .have:=B0 hy;omega
    .exact bG b0 o1 h2 h3
 .rintro b n (hg|⟨rfl,_⟩)
  .exact .inl (hS.d b n hg)
  .exact .inr U
 .rintro b (hd|rfl)
  .rw[e4.a b hd];exact t.a.X _ (hS.g b hd)
  .rw[ZV];exact t.c.g b2 po
 .intro Cr hb _;exact t.frame Cr hb fun b o ho hmi=>absurd hmi (bG b o ho)
 .grind
 .grind
 .intro b o hb;rw[gz]at hb;split at hb
  .grind
  .next iO=>exact .inl ⟨(hS.a b o hb).1,o,hb⟩
 .intro Cr ms yu;rcases t.j Cr ms yu with h1|h1|⟨b0,o0,h0,h2,h3⟩
  .exact .inl h1
  .exact .inr (.inl h1)
  .exact absurd h2 (bG b0 o0 h0)
 .have:=VR.I_ (C:=C4) (b:=S.a) (.inr rfl);rw[ZV]at this;exact this
section
variable {E : a_} {P : Program}
theorem IL {ev:Ev} {f:FuncId} {fn:Func} {S:St}:∀ {l:List dJ} {os:List (AV×St)},b9 E ev f fn S l=some os->∀r∈l,∃q∈os,D_ S.I (ZF E ev f fn S.I r)=some q
 | [],_,_,r,hr=>by cases hr
 |a::l,os,h,r,hr=>by
  simp only[b9]at h;obtain⟨o,ho,h⟩:=Qa.1 h;obtain⟨os',hos,h⟩:=Qa.1 h;cases h;rcases Qk.1 hr with rfl|hr
  .grind
  .obtain⟨q,hq,h⟩:=IL hos r hr;exact⟨q,Qg _ hq,h⟩
theorem No (ev:Ev):py E P ev:=by
 intro f fn S r0 l cr h C w hS r hr m c cs dM;unfold lF at h;obtain⟨o,ho,h⟩:=Qa.1 h;obtain⟨os,hos,h⟩:=Qa.1 h;have hq:∃q∈o::os,D_ S.I (ZF E ev f fn S.I r)=some q:=by grind [ZF,IL]
 obtain⟨q,hq,iR⟩:=hq;have tO:∃C2 x w2,Steps P m (lone (c.finish x) cs w2)/\C6 C S.I w C2 q.2 w2/\VR C2 q.1 x:=by
  cases he:ZF E ev f fn S.I r with
  |none=>rw[he]at iR;cases iR
  |some cr'=>
   have hx:=dM cr' he;rw[he]at iR;cases cr' with
   |same v=>cases iR;exact hx
   |J v s=>cases iR;exact hx
   |O v s=>cases iR
 obtain⟨C2,x,w2,Zc,t,hv⟩:=tO;have hsplit:iI S o os (ZG (o::os) [])=some cr\/cU S o os=some cr:=by
  unfold orCR at h;split at h
  .next c hc=>exact .inl (hc.trans h)
  .exact .inr h
 rcases hsplit with h|h
 case inr=>
  unfold cU at h;obtain⟨p,hp,h⟩:=Qa.1 h;cases hl:(ej S.a p.1 p.2 (o::os)&&YD p.2 p.1)with
  |false=>rw[hl]at h;cases h
  |true=>
  rw[hl]at h;cases h;rw[Qf]at hl;obtain⟨fI,hf,hpe,yK⟩:=FM hl.1 q hq;obtain⟨b2,h1,h2,h3,h4⟩:=N1 hf;obtain⟨es1,hf1,_,hu1⟩:=FM hl.1 o (Qh ..);obtain⟨es,clock⟩:=p;rw[hp]at hf1;cases hf1;rw[h1]at hv;obtain⟨C4,t4,hv4⟩:=zS hS t h2 h3 h4 hpe yK hu1 hl.2 hv;exact⟨C4,x,w2,Zc,t4,hv4⟩
 unfold iI at h;cases hl:di S.a S o (ZG (o::os) []) (o::os)with
 |false=>rw[hl]at h;cases h
 |true=>
 rw[hl]at h;cases h;obtain⟨nR,nq⟩:=Kh hl q hq;have hat':=Mf nq;obtain⟨C3,t3,h1,h2⟩:=TL (s1:=o.2) hS t (L:=ZG (o::os) []) ((Ir (o::os) []).1 q hq) (fun b hb=>(hat' b hb).1) (fun b hb=>(hat' b hb).2);refine⟨C3,x,w2,Zc,t3,?_⟩;rcases nR with⟨h3,h4⟩|⟨h3,h4⟩
 .grind [Ht]
 .grind [He]
end
open Go Go.RowKit
structure Yq where
 f:Nat
 args:List AV
 v:AV
def nS:List Yq->FuncId->List AV->Option AV
 | [],_,_=>none
 |e::l,f,args=>bif Nat.beq e.f f then(bif fR e.args args then some e.v else nS l f args)else nS l f args
def S0:St:= {a:=0,b:=0,c:=[],heap:= .J}
theorem s0_st (C:Cx) {S:St} {w:World} (h:YR C S w):YR C.A S0 w:=
 ⟨fun b o hb=>(by rw[show S0.heap= .J from rfl,AX]at hb;cases hb),fun b b' o o' hb=>(by rw[show S0.heap= .J from rfl,AX]at hb;cases hb),fun b hb=>hb.elim,h.i,
  fun b o hb=>(by rw[show S0.heap= .J from rfl,AX]at hb;cases hb),fun b n hb=>hb.elim,h.f,fun b hb=>hb.elim,h.j⟩
theorem Th {C C1:Cx} {S:St} {w w':World} (hS:YR C S w) (t:C6 C.A S0 w C1 S0 w'):C6 C S w (C.N C1) S w':=by
 have bG:∀b o,¬S0.heap.u b=some o:=fun b o hb=>by rw[show S0.heap= .J from rfl,AX]at hb;cases hb
 have yr:∀Cr,Cr<w.heap.size->w'.heap[Cr]?=w.heap[Cr]?:=fun Cr hb=>t.frame Cr hb fun b o hb=>absurd hb (bG b o);have hM:∀Cr ms,C1.M Cr=some ms->C.M Cr=some ms\/w.heap.size<=Cr:=by
  intro Cr ms hm;rcases t.j Cr ms hm with h1|h1|⟨b0,o0,h0,_⟩
  .exact .inl h1
  .exact .inr h1
  .exact absurd h0 (bG b0 o0)
 have e:n_ C (C.N C1):=⟨fun _ h=>h,fun _ _=>rfl,t.a.M,fun _ _ h=>h,fun _ _ _=>rfl,t.a.X⟩
 refine⟨e,⟨?_,hS.inj,hS.fresh,t.c.i,?_,hS.d,t.c.f,fun b hd=>t.a.X _ (hS.g b hd),t.c.j⟩,rfl,fun _ h=>h,Qj _,t.size,fun Cr hb _=>yr Cr hb,fun _ _ _=>⟨rfl,fun _ h=>h⟩,fun _ h=> .inl h,
  fun b o hb=> .inl ⟨(hS.a b o hb).1,o,hb⟩,fun Cr ms hm=>(hM Cr ms hm).imp id .inl,t.i⟩
 .intro b o hb;obtain⟨hd,x,hx,hr⟩:=hS.a b o hb;exact⟨hd,x,by rw[<-hx];exact yr _ (B0 hx),hr.mono e hd fun _ h=>h⟩
 .intro b o hb;cases hm:(C.N C1).M (C.a b).Cr with
  |none=>exact hm
  |some ms=>
   exfalso;rcases hM _ ms hm with h1|h1
   .rw[hS.apart b o hb]at h1;cases h1
   .have:=hS.lt hb;omega
section
variable {E : a_} {P : Program}
def MOk (E:a_) (P:Program) (e:Yq):Prop:=
 ∀(C:Cx) (S:St) (w:World) (xs:Array Value) (c:Frame) (cs:List Frame),YV E C->Y0 C e.args xs.toList->YR C S w->k9 P (lone (Frame.enter P e.f xs .normal) (c::cs) w) c cs C S w (.same e.v)
theorem W4 {l:List Yq} (h:∀e∈l,MOk E P e):∀(f:FuncId) (args:List AV) (v:AV),nS l f args=some v->∀(C:Cx) (S:St) (w:World) (xs:Array Value) (c:Frame) (cs:List Frame),YV E C->Y0 C args xs.toList->YR C S w->
 k9 P (lone (Frame.enter P f xs .normal) (c::cs) w) c cs C S w (.same v):=by
 induction l with
 |nil=>intro f args v h;cases h
 |cons e l ih=>
  intro f args v hm;simp only[nS]at hm;cases hf:Nat.beq e.f f with
  |false=>rw[hf]at hm;exact ih (fun x hx=>h x (Qg _ hx)) f args v hm
  |true=>
   rw[hf]at hm;have:=Qb hf;subst this;simp only[cond_true]at hm;cases ha:fR e.args args with
   |false=>rw[ha]at hm;exact ih (fun x hx=>h x (Qg _ hx)) _ args v hm
   |true=>
    rw[ha]at hm;cases hm;rw[<-GD ha];exact h e (Qh ..)
noncomputable def ZL (E:a_) (n:Nat) (e:Yq):Bool:=
 match Y8 E (ev E n) e.f e.args S0 with
 |some (.same v)=>bM v e.v&&Cm 40 v&&e.args.all (Cm 40)
 |_=>false
theorem ent_ok (he:Ym E P) (hx:eo E P) (hm:lL E P) (tm:∀g cs,E.i g=some cs->cs.all (Cm 40)=true) {n:Nat} {e:Yq} (h:ZL E n e=true):MOk E P e:=by
 intro C S w xs c cs hg hv hS;unfold ZL at h;split at h
 .next v hc=>
  simp only[Qf]at h;have Y6:=XQ he hx (R5 he hx) hm (fun _ ev _=>No ev) n;have hgb:YV E C.A:=by
   intro g bq zT;obtain⟨ms,h1,h2,h3⟩:=hg g bq zT;exact⟨ms,h1,BJ 40 h2 (tm g bq zT),h3⟩
  have:=Y6 e.f e.args (.same v) C.A S0 w xs c cs hc hgb (BJ 40 hv h.2) (s0_st C hS);obtain⟨C1,x,w',hs,t,eV⟩:=this;rw[<-He h.1.1];have eb:n_ C1.A (C.N C1):=⟨fun _ x=>x.elim,fun _ x=>x.elim,fun _ _ h=>h,fun _ _ x=>x.elim,fun _ _ x=>x.elim,fun _ h=>h⟩
  exact⟨_,x,w',hs,Th hS t,(F0 40 eV h.1.2).mono eb⟩
 .cases h
theorem Mw (he:Ym E P) {ev:Ev} (jC:pU E P ev) {f:FuncId} {fn:Func} (hp:P.funcs[f]?=some fn) {S:St} {r:dJ} {v:AV} (h:ZF E ev f fn S r=some (.same v)) {C C1:Cx} {w w1:World} (hg:YV E C)
 (hS:YR C S w) (t:C6 C S.u w C1 r.a w1) {b:Frame} {a1:Act} (hT:TR C1 r.b.nt r.T a1.tmps) {cs:List Frame} (hF:rq C1 r.b b a1 cs) (hk:b.kind= .normal) (hr:b.roundOf=none) (hf:b.fn=f)
 {m:Machine} (dS:E' P b [] cs C1 m r.c a1 w1):∃C2 x w2 fr,Steps P m (lone fr cs w2)/\fr.fn=f/\fr.leaving P w2 (.returned x)/\C6 C S w C2 S w2/\VR C2 v x:=by
 unfold ZF at h;obtain⟨mo,kQ,h⟩:=Qa.1 h;obtain⟨p,ow,h⟩:=Qa.1 h;obtain⟨m',S'⟩:=p;obtain⟨todo,mode,dt,pr⟩:=leaves hr dS kQ;have ff:=hg.mono t.a;obtain⟨C2,w2,mode2,qK,t2,uS⟩:=Hm he jC ow ff hF.d t.c pr b a1.tmps todo cs;have Zc:=dt.trans qK;have t3:=t.trans t2;unfold r9 at h;cases uS with
 |J=>
  simp only at h;obtain⟨vs,Zh,h⟩:=Qa.1 h;have hTT:TR C2 a1.tmps.size r.T a1.tmps:=⟨rfl,(hT.mono t2.a).2⟩
  obtain⟨x,hx,eV⟩:=J8 he hTT t3.c Zh;obtain⟨C3,t4,hv4⟩:=SM h hS t3 eV;exact⟨C3,x,w2,_,Zc,hf,⟨U,U,hk,fn,by show P.funcs[b.fn]?=_;rw[hf];exact hp,hx⟩,t4,hv4⟩
 |O hv=>cases h
theorem KG (he:Ym E P) (hx:eo E P) (hm:lL E P) {n:Nat} {f:FuncId} {args:List AV} {v:AV} (hmf:E.d f args=none) {S:St} (h:Y8 E (ev E n) f args S=some (.same v))
 {C:Cx} {w:World} {xs:Array Value} (hg:YV E C) (ha:Y0 C args xs.toList) (hS:YR C S w):Calls P f xs w fun e w'=>∃C2 x,e= .returned x/\C6 C S w C2 S w'/\VR C2 v x:=by
 intro cs;have jC:=vS he hx (R5 he hx) hm (fun _ ev _=>No ev) n;unfold Y8 at h;rw[hmf]at h;simp only at h;cases sg:E.a.u f with
 |none=>
  rw[sg]at h;simp only at h;unfold vz at h;cases jd:E.g f with
  |none=>rw[jd]at h;cases h
  |some g=>
   rw[jd]at h;obtain⟨p,hp,h⟩:=Qa.1 h;cases h
 |some fn=>
 rw[sg]at h;simp only at h;obtain⟨cd,hc,h⟩:=Qa.1 h;have hp:=he.fn f fn sg;have fC:Frame.enter P f xs .normal=Yo (Frame.enter P f xs .normal) ⟨xs++Array.replicate (fn.ntmps-xs.size) undef,[]⟩ [.code cd]:=by
  simp[Frame.enter,Yo,hp,hc]
 have qC:(Frame.enter P f xs .normal).kind= .normal:=rfl;have mK:(Frame.enter P f xs .normal).roundOf=none:=rfl;have z7:(Frame.enter P f xs .normal).fn=f:=rfl;generalize Frame.enter P f xs .normal=bd at fC qC mK z7;have dx:=jC cd C S.u w (frame fn.ntmps args none) (br 0 args .J) bd ⟨xs++Array.replicate (fn.ntmps-xs.size) undef,[]⟩ [] cs hg (RH ha fn.ntmps)
  ⟨.O,.none (by simp[rp,tryRecover,qC]),.none mK⟩ hS.B
 rw[<-fC]at dx;generalize iR:(ev E n) cd (frame fn.ntmps args none) (br 0 args .J) S.u=out at h dx;unfold dj at h;split at h
 .next r=>
  obtain⟨r',gD,C1,a1,w1,cs1,t,hT,hF,hn,nO,YO,dS⟩:=dx [r] rfl;simp only[Qp]at gD;subst gD;have:=YO.none rfl;subst this;obtain⟨C2,x,w2,frr,h1,h2,h3,h4,h5⟩:=Mw he jC hp h hg hS t hT hF qC mK z7 dS;exact⟨.returned x,w2,frr,⟨C2,x,U,h4,h5⟩,h1,h2,h3⟩
 .next r l=>
  obtain⟨r',gD,C1,a1,w1,cs1,t,hT,hF,hn,nO,YO,dS⟩:=dx (r::l) rfl;have:=YO.none rfl;subst this;have sm:YR C S.I w:=hS.I _ _;have ht':C6 C S.I.u w C1 r'.a w1:=t;cases pr:v_ E (ev E n) f fn S r l with
  |some c1=>
   rw[pr]at h;cases h;obtain⟨v,e,ZI⟩:=SG pr;cases e;obtain⟨C2,x,w2,frr,h1,h2,h3,h4,h5⟩:=Mw he jC hp (ZI r' gD) hg sm ht' hT hF qC mK z7 dS;exact⟨.returned x,w2,frr,⟨C2,x,U,LH hS h4,h5⟩,h1,h2,h3⟩
  |none=>
  rw[pr]at h;unfold cH at h;cases uV:E.c with
  |false=>rw[uV]at h;cases h
  |true=>
  rw[uV]at h;simp only[cond_true]at h;unfold lF at h;obtain⟨o,_,h⟩:=Qa.1 h;obtain⟨os,_,h⟩:=Qa.1 h;unfold orCR at h;split at h
  .next c hc=>
   unfold iI at hc;cases hl:di S.a S o (ZG (o::os) []) (o::os)with
   |false=>rw[hl]at hc;cases hc
   |true=>rw[hl]at hc;cases hc;cases h
  .unfold cU at h;obtain⟨p,_,h⟩:=Qa.1 h;cases hl:(ej S.a p.1 p.2 (o::os)&&YD p.2 p.1)with
   |false=>rw[hl]at h;cases h
   |true=>rw[hl]at h;cases h
 .cases h
end
noncomputable def rv (P:Program) (nt nf mask:Nat) (m:List Yq):a_:=
 {b:=nu nt P.types.toList,a:=nu nf P.funcs.toList,e:=fun f=>bif Nat.testBit mask f then 0 else 1,d:=nS m,i:=fun _=>none,c:=true,f:=true,plain:=fun t=> !P.stoodInHeld t,g:=fun _=>none}
structure jI (P:Program) (nt nf:Nat):Prop where
 types:P.types.size<=nt
 a:P.funcs.size<=nf
 c:P.funcs.toList.all (fun fn=> !(fn.name== "runtime.NumGoroutine"))=true
 b:P.funcs.toList.all mM=true
theorem Tq {P:Program} {nt nf:Nat} (h:jI P nt nf) (mask:Nat) (m:List Yq):Ym (rv P nt nf mask m) P:=by
 refine⟨fun t i hi=>?_,fun f fn hf=>?_,fun t ht=>(by simpa[rv]using ht),fun f fn hf=>?_,fun _ _ h=>by cases h⟩
 .have:P.types.toList[t]?=some i:=by rw[<-FE nt P.types.toList t (by simpa using h.types)];exact hi
  have C8:t<P.types.size:=by
   rcases Nat.lt_or_ge t P.types.size with h|h
   .exact h
   .rw[List.getElem?_eq_none (by simpa using h)]at this;cases this
  unfold Tables.info?;rw[if_pos C8];simpa using this
 .have:P.funcs.toList[f]?=some fn:=by rw[<-FE nf P.funcs.toList f (by simpa using h.a)];exact hf
  simpa using this
 .have:P.funcs.toList[f]?=some fn:=by rw[<-FE nf P.funcs.toList f (by simpa using h.a)];exact hf
  have:=(List.all_eq_true.1 h.c) fn (List.mem_of_getElem? this);simpa using this
inductive zU (P:Program) (nt nf mask:Nat):List Yq->Prop where
 |nil:zU P nt nf mask []
 |cons {e:Yq} {m l:List Yq} {n:Nat} (hl:zU P nt nf mask l) (hs:∀x∈m,x∈l) (h:ZL (rv P nt nf mask m) n e=true):zU P nt nf mask (e::l)
noncomputable def bl (t:Tr (List Yq)) (e:Yq):Tr (List Yq):=t.A e.f (some (e::(t.u e.f).getD []))
noncomputable def lN:List Yq->Tr (List Yq)
 | []=> .J
 |e::l=>bl (lN l) e
def zV (f:FuncId) (args:List AV):Option (List Yq)->Option AV
 |some l=>nS l f args
 |none=>none
noncomputable def zW (t:Tr (List Yq)) (f:FuncId) (args:List AV):Option AV:=zV f args (t.u f)
theorem Ib:∀ {m:List Yq} {f:Nat} {l:List Yq},(lN m).u f=some l->∀e∈l,e∈m
 | [],f,l,h=>by rw[lN,AX]at h;cases h
 |a::m,f,l,h=>by
  simp only[lN,bl]at h;rw[Ap]at h;split at h
  .next e=>
   cases h;intro x hx;rcases Qk.1 hx with rfl|hx
   .exact Qh ..
   .cases hg:(lN m).u a.f with
    |none=>rw[hg]at hx;cases hx
    |some l'=>
     rw[hg]at hx;exact Qg _ (Ib hg x hx)
  .intro x hx;exact Qg _ (Ib h x hx)
noncomputable def bJ (P:Program) (nt nf mask:Nat) (m:List Yq):a_:= {rv P nt nf mask []with d:=zW (lN m)}
theorem Rz {P:Program} {nt nf:Nat} (h:jI P nt nf) (mask:Nat) (m:List Yq):Ym (bJ P nt nf mask m) P:=by
 have:=Tq h mask [];exact⟨this.d,this.fn,this.a,this.c,this.jw⟩
theorem To {P:Program} {nt nf:Nat} (h:jI P nt nf) (mask:Nat) (m:List Yq):eo (bJ P nt nf mask m) P:=
 zC (Rz h mask m) fun f fn hf=>by
  have:P.funcs.toList[f]?=some fn:=by rw[<-FE nf P.funcs.toList f (by simpa using h.a)];exact hf
  exact(List.all_eq_true.1 h.b) fn (List.mem_of_getElem? this)
theorem SD {E:a_} {P:Program} {m:List Yq} (h:∀e∈m,MOk E P e) (f:FuncId) (args:List AV) (v:AV) (hm:zW (lN m) f args=some v) (C:Cx) (S:St) (w:World) (xs:Array Value) (c:Frame) (cs:List Frame)
 (hg:YV E C) (hv:Y0 C args xs.toList) (hS:YR C S w):k9 P (lone (Frame.enter P f xs .normal) (c::cs) w) c cs C S w (.same v):=by
 unfold zW zV at hm;split at hm
 .next l hl=>exact W4 (fun e he=>h e (Ib hl e he)) f args v hm C S w xs c cs hg hv hS
 .cases hm
def YP (P:Program) (nt nf mask:Nat) (e:Yq):Prop:=∀m,MOk (bJ P nt nf mask m) P e
theorem Bw {P:Program} {nt nf mask:Nat} (hp:jI P nt nf) {m:List Yq} (hm:∀e∈m,YP P nt nf mask e) {n:Nat} {e:Yq} (h:ZL (bJ P nt nf mask m) n e=true):YP P nt nf mask e:=by
 intro m';have:=ent_ok (Rz hp mask m) (To hp mask m) ⟨SD (fun y hy=>hm y hy m),fun _ _ h=>by cases h⟩ (fun g cs hg=>by cases hg) h;intro C S w xs c cs hg hv hS;exact this C S w xs c cs (fun g cs hg=>by cases hg) hv hS
end Am
