/- The abstract machine: regions that draw their order; calls that are known ahead. -/
import Derived.Test.YtpihdbhocgcbpaaGreatDoorAmD
import Derived.Below
set_option linter.unusedSectionVars false
set_option linter.unusedVariables false
set_option linter.unusedSimpArgs false
namespace Am
open Go
section
variable {E : c_} {P : Program}
theorem op_read {ops:Array Oper} {i:Nat} {idx:List Nat} {o:Oper} (ho:ops[i]?=some o) {xo:Tr AV->Option AV} {F:Tr AV->St->Option AV} (bU:W5 E P o (.Y xo F)) (heq:XL E o.type o.op= .Y xo F)
 {C:Cx} {S:St} {w:World} {T:Tr AV} {b:Frame} {a:Act} {k:List Item} {cs:List Frame} (hg:WN E C) (hT:TR C a.tmps.size T a.tmps)
 (hS:WW C S w) (hw:Region.wanted o (yielded ops a.tmps)=true) {v:AV} (h:F T S=some v):
 ∃x,Steps P (lone (Wi b a (.inRegion ops (i::idx)::k)) cs w) (lone (Wi b (a.put o.dst x) (.inRegion ops idx::k)) cs w)/\VR C v x:=by
 obtain⟨x,CF,hv⟩:=bU C T a S w hg hT hS v h;have hr:b.roundOf=none\/∀c,o.op≠ .defer c:= .inr (Jp heq (by simp) (by simp));exact⟨x,.one (B4 ho hw hr CF),hv⟩
theorem op_exec {ev:Ev} (Wv:ZB E P ev) (WJ:ZC E P ev) {ops:Array Oper} {i:Nat} {idx:List Nat} {o:Oper} (ho:ops[i]?=some o) {so:cf} (bU:W5 E P o so) (heq:XL E o.type o.op=so)
 (eJ:∀f,so≠ .bW f) (kD:so≠ .Z) {C:Cx} {S S':St} {w:World} {fr Yx:Fr} {T TV:Tr AV} {b:Frame} {a:Act} {k:List Item} {cs:List Frame} (hg:WN E C) (hT:TR C a.tmps.size T a.tmps)
 (hS:WW C S w) (hw:Region.wanted o (yielded ops a.tmps)=true) (h:(Xf E so K0).run ev fr T S= .O ⟨.J,Yx,TV,S'⟩):
 ∃v C' x w',TV=b6 v/\Yx=fr/\Steps P (lone (Wi b a (.inRegion ops (i::idx)::k)) cs w) (lone (Wi b (a.put o.dst x) (.inRegion ops idx::k)) cs w')/\CE C S w C' S' w'/\VR C' v x:=by
 have sp:=bU C T a S w hg hT hS;have hr:so≠ .J->b.roundOf=none\/∀c,o.op≠ .defer c:=fun h2=> .inr (Jp heq eJ h2);have Xn:=fun v=>BW b a ops i idx k v;simp only[ho,Qe]at Xn;have cr_:∀ {cr:CR} {m:Machine},o_ P m (Wi b a (.inRegion ops (i::idx)::k)) cs C S w cr->X4 fr T S (fun v s=> .O ⟨.J,fr,b6 v,s⟩) (some cr)= .O ⟨.J,Yx,TV,S'⟩->
  ∃v C' x w',TV=b6 v/\Yx=fr/\Steps P m (lone (Wi b (a.put o.dst x) (.inRegion ops idx::k)) cs w')/\CE C S w C' S' w'/\VR C' v x:=by
  intro cr m ZR h;cases cr with
  |J v=>
   obtain⟨C',x,w',hs,t,hv⟩:=ZR;cases h;rw[Xn]at hs;exact⟨v,C',x,w',U,U,hs,t,hv⟩
  |O v s=>
   obtain⟨C',x,w',hs,t,hv⟩:=ZR;cases h;rw[Xn]at hs;exact⟨v,C',x,w',U,U,hs,t,hv⟩
  |Y v s=>cases h
 cases so with
 |J=>cases h
 |an f=>
  change oi S (fun v s=> .O ⟨.J,fr,b6 v,s⟩) (f T)=_ at h;cases hf:f T with
  |none=>rw[hf]at h;cases h
  |some mk=>
   rw[hf]at h;cases mk with
   |O v=>
    obtain⟨C',x,w',CF,t,hv⟩:=sp.1 v hf;cases h;exact⟨v,C',x,w',U,U,.one (B4 ho hw (hr (by simp)) CF),t,hv⟩
   |J ob g=>
    obtain⟨C',x,w',CF,t,hv⟩:=sp.2 ob g hf;cases h;exact⟨_,C',x,w',U,U,.one (B4 ho hw (hr (by simp)) CF),t,hv⟩
 |O f=>
  change Ye (fun v=> .O ⟨.J,fr,b6 v,S⟩) (f T)=_ at h;cases hf:f T with
  |none=>rw[hf]at h;cases h
  |some v=>
   rw[hf]at h;obtain⟨x,CF,hv⟩:=sp v hf;cases h;exact⟨v,C,x,w,U,U,.one (B4 ho hw (hr (by simp)) CF),CE.g hS,hv⟩
 |Y xo f=>
  change Ye (fun v=> .O ⟨.J,fr,b6 v,S⟩) (f T S)=_ at h;cases hf:f T S with
  |none=>rw[hf]at h;cases h
  |some v=>
   rw[hf]at h;obtain⟨x,CF,hv⟩:=sp v hf;cases h;exact⟨v,C,x,w,U,U,.one (B4 ho hw (hr (by simp)) CF),CE.g hS,hv⟩
 |c_ f=>
  change Ye (fun v=> .O ⟨.J,fr,b6 v,S⟩) (f T S)=_ at h;cases hf:f T S with
  |none=>rw[hf]at h;cases h
  |some v=>
   rw[hf]at h;obtain⟨x,CF,hv⟩:=sp v hf;cases h;exact⟨v,C,x,w,U,U,.one (B4 ho hw (hr (by simp)) CF),CE.g hS,hv⟩
 |a_ only xo f=>
  change pF (fun v s=> .O ⟨.J,fr,b6 v,s⟩) (f T S)=_ at h;cases hf:f T S with
  |none=>rw[hf]at h;cases h
  |some p=>
   rw[hf]at h;obtain⟨v,S1⟩:=p;obtain⟨C',nx,w',CF,t,ZL⟩:=sp v S1 hf;cases h;cases ZL with
   | @J _ x hv=>exact⟨v,C',x,w',rfl,rfl,.one (B4 ho hw (hr (by simp)) CF),t,hv⟩
   |O=>exact⟨_,C',undef,w',rfl,rfl,.one (Nx ho hw (hr (by simp)) CF),t,VR.z⟩
 |d_ f=>
  change az (fun v s=> .O ⟨.J,fr,b6 v,s⟩) ((f T).bind fun l=>some (qE S l))=_ at h;cases hf:f T with
  |none=>rw[hf]at h;cases h
  |some l=>
   rw[hf]at h;obtain⟨v,hv,x,CF,aJ⟩:=sp l hf;cases l with
   |nil=>cases hv
   |cons u l=>
    cases l with
    |nil=>
     simp only[Qp]at hv;subst hv;cases h;exact⟨v,C,x,w,U,U,.one (B4 ho hw (hr (by simp)) CF),CE.g hS,aJ⟩
    |cons u2 l=>
     exfalso;simp only[Qe,az,qE,Yz]at h;cases jc:Yz (fun v s=>k6.O ⟨.J,fr,b6 v,s⟩) ((u2,S)::qE S l)with
     |J=>simp only[Yz]at jc;rw[jc]at h;cases h
     |O r=>simp only[Yz]at jc;rw[jc]at h;cases h
     |Y r=>simp only[Yz]at jc;rw[jc]at h;cases h
 |Cc f=>
  change az (fun v s=> .O ⟨.J,fr,b6 v,s⟩) (f T S)=_ at h;cases hf:f T S with
  |none=>rw[hf]at h;cases h
  |some l=>
   rw[hf]at h;obtain⟨p,hp,C',x,w',CF,t,aJ⟩:=sp l hf;cases l with
   |nil=>cases hp
   |cons u l=>
    cases l with
    |nil=>
     simp only[Qp]at hp;subst hp;cases h;exact⟨_,C',x,w',U,U,.one (B4 ho hw (hr (by simp)) CF),t,aJ⟩
    |cons u2 l=>
     exfalso;simp only[az,Yz]at h;cases jc:Yz (fun v s=>k6.O ⟨.J,fr,b6 v,s⟩) (u2::l)with
     |J=>simp only[Yz]at jc;rw[jc]at h;cases h
     |O r=>simp only[Yz]at jc;rw[jc]at h;cases h
     |Y r=>simp only[Yz]at jc;rw[jc]at h;cases h
 |aG f=>
  change X4 fr T S (fun v s=> .O ⟨.J,fr,b6 v,s⟩) ((f T S).bind fun p=>WM E ev p.1 p.2 S)=_ at h;cases hf:f T S with
  |none=>rw[hf]at h;cases h
  |some p=>
   rw[hf]at h;obtain⟨g,args⟩:=p;obtain⟨xs,CF,Xr⟩:=sp g args hf;simp only[Qe]at h;cases nk:WM E ev g args S with
   |none=>rw[nk]at h;cases h
   |some cr=>
    rw[nk]at h;have ZR:=Wv g args cr C S w xs (Wi b a (.inRegion ops (i::idx)::k)) cs nk hg Xr hS;obtain⟨v,C',x,w',h1,h2,h3,h4,h5⟩:=cr_ ZR h;exact⟨v,C',x,w',h1,h2,.head (H8 ho hw (hr (by simp)) CF) h3,h4,h5⟩
 |Z1 f ar=>
  change X4 fr T S (fun v s=> .O ⟨.J,fr,b6 v,s⟩) ((f T).bind fun g=>(ar T).bind fun args=>Xz E ev args S g)=_ at h;cases hf:f T with
  |none=>rw[hf]at h;cases h
  |some g=>
  cases ha:ar T with
  |none=>rw[hf,ha]at h;cases h
  |some args=>
   rw[hf,ha]at h;obtain⟨gx,xs,hgx,gu,hex⟩:=sp g args hf ha;simp only[Qe]at h;cases nk:Xz E ev args S g with
   |none=>rw[nk]at h;cases h
   |some cr=>
    rw[nk]at h;rcases WJ g args cr C S w gx xs (Wi b a (.inRegion ops (i::idx)::k)) cs nk hg hgx gu hS with⟨f',ys,CF,ZR⟩|⟨l,f',tmps,gH,body,CF,ZR⟩
    .rw[<-hex]at CF;obtain⟨v,C',x,w',h1,h2,h3,h4,h5⟩:=cr_ ZR h;exact⟨v,C',x,w',h1,h2,.head (H8 ho hw (hr (by simp)) CF) h3,h4,h5⟩
    .rw[<-hex]at CF;obtain⟨v,C',x,w',h1,h2,h3,h4,h5⟩:=cr_ ZR h;exact⟨v,C',x,w',h1,h2,.head (Pq ho hw (hr (by simp)) CF) h3,h4,h5⟩
 |bW f=>exact absurd rfl (eJ f)
 |b_ f=>
  change Ye (fun v=> .O ⟨.O v,fr,T,S⟩) (f T)=_ at h;cases hf:f T with
  |none=>rw[hf]at h;cases h
  |some v=>rw[hf]at h;cases h
 |Z=>exact absurd rfl kD
theorem wZ {ev:Ev} (Wv:ZB E P ev) (WJ:ZC E P ev) {ops:Array Oper} {i:Nat} {idx:List Nat} {o:Oper} (ho:ops[i]?=some o) {so:cf} (bU:W5 E P o so) (heq:XL E o.type o.op=so)
 (hq:(∃F,so= .aG F)\/∃F A,so= .Z1 F A) {C:Cx} {S S':St} {w:World} {fr:Fr} {T:Tr AV} {v:AV} {b:Frame} {a:Act} {k:List Item} {cs:List Frame} (hg:WN E C) (hT:TR C a.tmps.size T a.tmps)
 (hS:WW C S w) (hw:Region.wanted o (yielded ops a.tmps)=true) (h:dQ ((Xf E so K0).run ev fr T S)=some (v,S')):
 ∃C' x w',Steps P (lone (Wi b a (.inRegion ops (i::idx)::k)) cs w) (lone {Wi b a (.inRegion ops (i::idx)::k)with mode:= .panicking [{v:=x,recovered:=false}]} cs w')/\CE C S w C' S' w'/\VR C' v x:=by
 have sp:=bU C T a S w hg hT hS;have hr:b.roundOf=none\/∀c,o.op≠ .defer c:=by
  rcases hq with⟨F,rfl⟩|⟨F,A,rfl⟩
  .exact .inr (Jp heq (by simp) (by simp))
  .exact .inr (Jp heq (by simp) (by simp))
 have cr_:∀ {cr:CR} {m:Machine},o_ P m (Wi b a (.inRegion ops (i::idx)::k)) cs C S w cr->dQ (X4 fr T S (fun v s=> .O ⟨.J,fr,b6 v,s⟩) (some cr))=some (v,S')->
  ∃C' x w',Steps P m (lone {Wi b a (.inRegion ops (i::idx)::k)with mode:= .panicking [{v:=x,recovered:=false}]} cs w')/\CE C S w C' S' w'/\VR C' v x:=by
  intro cr m ZR h;cases cr with
  |J v=>cases h
  |O v s=>cases h
  |Y v s=>
   obtain⟨C',x,w',hs,t,hv⟩:=ZR;cases h;exact⟨C',x,w',hs,t,hv⟩
 rcases hq with⟨f,rfl⟩|⟨f,ar,rfl⟩
 .change dQ (X4 fr T S (fun v s=> .O ⟨.J,fr,b6 v,s⟩) ((f T S).bind fun p=>WM E ev p.1 p.2 S))=_ at h;cases hf:f T S with
  |none=>rw[hf]at h;cases h
  |some p=>
   rw[hf]at h;obtain⟨g,args⟩:=p;obtain⟨xs,CF,Xr⟩:=sp g args hf;simp only[Qe]at h;cases nk:WM E ev g args S with
   |none=>rw[nk]at h;cases h
   |some cr=>
    rw[nk]at h;have ZR:=Wv g args cr C S w xs (Wi b a (.inRegion ops (i::idx)::k)) cs nk hg Xr hS;obtain⟨C',x,w',h3,h4,h5⟩:=cr_ ZR h;exact⟨C',x,w',.head (H8 ho hw hr CF) h3,h4,h5⟩
 .change dQ (X4 fr T S (fun v s=> .O ⟨.J,fr,b6 v,s⟩) ((f T).bind fun g=>(ar T).bind fun args=>Xz E ev args S g))=_ at h;cases hf:f T with
  |none=>rw[hf]at h;cases h
  |some g=>
  cases ha:ar T with
  |none=>rw[hf,ha]at h;cases h
  |some args=>
   rw[hf,ha]at h;obtain⟨gx,xs,hgx,gu,hex⟩:=sp g args hf ha;simp only[Qe]at h;cases nk:Xz E ev args S g with
   |none=>rw[nk]at h;cases h
   |some cr=>
    rw[nk]at h;rcases WJ g args cr C S w gx xs (Wi b a (.inRegion ops (i::idx)::k)) cs nk hg hgx gu hS with⟨f',ys,CF,ZR⟩|⟨l,f',tmps,gH,body,CF,ZR⟩
    .rw[<-hex]at CF;obtain⟨C',x,w',h3,h4,h5⟩:=cr_ ZR h;exact⟨C',x,w',.head (H8 ho hw hr CF) h3,h4,h5⟩
    .rw[<-hex]at CF;obtain⟨C',x,w',h3,h4,h5⟩:=cr_ ZR h;exact⟨C',x,w',.head (Pq ho hw hr CF) h3,h4,h5⟩
end
def jI (ops:List Oper) (i j:Nat):Prop:=∃o,ops[i]?=some o/\∃e∈o.after.toList,Region.binds .any e=true/\e.on=j
inductive gL (ops:List Oper):(Nat->Prop)->List Nat->Prop where
 |O {D:Nat->Prop} (h:∀i,i<ops.length->D i):gL ops D []
 |J {D:Nat->Prop} {i:Nat} {l:List Nat} (hi:i<ops.length) (hd:¬D i) (he:∀j,jI ops i j->D j) (t:gL ops (fun k=>D k\/k=i) l):gL ops D (i::l)
theorem xc {ops:Array Oper} {m:Region.Mode} {gi:Nat->Nat} (hr:∀i o,ops[i]?=some o->∀e∈o.after.toList,Region.binds m e=true->e.on<ops.size/\gi e.on<gi i)
 (hany:∀e,Region.binds .any e=true->Region.binds m e=true):∀(fuel t:Nat) (listed:Array Bool) (acc:List Nat),listed.size=ops.size->listed.toList.countP (! ·)<=fuel->
 ∃l,Region.linearise.go m ops fuel t listed acc=acc.reverse++l/\gL ops.toList (fun i=>listed[i]?=some true) l:=by
 intro fuel;have unl:∀(listed:Array Bool),listed.size=ops.size->∀i,i<ops.size->listed[i]?=some true\/listed[i]?=some false:=by
  intro listed hs i hi;rw[Array.getElem?_eq_getElem (by omega)];cases listed[i]<;>simp
 induction fuel with
 |zero=>
  intro t listed acc hs hc;refine⟨[],by simp[Region.linearise.go],.O fun i hi=>?_⟩;rcases unl listed hs i (by simpa using hi)with h|h
  .exact h
  .exfalso;have XU:false∈listed.toList:=by rw[Array.mem_toList_iff];exact Array.mem_of_getElem? h
   have:=List.countP_pos_iff (p:=(! · :Bool->Bool)) (l:=listed.toList)|>.2 ⟨false,XU,rfl⟩;omega
 |succ fuel ih=>
  intro t listed acc hs hc;unfold Region.linearise.go;simp only;generalize ld:(List.range ops.size).filter (fun i=> !listed.getD i true&&((ops[i]?).map (·.after.all fun e=> !Region.binds m e||listed.getD e.on false)).getD false)=rs;have XU:∀i,i∈rs↔i<ops.size/\listed[i]?=some false/\∃o,ops[i]?=some o/\∀e∈o.after.toList,Region.binds m e=true->listed[e.on]?=some true:=by
   intro i;rw[<-ld,List.mem_filter,List.mem_range];refine and_congr_right fun hi=>?_;rw[Qf];refine and_congr ?_ ?_
   .rcases unl listed hs i hi with h|h<;>simp[Array.getD_eq_getD_getElem?,h]
   .rw[Array.getElem?_eq_getElem hi];simp only[Option.map_some,Option.getD_some,Array.all_eq_true_iff_forall_mem,Option.some.injEq,exists_eq_left',Array.mem_toList_iff,Bool.or_eq_true,Bool.not_eq_true'];refine forall_congr' fun e=>forall_congr' fun _=>?_;constructor
    .rintro(h|h) hb
     .rw[hb]at h;cases h
     .rw[Array.getD_eq_getD_getElem?]at h;cases hl:listed[e.on]? with
      |none=>rw[hl]at h;cases h
      |some b=>rw[hl]at h;simp at h;rw[h]
    .intro h;cases hb:Region.binds m e with
     |false=>exact .inl rfl
     |true=>right;rw[Array.getD_eq_getD_getElem?,h hb];rfl
  cases hsel:rs[t % rs.length]? with
  |none=>
   refine⟨[],by simp,.O ?_⟩;have hemp:rs=[]:=by
    cases rs with
    |nil=>rfl
    |cons a l=>
     exfalso;have:t % (a::l).length<(a::l).length:=Nat.mod_lt _ (by simp);rw[Qi this]at hsel;cases hsel
   have all:∀r i,gi i=r->i<ops.size->listed[i]?=some true:=by
    intro r;induction r using Nat.strongRecOn with
    |_ r ihr=>
     intro i hri hi;rcases unl listed hs i hi with h|h
     .exact h
     .exfalso;have:i∈rs:=(XU i).2 ⟨hi,h,ops[i],Array.getElem?_eq_getElem hi,fun e he hb=>by
       obtain⟨h1,h2⟩:=hr i _ (Array.getElem?_eq_getElem hi) e he hb;exact ihr (gi e.on) (by omega) e.on U h1⟩
      rw[hemp]at this;cases this
   exact fun i hi=>all _ i U (by simpa using hi)
  |some i=>
   have hi:i∈rs:=List.mem_of_getElem? hsel;obtain⟨C5,vC,o,ho,hed⟩:=(XU i).1 hi;have b7:i<listed.size:=by omega
   have hcnt:(listed.setIfInBounds i true).toList.countP (! ·)<=fuel:=by
    rw[Array.toList_setIfInBounds,List.countP_set (by simpa using b7)];have dq:listed.toList[i]'(by simpa using b7)=false:=by
     have:listed[i]=false:=by rw[Array.getElem?_eq_getElem b7]at vC;exact Option.some.inj vC
     simpa using this
    rw[dq];simp;simp at hc;omega
   obtain⟨l,hl,xd⟩:=ih (t/rs.length) (listed.setIfInBounds i true) (i::acc) (by simpa using hs) hcnt;refine⟨i::l,by simpa using hl,.J (by simpa using C5) (by rw[vC];simp) ?_ ?_⟩
   .rintro j ⟨o',zI,e,he,hb,rfl⟩;rw[Array.getElem?_toList,ho]at zI;cases zI;exact hed e he (hany e hb)
   .have:(fun k=>listed[k]?=some true\/k=i)=(fun k=>(listed.setIfInBounds i true)[k]?=some true):=by
     funext k
     apply propext;rw[Array.getElem?_setIfInBounds];by_cases hk:i=k
     .subst hk;simp[b7]
     .simp only[hk,if_false];constructor
      .rintro(h|h)
       .exact h
       .exact absurd h.symm hk
      .exact .inl
    rw[this];exact xd
theorem J2 {ops:Array Oper} {m:Region.Mode} {gi:Nat->Nat} (hr:∀i o,ops[i]?=some o->∀e∈o.after.toList,Region.binds m e=true->e.on<ops.size/\gi e.on<gi i)
 (hany:∀e,Region.binds .any e=true->Region.binds m e=true) (t:Nat):gL ops.toList (fun _=>False) (Region.linearise m ops t):=by
 obtain⟨l,h1,h2⟩:=xc hr hany ops.size t (Array.replicate ops.size false) [] (by simp) (by
  have:=List.countP_le_length (p:=(! · :Bool->Bool)) (l:=(Array.replicate ops.size false).toList);simpa using this)
 have hl:Region.linearise m ops t=l:=by unfold Region.linearise;rw[h1];rfl
 rw[hl];have:(fun i=>(Array.replicate ops.size false)[i]?=some true)=(fun _:Nat=>False):=by
  funext i
  apply propext;rw[Array.getElem?_replicate];split<;>simp
 rw[this]at h2;exact h2
theorem JX {m:Region.Mode} (e:Edge) (h:Region.binds .any e=true):Region.binds m e=true:=by
 unfold Region.binds at*;split at h<;>first|(simp at h;done)|rfl
theorem B7 {i:Nat}:∀ {l:List Edge},bo i l=true->∀e∈l,(∀r,e.ground≠ .gcOnly r)->e.on<i
 |a::l,h,e,he,hn=>by
  simp only[bo,Qf]at h;rcases Qk.1 he with rfl|he
  .have h1:=h.1;split at h1
   .next r hr=>exact absurd hr (hn r)
   .simpa[Nat.blt_eq]using h1
  .exact B7 h.2 e he hn
theorem Lu {n i:Nat} {j8:List Nat}:∀ {l:List Edge},iV n j8 i l=true->∀e∈l,Region.binds .gc e=true->e.on<n/\oq e.on j8<oq i j8
 |a::l,h,e,he,hb=>by
  simp only[iV,Qf]at h;rcases Qk.1 he with rfl|he
  .have h1:=h.1;rw[hb]at h1;simpa[Nat.blt_eq]using h1
  .exact Lu h.2 e he hb
theorem Ro {n:Nat} {j8:List Nat}:∀ {l:List Oper} {j:Nat},qF n j8 l j=true->∀i o,l[i]?=some o->iV n j8 (j+i) o.after.toList=true
 |a::l,j,h,0,o,ho=>by
  simp only[qF,Qf]at h;simp at ho;subst ho;exact h.1
 |a::l,j,h,i+1,o,ho=>by
  simp only[qF,Qf]at h;have:=Ro h.2 i o (by simpa using ho);rw[show j+(i+1)=j+1+i by omega];exact this
 | [],_,_,_,_,ho=>by simp at ho
theorem Of:∀ {l:List Edge},gX l=false->∀e∈l,∀r,e.ground≠ .gcOnly r
 |a::l,h,e,he,r,hr=>by
  simp only[gX]at h;split at h
  .cases h
  .next hn=>
   rcases Qk.1 he with rfl|he
   .exact hn r hr
   .exact Of h e he r hr
theorem SH {a:Oper} {l:List Oper} (h:lS (a::l)=false):gX a.after.toList=false/\lS l=false:=by
 unfold lS at h;generalize gX a.after.toList=q at h;cases q with
 |true=>cases h
 |false=>exact⟨rfl,h⟩
theorem Rl:∀ {l:List Oper},lS l=false->∀o,o∈l->gX o.after.toList=false
 | [],_,_,ho=>by cases ho
 |a::l,h,o,ho=>by
  obtain⟨h1,h2⟩:=SH h;cases ho with
  |head=>exact h1
  |tail _ ho=>exact Rl h2 o ho
theorem Jf {ops:List Oper} {bs:List Nat}:∀ {l:List Oper} {j:Nat},fg ops bs l j=true->∀i o,l[i]?=some o->rY ops bs (j+i) o (l.drop (i+1))=true
 |a::l,j,h,0,o,ho=>by
  simp only[fg,Qf]at h;simp at ho;subst ho;exact h.1
 |a::l,j,h,i+1,o,ho=>by
  simp only[fg,Qf]at h;have:=Jf h.2 i o (by simpa using ho);rw[show j+(i+1)=j+1+i by omega];exact this
 | [],_,_,_,_,ho=>by simp at ho
theorem Hm {ops:List Oper} (h:X0 ops=true) {i:Nat} {o:Oper} (ho:ops[i]?=some o):rY ops (Wu ops) i o (ops.drop (i+1))=true:=by
 unfold X0 at h;rw[Qf]at h;have:=Jf h.1 i o ho;simpa using this
theorem EW {ops:List Oper} (h:X0 ops=true) {i:Nat} {o:Oper} (ho:ops[i]?=some o):bo i o.after.toList=true:=by
 have:=Hm h ho;unfold rY at this;simp only[Qf]at this;exact this.1.1.2
theorem IY {ops:Array Oper} (h:X0 ops.toList=true) (mixed:Bool) (t:Nat):gL ops.toList (fun _=>False) (Region.schedule mixed ops t):=by
 have tv:∀i o,ops[i]?=some o->bo i o.after.toList=true:=fun i o ho=>EW h (by rw[Array.getElem?_toList];exact ho);have C5:∀i o,ops[i]?=some o->i<ops.size:=by
  intro i o ho;rcases Nat.lt_or_ge i ops.size with h|h
  .exact h
  .rw[Array.getElem?_eq_none h]at ho;cases ho
 have plain:∀(m:Region.Mode),m≠ .gc->∀t,gL ops.toList (fun _=>False) (Region.linearise m ops t):=by
  intro m hm t;refine J2 (gi:=id) (fun i o ho e he hb=>?_) JX t;have mP:∀r,e.ground≠ .gcOnly r:=by
   intro r hr;unfold Region.binds at hb;rw[hr]at hb;simp at hb;exact hm hb
  have:=B7 (tv i o ho) e he mP;exact⟨Nat.lt_trans this (C5 i o ho),this⟩
 have gc:∀t,gL ops.toList (fun _=>False) (Region.linearise .gc ops t):=by
  intro t;unfold X0 at h;rw[Qf]at h;cases hg:lS ops.toList with
  |true=>
   have h2:=h.2;rw[hg]at h2;simp only[cond_true,DT,Array.length_toList]at h2;refine J2 (gi:=fun i=>oq i (Region.linearise .gc ops.toList.toArray 0)) (fun i o ho e he hb=>?_) JX t;have:=Ro h2 i o (by rw[Array.getElem?_toList];exact ho);rw[Nat.zero_add]at this;exact Lu this e he hb
  |false=>
   refine J2 (gi:=id) (fun i o ho e he hb=>?_) JX t;have mP:=Of (Rl hg o (by rw[Array.mem_toList_iff];exact Array.mem_of_getElem? ho)) e he;have:=B7 (tv i o ho) e he mP;exact⟨Nat.lt_trans this (C5 i o ho),this⟩
 unfold Region.schedule;split
 .exact plain .any (by simp) t
 .split
  .exact plain .text (by simp) _
  .exact gc _
theorem Rw (acc:Array Nat) (j:Nat):∀(l:List Edge) (s:Nat),
 (l.foldl (fun s e=>if Region.binds .any e then s|||2^e.on|||acc.getD e.on 0 else s) s).testBit j=true↔
  s.testBit j=true\/∃e∈l,Region.binds .any e=true/\(e.on=j\/(acc.getD e.on 0).testBit j=true)
 | [],s=>by simp
 |e::l,s=>by
  rw[List.foldl_cons,Rw acc j l];cases hb:Region.binds .any e with
  |true=>
   simp only[if_true,Nat.testBit_or,Bool.or_eq_true,Nat.testBit_two_pow,decide_eq_true_eq,Qk,exists_eq_or_imp,hb,true_and];constructor
   .rintro(((h|h)|h)|h)
    .exact .inl h
    .exact .inr (.inl (.inl h))
    .exact .inr (.inl (.inr h))
    .exact .inr (.inr h)
   .rintro(h|(h|h)|h)
    .exact .inl (.inl (.inl h))
    .exact .inl (.inl (.inr h))
    .exact .inl (.inr h)
    .exact .inr h
  |false=>
   simp only[Bool.false_eq_true,if_false,Qk,exists_eq_or_imp,hb,false_and,false_or]
theorem Ol (f:Array Nat->Oper->Nat):∀(l:List Oper) (acc:Array Nat),(l.foldl (fun acc o=>acc.push (f acc o)) acc).size=acc.size+l.length/\
 (∀i,i<acc.size->(l.foldl (fun acc o=>acc.push (f acc o)) acc)[i]?=acc[i]?)/\
 (∀i o,l[i]?=some o->∃pre:Array Nat,(l.foldl (fun acc o=>acc.push (f acc o)) acc)[acc.size+i]?=some (f pre o)/\pre.size=acc.size+i/\
  ∀k,k<pre.size->pre[k]?=(l.foldl (fun acc o=>acc.push (f acc o)) acc)[k]?)
 | [],acc=>⟨by simp,fun _ _=>rfl,fun i o h=>by simp at h⟩
 |a::l,acc=>by
  obtain⟨h1,h2,h3⟩:=Ol f l (acc.push (f acc a));simp only[List.foldl_cons];refine⟨by rw[h1];simp;omega,fun i hi=>?_,fun i o ho=>?_⟩
  .rw[h2 i (by simp;omega),Array.getElem?_push_lt hi];rw[Array.getElem?_eq_getElem hi]
  .cases i with
   |zero=>
    simp at ho;subst ho;refine⟨acc,?_,by simp,fun k hk=>?_⟩
    .rw[Nat.add_zero,h2 acc.size (by simp)];exact Array.getElem?_push_size
    .rw[h2 k (by simp;omega),Array.getElem?_push_lt hk,Array.getElem?_eq_getElem hk]
   |succ i=>
    obtain⟨pre,ng,ow,hp3⟩:=h3 i o (by simpa using ho);refine⟨pre,?_,?_,hp3⟩
    .rw[<-ng];congr 1;simp;omega
    .rw[ow];simp;omega
def fz (ops:List Oper) (i j:Nat):Prop:=Nat.testBit ((l_ (Wu ops) i).getD 0) j=true
theorem VH {ops:List Oper} (h:X0 ops=true) {i:Nat} {o:Oper} (ho:ops[i]?=some o) (j:Nat):
 fz ops i j↔∃e∈o.after.toList,Region.binds .any e=true/\(e.on=j\/fz ops e.on j):=by
 obtain⟨h1,h2,h3⟩:=Ol (fun acc o=>o.after.foldl (fun s e=>if Region.binds .any e then s|||2^e.on|||acc.getD e.on 0 else s) 0) ops #[];have sm:Region.before ops.toArray=ops.foldl (fun acc o=>acc.push (o.after.foldl (fun s e=>if Region.binds .any e then s|||2^e.on|||acc.getD e.on 0 else s) 0)) #[]:=by
  unfold Region.before;rw[<-Array.foldl_toList]
 have ZP:∀k,l_ (Wu ops) k=(Region.before ops.toArray)[k]?:=by
  intro k;unfold Wu;rw[E4,Array.getElem?_toList]
 rw[<-sm]at h1 h2 h3;obtain⟨pre,ng,ow,hp3⟩:=h3 i o ho;simp only[List.size_toArray,List.length_nil,Nat.zero_add]at ng ow;unfold fz;rw[ZP i,ng];simp only[Option.getD_some];rw[<-Array.foldl_toList,Rw];simp only[Nat.zero_testBit,Bool.false_eq_true,false_or];have hb:=EW h ho;constructor
 .rintro⟨e,he,hbi,hj⟩;have mP:∀r,e.ground≠ .gcOnly r:=by
   intro r hr;unfold Region.binds at hbi;rw[hr]at hbi;simp at hbi
  have C5:=B7 hb e he mP;refine⟨e,he,hbi,hj.imp id fun hj=>?_⟩;rw[ZP,<-hp3 e.on (by omega),<-Array.getD_eq_getD_getElem?];exact hj
 .rintro⟨e,he,hbi,hj⟩;have mP:∀r,e.ground≠ .gcOnly r:=by
   intro r hr;unfold Region.binds at hbi;rw[hr]at hbi;simp at hbi
  have C5:=B7 hb e he mP;refine⟨e,he,hbi,hj.imp id fun hj=>?_⟩;rw[ZP,<-hp3 e.on (by omega),<-Array.getD_eq_getD_getElem?]at hj;exact hj
theorem O8 {ops:List Oper} (h:X0 ops=true):∀(i j:Nat),i<ops.length->fz ops i j->j<i:=by
 intro i;induction i using Nat.strongRecOn with
 |_ i ih=>
  intro j hi ha;have ho:ops[i]?=some ops[i]:=Qi hi;obtain⟨e,he,hb,hj⟩:=(VH h ho j).1 ha;have mP:∀r,e.ground≠ .gcOnly r:=by
   intro r hr;unfold Region.binds at hb;rw[hr]at hb;simp at hb
  have C5:=B7 (EW h ho) e he mP;rcases hj with rfl|hj
  .exact C5
  .exact Nat.lt_trans (ih e.on C5 j (by omega) hj) C5
theorem Gc {ops:List Oper} (h:X0 ops=true) {D:Nat->Prop} (hD:∀i,D i->∀j,jI ops i j->D j):∀(i j:Nat),i<ops.length->D i->fz ops i j->D j:=by
 intro i;induction i using Nat.strongRecOn with
 |_ i ih=>
  intro j hi hd ha;have ho:ops[i]?=some ops[i]:=Qi hi;obtain⟨e,he,hb,hj⟩:=(VH h ho j).1 ha;have mP:∀r,e.ground≠ .gcOnly r:=by
   intro r hr;unfold Region.binds at hb;rw[hr]at hb;simp at hb
  have C5:=B7 (EW h ho) e he mP;have hde:D e.on:=hD i hd e.on ⟨_,ho,e,he,hb,rfl⟩;rcases hj with rfl|hj
  .exact hde
  .exact ih e.on C5 j (by omega) hde hj
theorem PK {Wk b:Nat}:∀ {l:WG},Yj Wk b l=true↔∃j,(j,b)∈l/\Nat.testBit Wk j=false
 | []=>by simp[Yj]
 |p::l=>by
  obtain⟨pi,pb⟩:=p;simp only[Yj];cases hq:(Nat.beq pb b&& !(Nat.testBit Wk pi))with
  |true=>
   simp only[cond_true,true_iff];rw[Qf]at hq;have:=Qb hq.1;subst this;exact⟨pi,Qh ..,by simpa using hq.2⟩
  |false=>
   simp only[cond_false];rw[PK];constructor
   .rintro⟨j,h1,h2⟩;exact⟨j,Qg _ h1,h2⟩
   .rintro⟨j,h1,h2⟩;rcases Qk.1 h1 with h1|h1
    .cases h1;rw[Bool.and_eq_false_iff]at hq;rcases hq with hq|hq
     .rw[Nat.beq_refl]at hq;cases hq
     .rw[h2]at hq;cases hq
    .exact⟨j,h1,h2⟩
theorem Gy {Wk:Nat}:∀(l:WG) (h:Tr CG) (b:Nat) (o:CG),(dO Wk l h).g b=some o->h.g b=some o/\∀j,(j,b)∈l->Nat.testBit Wk j=true
 | [],h,b,o,hg=>⟨hg,fun _ h=>by cases h⟩
 |p::l,h,b,o,hg=>by
  obtain⟨pi,pb⟩:=p;simp only[dO]at hg;cases hq:Nat.testBit Wk pi with
  |true=>
   rw[hq]at hg;obtain⟨h1,h2⟩:=Gy l _ b o hg;refine⟨h1,fun j hj=>?_⟩;rcases Qk.1 hj with hj|hj
   .cases hj;exact hq
   .exact h2 j hj
  |false=>
   rw[hq]at hg;obtain⟨h1,h2⟩:=Gy l _ b o hg;simp only[cond_false,Ay]at h1;split at h1
   .cases h1
   .next Yh=>
    refine⟨h1,fun j hj=>?_⟩;rcases Qk.1 hj with hj|hj
    .cases hj;exact absurd rfl Yh
    .exact h2 j hj
theorem AS {α:Type} (i:Nat):(Tr.J:Tr α).g i=none:=by
 unfold Tr.g;cases s_ i<;>rfl
theorem IS {Wk:Nat} {news:WG} {h:Tr CG} {t:k_} {b:Nat} {o:CG} (hg:(Ws Wk news h t).g b=some o):h.g b=some o/\(∀j,(j,b)∈news->Nat.testBit Wk j=true)/\gf b t=true:=by
 cases t with
 |J=>rw[Ws,AS]at hg;cases hg
 |O c=>
  simp only[Ws]at hg;cases hq:Yj Wk c news with
  |true=>rw[hq]at hg;rw[cond_true,AS]at hg;cases hg
  |false=>
   rw[hq]at hg;simp only[cond_false,Ay,AS]at hg;split at hg
   .next e=>
    subst e;refine⟨hg,fun j hj=>?_,by simp[gf]⟩;cases hb:Nat.testBit Wk j with
    |true=>rfl
    |false=>rw[PK.2 ⟨j,hj,hb⟩]at hq;cases hq
   .cases hg
 |Y=>
  obtain⟨h1,h2⟩:=Gy _ _ _ _ hg;exact⟨h1,h2,U⟩
theorem E2 (T:Tr AV):∀(l:List Nat) (t:Tr AV) (i:Nat),(XN T l t).g i=if i∈l then T.g i else t.g i
 | [],t,i=>by simp[XN]
 |a::l,t,i=>by
  simp only[XN];rw[E2 T l,Ay];by_cases h1:i∈l
  .simp[h1]
  .by_cases h2:i=a
   .subst h2;simp
   .simp[h1,h2]
theorem I6:∀ {n b x:Nat},x∈Y3 b n↔b<=x/\x<b+n
 |0,b,x=>by simp only[Y3,List.not_mem_nil,false_iff];omega
 |n+1,b,x=>by
  simp only[Y3,Qk];rw[I6];omega
theorem B5 (h':Tr CG):∀(l:List Nat) (h:Tr CG) (b:Nat),(WH h' l h).g b=if b∈l then h'.g b else h.g b
 | [],h,b=>by simp[WH]
 |a::l,h,b=>by
  simp only[WH];rw[B5 h' l,Ay];by_cases h1:b∈l
  .simp[h1]
  .by_cases h2:b=a
   .subst h2;simp
   .simp[h1,h2]
theorem QG {i:Nat} {news:WG}:∀ {l:List Nat} {p:Nat×Nat},p∈XG i news l↔(p.1=i/\p.2∈l)\/p∈news
 | [],p=>by simp[XG]
 |b::l,p=>by
  simp only[XG,Qk];rw[QG];constructor
  .rintro(rfl|h|h)
   .exact .inl ⟨U,.inl U⟩
   .exact .inl ⟨h.1,.inr h.2⟩
   .exact .inr h
  .rintro(⟨h1,h2|h2⟩|h)
   .left;cases p;simp_all
   .exact .inr (.inl ⟨h1,h2⟩)
   .exact .inr (.inr h)
theorem Hc {Wk b n:Nat} {o:Option CG}:∀ {l:aH},ae Wk b n o l=true->∀p∈l,Nat.testBit Wk p.1=false->gf b p.2.1=false\/p.2.2 n o=true
 |q::l,h,p,hp,ha=>by
  simp only[ae]at h;cases hq:Nat.testBit Wk q.1 with
  |true=>
   rw[hq]at h;rcases Qk.1 hp with rfl|hp
   .rw[hq]at ha;cases ha
   .exact Hc h p hp ha
  |false=>
   rw[hq]at h;simp only[cond_false]at h;cases hh:gf b q.2.1 with
   |true=>
    rw[hh]at h;simp only[cond_true,Qf]at h;rcases Qk.1 hp with rfl|hp
    .exact .inr h.1
    .exact Hc h.2 p hp ha
   |false=>
    rw[hh]at h;rcases Qk.1 hp with rfl|hp
    .exact .inl hh
    .exact Hc h p hp ha
theorem Jy {Wk next n:Nat} {H:Tr CG} {q:bn}:∀ {l:List Nat},WR Wk next n H q l=true->∀b∈l,b<next/\(∀j,(j,b)∈q.b->Nat.testBit Wk j=true)/\
 ∀p∈q.c,Nat.testBit Wk p.1=false->gf b p.2.1=false\/p.2.2 n (H.g b)=true
 |a::l,h,b,hb=>by
  simp only[WR,Qf,Bool.not_eq_true']at h;rcases Qk.1 hb with rfl|hb
  .refine⟨by simpa[Nat.blt_eq]using h.1.1.1,fun j hj=>?_,Hc h.1.2⟩;cases hq:Nat.testBit Wk j with
   |true=>rfl
   |false=>rw[PK.2 ⟨j,hj,hq⟩]at h;simp at h
  .exact Jy h.2 b hb
theorem Uh {d:Option Nat} {nt:Nat} {v:AV} {T T':Tr AV} (h:zY d nt v T=some T'):(∀t,d=some t->t<nt)/\∀t,T'.g t=if d=some t then some v else T.g t:=by
 unfold zY at h;split at h
 .next k=>
  cases hk:Nat.blt k nt with
  |false=>rw[hk]at h;cases h
  |true=>
   rw[hk]at h;cases h;refine⟨fun t ht=>(by cases ht;simpa[Nat.blt_eq]using hk),fun t=>?_⟩;show(T.u k (some v)).g t=_;rw[Ay];by_cases e:t=k
   .subst e;simp
   .have:¬k=t:=fun h=>e h.symm;simp[e,this]
 .simp_all
structure xe (nt:Nat) (d:j0) (q:bn) (r:k_×AV×St) (q':bn):Prop where
 n:q.a.a<=r.2.2.a
 c:∀b∈r.2.2.d,b<q.a.a/\(∀j,(j,b)∈q.b->Nat.testBit d.a j=true)/\∀p∈q.c,Nat.testBit d.a p.1=false->gf b p.2.1=false\/p.2.2 r.2.2.a (r.2.2.b.g b)=true
 a:q'.a.a=r.2.2.a
 g:q'.a.c=q.a.c
 k:q'.a.d=below q.a.c r.2.2.d q.a.d
 f:∀b,q'.a.b.g b=if b∈r.2.2.d\/(q.a.a<=b/\b<r.2.2.a)then r.2.2.b.g b else q.a.b.g b
 l:∀j b,(j,b)∈q'.b↔(j=d.i/\(b∈r.2.2.d\/(q.a.a<=b/\b<r.2.2.a)))\/(j,b)∈q.b
 e:∀p,p∈q'.c↔p=(d.i,r.1,dP d q r)\/p∈q.c
 m:∀t,d.o.dst=some t->t<nt
 T:∀t,q'.T.g t=if d.o.dst=some t then some r.2.1 else q.T.g t
theorem QR {nt:Nat} {d:j0} {q q':bn} {r:k_×AV×St} (h:Wt nt d q r=some q'):xe nt d q r q':=by
 unfold Wt at h;cases hc:(Nat.ble q.a.a r.2.2.a&&WR d.a q.a.a r.2.2.a r.2.2.b q r.2.2.d)with
 |false=>rw[hc]at h;cases h
 |true=>
 rw[hc]at h;simp only[cond_true]at h;rw[Qf]at hc;obtain⟨T,hT,h⟩:=Qa.1 h;cases h;have hle:=Qc hc.1;obtain⟨h1,h2⟩:=Uh hT;refine⟨hle,Jy hc.2,rfl,rfl,rfl,fun b=>?_,fun j b=>?_,fun p=>by simp,h1,h2⟩
 .grind [B5,I6,WH]
 .grind [QG,I6]
noncomputable def Zk (E:c_) (ops:List Oper) (i:Nat) (o:Oper):j0:= {o,so:=XL E o.type o.op,i,a:=(l_ (Wu ops) i).getD 0,b:=b_ o.op.operands.toList}
structure dX (E:c_) (ops:List Oper) (ev:Ev) (fr:Fr) (f:Nat->bn) (r:Nat->k_×AV×St) (X:Nat->Prop):Prop where
 run:∀i o,¬X i->ops[i]?=some o->Xl E ops ev fr (Zk E ops i o) (f i)=some (r i)
 a:∀i o,ops[i]?=some o->xe fr.nt (Zk E ops i o) (f i) (r i) (f (i+1))
theorem JQ {E:c_} {ops:List Oper} {ev:Ev} {fr:Fr}:∀ {l:List Oper} {i0:Nat} {q q':bn},fQ E ops ev fr (YE E (Wu ops) l i0) q=some q'->
 ∃(f:Nat->bn) (r:Nat->k_×AV×St),f i0=q/\f (i0+l.length)=q'/\∀k o,l[k]?=some o->Xl E ops ev fr (Zk E ops (i0+k) o) (f (i0+k))=some (r (i0+k))/\
  xe fr.nt (Zk E ops (i0+k) o) (f (i0+k)) (r (i0+k)) (f (i0+k+1))
 | [],i0,q,q',h=>by
  cases h;exact⟨fun _=>q,fun _=>(.J,.CS,q.a),rfl,rfl,fun k o h=>by simp at h⟩
 |o::l,i0,q,q',h=>by
  simp only[YE,fQ]at h;obtain⟨r0,mQ,h⟩:=Qa.1 h;obtain⟨q1,eJ,h⟩:=Qa.1 h;obtain⟨f,r,h1,h2,h3⟩:=JQ h;refine⟨fun n=>if n=i0 then q else f n,fun n=>if n=i0 then r0 else r n,by simp,?_,fun k o' ho=>?_⟩
  .have:i0+(o::l).length≠i0:=by simp
   simp only[this,if_false];rw[<-h2];congr 1;simp;omega
  .cases k with
   |zero=>
    simp at ho;subst ho;have Yh:i0+1≠i0:=by omega
    simp only[Nat.add_zero,if_true,Yh,if_false,h1];exact⟨mQ,QR eJ⟩
   |succ k=>
    have:=h3 k o' (by simpa using ho);have e1:i0+(k+1)=i0+1+k:=by omega
    have n1:i0+1+k≠i0:=by omega
    have n2:i0+1+k+1≠i0:=by omega
    simp only[e1,n1,n2,if_false];exact this
theorem Je {E:c_} {ops:List Oper} {ev:Ev} {fr:Fr} {p:Nat}:∀ {l:List Oper} {i0:Nat} {q q':bn},aY E ops ev fr p (YE E (Wu ops) l i0) q=some q'->
 ∃(f:Nat->bn) (r:Nat->k_×AV×St),f i0=q/\f (i0+l.length)=q'/\∀k o,l[k]?=some o->(Nat.testBit (Zk E ops (i0+k) o).a p=false->Xl E ops ev fr (Zk E ops (i0+k) o) (f (i0+k))=some (r (i0+k)))/\
  xe fr.nt (Zk E ops (i0+k) o) (f (i0+k)) (r (i0+k)) (f (i0+k+1))/\(r (i0+k)).2.2.a=(f (i0+k)).a.a/\(r (i0+k)).2.2.d=[]
 | [],i0,q,q',h=>by
  cases h;exact⟨fun _=>q,fun _=>(.J,.CS,q.a),rfl,rfl,fun k o h=>by simp at h⟩
 |o::l,i0,q,q',h=>by
  have one:∃r0 q1,(Nat.testBit (Zk E ops i0 o).a p=false->Xl E ops ev fr (Zk E ops i0 o) q=some r0)/\Wt fr.nt (Zk E ops i0 o) q r0=some q1/\r0.2.2.a=q.a.a/\r0.2.2.d=[]/\
   aY E ops ev fr p (YE E (Wu ops) l (i0+1)) q1=some q':=by
   change (bif Nat.testBit (Zk E ops i0 o).a p then _ else _)=_ at h;cases hb:Nat.testBit (Zk E ops i0 o).a p with
   |true=>
    rw[hb]at h;obtain⟨q1,h1,h2⟩:=Qa.1 h;exact⟨_,q1,(fun h=>by cases h),h1,rfl,rfl,h2⟩
   |false=>
    rw[hb]at h;obtain⟨r0,h1,h2⟩:=Qa.1 h;cases hc:(Nat.beq r0.2.2.a q.a.a&&vu r0.2.2.d)with
    |false=>rw[hc]at h2;cases h2
    |true=>
     rw[hc]at h2;obtain⟨q1,h3,h4⟩:=Qa.1 h2;rw[Qf]at hc;refine⟨r0,q1,fun _=>h1,h3,Qb hc.1,?_,h4⟩;cases hl:r0.2.2.d with
     |nil=>rfl
     |cons _ _=>rw[hl]at hc;cases hc.2
  obtain⟨r0,q1,mQ,eJ,nh,eH,dw⟩:=one;obtain⟨f,r,h1,h2,h3⟩:=Je dw;refine⟨fun n=>if n=i0 then q else f n,fun n=>if n=i0 then r0 else r n,by simp,?_,fun k o' ho=>?_⟩
  .have:i0+(o::l).length≠i0:=by simp
   simp only[this,if_false];rw[<-h2];congr 1;simp;omega
  .cases k with
   |zero=>
    simp at ho;subst ho;have Yh:i0+1≠i0:=by omega
    simp only[Nat.add_zero,if_true,Yh,if_false,h1];exact⟨mQ,QR eJ,nh,eH⟩
   |succ k=>
    have:=h3 k o' (by simpa using ho);have e1:i0+(k+1)=i0+1+k:=by omega
    have n1:i0+1+k≠i0:=by omega
    have n2:i0+1+k+1≠i0:=by omega
    simp only[e1,n1,n2,if_false];exact this
theorem OC {Wk:Nat}:∀ {l:WG},dS Wk l=true->∀p∈l,Nat.testBit Wk p.1=true
 | [],_,_,h=>by cases h
 |q::l,h,p,hp=>by
  simp only[dS,Qf]at h;cases hp with
  |head=>exact h.1
  |tail _ hp=>exact OC h.2 p hp
structure xh (E:c_) (ops:List Oper) (ev:Ev) (fr:Fr) (f:Nat->bn) (r:Nat->k_×AV×St) (i0:Nat) (l:List Oper) (p:Nat) (v:AV):Prop where
 run:∀k o,l[k]?=some o->i0+k≠p->Nat.testBit (Zk E ops (i0+k) o).a p=false\/i0+k<p->Xl E ops ev fr (Zk E ops (i0+k) o) (f (i0+k))=some (r (i0+k))
 c:∀k o,l[k]?=some o->xe fr.nt (Zk E ops (i0+k) o) (f (i0+k)) (r (i0+k)) (f (i0+k+1))
 b:∃k o,i0+k=p/\l[k]?=some o/\dR E ops ev fr (Zk E ops p o) (f p)=some (v,(r p).2.2)/\(∀n∈(f p).b,Nat.testBit (Zk E ops p o).a n.1=true)/\(r p).1= .Y
 a:∀k,k<l.length->p<i0+k->(r (i0+k)).2.2.a=(f (i0+k)).a.a/\(r (i0+k)).2.2.d=[]
theorem Gn {E:c_} {ops:List Oper} {ev:Ev} {fr:Fr} {T0:Tr AV}:∀ {l:List Oper} {i0:Nat} {q:bn} {rs:List cP},jG (Z9 E ops ev fr T0 (YE E (Wu ops) l i0) q)=some rs->
 (∃q',fQ E ops ev fr (YE E (Wu ops) l i0) q=some q'/\rs=[⟨.J,fr,q'.T,q'.a⟩])\/
 ∃f r p v,f i0=q/\xh E ops ev fr f r i0 l p v/\rs=[⟨.O v,fr,Zt ops T0,(f (i0+l.length)).a⟩]
 | [],i0,q,rs,h=>by
  cases h;exact .inl ⟨q,U,U⟩
 |o::l,i0,q,rs,h=>by
  change jG (match Xl E ops ev fr (Zk E ops i0 o) q with
   |some r=>match Wt fr.nt (Zk E ops i0 o) q r with
    |some q'=>Z9 E ops ev fr T0 (YE E (Wu ops) l (i0+1)) q'
    |none=> .J
   |none=>lQ E ops ev fr T0 (Zk E ops i0 o) (YE E (Wu ops) l (i0+1)) q (dR E ops ev fr (Zk E ops i0 o) q))=_ at h
  cases hr:Xl E ops ev fr (Zk E ops i0 o) q with
  |some r0=>
   rw[hr]at h;simp only at h;cases hp:Wt fr.nt (Zk E ops i0 o) q r0 with
   |none=>rw[hp]at h;cases h
   |some q1=>
    rw[hp]at h;simp only at h;rcases Gn h with⟨q',h1,h2⟩|⟨f,r,p,v,hf,hs,h2⟩
    .refine .inl ⟨q',?_,h2⟩;show(Xl E ops ev fr (Zk E ops i0 o) q).bind _=_;rw[hr];show(Wt fr.nt (Zk E ops i0 o) q r0).bind _=_;rw[hp];exact h1
    .obtain⟨kp,op,hkp,_⟩:=hs.b;have ng:i0+1<=p:=by omega
     have ne:∀k,i0+1+k≠i0:=fun k=>by omega
     have ne2:∀k,i0+1+k+1≠i0:=fun k=>by omega
     refine .inr ⟨fun n=>if n=i0 then q else f n,fun n=>if n=i0 then r0 else r n,p,v,by simp,⟨fun k o' ho hn hx=>?_,fun k o' ho=>?_,?_,fun k hk C5=>?_⟩,?_⟩
     .cases k with
      |zero=>
       simp at ho;subst ho;simp only[Nat.add_zero,if_true];exact hr
      |succ k=>
       have e1:i0+(k+1)=i0+1+k:=by omega
       rw[e1]at hn hx|-;simp only[ne,if_false];exact hs.run k o' (by simpa using ho) hn hx
     .cases k with
      |zero=>
       simp at ho;subst ho;have Yh:i0+1≠i0:=by omega
       simp only[Nat.add_zero,if_true,Yh,if_false,hf];exact QR hp
      |succ k=>
       have e1:i0+(k+1)=i0+1+k:=by omega
       simp only[e1,ne,ne2,if_false];exact hs.c k o' (by simpa using ho)
     .obtain⟨k,o',hk,ho,h3⟩:=hs.b;have hpn:p≠i0:=by omega
      refine⟨k+1,o',by omega,by simpa using ho,?_⟩;simp only[hpn,if_false];exact h3
     .cases k with
      |zero=>omega
      |succ k=>
       have e1:i0+(k+1)=i0+1+k:=by omega
       rw[e1]at C5|-;simp only[ne,if_false];exact hs.a k (by simpa using hk) C5
     .have Yh:i0+(o::l).length≠i0:=by simp
      simp only[Yh,if_false];rw[h2];have:i0+(o::l).length=i0+1+l.length:=by simp;omega
      rw[this]
  |none=>
   rw[hr]at h;simp only at h;cases hq:dR E ops ev fr (Zk E ops i0 o) q with
   |none=>rw[hq]at h;cases h
   |some vs=>
    obtain⟨v,s⟩:=vs;rw[hq]at h;unfold lQ at h;simp only at h;cases ha:dS (Zk E ops i0 o).a q.b with
    |false=>rw[ha]at h;cases h
    |true=>
     rw[ha]at h;simp only[cond_true]at h;cases hd:(Wt fr.nt (Zk E ops i0 o) q (.Y,.Y [],s)).bind (aY E ops ev fr (Zk E ops i0 o).i (YE E (Wu ops) l (i0+1)))with
     |none=>rw[hd]at h;cases h
     |some q'=>
      rw[hd]at h;cases h;obtain⟨q1,eJ,dw⟩:=Qa.1 hd;obtain⟨f,r,h1,h2,h3⟩:=Je (p:=i0) dw;have ne:∀k,i0+1+k≠i0:=fun k=>by omega
      have ne2:∀k,i0+1+k+1≠i0:=fun k=>by omega
      refine .inr ⟨fun n=>if n=i0 then q else f n,fun n=>if n=i0 then(.Y,.Y [],s)else r n,i0,v,by simp,⟨fun k o' ho hn hx=>?_,fun k o' ho=>?_,⟨0,o,rfl,rfl,by simpa using hq,by simpa using OC ha,by simp⟩,fun k hk C5=>?_⟩,?_⟩
      .cases k with
       |zero=>exact absurd rfl hn
       |succ k=>
        have e1:i0+(k+1)=i0+1+k:=by omega
        rw[e1]at hn hx|-;simp only[ne,if_false];exact(h3 k o' (by simpa using ho)).1 (hx.resolve_right (by omega))
      .cases k with
       |zero=>
        simp at ho;subst ho;have Yh:i0+1≠i0:=by omega
        simp only[Nat.add_zero,if_true,Yh,if_false,h1];exact QR eJ
       |succ k=>
        have e1:i0+(k+1)=i0+1+k:=by omega
        simp only[e1,ne,ne2,if_false];exact(h3 k o' (by simpa using ho)).2.1
      .cases k with
       |zero=>omega
       |succ k=>
        have e1:i0+(k+1)=i0+1+k:=by omega
        rw[e1];simp only[ne,if_false];exact(h3 k _ (Qi (show k<l.length by simpa using hk))).2.2
      .have Yh:i0+(o::l).length≠i0:=by simp
       simp only[Yh,if_false];have:i0+(o::l).length=i0+1+l.length:=by simp;omega
       rw[this,h2]
section
variable {E : c_} {ops : List Oper} {ev : Ev} {fr : Fr} {f : Nat -> bn} {r : Nat -> k_ × AV × St} {X : Nat -> Prop} (hs : dX E ops ev fr f r X)
def Wr (f:Nat->bn) (r:Nat->k_×AV×St) (i b:Nat):Prop:=b∈(r i).2.2.d\/((f i).a.a<=b/\b<(r i).2.2.a)
include hs
theorem Mf {i:Nat} (hi:i<ops.length):(f i).a.a<=(f (i+1)).a.a:=by
 have:=hs.a i _ (Qi hi);rw[this.a];exact this.n
theorem B3 {i j : Nat} (h : i <= j) (hj : j <= ops.length) : (f i).a.a <= (f j).a.a := by
  induction j with
  | zero => have : i = 0 := by omega
            subst this; exact Qj _
  | succ j ih =>
    rcases Nat.lt_or_ge i (j + 1) with h' | h'
    . grind [Nat.le_trans, Mf]
    . have : i = j + 1 := by omega
      subst this; exact Qj _
theorem Nn {i:Nat} (hi:i<=ops.length):(f i).a.c=(f 0).a.c:=by
 induction i with
 |zero=>rfl
 |succ i ih=>rw[(hs.a i _ (Qi (show i<ops.length by omega))).g,ih (by omega)]
theorem Mg (h0:(f 0).b=[]) {i:Nat} (hi:i<=ops.length) (j b:Nat):(j,b)∈(f i).b↔j<i/\Wr f r j b:=by
 induction i with
 |zero=>rw[h0];simp
 |succ i ih=>
  have hp:=hs.a i _ (Qi (show i<ops.length by omega));rw[hp.l,ih (by omega)];show(j=i/\_)\/_↔_;constructor
  .rintro(⟨rfl,h⟩|⟨h1,h2⟩)
   .exact⟨by omega,h⟩
   .exact⟨by omega,h2⟩
  .rintro⟨h1,h2⟩;rcases Nat.lt_or_ge j i with h|h
   .exact .inr ⟨h,h2⟩
   .have:j=i:=by omega
    subst this;exact .inl ⟨U,h2⟩
theorem RW {i j:Nat} (hi:i<=ops.length) (hj:j<i) {o:Oper} (ho:ops[j]?=some o):(j,(r j).1,dP (Zk E ops j o) (f j) (r j))∈(f i).c:=by
 induction i with
 |zero=>omega
 |succ i ih=>
  have hp:=hs.a i _ (Qi (show i<ops.length by omega));rw[hp.e];rcases Nat.lt_or_ge j i with h|h
  .exact .inr (ih (by omega) h)
  .have:j=i:=by omega
   subst this;rw[Qi (show j<ops.length by omega)]at ho;cases ho;exact .inl U
theorem TH {i j : Nat} (h : i <= j) (hj : j <= ops.length) : ∀ b ∈ (f i).a.d, b ∈ (f j).a.d := by
  induction j with
  | zero => have : i = 0 := by omega
            subst this; exact fun _ h => h
  | succ j ih =>
    rcases Nat.lt_or_ge i (j + 1) with h' | h'
    . intro b hb
      rw [(hs.a j _ (Qi (show j < ops.length by omega))).k];exact B6 (.inr (ih (by omega) (by omega) b hb))
    . have : i = j + 1 := by omega
      subst this; exact fun _ h => h
theorem QL {i:Nat} (hi:i<ops.length) {b:Nat} (hb:b∈(r i).2.2.d):aZ (f 0).a (f ops.length).a.d b:=by
 have hp:=hs.a i _ (Qi hi);rcases Nat.lt_or_ge b (f 0).a.c with h|h
 .left;refine TH hs (show i+1<=ops.length by omega) (Qj _) b ?_;rw[hp.k];refine B6 (.inl ⟨hb,?_⟩);rw[Nn hs (by omega)];exact h
 .exact .inr h
theorem RX (h0:∀b,(f 0).a.a<=b->(f 0).a.b.g b=none) {i:Nat} (hi:i<=ops.length):∀b,(f i).a.a<=b->(f i).a.b.g b=none:=by
 induction i with
 |zero=>exact h0
 |succ i ih=>
  intro b hb;have hp:=hs.a i _ (Qi (show i<ops.length by omega));rw[hp.f];have hle:=hp.n;rw[hp.a]at hb;rw[if_neg]
  .exact ih (by omega) b (by omega)
  .rintro(h|⟨_,h⟩)
   .have:=(hp.c b h).1;omega
   .omega
end
def Cx.B (C:Cx) (m:Nat):Cx:= {C with D:=fun b=>C.D b/\b<m,G:=fun b n=>C.G b n/\b<m}
theorem J3 {C C':Cx} (e:m_ C C') {m m':Nat} (h:m<=m'):m_ (C.B m) (C'.B m'):=
 ⟨fun b hb=>⟨e.D b hb.1,by have:=hb.2;omega⟩,fun b hb=>e.a b hb.1,e.M,fun b n hb=>⟨e.G b n hb.1,by have:=hb.2;omega⟩,fun b n hb=>e.c b n hb.1,e.X⟩
theorem UA {C:Cx} {m:Nat}:m_ (C.B m) C:=⟨fun _ hb=>hb.1,fun _ _=>rfl,fun _ _ h=>h,fun _ _ h=>h.1,fun _ _ _=>rfl,fun _ h=>h⟩
open Classical in
noncomputable def Xs (f:Nat->bn) (r:Nat->k_×AV×St) (D:Nat->Prop):Nat->Nat->Option CG
 |0,b=>(f 0).a.b.g b
 |i+1,b=>if D i/\Wr f r i b then(r i).2.2.b.g b else Xs f r D i b
open Classical in
noncomputable def dY (f:Nat->bn) (r:Nat->k_×AV×St) (D:Nat->Prop):Nat->Nat->Nat
 |0,_=>(f 0).a.a
 |i+1,b=>if D i/\Wr f r i b then(f (i+1)).a.a else dY f r D i b
section
variable {E : c_} {ops : List Oper} {ev : Ev} {fr : Fr} {f : Nat -> bn} {r : Nat -> k_ × AV × St}
theorem Hq {D D':Nat->Prop} {b:Nat}:∀ {i:Nat},(∀j,j<i->Wr f r j b->(D j↔D' j))->Xs f r D i b=Xs f r D' i b/\dY f r D i b=dY f r D' i b
 |0,_=>⟨rfl,rfl⟩
 |i+1,h=>by
  obtain⟨h1,h2⟩:=Hq (i:=i) fun j hj=>h j (by omega);simp only[Xs,dY];have:(D i/\Wr f r i b)↔(D' i/\Wr f r i b):=and_congr_left fun hw=>h i (by omega) hw;by_cases hd:D i/\Wr f r i b
  .rw[if_pos hd,if_pos (this.1 hd),if_pos hd,if_pos (this.1 hd)];exact⟨rfl,rfl⟩
  .have tt:=fun x=>hd (this.2 x);rw[if_neg hd,if_neg tt,if_neg hd,if_neg tt];exact⟨h1,h2⟩
theorem EA {D : Nat -> Prop} {b i : Nat} : ∀ {n : Nat}, i <= n -> (∀ j, i <= j -> j < n -> D j -> ¬ Wr f r j b) -> Xs f r D n b = Xs f r D i b /\ dY f r D n b = dY f r D i b
  | 0, h, _ => by have : i = 0 := by omega
                  subst this; exact ⟨rfl, rfl⟩
  | n + 1, h, hn => by
    rcases Nat.lt_or_ge i (n + 1) with h' | h'
    . obtain ⟨h1, h2⟩ := EA (n := n) (by omega) fun j hj hl => hn j hj (by omega)
      simp only [Xs, dY];have : ¬ (D n /\ Wr f r n b) := fun x => hn n (by omega) (by omega) x.1 x.2;rw [if_neg this, if_neg this]; exact ⟨h1, h2⟩
    . have : i = n + 1 := by omega
      subst this; exact ⟨rfl, rfl⟩
variable {X : Nat -> Prop} (hs : dX E ops ev fr f r X)
include hs
theorem MJ {b:Nat}:∀ {i:Nat},i<=ops.length->Xs f r (fun _=>True) i b=(f i).a.b.g b
 |0,_=>rfl
 |i+1,h=>by
  have hp:=hs.a i _ (Qi (show i<ops.length by omega));simp only[Xs];rw[hp.f,MJ (by omega)];by_cases hw:Wr f r i b
  .rw[if_pos ⟨trivial,hw⟩];exact(if_pos hw).symm
  .rw[if_neg (fun x=>hw x.2)];exact(if_neg hw).symm
theorem xi {D:Nat->Prop} {b:Nat}:∀ {i:Nat},i<=ops.length->dY f r D i b<=(f i).a.a
 |0,_=>Qj _
 |i+1,h=>by
  simp only[dY];split
  .exact Qj _
  .exact Nat.le_trans (xi (by omega)) (Mf hs (by omega))
theorem wr_lt {i b:Nat} (hi:i<ops.length) (h:Wr f r i b):b<(f (i+1)).a.a:=by
 have hp:=hs.a i _ (Qi hi);rcases h with h|h
 .exact Nat.lt_of_lt_of_le (hp.c b h).1 (Mf hs hi)
 .rw[hp.a];exact h.2
theorem JT {D:Nat->Prop} {b:Nat} {o:CG} (h0:∀b o,(f 0).a.b.g b=some o->b<(f 0).a.a):∀ {i:Nat},i<=ops.length->Xs f r D i b=some o->b<dY f r D i b
 |0,_,h=>h0 b o h
 |i+1,hi,h=>by
  simp only[Xs,dY]at h|-;split at h
  .next hd=>rw[if_pos hd];exact wr_lt hs (by omega) hd.2
  .next hd=>rw[if_neg hd];exact JT h0 (by omega) h
theorem xj (t:Nat):∀ {i:Nat},i<=ops.length->(∃j o,j<i/\ops[j]?=some o/\o.dst=some t/\(f i).T.g t=some (r j).2.1)\/
 ((∀j o,j<i->ops[j]?=some o->o.dst≠some t)/\(f i).T.g t=(f 0).T.g t)
 |0,_=> .inr ⟨fun j o hj=>by omega,rfl⟩
 |i+1,hi=>by
  have ho:ops[i]?=some ops[i]:=Qi (show i<ops.length by omega);have hp:=hs.a i _ ho;have hT:(f (i+1)).T.g t=if ops[i].dst=some t then some (r i).2.1 else(f i).T.g t:=hp.T t;by_cases hd:ops[i].dst=some t
  .exact .inl ⟨i,_,by omega,ho,hd,by rw[hT,if_pos hd]⟩
  .rw[if_neg hd]at hT;rcases xj t (i:=i) (by omega)with⟨j,o,hj,zI,tt,hg⟩|⟨h1,h2⟩
   .exact .inl ⟨j,o,by omega,zI,tt,by rw[hT];exact hg⟩
   .refine .inr ⟨fun j o hj zI=>?_,hT.trans h2⟩;rcases Nat.lt_or_ge j i with h|h
    .exact h1 j o h zI
    .have:j=i:=by omega
     subst this;rw[ho]at zI;cases zI;exact hd
end
theorem S7 {d:Nat} {a:Oper} {l:List Oper} (h:oo d (a::l)=true):a.dst≠some d/\oo d l=true:=by
 unfold oo at h;rw[Qf]at h;refine⟨fun e=>?_,h.2⟩;have:=h.1;unfold jU at this;rw[e]at this;simp at this
theorem QU {d:Nat}:∀ {l:List Oper},oo d l=true->∀o,o∈l->o.dst≠some d
 | [],_,_,ho=>by cases ho
 |a::l,h,o,ho=>by
  obtain⟨h1,h2⟩:=S7 h;cases ho with
  |head=>exact h1
  |tail _ ho=>exact QU h2 o ho
theorem KU {ops:List Oper} (h:X0 ops=true) {i j t:Nat} {o p:Oper} (hi:ops[i]?=some o) (hj:ops[j]?=some p) (ho:o.dst=some t) (hp:p.dst=some t):i=j:=by
 have key:∀ {i j:Nat} {o p:Oper},ops[i]?=some o->ops[j]?=some p->o.dst=some t->p.dst=some t->¬i<j:=by
  intro i j o p hi hj ho hp C5;have:=Hm h hi;unfold rY at this;simp only[Qf,ho]at this;have XU:p∈ops.drop (i+1):=by
   have:(ops.drop (i+1))[j-(i+1)]?=some p:=by rw[List.getElem?_drop];rw[<-hj];congr 1;omega
   exact List.mem_of_getElem? this
  exact QU this.1.2 p XU hp
 have h1:=key hi hj ho hp;have h2:=key hj hi hp ho;omega
theorem Nj {bs:List Nat} {i Wk t:Nat}:∀ {l:List Oper} {j:Nat},j7 bs i Wk t l j=true->∀k o,l[k]?=some o->o.dst=some t->i=j+k\/Nat.testBit Wk (j+k)=true\/Nat.testBit ((l_ bs (j+k)).getD 0) i=true
 |a::l,j,h,0,o,ho,hd=>by
  simp at ho;subst ho;simp only[j7,Qf,Bool.or_eq_true,Bool.not_eq_true']at h;rcases h.1 with((h1|h1)|h1)|h1
  .exact .inl (Qb h1)
  .simp only[jU,hd]at h1;rw[Nat.beq_refl]at h1;cases h1
  .exact .inr (.inl h1)
  .exact .inr (.inr h1)
 |a::l,j,h,k+1,o,ho,hd=>by
  simp only[j7,Qf]at h;have:=Nj h.2 k o (by simpa using ho) hd;rw[show j+(k+1)=j+1+k by omega];exact this
 | [],_,_,_,_,ho,_=>by simp at ho
theorem IV {ops:List Oper} {bs:List Nat} {i Wk:Nat}:∀ {l:List Nat},kW ops bs i Wk l=true->∀t∈l,j7 bs i Wk t ops 0=true
 |a::l,h,t,ht=>by
  simp only[kW,Qf]at h;rcases Qk.1 ht with rfl|ht
  .exact h.1
  .exact IV h.2 t ht
theorem xk {ops:List Oper} (h:X0 ops=true) {i j t:Nat} {o p:Oper} (hi:ops[i]?=some o) (ht:t∈b_ o.op.operands.toList) (hj:ops[j]?=some p) (hp:p.dst=some t):i=j\/fz ops i j\/fz ops j i:=by
 have:=Hm h hi;unfold rY at this;simp only[Qf]at this;have:=Nj (IV this.1.1.1 t ht) j p hj hp;simpa[fz]using this
theorem UV {ops:List Oper} (h:X0 ops=true) {i:Nat} {o:Oper} (hi:ops[i]?=some o) {g:Nat×Bool} (hg:o.guard=some g):fz ops i g.1:=by
 have:=Hm h hi;unfold rY at this;simp only[Qf,hg]at this;exact this.2
section
variable (f : Nat -> bn) (r : Nat -> k_ × AV × St) (n : Nat)
def qO (b:Nat):Prop:=aZ (f 0).a (f n).a.d b
structure E_ (C0:Cx) (w0:World) (D:Nat->Prop) (C:Cx) (w:World):Prop where
 s:∀i,D i->i<n
 g:m_ C0 C
 d:∀b o,Xs f r D n b=some o->C.D b/\∃x,w.heap[(C.a b).b]?=some x/\OR (C.B (dY f r D n b)) b o x
 inj:∀b b' o o',Xs f r D n b=some o->Xs f r D n b'=some o'->(C.a b).b=(C.a b').b->b=b'
 q:∀b,C.D b->C0.D b\/∃j,D j/\(f j).a.a<=b/\b<(r j).2.2.a
 y:∀Cv ms,C.M Cv=some ms->∃c e fr,w.heap[Cv]?=some (.cells c e fr)/\c.toList=ms
 l:∀b o,Xs f r D n b=some o->C.M (C.a b).b=none
 a:∀b k,C.G b k->C.D b
 p:∀k,C.X k->k<w.heap.size
 t:∀b,C.D b->C.X (C.a b).b
 A:∀Cv ms,C.M Cv=some ms->C.X Cv
 B:∀b k,C.G b k->C0.G b k\/∃i,D i/\Wr f r i b
 m:w0.heap.size<=w.heap.size
 z:∀Cv,Cv<w0.heap.size->(∀b o,(f 0).a.b.g b=some o->qO f n b->(C0.a b).b≠Cv)->w.heap[Cv]?=w0.heap[Cv]?
 own:∀b o,Xs f r D n b=some o->(C0.D b/\∃o0,(f 0).a.b.g b=some o0)\/w0.heap.size<=(C.a b).b\/∃b0 o0,(f 0).a.b.g b0=some o0/\qO f n b0/\(C0.a b0).b=(C.a b).b
 dm:∀Cv ms,C.M Cv=some ms->C0.M Cv=some ms\/w0.heap.size<=Cv\/∃b0 o0,(f 0).a.b.g b0=some o0/\qO f n b0/\(C0.a b0).b=Cv
 v:w.tape=w0.tape/\w.os=w0.os/\w.output=w0.output
end
open Classical in
noncomputable def Cx.z (C C':Cx):Cx:=
 {a:=fun b=>if C.D b then C.a b else C'.a b,M:=C'.M,D:=fun b=>C.D b\/C'.D b,b:=fun b k=>if C.G b k then C.b b k else C'.b b k,G:=fun b k=>C.G b k\/C'.G b k,X:=C'.X}
section
variable {E : c_} {ops : List Oper} {ev : Ev} {fr : Fr} {f : Nat -> bn} {r : Nat -> k_ × AV × St} {X : Nat -> Prop} (hs : dX E ops ev fr f r X)
include hs
open Classical in
theorem E_.u (WO:X0 ops=true) (aK:(f 0).b=[]) {C0:Cx} {w0:World} (b9:WW C0 (f 0).a w0) {D:Nat->Prop} {C:Cx} {w:World} (h:E_ f r ops.length C0 w0 D C w) {d:Nat} (hd:d<ops.length) (Zw:¬D d)
 (Y8:∀i j,D i->fz ops i j->D j) {s s':St} (aq:(r d).2.2.a=s'.a) (jm:(r d).2.2.d=s'.d) (qz:∀b,Wr f r d b->(r d).2.2.b.g b=s'.b.g b) (hsn:s.a=(f d).a.a) (hsb:s.c=(f d).a.a) (rJ:s.d=[])
 (ZQ:∀b o,s.b.g b=some o->Xs f r D ops.length b=some o) (hSs:WW (C.B (f d).a.a) s w) {C1:Cx} {w':World} (t:CE (C.B (f d).a.a) s w C1 s' w'):
 E_ f r ops.length C0 w0 (fun k=>D k\/k=d) (C.z C1) w'/\m_ C (C.z C1)/\m_ C1 ((C.z C1).B (f (d+1)).a.a):=by
 have hp:=hs.a d _ (Qi hd);have hnext:(f (d+1)).a.a=s'.a:=by rw[<-aq];exact hp.a
 have hle:(f d).a.a<=s'.a:=by rw[<-aq];exact hp.n
 have sq:∀b o,(f 0).a.b.g b=some o->b<(f 0).a.a:=fun b o hb=>b9.d b (b9.a b o hb).1;have Z6:∀b,C1.D b->b<s'.a:=t.c.d;have k1:∀b,C1.D b->C.D b->b<(f d).a.a:=by
  intro b h1 h2;rcases Nat.lt_or_ge b (f d).a.a with hl|hl
  .exact hl
  .exfalso;rcases h.q b h2 with h0|⟨j,hj,hj1,hj2⟩
   .have a1:=b9.d b h0;have a2:=B3 hs (Qo d) (Nat.le_of_lt hd);omega
   .have tG:=h.s j hj;have ux:=hs.a j _ (Qi tG);have hjx:=ux.a;rcases Nat.lt_trichotomy j d with C5|rfl|ou
    .have:=B3 hs (show j+1<=d by omega) (Nat.le_of_lt hd);omega
    .exact Zw hj
    .have:=B3 hs (show d+1<=j by omega) (Nat.le_of_lt tG);have:=Z6 b h1;omega
 have hold:∀b,C1.D b->C.D b\/(f d).a.a<=b:=by
  intro b hb;rcases t.m b hb with h1|h1
  .exact .inl h1.1
  .rw[hsn]at h1;exact .inr h1
 have e1:m_ C (C.z C1):=by
  refine⟨fun _ h=> .inl h,fun b hb=>by simp[Cx.z,hb],fun Cv ms hm=>?_,fun _ _ h=> .inl h,fun b k hb=>by simp[Cx.z,hb],fun k hk=>t.a.X k hk⟩;exact t.a.M Cv ms hm
 have e2:m_ C1 (C.z C1):=by
  refine⟨fun _ h=> .inr h,fun b hb=>?_,fun _ _ h=>h,fun _ _ h=> .inr h,fun b k hb=>?_,fun _ h=>h⟩
  .by_cases hc:C.D b
   .have:=t.a.a b ⟨hc,k1 b hb hc⟩;simp only[Cx.z,hc,if_true];exact this.symm
   .simp[Cx.z,hc]
  .by_cases hc:C.G b k
   .have dt:=t.c.f b k hb;have:=t.a.c b k ⟨hc,k1 b dt (h.a b k hc)⟩;simp only[Cx.z,hc,if_true];exact this.symm
   .simp[Cx.z,hc]
 have e4:m_ C1 ((C.z C1).B (f (d+1)).a.a):=by
  refine⟨fun b hb=>⟨.inr hb,by rw[hnext];exact Z6 b hb⟩,fun b hb=>e2.a b hb,fun _ _ h=>h,fun b k hb=>⟨.inr hb,by rw[hnext];exact Z6 b (t.c.f b k hb)⟩,fun b k hb=>e2.c b k hb,fun _ h=>h⟩
 have wh:∀b,Wr f r d b↔b∈s'.d\/((f d).a.a<=b/\b<s'.a):=by
  intro b;unfold Wr;rw[aq,jm]
 have dr:∀b o,s.b.g b=some o->aZ s s'.d b->b∈s'.d:=by
  intro b o hb hm;rcases hm with hm|hm
  .exact hm
  .rw[hsb]at hm;have:=(hSs.a b o hb).1.2;omega
 have noLater:∀b,Wr f r d b->∀j,d+1<=j->j<ops.length->D j->¬Wr f r j b:=by
  intro b hb j hj tG zF hw;have ux:=hs.a j _ (Qi tG);have hmono:=B3 hs hj (Nat.le_of_lt tG);rcases hw with hw|hw
  .have hnews:=(Mg hs aK (Nat.le_of_lt tG) d b).2 ⟨by omega,hb⟩;exact Zw (Y8 j d zF ((ux.c b hw).2.1 d hnews))
  .have:=wr_lt hs hd hb;omega
 have iZ:∀b,Xs f r (fun k=>D k\/k=d) ops.length b=(if Wr f r d b then s'.b.g b else Xs f r D ops.length b)/\
  dY f r (fun k=>D k\/k=d) ops.length b=(if Wr f r d b then(f (d+1)).a.a else dY f r D ops.length b):=by
  intro b;by_cases hb:Wr f r d b
  .have XM:=EA (f:=f) (r:=r) (D:=fun k=>D k\/k=d) (b:=b) (show d+1<=ops.length by omega) (fun j hj tG zF=>by
    rcases zF with zF|rfl
    .exact noLater b hb j hj tG zF
    .omega)
   rw[XM.1,XM.2];simp only[Xs,dY,or_true,true_and,hb,if_true,qz b hb,and_self]
  .have:=Hq (f:=f) (r:=r) (D:=fun k=>D k\/k=d) (D':=D) (b:=b) (i:=ops.length) (fun j _ hw=>by
    constructor
    .rintro(hj|rfl)
     .exact hj
     .exact absurd hw hb
    .exact .inl)
   rw[if_neg hb,if_neg hb];exact this
 have hlw:∀b o,Xs f r D ops.length b=some o->(C.a b).b<w.heap.size:=by
  intro b o hb;obtain⟨_,x,hx,_⟩:=h.d b o hb;exact B1 hx
 have ma:∀b o,Xs f r D ops.length b=some o->¬Wr f r d b->w'.heap[(C.a b).b]?=w.heap[(C.a b).b]?:=by
  intro b o hb hnw';refine t.z _ (hlw b o hb) fun b2 o2 dD hm he=>?_;have hb2':=dr b2 o2 dD hm;have:=h.inj b2 b o2 o (ZQ b2 o2 dD) hb he;subst this;exact hnw' ((wh b2).2 (.inl hb2'))
 have qP:∀b o,Wr f r d b->s'.b.g b=some o->C1.D b/\(C.z C1).a b=C1.a b:=fun b o _ hb=>⟨(t.c.a b o hb).1,e2.a b (t.c.a b o hb).1⟩;have hG1:∀b k,C1.G b k->C.D b->¬Wr f r d b->C.G b k:=by
  intro b k hg hdb hnw';have dt:=t.c.f b k hg;have C5:=k1 b dt hdb;have:=(t.f b ⟨hdb,C5⟩ (fun hm=>by
   rcases hm with hm|hm
   .exact hnw' ((wh b).2 (.inl hm))
   .rw[hsb]at hm;omega)).2 k hg
  exact this.1
 have ew:∀b o,Wr f r d b->s'.b.g b=some o->(Xs f r D ops.length b≠none/\C.D b/\C1.a b=C.a b)\/w.heap.size<=(C1.a b).b\/∃b0 o0,Xs f r D ops.length b0=some o0/\b0∈s'.d/\(C.a b0).b=(C1.a b).b:=by
  intro b o _ hb;rcases t.own b o hb with⟨fS,o0,h0⟩|h1|⟨b0,o0,h0,hm,he⟩
  .exact .inl ⟨by rw[ZQ b o0 h0];simp,fS.1,t.a.a b fS⟩
  .exact .inr (.inl h1)
  .exact .inr (.inr ⟨b0,o0,ZQ b0 o0 h0,dr b0 o0 h0 hm,he⟩)
 have xp:∀b0 o0,Xs f r D ops.length b0=some o0->b0∈s'.d->∀Cv,(C.a b0).b=Cv->w0.heap.size<=Cv\/∃b1 o1,(f 0).a.b.g b1=some o1/\qO f ops.length b1/\(C0.a b1).b=Cv:=by
  intro b0 o0 h0 hm Cv he;have hmf:qO f ops.length b0:=QL hs hd (by rw[jm];exact hm);rcases h.own b0 o0 h0 with⟨hc0,o1,h1⟩|h1|⟨b1,o1,h1,mT,he1⟩
  .exact .inr ⟨b0,o1,h1,hmf,by rw[<-he,h.g.a b0 hc0]⟩
  .exact .inl (by rw[<-he];exact h1)
  .exact .inr ⟨b1,o1,h1,mT,he1.trans he⟩
 refine⟨⟨?_,h.g.u e1,?_,?_,?_,?_,?_,?_,t.c.i,?_,t.c.m,?_,Nat.le_trans h.m t.d,?_,?_,?_,?_⟩,e1,e4⟩
 .rintro i (hi|rfl)
  .exact h.s i hi
  .exact hd
 .
   intro b o hb;rw[(iZ b).1]at hb;rw[(iZ b).2];by_cases hw:Wr f r d b
   .rw[if_pos hw]at hb|-;obtain⟨fS,x,hx,hr⟩:=t.c.a b o hb;refine⟨.inr fS,x,by rw[e2.a b fS];exact hx,hr.g e4 fS fun k hk=>?_⟩;rcases hk.1 with iX|iX
    .exact t.a.G b k ⟨iX,k1 b fS (h.a b k iX)⟩
    .exact iX
   .rw[if_neg hw]at hb|-;obtain⟨fS,x,hx,hr⟩:=h.d b o hb;have C5:=JT hs sq (Qj _) hb;refine⟨.inl fS,x,by rw[e1.a b fS,ma b o hb hw];exact hx,hr.g (J3 e1 (Qj _)) ⟨fS,C5⟩ fun k hk=>⟨?_,C5⟩⟩;rcases hk.1 with iX|iX
    .exact iX
    .exact hG1 b k iX fS hw
 .
   have mixed:∀b b' o o',Wr f r d b->s'.b.g b=some o->¬Wr f r d b'->Xs f r D ops.length b'=some o'->(C1.a b).b=(C.a b').b->False:=by
    intro b b' o o' hw hb uW ZJ he;rcases ew b o hw hb with⟨h1,h2,h3⟩|h1|⟨b0,o0,h0,hm,uV⟩
    .cases hc:Xs f r D ops.length b with
     |none=>exact h1 hc
     |some o1=>
      have:=h.inj b b' o1 o' hc ZJ (by rw[<-h3];exact he);subst this;exact uW hw
    .have:=hlw b' o' ZJ;omega
    .have:=h.inj b0 b' o0 o' h0 ZJ (uV.trans he);subst this;exact uW ((wh b0).2 (.inl hm))
   intro b b' o o' hb ZJ he;rw[(iZ b).1]at hb;rw[(iZ b').1]at ZJ;by_cases hw:Wr f r d b
   .rw[if_pos hw]at hb;have p1:=(qP b o hw hb).2;by_cases uW:Wr f r d b'
    .rw[if_pos uW]at ZJ;rw[p1,(qP b' o' uW ZJ).2]at he;exact t.c.inj b b' o o' hb ZJ he
    .rw[if_neg uW]at ZJ;rw[p1,e1.a b' (h.d b' o' ZJ).1]at he;exact(mixed b b' o o' hw hb uW ZJ he).elim
   .rw[if_neg hw]at hb;have p1:=e1.a b (h.d b o hb).1;by_cases uW:Wr f r d b'
    .rw[if_pos uW]at ZJ;rw[p1,(qP b' o' uW ZJ).2]at he;exact(mixed b' b o' o uW ZJ hw hb he.symm).elim
    .rw[if_neg uW]at ZJ;rw[p1,e1.a b' (h.d b' o' ZJ).1]at he;exact h.inj b b' o o' hb ZJ he
 .
   rintro b (hb|hb)
   .rcases h.q b hb with h1|⟨j,h1,h2⟩
    .exact .inl h1
    .exact .inr ⟨j,.inl h1,h2⟩
   .rcases hold b hb with h1|h1
    .rcases h.q b h1 with h2|⟨j,h2,h3⟩
     .exact .inl h2
     .exact .inr ⟨j,.inl h2,h3⟩
    .exact .inr ⟨d,.inr U,h1,by rw[aq];exact Z6 b hb⟩
 .exact fun Cv ms hm=>t.c.l Cv ms hm
 .
   intro b o hb;rw[(iZ b).1]at hb;by_cases hw:Wr f r d b
   .rw[if_pos hw]at hb;rw[(qP b o hw hb).2];exact t.c.g b o hb
   .rw[if_neg hw]at hb;rw[e1.a b (h.d b o hb).1];show C1.M (C.a b).b=none;cases hm:C1.M (C.a b).b with
    |none=>rfl
    |some ms=>
     exfalso;rcases t.l _ ms hm with h1|h1|⟨b0,o0,h0,uP,he⟩
     .have h1':C.M (C.a b).b=some ms:=h1;rw[h.l b o hb]at h1';cases h1'
     .have:=hlw b o hb;omega
     .have:=h.inj b0 b o0 o (ZQ b0 o0 h0) hb he;subst this;exact hw ((wh b0).2 (.inl (dr b0 o0 h0 uP)))
 .
   rintro b k (hg|hg)
   .exact .inl (h.a b k hg)
   .exact .inr (t.c.f b k hg)
 .
   rintro b (hb|hb)
   .rw[e1.a b hb];exact t.a.X _ (h.t b hb)
   .rw[e2.a b hb];exact t.c.j b hb
 .
   rintro b k (hg|hg)
   .rcases h.B b k hg with h1|⟨i,h1,h2⟩
    .exact .inl h1
    .exact .inr ⟨i,.inl h1,h2⟩
   .have dt:=t.c.f b k hg;by_cases hw:Wr f r d b
    .exact .inr ⟨d,.inr U,hw⟩
    .rcases hold b dt with h1|h1
     .rcases h.B b k (hG1 b k hg h1 hw)with h2|⟨i,h2,h3⟩
      .exact .inl h2
      .exact .inr ⟨i,.inl h2,h3⟩
     .exact absurd ((wh b).2 (.inr ⟨h1,Z6 b dt⟩)) hw
 .
   intro Cv sb hn;rw[<-h.z Cv sb hn];refine t.z Cv (Nat.lt_of_lt_of_le sb h.m) fun b2 o2 dD hm he=>?_;rcases xp b2 o2 (ZQ b2 o2 dD) (dr b2 o2 dD hm) Cv he with h1|⟨b1,o1,h1,h2,h3⟩
   .omega
   .exact hn b1 o1 h1 h2 h3
 .
   intro b o hb;rw[(iZ b).1]at hb;by_cases hw:Wr f r d b
   .rw[if_pos hw]at hb;rw[(qP b o hw hb).2];rcases ew b o hw hb with⟨h1,h2,h3⟩|h1|⟨b0,o0,h0,hm,uV⟩
    .cases hc:Xs f r D ops.length b with
     |none=>exact absurd hc h1
     |some o1=>
      rw[h3];exact h.own b o1 hc
    .exact .inr (.inl (Nat.le_trans h.m h1))
    .rcases xp b0 o0 h0 hm _ uV with h1|h1
     .exact .inr (.inl h1)
     .exact .inr (.inr h1)
   .rw[if_neg hw]at hb;rw[e1.a b (h.d b o hb).1];exact h.own b o hb
 .
   intro Cv ms hm;rcases t.l Cv ms hm with h1|h1|⟨b0,o0,h0,uP,he⟩
   .exact h.dm Cv ms h1
   .exact .inr (.inl (Nat.le_trans h.m h1))
   .rcases xp b0 o0 (ZQ b0 o0 h0) (dr b0 o0 h0 uP) Cv he with h1|h1
    .exact .inr (.inl h1)
    .exact .inr (.inr h1)
 .exact⟨t.k.1.trans h.v.1,t.k.2.1.trans h.v.2.1,t.k.2.2.trans h.v.2.2⟩
end
section
variable {E : c_} {P : Program} {ops : Array Oper} {ev : Ev} {fr : Fr} {f : Nat -> bn} {r : Nat -> k_ × AV × St}
structure hJ (ops:List Oper) (f:Nat->bn) (r:Nat->k_×AV×St) (nt:Nat) (a0:Act) (D:Nat->Prop) (C:Cx) (a:Act):Prop where
 c:a.tmps.size=nt
 b:a.defers=a0.defers
 d:∀i o t,D i->ops[i]?=some o->o.dst=some t->∃x,a.tmps[t]?=some x/\VR (C.B (f (i+1)).a.a) (r i).2.1 x
 e:∀t,(∀i o,D i->ops[i]?=some o->o.dst≠some t)->a.tmps[t]?=a0.tmps[t]?
variable {X : Nat -> Prop} (hs : dX E ops.toList ev fr f r X)
include hs
theorem hJ.g (WO:X0 ops.toList=true) {a0 a:Act} {D:Nat->Prop} {C C' C1:Cx} (h:hJ ops.toList f r fr.nt a0 D C a) {d:Nat} {o:Oper} (ho:ops.toList[d]?=some o) (Zw:¬D d) (e:m_ C C') (e4:m_ C1 (C'.B (f (d+1)).a.a))
 {x:Value} (hv:VR C1 (r d).2.1 x):hJ ops.toList f r fr.nt a0 (fun k=>D k\/k=d) C' (a.put o.dst x):=by
 have hp:=hs.a d o ho;have ZP:∀t,(a.put o.dst x).tmps[t]?=if o.dst=some t then some x else a.tmps[t]?:=by
  intro t;cases hd:o.dst with
  |none=>simp[Act.put]
  |some k=>
   have hk:k<fr.nt:=hp.m k hd;simp only[Act.put,Array.getElem?_setIfInBounds,Option.some.injEq];by_cases hkt:k=t
   .subst hkt;simp[h.c,hk]
   .simp[hkt]
 refine⟨by rw[QQ];exact h.c,by rw[KT];exact h.b,?_,?_⟩
 .rintro i p t (hi|rfl) zK jV
  .have Yh:o.dst≠some t:=fun hot=>by
    have:=KU WO zK ho jV hot;subst this;exact Zw hi
   obtain⟨y,hy,ir⟩:=h.d i p t hi zK jV;exact⟨y,by rw[ZP,if_neg Yh];exact hy,ir.g (J3 e (Qj _))⟩
  .rw[ho]at zK;cases zK;exact⟨x,by rw[ZP,if_pos jV],hv.g e4⟩
 .intro t ht;rw[ZP,if_neg (ht d o (.inr rfl) ho)];exact h.e t fun i p hi zK=>ht i p (.inl hi) zK
theorem hJ.u (WO:X0 ops.toList=true) {a0 a:Act} {D:Nat->Prop} {C0 C:Cx} (h:hJ ops.toList f r fr.nt a0 D C a) (e0:m_ C0 C) (qQ:∀b,C0.D b->b<(f 0).a.a) (hst0:∀b k,C0.G b k->C0.D b)
 (lY:TR C0 fr.nt (f 0).T a0.tmps) {d:Nat} (hd:d<ops.toList.length) (Zw:¬D d) (Y8:∀i j,D i->fz ops.toList i j->D j) (hdn:∀i,D i->i<ops.toList.length) (ZD:∀j,fz ops.toList d j->D j) {t:Nat}
 (hw:∀j p,ops.toList[j]?=some p->p.dst=some t->d=j\/fz ops.toList d j\/fz ops.toList j d) {v:AV} (hv:(f d).T.g t=some v):∃x,a.tmps[t]?=some x/\VR (C.B (f d).a.a) v x:=by
 rcases xj hs t (Nat.le_of_lt hd)with⟨j,p,hj,ux,jV,hg⟩|⟨h1,h2⟩
 .rw[hg]at hv;cases hv;have zF:D j:=by
   rcases hw j p ux jV with rfl|h1|h1
   .omega
   .exact ZD j h1
   .have:=O8 WO j d (by omega) h1;omega
  obtain⟨x,hx,aJ⟩:=h.d j p t zF ux jV;exact⟨x,hx,aJ.g (J3 (.g C) (B3 hs (show j+1<=d by omega) (Nat.le_of_lt hd)))⟩
 .have Xo:∀i p,D i->ops.toList[i]?=some p->p.dst≠some t:=by
   intro i p hi zK jV;rcases Nat.lt_trichotomy i d with C5|rfl|ou
   .exact h1 i p C5 zK jV
   .exact Zw hi
   .grind [O8]
  rw[h2]at hv;obtain⟨x,hx,aJ⟩:=lY.2 t v hv;refine⟨x,by rw[h.e t Xo];exact hx,aJ.g ?_⟩;have hm:=B3 hs (Qo d) (Nat.le_of_lt hd);exact⟨fun b hb=>⟨e0.D b hb,by have:=qQ b hb;omega⟩,fun b hb=>e0.a b hb,e0.M,fun b k hb=>⟨e0.G b k hb,by have:=qQ b (hst0 b k hb);omega⟩,fun b k hb=>e0.c b k hb,e0.X⟩
theorem sees (WO:X0 ops.toList=true) (aK:(f 0).b=[]) {C0:Cx} {w0:World} (b9:WW C0 (f 0).a w0) {D:Nat->Prop} {C:Cx} {w:World} (h:E_ f r ops.toList.length C0 w0 D C w) {d:Nat} (hd:d<ops.toList.length) (Zw:¬D d)
 (Y8:∀i j,D i->fz ops.toList i j->D j) (ZD:∀j,fz ops.toList d j->D j) {b:Nat} {o:CG} (hg:(f d).a.b.g b=some o) (hn:∀j,(j,b)∈(f d).b->fz ops.toList d j) (hh:gf b (r d).1=true)
 (tI:∀b j,b<(f d).a.a->d<j->j<ops.toList.length->D j->Wr f r j b->gf b (r d).1=false):
 Xs f r D ops.toList.length b=some o/\dY f r D ops.toList.length b<=(f d).a.a:=by
 have h0:∀b,(f 0).a.a<=b->(f 0).a.b.g b=none:=by
  intro b hb;cases hc:(f 0).a.b.g b with
  |none=>rfl
  |some o=>have:=b9.d b (b9.a b o hc).1;omega
 have C5:b<(f d).a.a:=by
  rcases Nat.lt_or_ge b (f d).a.a with h1|h1
  .exact h1
  .rw[RX hs h0 (Nat.le_of_lt hd) b h1]at hg;cases hg
 have hlater:∀j,d<=j->j<ops.toList.length->D j->¬Wr f r j b:=by grind
 have h1:=EA (f:=f) (r:=r) (D:=D) (b:=b) (Nat.le_of_lt hd) hlater;have h2:=Hq (f:=f) (r:=r) (D:=D) (D':=fun _=>True) (b:=b) (i:=d) (fun j hj hw=>by
  refine⟨fun _=>trivial,fun _=>ZD j (hn j ((Mg hs aK (Nat.le_of_lt hd) j b).2 ⟨hj,hw⟩))⟩)
 refine⟨by rw[h1.1,h2.1,MJ hs (Nat.le_of_lt hd)];exact hg,?_⟩;rw[h1.2];exact xi hs (Nat.le_of_lt hd)
theorem QH (WO:X0 ops.toList=true) (aK:(f 0).b=[]) {C0:Cx} {w0:World} (b9:WW C0 (f 0).a w0) {D:Nat->Prop} {C:Cx} {w:World} (h:E_ f r ops.toList.length C0 w0 D C w) {d:Nat} (hd:d<ops.toList.length) (Zw:¬D d)
 (Y8:∀i j,D i->fz ops.toList i j->D j) (ZD:∀j,fz ops.toList d j->D j) {H:Tr CG}
 (hH:∀b o,H.g b=some o->(f d).a.b.g b=some o/\(∀j,(j,b)∈(f d).b->fz ops.toList d j)/\gf b (r d).1=true)
 (tI:(∃b o,H.g b=some o)->∀b j,b<(f d).a.a->d<j->j<ops.toList.length->D j->Wr f r j b->gf b (r d).1=false):
 WW (C.B (f d).a.a) ((f d).a.B H) w/\∀b o,H.g b=some o->Xs f r D ops.toList.length b=some o:=by
 have xq:=fun b o hb=>sees hs WO aK b9 h hd Zw Y8 ZD (hH b o hb).1 (hH b o hb).2.1 (hH b o hb).2.2 (tI ⟨b,o,hb⟩);have sq:∀b o,(f 0).a.b.g b=some o->b<(f 0).a.a:=fun b o hb=>b9.d b (b9.a b o hb).1;refine⟨⟨?_,?_,fun b hb=>hb.2,h.y,fun b o hb=>h.l b o (xq b o hb).1,fun b k hg=>⟨h.a b k hg.1,hg.2⟩,h.p,fun b hb=>h.t b hb.1,h.A⟩,fun b o hb=>(xq b o hb).1⟩
 .intro b o hb;obtain⟨h1,h2⟩:=xq b o hb;obtain⟨fS,x,hx,hr⟩:=h.d b o h1;have C5:=JT hs sq (Qj _) h1;refine⟨⟨fS,by omega⟩,x,hx,hr.g (J3 (.g C) h2) ⟨fS,C5⟩ fun k hk=>⟨hk.1,C5⟩⟩
 .intro b b' o o' hb ZJ he;exact h.inj b b' o o' (xq b o hb).1 (xq b' o' ZJ).1 he
theorem P5 {D:Nat->Prop} {b d j:Nat} (hj:d<j) (hn:j<ops.toList.length) (hd:D j) (hw:Wr f r j b):
 ∃k,d<k/\k<ops.toList.length/\D k/\Wr f r k b/\∀i,k<i->i<ops.toList.length->D i->¬Wr f r i b:=by
 have key:∀m j,ops.toList.length-j<=m->d<j->j<ops.toList.length->D j->Wr f r j b->
  ∃k,d<k/\k<ops.toList.length/\D k/\Wr f r k b/\∀i,k<i->i<ops.toList.length->D i->¬Wr f r i b:=by
  intro m;induction m with
  |zero=>intro j h1 _ h2;omega
  |succ m ih=>grind
 exact key _ j (Qj _) hj hn hd hw
omit hs in
theorem Ud {d:j0} {q:bn} {r:k_×AV×St} {n:Nat} {o:Option CG} (h:dP d q r n o=true):
 ∃xo F b,d.so= .Y xo F/\r.1= .O b/\pG r.2.1 (F (XN q.T d.b .J) {a:=n,c:=n,d:=[],b:=Tr.u .J b o})=true/\CD q.a.a 40 r.2.1=true:=by
 obtain⟨o',so,i,Wk,tmps⟩:=d;obtain⟨t,v⟩:=r;cases so with
 |Y xo F=>
  cases t with
  |O b=>
   simp only[dP,Qf]at h;exact⟨xo,F,b,U,U,h.1,h.2⟩
  |_=>cases h
 |_=>cases h
theorem re_sees (WO:X0 ops.toList=true) {C0:Cx} {w0:World} (b9:WW C0 (f 0).a w0) {D:Nat->Prop} {C:Cx} {w:World} (h:E_ f r ops.toList.length C0 w0 D C w) {d:Nat} (hd:d<ops.toList.length) (Zw:¬D d)
 (Y8:∀i j,D i->fz ops.toList i j->D j) {o:Oper} (ho:ops.toList[d]?=some o) {b j:Nat} (hb:b<(f d).a.a) (hj:d<j) (tG:j<ops.toList.length) (zF:D j) (hw:Wr f r j b) (hh:gf b (r d).1=true):
 ∃xo F n H,XL E o.type o.op= .Y xo F/\(f d).a.a<=n/\F (XN (f d).T (b_ o.op.operands.toList) .J) {a:=n,c:=n,d:=[],b:=H}=some (r d).2.1/\
  CD (f d).a.a 40 (r d).2.1=true/\WW (C.B n) {a:=n,c:=n,d:=[],b:=H} w:=by
 have sq:∀b o,(f 0).a.b.g b=some o->b<(f 0).a.a:=fun b o hb=>b9.d b (b9.a b o hb).1;obtain⟨k,k1,k2,k3,k4,k5⟩:=P5 hs hj tG zF hw;have pX:=hs.a k _ (Qi k2);have CU:b∈(r k).2.2.d:=by
  rcases k4 with hw|hw
  .exact hw
  .have:=B3 hs (Nat.le_of_lt k1) (Nat.le_of_lt k2);omega
 have hna:Nat.testBit (Zk E ops.toList k ops.toList[k]).a d=false:=by
  cases hq:Nat.testBit (Zk E ops.toList k ops.toList[k]).a d with
  |false=>rfl
  |true=>exact absurd (Y8 k d k3 hq) Zw
 have hre:=((pX.c b CU).2.2 _ (RW hs (Nat.le_of_lt k2) k1 ho) hna).resolve_left (fun h=>by simp only at h;rw[hh]at h;cases h);simp only at hre;have ZL:(f d).a.a<=(r k).2.2.a:=by
  rw[<-pX.a];exact B3 hs (show d<=k+1 by omega) (by omega)
 obtain⟨xo,F,b',bU,hr1,hre1,hre2⟩:=Ud hre;have zC:b'=b:=by
  rw[hr1]at hh;exact(Qb hh).symm
 subst zC;refine⟨xo,F,_,Tr.u .J b' ((r k).2.2.b.g b'),bU,ZL,?_,hre2,?_⟩
 .have h1:=hre1;unfold pG at h1;split at h1
  .next u hu=>
   have:u=(r d).2.1:=by grind [L',HP,GF]
   rw[<-this];exact hu
  .cases h1
 .have XM:=EA (f:=f) (r:=r) (D:=D) (b:=b') (show k+1<=ops.toList.length by omega) (fun i h1 h2 h3=>k5 i (by omega) h2 h3);have hc:Xs f r D ops.toList.length b'=(r k).2.2.b.g b'/\dY f r D ops.toList.length b'=(r k).2.2.a:=by
   rw[XM.1,XM.2];simp only[Xs,dY];rw[if_pos ⟨k3,k4⟩,if_pos ⟨k3,k4⟩];exact⟨U,pX.a⟩
  have ZP:∀c oc,(Tr.u .J b' ((r k).2.2.b.g b')).g c=some oc->c=b'/\Xs f r D ops.toList.length b'=some oc:=by grind [Ay,AS,Tr.u]
  refine⟨fun c oc hg=>?_,fun c c' oc oc' hg kB _=>(ZP c oc hg).1.trans (ZP c' oc' kB).1.symm,fun c hg=>hg.2,h.y,fun c oc hg=>?_,fun c k hg=>⟨h.a c k hg.1,hg.2⟩,h.p,fun c hg=>h.t c hg.1,h.A⟩
  .obtain⟨rfl,ct⟩:=ZP c oc hg;obtain⟨fS,x,hx,hr⟩:=h.d c oc ct;have C5:=JT hs sq (Qj _) ct;rw[hc.2]at hr C5;exact⟨⟨fS,C5⟩,x,hx,hr⟩
  .obtain⟨rfl,ct⟩:=ZP c oc hg;exact h.l c oc ct
theorem Iq {aX:k_} {out:k6} {q:k_×AV×St} (h:Zo aX out=some q):∃Yx,out= .O ⟨.J,Yx,b6 q.2.1,q.2.2⟩/\q.1=aX:=by
 unfold Zo at h;split at h
 .cases h;exact⟨_,rfl,rfl⟩
 .cases h
theorem LD (WO:X0 ops.toList=true) {C0:Cx} {w0:World} (bD:WN E C0) (b9:WW C0 (f 0).a w0) {a0:Act}
 (lY:TR C0 fr.nt (f 0).T a0.tmps) {D:Nat->Prop} {C:Cx} {a:Act} {w:World} (h:E_ f r ops.toList.length C0 w0 D C w) (hT:hJ ops.toList f r fr.nt a0 D C a) {d:Nat} (hd:d<ops.toList.length) (Zw:¬D d)
 (Y8:∀i j,D i->fz ops.toList i j->D j) (ZD:∀j,fz ops.toList d j->D j) {o:Oper} (ho:ops.toList[d]?=some o):
 TR (C.B (f d).a.a) a.tmps.size (XN (f d).T (b_ o.op.operands.toList) .J) a.tmps/\WN E (C.B (f d).a.a)/\
  ∀g,o.guard=some g->∀tw,Xk ops.toList g (f d).T=some tw->Region.wanted o (yielded ops a.tmps)=tw:=by
 have qQ:=b9.d;have reads:=fun(t:Nat) (hw:∀j p,ops.toList[j]?=some p->p.dst=some t->d=j\/fz ops.toList d j\/fz ops.toList j d) (v:AV) (hv:(f d).T.g t=some v)=>
  hT.u hs WO h.g qQ b9.f lY hd Zw Y8 h.s ZD hw hv
 have hTp:TR (C.B (f d).a.a) a.tmps.size (XN (f d).T (b_ o.op.operands.toList) .J) a.tmps:=by
  refine⟨rfl,fun t v hv=>?_⟩;rw[E2]at hv;split at hv
  .next ht=>exact reads t (fun j p ux jV=>xk WO ho ht ux jV) v hv
  .rw[AS]at hv;cases hv
 have tJ:WN E (C.B (f d).a.a):=by
  have hm:=B3 hs (Qo d) (Nat.le_of_lt hd);exact bD.mono ⟨fun b hb=>⟨h.g.D b hb,by have:=qQ b hb;omega⟩,fun b hb=>h.g.a b hb,h.g.M,fun b k hb=>⟨h.g.G b k hb,by have:=qQ b (b9.f b k hb);omega⟩,fun b k hb=>h.g.c b k hb,h.g.X⟩
 refine⟨hTp,tJ,fun g pP tw htw=>?_⟩;have hgA:=UV WO ho pP;have hgj:=O8 WO d g.1 hd hgA;have jd:Region.wanted o (yielded ops a.tmps)=tw:=by
  have ux:ops.toList[g.1]?=some ops.toList[g.1]:=Qi (show g.1<ops.toList.length by omega);generalize ops.toList[g.1]=p at ux;cases hdst:p.dst with
  |none=>grind [E2,AS,E4,Xk,bx,IN,XN]
  |some t=>
   refine IN (C:=C.B (f d).a.a) (T:=XN (f d).T [t] .J) (a:=a) ⟨rfl,fun u v hv=>?_⟩ (o:=o) (j:=g.1) (want:=g.2) pP ?_
   .grind [E2,Qp,AS,KU]
   .rw[<-htw];unfold Xk bx;rw[E4,ux];simp only[Qe,hdst];have:=E2 (f d).T [t] .J t;simp only[Qp,if_true]at this;unfold Tr.g at this;rw[this]
 exact jd
theorem O2 (he:Wd E P) (hx:ZW E P) (Wv:ZB E P ev) (WJ:ZC E P ev) (WO:X0 ops.toList=true) (aK:(f 0).b=[]) {C0:Cx} {w0:World} (bD:WN E C0) (b9:WW C0 (f 0).a w0) {a0:Act}
 (lY:TR C0 fr.nt (f 0).T a0.tmps) {D:Nat->Prop} {C:Cx} {a:Act} {w:World} (h:E_ f r ops.toList.length C0 w0 D C w) (hT:hJ ops.toList f r fr.nt a0 D C a) {d:Nat} (hd:d<ops.toList.length) (Zw:¬D d)
 (hxd:¬X d) (Y8:∀i j,D i->fz ops.toList i j->D j) (ZD:∀j,fz ops.toList d j->D j) (b:Frame) (k:List Item) (cs:List Frame) (idx:List Nat):
 ∃C' a' w',Steps P (lone (Wi b a (.inRegion ops (d::idx)::k)) cs w) (lone (Wi b a' (.inRegion ops idx::k)) cs w')/\E_ f r ops.toList.length C0 w0 (fun j=>D j\/j=d) C' w'/\
  hJ ops.toList f r fr.nt a0 (fun j=>D j\/j=d) C' a':=by
 have ho:ops.toList[d]?=some ops.toList[d]:=Qi hd;generalize ops.toList[d]=o at ho;have hoA:ops[d]?=some o:=by rw[<-Array.getElem?_toList];exact ho
 have CF:=hs.run d o hxd ho;have qQ:=b9.d;obtain⟨hTp,tJ,hwd⟩:=LD hs WO bD b9 lY h hT hd Zw Y8 ZD ho;have go:Region.wanted o (yielded ops a.tmps)=true->XS E ev fr (Zk E ops.toList d o) (f d) (XN (f d).T (b_ o.op.operands.toList) .J)=some (r d)->
  ∃C' a' w',Steps P (lone (Wi b a (.inRegion ops (d::idx)::k)) cs w) (lone (Wi b a' (.inRegion ops idx::k)) cs w')/\E_ f r ops.toList.length C0 w0 (fun j=>D j\/j=d) C' w'/\
   hJ ops.toList f r fr.nt a0 (fun j=>D j\/j=d) C' a':=by
  intro jd bG;by_cases Z6:∃b j,b<(f d).a.a/\d<j/\j<ops.toList.length/\D j/\Wr f r j b/\gf b (r d).1=true
  .obtain⟨b0,j,q1,q2,q3,q4,q5,q6⟩:=Z6;obtain⟨xo,F,n,H,bU,hn,hF,hu,hSt⟩:=re_sees hs WO b9 h hd Zw Y8 ho q1 q2 q3 q4 q5 q6;have hread:=tA he hx o;rw[bU]at hread;have elim:m_ (C.B (f d).a.a) (C.B n):=J3 (.g C) hn;obtain⟨x,XM,hv⟩:=op_read (P:=P) (idx:=idx) (b:=b) (k:=k) (cs:=cs) hoA hread bU (tJ.mono elim) (hTp.mono elim) hSt jd hF;have uO:VR (C.B (f d).a.a) (r d).2.1 x:=
    FF (C:=C.B (f d).a.a) (C':=C.B n) (m:=(f d).a.a) (fun b hb hd=>⟨⟨hd.1,hb⟩,rfl⟩) (fun b k hb hg=>⟨⟨hg.1,hb⟩,rfl⟩) 40 hu hv
   have bS:(r d).2.2.a=(f d).a.a/\(r d).2.2.d=[]:=by
    unfold XS at bG;cases hq:XK (Zk E ops.toList d o).so with
    |false=>rw[hq]at bG;cases bG
    |true=>
    rw[hq]at bG;simp only[cond_true]at bG;obtain⟨Yx,dW,_⟩:=Iq hs bG;have hso':(Zk E ops.toList d o).so= .Y xo F:=bU;rw[hso']at dW;change Ye (fun v=> .O ⟨.J,fr,b6 v,_⟩) (F _ _)=_ at dW;cases hf:F (XN (f d).T (b_ o.op.operands.toList) .J) ((f d).a.B (Ws (Zk E ops.toList d o).a (f d).b (f d).a.b (WQ (.Y xo F) (XN (f d).T (b_ o.op.operands.toList) .J))))with
    |none=>rw[hf]at dW;cases dW
    |some v=>
     rw[hf]at dW;simp only[Ye,k6.O.injEq,cP.mk.injEq]at dW;obtain⟨_,_,_,h4⟩:=dW;rw[<-h4];exact⟨U,U⟩
   have ZQ:=QH hs WO aK b9 h hd Zw Y8 ZD (H:= .J) (fun b o' hb=>by rw[AS]at hb;cases hb) (fun⟨b,o',hb⟩=>by rw[AS]at hb;cases hb);obtain⟨hinv,e1,e4⟩:=E_.u hs WO aK b9 h hd Zw Y8 (s:=(f d).a.B .J) (s':=(f d).a.B .J) bS.1 bS.2 (fun b hw=>by
    rcases hw with hw|hw
    .rw[bS.2]at hw;cases hw
    .rw[bS.1]at hw;omega) rfl rfl rfl ZQ.2 ZQ.1 (CE.g ZQ.1)
   exact⟨_,_,w,XM,hinv,hT.g hs WO ho Zw e1 e4 uO⟩
  have tI:∀b j,b<(f d).a.a->d<j->j<ops.toList.length->D j->Wr f r j b->gf b (r d).1=false:=by
   intro b j q1 q2 q3 q4 q5;cases q6:gf b (r d).1 with
   |false=>rfl
   |true=>exact absurd ⟨b,j,q1,q2,q3,q4,q5,q6⟩ Z6
  unfold XS at bG;cases hq:XK (Zk E ops.toList d o).so with
  |false=>rw[hq]at bG;cases bG
  |true=>
  rw[hq]at bG;simp only[cond_true]at bG;obtain⟨Yx,dW,je⟩:=Iq hs bG;have ZQ:=QH hs WO aK b9 h hd Zw Y8 ZD (H:=Ws (Zk E ops.toList d o).a (f d).b (f d).a.b (WQ (Zk E ops.toList d o).so (XN (f d).T (b_ o.op.operands.toList) .J))) (by
   intro b o' hb;obtain⟨h1,h2,h3⟩:=IS hb;exact⟨h1,fun j hj=>h2 j hj,by rw[je];exact h3⟩) (fun _=>tI)
  have eJ:∀F,XL E o.type o.op≠ .bW F:=by
   intro F hF;have:XK (XL E o.type o.op)=true:=hq;rw[hF]at this;cases this
  have kD:XL E o.type o.op≠ .Z:=by
   intro hF;have:XK (XL E o.type o.op)=true:=hq;rw[hF]at this;cases this
  obtain⟨v,C1,x,w',hTV,_,XM,t,hv⟩:=op_exec (P:=P) Wv WJ (idx:=idx) (b:=b) (k:=k) (cs:=cs) hoA (tA he hx o) rfl eJ kD tJ hTp ZQ.1 jd dW;have hveq:(r d).2.1=v:=by grind [b6]
  obtain⟨hinv,e1,e4⟩:=E_.u hs WO aK b9 h hd Zw Y8 (s:=(f d).a.B _) rfl rfl (fun _ _=>rfl) rfl rfl rfl ZQ.2 ZQ.1 t;exact⟨_,_,w',XM,hinv,hT.g hs WO ho Zw e1 e4 (by rw[hveq];exact hv)⟩
 unfold Xl at CF;have hdo:(Zk E ops.toList d o).o=o:=rfl;rw[hdo]at CF;cases pP:o.guard with
 |none=>
  rw[pP]at CF;exact go (by unfold Region.wanted;rw[pP]) CF
 |some g=>
  rw[pP]at CF;simp only at CF;obtain⟨tw,htw,CF⟩:=Qa.1 CF;have jd:=hwd g pP tw htw;cases tw with
  |true=>exact go jd CF
  |false=>
   simp only[cond_false]at CF;have hr:r d=(.J,.Y [],(f d).a.B .J):=(Option.some.inj CF).symm;have ZQ:=QH hs WO aK b9 h hd Zw Y8 ZD (H:= .J) (fun b o' hb=>by rw[AS]at hb;cases hb) (fun⟨b,o',hb⟩=>by rw[AS]at hb;cases hb);obtain⟨hinv,e1,e4⟩:=E_.u hs WO aK b9 h hd Zw Y8 (s:=(f d).a.B .J) (s':=(f d).a.B .J) (by rw[hr]) (by rw[hr]) (fun b _=>by rw[hr]) rfl rfl rfl ZQ.2 ZQ.1 (CE.g ZQ.1);have hsk:=Nu (P:=P) (b:=b) (a:=a) (k:=k) (cs:=cs) (w:=w) (ops:=ops) (i:=d) (rest:=idx) (by rw[hoA];exact jd);simp only[hoA,Qe]at hsk;exact⟨_,_,w,.one hsk,hinv,hT.g hs WO ho Zw e1 e4 (by rw[hr];exact VR.z)⟩
end
section
variable {E : c_} {P : Program} {ops : Array Oper} {ev : Ev} {fr : Fr} {f : Nat -> bn} {r : Nat -> k_ × AV × St} {X : Nat -> Prop} (hs : dX E ops.toList ev fr f r X)
include hs
theorem NZ {C:Cx} {w:World} (hS:WW C (f 0).a w):E_ f r ops.toList.length C w (fun _=>False) C w:=by
 have hc:∀b,Xs f r (fun _=>False) ops.toList.length b=(f 0).a.b.g b/\dY f r (fun _=>False) ops.toList.length b=(f 0).a.a:=by
  intro b;have:=EA (f:=f) (r:=r) (D:=fun _=>False) (b:=b) (Qo ops.toList.length) (fun _ _ _ h=>h.elim);exact⟨this.1.trans U,this.2.trans U⟩
 have e:m_ C (C.B (f 0).a.a):=⟨fun b hb=>⟨hb,hS.d b hb⟩,fun _ _=>rfl,fun _ _ h=>h,fun b k hg=>⟨hg,hS.d b (hS.f b k hg)⟩,fun _ _ _=>rfl,fun _ h=>h⟩
 refine⟨fun i h=>h.elim,.g C,?_,?_,fun b hb=> .inl hb,hS.l,?_,hS.f,hS.i,hS.j,hS.m,fun b k hg=> .inl hg,Qj _,fun _ _ _=>rfl,?_,fun _ _ h=> .inl h,⟨rfl,rfl,rfl⟩⟩
 .intro b o hb;rw[(hc b).1]at hb;rw[(hc b).2];obtain⟨hd,x,hx,hr⟩:=hS.a b o hb;exact⟨hd,x,hx,hr.g e hd fun k hk=>hk.1⟩
 .intro b b' o o' hb ZJ he;rw[(hc b).1]at hb;rw[(hc b').1]at ZJ;exact hS.inj b b' o o' hb ZJ he
 .intro b o hb;rw[(hc b).1]at hb;exact hS.g b o hb
 .intro b o hb;rw[(hc b).1]at hb;exact .inl ⟨(hS.a b o hb).1,o,hb⟩
theorem SO (he:Wd E P) (hx:ZW E P) (Wv:ZB E P ev) (WJ:ZC E P ev) (WO:X0 ops.toList=true) (aK:(f 0).b=[]) (hX:∀i,¬X i) {C0:Cx} {w0:World} (bD:WN E C0) (b9:WW C0 (f 0).a w0) {a0:Act}
 (lY:TR C0 fr.nt (f 0).T a0.tmps) (b:Frame) (k:List Item) (cs:List Frame) {D:Nat->Prop} {idx:List Nat} (xd:gL ops.toList D idx):∀ {C:Cx} {a:Act} {w:World},E_ f r ops.toList.length C0 w0 D C w->
 hJ ops.toList f r fr.nt a0 D C a->(∀i,D i->∀j,jI ops.toList i j->D j)->
 ∃D' C' a' w',(∀i,i<ops.toList.length->D' i)/\Steps P (lone (Wi b a (.inRegion ops idx::k)) cs w) (lone (Wi b a' k) cs w')/\E_ f r ops.toList.length C0 w0 D' C' w'/\hJ ops.toList f r fr.nt a0 D' C' a':=by
 induction xd with
 |O Zc=>
  intro C a w h hT _;exact⟨_,C,a,w,Zc,.one Ie,h,hT⟩
 | @J D d idx hd Zw hed _ ih=>
  intro C a w h hT Y8;have hD':∀i,(D i\/i=d)->∀j,jI ops.toList i j->(D j\/j=d):=by grind
  have uy:∀i j,D i->fz ops.toList i j->D j:=fun i j hi ha=>Gc WO Y8 i j (h.s i hi) hi ha;have ZD:∀j,fz ops.toList d j->D j:=by
   intro j ha;rcases Gc WO hD' d j hd (.inr rfl) ha with h1|h1
   .exact h1
   .have:=O8 WO d j hd ha;omega
  obtain⟨C',a',w',XM,hinv,af⟩:=O2 hs he hx Wv WJ WO aK bD b9 lY h hT hd Zw (hX d) uy ZD b k cs idx;obtain⟨D2,C2,a2,w2,h1,h2,h3,h4⟩:=ih hinv af hD';exact⟨D2,C2,a2,w2,h1,XM.trans h2,h3,h4⟩
theorem Rh {C0 C:Cx} {w0 w:World} (b9:WW C0 (f 0).a w0) {D:Nat->Prop} (Zc:∀i b,i<ops.toList.length->Wr f r i b->D i) (h:E_ f r ops.toList.length C0 w0 D C w):
 CE C0 (f 0).a w0 C (f ops.toList.length).a w:=by
 have hc:∀b,Xs f r D ops.toList.length b=(f ops.toList.length).a.b.g b:=by
  intro b;rw[<-MJ hs (Qj _)];exact(Hq fun j hj hw=>⟨fun _=>trivial,fun _=>Zc j b hj hw⟩).1
 have sq:∀b o,(f 0).a.b.g b=some o->b<(f 0).a.a:=fun b o hb=>b9.d b (b9.a b o hb).1;have nowr:∀b,C0.D b->¬aZ (f 0).a (f ops.toList.length).a.d b->∀j,0<=j->j<ops.toList.length->D j->¬Wr f r j b:=by
  intro b hb hm j _ hj _ hw;rcases hw with hw|hw
  .exact hm (QL hs hj hw)
  .have:=b9.d b hb;have:=B3 hs (Qo j) (Nat.le_of_lt hj);omega
 refine⟨h.g,⟨?_,?_,?_,h.y,?_,h.a,h.p,h.t,h.A⟩,Nn hs (Qj _),TH hs (Qo _) (Qj _),B3 hs (Qo _) (Qj _),h.m,h.z,?_,?_,?_,h.dm,h.v⟩
 .intro b o hb;rw[<-hc]at hb;obtain⟨hd,x,hx,hr⟩:=h.d b o hb;have C5:=JT hs sq (Qj _) hb;exact⟨hd,x,hx,hr.g UA ⟨hd,C5⟩ fun k hk=>⟨hk,C5⟩⟩
 .intro b b' o o' hb ZJ he;rw[<-hc]at hb ZJ;exact h.inj b b' o o' hb ZJ he
 .intro b hb;rcases h.q b hb with h1|⟨j,hj,h1,h2⟩
  .exact Nat.lt_of_lt_of_le (b9.d b h1) (B3 hs (Qo _) (Qj _))
  .have tG:=h.s j hj;have hp:=(hs.a j _ (Qi tG)).a;have:=B3 hs (show j+1<=ops.toList.length by omega) (Qj _);omega
 .intro b o hb;rw[<-hc]at hb;exact h.l b o hb
 .intro b hb hm;refine⟨?_,fun k hk=>?_⟩
  .rw[<-hc];exact(EA (Qo _) (nowr b hb hm)).1.trans U
  .rcases h.B b k hk with h1|⟨i,hi,hw⟩
   .exact h1
   .exact absurd hw (nowr b hb hm i (Qo _) (h.s i hi) hi)
 .intro b hb;rcases h.q b hb with h1|⟨j,hj,h1,_⟩
  .exact .inl h1
  .exact .inr (Nat.le_trans (B3 hs (Qo j) (Nat.le_of_lt (h.s j hj))) h1)
 .intro b o hb;rw[<-hc]at hb;exact h.own b o hb
theorem UH {C0 C:Cx} {a0 a:Act} (e:m_ C0 C) (lY:TR C0 fr.nt (f 0).T a0.tmps) {D:Nat->Prop} (Zc:∀i,i<ops.toList.length->D i) (hdn:∀i,D i->i<ops.toList.length) (h:hJ ops.toList f r fr.nt a0 D C a):
 TR C fr.nt (f ops.toList.length).T a.tmps:=by
 refine⟨h.c,fun t v hv=>?_⟩;rcases xj hs t (Qj _)with⟨j,p,hj,ux,jV,hg⟩|⟨h1,h2⟩
 .rw[hg]at hv;cases hv;obtain⟨x,hx,aJ⟩:=h.d j p t (Zc j hj) ux jV;exact⟨x,hx,aJ.g UA⟩
 .rw[h2]at hv;obtain⟨x,hx,aJ⟩:=lY.2 t v hv;exact⟨x,by rw[h.e t fun i p hi zK=>h1 i p (hdn i hi) zK];exact hx,aJ.g e⟩
omit hs in
theorem HV:∀(l:List Oper) (T:Tr AV) (t:Nat) (v:AV),(Zt l T).g t=some v->T.g t=some v/\∀o∈l,o.dst≠some t
 | [],T,t,v,h=>⟨h,fun o ho=>by cases ho⟩
 |o::l,T,t,v,h=>by
  unfold Zt at h;cases hd:o.dst with
  |none=>
   rw[hd]at h;obtain⟨h1,h2⟩:=HV l T t v h;exact⟨h1,fun p hp=>by
    rcases Qk.1 hp with rfl|hp
    .rw[hd];simp
    .exact h2 p hp⟩
  |some d=>
   rw[hd]at h;obtain⟨h1,h2⟩:=HV l (T.u d none) t v h;rw[Ay]at h1;by_cases e:t=d
   .rw[if_pos e]at h1;cases h1
   .rw[if_neg e]at h1;exact⟨h1,fun p hp=>by
     rcases Qk.1 hp with rfl|hp
     .rw[hd];simp;exact fun x=>e x.symm
     .exact h2 p hp⟩
theorem Uj (he:Wd E P) (hx:ZW E P) (Wv:ZB E P ev) (WJ:ZC E P ev) (WO:X0 ops.toList=true) (aK:(f 0).b=[]) {p:Nat} {v:AV} (hp:xh E ops.toList ev fr f r 0 ops.toList p v)
 (hX:∀i,X i↔i=p\/fz ops.toList i p) {C0:Cx} {w0:World} (bD:WN E C0) (b9:WW C0 (f 0).a w0) {a0:Act}
 (lY:TR C0 fr.nt (f 0).T a0.tmps) (b:Frame) (k:List Item) (cs:List Frame) {D:Nat->Prop} {idx:List Nat} (xd:gL ops.toList D idx):∀ {C:Cx} {a:Act} {w:World},E_ f r ops.toList.length C0 w0 D C w->
 hJ ops.toList f r fr.nt a0 D C a->(∀i,D i->∀j,jI ops.toList i j->D j)->¬D p->
 ∃C' a' w' k2 x,Steps P (lone (Wi b a (.inRegion ops idx::k)) cs w) (lone {Wi b a' k2 with mode:= .panicking [{v:=x,recovered:=false}]} cs w')/\CE C0 (f 0).a w0 C' (f ops.toList.length).a w'/\
  TR C' fr.nt (Zt ops.toList (f 0).T) a'.tmps/\a'.defers=a0.defers/\VR C' v x/\pN k2:=by
 obtain⟨kp,op,hkp,XB,xr,q7,jV⟩:=hp.b;simp only[Nat.zero_add]at hkp;subst hkp;have Y1:kp<ops.toList.length:=(List.getElem?_eq_some_iff.1 XB).1;induction xd with
 |O Zc=>intro C a w h hT _ uT;exact absurd (Zc kp Y1) uT
 | @J D d idx hd Zw hed _ ih=>
  intro C a w h hT Y8 uT;have hD':∀i,(D i\/i=d)->∀j,jI ops.toList i j->(D j\/j=d):=by grind
  have uy:∀i j,D i->fz ops.toList i j->D j:=fun i j hi ha=>Gc WO Y8 i j (h.s i hi) hi ha;have ZD:∀j,fz ops.toList d j->D j:=by
   intro j ha;rcases Gc WO hD' d j hd (.inr rfl) ha with h1|h1
   .exact h1
   .have:=O8 WO d j hd ha;omega
  by_cases hdp:d=kp
  .subst hdp;have noWr:∀b j,d<j->j<ops.toList.length->¬Wr f r j b:=by
    intro b j hj tG hw;have hq:=hp.a j tG (by omega);simp only[Nat.zero_add]at hq;rcases hw with hw|hw
    .rw[hq.2]at hw;cases hw
    .rw[hq.1]at hw;omega
   obtain⟨hTp,tJ,hwd⟩:=LD hs WO bD b9 lY h hT hd Zw uy ZD XB;have hoA:ops[d]?=some op:=by rw[<-Array.getElem?_toList];exact XB
   have go:Region.wanted op (yielded ops a.tmps)=true->om E ev fr (Zk E ops.toList d op) (f d) (XN (f d).T (b_ op.op.operands.toList) .J)=some (v,(r d).2.2)->
    ∃C' a' w' k2 x,Steps P (lone (Wi b a (.inRegion ops (d::idx)::k)) cs w) (lone {Wi b a' k2 with mode:= .panicking [{v:=x,recovered:=false}]} cs w')/\CE C0 (f 0).a w0 C' (f ops.toList.length).a w'/\
    TR C' fr.nt (Zt ops.toList (f 0).T) a'.tmps/\a'.defers=a0.defers/\VR C' v x/\pN k2:=by
    intro jd bG;have ZQ:=QH hs WO aK b9 h hd Zw uy ZD (H:=Ws (Zk E ops.toList d op).a (f d).b (f d).a.b .Y) (by
     intro b o' hb;obtain⟨h1,h2,h3⟩:=IS hb;exact⟨h1,fun j hj=>h2 j hj,by rw[jV];rfl⟩) (fun _ b j _ h2 h3 _ h5=>absurd h5 (noWr b j h2 h3))
    have bU:XL E op.type op.op=(Zk E ops.toList d op).so:=rfl;have hq:((∃F,XL E op.type op.op= .aG F)\/∃F A,XL E op.type op.op= .Z1 F A)/\
     dQ ((Xf E (XL E op.type op.op) K0).run ev fr (XN (f d).T (b_ op.op.operands.toList) .J) ((f d).a.B (Ws (Zk E ops.toList d op).a (f d).b (f d).a.b .Y)))=some (v,(r d).2.2):=by
     unfold om at bG;rw[<-bU]at bG;cases hc:XL E op.type op.op with
     |aG F=>rw[hc]at bG;exact⟨.inl ⟨F,rfl⟩,bG⟩
     |Z1 F A=>rw[hc]at bG;exact⟨.inr ⟨F,A,rfl⟩,bG⟩
     |_=>rw[hc]at bG;cases bG
    obtain⟨C1,x,w',XM,t,hv⟩:=wZ (P:=P) Wv WJ (idx:=idx) (b:=b) (k:=k) (cs:=cs) hoA (tA he hx op) rfl hq.1 tJ hTp ZQ.1 jd hq.2;obtain⟨hinv,e1,e4⟩:=E_.u hs WO aK b9 h hd Zw uy (s:=(f d).a.B _) rfl rfl (fun _ _=>rfl) rfl rfl rfl ZQ.2 ZQ.1 t;have tl:=Rh hs b9 (fun i b hi hw=>by
     rcases Nat.lt_trichotomy i d with C5|rfl|ou
     .exact .inl (ZD i (q7 (i,b) ((Mg hs aK (Nat.le_of_lt hd) i b).2 ⟨C5,hw⟩)))
     .exact .inr U
     .exact absurd hw (noWr b i ou hi)) hinv
    refine⟨_,a,w',_,x,XM,tl,⟨hT.c,fun t u hu=>?_⟩,hT.b,(hv.g e4).g UA,by intro _ _ _ _ _ h;cases h⟩;obtain⟨h1,h2⟩:=HV _ _ _ _ hu;obtain⟨y,hy,ir⟩:=lY.2 t u h1;exact⟨y,by rw[hT.e t fun i q hi hq=>h2 q (List.mem_of_getElem? hq)];exact hy,ir.g hinv.g⟩
   unfold dR at xr;have hdo:(Zk E ops.toList d op).o=op:=rfl;rw[hdo]at xr;cases pP:op.guard with
   |none=>
    rw[pP]at xr;exact go (by unfold Region.wanted;rw[pP]) xr
   |some g=>
    rw[pP]at xr;obtain⟨tw,htw,xr⟩:=Qa.1 xr;cases tw with
    |false=>cases xr
    |true=>exact go (hwd g pP true htw) xr
  .have hxd:¬X d:=fun hx=>by
    rcases(hX d).1 hx with h1|h1
    .exact hdp h1
    .exact uT (ZD kp h1)
   obtain⟨C',a',w',XM,hinv,af⟩:=O2 hs he hx Wv WJ WO aK bD b9 lY h hT hd Zw hxd uy ZD b k cs idx;obtain⟨C2,a2,w2,k2,x,h1,h2⟩:=ih hinv af hD' (fun hh=>hh.elim uT fun h=>hdp h.symm);exact⟨C2,a2,w2,k2,x,XM.trans h1,h2⟩
end
theorem MG {E:c_} {P:Program} (he:Wd E P) (hx:ZW E P):pV E P:=by
 intro ev Wv WJ id ops C S w fr T b a k cs hg hT hF hS;show f_ P C S w fr b k cs _ ((pH E ops.toList (YE E (Wu ops.toList) ops.toList 0)).run ev fr T S);unfold pH;cases WO:X0 ops.toList with
 |false=>exact Aq
 |true=>
 intro rs ld;rcases Gn ld with⟨q,hda,rfl⟩|⟨f,r,p,v,hf0,hp,rfl⟩
 rotate_left
 .have hX:∀i,(fun i=>i=p\/fz ops.toList i p) i↔i=p\/fz ops.toList i p:=fun _=> .rfl;have hs:dX E ops.toList ev fr f r (fun i=>i=p\/fz ops.toList i p):=⟨fun i o hx ho=>by
   have:=hp.run i o ho (fun h=>hx (.inl (by omega))) (.inl (by
    simp only[Nat.zero_add];cases hb:Nat.testBit (Zk E ops.toList i o).a p with
    |false=>rfl
    |true=>exact absurd (.inr hb) hx))
   simpa only[Nat.zero_add]using this,fun i o ho=>by simpa only[Nat.zero_add]using hp.c i o ho⟩
  have hw0:=CE.I hS (w.drawn+1);have b9:WW C (f 0).a {w with drawn:=w.drawn+1}:=by rw[hf0];exact hw0.c
  have lY:TR C fr.nt (f 0).T a.tmps:=by rw[hf0];exact hT
  have hT00:hJ ops.toList f r fr.nt a (fun _=>False) C a:=⟨hT.1,rfl,fun i o t h=>h.elim,fun t _=>rfl⟩
  obtain⟨C',a',w',k2,x,XM,t,hTT,hde,hv,hnc⟩:=Uj hs he hx Wv WJ WO (by rw[hf0]) hp hX hg b9 lY b k cs (IY WO (P.follows .mixedOrders) (w.tape w.drawn (.order b.fn id))) (NZ hs b9) hT00 (fun i h=>h.elim) (fun h=>h);rw[hf0]at t hTT;refine⟨_,Qp.2 U,C',a',w',cs,?_,hTT,⟨?_,(hF.g t.a).e,(hF.g t.a).c⟩,U,U,.J,k2,x,.head GG XM,hv,hnc⟩
  .simp only[Nat.zero_add];exact hw0.u t
  .have:=(hF.g t.a).d;rw[hde];exact this
 obtain⟨f,r,hf0,qM,hseq⟩:=JQ hda;simp only[Nat.zero_add]at qM hseq;have hs:dX E ops.toList ev fr f r (fun _=>False):=⟨fun i o _ ho=>(hseq i o ho).1,fun i o ho=>(hseq i o ho).2⟩
 have hw0:=CE.I hS (w.drawn+1);have b9:WW C (f 0).a {w with drawn:=w.drawn+1}:=by rw[hf0];exact hw0.c
 have lY:TR C fr.nt (f 0).T a.tmps:=by rw[hf0];exact hT
 have hT00:hJ ops.toList f r fr.nt a (fun _=>False) C a:=⟨hT.1,rfl,fun i o t h=>h.elim,fun t _=>rfl⟩
 obtain⟨D,C',a',w',Zc,XM,hinv,hTT⟩:=SO hs he hx Wv WJ WO (by rw[hf0]) (fun _ h=>h) hg b9 lY b k cs (IY WO (P.follows .mixedOrders) (w.tape w.drawn (.order b.fn id))) (NZ hs b9) hT00 (fun i h=>h.elim);have t:=Rh hs b9 (fun i _ hi _=>Zc i hi) hinv;have hTn:=UH hs hinv.g lY Zc hinv.s hTT;rw[hf0,qM]at t;rw[qM]at hTn;refine⟨_,Qp.2 U,C',a',w',cs,hw0.u t,hTn,⟨?_,(hF.g t.a).e,(hF.g t.a).c⟩,U,U,.J,.head GG XM⟩;have:=(hF.g t.a).d;rw[hTT.b];exact this
def Cx.J (C:Cx):Cx:= {C with G:=fun _ _=>False}
theorem Ns {C:Cx} {a b:AV} {x:Value} (h:iO a b=true) (hv:VR C a x):VR C.J a x:=by
 cases hv with
 |bool b=>exact .bool b
 |int k n=>exact .int k n
 |an hs=>exact .an hs
 |W2=>exact .W2
 |aG hd=>exact VR.aG (C:=C.J) hd
 |Ca a hx=>exact .Ca a hx
 |O hd hc hl=>exact VR.O (C:=C.J) hd hc hl
 |XT hx hd hc=>exact VR.XT (C:=C.J) hx hd hc
 |WZ=>exact .WZ
 |b_ hd=>exact VR.b_ (C:=C.J) hd
 |_=>exfalso;cases b<;>cases h
theorem IZ {C:Cx}:∀ {a b:List AV} {xs:List Value},gq a b=true->Wx C a xs->Wx C.J a xs
 |_,_,_,_,.O=> .O
 |_,[],_,h,.J _ _=>by cases h
 |_,_::_,_,h,.J hv t=>by
  simp only[gq,Qf]at h;exact .J (Ns h.1 hv) (IZ h.2 t)
theorem Nr {C:Cx} {a b:AV} {x:Value} (h:ay a (some b)=true) (hv:VR C a x):VR C.J a x:=by
 unfold ay at h;split at h
 .cases hv with
  |a_ Xr WS=>exact .a_ (IZ h Xr) WS
 .cases hv with
  |J Xr=>exact .J (IZ h Xr)
 .exact Ns h hv
 .cases h
theorem Fm {k:AV}:∀ {l:List XA} {p:XA×List XA},L_ k l=some p->∃a b,l=a++p.1::b/\p.2=a++b/\ay k (some p.1.1)=true
 | [],_,h=>by cases h
 |e::l,p,h=>by
  unfold L_ at h;cases hs:ay k (some e.1)with
  |true=>
   rw[hs]at h;cases h;exact⟨[],l,U,U,hs⟩
  |false=>
   rw[hs]at h;obtain⟨q,hq,h⟩:=Qa.1 h;cases h;obtain⟨a,b,h1,h2,h3⟩:=Fm hq;exact⟨e::a,b,by rw[h1];rfl,by rw[h2];rfl,h3⟩
theorem Ui {k:AV} {l:List XA} {p:XA×List XA} (h:L_ k l=some p):l.Perm (p.1::p.2):=by grind [Fm,List.perm_middle]
theorem Gz {C:Cx} {b:Nat}:∀ {x y:List XA} {l:List MapEntry},WT C b (x++y) l->∃l1 l2,l=l1++l2/\WT C b x l1/\WT C b y l2
 | [],_,l,h=>⟨[],l,rfl,.O,h⟩
 |_::_,_,_,h=>by
  cases h with
  |J hk hv hg hn t=>
   obtain⟨l1,l2,e,h1,h2⟩:=Gz t;exact⟨_::l1,l2,by rw[e];rfl,.J hk hv hg hn h1,h2⟩
theorem F6 {C:Cx} {b:Nat} {y:List XA} {l2:List MapEntry} (h2:WT C b y l2):∀ {x:List XA} {l1:List MapEntry},WT C b x l1->WT C b (x++y) (l1++l2)
 |_,_,.O=>h2
 |_,_,.J hk hv hg hn t=> .J hk hv hg hn (F6 h2 t)
def Yb:List XA->List XA->Nat->Nat
 | [],_,n=>n
 |e::r,l,n=>match L_ e.1 l with
  |some p=>if e.2.2=n then p.1.2.2 else Yb r p.2 n
  |none=>n
theorem FK {s:Nat}:∀ {l:List XA},kR s l=true->∀e∈l,s≠e.2.2
 | [],_,e,he=>by cases he
 |a::l,h,e,he=>by
  simp only[kR,Qf,Bool.not_eq_true']at h;rcases Qk.1 he with rfl|he
  .grind [Nat.beq_refl]
  .exact FK h.2 e he
theorem Gt {n:Nat}:∀ {l:List XA},XZ n l=true->∀e∈l,e.2.2<n
 | [],_,e,he=>by cases he
 |a::l,h,e,he=>by
  simp only[XZ,Qf]at h;rcases Qk.1 he with rfl|he
  .simpa[Nat.blt_eq]using h.1.1
  .exact Gt h.2 e he
theorem Mc {n a b:Nat} (h:jy n a b=true):a=b\/(n<=a/\n<=b):=by simp_all [Bool.or_eq_true,Qf,jy,Qb]
theorem Ee {n0 n1:Nat}:∀ {es l:List XA},Yq n0 es l=true->XZ n1 es=true->∀e∈es,e.2.2=Yb es l e.2.2\/(n0<=e.2.2/\n0<=Yb es l e.2.2)
 | [],_,_,_,e,he=>by cases he
 |a::r,l,h,hs,e,he=>by
  simp only[Yq]at h;split at h
  .next p hp=>
   simp only[Qf]at h;simp only[XZ,Qf]at hs;simp only[Yb,hp];rcases Qk.1 he with rfl|he
   .simp_all [Mc]
   .have:a.2.2≠e.2.2:=FK hs.1.2 e he;rw[if_neg this];exact Ee h.2 hs.2 e he
  .cases h
theorem Gw {C2 C3:Cx} {b m n0 n1:Nat} (jf:∀ {a c:AV} {x:Value},ay a (some c)=true->CD m 40 a=true->VR C2 a x->VR C3 a x):
 ∀ {es l2:List XA} {lr:List MapEntry},Yq n0 es l2=true->XZ n1 es=true->(es.all fun e=>CD m 40 e.1&&CD m 40 e.2.1)=true->WT C2 b l2 lr->
  (∀e∈es,C3.G b e.2.2/\C3.b b e.2.2=C2.b b (Yb es l2 e.2.2))->∃lr',lr'.Perm lr/\WT C3 b es lr'
 | [],[],_,_,_,_,h,_=>by cases h;exact⟨[],.nil,.O⟩
 | [],_::_,_,h,_,_,_,_=>by cases h
 |(k,v,s)::r,l2,lr,h,hs,hu,hR,XM=>by
  simp only[Yq]at h;split at h
  .next p hp=>
   simp only[Qf]at h;simp only[XZ,Qf]at hs;simp only[List.all_cons,Qf]at hu;obtain⟨x,y,h1,h2,h3⟩:=Fm hp;rw[h1]at hR;obtain⟨lx,ly,rfl,hx,hy⟩:=Gz hR;obtain⟨⟨k2,v2,s2⟩,q⟩:=p;cases hy with
   | @J _ _ _ e _ ly' hk hv hg hn hy=>
    have hR':WT C2 b q (lx++ly'):=by
     have:q=x++y:=h2;rw[this];exact F6 hy hx
    obtain⟨lr',hp',hR3⟩:=Gw jf h.2 hs.2 hu.2 hR' (fun e' ZK=>by
     have Yh:s≠e'.2.2:=FK hs.1.2 e' ZK;have:=XM e' (Qg _ ZK);refine⟨this.1,?_⟩;rw[this.2];simp only[Yb,hp];rw[if_neg Yh])
    have aq:=XM (k,v,s) (Qh ..);simp only[Yb,hp,if_true]at aq;have iX:k=k2:=GF h3;have hv':v=v2:=GF h.1.1;refine⟨e::lr',?_,.J (jf h3 hu.1.1 (by rw[iX];exact hk)) (jf h.1.1 hu.1.2 (by rw[hv'];exact hv)) aq.1 (hn.trans aq.2.symm) hR3⟩;exact(hp'.cons e).trans List.perm_middle.symm
  .cases h
theorem EM {n0:Nat}:∀ {es l2:List XA},Yq n0 es l2=true->(es.map (·.1)).Perm (l2.map (·.1))
 | [],[],_=> .nil
 | [],_::_,h=>by cases h
 |e::r,l2,h=>by
  simp only[Yq]at h;split at h
  .next p hp=>
   simp only[Qf]at h;obtain⟨_,_,_,_,h3⟩:=Fm hp;have:=(Ui hp).map (·.1);refine .trans ?_ this.symm;simp only[List.map_cons];rw[GF h3];exact(EM h.2).cons _
  .cases h
theorem Ih {n0:Nat} {C:Cx} {b:Nat} {l2:List XA} {lr:List MapEntry} (hR:WT C b l2 lr) {n1:Nat}:∀ {es:List XA},Yq n0 es l2=true->XZ n1 es=true->∀e∈es,C.G b (Yb es l2 e.2.2):=by
 intro es;induction es generalizing l2 lr with
 |nil=>intro _ _ e he;cases he
 |cons a r ih=>
  intro h hs e he;simp only[Yq]at h;split at h
  .next p hp=>
   simp only[Qf]at h;simp only[XZ,Qf]at hs;obtain⟨x,y,h1,h2,h3⟩:=Fm hp;rw[h1]at hR;obtain⟨lx,ly,rfl,hx,hy⟩:=Gz hR;simp only[Yb,hp];obtain⟨⟨k2,v2,s2⟩,q⟩:=p;cases hy with
   | @J _ _ _ e' _ ly' hk hv hg hn hy=>
    rcases Qk.1 he with rfl|he
    .simp only[if_true];exact hg
    .have:a.2.2≠e.2.2:=FK hs.1.2 e he;rw[if_neg this];refine ih (l2:=q) (lr:=lx++ly') ?_ h.2 hs.2 e he;have:q=x++y:=h2;rw[this];exact F6 hy hx
  .cases h
theorem IQ (s1:St):∀(L:List Nat) (s:St) (b:Nat),(YD s1 L s).b.g b=if b∈L then s1.b.g b else s.b.g b
 | [],s,b=>by simp[YD]
 |c::l,s,b=>by
  simp only[YD];rw[IQ s1 l];by_cases h1:b∈l
  .simp[h1]
  .grind [St.z,Ay]
theorem Ed (s1:St):∀(L:List Nat) (s:St),(YD s1 L s).a=s.a/\(YD s1 L s).c=s.c
 | [],_=>⟨rfl,rfl⟩
 |_::l,_=>by simp only[YD];exact Ed s1 l _
theorem EP {b c:Nat} {l:List Nat} (h:c=b\/c∈l):c∈Yn b l:=h.elim (fun e=>e▸(FP b l).1) ((FP b l).2 c)
theorem Gr (s1:St):∀(L:List Nat) (s:St),(∀b∈s.d,b∈(YD s1 L s).d)/\∀b∈L,b<s.c->b∈(YD s1 L s).d
 | [],_=>⟨fun _ h=>h,fun _ h=>(by cases h)⟩
 |c::l,s=>by
  simp only[YD];obtain⟨h1,h2⟩:=Gr s1 l (s.z c (s1.b.g c));refine⟨fun b hb=>h1 b ?_,fun b hb C5=>?_⟩
  .grind [St.z,EP]
  .grind [St.z,Nat.blt_eq,EP]
theorem JA {α:Type} {f:α->Nat}:∀ {l:List α},(l.map f).Nodup->∀a∈l,∀b∈l,f a=f b->a=b
 | [],_,a,ha,_,_,_=>by cases ha
 |c::l,h,a,ha,b,hb,e=>by
  simp only[List.map_cons,List.nodup_cons]at h;rcases Qk.1 ha with h1|h1
  .grind
  .rcases Qk.1 hb with h2|h2
   .grind
   .exact JA h.2 a h1 b h2 e
theorem HR {C:Cx} {b:Nat}:∀ {es:List XA} {l:List MapEntry},WT C b es l->l.map (·.born)=es.map fun e=>C.b b e.2.2
 |_,_,.O=>rfl
 |_,_,.J _ _ _ hn t=>by simp only[List.map_cons];rw[hn,HR t]
theorem RH {C C2:Cx} {S s1 s2:St} {w w2:World} (hS:WW C S w) (t:CE C S.I w C2 s2 w2) {L:List Nat} (hL:∀b∈s2.d,b∈L) (C5:∀b∈L,b<S.a)
 (hs:∀b∈L,cp S.a (S.b.g b) (s1.b.g b) (s2.b.g b)=true):
 ∃C3,CE C S w C3 (YD s1 L S) w2/\(∀ {v a:AV} {x:Value},ay v (some a)=true->CD S.a 40 v=true->VR C2 v x->VR C3 v x)/\∀ {v:AV} {x:Value},Cr 40 v=true->VR C2 v x->VR C3 v x:=by
 classical
 let XC:Nat->List XA:=fun b=>match s1.b.g b with|some (.Y es _)=>es|_=>[]
 let XW:Nat->List XA:=fun b=>match s2.b.g b with|some (.Y es _)=>es|_=>[]
 let C3:Cx:= {C with M:=C2.M,G:=fun b n=>C.G b n\/(b∈L/\∃e∈XC b,e.2.2=n),b:=fun b n=>if C.G b n then C.b b n else C2.b b (Yb (XC b) (XW b) n),X:=C2.X}
 have e3:m_ C C3:=⟨fun _ h=>h,fun _ _=>rfl,t.a.M,fun _ _ h=> .inl h,fun b n h=>by show(if C.G b n then _ else _)=_;rw[if_pos h],t.a.X⟩
 have hD:∀b,b<S.a->C2.D b->C.D b/\C2.a b=C.a b:=fun b hb hd=>by
  rcases t.m b hd with h|h
  .exact⟨h,t.a.a b h⟩
  .have:S.a<=b:=h;omega
 have jf:∀ {v a:AV} {x:Value},ay v (some a)=true->CD S.a 40 v=true->VR C2 v x->VR C3 v x:=by
  intro v a x h hu hv;have h1:VR (C.I C2.J) v x:=FF (C:=C) (C':=C2.J) (m:=S.a) (fun b hb hd=>hD b hb hd) (fun b n _ hg=>hg.elim) 40 hu (Nr h hv);have e5:m_ (C.I C2.J) C3:=⟨fun _ h=>h,fun _ _=>rfl,fun _ _ h=>h,fun b n h=>e3.G b n h,fun b n h=>e3.c b n h,fun _ h=>h⟩
  exact h1.g e5
 have e4:m_ C2.g C3:=⟨fun _ x=>x.elim,fun _ x=>x.elim,fun _ _ h=>h,fun _ _ x=>x.elim,fun _ _ x=>x.elim,fun _ h=>h⟩
 have hclo:∀ {v:AV} {x:Value},Cr 40 v=true->VR C2 v x->VR C3 v x:=fun h hv=>(DX 40 hv h).g e4;refine⟨C3,?_,jf,hclo⟩;have dr:∀b∈L,aZ S (YD s1 L S).d b:=fun b hb=>by
  rcases Nat.lt_or_ge b S.c with h|h
  .exact .inl ((Gr s1 L S).2 b hb h)
  .exact .inr h
 have hmw:∀b o,S.b.g b=some o->aZ S.I s2.d b->b∈L:=fun b o hb hm=>by
  rcases hm with h|h
  .exact hL b h
  .have h1:=hS.d b (hS.a b o hb).1;have:S.a<=b:=h;omega
 have ZP:=IQ s1 L S;have hold:∀b o,(YD s1 L S).b.g b=some o->∃o0,S.b.g b=some o0:=by
  intro b o hb;rw[ZP]at hb;split at hb
  .next kg=>
   have:=hs b kg;cases ho:S.b.g b with
   |none=>rw[ho]at this;simp[cp]at this
   |some o0=>exact⟨o0,rfl⟩
  .exact⟨o,hb⟩
 have hobj:∀b∈L,∀o,s1.b.g b=some o->∃x,w2.heap[(C.a b).b]?=some x/\OR C3 b o x/\C2.M (C.a b).b=none:=by
  intro b kg o ho;have bU:=hs b kg;have hb:=C5 b kg;rw[ho]at bU;cases ho0:S.b.g b with
  |none=>rw[ho0]at bU;simp[cp]at bU
  |some o0=>
  cases rL:s2.b.g b with
  |none=>rw[rL]at bU;unfold cp at bU;split at bU<;>simp_all
  |some o2=>
  rw[ho0,rL]at bU;obtain⟨nd,x,hx,hr⟩:=t.c.a b o2 rL;obtain⟨hdC,Y1⟩:=hD b hb nd;have hap:=t.c.g b o2 rL;rw[Y1]at hx hap;refine⟨x,hx,?_,hap⟩;unfold cp at bU;split at bU
  .next n0 es n mM n' e0 e1 e2=>
   cases e0;cases e1;cases e2;simp only[Qf]at bU;obtain⟨⟨⟨h1,h2⟩,h3⟩,h4⟩:=bU;have hn:=Qb h1;subst hn;obtain⟨_,x0,_,mQ⟩:=hS.a b _ ho0;have hst1:XC b=es:=by grind
   have jH:XW b=mM:=by grind
   cases mQ with
   | @Y _ _ arr0 l0 _ _ _ _ _ bD _=>
   cases hr with
   | @Y _ _ arr l hp h hk hn hc hg hi=>
    have hσ:∀e∈es,C3.b b e.2.2=C2.b b (Yb es mM e.2.2):=by
     intro e he;show(if C.G b e.2.2 then C.b b e.2.2 else C2.b b (Yb (XC b) (XW b) e.2.2))=_;rw[hst1,jH];split
     .next hG=>
      have qQ:=bD _ hG;rcases Ee h2 h3 e he with h5|h5
      .rw[<-h5,t.a.c b _ hG]
      .omega
     .rfl
    obtain⟨lr',hp',hR3⟩:=Gw (C2:=C2) (C3:=C3) (b:=b) (m:=S.a) jf h2 h3 h4 h fun e he=>⟨.inr ⟨kg,e,by rw[hst1];exact he,rfl⟩,hσ e he⟩;have hkp:=EM h2;have wo:(lr'.map (·.born)).Nodup:=(hp'.map (·.born)).nodup_iff.2 hn;have ft:∀n,C3.G b n->(C.G b n/\C3.b b n=C2.b b n/\C2.G b n)\/(¬C.G b n/\∃e∈es,e.2.2=n/\C3.b b n=C2.b b (Yb es mM n)/\C2.G b (Yb es mM n)):=by
     intro n hG;by_cases hCG:C.G b n
     .exact .inl ⟨hCG,by rw[e3.c b n hCG,t.a.c b n hCG],t.a.G b n hCG⟩
     .rcases hG with hG|⟨_,e,he,jX⟩
      .exact absurd hG hCG
      .rw[hst1]at he;refine .inr ⟨hCG,e,he,jX,?_,?_⟩
       .rw[<-jX];exact hσ e he
       .rw[<-jX];exact Ih h h2 h3 e he
    refine .Y (hp'.trans hp) hR3 ⟨fun e he=>?_,hkp.nodup_iff.2 hk.2⟩ wo ?_ ?_ ?_
    .have:e.1∈mM.map (·.1):=hkp.subset (List.mem_map.2 ⟨e,he,rfl⟩);obtain⟨e',ZK,hee⟩:=List.mem_map.1 this;rw[<-hee];exact hk.1 e' ZK
    .grind
    .intro n hG;rcases ft n hG with⟨_,h5,h6⟩|⟨_,e,he,jX,h5,h6⟩
     .exact hg n h6
     .rw[<-jX];exact Gt h3 e he
    .intro n m hGn hGm heq;rcases ft n hGn with⟨sk,hn3,hn4⟩|⟨sk,e,he,jX,hn3,hn4⟩
     .rcases ft m hGm with⟨mT,tK,hm4⟩|⟨mT,e',ZK,hem,tK,hm4⟩
      .grind
      .have h7:=hi n _ hn4 hm4 (by rw[<-hn3,<-tK];exact heq);rcases Ee h2 h3 e' ZK with h8|h8
       .rw[hem]at h8;rw[h7,<-h8]
       .rw[hem,<-h7]at h8;have:=bD n sk;omega
     .rcases ft m hGm with⟨mT,tK,hm4⟩|⟨mT,e',ZK,hem,tK,hm4⟩
      .have h7:=hi _ m hn4 hm4 (by rw[<-hn3,<-tK];exact heq);rcases Ee h2 h3 e he with h8|h8
       .rw[jX]at h8;rw[<-h7,<-h8]
       .rw[jX,h7]at h8;have:=bD m mT;omega
      .have:=JA (f:=fun e:XA=>C3.b b e.2.2) (by rw[<-HR hR3];exact wo) e he e' ZK (by show C3.b b e.2.2=C3.b b e'.2.2;rw[jX,hem];exact heq);rw[<-jX,<-hem,this]
  .next t0 p0 a t1 p1 b' t2 p2 e0 e1 e2=>
   cases e0;cases e1;cases e2;simp only[Qf]at bU;obtain⟨⟨⟨h1,h2⟩,h3⟩,h4⟩:=bU;have ha:=I4 h1;subst ha;have hpp:p1=p2:=by grind
   subst hpp;have htt:=Qb h2;subst htt;cases hr with
   | @J _ _ _ c fr vs hv ha X2 WS hf hp=>
    have Xr:Wx C3 a vs:=by
     have key:∀ {l:List AV} {xs:List Value},gq l l=true->l.all (CD S.a 40)=true->Wx C2 l xs->Wx C3 l xs:=by
      intro l;induction l with
      |nil=>intro xs _ _ h;cases h;exact .O
      |cons u l ih=>
       intro xs h5 h6 h7;simp only[gq,Qf]at h5;simp only[List.all_cons,Qf]at h6;cases h7 with
       |J hv t'=>
        refine .J (jf (a:=u) ?_ h6.1 hv) (ih h5.2 h6.2 t');unfold ay;split
        .next e=>simp[iO]at h5
        .next e=>simp[iO]at h5
        .next e=>cases e;exact h5.1
        .next e=>cases e
     exact key h1 h4 hv
    exact .J Xr (by show YT _ (C.a b).a _;rw[<-Y1];exact ha) (by show _=(C.a b).c;rw[<-Y1];exact X2) WS hf (fun hp'=>by show(C.a b).a=0/\_;rw[<-Y1];exact hp hp')
  .cases bU
 have helse:∀b,b∉L->∀o,S.b.g b=some o->w2.heap[(C.a b).b]?=w.heap[(C.a b).b]?:=by
  intro b kg o hb;obtain⟨_,x,hx,_⟩:=hS.a b o hb;refine t.z _ (B1 hx) fun b0 o0 h0 hm zH=>?_;have:=hS.inj b0 b o0 o h0 hb zH;subst this;exact kg (hmw _ _ h0 hm)
 refine⟨e3,⟨?_,?_,?_,t.c.l,?_,?_,t.c.i,fun b hd=>t.a.X _ (hS.j b hd),t.c.m⟩,(Ed s1 L S).2,(Gr s1 L S).1,by rw[(Ed s1 L S).1];exact Qj _,t.d,?_,?_,fun _ h=> .inl h,?_,?_,t.k⟩
 .intro b o hb;obtain⟨o0,h0⟩:=hold b o hb;obtain⟨hdC,x0,vZ,mQ⟩:=hS.a b o0 h0;rw[ZP]at hb;refine⟨hdC,?_⟩;split at hb
  .grind
  .next kg=>
   rw[h0]at hb;cases hb;exact⟨x0,by rw[<-vZ];exact helse b kg _ h0,mQ.g e3 hdC fun n hn=>hn.elim id fun h=>absurd h.1 kg⟩
 .intro b b' o o' hb ZJ he;obtain⟨o0,h0⟩:=hold b o hb;obtain⟨o1,h1⟩:=hold b' o' ZJ;exact hS.inj b b' o0 o1 h0 h1 he
 .intro b hb;rw[(Ed s1 L S).1];exact hS.d b hb
 .intro b o hb;obtain⟨o0,h0⟩:=hold b o hb;rw[ZP]at hb;split at hb
  .grind
  .next kg=>
   obtain⟨hdC,x,hx,_⟩:=hS.a b o0 h0;show C2.M (C.a b).b=none;cases hm:C2.M (C.a b).b with
   |none=>rfl
   |some ms=>
    exfalso;rcases t.l _ _ hm with h1|h1|⟨b0,o1,h2,h3,h4⟩
    .rw[hS.g b o0 h0]at h1;cases h1
    .have:=B1 hx;omega
    .have:=hS.inj b0 b o1 o0 h2 h0 h4;subst this;exact kg (hmw _ _ h2 h3)
 .intro b n hG;rcases hG with h|⟨kg,_⟩
  .exact hS.f b n h
  .have:=hs b kg;cases ho:S.b.g b with
   |none=>rw[ho]at this;simp[cp]at this
   |some o0=>exact(hS.a b o0 ho).1
 .intro Cv hb hm;exact t.z Cv hb fun b o ho xw=>hm b o ho (dr b (hmw b o ho xw))
 .grind
 .intro b o hb;obtain⟨o0,h0⟩:=hold b o hb;exact .inl ⟨(hS.a b o0 h0).1,o0,h0⟩
 .intro Cv ms hm;rcases t.l Cv ms hm with h1|h1|⟨b0,o0,h0,h2,h3⟩
  .exact .inl h1
  .exact .inr (.inl h1)
  .exact .inr (.inr ⟨b0,o0,h0,dr b0 (hmw b0 o0 h0 h2),h3⟩)
theorem HY:∀(a l:List Nat),(∀b∈a,b∈ZZ.jz a l)/\∀b∈l,b∈ZZ.jz a l
 | [],_=>⟨fun _ h=>(by cases h),fun _ h=>h⟩
 |c::a,l=>by
  simp only[ZZ.jz];obtain⟨h1,h2⟩:=HY a (Yn c l);refine⟨fun b hb=>?_,fun b hb=>h2 b (EP (.inr hb))⟩;rcases Qk.1 hb with rfl|hb
  .exact h2 b (EP (.inl U))
  .exact h1 b hb
theorem Lf:∀(os:List (AV×St)) (l:List Nat),(∀o∈os,∀b∈o.2.d,b∈ZZ os l)/\∀b∈l,b∈ZZ os l
 | [],_=>⟨fun _ h=>(by cases h),fun _ h=>h⟩
 |q::os,l=>by
  simp only[ZZ];obtain⟨h1,h2⟩:=Lf os (ZZ.jz q.2.d l);refine⟨fun o ho b hb=>?_,fun b hb=>h2 b ((HY q.2.d l).2 b hb)⟩;rcases Qk.1 ho with rfl|ho
  .exact h2 b ((HY _ l).1 b hb)
  .exact h1 o ho b hb
theorem Li {s0 a b:St}:∀ {L:List Nat},lN s0 a b L=true->∀n∈L,n<s0.a/\cp s0.a (s0.b.g n) (a.b.g n) (b.b.g n)=true
 | [],_,n,hn=>by cases hn
 |c::l,h,n,hn=>by
  simp only[lN,Qf]at h;rcases Qk.1 hn with rfl|hn
  .grind [Nat.blt_eq]
  .exact Li h.2 n hn
theorem J4 {m:Nat} {s0:St} {o:AV×St} {L:List Nat}:∀ {os:List (AV×St)},fM m s0 o L os=true->∀q∈os,
 ((ay o.1 (some q.1)=true/\CD m 40 o.1=true)\/(ab o.1 q.1=true/\Cr 40 o.1=true))/\lN s0 o.2 q.2 L=true
 | [],_,q,hq=>by cases hq
 |c::l,h,q,hq=>by
  simp only[fM,Qf,Bool.or_eq_true]at h;rcases Qk.1 hq with rfl|hq
  .exact h.1
  .exact J4 h.2 q hq
theorem M4 {n:Nat} {o:AV×St} {p:List XA×Nat} (h:de n o=some p):∃b,o.1= .bW b/\o.2.d=[]/\n<=b/\o.2.b.g b=some (.Y p.1 p.2):=by
 unfold de at h;split at h
 .next b h1 h2=>
  cases hb:Nat.ble n b with
  |false=>rw[hb]at h;cases h
  |true=>
   rw[hb]at h;simp only[cond_true]at h;split at h
   .next es c h3=>cases h;exact⟨b,h1,h2,Qc hb,h3⟩
   .cases h
 .cases h
theorem Fv {n:Nat} {es:List XA} {c:Nat}:∀ {l:List (AV×St)},dg n es c l=true->∀q∈l,∃mM,de n q=some (mM,c)/\Yq 0 es mM=true/\eZ 0 (some (.Y mM c))=true
 |a::l,h,q,hq=>by
  simp only[dg,Qf]at h;rcases Qk.1 hq with rfl|hq
  .cases hf:de n q with
   |none=>rw[hf]at h;cases h.1
   |some p=>
    rw[hf]at h;obtain⟨mM,c'⟩:=p;simp only[tg,Qf]at h;have:=Qb h.1.1.1;subst this;exact⟨mM,U,h.1.1.2,h.1.2⟩
  .exact Fv h.2 q hq
def Cx.S (C:Cx) (b:Nat):Cx:=⟨C.a,C.M,fun _=>False,fun _ n=>C.b b n,fun _ n=>C.G b n,C.X⟩
theorem PV {C:Cx} {b c:Nat} {es:List XA} {l:List MapEntry} (h:WT C b es l) (hu:(es.all fun e=>CD 0 40 e.1&&CD 0 40 e.2.1)=true):WT (C.S b) c es l:=by
 induction h with
 |O=>exact .O
 |J hk hv hg hn _ ih=>
  simp only[List.all_cons,Qf]at hu;have key:∀ {v:AV} {x:Value},CD 0 40 v=true->VR C v x->VR (C.S b) v x:=fun h hv=>
   FF (C:=C.S b) (C':=C) (m:=0) (fun b hb _=>absurd hb (Nat.not_lt_zero b)) (fun b n hb _=>absurd hb (Nat.not_lt_zero b)) 40 h hv
  exact .J (key hu.1.1 hk) (key hu.1.2 hv) hg hn (ih hu.2)
theorem xx {C C2:Cx} {S s2:St} {w w2:World} (hS:WW C S w) (t:CE C S.I w C2 s2 w2) (CU:s2.d=[]) {b2 clock:Nat} {es es2:List XA} (dD:S.a<=b2) (iu:s2.b.g b2=some (.Y es2 clock))
 (hp:Yq 0 es es2=true) (vW:eZ 0 (some (.Y es2 clock))=true) (hu:eZ 0 (some (.Y es clock))=true) (XM:XZ clock es=true) {x:Value} (hv:VR C2 (.bW b2) x):
 ∃C4,CE C S w C4 (S.g (.Y es clock)) w2/\VR C4 (.bW S.a) x:=by
 cases hv with
 |b_ nd=>
 obtain⟨arr,l,hm⟩:=t.c.z iu;have Zw:¬C.D S.a:=fun hd=>Nat.lt_irrefl _ (hS.d _ hd);have mP:∀n,¬C.G S.a n:=fun n hg=>Zw (hS.f _ _ hg);have Xo:∀b o,S.b.g b=some o->¬aZ S.I s2.d b:=by
  intro b o hb xw;have C5:=hS.d b (hS.a b o hb).1;rcases xw with h|h
  .rw[CU]at h;cases h
  .have:S.a<=b:=h;omega
 have hk:w.heap.size<=(C2.a b2).b:=by
  rcases t.own b2 _ iu with⟨hd,_⟩|h|⟨b0,o0,h0,xw,_⟩
  .have:=hS.d b2 hd;omega
  .exact h
  .exact absurd xw (Xo b0 o0 h0)
 let C4:Cx:=⟨fun j=>if j=S.a then⟨(C2.a b2).b,0,0⟩else C.a j,C2.M,fun j=>C.D j\/j=S.a,fun j n=>if j=S.a then C2.b b2 (Yb es es2 n)else C.b j n,
  fun j n=>C.G j n\/(j=S.a/\∃e∈es,e.2.2=n),C2.X⟩
 have Yh:∀b,C.D b->b≠S.a:=fun b hb e=>Zw (e▸hb);have e4:m_ C C4:=⟨fun _ h=> .inl h,fun b hb=>if_neg (Yh b hb),t.a.M,fun _ _ h=> .inl h,fun b n hg=>if_neg (Yh b (hS.f b n hg)),t.a.X⟩
 have Y1:C4.a S.a=⟨(C2.a b2).b,0,0⟩:=if_pos rfl;have hghn:∀n,C4.b S.a n=C2.b b2 (Yb es es2 n):=fun n=>if_pos rfl;have jn:=PV (c:=S.a) hm.i (by simpa[eZ]using vW);have hobj:OR C4 S.a (.Y es clock) (.map arr clock):=by
  have enoG:m_ (C2.S b2).J C4:=⟨fun _ h=>False.elim h,fun _ h=>False.elim h,fun _ _ h=>h,fun _ _ h=>False.elim h,fun _ _ h=>False.elim h,fun _ h=>h⟩
  obtain⟨lr',hp',hR3⟩:=Gw (C2:=C2.S b2) (C3:=C4) (b:=S.a) (m:=0) (n0:=0) (n1:=clock) (fun h _ hv=>(Nr h hv).g enoG)
   hp XM (by simpa[eZ]using hu) jn (fun e he=>⟨.inr ⟨rfl,e,he,rfl⟩,hghn _⟩)
  have hkp:=EM hp;have wo:(lr'.map (·.born)).Nodup:=(hp'.map (·.born)).nodup_iff.2 hm.c;have XU:∀e∈es,C2.G b2 (Yb es es2 e.2.2):=fun e he=>Ih jn hp XM e he;have ft:∀n,C4.G S.a n->∃e∈es,e.2.2=n:=fun n hg=>hg.elim (fun h=>absurd h (mP n)) (fun h=>h.2);refine .Y (hp'.trans hm.a) hR3 ⟨fun e he=>?_,hkp.nodup_iff.2 hm.e.2⟩ wo ?_ ?_ ?_
  .have:e.1∈es2.map (·.1):=hkp.subset (List.mem_map.2 ⟨e,he,rfl⟩);obtain⟨e',ZK,hee⟩:=List.mem_map.1 this;rw[<-hee];exact hm.e.1 e' ZK
  .intro n hG;obtain⟨e,he,rfl⟩:=ft n hG;rw[hghn];exact hm.j _ (XU e he)
  .intro n hG;obtain⟨e,he,rfl⟩:=ft n hG;exact Gt XM e he
  .intro n m hGn hGm heq;obtain⟨e,he,rfl⟩:=ft n hGn;obtain⟨e',ZK,rfl⟩:=ft m hGm;have:=JA (f:=fun e:XA=>C4.b S.a e.2.2) (by rw[<-HR hR3];exact wo) e he e' ZK heq;rw[this]
 have dq:=fun k=>Kb S k (.Y es clock);have hold:∀b o,S.b.g b=some o->w2.heap[(C.a b).b]?=w.heap[(C.a b).b]?:=fun b o hb=>
  t.z _ (hS.B hb) fun b0 o0 h0 xw _=>Xo b0 o0 h0 xw
 refine⟨C4,⟨e4,⟨?_,?_,?_,t.c.l,?_,?_,t.c.i,?_,t.c.m⟩,rfl,fun _ h=>h,Nat.le_succ _,t.d,?_,?_,?_,?_,?_,t.k⟩,?_⟩
 .intro b o hb;rw[dq]at hb;split at hb
  .next e=>subst e;cases hb;exact⟨.inr rfl,_,by rw[Y1];exact hm.f,hobj⟩
  .next eN=>
   obtain⟨hd,y,hy,hr⟩:=hS.a b o hb;refine⟨.inl hd,y,?_,hr.g e4 hd (fun n hn=>hn.elim id fun h=>absurd h.1 eN)⟩;rw[e4.a b hd,hold b o hb];exact hy
 .intro b b' o o' hb ZJ he;rw[dq]at hb ZJ;split at hb
  .next h1=>
   split at ZJ
   .next h2=>rw[h1,h2]
   .next h2=>
    exfalso;subst h1;rw[Y1,e4.a b' (hS.a b' o' ZJ).1]at he;have:=hS.B ZJ;simp only at he;omega
  .next h1=>
   split at ZJ
   .next h2=>
    exfalso;subst h2;rw[Y1,e4.a b (hS.a b o hb).1]at he;have:=hS.B hb;simp only at he;omega
   .next h2=>
    rw[e4.a b (hS.a b o hb).1,e4.a b' (hS.a b' o' ZJ).1]at he;exact hS.inj b b' o o' hb ZJ he
 .rintro b (hd|rfl)
  .exact Nat.lt_succ_of_lt (hS.d b hd)
  .exact Nat.lt_succ_self _
 .intro b o hb;rw[dq]at hb;split at hb
  .next e=>subst e;rw[Y1];exact t.c.g b2 _ iu
  .next eN=>
   obtain⟨hd,y,hy,_⟩:=hS.a b o hb;rw[e4.a b hd];show C2.M (C.a b).b=none;cases zA:C2.M (C.a b).b with
   |none=>rfl
   |some ms=>
    exfalso;rcases t.l _ _ zA with h1|h1|⟨b0,o1,h2,h3,h4⟩
    .rw[hS.g b o hb]at h1;cases h1
    .have:=B1 hy;omega
    .exact Xo b0 o1 h2 h3
 .rintro b n (hg|⟨rfl,_⟩)
  .exact .inl (hS.f b n hg)
  .exact .inr U
 .rintro b (hd|rfl)
  .rw[e4.a b hd];exact t.a.X _ (hS.j b hd)
  .rw[Y1];exact t.c.j b2 nd
 .intro Cv hb _;exact t.z Cv hb fun b o ho xw=>absurd xw (Xo b o ho)
 .grind
 .grind
 .intro b o hb;rw[dq]at hb;split at hb
  .grind
  .next eN=>exact .inl ⟨(hS.a b o hb).1,o,hb⟩
 .intro Cv ms zA;rcases t.l Cv ms zA with h1|h1|⟨b0,o0,h0,h2,h3⟩
  .exact .inl h1
  .exact .inr (.inl h1)
  .exact absurd h2 (Xo b0 o0 h0)
 .have:=VR.b_ (C:=C4) (b:=S.a) (.inr rfl);rw[Y1]at this;exact this
section
variable {E : c_} {P : Program}
theorem Ij {ev:Ev} {f:FuncId} {fn:Func} {S:St}:∀ {l:List cP} {os:List (AV×St)},iR E ev f fn S l=some os->∀r∈l,∃q∈os,G_ S.I (ZM E ev f fn S.I r)=some q
 | [],_,_,r,hr=>by cases hr
 |a::l,os,h,r,hr=>by
  simp only[iR]at h;obtain⟨o,ho,h⟩:=Qa.1 h;obtain⟨os',hos,h⟩:=Qa.1 h;cases h;rcases Qk.1 hr with rfl|hr
  .grind
  .obtain⟨q,hq,h⟩:=Ij hos r hr;exact⟨q,Qg _ hq,h⟩
theorem I7 (ev:Ev):lb E P ev:=by
 intro f fn S r0 l cr h C w hS r hr m c cs ZR;unfold pC at h;obtain⟨o,ho,h⟩:=Qa.1 h;obtain⟨os,hos,h⟩:=Qa.1 h;have hq:∃q∈o::os,G_ S.I (ZM E ev f fn S.I r)=some q:=by grind [ZM,Ij]
 obtain⟨q,hq,dW⟩:=hq;have mR:∃C2 x w2,Steps P m (lone (c.finish x) cs w2)/\CE C S.I w C2 q.2 w2/\VR C2 q.1 x:=by
  cases he:ZM E ev f fn S.I r with
  |none=>rw[he]at dW;cases dW
  |some cr'=>
   have hx:=ZR cr' he;rw[he]at dW;cases cr' with
   |J v=>cases dW;exact hx
   |O v s=>cases dW;exact hx
   |Y v s=>cases dW
 obtain⟨C2,x,w2,XM,t,hv⟩:=mR;have hsplit:kS S o os (ZZ (o::os) [])=some cr\/fN S o os=some cr:=by
  unfold X' at h;split at h
  .next c hc=>exact .inl (hc.trans h)
  .exact .inr h
 rcases hsplit with h|h
 case inr=>
  unfold fN at h;obtain⟨p,hp,h⟩:=Qa.1 h;cases hl:(dg S.a p.1 p.2 (o::os)&&XZ p.2 p.1)with
  |false=>rw[hl]at h;cases h
  |true=>
  rw[hl]at h;cases h;rw[Qf]at hl;obtain⟨mM,hf,hpe,vW⟩:=Fv hl.1 q hq;obtain⟨b2,h1,h2,h3,h4⟩:=M4 hf;obtain⟨es1,hf1,_,hu1⟩:=Fv hl.1 o (Qh ..);obtain⟨es,clock⟩:=p;rw[hp]at hf1;cases hf1;rw[h1]at hv;obtain⟨C4,t4,hv4⟩:=xx hS t h2 h3 h4 hpe vW hu1 hl.2 hv;exact⟨C4,x,w2,XM,t4,hv4⟩
 unfold kS at h;cases hl:fM S.a S o (ZZ (o::os) []) (o::os)with
 |false=>rw[hl]at h;cases h
 |true=>
 rw[hl]at h;cases h;obtain⟨jf,Y0⟩:=J4 hl q hq;have hat':=Li Y0;obtain⟨C3,t3,h1,h2⟩:=RH (s1:=o.2) hS t (L:=ZZ (o::os) []) ((Lf (o::os) []).1 q hq) (fun b hb=>(hat' b hb).1) (fun b hb=>(hat' b hb).2);refine⟨C3,x,w2,XM,t3,?_⟩;rcases jf with⟨h3,h4⟩|⟨h3,h4⟩
 .grind [GF]
 .grind [HP]
end
open Go Go.RowKit
structure W8 where
 f:Nat
 args:List AV
 v:AV
def jJ:List W8->FuncId->List AV->Option AV
 | [],_,_=>none
 |e::l,f,args=>bif Nat.beq e.f f then(bif fc e.args args then some e.v else jJ l f args)else jJ l f args
def S0:St:= {a:=0,c:=0,d:=[],b:= .J}
theorem xy (C:Cx) {S:St} {w:World} (h:WW C S w):WW C.g S0 w:=
 ⟨fun b o hb=>(by rw[show S0.b= .J from rfl,AS]at hb;cases hb),fun b b' o o' hb=>(by rw[show S0.b= .J from rfl,AS]at hb;cases hb),fun b hb=>hb.elim,h.l,
  fun b o hb=>(by rw[show S0.b= .J from rfl,AS]at hb;cases hb),fun b n hb=>hb.elim,h.i,fun b hb=>hb.elim,h.m⟩
theorem M5 {C C1:Cx} {S:St} {w w':World} (hS:WW C S w) (t:CE C.g S0 w C1 S0 w'):CE C S w (C.I C1) S w':=by
 have Xo:∀b o,¬S0.b.g b=some o:=fun b o hb=>by rw[show S0.b= .J from rfl,AS]at hb;cases hb
 have vC:∀Cv,Cv<w.heap.size->w'.heap[Cv]?=w.heap[Cv]?:=fun Cv hb=>t.z Cv hb fun b o hb=>absurd hb (Xo b o);have hM:∀Cv ms,C1.M Cv=some ms->C.M Cv=some ms\/w.heap.size<=Cv:=by
  intro Cv ms hm;rcases t.l Cv ms hm with h1|h1|⟨b0,o0,h0,_⟩
  .exact .inl h1
  .exact .inr h1
  .exact absurd h0 (Xo b0 o0)
 have e:m_ C (C.I C1):=⟨fun _ h=>h,fun _ _=>rfl,t.a.M,fun _ _ h=>h,fun _ _ _=>rfl,t.a.X⟩
 refine⟨e,⟨?_,hS.inj,hS.d,t.c.l,?_,hS.f,t.c.i,fun b hd=>t.a.X _ (hS.j b hd),t.c.m⟩,rfl,fun _ h=>h,Qj _,t.d,fun Cv hb _=>vC Cv hb,fun _ _ _=>⟨rfl,fun _ h=>h⟩,fun _ h=> .inl h,
  fun b o hb=> .inl ⟨(hS.a b o hb).1,o,hb⟩,fun Cv ms hm=>(hM Cv ms hm).imp id .inl,t.k⟩
 .intro b o hb;obtain⟨hd,x,hx,hr⟩:=hS.a b o hb;exact⟨hd,x,by rw[<-hx];exact vC _ (B1 hx),hr.g e hd fun _ h=>h⟩
 .intro b o hb;cases hm:(C.I C1).M (C.a b).b with
  |none=>exact hm
  |some ms=>
   exfalso;rcases hM _ ms hm with h1|h1
   .rw[hS.g b o hb]at h1;cases h1
   .have:=hS.B hb;omega
section
variable {E : c_} {P : Program}
def MOk (E:c_) (P:Program) (e:W8):Prop:=
 ∀(C:Cx) (S:St) (w:World) (xs:Array Value) (c:Frame) (cs:List Frame),WN E C->Wx C e.args xs.toList->WW C S w->o_ P (lone (Frame.enter P e.f xs .normal) (c::cs) w) c cs C S w (.J e.v)
theorem U5 {l:List W8} (h:∀e∈l,MOk E P e):∀(f:FuncId) (args:List AV) (v:AV),jJ l f args=some v->∀(C:Cx) (S:St) (w:World) (xs:Array Value) (c:Frame) (cs:List Frame),WN E C->Wx C args xs.toList->WW C S w->
 o_ P (lone (Frame.enter P f xs .normal) (c::cs) w) c cs C S w (.J v):=by
 induction l with
 |nil=>intro f args v h;cases h
 |cons e l ih=>
  intro f args v hm;simp only[jJ]at hm;cases hf:Nat.beq e.f f with
  |false=>rw[hf]at hm;exact ih (fun x hx=>h x (Qg _ hx)) f args v hm
  |true=>
   rw[hf]at hm;have:=Qb hf;subst this;simp only[cond_true]at hm;cases ha:fc e.args args with
   |false=>rw[ha]at hm;exact ih (fun x hx=>h x (Qg _ hx)) _ args v hm
   |true=>
    rw[ha]at hm;cases hm;rw[<-FU ha];exact h e (Qh ..)
noncomputable def YN (E:c_) (n:Nat) (e:W8):Bool:=
 match WM E (ev E n) e.f e.args S0 with
 |some (.J v)=>ab v e.v&&Cr 40 v&&e.args.all (Cr 40)
 |_=>false
theorem ent_ok (he:Wd E P) (hx:ZW E P) (hm:fu E P) (tJ:∀g cs,E.i g=some cs->cs.all (Cr 40)=true) {n:Nat} {e:W8} (h:YN E n e=true):MOk E P e:=by
 intro C S w xs c cs hg hv hS;unfold YN at h;split at h
 .next v hc=>
  simp only[Qf]at h;have Wv:=Qs he hx (MG he hx) hm (fun _ ev _=>I7 ev) n;have sr:WN E C.g:=by
   intro g Yg xz;obtain⟨ms,h1,h2,h3⟩:=hg g Yg xz;exact⟨ms,h1,Bs 40 h2 (tJ g Yg xz),h3⟩
  have:=Wv e.f e.args (.J v) C.g S0 w xs c cs hc sr (Bs 40 hv h.2) (xy C hS);obtain⟨C1,x,w',hs,t,aJ⟩:=this;rw[<-HP h.1.1];have eb:m_ C1.g (C.I C1):=⟨fun _ x=>x.elim,fun _ x=>x.elim,fun _ _ h=>h,fun _ _ x=>x.elim,fun _ _ x=>x.elim,fun _ h=>h⟩
  exact⟨_,x,w',hs,M5 hS t,(DX 40 aJ h.1.2).g eb⟩
 .cases h
theorem L8 (he:Wd E P) {ev:Ev} (gJ:lX E P ev) {f:FuncId} {fn:Func} (hp:P.funcs[f]?=some fn) {S:St} {r:cP} {v:AV} (h:ZM E ev f fn S r=some (.J v)) {C C1:Cx} {w w1:World} (hg:WN E C)
 (hS:WW C S w) (t:CE C S.u w C1 r.b w1) {b:Frame} {a1:Act} (hT:TR C1 r.a.nt r.T a1.tmps) {cs:List Frame} (hF:o9 C1 r.a b a1 cs) (hk:b.kind= .normal) (hr:b.roundOf=none) (hf:b.fn=f)
 {m:Machine} (YM:B_ P b [] cs C1 m r.c a1 w1):∃C2 x w2 fr,Steps P m (lone fr cs w2)/\fr.fn=f/\fr.leaving P w2 (.returned x)/\CE C S w C2 S w2/\VR C2 v x:=by
 unfold ZM at h;obtain⟨mo,jc,h⟩:=Qa.1 h;obtain⟨p,ng,h⟩:=Qa.1 h;obtain⟨m',S'⟩:=p;obtain⟨todo,mode,aq,mT⟩:=O' hr YM jc;have Yw:=hg.mono t.a;obtain⟨C2,w2,mode2,jm,t2,pS⟩:=G7 he gJ ng Yw hF.d t.c mT b a1.tmps todo cs;have XM:=aq.trans jm;have t3:=t.u t2;unfold t_ at h;cases pS with
 |J=>
  simp only at h;obtain⟨vs,Xr,h⟩:=Qa.1 h;have hTT:TR C2 a1.tmps.size r.T a1.tmps:=⟨rfl,(hT.mono t2.a).2⟩
  obtain⟨x,hx,aJ⟩:=Ja he hTT t3.c Xr;obtain⟨C3,t4,hv4⟩:=Rc h hS t3 aJ;exact⟨C3,x,w2,_,XM,hf,⟨U,U,hk,fn,by show P.funcs[b.fn]?=_;rw[hf];exact hp,hx⟩,t4,hv4⟩
 |O hv=>cases h
theorem JV (he:Wd E P) (hx:ZW E P) (hm:fu E P) {n:Nat} {f:FuncId} {args:List AV} {v:AV} (hmf:E.d f args=none) {S:St} (h:WM E (ev E n) f args S=some (.J v))
 {C:Cx} {w:World} {xs:Array Value} (hg:WN E C) (ha:Wx C args xs.toList) (hS:WW C S w):Calls P f xs w fun e w'=>∃C2 x,e= .returned x/\CE C S w C2 S w'/\VR C2 v x:=by
 intro cs;have gJ:=tF he hx (MG he hx) hm (fun _ ev _=>I7 ev) n;unfold WM at h;rw[hmf]at h;simp only at h;obtain⟨fn,qM,h⟩:=Qa.1 h;obtain⟨cd,hc,h⟩:=Qa.1 h;have hp:=he.d f fn qM;have b8:Frame.enter P f xs .normal=Wi (Frame.enter P f xs .normal) ⟨xs++Array.replicate (fn.ntmps-xs.size) undef,[]⟩ [.code cd]:=by
  simp[Frame.enter,Wi,hp,hc]
 have mS:(Frame.enter P f xs .normal).kind= .normal:=rfl;have eO:(Frame.enter P f xs .normal).roundOf=none:=rfl;have gZ:(Frame.enter P f xs .normal).fn=f:=rfl;generalize Frame.enter P f xs .normal=bd at b8 mS eO gZ;have Ya:=gJ cd C S.u w (n_ fn.ntmps args none) (YC 0 args .J) bd ⟨xs++Array.replicate (fn.ntmps-xs.size) undef,[]⟩ [] cs hg (Qv ha fn.ntmps)
  ⟨.O,.J (by simp[o8,tryRecover,mS]),.J eO⟩ hS.A
 rw[<-b8]at Ya;generalize dW:(ev E n) cd (n_ fn.ntmps args none) (YC 0 args .J) S.u=out at h Ya;unfold pE at h;split at h
 .next r=>
  obtain⟨r',dV,C1,a1,w1,cs1,t,hT,hF,hn,bS,WS,YM⟩:=Ya [r] rfl;simp only[Qp]at dV;subst dV;have:=WS.g rfl;subst this;obtain⟨C2,x,w2,frr,h1,h2,h3,h4,h5⟩:=L8 he gJ hp h hg hS t hT hF mS eO gZ YM;exact⟨.returned x,w2,frr,⟨C2,x,U,h4,h5⟩,h1,h2,h3⟩
 .next r l=>
  obtain⟨r',dV,C1,a1,w1,cs1,t,hT,hF,hn,bS,WS,YM⟩:=Ya (r::l) rfl;have:=WS.g rfl;subst this;have pU:WW C S.I w:=hS.I _ _;have ht':CE C S.I.u w C1 r'.b w1:=t;cases mT:I_ E (ev E n) f fn S r l with
  |some c1=>
   rw[mT]at h;cases h;obtain⟨v,e,Zc⟩:=QZ mT;cases e;obtain⟨C2,x,w2,frr,h1,h2,h3,h4,h5⟩:=L8 he gJ hp (Zc r' dV) hg pU ht' hT hF mS eO gZ YM;exact⟨.returned x,w2,frr,⟨C2,x,U,KI hS h4,h5⟩,h1,h2,h3⟩
  |none=>
  rw[mT]at h;unfold pD at h;cases zJ:E.c with
  |false=>rw[zJ]at h;cases h
  |true=>
  rw[zJ]at h;simp only[cond_true]at h;unfold pC at h;obtain⟨o,_,h⟩:=Qa.1 h;obtain⟨os,_,h⟩:=Qa.1 h;unfold X' at h;split at h
  .next c hc=>
   unfold kS at hc;cases hl:fM S.a S o (ZZ (o::os) []) (o::os)with
   |false=>rw[hl]at hc;cases hc
   |true=>rw[hl]at hc;cases hc;cases h
  .unfold fN at h;obtain⟨p,_,h⟩:=Qa.1 h;cases hl:(dg S.a p.1 p.2 (o::os)&&XZ p.2 p.1)with
   |false=>rw[hl]at h;cases h
   |true=>rw[hl]at h;cases h
 .cases h
end
noncomputable def qS (P:Program) (nt nf mask:Nat) (m:List W8):c_:=
 {b:=ll nt P.types.toList,a:=ll nf P.funcs.toList,g:=fun f=>bif Nat.testBit mask f then 0 else 1,d:=jJ m,i:=fun _=>none,c:=true,f:=true,e:=fun t=> !P.stoodInHeld t}
structure Zd (P:Program) (nt nf:Nat):Prop where
 c:P.types.size<=nt
 a:P.funcs.size<=nf
 d:P.funcs.toList.all (fun fn=> !(fn.name== "runtime.NumGoroutine"))=true
 b:P.funcs.toList.all jb=true
theorem MA {P:Program} {nt nf:Nat} (h:Zd P nt nf) (mask:Nat) (m:List W8):Wd (qS P nt nf mask m) P:=by
 refine⟨fun t i hi=>?_,fun f fn hf=>?_,fun t ht=>(by simpa[qS]using ht),fun f fn hf=>?_⟩
 .have:P.types.toList[t]?=some i:=by rw[<-E0 nt P.types.toList t (by simpa using h.c)];exact hi
  have C5:t<P.types.size:=by
   rcases Nat.lt_or_ge t P.types.size with h|h
   .exact h
   .rw[List.getElem?_eq_none (by simpa using h)]at this;cases this
  unfold Tables.info?;rw[if_pos C5];simpa using this
 .have:P.funcs.toList[f]?=some fn:=by rw[<-E0 nf P.funcs.toList f (by simpa using h.a)];exact hf
  simpa using this
 .have:P.funcs.toList[f]?=some fn:=by rw[<-E0 nf P.funcs.toList f (by simpa using h.a)];exact hf
  have:=(List.all_eq_true.1 h.d) fn (List.mem_of_getElem? this);simpa using this
inductive x3 (P:Program) (nt nf mask:Nat):List W8->Prop where
 |nil:x3 P nt nf mask []
 |cons {e:W8} {m l:List W8} {n:Nat} (hl:x3 P nt nf mask l) (hs:∀x∈m,x∈l) (h:YN (qS P nt nf mask m) n e=true):x3 P nt nf mask (e::l)
noncomputable def insT (t:Tr (List W8)) (e:W8):Tr (List W8):=t.u e.f (some (e::(t.g e.f).getD []))
noncomputable def W9:List W8->Tr (List W8)
 | []=> .J
 |e::l=>insT (W9 l) e
def x4 (f:FuncId) (args:List AV):Option (List W8)->Option AV
 |some l=>jJ l f args
 |none=>none
noncomputable def x5 (t:Tr (List W8)) (f:FuncId) (args:List AV):Option AV:=x4 f args (t.g f)
theorem H5:∀ {m:List W8} {f:Nat} {l:List W8},(W9 m).g f=some l->∀e∈l,e∈m
 | [],f,l,h=>by rw[W9,AS]at h;cases h
 |a::m,f,l,h=>by
  simp only[W9,insT]at h;rw[Ay]at h;split at h
  .next e=>
   cases h;intro x hx;rcases Qk.1 hx with rfl|hx
   .exact Qh ..
   .cases hg:(W9 m).g a.f with
    |none=>rw[hg]at hx;cases hx
    |some l'=>
     rw[hg]at hx;exact Qg _ (H5 hg x hx)
  .intro x hx;exact Qg _ (H5 h x hx)
noncomputable def aB (P:Program) (nt nf mask:Nat) (m:List W8):c_:= {qS P nt nf mask []with d:=x5 (W9 m)}
theorem PT {P:Program} {nt nf:Nat} (h:Zd P nt nf) (mask:Nat) (m:List W8):Wd (aB P nt nf mask m) P:=by
 have:=MA h mask [];exact⟨this.c,this.d,this.a,this.b⟩
theorem Rt {P:Program} {nt nf:Nat} (h:Zd P nt nf) (mask:Nat) (m:List W8):ZW (aB P nt nf mask m) P:=
 Vq (PT h mask m) fun f fn hf=>by
  have:P.funcs.toList[f]?=some fn:=by rw[<-E0 nf P.funcs.toList f (by simpa using h.a)];exact hf
  exact(List.all_eq_true.1 h.b) fn (List.mem_of_getElem? this)
theorem QV {E:c_} {P:Program} {m:List W8} (h:∀e∈m,MOk E P e) (f:FuncId) (args:List AV) (v:AV) (hm:x5 (W9 m) f args=some v) (C:Cx) (S:St) (w:World) (xs:Array Value) (c:Frame) (cs:List Frame)
 (hg:WN E C) (hv:Wx C args xs.toList) (hS:WW C S w):o_ P (lone (Frame.enter P f xs .normal) (c::cs) w) c cs C S w (.J v):=by
 unfold x5 x4 at hm;split at hm
 .next l hl=>exact U5 (fun e he=>h e (H5 hl e he)) f args v hm C S w xs c cs hg hv hS
 .cases hm
def XH (P:Program) (nt nf mask:Nat) (e:W8):Prop:=∀m,MOk (aB P nt nf mask m) P e
theorem Da {P:Program} {nt nf mask:Nat} (hp:Zd P nt nf) {m:List W8} (hm:∀e∈m,XH P nt nf mask e) {n:Nat} {e:W8} (h:YN (aB P nt nf mask m) n e=true):XH P nt nf mask e:=by
 intro m';have:=ent_ok (PT hp mask m) (Rt hp mask m) (QV fun y hy=>hm y hy m) (fun g cs hg=>by cases hg) h;intro C S w xs c cs hg hv hS;exact this C S w xs c cs (fun g cs hg=>by cases hg) hv hS
end Am
