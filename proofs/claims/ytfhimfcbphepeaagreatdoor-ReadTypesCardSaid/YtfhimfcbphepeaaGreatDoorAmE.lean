/- The abstract machine: regions that draw their order; calls that are known ahead. -/
import Derived.Test.YtfhimfcbphepeaaGreatDoorAmD
import Derived.Below
set_option linter.unusedSectionVars false
set_option linter.unusedVariables false
set_option linter.unusedSimpArgs false
namespace Am
open Go
section
variable {E : Env} {P : Program}
theorem zE {ops:Array Oper} {i:Nat} {idx:List Nat} {o:Oper} (ho:ops[i]?=some o) {xo:Tr AV->Option AV} {F:Tr AV->St->Option AV} (ZW:Yq E P o (.read xo F)) (heq:Xz E o.type o.op= .read xo F)
 {C:Cx} {S:St} {w:World} {T:Tr AV} {b:Frame} {a:Act} {k:List Item} {cs:List Frame} (hg:W5 E C) (hT:TR C a.tmps.size T a.tmps)
 (hS:W2 C S w) (hw:Region.wanted o (yielded ops a.tmps)=true) {v:AV} (h:F T S=some v):
 ∃x,Steps P (lone (CX b a (.inRegion ops (i::idx)::k)) cs w) (lone (CX b (a.put o.dst x) (.inRegion ops idx::k)) cs w)/\VR C v x:=by
 obtain⟨x,C8,hv⟩:=ZW C T a S w hg hT hS v h;have hr:b.roundOf=none\/∀c,o.op≠ .defer c:= .inr (IV heq (by simp) (by simp));exact⟨x,.one (Bx ho hw hr C8),hv⟩
theorem zF {ev:Ev} (Wi:Zi E P ev) (W3:Zj E P ev) {ops:Array Oper} {i:Nat} {idx:List Nat} {o:Oper} (ho:ops[i]?=some o) {so:bf} (ZW:Yq E P o so) (heq:Xz E o.type o.op=so)
 (fo:∀f,so≠ .defer f) (lj:so≠ .recover) {C:Cx} {S S':St} {w:World} {fr Yf:Fr} {T TV:Tr AV} {b:Frame} {a:Act} {k:List Item} {cs:List Frame} (hg:W5 E C) (hT:TR C a.tmps.size T a.tmps)
 (hS:W2 C S w) (hw:Region.wanted o (yielded ops a.tmps)=true) (h:(Xd E so K0).run ev fr T S= .one ⟨.normal,Yf,TV,S'⟩):
 ∃v C' x w',TV=aL v/\Yf=fr/\Steps P (lone (CX b a (.inRegion ops (i::idx)::k)) cs w) (lone (CX b (a.put o.dst x) (.inRegion ops idx::k)) cs w')/\Cu C S w C' S' w'/\VR C' v x:=by
 have sp:=ZW C T a S w hg hT hS;have hr:so≠ .bad->b.roundOf=none\/∀c,o.op≠ .defer c:=fun h2=> .inr (IV heq fo h2);have Yg:=fun v=>BN b a ops i idx k v;simp only[ho,Qe]at Yg;have cr_:∀ {cr:CR} {m:Machine},Returns P m (CX b a (.inRegion ops (i::idx)::k)) cs C S w cr->Xy fr T S (fun v s=> .one ⟨.normal,fr,aL v,s⟩) (some cr)= .one ⟨.normal,Yf,TV,S'⟩->
  ∃v C' x w',TV=aL v/\Yf=fr/\Steps P m (lone (CX b (a.put o.dst x) (.inRegion ops idx::k)) cs w')/\Cu C S w C' S' w'/\VR C' v x:=by
  intro cr m Zx h;cases cr with
  |same v=>
   obtain⟨C',x,w',hs,t,hv⟩:=Zx;cases h;rw[Yg]at hs;exact⟨v,C',x,w',U,U,hs,t,hv⟩
  |val v s=>
   obtain⟨C',x,w',hs,t,hv⟩:=Zx;cases h;rw[Yg]at hs;exact⟨v,C',x,w',U,U,hs,t,hv⟩
  |WR v s=>cases h
 cases so with
 |bad=>cases h
 |make f=>
  change mc S (fun v s=> .one ⟨.normal,fr,aL v,s⟩) (f T)=_ at h;cases hf:f T with
  |none=>rw[hf]at h;cases h
  |some mk=>
   rw[hf]at h;cases mk with
   |val v=>
    obtain⟨C',x,w',C8,t,hv⟩:=sp.1 v hf;cases h;exact⟨v,C',x,w',U,U,.one (Bx ho hw (hr (by simp)) C8),t,hv⟩
   |obj ob g=>
    obtain⟨C',x,w',C8,t,hv⟩:=sp.2 ob g hf;cases h;exact⟨_,C',x,w',U,U,.one (Bx ho hw (hr (by simp)) C8),t,hv⟩
 |pure f=>
  change X0 (fun v=> .one ⟨.normal,fr,aL v,S⟩) (f T)=_ at h;cases hf:f T with
  |none=>rw[hf]at h;cases h
  |some v=>
   rw[hf]at h;obtain⟨x,C8,hv⟩:=sp v hf;cases h;exact⟨v,C,x,w,U,U,.one (Bx ho hw (hr (by simp)) C8),Cu.refl hS,hv⟩
 |read xo f=>
  change X0 (fun v=> .one ⟨.normal,fr,aL v,S⟩) (f T S)=_ at h;cases hf:f T S with
  |none=>rw[hf]at h;cases h
  |some v=>
   rw[hf]at h;obtain⟨x,C8,hv⟩:=sp v hf;cases h;exact⟨v,C,x,w,U,U,.one (Bx ho hw (hr (by simp)) C8),Cu.refl hS,hv⟩
 |look f=>
  change X0 (fun v=> .one ⟨.normal,fr,aL v,S⟩) (f T S)=_ at h;cases hf:f T S with
  |none=>rw[hf]at h;cases h
  |some v=>
   rw[hf]at h;obtain⟨x,C8,hv⟩:=sp v hf;cases h;exact⟨v,C,x,w,U,U,.one (Bx ho hw (hr (by simp)) C8),Cu.refl hS,hv⟩
 |act only xo f=>
  change nv (fun v s=> .one ⟨.normal,fr,aL v,s⟩) (f T S)=_ at h;cases hf:f T S with
  |none=>rw[hf]at h;cases h
  |some p=>
   rw[hf]at h;obtain⟨v,S1⟩:=p;obtain⟨C',nx,w',C8,t,aC⟩:=sp v S1 hf;cases h;cases aC with
   | @value _ x hv=>exact⟨v,C',x,w',rfl,rfl,.one (Bx ho hw (hr (by simp)) C8),t,hv⟩
   |skip=>exact⟨_,C',undef,w',rfl,rfl,.one (Np ho hw (hr (by simp)) C8),t,VR.unit⟩
 |pick f=>
  change ZJ (fun v s=> .one ⟨.normal,fr,aL v,s⟩) ((f T).bind fun l=>some (oL S l))=_ at h;cases hf:f T with
  |none=>rw[hf]at h;cases h
  |some l=>
   rw[hf]at h;obtain⟨v,hv,x,C8,aw⟩:=sp l hf;cases l with
   |nil=>cases hv
   |cons u l=>
    cases l with
    |nil=>
     simp only[Qn]at hv;subst hv;cases h;exact⟨v,C,x,w,U,U,.one (Bx ho hw (hr (by simp)) C8),Cu.refl hS,aw⟩
    |cons u2 l=>
     exfalso;simp only[Qe,ZJ,oL,Ya]at h;cases iZ:Ya (fun v s=>Out.one ⟨.normal,fr,aL v,s⟩) ((u2,S)::oL S l)with
     |stuck=>simp only[Ya]at iZ;rw[iZ]at h;cases h
     |one r=>simp only[Ya]at iZ;rw[iZ]at h;cases h
     |many r=>simp only[Ya]at iZ;rw[iZ]at h;cases h
 |lO f=>
  change ZJ (fun v s=> .one ⟨.normal,fr,aL v,s⟩) (f T S)=_ at h;cases hf:f T S with
  |none=>rw[hf]at h;cases h
  |some l=>
   rw[hf]at h;obtain⟨p,hp,C',x,w',C8,t,aw⟩:=sp l hf;cases l with
   |nil=>cases hp
   |cons u l=>
    cases l with
    |nil=>
     simp only[Qn]at hp;subst hp;cases h;exact⟨_,C',x,w',U,U,.one (Bx ho hw (hr (by simp)) C8),t,aw⟩
    |cons u2 l=>
     exfalso;simp only[ZJ,Ya]at h;cases iZ:Ya (fun v s=>Out.one ⟨.normal,fr,aL v,s⟩) (u2::l)with
     |stuck=>simp only[Ya]at iZ;rw[iZ]at h;cases h
     |one r=>simp only[Ya]at iZ;rw[iZ]at h;cases h
     |many r=>simp only[Ya]at iZ;rw[iZ]at h;cases h
 |call f=>
  change Xy fr T S (fun v s=> .one ⟨.normal,fr,aL v,s⟩) ((f T S).bind fun p=>WA E ev p.1 p.2 S)=_ at h;cases hf:f T S with
  |none=>rw[hf]at h;cases h
  |some p=>
   rw[hf]at h;obtain⟨g,args⟩:=p;obtain⟨xs,C8,WQ⟩:=sp g args hf;simp only[Qe]at h;cases lE:WA E ev g args S with
   |none=>rw[lE]at h;cases h
   |some cr=>
    rw[lE]at h;have Zx:=Wi g args cr C S w xs (CX b a (.inRegion ops (i::idx)::k)) cs lE hg WQ hS;obtain⟨v,C',x,w',h1,h2,h3,h4,h5⟩:=cr_ Zx h;exact⟨v,C',x,w',h1,h2,.head (Hv ho hw (hr (by simp)) C8) h3,h4,h5⟩
 |ah f ar=>
  change Xy fr T S (fun v s=> .one ⟨.normal,fr,aL v,s⟩) ((f T).bind fun g=>(ar T).bind fun args=>Yi E ev args S g)=_ at h;cases hf:f T with
  |none=>rw[hf]at h;cases h
  |some g=>
  cases ha:ar T with
  |none=>rw[hf,ha]at h;cases h
  |some args=>
   rw[hf,ha]at h;obtain⟨gx,xs,hgx,eX,hex⟩:=sp g args hf ha;simp only[Qe]at h;cases lE:Yi E ev args S g with
   |none=>rw[lE]at h;cases h
   |some cr=>
    rw[lE]at h;rcases W3 g args cr C S w gx xs (CX b a (.inRegion ops (i::idx)::k)) cs lE hg hgx eX hS with⟨f',ys,C8,Zx⟩|⟨l,f',tmps,ft,body,C8,Zx⟩
    .rw[<-hex]at C8;obtain⟨v,C',x,w',h1,h2,h3,h4,h5⟩:=cr_ Zx h;exact⟨v,C',x,w',h1,h2,.head (Hv ho hw (hr (by simp)) C8) h3,h4,h5⟩
    .rw[<-hex]at C8;obtain⟨v,C',x,w',h1,h2,h3,h4,h5⟩:=cr_ Zx h;exact⟨v,C',x,w',h1,h2,.head (Pi ho hw (hr (by simp)) C8) h3,h4,h5⟩
 |defer f=>exact absurd rfl (fo f)
 |panic f=>
  change X0 (fun v=> .one ⟨.panic v,fr,T,S⟩) (f T)=_ at h;cases hf:f T with
  |none=>rw[hf]at h;cases h
  |some v=>rw[hf]at h;cases h
 |recover=>exact absurd rfl lj
theorem vo {ev:Ev} (Wi:Zi E P ev) (W3:Zj E P ev) {ops:Array Oper} {i:Nat} {idx:List Nat} {o:Oper} (ho:ops[i]?=some o) {so:bf} (ZW:Yq E P o so) (heq:Xz E o.type o.op=so)
 (hq:(∃F,so= .call F)\/∃F A,so= .ah F A) {C:Cx} {S S':St} {w:World} {fr:Fr} {T:Tr AV} {v:AV} {b:Frame} {a:Act} {k:List Item} {cs:List Frame} (hg:W5 E C) (hT:TR C a.tmps.size T a.tmps)
 (hS:W2 C S w) (hw:Region.wanted o (yielded ops a.tmps)=true) (h:cQ ((Xd E so K0).run ev fr T S)=some (v,S')):
 ∃C' x w',Steps P (lone (CX b a (.inRegion ops (i::idx)::k)) cs w) (lone {CX b a (.inRegion ops (i::idx)::k)with mode:= .panicking [{v:=x,recovered:=false}]} cs w')/\Cu C S w C' S' w'/\VR C' v x:=by
 have sp:=ZW C T a S w hg hT hS;have hr:b.roundOf=none\/∀c,o.op≠ .defer c:=by
  rcases hq with⟨F,rfl⟩|⟨F,A,rfl⟩
  .exact .inr (IV heq (by simp) (by simp))
  .exact .inr (IV heq (by simp) (by simp))
 have cr_:∀ {cr:CR} {m:Machine},Returns P m (CX b a (.inRegion ops (i::idx)::k)) cs C S w cr->cQ (Xy fr T S (fun v s=> .one ⟨.normal,fr,aL v,s⟩) (some cr))=some (v,S')->
  ∃C' x w',Steps P m (lone {CX b a (.inRegion ops (i::idx)::k)with mode:= .panicking [{v:=x,recovered:=false}]} cs w')/\Cu C S w C' S' w'/\VR C' v x:=by
  intro cr m Zx h;cases cr with
  |same v=>cases h
  |val v s=>cases h
  |WR v s=>
   obtain⟨C',x,w',hs,t,hv⟩:=Zx;cases h;exact⟨C',x,w',hs,t,hv⟩
 rcases hq with⟨f,rfl⟩|⟨f,ar,rfl⟩
 .change cQ (Xy fr T S (fun v s=> .one ⟨.normal,fr,aL v,s⟩) ((f T S).bind fun p=>WA E ev p.1 p.2 S))=_ at h;cases hf:f T S with
  |none=>rw[hf]at h;cases h
  |some p=>
   rw[hf]at h;obtain⟨g,args⟩:=p;obtain⟨xs,C8,WQ⟩:=sp g args hf;simp only[Qe]at h;cases lE:WA E ev g args S with
   |none=>rw[lE]at h;cases h
   |some cr=>
    rw[lE]at h;have Zx:=Wi g args cr C S w xs (CX b a (.inRegion ops (i::idx)::k)) cs lE hg WQ hS;obtain⟨C',x,w',h3,h4,h5⟩:=cr_ Zx h;exact⟨C',x,w',.head (Hv ho hw hr C8) h3,h4,h5⟩
 .change cQ (Xy fr T S (fun v s=> .one ⟨.normal,fr,aL v,s⟩) ((f T).bind fun g=>(ar T).bind fun args=>Yi E ev args S g))=_ at h;cases hf:f T with
  |none=>rw[hf]at h;cases h
  |some g=>
  cases ha:ar T with
  |none=>rw[hf,ha]at h;cases h
  |some args=>
   rw[hf,ha]at h;obtain⟨gx,xs,hgx,eX,hex⟩:=sp g args hf ha;simp only[Qe]at h;cases lE:Yi E ev args S g with
   |none=>rw[lE]at h;cases h
   |some cr=>
    rw[lE]at h;rcases W3 g args cr C S w gx xs (CX b a (.inRegion ops (i::idx)::k)) cs lE hg hgx eX hS with⟨f',ys,C8,Zx⟩|⟨l,f',tmps,ft,body,C8,Zx⟩
    .rw[<-hex]at C8;obtain⟨C',x,w',h3,h4,h5⟩:=cr_ Zx h;exact⟨C',x,w',.head (Hv ho hw hr C8) h3,h4,h5⟩
    .rw[<-hex]at C8;obtain⟨C',x,w',h3,h4,h5⟩:=cr_ Zx h;exact⟨C',x,w',.head (Pi ho hw hr C8) h3,h4,h5⟩
end
def ja (ops:List Oper) (i j:Nat):Prop:=∃o,ops[i]?=some o/\∃e∈o.after.toList,Region.binds .any e=true/\e.on=j
inductive fw (ops:List Oper):(Nat->Prop)->List Nat->Prop where
 |nil {D:Nat->Prop} (h:∀i,i<ops.length->D i):fw ops D []
 |cons {D:Nat->Prop} {i:Nat} {l:List Nat} (hi:i<ops.length) (hd:¬D i) (he:∀j,ja ops i j->D j) (t:fw ops (fun k=>D k\/k=i) l):fw ops D (i::l)
theorem vp {ops:Array Oper} {m:Region.Mode} {lH:Nat->Nat} (hr:∀i o,ops[i]?=some o->∀e∈o.after.toList,Region.binds m e=true->e.on<ops.size/\lH e.on<lH i)
 (hany:∀e,Region.binds .any e=true->Region.binds m e=true):∀(fuel t:Nat) (listed:Array Bool) (acc:List Nat),listed.size=ops.size->listed.toList.countP (! ·)<=fuel->
 ∃l,Region.linearise.go m ops fuel t listed acc=acc.reverse++l/\fw ops.toList (fun i=>listed[i]?=some true) l:=by
 intro fuel;have unl:∀(listed:Array Bool),listed.size=ops.size->∀i,i<ops.size->listed[i]?=some true\/listed[i]?=some false:=by
  intro listed hs i hi;rw[Array.getElem?_eq_getElem (by omega)];cases listed[i]<;>simp
 induction fuel with
 |zero=>
  intro t listed acc hs hc;refine⟨[],by simp[Region.linearise.go],.nil fun i hi=>?_⟩;rcases unl listed hs i (by simpa using hi)with h|h
  .exact h
  .exfalso;have Yw:false∈listed.toList:=by rw[Array.mem_toList_iff];exact Array.mem_of_getElem? h
   have:=List.countP_pos_iff (p:=(! · :Bool->Bool)) (l:=listed.toList)|>.2 ⟨false,Yw,rfl⟩;omega
 |succ fuel ih=>
  intro t listed acc hs hc;unfold Region.linearise.go;simp only;generalize hrs:(List.range ops.size).filter (fun i=> !listed.getD i true&&((ops[i]?).map (·.after.all fun e=> !Region.binds m e||listed.getD e.on false)).getD false)=rs;have Yw:∀i,i∈rs↔i<ops.size/\listed[i]?=some false/\∃o,ops[i]?=some o/\∀e∈o.after.toList,Region.binds m e=true->listed[e.on]?=some true:=by
   intro i;rw[<-hrs,List.mem_filter,List.mem_range];refine and_congr_right fun hi=>?_;rw[Qf];refine and_congr ?_ ?_
   .rcases unl listed hs i hi with h|h<;>simp[Array.getD_eq_getD_getElem?,h]
   .rw[Array.getElem?_eq_getElem hi];simp only[Option.map_some,Option.getD_some,Array.all_eq_true_iff_forall_mem,Option.some.injEq,exists_eq_left',Array.mem_toList_iff,Bool.or_eq_true,Bool.not_eq_true'];refine forall_congr' fun e=>forall_congr' fun _=>?_;constructor
    .rintro(h|h) hb
     .rw[hb]at h;cases h
     .rw[Array.getD_eq_getD_getElem?]at h;cases hl:listed[e.on]? with
      |none=>rw[hl]at h;cases h
      |some b=>rw[hl]at h;simp at h;rw[h]
    .intro h;cases hb:Region.binds m e with
     |false=>exact .inl rfl
     |true=>right;rw[Array.getD_eq_getD_getElem?,h hb];rfl
  cases hsel:rs[t % rs.length]? with
  |none=>
   refine⟨[],by simp,.nil ?_⟩;have hemp:rs=[]:=by
    cases rs with
    |nil=>rfl
    |cons a l=>
     exfalso;have:t % (a::l).length<(a::l).length:=Nat.mod_lt _ (by simp);rw[Qi this]at hsel;cases hsel
   have all:∀r i,lH i=r->i<ops.size->listed[i]?=some true:=by
    intro r;induction r using Nat.strongRecOn with
    |_ r ihr=>
     intro i hri hi;rcases unl listed hs i hi with h|h
     .exact h
     .exfalso;have:i∈rs:=(Yw i).2 ⟨hi,h,ops[i],Array.getElem?_eq_getElem hi,fun e he hb=>by
       obtain⟨h1,h2⟩:=hr i _ (Array.getElem?_eq_getElem hi) e he hb;exact ihr (lH e.on) (by omega) e.on U h1⟩
      rw[hemp]at this;cases this
   exact fun i hi=>all _ i U (by simpa using hi)
  |some i=>
   have hi:i∈rs:=List.mem_of_getElem? hsel;obtain⟨Co,uc,o,ho,hed⟩:=(Yw i).1 hi;have j5:i<listed.size:=by omega
   have hcnt:(listed.setIfInBounds i true).toList.countP (! ·)<=fuel:=by
    rw[Array.toList_setIfInBounds,List.countP_set (by simpa using j5)];have eg:listed.toList[i]'(by simpa using j5)=false:=by
     have:listed[i]=false:=by rw[Array.getElem?_eq_getElem j5]at uc;exact Option.some.inj uc
     simpa using this
    rw[eg];simp;simp at hc;omega
   obtain⟨l,hl,vq⟩:=ih (t/rs.length) (listed.setIfInBounds i true) (i::acc) (by simpa using hs) hcnt;refine⟨i::l,by simpa using hl,.cons (by simpa using Co) (by rw[uc];simp) ?_ ?_⟩
   .rintro j ⟨o',ry,e,he,hb,rfl⟩;rw[Array.getElem?_toList,ho]at ry;cases ry;exact hed e he (hany e hb)
   .have:(fun k=>listed[k]?=some true\/k=i)=(fun k=>(listed.setIfInBounds i true)[k]?=some true):=by
     funext k
     apply propext;rw[Array.getElem?_setIfInBounds];by_cases hk:i=k
     .subst hk;simp[j5]
     .simp only[hk,if_false];constructor
      .rintro(h|h)
       .exact h
       .exact absurd h.symm hk
      .exact .inl
    rw[this];exact vq
theorem Jg {ops:Array Oper} {m:Region.Mode} {lH:Nat->Nat} (hr:∀i o,ops[i]?=some o->∀e∈o.after.toList,Region.binds m e=true->e.on<ops.size/\lH e.on<lH i)
 (hany:∀e,Region.binds .any e=true->Region.binds m e=true) (t:Nat):fw ops.toList (fun _=>False) (Region.linearise m ops t):=by
 obtain⟨l,h1,h2⟩:=vp hr hany ops.size t (Array.replicate ops.size false) [] (by simp) (by
  have:=List.countP_le_length (p:=(! · :Bool->Bool)) (l:=(Array.replicate ops.size false).toList);simpa using this)
 have hl:Region.linearise m ops t=l:=by unfold Region.linearise;rw[h1];rfl
 rw[hl];have:(fun i=>(Array.replicate ops.size false)[i]?=some true)=(fun _:Nat=>False):=by
  funext i
  apply propext;rw[Array.getElem?_replicate];split<;>simp
 rw[this]at h2;exact h2
theorem J8 {m:Region.Mode} (e:Edge) (h:Region.binds .any e=true):Region.binds m e=true:=by
 unfold Region.binds at*;split at h<;>first|(simp at h;done)|rfl
theorem B4 {i:Nat}:∀ {l:List Edge},aA i l=true->∀e∈l,(∀r,e.ground≠ .gcOnly r)->e.on<i
 |a::l,h,e,he,hn=>by
  simp only[aA,Qf]at h;rcases Qk.1 he with rfl|he
  .have h1:=h.1;split at h1
   .next r hr=>exact absurd hr (hn r)
   .simpa[Nat.blt_eq]using h1
  .exact B4 h.2 e he hn
theorem La {n i:Nat} {iP:List Nat}:∀ {l:List Edge},ia n iP i l=true->∀e∈l,Region.binds .gc e=true->e.on<n/\mh e.on iP<mh i iP
 |a::l,h,e,he,hb=>by
  simp only[ia,Qf]at h;rcases Qk.1 he with rfl|he
  .have h1:=h.1;rw[hb]at h1;simpa[Nat.blt_eq]using h1
  .exact La h.2 e he hb
theorem QJ {n:Nat} {iP:List Nat}:∀ {l:List Oper} {j:Nat},oN n iP l j=true->∀i o,l[i]?=some o->ia n iP (j+i) o.after.toList=true
 |a::l,j,h,0,o,ho=>by
  simp only[oN,Qf]at h;simp at ho;subst ho;exact h.1
 |a::l,j,h,i+1,o,ho=>by
  simp only[oN,Qf]at h;have:=QJ h.2 i o (by simpa using ho);rw[show j+(i+1)=j+1+i by omega];exact this
 | [],_,_,_,_,ho=>by simp at ho
theorem NT:∀ {l:List Edge},fL l=false->∀e∈l,∀r,e.ground≠ .gcOnly r
 |a::l,h,e,he,r,hr=>by
  simp only[fL]at h;split at h
  .cases h
  .next hn=>
   rcases Qk.1 he with rfl|he
   .exact hn r hr
   .exact NT h e he r hr
theorem Sn {a:Oper} {l:List Oper} (h:kF (a::l)=false):fL a.after.toList=false/\kF l=false:=by
 unfold kF at h;generalize fL a.after.toList=q at h;cases q with
 |true=>cases h
 |false=>exact⟨rfl,h⟩
theorem QG:∀ {l:List Oper},kF l=false->∀o,o∈l->fL o.after.toList=false
 | [],_,_,ho=>by cases ho
 |a::l,h,o,ho=>by
  obtain⟨h1,h2⟩:=Sn h;cases ho with
  |head=>exact h1
  |tail _ ho=>exact QG h2 o ho
theorem IL {ops:List Oper} {bs:List Nat}:∀ {l:List Oper} {j:Nat},ec ops bs l j=true->∀i o,l[i]?=some o->qj ops bs (j+i) o (l.drop (i+1))=true
 |a::l,j,h,0,o,ho=>by
  simp only[ec,Qf]at h;simp at ho;subst ho;exact h.1
 |a::l,j,h,i+1,o,ho=>by
  simp only[ec,Qf]at h;have:=IL h.2 i o (by simpa using ho);rw[show j+(i+1)=j+1+i by omega];exact this
 | [],_,_,_,_,ho=>by simp at ho
theorem Hd {ops:List Oper} (h:Xb ops=true) {i:Nat} {o:Oper} (ho:ops[i]?=some o):qj ops (Wg ops) i o (ops.drop (i+1))=true:=by
 unfold Xb at h;rw[Qf]at h;have:=IL h.1 i o ho;simpa using this
theorem E7 {ops:List Oper} (h:Xb ops=true) {i:Nat} {o:Oper} (ho:ops[i]?=some o):aA i o.after.toList=true:=by
 have:=Hd h ho;unfold qj at this;simp only[Qf]at this;exact this.1.1.2
theorem IF {ops:Array Oper} (h:Xb ops.toList=true) (mixed:Bool) (t:Nat):fw ops.toList (fun _=>False) (Region.schedule mixed ops t):=by
 have rm:∀i o,ops[i]?=some o->aA i o.after.toList=true:=fun i o ho=>E7 h (by rw[Array.getElem?_toList];exact ho);have Co:∀i o,ops[i]?=some o->i<ops.size:=by
  intro i o ho;rcases Nat.lt_or_ge i ops.size with h|h
  .exact h
  .rw[Array.getElem?_eq_none h]at ho;cases ho
 have plain:∀(m:Region.Mode),m≠ .gc->∀t,fw ops.toList (fun _=>False) (Region.linearise m ops t):=by
  intro m hm t;refine Jg (lH:=id) (fun i o ho e he hb=>?_) J8 t;have mq:∀r,e.ground≠ .gcOnly r:=by
   intro r hr;unfold Region.binds at hb;rw[hr]at hb;simp at hb;exact hm hb
  have:=B4 (rm i o ho) e he mq;exact⟨Nat.lt_trans this (Co i o ho),this⟩
 have gc:∀t,fw ops.toList (fun _=>False) (Region.linearise .gc ops t):=by
  intro t;unfold Xb at h;rw[Qf]at h;cases hg:kF ops.toList with
  |true=>
   have h2:=h.2;rw[hg]at h2;simp only[cond_true,Bl,Array.length_toList]at h2;refine Jg (lH:=fun i=>mh i (Region.linearise .gc ops.toList.toArray 0)) (fun i o ho e he hb=>?_) J8 t;have:=QJ h2 i o (by rw[Array.getElem?_toList];exact ho);rw[Nat.zero_add]at this;exact La this e he hb
  |false=>
   refine Jg (lH:=id) (fun i o ho e he hb=>?_) J8 t;have mq:=NT (QG hg o (by rw[Array.mem_toList_iff];exact Array.mem_of_getElem? ho)) e he;have:=B4 (rm i o ho) e he mq;exact⟨Nat.lt_trans this (Co i o ho),this⟩
 unfold Region.schedule;split
 .exact plain .any (by simp) t
 .split
  .exact plain .text (by simp) _
  .exact gc _
theorem QX (acc:Array Nat) (j:Nat):∀(l:List Edge) (s:Nat),
 (l.foldl (fun s e=>if Region.binds .any e then s|||2^e.on|||acc.getD e.on 0 else s) s).testBit j=true↔
  s.testBit j=true\/∃e∈l,Region.binds .any e=true/\(e.on=j\/(acc.getD e.on 0).testBit j=true)
 | [],s=>by simp
 |e::l,s=>by
  rw[List.foldl_cons,QX acc j l];cases hb:Region.binds .any e with
  |true=>
   simp only[if_true,Nat.testBit_or,Bool.or_eq_true,Nat.testBit_two_pow,decide_eq_true_eq,Qk,exists_eq_or_imp,hb,true_and];constructor
   .rintro(((h|h)|h)|h)
    .exact .inl h
    .exact .inr (.inl (.inl h))
    .exact .inr (.inl (.inr h))
    .exact .inr (.inr h)
   .rintro(h|(h|h)|h)
    .exact .inl (.inl (.inl h))
    .exact .inl (.inl (.inr h))
    .exact .inl (.inr h)
    .exact .inr h
  |false=>
   simp only[Bool.false_eq_true,if_false,Qk,exists_eq_or_imp,hb,false_and,false_or]
theorem NX (f:Array Nat->Oper->Nat):∀(l:List Oper) (acc:Array Nat),(l.foldl (fun acc o=>acc.push (f acc o)) acc).size=acc.size+l.length/\
 (∀i,i<acc.size->(l.foldl (fun acc o=>acc.push (f acc o)) acc)[i]?=acc[i]?)/\
 (∀i o,l[i]?=some o->∃pre:Array Nat,(l.foldl (fun acc o=>acc.push (f acc o)) acc)[acc.size+i]?=some (f pre o)/\pre.size=acc.size+i/\
  ∀k,k<pre.size->pre[k]?=(l.foldl (fun acc o=>acc.push (f acc o)) acc)[k]?)
 | [],acc=>⟨by simp,fun _ _=>rfl,fun i o h=>by simp at h⟩
 |a::l,acc=>by
  obtain⟨h1,h2,h3⟩:=NX f l (acc.push (f acc a));simp only[List.foldl_cons];refine⟨by rw[h1];simp;omega,fun i hi=>?_,fun i o ho=>?_⟩
  .rw[h2 i (by simp;omega),Array.getElem?_push_lt hi];rw[Array.getElem?_eq_getElem hi]
  .cases i with
   |zero=>
    simp at ho;subst ho;refine⟨acc,?_,by simp,fun k hk=>?_⟩
    .rw[Nat.add_zero,h2 acc.size (by simp)];exact Array.getElem?_push_size
    .rw[h2 k (by simp;omega),Array.getElem?_push_lt hk,Array.getElem?_eq_getElem hk]
   |succ i=>
    obtain⟨pre,s8,yU,hp3⟩:=h3 i o (by simpa using ho);refine⟨pre,?_,?_,hp3⟩
    .rw[<-s8];congr 1;simp;omega
    .rw[yU];simp;omega
def ep (ops:List Oper) (i j:Nat):Prop:=Nat.testBit ((nth (Wg ops) i).getD 0) j=true
theorem VD {ops:List Oper} (h:Xb ops=true) {i:Nat} {o:Oper} (ho:ops[i]?=some o) (j:Nat):
 ep ops i j↔∃e∈o.after.toList,Region.binds .any e=true/\(e.on=j\/ep ops e.on j):=by
 obtain⟨h1,h2,h3⟩:=NX (fun acc o=>o.after.foldl (fun s e=>if Region.binds .any e then s|||2^e.on|||acc.getD e.on 0 else s) 0) ops #[];have hbef:Region.before ops.toArray=ops.foldl (fun acc o=>acc.push (o.after.foldl (fun s e=>if Region.binds .any e then s|||2^e.on|||acc.getD e.on 0 else s) 0)) #[]:=by
  unfold Region.before;rw[<-Array.foldl_toList]
 have YZ:∀k,nth (Wg ops) k=(Region.before ops.toArray)[k]?:=by
  intro k;unfold Wg;rw[DV,Array.getElem?_toList]
 rw[<-hbef]at h1 h2 h3;obtain⟨pre,s8,yU,hp3⟩:=h3 i o ho;simp only[List.size_toArray,List.length_nil,Nat.zero_add]at s8 yU;unfold ep;rw[YZ i,s8];simp only[Option.getD_some];rw[<-Array.foldl_toList,QX];simp only[Nat.zero_testBit,Bool.false_eq_true,false_or];have hb:=E7 h ho;constructor
 .rintro⟨e,he,ll,hj⟩;have mq:∀r,e.ground≠ .gcOnly r:=by
   intro r hr;unfold Region.binds at ll;rw[hr]at ll;simp at ll
  have Co:=B4 hb e he mq;refine⟨e,he,ll,hj.imp id fun hj=>?_⟩;rw[YZ,<-hp3 e.on (by omega),<-Array.getD_eq_getD_getElem?];exact hj
 .rintro⟨e,he,ll,hj⟩;have mq:∀r,e.ground≠ .gcOnly r:=by
   intro r hr;unfold Region.binds at ll;rw[hr]at ll;simp at ll
  have Co:=B4 hb e he mq;refine⟨e,he,ll,hj.imp id fun hj=>?_⟩;rw[YZ,<-hp3 e.on (by omega),<-Array.getD_eq_getD_getElem?]at hj;exact hj
theorem OB {ops:List Oper} (h:Xb ops=true):∀(i j:Nat),i<ops.length->ep ops i j->j<i:=by
 intro i;induction i using Nat.strongRecOn with
 |_ i ih=>
  intro j hi ha;have ho:ops[i]?=some ops[i]:=Qi hi;obtain⟨e,he,hb,hj⟩:=(VD h ho j).1 ha;have mq:∀r,e.ground≠ .gcOnly r:=by
   intro r hr;unfold Region.binds at hb;rw[hr]at hb;simp at hb
  have Co:=B4 (E7 h ho) e he mq;rcases hj with rfl|hj
  .exact Co
  .exact Nat.lt_trans (ih e.on Co j (by omega) hj) Co
theorem FL {ops:List Oper} (h:Xb ops=true) {D:Nat->Prop} (hD:∀i,D i->∀j,ja ops i j->D j):∀(i j:Nat),i<ops.length->D i->ep ops i j->D j:=by
 intro i;induction i using Nat.strongRecOn with
 |_ i ih=>
  intro j hi hd ha;have ho:ops[i]?=some ops[i]:=Qi hi;obtain⟨e,he,hb,hj⟩:=(VD h ho j).1 ha;have mq:∀r,e.ground≠ .gcOnly r:=by
   intro r hr;unfold Region.binds at hb;rw[hr]at hb;simp at hb
  have Co:=B4 (E7 h ho) e he mq;have hde:D e.on:=hD i hd e.on ⟨_,ho,e,he,hb,rfl⟩;rcases hj with rfl|hj
  .exact hde
  .exact ih e.on Co j (by omega) hde hj
theorem P1 {Wf b:Nat}:∀ {l:Wu},Yn Wf b l=true↔∃j,(j,b)∈l/\Nat.testBit Wf j=false
 | []=>by simp[Yn]
 |p::l=>by
  obtain⟨pi,pb⟩:=p;simp only[Yn];cases hq:(Nat.beq pb b&& !(Nat.testBit Wf pi))with
  |true=>
   simp only[cond_true,true_iff];rw[Qf]at hq;have:=Qb hq.1;subst this;exact⟨pi,Qh ..,by simpa using hq.2⟩
  |false=>
   simp only[cond_false];rw[P1];constructor
   .rintro⟨j,h1,h2⟩;exact⟨j,Qg _ h1,h2⟩
   .rintro⟨j,h1,h2⟩;rcases Qk.1 h1 with h1|h1
    .cases h1;rw[Bool.and_eq_false_iff]at hq;rcases hq with hq|hq
     .rw[Nat.beq_refl]at hq;cases hq
     .rw[h2]at hq;cases hq
    .exact⟨j,h1,h2⟩
theorem Gi {Wf:Nat}:∀(l:Wu) (h:Tr Cw) (b:Nat) (o:Cw),(cO Wf l h).get b=some o->h.get b=some o/\∀j,(j,b)∈l->Nat.testBit Wf j=true
 | [],h,b,o,hg=>⟨hg,fun _ h=>by cases h⟩
 |p::l,h,b,o,hg=>by
  obtain⟨pi,pb⟩:=p;simp only[cO]at hg;cases hq:Nat.testBit Wf pi with
  |true=>
   rw[hq]at hg;obtain⟨h1,h2⟩:=Gi l _ b o hg;refine⟨h1,fun j hj=>?_⟩;rcases Qk.1 hj with hj|hj
   .cases hj;exact hq
   .exact h2 j hj
  |false=>
   rw[hq]at hg;obtain⟨h1,h2⟩:=Gi l _ b o hg;simp only[cond_false,Ay]at h1;split at h1
   .cases h1
   .next YM=>
    refine⟨h1,fun j hj=>?_⟩;rcases Qk.1 hj with hj|hj
    .cases hj;exact absurd rfl YM
    .exact h2 j hj
theorem AM {α:Type} (i:Nat):(Tr.nil:Tr α).get i=none:=by
 unfold Tr.get;cases pathOf i<;>rfl
theorem I8 {Wf:Nat} {news:Wu} {h:Tr Cw} {t:Touch} {b:Nat} {o:Cw} (hg:(Wv Wf news h t).get b=some o):h.get b=some o/\(∀j,(j,b)∈news->Nat.testBit Wf j=true)/\fg b t=true:=by
 cases t with
 |nothing=>rw[Wv,AM]at hg;cases hg
 |block c=>
  simp only[Wv]at hg;cases hq:Yn Wf c news with
  |true=>rw[hq]at hg;rw[cond_true,AM]at hg;cases hg
  |false=>
   rw[hq]at hg;simp only[cond_false,Ay,AM]at hg;split at hg
   .next e=>
    subst e;refine⟨hg,fun j hj=>?_,by simp[fg]⟩;cases hb:Nat.testBit Wf j with
    |true=>rfl
    |false=>rw[P1.2 ⟨j,hj,hb⟩]at hq;cases hq
   .cases hg
 |all=>
  obtain⟨h1,h2⟩:=Gi _ _ _ _ hg;exact⟨h1,h2,U⟩
theorem DU (T:Tr AV):∀(l:List Nat) (t:Tr AV) (i:Nat),(XF T l t).get i=if i∈l then T.get i else t.get i
 | [],t,i=>by simp[XF]
 |a::l,t,i=>by
  simp only[XF];rw[DU T l,Ay];by_cases h1:i∈l
  .simp[h1]
  .by_cases h2:i=a
   .subst h2;simp
   .simp[h1,h2]
theorem Iv:∀ {n b x:Nat},x∈YO b n↔b<=x/\x<b+n
 |0,b,x=>by simp only[YO,List.not_mem_nil,false_iff];omega
 |n+1,b,x=>by
  simp only[YO,Qk];rw[Iv];omega
theorem Bz (h':Tr Cw):∀(l:List Nat) (h:Tr Cw) (b:Nat),(W8 h' l h).get b=if b∈l then h'.get b else h.get b
 | [],h,b=>by simp[W8]
 |a::l,h,b=>by
  simp only[W8];rw[Bz h' l,Ay];by_cases h1:b∈l
  .simp[h1]
  .by_cases h2:b=a
   .subst h2;simp
   .simp[h1,h2]
theorem PY {i:Nat} {news:Wu}:∀ {l:List Nat} {p:Nat×Nat},p∈Y4 i news l↔(p.1=i/\p.2∈l)\/p∈news
 | [],p=>by simp[Y4]
 |b::l,p=>by
  simp only[Y4,Qk];rw[PY];constructor
  .rintro(rfl|h|h)
   .exact .inl ⟨U,.inl U⟩
   .exact .inl ⟨h.1,.inr h.2⟩
   .exact .inr h
  .rintro(⟨h1,h2|h2⟩|h)
   .left;cases p;simp_all
   .exact .inr (.inl ⟨h1,h2⟩)
   .exact .inr (.inr h)
theorem GU {Wf b n:Nat} {o:Option Cw}:∀ {l:ZV},aM Wf b n o l=true->∀p∈l,Nat.testBit Wf p.1=false->fg b p.2.1=false\/p.2.2 n o=true
 |q::l,h,p,hp,ha=>by
  simp only[aM]at h;cases hq:Nat.testBit Wf q.1 with
  |true=>
   rw[hq]at h;rcases Qk.1 hp with rfl|hp
   .rw[hq]at ha;cases ha
   .exact GU h p hp ha
  |false=>
   rw[hq]at h;simp only[cond_false]at h;cases hh:fg b q.2.1 with
   |true=>
    rw[hh]at h;simp only[cond_true,Qf]at h;rcases Qk.1 hp with rfl|hp
    .exact .inr h.1
    .exact GU h.2 p hp ha
   |false=>
    rw[hh]at h;rcases Qk.1 hp with rfl|hp
    .exact .inl hh
    .exact GU h p hp ha
theorem Ja {Wf next n:Nat} {H:Tr Cw} {q:aW}:∀ {l:List Nat},XN Wf next n H q l=true->∀b∈l,b<next/\(∀j,(j,b)∈q.news->Nat.testBit Wf j=true)/\
 ∀p∈q.looked,Nat.testBit Wf p.1=false->fg b p.2.1=false\/p.2.2 n (H.get b)=true
 |a::l,h,b,hb=>by
  simp only[XN,Qf,Bool.not_eq_true']at h;rcases Qk.1 hb with rfl|hb
  .refine⟨by simpa[Nat.blt_eq]using h.1.1.1,fun j hj=>?_,GU h.1.2⟩;cases hq:Nat.testBit Wf j with
   |true=>rfl
   |false=>rw[P1.2 ⟨j,hj,hq⟩]at h;simp at h
  .exact Ja h.2 b hb
theorem TE {d:Option Nat} {nt:Nat} {v:AV} {T T':Tr AV} (h:yw d nt v T=some T'):(∀t,d=some t->t<nt)/\∀t,T'.get t=if d=some t then some v else T.get t:=by
 unfold yw at h;split at h
 .next k=>
  cases hk:Nat.blt k nt with
  |false=>rw[hk]at h;cases h
  |true=>
   rw[hk]at h;cases h;refine⟨fun t ht=>(by cases ht;simpa[Nat.blt_eq]using hk),fun t=>?_⟩;show(T.set k (some v)).get t=_;rw[Ay];by_cases e:t=k
   .subst e;simp
   .have:¬k=t:=fun h=>e h.symm;simp[e,this]
 .simp_all
structure vt (nt:Nat) (d:jL) (q:aW) (r:Touch×AV×St) (q':aW):Prop where
 le:q.st.next<=r.2.2.next
 may:∀b∈r.2.2.log,b<q.st.next/\(∀j,(j,b)∈q.news->Nat.testBit d.Wf j=true)/\∀p∈q.looked,Nat.testBit d.Wf p.1=false->fg b p.2.1=false\/p.2.2 r.2.2.next (r.2.2.heap.get b)=true
 next:q'.st.next=r.2.2.next
 bound:q'.st.bound=q.st.bound
 log:q'.st.log=below q.st.bound r.2.2.log q.st.log
 heap:∀b,q'.st.heap.get b=if b∈r.2.2.log\/(q.st.next<=b/\b<r.2.2.next)then r.2.2.heap.get b else q.st.heap.get b
 news:∀j b,(j,b)∈q'.news↔(j=d.i/\(b∈r.2.2.log\/(q.st.next<=b/\b<r.2.2.next)))\/(j,b)∈q.news
 looked:∀p,p∈q'.looked↔p=(d.i,r.1,hZ d q r)\/p∈q.looked
 slot:∀t,d.o.dst=some t->t<nt
 T:∀t,q'.T.get t=if d.o.dst=some t then some r.2.1 else q.T.get t
theorem Qt {nt:Nat} {d:jL} {q q':aW} {r:Touch×AV×St} (h:W0 nt d q r=some q'):vt nt d q r q':=by
 unfold W0 at h;cases hc:(Nat.ble q.st.next r.2.2.next&&XN d.Wf q.st.next r.2.2.next r.2.2.heap q r.2.2.log)with
 |false=>rw[hc]at h;cases h
 |true=>
 rw[hc]at h;simp only[cond_true]at h;rw[Qf]at hc;obtain⟨T,hT,h⟩:=Qa.1 h;cases h;have hle:=Qc hc.1;obtain⟨h1,h2⟩:=TE hT;refine⟨hle,Ja hc.2,rfl,rfl,rfl,fun b=>?_,fun j b=>?_,fun p=>by simp,h1,h2⟩
 .grind [Bz,Iv,W8]
 .grind [PY,Iv]
noncomputable def YU (E:Env) (ops:List Oper) (i:Nat) (o:Oper):jL:= {o,so:=Xz E o.type o.op,i,Wf:=(nth (Wg ops) i).getD 0,tmps:=tmpsOf o.op.operands.toList}
structure cW (E:Env) (ops:List Oper) (ev:Ev) (fr:Fr) (f:Nat->aW) (r:Nat->Touch×AV×St) (X:Nat->Prop):Prop where
 run:∀i o,¬X i->ops[i]?=some o->WO E ops ev fr (YU E ops i o) (f i)=some (r i)
 put:∀i o,ops[i]?=some o->vt fr.nt (YU E ops i o) (f i) (r i) (f (i+1))
theorem J1 {E:Env} {ops:List Oper} {ev:Ev} {fr:Fr}:∀ {l:List Oper} {i0:Nat} {q q':aW},eR E ops ev fr (Yu E (Wg ops) l i0) q=some q'->
 ∃(f:Nat->aW) (r:Nat->Touch×AV×St),f i0=q/\f (i0+l.length)=q'/\∀k o,l[k]?=some o->WO E ops ev fr (YU E ops (i0+k) o) (f (i0+k))=some (r (i0+k))/\
  vt fr.nt (YU E ops (i0+k) o) (f (i0+k)) (r (i0+k)) (f (i0+k+1))
 | [],i0,q,q',h=>by
  cases h;exact⟨fun _=>q,fun _=>(.nothing,.CP,q.st),rfl,rfl,fun k o h=>by simp at h⟩
 |o::l,i0,q,q',h=>by
  simp only[Yu,eR]at h;obtain⟨r0,oX,h⟩:=Qa.1 h;obtain⟨q1,fo,h⟩:=Qa.1 h;obtain⟨f,r,h1,h2,h3⟩:=J1 h;refine⟨fun n=>if n=i0 then q else f n,fun n=>if n=i0 then r0 else r n,by simp,?_,fun k o' ho=>?_⟩
  .have:i0+(o::l).length≠i0:=by simp
   simp only[this,if_false];rw[<-h2];congr 1;simp;omega
  .cases k with
   |zero=>
    simp at ho;subst ho;have YM:i0+1≠i0:=by omega
    simp only[Nat.add_zero,if_true,YM,if_false,h1];exact⟨oX,Qt fo⟩
   |succ k=>
    have:=h3 k o' (by simpa using ho);have e1:i0+(k+1)=i0+1+k:=by omega
    have n1:i0+1+k≠i0:=by omega
    have n2:i0+1+k+1≠i0:=by omega
    simp only[e1,n1,n2,if_false];exact this
theorem IK {E:Env} {ops:List Oper} {ev:Ev} {fr:Fr} {p:Nat}:∀ {l:List Oper} {i0:Nat} {q q':aW},br E ops ev fr p (Yu E (Wg ops) l i0) q=some q'->
 ∃(f:Nat->aW) (r:Nat->Touch×AV×St),f i0=q/\f (i0+l.length)=q'/\∀k o,l[k]?=some o->(Nat.testBit (YU E ops (i0+k) o).Wf p=false->WO E ops ev fr (YU E ops (i0+k) o) (f (i0+k))=some (r (i0+k)))/\
  vt fr.nt (YU E ops (i0+k) o) (f (i0+k)) (r (i0+k)) (f (i0+k+1))/\(r (i0+k)).2.2.next=(f (i0+k)).st.next/\(r (i0+k)).2.2.log=[]
 | [],i0,q,q',h=>by
  cases h;exact⟨fun _=>q,fun _=>(.nothing,.CP,q.st),rfl,rfl,fun k o h=>by simp at h⟩
 |o::l,i0,q,q',h=>by
  have one:∃r0 q1,(Nat.testBit (YU E ops i0 o).Wf p=false->WO E ops ev fr (YU E ops i0 o) q=some r0)/\W0 fr.nt (YU E ops i0 o) q r0=some q1/\r0.2.2.next=q.st.next/\r0.2.2.log=[]/\
   br E ops ev fr p (Yu E (Wg ops) l (i0+1)) q1=some q':=by
   change (bif Nat.testBit (YU E ops i0 o).Wf p then _ else _)=_ at h;cases hb:Nat.testBit (YU E ops i0 o).Wf p with
   |true=>
    rw[hb]at h;obtain⟨q1,h1,h2⟩:=Qa.1 h;exact⟨_,q1,(fun h=>by cases h),h1,rfl,rfl,h2⟩
   |false=>
    rw[hb]at h;obtain⟨r0,h1,h2⟩:=Qa.1 h;cases hc:(Nat.beq r0.2.2.next q.st.next&&tW r0.2.2.log)with
    |false=>rw[hc]at h2;cases h2
    |true=>
     rw[hc]at h2;obtain⟨q1,h3,h4⟩:=Qa.1 h2;rw[Qf]at hc;refine⟨r0,q1,fun _=>h1,h3,Qb hc.1,?_,h4⟩;cases hl:r0.2.2.log with
     |nil=>rfl
     |cons _ _=>rw[hl]at hc;cases hc.2
  obtain⟨r0,q1,oX,fo,nL,eV,cz⟩:=one;obtain⟨f,r,h1,h2,h3⟩:=IK cz;refine⟨fun n=>if n=i0 then q else f n,fun n=>if n=i0 then r0 else r n,by simp,?_,fun k o' ho=>?_⟩
  .have:i0+(o::l).length≠i0:=by simp
   simp only[this,if_false];rw[<-h2];congr 1;simp;omega
  .cases k with
   |zero=>
    simp at ho;subst ho;have YM:i0+1≠i0:=by omega
    simp only[Nat.add_zero,if_true,YM,if_false,h1];exact⟨oX,Qt fo,nL,eV⟩
   |succ k=>
    have:=h3 k o' (by simpa using ho);have e1:i0+(k+1)=i0+1+k:=by omega
    have n1:i0+1+k≠i0:=by omega
    have n2:i0+1+k+1≠i0:=by omega
    simp only[e1,n1,n2,if_false];exact this
theorem OC {Wf:Nat}:∀ {l:Wu},cS Wf l=true->∀p∈l,Nat.testBit Wf p.1=true
 | [],_,_,h=>by cases h
 |q::l,h,p,hp=>by
  simp only[cS,Qf]at h;cases hp with
  |head=>exact h.1
  |tail _ hp=>exact OC h.2 p hp
structure vu (E:Env) (ops:List Oper) (ev:Ev) (fr:Fr) (f:Nat->aW) (r:Nat->Touch×AV×St) (i0:Nat) (l:List Oper) (p:Nat) (v:AV):Prop where
 run:∀k o,l[k]?=some o->i0+k≠p->Nat.testBit (YU E ops (i0+k) o).Wf p=false\/i0+k<p->WO E ops ev fr (YU E ops (i0+k) o) (f (i0+k))=some (r (i0+k))
 put:∀k o,l[k]?=some o->vt fr.nt (YU E ops (i0+k) o) (f (i0+k)) (r (i0+k)) (f (i0+k+1))
 at_:∃k o,i0+k=p/\l[k]?=some o/\cR E ops ev fr (YU E ops p o) (f p)=some (v,(r p).2.2)/\(∀n∈(f p).news,Nat.testBit (YU E ops p o).Wf n.1=true)/\(r p).1= .all
 quiet:∀k,k<l.length->p<i0+k->(r (i0+k)).2.2.next=(f (i0+k)).st.next/\(r (i0+k)).2.2.log=[]
theorem FX {E:Env} {ops:List Oper} {ev:Ev} {fr:Fr} {T0:Tr AV}:∀ {l:List Oper} {i0:Nat} {q:aW} {rs:List bO},iX (Zg E ops ev fr T0 (Yu E (Wg ops) l i0) q)=some rs->
 (∃q',eR E ops ev fr (Yu E (Wg ops) l i0) q=some q'/\rs=[⟨.normal,fr,q'.T,q'.st⟩])\/
 ∃f r p v,f i0=q/\vu E ops ev fr f r i0 l p v/\rs=[⟨.panic v,fr,YP ops T0,(f (i0+l.length)).st⟩]
 | [],i0,q,rs,h=>by
  cases h;exact .inl ⟨q,U,U⟩
 |o::l,i0,q,rs,h=>by
  change iX (match WO E ops ev fr (YU E ops i0 o) q with
   |some r=>match W0 fr.nt (YU E ops i0 o) q r with
    |some q'=>Zg E ops ev fr T0 (Yu E (Wg ops) l (i0+1)) q'
    |none=> .stuck
   |none=>kE E ops ev fr T0 (YU E ops i0 o) (Yu E (Wg ops) l (i0+1)) q (cR E ops ev fr (YU E ops i0 o) q))=_ at h
  cases hr:WO E ops ev fr (YU E ops i0 o) q with
  |some r0=>
   rw[hr]at h;simp only at h;cases hp:W0 fr.nt (YU E ops i0 o) q r0 with
   |none=>rw[hp]at h;cases h
   |some q1=>
    rw[hp]at h;simp only at h;rcases FX h with⟨q',h1,h2⟩|⟨f,r,p,v,hf,hs,h2⟩
    .refine .inl ⟨q',?_,h2⟩;show(WO E ops ev fr (YU E ops i0 o) q).bind _=_;rw[hr];show(W0 fr.nt (YU E ops i0 o) q r0).bind _=_;rw[hp];exact h1
    .obtain⟨kp,op,zG,_⟩:=hs.at_;have s8:i0+1<=p:=by omega
     have ne:∀k,i0+1+k≠i0:=fun k=>by omega
     have ne2:∀k,i0+1+k+1≠i0:=fun k=>by omega
     refine .inr ⟨fun n=>if n=i0 then q else f n,fun n=>if n=i0 then r0 else r n,p,v,by simp,⟨fun k o' ho hn hx=>?_,fun k o' ho=>?_,?_,fun k hk Co=>?_⟩,?_⟩
     .cases k with
      |zero=>
       simp at ho;subst ho;simp only[Nat.add_zero,if_true];exact hr
      |succ k=>
       have e1:i0+(k+1)=i0+1+k:=by omega
       rw[e1]at hn hx|-;simp only[ne,if_false];exact hs.run k o' (by simpa using ho) hn hx
     .cases k with
      |zero=>
       simp at ho;subst ho;have YM:i0+1≠i0:=by omega
       simp only[Nat.add_zero,if_true,YM,if_false,hf];exact Qt hp
      |succ k=>
       have e1:i0+(k+1)=i0+1+k:=by omega
       simp only[e1,ne,ne2,if_false];exact hs.put k o' (by simpa using ho)
     .obtain⟨k,o',hk,ho,h3⟩:=hs.at_;have hpn:p≠i0:=by omega
      refine⟨k+1,o',by omega,by simpa using ho,?_⟩;simp only[hpn,if_false];exact h3
     .cases k with
      |zero=>omega
      |succ k=>
       have e1:i0+(k+1)=i0+1+k:=by omega
       rw[e1]at Co|-;simp only[ne,if_false];exact hs.quiet k (by simpa using hk) Co
     .have YM:i0+(o::l).length≠i0:=by simp
      simp only[YM,if_false];rw[h2];have:i0+(o::l).length=i0+1+l.length:=by simp;omega
      rw[this]
  |none=>
   rw[hr]at h;simp only at h;cases hq:cR E ops ev fr (YU E ops i0 o) q with
   |none=>rw[hq]at h;cases h
   |some vs=>
    obtain⟨v,s⟩:=vs;rw[hq]at h;unfold kE at h;simp only at h;cases ha:cS (YU E ops i0 o).Wf q.news with
    |false=>rw[ha]at h;cases h
    |true=>
     rw[ha]at h;simp only[cond_true]at h;cases hd:(W0 fr.nt (YU E ops i0 o) q (.all,.tuple [],s)).bind (br E ops ev fr (YU E ops i0 o).i (Yu E (Wg ops) l (i0+1)))with
     |none=>rw[hd]at h;cases h
     |some q'=>
      rw[hd]at h;cases h;obtain⟨q1,fo,cz⟩:=Qa.1 hd;obtain⟨f,r,h1,h2,h3⟩:=IK (p:=i0) cz;have ne:∀k,i0+1+k≠i0:=fun k=>by omega
      have ne2:∀k,i0+1+k+1≠i0:=fun k=>by omega
      refine .inr ⟨fun n=>if n=i0 then q else f n,fun n=>if n=i0 then(.all,.tuple [],s)else r n,i0,v,by simp,⟨fun k o' ho hn hx=>?_,fun k o' ho=>?_,⟨0,o,rfl,rfl,by simpa using hq,by simpa using OC ha,by simp⟩,fun k hk Co=>?_⟩,?_⟩
      .cases k with
       |zero=>exact absurd rfl hn
       |succ k=>
        have e1:i0+(k+1)=i0+1+k:=by omega
        rw[e1]at hn hx|-;simp only[ne,if_false];exact(h3 k o' (by simpa using ho)).1 (hx.resolve_right (by omega))
      .cases k with
       |zero=>
        simp at ho;subst ho;have YM:i0+1≠i0:=by omega
        simp only[Nat.add_zero,if_true,YM,if_false,h1];exact Qt fo
       |succ k=>
        have e1:i0+(k+1)=i0+1+k:=by omega
        simp only[e1,ne,ne2,if_false];exact(h3 k o' (by simpa using ho)).2.1
      .cases k with
       |zero=>omega
       |succ k=>
        have e1:i0+(k+1)=i0+1+k:=by omega
        rw[e1];simp only[ne,if_false];exact(h3 k _ (Qi (show k<l.length by simpa using hk))).2.2
      .have YM:i0+(o::l).length≠i0:=by simp
       simp only[YM,if_false];have:i0+(o::l).length=i0+1+l.length:=by simp;omega
       rw[this,h2]
section
variable {E : Env} {ops : List Oper} {ev : Ev} {fr : Fr} {f : Nat -> aW} {r : Nat -> Touch × AV × St} {X : Nat -> Prop} (hs : cW E ops ev fr f r X)
def Wr (f:Nat->aW) (r:Nat->Touch×AV×St) (i b:Nat):Prop:=b∈(r i).2.2.log\/((f i).st.next<=b/\b<(r i).2.2.next)
include hs
theorem LV {i:Nat} (hi:i<ops.length):(f i).st.next<=(f (i+1)).st.next:=by
 have:=hs.put i _ (Qi hi);rw[this.next];exact this.le
theorem Bt {i j : Nat} (h : i <= j) (hj : j <= ops.length) : (f i).st.next <= (f j).st.next := by
  induction j with
  | zero => have : i = 0 := by omega
            subst this; exact Qj _
  | succ j ih =>
    rcases Nat.lt_or_ge i (j + 1) with h' | h'
    . grind [Nat.le_trans, LV]
    . have : i = j + 1 := by omega
      subst this; exact Qj _
theorem Nh {i:Nat} (hi:i<=ops.length):(f i).st.bound=(f 0).st.bound:=by
 induction i with
 |zero=>rfl
 |succ i ih=>rw[(hs.put i _ (Qi (show i<ops.length by omega))).bound,ih (by omega)]
theorem LW (h0:(f 0).news=[]) {i:Nat} (hi:i<=ops.length) (j b:Nat):(j,b)∈(f i).news↔j<i/\Wr f r j b:=by
 induction i with
 |zero=>rw[h0];simp
 |succ i ih=>
  have hp:=hs.put i _ (Qi (show i<ops.length by omega));rw[hp.news,ih (by omega)];show(j=i/\_)\/_↔_;constructor
  .rintro(⟨rfl,h⟩|⟨h1,h2⟩)
   .exact⟨by omega,h⟩
   .exact⟨by omega,h2⟩
  .rintro⟨h1,h2⟩;rcases Nat.lt_or_ge j i with h|h
   .exact .inr ⟨h,h2⟩
   .have:j=i:=by omega
    subst this;exact .inl ⟨U,h2⟩
theorem R3 {i j:Nat} (hi:i<=ops.length) (hj:j<i) {o:Oper} (ho:ops[j]?=some o):(j,(r j).1,hZ (YU E ops j o) (f j) (r j))∈(f i).looked:=by
 induction i with
 |zero=>omega
 |succ i ih=>
  have hp:=hs.put i _ (Qi (show i<ops.length by omega));rw[hp.looked];rcases Nat.lt_or_ge j i with h|h
  .exact .inr (ih (by omega) h)
  .have:j=i:=by omega
   subst this;rw[Qi (show j<ops.length by omega)]at ho;cases ho;exact .inl U
theorem Tv {i j : Nat} (h : i <= j) (hj : j <= ops.length) : ∀ b ∈ (f i).st.log, b ∈ (f j).st.log := by
  induction j with
  | zero => have : i = 0 := by omega
            subst this; exact fun _ h => h
  | succ j ih =>
    rcases Nat.lt_or_ge i (j + 1) with h' | h'
    . intro b hb
      rw [(hs.put j _ (Qi (show j < ops.length by omega))).log];exact B3 (.inr (ih (by omega) (by omega) b hb))
    . have : i = j + 1 := by omega
      subst this; exact fun _ h => h
theorem Qq {i:Nat} (hi:i<ops.length) {b:Nat} (hb:b∈(r i).2.2.log):aq (f 0).st (f ops.length).st.log b:=by
 have hp:=hs.put i _ (Qi hi);rcases Nat.lt_or_ge b (f 0).st.bound with h|h
 .left;refine Tv hs (show i+1<=ops.length by omega) (Qj _) b ?_;rw[hp.log];refine B3 (.inl ⟨hb,?_⟩);rw[Nh hs (by omega)];exact h
 .exact .inr h
theorem R4 (h0:∀b,(f 0).st.next<=b->(f 0).st.heap.get b=none) {i:Nat} (hi:i<=ops.length):∀b,(f i).st.next<=b->(f i).st.heap.get b=none:=by
 induction i with
 |zero=>exact h0
 |succ i ih=>
  intro b hb;have hp:=hs.put i _ (Qi (show i<ops.length by omega));rw[hp.heap];have hle:=hp.le;rw[hp.next]at hb;rw[if_neg]
  .exact ih (by omega) b (by omega)
  .rintro(h|⟨_,h⟩)
   .have:=(hp.may b h).1;omega
   .omega
end
def Cx.jR (C:Cx) (m:Nat):Cx:= {C with D:=fun b=>C.D b/\b<m,G:=fun b n=>C.G b n/\b<m}
theorem Jh {C C':Cx} (e:Ext C C') {m m':Nat} (h:m<=m'):Ext (C.jR m) (C'.jR m'):=
 ⟨fun b hb=>⟨e.D b hb.1,by have:=hb.2;omega⟩,fun b hb=>e.pl b hb.1,e.M,fun b n hb=>⟨e.G b n hb.1,by have:=hb.2;omega⟩,fun b n hb=>e.gh b n hb.1,e.X⟩
theorem Ur {C:Cx} {m:Nat}:Ext (C.jR m) C:=⟨fun _ hb=>hb.1,fun _ _=>rfl,fun _ _ h=>h,fun _ _ h=>h.1,fun _ _ _=>rfl,fun _ h=>h⟩
open Classical in
noncomputable def WU (f:Nat->aW) (r:Nat->Touch×AV×St) (D:Nat->Prop):Nat->Nat->Option Cw
 |0,b=>(f 0).st.heap.get b
 |i+1,b=>if D i/\Wr f r i b then(r i).2.2.heap.get b else WU f r D i b
open Classical in
noncomputable def cY (f:Nat->aW) (r:Nat->Touch×AV×St) (D:Nat->Prop):Nat->Nat->Nat
 |0,_=>(f 0).st.next
 |i+1,b=>if D i/\Wr f r i b then(f (i+1)).st.next else cY f r D i b
section
variable {E : Env} {ops : List Oper} {ev : Ev} {fr : Fr} {f : Nat -> aW} {r : Nat -> Touch × AV × St}
theorem Hh {D D':Nat->Prop} {b:Nat}:∀ {i:Nat},(∀j,j<i->Wr f r j b->(D j↔D' j))->WU f r D i b=WU f r D' i b/\cY f r D i b=cY f r D' i b
 |0,_=>⟨rfl,rfl⟩
 |i+1,h=>by
  obtain⟨h1,h2⟩:=Hh (i:=i) fun j hj=>h j (by omega);simp only[WU,cY];have:(D i/\Wr f r i b)↔(D' i/\Wr f r i b):=and_congr_left fun hw=>h i (by omega) hw;by_cases hd:D i/\Wr f r i b
  .rw[if_pos hd,if_pos (this.1 hd),if_pos hd,if_pos (this.1 hd)];exact⟨rfl,rfl⟩
  .have ri:=fun x=>hd (this.2 x);rw[if_neg hd,if_neg ri,if_neg hd,if_neg ri];exact⟨h1,h2⟩
theorem Eg {D : Nat -> Prop} {b i : Nat} : ∀ {n : Nat}, i <= n -> (∀ j, i <= j -> j < n -> D j -> ¬ Wr f r j b) -> WU f r D n b = WU f r D i b /\ cY f r D n b = cY f r D i b
  | 0, h, _ => by have : i = 0 := by omega
                  subst this; exact ⟨rfl, rfl⟩
  | n + 1, h, hn => by
    rcases Nat.lt_or_ge i (n + 1) with h' | h'
    . obtain ⟨h1, h2⟩ := Eg (n := n) (by omega) fun j hj hl => hn j hj (by omega)
      simp only [WU, cY];have : ¬ (D n /\ Wr f r n b) := fun x => hn n (by omega) (by omega) x.1 x.2;rw [if_neg this, if_neg this]; exact ⟨h1, h2⟩
    . have : i = n + 1 := by omega
      subst this; exact ⟨rfl, rfl⟩
variable {X : Nat -> Prop} (hs : cW E ops ev fr f r X)
include hs
theorem MF {b:Nat}:∀ {i:Nat},i<=ops.length->WU f r (fun _=>True) i b=(f i).st.heap.get b
 |0,_=>rfl
 |i+1,h=>by
  have hp:=hs.put i _ (Qi (show i<ops.length by omega));simp only[WU];rw[hp.heap,MF (by omega)];by_cases hw:Wr f r i b
  .rw[if_pos ⟨trivial,hw⟩];exact(if_pos hw).symm
  .rw[if_neg (fun x=>hw x.2)];exact(if_neg hw).symm
theorem vv {D:Nat->Prop} {b:Nat}:∀ {i:Nat},i<=ops.length->cY f r D i b<=(f i).st.next
 |0,_=>Qj _
 |i+1,h=>by
  simp only[cY];split
  .exact Qj _
  .exact Nat.le_trans (vv (by omega)) (LV hs (by omega))
theorem wr_lt {i b:Nat} (hi:i<ops.length) (h:Wr f r i b):b<(f (i+1)).st.next:=by
 have hp:=hs.put i _ (Qi hi);rcases h with h|h
 .exact Nat.lt_of_lt_of_le (hp.may b h).1 (LV hs hi)
 .rw[hp.next];exact h.2
theorem J3 {D:Nat->Prop} {b:Nat} {o:Cw} (h0:∀b o,(f 0).st.heap.get b=some o->b<(f 0).st.next):∀ {i:Nat},i<=ops.length->WU f r D i b=some o->b<cY f r D i b
 |0,_,h=>h0 b o h
 |i+1,hi,h=>by
  simp only[WU,cY]at h|-;split at h
  .next hd=>rw[if_pos hd];exact wr_lt hs (by omega) hd.2
  .next hd=>rw[if_neg hd];exact J3 h0 (by omega) h
theorem vw (t:Nat):∀ {i:Nat},i<=ops.length->(∃j o,j<i/\ops[j]?=some o/\o.dst=some t/\(f i).T.get t=some (r j).2.1)\/
 ((∀j o,j<i->ops[j]?=some o->o.dst≠some t)/\(f i).T.get t=(f 0).T.get t)
 |0,_=> .inr ⟨fun j o hj=>by omega,rfl⟩
 |i+1,hi=>by
  have ho:ops[i]?=some ops[i]:=Qi (show i<ops.length by omega);have hp:=hs.put i _ ho;have hT:(f (i+1)).T.get t=if ops[i].dst=some t then some (r i).2.1 else(f i).T.get t:=hp.T t;by_cases hd:ops[i].dst=some t
  .exact .inl ⟨i,_,by omega,ho,hd,by rw[hT,if_pos hd]⟩
  .rw[if_neg hd]at hT;rcases vw t (i:=i) (by omega)with⟨j,o,hj,ry,ri,hg⟩|⟨h1,h2⟩
   .exact .inl ⟨j,o,by omega,ry,ri,by rw[hT];exact hg⟩
   .refine .inr ⟨fun j o hj ry=>?_,hT.trans h2⟩;rcases Nat.lt_or_ge j i with h|h
    .exact h1 j o h ry
    .have:j=i:=by omega
     subst this;rw[ho]at ry;cases ry;exact hd
end
theorem RW {d:Nat} {a:Oper} {l:List Oper} (h:mg d (a::l)=true):a.dst≠some d/\mg d l=true:=by
 unfold mg at h;rw[Qf]at h;refine⟨fun e=>?_,h.2⟩;have:=h.1;unfold jm at this;rw[e]at this;simp at this
theorem Qv {d:Nat}:∀ {l:List Oper},mg d l=true->∀o,o∈l->o.dst≠some d
 | [],_,_,ho=>by cases ho
 |a::l,h,o,ho=>by
  obtain⟨h1,h2⟩:=RW h;cases ho with
  |head=>exact h1
  |tail _ ho=>exact Qv h2 o ho
theorem KK {ops:List Oper} (h:Xb ops=true) {i j t:Nat} {o p:Oper} (hi:ops[i]?=some o) (hj:ops[j]?=some p) (ho:o.dst=some t) (hp:p.dst=some t):i=j:=by
 have key:∀ {i j:Nat} {o p:Oper},ops[i]?=some o->ops[j]?=some p->o.dst=some t->p.dst=some t->¬i<j:=by
  intro i j o p hi hj ho hp Co;have:=Hd h hi;unfold qj at this;simp only[Qf,ho]at this;have Yw:p∈ops.drop (i+1):=by
   have:(ops.drop (i+1))[j-(i+1)]?=some p:=by rw[List.getElem?_drop];rw[<-hj];congr 1;omega
   exact List.mem_of_getElem? this
  exact Qv this.1.2 p Yw hp
 have h1:=key hi hj ho hp;have h2:=key hj hi hp ho;omega
theorem Nd {bs:List Nat} {i Wf t:Nat}:∀ {l:List Oper} {j:Nat},iO bs i Wf t l j=true->∀k o,l[k]?=some o->o.dst=some t->i=j+k\/Nat.testBit Wf (j+k)=true\/Nat.testBit ((nth bs (j+k)).getD 0) i=true
 |a::l,j,h,0,o,ho,hd=>by
  simp at ho;subst ho;simp only[iO,Qf,Bool.or_eq_true,Bool.not_eq_true']at h;rcases h.1 with((h1|h1)|h1)|h1
  .exact .inl (Qb h1)
  .simp only[jm,hd]at h1;rw[Nat.beq_refl]at h1;cases h1
  .exact .inr (.inl h1)
  .exact .inr (.inr h1)
 |a::l,j,h,k+1,o,ho,hd=>by
  simp only[iO,Qf]at h;have:=Nd h.2 k o (by simpa using ho) hd;rw[show j+(k+1)=j+1+k by omega];exact this
 | [],_,_,_,_,ho,_=>by simp at ho
theorem IC {ops:List Oper} {bs:List Nat} {i Wf:Nat}:∀ {l:List Nat},jM ops bs i Wf l=true->∀t∈l,iO bs i Wf t ops 0=true
 |a::l,h,t,ht=>by
  simp only[jM,Qf]at h;rcases Qk.1 ht with rfl|ht
  .exact h.1
  .exact IC h.2 t ht
theorem vy {ops:List Oper} (h:Xb ops=true) {i j t:Nat} {o p:Oper} (hi:ops[i]?=some o) (ht:t∈tmpsOf o.op.operands.toList) (hj:ops[j]?=some p) (hp:p.dst=some t):i=j\/ep ops i j\/ep ops j i:=by
 have:=Hd h hi;unfold qj at this;simp only[Qf]at this;have:=Nd (IC this.1.1.1 t ht) j p hj hp;simpa[ep]using this
theorem UI {ops:List Oper} (h:Xb ops=true) {i:Nat} {o:Oper} (hi:ops[i]?=some o) {g:Nat×Bool} (hg:o.guard=some g):ep ops i g.1:=by
 have:=Hd h hi;unfold qj at this;simp only[Qf,hg]at this;exact this.2
section
variable (f : Nat -> aW) (r : Nat -> Touch × AV × St) (n : Nat)
def pd (b:Nat):Prop:=aq (f 0).st (f n).st.log b
structure Inv (C0:Cx) (w0:World) (D:Nat->Prop) (C:Cx) (w:World):Prop where
 dn:∀i,D i->i<n
 ext:Ext C0 C
 heap:∀b o,WU f r D n b=some o->C.D b/\∃x,w.heap[(C.pl b).Ci]?=some x/\OR (C.jR (cY f r D n b)) b o x
 inj:∀b b' o o',WU f r D n b=some o->WU f r D n b'=some o'->(C.pl b).Ci=(C.pl b').Ci->b=b'
 num:∀b,C.D b->C0.D b\/∃j,D j/\(f j).st.next<=b/\b<(r j).2.2.next
 kG:∀Ci ms,C.M Ci=some ms->∃c e fr,w.heap[Ci]?=some (.cells c e fr)/\c.toList=ms
 apart:∀b o,WU f r D n b=some o->C.M (C.pl b).Ci=none
 stamps:∀b k,C.G b k->C.D b
 there:∀k,C.X k->k<w.heap.size
 WS:∀b,C.D b->C.X (C.pl b).Ci
 XP:∀Ci ms,C.M Ci=some ms->C.X Ci
 oe:∀b k,C.G b k->C0.G b k\/∃i,D i/\Wr f r i b
 size:w0.heap.size<=w.heap.size
 frame:∀Ci,Ci<w0.heap.size->(∀b o,(f 0).st.heap.get b=some o->pd f n b->(C0.pl b).Ci≠Ci)->w.heap[Ci]?=w0.heap[Ci]?
 own:∀b o,WU f r D n b=some o->(C0.D b/\∃o0,(f 0).st.heap.get b=some o0)\/w0.heap.size<=(C.pl b).Ci\/∃b0 o0,(f 0).st.heap.get b0=some o0/\pd f n b0/\(C0.pl b0).Ci=(C.pl b).Ci
 cu:∀Ci ms,C.M Ci=some ms->C0.M Ci=some ms\/w0.heap.size<=Ci\/∃b0 o0,(f 0).st.heap.get b0=some o0/\pd f n b0/\(C0.pl b0).Ci=Ci
 YQ:w.tape=w0.tape/\w.os=w0.os/\w.output=w0.output
end
open Classical in
noncomputable def Cx.join (C C':Cx):Cx:=
 {pl:=fun b=>if C.D b then C.pl b else C'.pl b,M:=C'.M,D:=fun b=>C.D b\/C'.D b,gh:=fun b k=>if C.G b k then C.gh b k else C'.gh b k,G:=fun b k=>C.G b k\/C'.G b k,X:=C'.X}
section
variable {E : Env} {ops : List Oper} {ev : Ev} {fr : Fr} {f : Nat -> aW} {r : Nat -> Touch × AV × St} {X : Nat -> Prop} (hs : cW E ops ev fr f r X)
include hs
open Classical in
theorem Inv.step (X2:Xb ops=true) (bM:(f 0).news=[]) {C0:Cx} {w0:World} (aO:W2 C0 (f 0).st w0) {D:Nat->Prop} {C:Cx} {w:World} (h:Inv f r ops.length C0 w0 D C w) {d:Nat} (hd:d<ops.length) (aB:¬D d)
 (X7:∀i j,D i->ep ops i j->D j) {s s':St} (Z5:(r d).2.2.next=s'.next) (oZ:(r d).2.2.log=s'.log) (aX:∀b,Wr f r d b->(r d).2.2.heap.get b=s'.heap.get b) (rD:s.next=(f d).st.next) (hsb:s.bound=(f d).st.next) (zc:s.log=[])
 (ZP:∀b o,s.heap.get b=some o->WU f r D ops.length b=some o) (hSs:W2 (C.jR (f d).st.next) s w) {C1:Cx} {w':World} (t:Cu (C.jR (f d).st.next) s w C1 s' w'):
 Inv f r ops.length C0 w0 (fun k=>D k\/k=d) (C.join C1) w'/\Ext C (C.join C1)/\Ext C1 ((C.join C1).jR (f (d+1)).st.next):=by
 have hp:=hs.put d _ (Qi hd);have hnext:(f (d+1)).st.next=s'.next:=by rw[<-Z5];exact hp.next
 have hle:(f d).st.next<=s'.next:=by rw[<-Z5];exact hp.le
 have q9:∀b o,(f 0).st.heap.get b=some o->b<(f 0).st.next:=fun b o hb=>aO.fresh b (aO.live b o hb).1;have aU:∀b,C1.D b->b<s'.next:=t.st.fresh;have k1:∀b,C1.D b->C.D b->b<(f d).st.next:=by
  intro b h1 h2;rcases Nat.lt_or_ge b (f d).st.next with hl|hl
  .exact hl
  .exfalso;rcases h.num b h2 with h0|⟨j,hj,hj1,hj2⟩
   .have a1:=aO.fresh b h0;have a2:=Bt hs (Qm d) (Nat.le_of_lt hd);omega
   .have pf:=h.dn j hj;have sU:=hs.put j _ (Qi pf);have hjx:=sU.next;rcases Nat.lt_trichotomy j d with Co|rfl|hgt
    .have:=Bt hs (show j+1<=d by omega) (Nat.le_of_lt hd);omega
    .exact aB hj
    .have:=Bt hs (show d+1<=j by omega) (Nat.le_of_lt pf);have:=aU b h1;omega
 have hold:∀b,C1.D b->C.D b\/(f d).st.next<=b:=by
  intro b hb;rcases t.iS b hb with h1|h1
  .exact .inl h1.1
  .rw[rD]at h1;exact .inr h1
 have e1:Ext C (C.join C1):=by
  refine⟨fun _ h=> .inl h,fun b hb=>by simp[Cx.join,hb],fun Ci ms hm=>?_,fun _ _ h=> .inl h,fun b k hb=>by simp[Cx.join,hb],fun k hk=>t.ext.X k hk⟩;exact t.ext.M Ci ms hm
 have e2:Ext C1 (C.join C1):=by
  refine⟨fun _ h=> .inr h,fun b hb=>?_,fun _ _ h=>h,fun _ _ h=> .inr h,fun b k hb=>?_,fun _ h=>h⟩
  .by_cases hc:C.D b
   .have:=t.ext.pl b ⟨hc,k1 b hb hc⟩;simp only[Cx.join,hc,if_true];exact this.symm
   .simp[Cx.join,hc]
  .by_cases hc:C.G b k
   .have fM:=t.st.stamps b k hb;have:=t.ext.gh b k ⟨hc,k1 b fM (h.stamps b k hc)⟩;simp only[Cx.join,hc,if_true];exact this.symm
   .simp[Cx.join,hc]
 have e4:Ext C1 ((C.join C1).jR (f (d+1)).st.next):=by
  refine⟨fun b hb=>⟨.inr hb,by rw[hnext];exact aU b hb⟩,fun b hb=>e2.pl b hb,fun _ _ h=>h,fun b k hb=>⟨.inr hb,by rw[hnext];exact aU b (t.st.stamps b k hb)⟩,fun b k hb=>e2.gh b k hb,fun _ h=>h⟩
 have o7:∀b,Wr f r d b↔b∈s'.log\/((f d).st.next<=b/\b<s'.next):=by
  intro b;unfold Wr;rw[Z5,oZ]
 have cw:∀b o,s.heap.get b=some o->aq s s'.log b->b∈s'.log:=by
  intro b o hb hm;rcases hm with hm|hm
  .exact hm
  .rw[hsb]at hm;have:=(hSs.live b o hb).1.2;omega
 have zH:∀b,Wr f r d b->∀j,d+1<=j->j<ops.length->D j->¬Wr f r j b:=by
  intro b hb j hj pf ye hw;have sU:=hs.put j _ (Qi pf);have hmono:=Bt hs hj (Nat.le_of_lt pf);rcases hw with hw|hw
  .have hnews:=(LW hs bM (Nat.le_of_lt pf) d b).2 ⟨by omega,hb⟩;exact aB (X7 j d ye ((sU.may b hw).2.1 d hnews))
  .have:=wr_lt hs hd hb;omega
 have ie:∀b,WU f r (fun k=>D k\/k=d) ops.length b=(if Wr f r d b then s'.heap.get b else WU f r D ops.length b)/\
  cY f r (fun k=>D k\/k=d) ops.length b=(if Wr f r d b then(f (d+1)).st.next else cY f r D ops.length b):=by
  intro b;by_cases hb:Wr f r d b
  .have WT:=Eg (f:=f) (r:=r) (D:=fun k=>D k\/k=d) (b:=b) (show d+1<=ops.length by omega) (fun j hj pf ye=>by
    rcases ye with ye|rfl
    .exact zH b hb j hj pf ye
    .omega)
   rw[WT.1,WT.2];simp only[WU,cY,or_true,true_and,hb,if_true,aX b hb,and_self]
  .have:=Hh (f:=f) (r:=r) (D:=fun k=>D k\/k=d) (D':=D) (b:=b) (i:=ops.length) (fun j _ hw=>by
    constructor
    .rintro(hj|rfl)
     .exact hj
     .exact absurd hw hb
    .exact .inl)
   rw[if_neg hb,if_neg hb];exact this
 have hlw:∀b o,WU f r D ops.length b=some o->(C.pl b).Ci<w.heap.size:=by
  intro b o hb;obtain⟨_,x,hx,_⟩:=h.heap b o hb;exact Bq hx
 have hkeep:∀b o,WU f r D ops.length b=some o->¬Wr f r d b->w'.heap[(C.pl b).Ci]?=w.heap[(C.pl b).Ci]?:=by
  intro b o hb hnw';refine t.frame _ (hlw b o hb) fun b2 o2 gw hm he=>?_;have hb2':=cw b2 o2 gw hm;have:=h.inj b2 b o2 o (ZP b2 o2 gw) hb he;subst this;exact hnw' ((o7 b2).2 (.inl hb2'))
 have pg:∀b o,Wr f r d b->s'.heap.get b=some o->C1.D b/\(C.join C1).pl b=C1.pl b:=fun b o _ hb=>⟨(t.st.live b o hb).1,e2.pl b (t.st.live b o hb).1⟩;have hG1:∀b k,C1.G b k->C.D b->¬Wr f r d b->C.G b k:=by
  intro b k hg hdb hnw';have fM:=t.st.stamps b k hg;have Co:=k1 b fM hdb;have:=(t.kept b ⟨hdb,Co⟩ (fun hm=>by
   rcases hm with hm|hm
   .exact hnw' ((o7 b).2 (.inl hm))
   .rw[hsb]at hm;omega)).2 k hg
  exact this.1
 have hownw:∀b o,Wr f r d b->s'.heap.get b=some o->(WU f r D ops.length b≠none/\C.D b/\C1.pl b=C.pl b)\/w.heap.size<=(C1.pl b).Ci\/∃b0 o0,WU f r D ops.length b0=some o0/\b0∈s'.log/\(C.pl b0).Ci=(C1.pl b).Ci:=by
  intro b o _ hb;rcases t.own b o hb with⟨du,o0,h0⟩|h1|⟨b0,o0,h0,hm,he⟩
  .exact .inl ⟨by rw[ZP b o0 h0];simp,du.1,t.ext.pl b du⟩
  .exact .inr (.inl h1)
  .exact .inr (.inr ⟨b0,o0,ZP b0 o0 h0,cw b0 o0 h0 hm,he⟩)
 have vz:∀b0 o0,WU f r D ops.length b0=some o0->b0∈s'.log->∀Ci,(C.pl b0).Ci=Ci->w0.heap.size<=Ci\/∃b1 o1,(f 0).st.heap.get b1=some o1/\pd f ops.length b1/\(C0.pl b1).Ci=Ci:=by
  intro b0 o0 h0 hm Ci he;have zI:pd f ops.length b0:=Qq hs hd (by rw[oZ];exact hm);rcases h.own b0 o0 h0 with⟨zJ,o1,h1⟩|h1|⟨b1,o1,h1,lF,he1⟩
  .exact .inr ⟨b0,o1,h1,zI,by rw[<-he,h.ext.pl b0 zJ]⟩
  .exact .inl (by rw[<-he];exact h1)
  .exact .inr ⟨b1,o1,h1,lF,he1.trans he⟩
 refine⟨⟨?_,h.ext.trans e1,?_,?_,?_,?_,?_,?_,t.st.there,?_,t.st.XP,?_,Nat.le_trans h.size t.size,?_,?_,?_,?_⟩,e1,e4⟩
 .rintro i (hi|rfl)
  .exact h.dn i hi
  .exact hd
 .
   intro b o hb;rw[(ie b).1]at hb;rw[(ie b).2];by_cases hw:Wr f r d b
   .rw[if_pos hw]at hb|-;obtain⟨du,x,hx,hr⟩:=t.st.live b o hb;refine⟨.inr du,x,by rw[e2.pl b du];exact hx,hr.mono e4 du fun k hk=>?_⟩;rcases hk.1 with j3|j3
    .exact t.ext.G b k ⟨j3,k1 b du (h.stamps b k j3)⟩
    .exact j3
   .rw[if_neg hw]at hb|-;obtain⟨du,x,hx,hr⟩:=h.heap b o hb;have Co:=J3 hs q9 (Qj _) hb;refine⟨.inl du,x,by rw[e1.pl b du,hkeep b o hb hw];exact hx,hr.mono (Jh e1 (Qj _)) ⟨du,Co⟩ fun k hk=>⟨?_,Co⟩⟩;rcases hk.1 with j3|j3
    .exact j3
    .exact hG1 b k j3 du hw
 .
   have mixed:∀b b' o o',Wr f r d b->s'.heap.get b=some o->¬Wr f r d b'->WU f r D ops.length b'=some o'->(C1.pl b).Ci=(C.pl b').Ci->False:=by
    intro b b' o o' hw hb tz ZL he;rcases hownw b o hw hb with⟨h1,h2,h3⟩|h1|⟨b0,o0,h0,hm,he0⟩
    .cases hc:WU f r D ops.length b with
     |none=>exact h1 hc
     |some o1=>
      have:=h.inj b b' o1 o' hc ZL (by rw[<-h3];exact he);subst this;exact tz hw
    .have:=hlw b' o' ZL;omega
    .have:=h.inj b0 b' o0 o' h0 ZL (he0.trans he);subst this;exact tz ((o7 b0).2 (.inl hm))
   intro b b' o o' hb ZL he;rw[(ie b).1]at hb;rw[(ie b').1]at ZL;by_cases hw:Wr f r d b
   .rw[if_pos hw]at hb;have p1:=(pg b o hw hb).2;by_cases tz:Wr f r d b'
    .rw[if_pos tz]at ZL;rw[p1,(pg b' o' tz ZL).2]at he;exact t.st.inj b b' o o' hb ZL he
    .rw[if_neg tz]at ZL;rw[p1,e1.pl b' (h.heap b' o' ZL).1]at he;exact(mixed b b' o o' hw hb tz ZL he).elim
   .rw[if_neg hw]at hb;have p1:=e1.pl b (h.heap b o hb).1;by_cases tz:Wr f r d b'
    .rw[if_pos tz]at ZL;rw[p1,(pg b' o' tz ZL).2]at he;exact(mixed b' b o' o tz ZL hw hb he.symm).elim
    .rw[if_neg tz]at ZL;rw[p1,e1.pl b' (h.heap b' o' ZL).1]at he;exact h.inj b b' o o' hb ZL he
 .
   rintro b (hb|hb)
   .rcases h.num b hb with h1|⟨j,h1,h2⟩
    .exact .inl h1
    .exact .inr ⟨j,.inl h1,h2⟩
   .rcases hold b hb with h1|h1
    .rcases h.num b h1 with h2|⟨j,h2,h3⟩
     .exact .inl h2
     .exact .inr ⟨j,.inl h2,h3⟩
    .exact .inr ⟨d,.inr U,h1,by rw[Z5];exact aU b hb⟩
 .exact fun Ci ms hm=>t.st.kG Ci ms hm
 .
   intro b o hb;rw[(ie b).1]at hb;by_cases hw:Wr f r d b
   .rw[if_pos hw]at hb;rw[(pg b o hw hb).2];exact t.st.apart b o hb
   .rw[if_neg hw]at hb;rw[e1.pl b (h.heap b o hb).1];show C1.M (C.pl b).Ci=none;cases hm:C1.M (C.pl b).Ci with
    |none=>rfl
    |some ms=>
     exfalso;rcases t.cu _ ms hm with h1|h1|⟨b0,o0,h0,uA,he⟩
     .have h1':C.M (C.pl b).Ci=some ms:=h1;rw[h.apart b o hb]at h1';cases h1'
     .have:=hlw b o hb;omega
     .have:=h.inj b0 b o0 o (ZP b0 o0 h0) hb he;subst this;exact hw ((o7 b0).2 (.inl (cw b0 o0 h0 uA)))
 .
   rintro b k (hg|hg)
   .exact .inl (h.stamps b k hg)
   .exact .inr (t.st.stamps b k hg)
 .
   rintro b (hb|hb)
   .rw[e1.pl b hb];exact t.ext.X _ (h.WS b hb)
   .rw[e2.pl b hb];exact t.st.WS b hb
 .
   rintro b k (hg|hg)
   .rcases h.oe b k hg with h1|⟨i,h1,h2⟩
    .exact .inl h1
    .exact .inr ⟨i,.inl h1,h2⟩
   .have fM:=t.st.stamps b k hg;by_cases hw:Wr f r d b
    .exact .inr ⟨d,.inr U,hw⟩
    .rcases hold b fM with h1|h1
     .rcases h.oe b k (hG1 b k hg h1 hw)with h2|⟨i,h2,h3⟩
      .exact .inl h2
      .exact .inr ⟨i,.inl h2,h3⟩
     .exact absurd ((o7 b).2 (.inr ⟨h1,aU b fM⟩)) hw
 .
   intro Ci ql hn;rw[<-h.frame Ci ql hn];refine t.frame Ci (Nat.lt_of_lt_of_le ql h.size) fun b2 o2 gw hm he=>?_;rcases vz b2 o2 (ZP b2 o2 gw) (cw b2 o2 gw hm) Ci he with h1|⟨b1,o1,h1,h2,h3⟩
   .omega
   .exact hn b1 o1 h1 h2 h3
 .
   intro b o hb;rw[(ie b).1]at hb;by_cases hw:Wr f r d b
   .rw[if_pos hw]at hb;rw[(pg b o hw hb).2];rcases hownw b o hw hb with⟨h1,h2,h3⟩|h1|⟨b0,o0,h0,hm,he0⟩
    .cases hc:WU f r D ops.length b with
     |none=>exact absurd hc h1
     |some o1=>
      rw[h3];exact h.own b o1 hc
    .exact .inr (.inl (Nat.le_trans h.size h1))
    .rcases vz b0 o0 h0 hm _ he0 with h1|h1
     .exact .inr (.inl h1)
     .exact .inr (.inr h1)
   .rw[if_neg hw]at hb;rw[e1.pl b (h.heap b o hb).1];exact h.own b o hb
 .
   intro Ci ms hm;rcases t.cu Ci ms hm with h1|h1|⟨b0,o0,h0,uA,he⟩
   .exact h.cu Ci ms h1
   .exact .inr (.inl (Nat.le_trans h.size h1))
   .rcases vz b0 o0 (ZP b0 o0 h0) (cw b0 o0 h0 uA) Ci he with h1|h1
    .exact .inr (.inl h1)
    .exact .inr (.inr h1)
 .exact⟨t.YQ.1.trans h.YQ.1,t.YQ.2.1.trans h.YQ.2.1,t.YQ.2.2.trans h.YQ.2.2⟩
end
section
variable {E : Env} {P : Program} {ops : Array Oper} {ev : Ev} {fr : Fr} {f : Nat -> aW} {r : Nat -> Touch × AV × St}
structure fS (ops:List Oper) (f:Nat->aW) (r:Nat->Touch×AV×St) (nt:Nat) (a0:Act) (D:Nat->Prop) (C:Cx) (a:Act):Prop where
 size:a.tmps.size=nt
 defers:a.defers=a0.defers
 slot:∀i o t,D i->ops[i]?=some o->o.dst=some t->∃x,a.tmps[t]?=some x/\VR (C.jR (f (i+1)).st.next) (r i).2.1 x
 rE:∀t,(∀i o,D i->ops[i]?=some o->o.dst≠some t)->a.tmps[t]?=a0.tmps[t]?
variable {X : Nat -> Prop} (hs : cW E ops.toList ev fr f r X)
include hs
theorem fS.step (X2:Xb ops.toList=true) {a0 a:Act} {D:Nat->Prop} {C C' C1:Cx} (h:fS ops.toList f r fr.nt a0 D C a) {d:Nat} {o:Oper} (ho:ops.toList[d]?=some o) (aB:¬D d) (e:Ext C C') (e4:Ext C1 (C'.jR (f (d+1)).st.next))
 {x:Value} (hv:VR C1 (r d).2.1 x):fS ops.toList f r fr.nt a0 (fun k=>D k\/k=d) C' (a.put o.dst x):=by
 have hp:=hs.put d o ho;have YZ:∀t,(a.put o.dst x).tmps[t]?=if o.dst=some t then some x else a.tmps[t]?:=by
  intro t;cases hd:o.dst with
  |none=>simp[Act.put]
  |some k=>
   have hk:k<fr.nt:=hp.slot k hd;simp only[Act.put,Array.getElem?_setIfInBounds,Option.some.injEq];by_cases hkt:k=t
   .subst hkt;simp[h.size,hk]
   .simp[hkt]
 refine⟨by rw[Qs];exact h.size,by rw[KH];exact h.defers,?_,?_⟩
 .rintro i p t (hi|rfl) yk kH
  .have YM:o.dst≠some t:=fun hot=>by
    have:=KK X2 yk ho kH hot;subst this;exact aB hi
   obtain⟨y,hy,gz⟩:=h.slot i p t hi yk kH;exact⟨y,by rw[YZ,if_neg YM];exact hy,gz.mono (Jh e (Qj _))⟩
  .rw[ho]at yk;cases yk;exact⟨x,by rw[YZ,if_pos kH],hv.mono e4⟩
 .intro t ht;rw[YZ,if_neg (ht d o (.inr rfl) ho)];exact h.rE t fun i p hi yk=>ht i p (.inl hi) yk
theorem fS.reads (X2:Xb ops.toList=true) {a0 a:Act} {D:Nat->Prop} {C0 C:Cx} (h:fS ops.toList f r fr.nt a0 D C a) (e0:Ext C0 C) (ph:∀b,C0.D b->b<(f 0).st.next) (hst0:∀b k,C0.G b k->C0.D b)
 (ir:TR C0 fr.nt (f 0).T a0.tmps) {d:Nat} (hd:d<ops.toList.length) (aB:¬D d) (X7:∀i j,D i->ep ops.toList i j->D j) (hdn:∀i,D i->i<ops.toList.length) (ZX:∀j,ep ops.toList d j->D j) {t:Nat}
 (hw:∀j p,ops.toList[j]?=some p->p.dst=some t->d=j\/ep ops.toList d j\/ep ops.toList j d) {v:AV} (hv:(f d).T.get t=some v):∃x,a.tmps[t]?=some x/\VR (C.jR (f d).st.next) v x:=by
 rcases vw hs t (Nat.le_of_lt hd)with⟨j,p,hj,sU,kH,hg⟩|⟨h1,h2⟩
 .rw[hg]at hv;cases hv;have ye:D j:=by
   rcases hw j p sU kH with rfl|h1|h1
   .omega
   .exact ZX j h1
   .have:=OB X2 j d (by omega) h1;omega
  obtain⟨x,hx,aw⟩:=h.slot j p t ye sU kH;exact⟨x,hx,aw.mono (Jh (.refl C) (Bt hs (show j+1<=d by omega) (Nat.le_of_lt hd)))⟩
 .have Z4:∀i p,D i->ops.toList[i]?=some p->p.dst≠some t:=by
   intro i p hi yk kH;rcases Nat.lt_trichotomy i d with Co|rfl|hgt
   .exact h1 i p Co yk kH
   .exact aB hi
   .grind [OB]
  rw[h2]at hv;obtain⟨x,hx,aw⟩:=ir.2 t v hv;refine⟨x,by rw[h.rE t Z4];exact hx,aw.mono ?_⟩;have hm:=Bt hs (Qm d) (Nat.le_of_lt hd);exact⟨fun b hb=>⟨e0.D b hb,by have:=ph b hb;omega⟩,fun b hb=>e0.pl b hb,e0.M,fun b k hb=>⟨e0.G b k hb,by have:=ph b (hst0 b k hb);omega⟩,fun b k hb=>e0.gh b k hb,e0.X⟩
theorem sees (X2:Xb ops.toList=true) (bM:(f 0).news=[]) {C0:Cx} {w0:World} (aO:W2 C0 (f 0).st w0) {D:Nat->Prop} {C:Cx} {w:World} (h:Inv f r ops.toList.length C0 w0 D C w) {d:Nat} (hd:d<ops.toList.length) (aB:¬D d)
 (X7:∀i j,D i->ep ops.toList i j->D j) (ZX:∀j,ep ops.toList d j->D j) {b:Nat} {o:Cw} (hg:(f d).st.heap.get b=some o) (hn:∀j,(j,b)∈(f d).news->ep ops.toList d j) (hh:fg b (r d).1=true)
 (rF:∀b j,b<(f d).st.next->d<j->j<ops.toList.length->D j->Wr f r j b->fg b (r d).1=false):
 WU f r D ops.toList.length b=some o/\cY f r D ops.toList.length b<=(f d).st.next:=by
 have h0:∀b,(f 0).st.next<=b->(f 0).st.heap.get b=none:=by
  intro b hb;cases hc:(f 0).st.heap.get b with
  |none=>rfl
  |some o=>have:=aO.fresh b (aO.live b o hc).1;omega
 have Co:b<(f d).st.next:=by
  rcases Nat.lt_or_ge b (f d).st.next with h1|h1
  .exact h1
  .rw[R4 hs h0 (Nat.le_of_lt hd) b h1]at hg;cases hg
 have hlater:∀j,d<=j->j<ops.toList.length->D j->¬Wr f r j b:=by grind
 have h1:=Eg (f:=f) (r:=r) (D:=D) (b:=b) (Nat.le_of_lt hd) hlater;have h2:=Hh (f:=f) (r:=r) (D:=D) (D':=fun _=>True) (b:=b) (i:=d) (fun j hj hw=>by
  refine⟨fun _=>trivial,fun _=>ZX j (hn j ((LW hs bM (Nat.le_of_lt hd) j b).2 ⟨hj,hw⟩))⟩)
 refine⟨by rw[h1.1,h2.1,MF hs (Nat.le_of_lt hd)];exact hg,?_⟩;rw[h1.2];exact vv hs (Nat.le_of_lt hd)
theorem PZ (X2:Xb ops.toList=true) (bM:(f 0).news=[]) {C0:Cx} {w0:World} (aO:W2 C0 (f 0).st w0) {D:Nat->Prop} {C:Cx} {w:World} (h:Inv f r ops.toList.length C0 w0 D C w) {d:Nat} (hd:d<ops.toList.length) (aB:¬D d)
 (X7:∀i j,D i->ep ops.toList i j->D j) (ZX:∀j,ep ops.toList d j->D j) {H:Tr Cw}
 (hH:∀b o,H.get b=some o->(f d).st.heap.get b=some o/\(∀j,(j,b)∈(f d).news->ep ops.toList d j)/\fg b (r d).1=true)
 (rF:(∃b o,H.get b=some o)->∀b j,b<(f d).st.next->d<j->j<ops.toList.length->D j->Wr f r j b->fg b (r d).1=false):
 W2 (C.jR (f d).st.next) ((f d).st.sub H) w/\∀b o,H.get b=some o->WU f r D ops.toList.length b=some o:=by
 have vA:=fun b o hb=>sees hs X2 bM aO h hd aB X7 ZX (hH b o hb).1 (hH b o hb).2.1 (hH b o hb).2.2 (rF ⟨b,o,hb⟩);have q9:∀b o,(f 0).st.heap.get b=some o->b<(f 0).st.next:=fun b o hb=>aO.fresh b (aO.live b o hb).1;refine⟨⟨?_,?_,fun b hb=>hb.2,h.kG,fun b o hb=>h.apart b o (vA b o hb).1,fun b k hg=>⟨h.stamps b k hg.1,hg.2⟩,h.there,fun b hb=>h.WS b hb.1,h.XP⟩,fun b o hb=>(vA b o hb).1⟩
 .intro b o hb;obtain⟨h1,h2⟩:=vA b o hb;obtain⟨du,x,hx,hr⟩:=h.heap b o h1;have Co:=J3 hs q9 (Qj _) h1;refine⟨⟨du,by omega⟩,x,hx,hr.mono (Jh (.refl C) h2) ⟨du,Co⟩ fun k hk=>⟨hk.1,Co⟩⟩
 .intro b b' o o' hb ZL he;exact h.inj b b' o o' (vA b o hb).1 (vA b' o' ZL).1 he
theorem Pv {D:Nat->Prop} {b d j:Nat} (hj:d<j) (hn:j<ops.toList.length) (hd:D j) (hw:Wr f r j b):
 ∃k,d<k/\k<ops.toList.length/\D k/\Wr f r k b/\∀i,k<i->i<ops.toList.length->D i->¬Wr f r i b:=by
 have key:∀m j,ops.toList.length-j<=m->d<j->j<ops.toList.length->D j->Wr f r j b->
  ∃k,d<k/\k<ops.toList.length/\D k/\Wr f r k b/\∀i,k<i->i<ops.toList.length->D i->¬Wr f r i b:=by
  intro m;induction m with
  |zero=>intro j h1 _ h2;omega
  |succ m ih=>grind
 exact key _ j (Qj _) hj hn hd hw
omit hs in
theorem TB {d:jL} {q:aW} {r:Touch×AV×St} {n:Nat} {o:Option Cw} (h:hZ d q r n o=true):
 ∃xo F b,d.so= .read xo F/\r.1= .block b/\qh r.2.1 (F (XF q.T d.tmps .nil) {next:=n,bound:=n,log:=[],heap:=Tr.set .nil b o})=true/\Cr q.st.next 40 r.2.1=true:=by
 obtain⟨o',so,i,Wf,tmps⟩:=d;obtain⟨t,v⟩:=r;cases so with
 |read xo F=>
  cases t with
  |block b=>
   simp only[hZ,Qf]at h;exact⟨xo,F,b,U,U,h.1,h.2⟩
  |_=>cases h
 |_=>cases h
theorem zK (X2:Xb ops.toList=true) {C0:Cx} {w0:World} (aO:W2 C0 (f 0).st w0) {D:Nat->Prop} {C:Cx} {w:World} (h:Inv f r ops.toList.length C0 w0 D C w) {d:Nat} (hd:d<ops.toList.length) (aB:¬D d)
 (X7:∀i j,D i->ep ops.toList i j->D j) {o:Oper} (ho:ops.toList[d]?=some o) {b j:Nat} (hb:b<(f d).st.next) (hj:d<j) (pf:j<ops.toList.length) (ye:D j) (hw:Wr f r j b) (hh:fg b (r d).1=true):
 ∃xo F n H,Xz E o.type o.op= .read xo F/\(f d).st.next<=n/\F (XF (f d).T (tmpsOf o.op.operands.toList) .nil) {next:=n,bound:=n,log:=[],heap:=H}=some (r d).2.1/\
  Cr (f d).st.next 40 (r d).2.1=true/\W2 (C.jR n) {next:=n,bound:=n,log:=[],heap:=H} w:=by
 have q9:∀b o,(f 0).st.heap.get b=some o->b<(f 0).st.next:=fun b o hb=>aO.fresh b (aO.live b o hb).1;obtain⟨k,k1,k2,k3,k4,k5⟩:=Pv hs hj pf ye hw;have hpk:=hs.put k _ (Qi k2);have Wk:b∈(r k).2.2.log:=by
  rcases k4 with hw|hw
  .exact hw
  .have:=Bt hs (Nat.le_of_lt k1) (Nat.le_of_lt k2);omega
 have hna:Nat.testBit (YU E ops.toList k ops.toList[k]).Wf d=false:=by
  cases hq:Nat.testBit (YU E ops.toList k ops.toList[k]).Wf d with
  |false=>rfl
  |true=>exact absurd (X7 k d k3 hq) aB
 have hre:=((hpk.may b Wk).2.2 _ (R3 hs (Nat.le_of_lt k2) k1 ho) hna).resolve_left (fun h=>by simp only at h;rw[hh]at h;cases h);simp only at hre;have aC:(f d).st.next<=(r k).2.2.next:=by
  rw[<-hpk.next];exact Bt hs (show d<=k+1 by omega) (by omega)
 obtain⟨xo,F,b',ZW,hr1,hre1,hre2⟩:=TB hre;have qY:b'=b:=by
  rw[hr1]at hh;exact(Qb hh).symm
 subst qY;refine⟨xo,F,_,Tr.set .nil b' ((r k).2.2.heap.get b'),ZW,aC,?_,hre2,?_⟩
 .have h1:=hre1;unfold qh at h1;split at h1
  .next u hu=>
   have:u=(r d).2.1:=by grind [eqU,HC,Gy]
   rw[<-this];exact hu
  .cases h1
 .have WT:=Eg (f:=f) (r:=r) (D:=D) (b:=b') (show k+1<=ops.toList.length by omega) (fun i h1 h2 h3=>k5 i (by omega) h2 h3);have hc:WU f r D ops.toList.length b'=(r k).2.2.heap.get b'/\cY f r D ops.toList.length b'=(r k).2.2.next:=by
   rw[WT.1,WT.2];simp only[WU,cY];rw[if_pos ⟨k3,k4⟩,if_pos ⟨k3,k4⟩];exact⟨U,hpk.next⟩
  have YZ:∀c oc,(Tr.set .nil b' ((r k).2.2.heap.get b')).get c=some oc->c=b'/\WU f r D ops.toList.length b'=some oc:=by grind [Ay,AM,Tr.set]
  refine⟨fun c oc hg=>?_,fun c c' oc oc' hg eU _=>(YZ c oc hg).1.trans (YZ c' oc' eU).1.symm,fun c hg=>hg.2,h.kG,fun c oc hg=>?_,fun c k hg=>⟨h.stamps c k hg.1,hg.2⟩,h.there,fun c hg=>h.WS c hg.1,h.XP⟩
  .obtain⟨rfl,oU⟩:=YZ c oc hg;obtain⟨du,x,hx,hr⟩:=h.heap c oc oU;have Co:=J3 hs q9 (Qj _) oU;rw[hc.2]at hr Co;exact⟨⟨du,Co⟩,x,hx,hr⟩
  .obtain⟨rfl,oU⟩:=YZ c oc hg;exact h.apart c oc oU
theorem Ig {dH:Touch} {out:Out} {q:Touch×AV×St} (h:ZB dH out=some q):∃Yf,out= .one ⟨.normal,Yf,aL q.2.1,q.2.2⟩/\q.1=dH:=by
 unfold ZB at h;split at h
 .cases h;exact⟨_,rfl,rfl⟩
 .cases h
theorem Lz (X2:Xb ops.toList=true) {C0:Cx} {w0:World} (fT:W5 E C0) (aO:W2 C0 (f 0).st w0) {a0:Act}
 (ir:TR C0 fr.nt (f 0).T a0.tmps) {D:Nat->Prop} {C:Cx} {a:Act} {w:World} (h:Inv f r ops.toList.length C0 w0 D C w) (hT:fS ops.toList f r fr.nt a0 D C a) {d:Nat} (hd:d<ops.toList.length) (aB:¬D d)
 (X7:∀i j,D i->ep ops.toList i j->D j) (ZX:∀j,ep ops.toList d j->D j) {o:Oper} (ho:ops.toList[d]?=some o):
 TR (C.jR (f d).st.next) a.tmps.size (XF (f d).T (tmpsOf o.op.operands.toList) .nil) a.tmps/\W5 E (C.jR (f d).st.next)/\
  ∀g,o.guard=some g->∀tw,WN ops.toList g (f d).T=some tw->Region.wanted o (yielded ops a.tmps)=tw:=by
 have ph:=aO.fresh;have reads:=fun(t:Nat) (hw:∀j p,ops.toList[j]?=some p->p.dst=some t->d=j\/ep ops.toList d j\/ep ops.toList j d) (v:AV) (hv:(f d).T.get t=some v)=>
  hT.reads hs X2 h.ext ph aO.stamps ir hd aB X7 h.dn ZX hw hv
 have hTp:TR (C.jR (f d).st.next) a.tmps.size (XF (f d).T (tmpsOf o.op.operands.toList) .nil) a.tmps:=by
  refine⟨rfl,fun t v hv=>?_⟩;rw[DU]at hv;split at hv
  .next ht=>exact reads t (fun j p sU kH=>vy X2 ho ht sU kH) v hv
  .rw[AM]at hv;cases hv
 have pR:W5 E (C.jR (f d).st.next):=by
  have hm:=Bt hs (Qm d) (Nat.le_of_lt hd);exact fT.mono ⟨fun b hb=>⟨h.ext.D b hb,by have:=ph b hb;omega⟩,fun b hb=>h.ext.pl b hb,h.ext.M,fun b k hb=>⟨h.ext.G b k hb,by have:=ph b (aO.stamps b k hb);omega⟩,fun b k hb=>h.ext.gh b k hb,h.ext.X⟩
 refine⟨hTp,pR,fun g nS tw htw=>?_⟩;have hgA:=UI X2 ho nS;have hgj:=OB X2 d g.1 hd hgA;have iu:Region.wanted o (yielded ops a.tmps)=tw:=by
  have sU:ops.toList[g.1]?=some ops.toList[g.1]:=Qi (show g.1<ops.toList.length by omega);generalize ops.toList[g.1]=p at sU;cases hdst:p.dst with
  |none=>grind [DU,AM,DV,WN,aK,I5,XF]
  |some t=>
   refine I5 (C:=C.jR (f d).st.next) (T:=XF (f d).T [t] .nil) (a:=a) ⟨rfl,fun u v hv=>?_⟩ (o:=o) (j:=g.1) (want:=g.2) nS ?_
   .grind [DU,Qn,AM,KK]
   .rw[<-htw];unfold WN aK;rw[DV,sU];simp only[Qe,hdst];have:=DU (f d).T [t] .nil t;simp only[Qn,if_true]at this;unfold Tr.get at this;rw[this]
 exact iu
theorem Ox (he:CV E P) (hx:ZO E P) (Wi:Zi E P ev) (W3:Zj E P ev) (X2:Xb ops.toList=true) (bM:(f 0).news=[]) {C0:Cx} {w0:World} (fT:W5 E C0) (aO:W2 C0 (f 0).st w0) {a0:Act}
 (ir:TR C0 fr.nt (f 0).T a0.tmps) {D:Nat->Prop} {C:Cx} {a:Act} {w:World} (h:Inv f r ops.toList.length C0 w0 D C w) (hT:fS ops.toList f r fr.nt a0 D C a) {d:Nat} (hd:d<ops.toList.length) (aB:¬D d)
 (hxd:¬X d) (X7:∀i j,D i->ep ops.toList i j->D j) (ZX:∀j,ep ops.toList d j->D j) (b:Frame) (k:List Item) (cs:List Frame) (idx:List Nat):
 ∃C' a' w',Steps P (lone (CX b a (.inRegion ops (d::idx)::k)) cs w) (lone (CX b a' (.inRegion ops idx::k)) cs w')/\Inv f r ops.toList.length C0 w0 (fun j=>D j\/j=d) C' w'/\
  fS ops.toList f r fr.nt a0 (fun j=>D j\/j=d) C' a':=by
 have ho:ops.toList[d]?=some ops.toList[d]:=Qi hd;generalize ops.toList[d]=o at ho;have hoA:ops[d]?=some o:=by rw[<-Array.getElem?_toList];exact ho
 have C8:=hs.run d o hxd ho;have ph:=aO.fresh;obtain⟨hTp,pR,hwd⟩:=Lz hs X2 fT aO ir h hT hd aB X7 ZX ho;have go:Region.wanted o (yielded ops a.tmps)=true->Yj E ev fr (YU E ops.toList d o) (f d) (XF (f d).T (tmpsOf o.op.operands.toList) .nil)=some (r d)->
  ∃C' a' w',Steps P (lone (CX b a (.inRegion ops (d::idx)::k)) cs w) (lone (CX b a' (.inRegion ops idx::k)) cs w')/\Inv f r ops.toList.length C0 w0 (fun j=>D j\/j=d) C' w'/\
   fS ops.toList f r fr.nt a0 (fun j=>D j\/j=d) C' a':=by
  intro iu eZ;by_cases aU:∃b j,b<(f d).st.next/\d<j/\j<ops.toList.length/\D j/\Wr f r j b/\fg b (r d).1=true
  .obtain⟨b0,j,q1,q2,q3,q4,q5,q6⟩:=aU;obtain⟨xo,F,n,H,ZW,hn,hF,hu,hSt⟩:=zK hs X2 aO h hd aB X7 ho q1 q2 q3 q4 q5 q6;have hread:=rq he hx o;rw[ZW]at hread;have elim:Ext (C.jR (f d).st.next) (C.jR n):=Jh (.refl C) hn;obtain⟨x,WT,hv⟩:=zE (P:=P) (idx:=idx) (b:=b) (k:=k) (cs:=cs) hoA hread ZW (pR.mono elim) (hTp.mono elim) hSt iu hF;have pN:VR (C.jR (f d).st.next) (r d).2.1 x:=
    F1 (C:=C.jR (f d).st.next) (C':=C.jR n) (m:=(f d).st.next) (fun b hb hd=>⟨⟨hd.1,hb⟩,rfl⟩) (fun b k hb hg=>⟨⟨hg.1,hb⟩,rfl⟩) 40 hu hv
   have iY:(r d).2.2.next=(f d).st.next/\(r d).2.2.log=[]:=by
    unfold Yj at eZ;cases hq:Yb (YU E ops.toList d o).so with
    |false=>rw[hq]at eZ;cases eZ
    |true=>
    rw[hq]at eZ;simp only[cond_true]at eZ;obtain⟨Yf,cU,_⟩:=Ig hs eZ;have hso':(YU E ops.toList d o).so= .read xo F:=ZW;rw[hso']at cU;change X0 (fun v=> .one ⟨.normal,fr,aL v,_⟩) (F _ _)=_ at cU;cases hf:F (XF (f d).T (tmpsOf o.op.operands.toList) .nil) ((f d).st.sub (Wv (YU E ops.toList d o).Wf (f d).news (f d).st.heap (Xh (.read xo F) (XF (f d).T (tmpsOf o.op.operands.toList) .nil))))with
    |none=>rw[hf]at cU;cases cU
    |some v=>
     rw[hf]at cU;simp only[X0,Out.one.injEq,bO.mk.injEq]at cU;obtain⟨_,_,_,h4⟩:=cU;rw[<-h4];exact⟨U,U⟩
   have ZP:=PZ hs X2 bM aO h hd aB X7 ZX (H:= .nil) (fun b o' hb=>by rw[AM]at hb;cases hb) (fun⟨b,o',hb⟩=>by rw[AM]at hb;cases hb);obtain⟨hinv,e1,e4⟩:=Inv.step hs X2 bM aO h hd aB X7 (s:=(f d).st.sub .nil) (s':=(f d).st.sub .nil) iY.1 iY.2 (fun b hw=>by
    rcases hw with hw|hw
    .rw[iY.2]at hw;cases hw
    .rw[iY.1]at hw;omega) rfl rfl rfl ZP.2 ZP.1 (Cu.refl ZP.1)
   exact⟨_,_,w,WT,hinv,hT.step hs X2 ho aB e1 e4 pN⟩
  have rF:∀b j,b<(f d).st.next->d<j->j<ops.toList.length->D j->Wr f r j b->fg b (r d).1=false:=by
   intro b j q1 q2 q3 q4 q5;cases q6:fg b (r d).1 with
   |false=>rfl
   |true=>exact absurd ⟨b,j,q1,q2,q3,q4,q5,q6⟩ aU
  unfold Yj at eZ;cases hq:Yb (YU E ops.toList d o).so with
  |false=>rw[hq]at eZ;cases eZ
  |true=>
  rw[hq]at eZ;simp only[cond_true]at eZ;obtain⟨Yf,cU,lJ⟩:=Ig hs eZ;have ZP:=PZ hs X2 bM aO h hd aB X7 ZX (H:=Wv (YU E ops.toList d o).Wf (f d).news (f d).st.heap (Xh (YU E ops.toList d o).so (XF (f d).T (tmpsOf o.op.operands.toList) .nil))) (by
   intro b o' hb;obtain⟨h1,h2,h3⟩:=I8 hb;exact⟨h1,fun j hj=>h2 j hj,by rw[lJ];exact h3⟩) (fun _=>rF)
  have fo:∀F,Xz E o.type o.op≠ .defer F:=by
   intro F hF;have:Yb (Xz E o.type o.op)=true:=hq;rw[hF]at this;cases this
  have lj:Xz E o.type o.op≠ .recover:=by
   intro hF;have:Yb (Xz E o.type o.op)=true:=hq;rw[hF]at this;cases this
  obtain⟨v,C1,x,w',hTV,_,WT,t,hv⟩:=zF (P:=P) Wi W3 (idx:=idx) (b:=b) (k:=k) (cs:=cs) hoA (rq he hx o) rfl fo lj pR hTp ZP.1 iu cU;have hveq:(r d).2.1=v:=by grind [aL]
  obtain⟨hinv,e1,e4⟩:=Inv.step hs X2 bM aO h hd aB X7 (s:=(f d).st.sub _) rfl rfl (fun _ _=>rfl) rfl rfl rfl ZP.2 ZP.1 t;exact⟨_,_,w',WT,hinv,hT.step hs X2 ho aB e1 e4 (by rw[hveq];exact hv)⟩
 unfold WO at C8;have hdo:(YU E ops.toList d o).o=o:=rfl;rw[hdo]at C8;cases nS:o.guard with
 |none=>
  rw[nS]at C8;exact go (by unfold Region.wanted;rw[nS]) C8
 |some g=>
  rw[nS]at C8;simp only at C8;obtain⟨tw,htw,C8⟩:=Qa.1 C8;have iu:=hwd g nS tw htw;cases tw with
  |true=>exact go iu C8
  |false=>
   simp only[cond_false]at C8;have hr:r d=(.nothing,.tuple [],(f d).st.sub .nil):=(Option.some.inj C8).symm;have ZP:=PZ hs X2 bM aO h hd aB X7 ZX (H:= .nil) (fun b o' hb=>by rw[AM]at hb;cases hb) (fun⟨b,o',hb⟩=>by rw[AM]at hb;cases hb);obtain⟨hinv,e1,e4⟩:=Inv.step hs X2 bM aO h hd aB X7 (s:=(f d).st.sub .nil) (s':=(f d).st.sub .nil) (by rw[hr]) (by rw[hr]) (fun b _=>by rw[hr]) rfl rfl rfl ZP.2 ZP.1 (Cu.refl ZP.1);have pQ:=No (P:=P) (b:=b) (a:=a) (k:=k) (cs:=cs) (w:=w) (ops:=ops) (i:=d) (rest:=idx) (by rw[hoA];exact iu);simp only[hoA,Qe]at pQ;exact⟨_,_,w,.one pQ,hinv,hT.step hs X2 ho aB e1 e4 (by rw[hr];exact VR.unit)⟩
end
section
variable {E : Env} {P : Program} {ops : Array Oper} {ev : Ev} {fr : Fr} {f : Nat -> aW} {r : Nat -> Touch × AV × St} {X : Nat -> Prop} (hs : cW E ops.toList ev fr f r X)
include hs
theorem NR {C:Cx} {w:World} (hS:W2 C (f 0).st w):Inv f r ops.toList.length C w (fun _=>False) C w:=by
 have hc:∀b,WU f r (fun _=>False) ops.toList.length b=(f 0).st.heap.get b/\cY f r (fun _=>False) ops.toList.length b=(f 0).st.next:=by
  intro b;have:=Eg (f:=f) (r:=r) (D:=fun _=>False) (b:=b) (Qm ops.toList.length) (fun _ _ _ h=>h.elim);exact⟨this.1.trans U,this.2.trans U⟩
 have e:Ext C (C.jR (f 0).st.next):=⟨fun b hb=>⟨hb,hS.fresh b hb⟩,fun _ _=>rfl,fun _ _ h=>h,fun b k hg=>⟨hg,hS.fresh b (hS.stamps b k hg)⟩,fun _ _ _=>rfl,fun _ h=>h⟩
 refine⟨fun i h=>h.elim,.refl C,?_,?_,fun b hb=> .inl hb,hS.kG,?_,hS.stamps,hS.there,hS.WS,hS.XP,fun b k hg=> .inl hg,Qj _,fun _ _ _=>rfl,?_,fun _ _ h=> .inl h,⟨rfl,rfl,rfl⟩⟩
 .intro b o hb;rw[(hc b).1]at hb;rw[(hc b).2];obtain⟨hd,x,hx,hr⟩:=hS.live b o hb;exact⟨hd,x,hx,hr.mono e hd fun k hk=>hk.1⟩
 .intro b b' o o' hb ZL he;rw[(hc b).1]at hb;rw[(hc b').1]at ZL;exact hS.inj b b' o o' hb ZL he
 .intro b o hb;rw[(hc b).1]at hb;exact hS.apart b o hb
 .intro b o hb;rw[(hc b).1]at hb;exact .inl ⟨(hS.live b o hb).1,o,hb⟩
theorem S7 (he:CV E P) (hx:ZO E P) (Wi:Zi E P ev) (W3:Zj E P ev) (X2:Xb ops.toList=true) (bM:(f 0).news=[]) (hX:∀i,¬X i) {C0:Cx} {w0:World} (fT:W5 E C0) (aO:W2 C0 (f 0).st w0) {a0:Act}
 (ir:TR C0 fr.nt (f 0).T a0.tmps) (b:Frame) (k:List Item) (cs:List Frame) {D:Nat->Prop} {idx:List Nat} (vq:fw ops.toList D idx):∀ {C:Cx} {a:Act} {w:World},Inv f r ops.toList.length C0 w0 D C w->
 fS ops.toList f r fr.nt a0 D C a->(∀i,D i->∀j,ja ops.toList i j->D j)->
 ∃D' C' a' w',(∀i,i<ops.toList.length->D' i)/\Steps P (lone (CX b a (.inRegion ops idx::k)) cs w) (lone (CX b a' k) cs w')/\Inv f r ops.toList.length C0 w0 D' C' w'/\fS ops.toList f r fr.nt a0 D' C' a':=by
 induction vq with
 |nil Za=>
  intro C a w h hT _;exact⟨_,C,a,w,Za,.one HU,h,hT⟩
 | @cons D d idx hd aB hed _ ih=>
  intro C a w h hT X7;have hD':∀i,(D i\/i=d)->∀j,ja ops.toList i j->(D j\/j=d):=by grind
  have sV:∀i j,D i->ep ops.toList i j->D j:=fun i j hi ha=>FL X2 X7 i j (h.dn i hi) hi ha;have ZX:∀j,ep ops.toList d j->D j:=by
   intro j ha;rcases FL X2 hD' d j hd (.inr rfl) ha with h1|h1
   .exact h1
   .have:=OB X2 d j hd ha;omega
  obtain⟨C',a',w',WT,hinv,ZQ⟩:=Ox hs he hx Wi W3 X2 bM fT aO ir h hT hd aB (hX d) sV ZX b k cs idx;obtain⟨D2,C2,a2,w2,h1,h2,h3,h4⟩:=ih hinv ZQ hD';exact⟨D2,C2,a2,w2,h1,WT.trans h2,h3,h4⟩
theorem QE {C0 C:Cx} {w0 w:World} (aO:W2 C0 (f 0).st w0) {D:Nat->Prop} (Za:∀i b,i<ops.toList.length->Wr f r i b->D i) (h:Inv f r ops.toList.length C0 w0 D C w):
 Cu C0 (f 0).st w0 C (f ops.toList.length).st w:=by
 have hc:∀b,WU f r D ops.toList.length b=(f ops.toList.length).st.heap.get b:=by
  intro b;rw[<-MF hs (Qj _)];exact(Hh fun j hj hw=>⟨fun _=>trivial,fun _=>Za j b hj hw⟩).1
 have q9:∀b o,(f 0).st.heap.get b=some o->b<(f 0).st.next:=fun b o hb=>aO.fresh b (aO.live b o hb).1;have nowr:∀b,C0.D b->¬aq (f 0).st (f ops.toList.length).st.log b->∀j,0<=j->j<ops.toList.length->D j->¬Wr f r j b:=by
  intro b hb hm j _ hj _ hw;rcases hw with hw|hw
  .exact hm (Qq hs hj hw)
  .have:=aO.fresh b hb;have:=Bt hs (Qm j) (Nat.le_of_lt hj);omega
 refine⟨h.ext,⟨?_,?_,?_,h.kG,?_,h.stamps,h.there,h.WS,h.XP⟩,Nh hs (Qj _),Tv hs (Qm _) (Qj _),Bt hs (Qm _) (Qj _),h.size,h.frame,?_,?_,?_,h.cu,h.YQ⟩
 .intro b o hb;rw[<-hc]at hb;obtain⟨hd,x,hx,hr⟩:=h.heap b o hb;have Co:=J3 hs q9 (Qj _) hb;exact⟨hd,x,hx,hr.mono Ur ⟨hd,Co⟩ fun k hk=>⟨hk,Co⟩⟩
 .intro b b' o o' hb ZL he;rw[<-hc]at hb ZL;exact h.inj b b' o o' hb ZL he
 .intro b hb;rcases h.num b hb with h1|⟨j,hj,h1,h2⟩
  .exact Nat.lt_of_lt_of_le (aO.fresh b h1) (Bt hs (Qm _) (Qj _))
  .have pf:=h.dn j hj;have hp:=(hs.put j _ (Qi pf)).next;have:=Bt hs (show j+1<=ops.toList.length by omega) (Qj _);omega
 .intro b o hb;rw[<-hc]at hb;exact h.apart b o hb
 .intro b hb hm;refine⟨?_,fun k hk=>?_⟩
  .rw[<-hc];exact(Eg (Qm _) (nowr b hb hm)).1.trans U
  .rcases h.oe b k hk with h1|⟨i,hi,hw⟩
   .exact h1
   .exact absurd hw (nowr b hb hm i (Qm _) (h.dn i hi) hi)
 .intro b hb;rcases h.num b hb with h1|⟨j,hj,h1,_⟩
  .exact .inl h1
  .exact .inr (Nat.le_trans (Bt hs (Qm j) (Nat.le_of_lt (h.dn j hj))) h1)
 .intro b o hb;rw[<-hc]at hb;exact h.own b o hb
theorem U1 {C0 C:Cx} {a0 a:Act} (e:Ext C0 C) (ir:TR C0 fr.nt (f 0).T a0.tmps) {D:Nat->Prop} (Za:∀i,i<ops.toList.length->D i) (hdn:∀i,D i->i<ops.toList.length) (h:fS ops.toList f r fr.nt a0 D C a):
 TR C fr.nt (f ops.toList.length).T a.tmps:=by
 refine⟨h.size,fun t v hv=>?_⟩;rcases vw hs t (Qj _)with⟨j,p,hj,sU,kH,hg⟩|⟨h1,h2⟩
 .rw[hg]at hv;cases hv;obtain⟨x,hx,aw⟩:=h.slot j p t (Za j hj) sU kH;exact⟨x,hx,aw.mono Ur⟩
 .rw[h2]at hv;obtain⟨x,hx,aw⟩:=ir.2 t v hv;exact⟨x,by rw[h.rE t fun i p hi yk=>h1 i p (hdn i hi) yk];exact hx,aw.mono e⟩
omit hs in
theorem HG:∀(l:List Oper) (T:Tr AV) (t:Nat) (v:AV),(YP l T).get t=some v->T.get t=some v/\∀o∈l,o.dst≠some t
 | [],T,t,v,h=>⟨h,fun o ho=>by cases ho⟩
 |o::l,T,t,v,h=>by
  unfold YP at h;cases hd:o.dst with
  |none=>
   rw[hd]at h;obtain⟨h1,h2⟩:=HG l T t v h;exact⟨h1,fun p hp=>by
    rcases Qk.1 hp with rfl|hp
    .rw[hd];simp
    .exact h2 p hp⟩
  |some d=>
   rw[hd]at h;obtain⟨h1,h2⟩:=HG l (T.set d none) t v h;rw[Ay]at h1;by_cases e:t=d
   .rw[if_pos e]at h1;cases h1
   .rw[if_neg e]at h1;exact⟨h1,fun p hp=>by
     rcases Qk.1 hp with rfl|hp
     .rw[hd];simp;exact fun x=>e x.symm
     .exact h2 p hp⟩
theorem TI (he:CV E P) (hx:ZO E P) (Wi:Zi E P ev) (W3:Zj E P ev) (X2:Xb ops.toList=true) (bM:(f 0).news=[]) {p:Nat} {v:AV} (hp:vu E ops.toList ev fr f r 0 ops.toList p v)
 (hX:∀i,X i↔i=p\/ep ops.toList i p) {C0:Cx} {w0:World} (fT:W5 E C0) (aO:W2 C0 (f 0).st w0) {a0:Act}
 (ir:TR C0 fr.nt (f 0).T a0.tmps) (b:Frame) (k:List Item) (cs:List Frame) {D:Nat->Prop} {idx:List Nat} (vq:fw ops.toList D idx):∀ {C:Cx} {a:Act} {w:World},Inv f r ops.toList.length C0 w0 D C w->
 fS ops.toList f r fr.nt a0 D C a->(∀i,D i->∀j,ja ops.toList i j->D j)->¬D p->
 ∃C' a' w' k2 x,Steps P (lone (CX b a (.inRegion ops idx::k)) cs w) (lone {CX b a' k2 with mode:= .panicking [{v:=x,recovered:=false}]} cs w')/\Cu C0 (f 0).st w0 C' (f ops.toList.length).st w'/\
  TR C' fr.nt (YP ops.toList (f 0).T) a'.tmps/\a'.defers=a0.defers/\VR C' v x/\nQ k2:=by
 obtain⟨kp,op,zG,Yc,pS,hpa,kH⟩:=hp.at_;simp only[Nat.zero_add]at zG;subst zG;have XV:kp<ops.toList.length:=(List.getElem?_eq_some_iff.1 Yc).1;induction vq with
 |nil Za=>intro C a w h hT _ sL;exact absurd (Za kp XV) sL
 | @cons D d idx hd aB hed _ ih=>
  intro C a w h hT X7 sL;have hD':∀i,(D i\/i=d)->∀j,ja ops.toList i j->(D j\/j=d):=by grind
  have sV:∀i j,D i->ep ops.toList i j->D j:=fun i j hi ha=>FL X2 X7 i j (h.dn i hi) hi ha;have ZX:∀j,ep ops.toList d j->D j:=by
   intro j ha;rcases FL X2 hD' d j hd (.inr rfl) ha with h1|h1
   .exact h1
   .have:=OB X2 d j hd ha;omega
  by_cases zL:d=kp
  .subst zL;have noWr:∀b j,d<j->j<ops.toList.length->¬Wr f r j b:=by
    intro b j hj pf hw;have hq:=hp.quiet j pf (by omega);simp only[Nat.zero_add]at hq;rcases hw with hw|hw
    .rw[hq.2]at hw;cases hw
    .rw[hq.1]at hw;omega
   obtain⟨hTp,pR,hwd⟩:=Lz hs X2 fT aO ir h hT hd aB sV ZX Yc;have hoA:ops[d]?=some op:=by rw[<-Array.getElem?_toList];exact Yc
   have go:Region.wanted op (yielded ops a.tmps)=true->mf E ev fr (YU E ops.toList d op) (f d) (XF (f d).T (tmpsOf op.op.operands.toList) .nil)=some (v,(r d).2.2)->
    ∃C' a' w' k2 x,Steps P (lone (CX b a (.inRegion ops (d::idx)::k)) cs w) (lone {CX b a' k2 with mode:= .panicking [{v:=x,recovered:=false}]} cs w')/\Cu C0 (f 0).st w0 C' (f ops.toList.length).st w'/\
    TR C' fr.nt (YP ops.toList (f 0).T) a'.tmps/\a'.defers=a0.defers/\VR C' v x/\nQ k2:=by
    intro iu eZ;have ZP:=PZ hs X2 bM aO h hd aB sV ZX (H:=Wv (YU E ops.toList d op).Wf (f d).news (f d).st.heap .all) (by
     intro b o' hb;obtain⟨h1,h2,h3⟩:=I8 hb;exact⟨h1,fun j hj=>h2 j hj,by rw[kH];rfl⟩) (fun _ b j _ h2 h3 _ h5=>absurd h5 (noWr b j h2 h3))
    have ZW:Xz E op.type op.op=(YU E ops.toList d op).so:=rfl;have hq:((∃F,Xz E op.type op.op= .call F)\/∃F A,Xz E op.type op.op= .ah F A)/\
     cQ ((Xd E (Xz E op.type op.op) K0).run ev fr (XF (f d).T (tmpsOf op.op.operands.toList) .nil) ((f d).st.sub (Wv (YU E ops.toList d op).Wf (f d).news (f d).st.heap .all)))=some (v,(r d).2.2):=by
     unfold mf at eZ;rw[<-ZW]at eZ;cases hc:Xz E op.type op.op with
     |call F=>rw[hc]at eZ;exact⟨.inl ⟨F,rfl⟩,eZ⟩
     |ah F A=>rw[hc]at eZ;exact⟨.inr ⟨F,A,rfl⟩,eZ⟩
     |_=>rw[hc]at eZ;cases eZ
    obtain⟨C1,x,w',WT,t,hv⟩:=vo (P:=P) Wi W3 (idx:=idx) (b:=b) (k:=k) (cs:=cs) hoA (rq he hx op) rfl hq.1 pR hTp ZP.1 iu hq.2;obtain⟨hinv,e1,e4⟩:=Inv.step hs X2 bM aO h hd aB sV (s:=(f d).st.sub _) rfl rfl (fun _ _=>rfl) rfl rfl rfl ZP.2 ZP.1 t;have tl:=QE hs aO (fun i b hi hw=>by
     rcases Nat.lt_trichotomy i d with Co|rfl|hgt
     .exact .inl (ZX i (hpa (i,b) ((LW hs bM (Nat.le_of_lt hd) i b).2 ⟨Co,hw⟩)))
     .exact .inr U
     .exact absurd hw (noWr b i hgt hi)) hinv
    refine⟨_,a,w',_,x,WT,tl,⟨hT.size,fun t u hu=>?_⟩,hT.defers,(hv.mono e4).mono Ur,by intro _ _ _ _ _ h;cases h⟩;obtain⟨h1,h2⟩:=HG _ _ _ _ hu;obtain⟨y,hy,gz⟩:=ir.2 t u h1;exact⟨y,by rw[hT.rE t fun i q hi hq=>h2 q (List.mem_of_getElem? hq)];exact hy,gz.mono hinv.ext⟩
   unfold cR at pS;have hdo:(YU E ops.toList d op).o=op:=rfl;rw[hdo]at pS;cases nS:op.guard with
   |none=>
    rw[nS]at pS;exact go (by unfold Region.wanted;rw[nS]) pS
   |some g=>
    rw[nS]at pS;obtain⟨tw,htw,pS⟩:=Qa.1 pS;cases tw with
    |false=>cases pS
    |true=>exact go (hwd g nS true htw) pS
  .have hxd:¬X d:=fun hx=>by
    rcases(hX d).1 hx with h1|h1
    .exact zL h1
    .exact sL (ZX kp h1)
   obtain⟨C',a',w',WT,hinv,ZQ⟩:=Ox hs he hx Wi W3 X2 bM fT aO ir h hT hd aB hxd sV ZX b k cs idx;obtain⟨C2,a2,w2,k2,x,h1,h2⟩:=ih hinv ZQ hD' (fun hh=>hh.elim sL fun h=>zL h.symm);exact⟨C2,a2,w2,k2,x,WT.trans h1,h2⟩
end
theorem PC {E:Env} {P:Program} (he:CV E P) (hx:ZO E P):nZ E P:=by
 intro ev Wi W3 id ops C S w fr T b a k cs hg hT hF hS;show Good P C S w fr b k cs _ ((nz E ops.toList (Yu E (Wg ops.toList) ops.toList 0)).run ev fr T S);unfold nz;cases X2:Xb ops.toList with
 |false=>exact A1
 |true=>
 intro rs hrs;rcases FX hrs with⟨q,hda,rfl⟩|⟨f,r,p,v,zM,hp,rfl⟩
 rotate_left
 .have hX:∀i,(fun i=>i=p\/ep ops.toList i p) i↔i=p\/ep ops.toList i p:=fun _=> .rfl;have hs:cW E ops.toList ev fr f r (fun i=>i=p\/ep ops.toList i p):=⟨fun i o hx ho=>by
   have:=hp.run i o ho (fun h=>hx (.inl (by omega))) (.inl (by
    simp only[Nat.zero_add];cases hb:Nat.testBit (YU E ops.toList i o).Wf p with
    |false=>rfl
    |true=>exact absurd (.inr hb) hx))
   simpa only[Nat.zero_add]using this,fun i o ho=>by simpa only[Nat.zero_add]using hp.put i o ho⟩
  have hw0:=Cu.drew hS (w.drawn+1);have aO:W2 C (f 0).st {w with drawn:=w.drawn+1}:=by rw[zM];exact hw0.st
  have ir:TR C fr.nt (f 0).T a.tmps:=by rw[zM];exact hT
  have hT00:fS ops.toList f r fr.nt a (fun _=>False) C a:=⟨hT.1,rfl,fun i o t h=>h.elim,fun t _=>rfl⟩
  obtain⟨C',a',w',k2,x,WT,t,zA,hde,hv,hnc⟩:=TI hs he hx Wi W3 X2 (by rw[zM]) hp hX hg aO ir b k cs (IF X2 (P.follows .mixedOrders) (w.tape w.drawn (.order b.fn id))) (NR hs aO) hT00 (fun i h=>h.elim) (fun h=>h);rw[zM]at t zA;refine⟨_,Qn.2 U,C',a',w',cs,?_,zA,⟨?_,(hF.mono t.ext).WR,(hF.mono t.ext).round⟩,U,U,.same,k2,x,.head Gz WT,hv,hnc⟩
  .simp only[Nat.zero_add];exact hw0.trans t
  .have:=(hF.mono t.ext).defs;rw[hde];exact this
 obtain⟨f,r,zM,nO,hseq⟩:=J1 hda;simp only[Nat.zero_add]at nO hseq;have hs:cW E ops.toList ev fr f r (fun _=>False):=⟨fun i o _ ho=>(hseq i o ho).1,fun i o ho=>(hseq i o ho).2⟩
 have hw0:=Cu.drew hS (w.drawn+1);have aO:W2 C (f 0).st {w with drawn:=w.drawn+1}:=by rw[zM];exact hw0.st
 have ir:TR C fr.nt (f 0).T a.tmps:=by rw[zM];exact hT
 have hT00:fS ops.toList f r fr.nt a (fun _=>False) C a:=⟨hT.1,rfl,fun i o t h=>h.elim,fun t _=>rfl⟩
 obtain⟨D,C',a',w',Za,WT,hinv,zA⟩:=S7 hs he hx Wi W3 X2 (by rw[zM]) (fun _ h=>h) hg aO ir b k cs (IF X2 (P.follows .mixedOrders) (w.tape w.drawn (.order b.fn id))) (NR hs aO) hT00 (fun i h=>h.elim);have t:=QE hs aO (fun i _ hi _=>Za i hi) hinv;have hTn:=U1 hs hinv.ext ir Za hinv.dn zA;rw[zM,nO]at t;rw[nO]at hTn;refine⟨_,Qn.2 U,C',a',w',cs,hw0.trans t,hTn,⟨?_,(hF.mono t.ext).WR,(hF.mono t.ext).round⟩,U,U,.same,.head Gz WT⟩;have:=(hF.mono t.ext).defs;rw[zA.defers];exact this
def Cx.vB (C:Cx):Cx:= {C with G:=fun _ _=>False}
theorem Nl {C:Cx} {a b:AV} {x:Value} (h:ku a b=true) (hv:VR C a x):VR C.vB a x:=by
 cases hv with
 |bool b=>exact .bool b
 |int k n=>exact .int k n
 |str hs=>exact .str hs
 |CU=>exact .CU
 |ptr hd=>exact VR.ptr (C:=C.vB) hd
 |Ca a hx=>exact .Ca a hx
 |slice hd hc hl=>exact VR.slice (C:=C.vB) hd hc hl
 |X1 hx hd hc=>exact VR.X1 (C:=C.vB) hx hd hc
 |WI=>exact .WI
 |map hd=>exact VR.map (C:=C.vB) hd
 |_=>exfalso;cases b<;>cases h
theorem IG {C:Cx}:∀ {a b:List AV} {xs:List Value},fk a b=true->Wc C a xs->Wc C.vB a xs
 |_,_,_,_,.nil=> .nil
 |_,[],_,h,.cons _ _=>by cases h
 |_,_::_,_,h,.cons hv t=>by
  simp only[fk,Qf]at h;exact .cons (Nl h.1 hv) (IG h.2 t)
theorem Nk {C:Cx} {a b:AV} {x:Value} (h:aJ a (some b)=true) (hv:VR C a x):VR C.vB a x:=by
 unfold aJ at h;split at h
 .cases hv with
  |agg WQ Wt=>exact .agg (IG h WQ) Wt
 .cases hv with
  |tuple WQ=>exact .tuple (IG h WQ)
 .exact Nl h hv
 .cases h
theorem ET {k:AV}:∀ {l:List Xk} {p:Xk×List Xk},pull k l=some p->∃a b,l=a++p.1::b/\p.2=a++b/\aJ k (some p.1.1)=true
 | [],_,h=>by cases h
 |e::l,p,h=>by
  unfold pull at h;cases hs:aJ k (some e.1)with
  |true=>
   rw[hs]at h;cases h;exact⟨[],l,U,U,hs⟩
  |false=>
   rw[hs]at h;obtain⟨q,hq,h⟩:=Qa.1 h;cases h;obtain⟨a,b,h1,h2,h3⟩:=ET hq;exact⟨e::a,b,by rw[h1];rfl,by rw[h2];rfl,h3⟩
theorem TF {k:AV} {l:List Xk} {p:Xk×List Xk} (h:pull k l=some p):l.Perm (p.1::p.2):=by grind [ET,List.perm_middle]
theorem Gj {C:Cx} {b:Nat}:∀ {x y:List Xk} {l:List MapEntry},W9 C b (x++y) l->∃l1 l2,l=l1++l2/\W9 C b x l1/\W9 C b y l2
 | [],_,l,h=>⟨[],l,rfl,.nil,h⟩
 |_::_,_,_,h=>by
  cases h with
  |cons hk hv hg hn t=>
   obtain⟨l1,l2,e,h1,h2⟩:=Gj t;exact⟨_::l1,l2,by rw[e];rfl,.cons hk hv hg hn h1,h2⟩
theorem Fl {C:Cx} {b:Nat} {y:List Xk} {l2:List MapEntry} (h2:W9 C b y l2):∀ {x:List Xk} {l1:List MapEntry},W9 C b x l1->W9 C b (x++y) (l1++l2)
 |_,_,.nil=>h2
 |_,_,.cons hk hv hg hn t=> .cons hk hv hg hn (Fl h2 t)
def X8:List Xk->List Xk->Nat->Nat
 | [],_,n=>n
 |e::r,l,n=>match pull e.1 l with
  |some p=>if e.2.2=n then p.1.2.2 else X8 r p.2 n
  |none=>n
theorem F8 {s:Nat}:∀ {l:List Xk},jJ s l=true->∀e∈l,s≠e.2.2
 | [],_,e,he=>by cases he
 |a::l,h,e,he=>by
  simp only[jJ,Qf,Bool.not_eq_true']at h;rcases Qk.1 he with rfl|he
  .grind [Nat.beq_refl]
  .exact F8 h.2 e he
theorem Ga {n:Nat}:∀ {l:List Xk},X6 n l=true->∀e∈l,e.2.2<n
 | [],_,e,he=>by cases he
 |a::l,h,e,he=>by
  simp only[X6,Qf]at h;rcases Qk.1 he with rfl|he
  .simpa[Nat.blt_eq]using h.1.1
  .exact Ga h.2 e he
theorem LR {n a b:Nat} (h:iK n a b=true):a=b\/(n<=a/\n<=b):=by simp_all [Bool.or_eq_true,Qf,iK,Qb]
theorem D8 {n0 n1:Nat}:∀ {es l:List Xk},XM n0 es l=true->X6 n1 es=true->∀e∈es,e.2.2=X8 es l e.2.2\/(n0<=e.2.2/\n0<=X8 es l e.2.2)
 | [],_,_,_,e,he=>by cases he
 |a::r,l,h,hs,e,he=>by
  simp only[XM]at h;split at h
  .next p hp=>
   simp only[Qf]at h;simp only[X6,Qf]at hs;simp only[X8,hp];rcases Qk.1 he with rfl|he
   .simp_all [LR]
   .have:a.2.2≠e.2.2:=F8 hs.1.2 e he;rw[if_neg this];exact D8 h.2 hs.2 e he
  .cases h
theorem Gc {C2 C3:Cx} {b m n0 n1:Nat} (iw:∀ {a c:AV} {x:Value},aJ a (some c)=true->Cr m 40 a=true->VR C2 a x->VR C3 a x):
 ∀ {es l2:List Xk} {lr:List MapEntry},XM n0 es l2=true->X6 n1 es=true->(es.all fun e=>Cr m 40 e.1&&Cr m 40 e.2.1)=true->W9 C2 b l2 lr->
  (∀e∈es,C3.G b e.2.2/\C3.gh b e.2.2=C2.gh b (X8 es l2 e.2.2))->∃lr',lr'.Perm lr/\W9 C3 b es lr'
 | [],[],_,_,_,_,h,_=>by cases h;exact⟨[],.nil,.nil⟩
 | [],_::_,_,h,_,_,_,_=>by cases h
 |(k,v,s)::r,l2,lr,h,hs,hu,hR,WT=>by
  simp only[XM]at h;split at h
  .next p hp=>
   simp only[Qf]at h;simp only[X6,Qf]at hs;simp only[List.all_cons,Qf]at hu;obtain⟨x,y,h1,h2,h3⟩:=ET hp;rw[h1]at hR;obtain⟨lx,ly,rfl,hx,hy⟩:=Gj hR;obtain⟨⟨k2,v2,s2⟩,q⟩:=p;cases hy with
   | @cons _ _ _ e _ ly' hk hv hg hn hy=>
    have hR':W9 C2 b q (lx++ly'):=by
     have:q=x++y:=h2;rw[this];exact Fl hy hx
    obtain⟨lr',zN,hR3⟩:=Gc iw h.2 hs.2 hu.2 hR' (fun e' Zs=>by
     have YM:s≠e'.2.2:=F8 hs.1.2 e' Zs;have:=WT e' (Qg _ Zs);refine⟨this.1,?_⟩;rw[this.2];simp only[X8,hp];rw[if_neg YM])
    have Z5:=WT (k,v,s) (Qh ..);simp only[X8,hp,if_true]at Z5;have j3:k=k2:=Gy h3;have hv':v=v2:=Gy h.1.1;refine⟨e::lr',?_,.cons (iw h3 hu.1.1 (by rw[j3];exact hk)) (iw h.1.1 hu.1.2 (by rw[hv'];exact hv)) Z5.1 (hn.trans Z5.2.symm) hR3⟩;exact(zN.cons e).trans List.perm_middle.symm
  .cases h
theorem E1 {n0:Nat}:∀ {es l2:List Xk},XM n0 es l2=true->(es.map (·.1)).Perm (l2.map (·.1))
 | [],[],_=> .nil
 | [],_::_,h=>by cases h
 |e::r,l2,h=>by
  simp only[XM]at h;split at h
  .next p hp=>
   simp only[Qf]at h;obtain⟨_,_,_,_,h3⟩:=ET hp;have:=(TF hp).map (·.1);refine .trans ?_ this.symm;simp only[List.map_cons];rw[Gy h3];exact(E1 h.2).cons _
  .cases h
theorem HZ {n0:Nat} {C:Cx} {b:Nat} {l2:List Xk} {lr:List MapEntry} (hR:W9 C b l2 lr) {n1:Nat}:∀ {es:List Xk},XM n0 es l2=true->X6 n1 es=true->∀e∈es,C.G b (X8 es l2 e.2.2):=by
 intro es;induction es generalizing l2 lr with
 |nil=>intro _ _ e he;cases he
 |cons a r ih=>
  intro h hs e he;simp only[XM]at h;split at h
  .next p hp=>
   simp only[Qf]at h;simp only[X6,Qf]at hs;obtain⟨x,y,h1,h2,h3⟩:=ET hp;rw[h1]at hR;obtain⟨lx,ly,rfl,hx,hy⟩:=Gj hR;simp only[X8,hp];obtain⟨⟨k2,v2,s2⟩,q⟩:=p;cases hy with
   | @cons _ _ _ e' _ ly' hk hv hg hn hy=>
    rcases Qk.1 he with rfl|he
    .simp only[if_true];exact hg
    .have:a.2.2≠e.2.2:=F8 hs.1.2 e he;rw[if_neg this];refine ih (l2:=q) (lr:=lx++ly') ?_ h.2 hs.2 e he;have:q=x++y:=h2;rw[this];exact Fl hy hx
  .cases h
theorem I7 (s1:St):∀(L:List Nat) (s:St) (b:Nat),(Ym s1 L s).heap.get b=if b∈L then s1.heap.get b else s.heap.get b
 | [],s,b=>by simp[Ym]
 |c::l,s,b=>by
  simp only[Ym];rw[I7 s1 l];by_cases h1:b∈l
  .simp[h1]
  .grind [St.put,Ay]
theorem D7 (s1:St):∀(L:List Nat) (s:St),(Ym s1 L s).next=s.next/\(Ym s1 L s).bound=s.bound
 | [],_=>⟨rfl,rfl⟩
 |_::l,_=>by simp only[Ym];exact D7 s1 l _
theorem E3 {b c:Nat} {l:List Nat} (h:c=b\/c∈l):c∈XL b l:=h.elim (fun e=>e▸(FB b l).1) ((FB b l).2 c)
theorem FZ (s1:St):∀(L:List Nat) (s:St),(∀b∈s.log,b∈(Ym s1 L s).log)/\∀b∈L,b<s.bound->b∈(Ym s1 L s).log
 | [],_=>⟨fun _ h=>h,fun _ h=>(by cases h)⟩
 |c::l,s=>by
  simp only[Ym];obtain⟨h1,h2⟩:=FZ s1 l (s.put c (s1.heap.get c));refine⟨fun b hb=>h1 b ?_,fun b hb Co=>?_⟩
  .grind [St.put,E3]
  .grind [St.put,Nat.blt_eq,E3]
theorem Jm {α:Type} {f:α->Nat}:∀ {l:List α},(l.map f).Nodup->∀a∈l,∀b∈l,f a=f b->a=b
 | [],_,a,ha,_,_,_=>by cases ha
 |c::l,h,a,ha,b,hb,e=>by
  simp only[List.map_cons,List.nodup_cons]at h;rcases Qk.1 ha with h1|h1
  .grind
  .rcases Qk.1 hb with h2|h2
   .grind
   .exact Jm h.2 a h1 b h2 e
theorem HD {C:Cx} {b:Nat}:∀ {es:List Xk} {l:List MapEntry},W9 C b es l->l.map (·.born)=es.map fun e=>C.gh b e.2.2
 |_,_,.nil=>rfl
 |_,_,.cons _ _ _ hn t=>by simp only[List.map_cons];rw[hn,HD t]
theorem Rw {C C2:Cx} {S s1 s2:St} {w w2:World} (hS:W2 C S w) (t:Cu C S.whole w C2 s2 w2) {L:List Nat} (hL:∀b∈s2.log,b∈L) (Co:∀b∈L,b<S.next)
 (hs:∀b∈L,bq S.next (S.heap.get b) (s1.heap.get b) (s2.heap.get b)=true):
 ∃C3,Cu C S w C3 (Ym s1 L S) w2/\(∀ {v a:AV} {x:Value},aJ v (some a)=true->Cr S.next 40 v=true->VR C2 v x->VR C3 v x)/\∀ {v:AV} {x:Value},Cj 40 v=true->VR C2 v x->VR C3 v x:=by
 classical
 let st1:Nat->List Xk:=fun b=>match s1.heap.get b with|some (.map es _)=>es|_=>[]
 let bN:Nat->List Xk:=fun b=>match s2.heap.get b with|some (.map es _)=>es|_=>[]
 let C3:Cx:= {C with M:=C2.M,G:=fun b n=>C.G b n\/(b∈L/\∃e∈st1 b,e.2.2=n),gh:=fun b n=>if C.G b n then C.gh b n else C2.gh b (X8 (st1 b) (bN b) n),X:=C2.X}
 have e3:Ext C C3:=⟨fun _ h=>h,fun _ _=>rfl,t.ext.M,fun _ _ h=> .inl h,fun b n h=>by show(if C.G b n then _ else _)=_;rw[if_pos h],t.ext.X⟩
 have hD:∀b,b<S.next->C2.D b->C.D b/\C2.pl b=C.pl b:=fun b hb hd=>by
  rcases t.iS b hd with h|h
  .exact⟨h,t.ext.pl b h⟩
  .have:S.next<=b:=h;omega
 have iw:∀ {v a:AV} {x:Value},aJ v (some a)=true->Cr S.next 40 v=true->VR C2 v x->VR C3 v x:=by
  intro v a x h hu hv;have h1:VR (C.YT C2.vB) v x:=F1 (C:=C) (C':=C2.vB) (m:=S.next) (fun b hb hd=>hD b hb hd) (fun b n _ hg=>hg.elim) 40 hu (Nk h hv);have e5:Ext (C.YT C2.vB) C3:=⟨fun _ h=>h,fun _ _=>rfl,fun _ _ h=>h,fun b n h=>e3.G b n h,fun b n h=>e3.gh b n h,fun _ h=>h⟩
  exact h1.mono e5
 have e4:Ext C2.bare C3:=⟨fun _ x=>x.elim,fun _ x=>x.elim,fun _ _ h=>h,fun _ _ x=>x.elim,fun _ _ x=>x.elim,fun _ h=>h⟩
 have hclo:∀ {v:AV} {x:Value},Cj 40 v=true->VR C2 v x->VR C3 v x:=fun h hv=>(E9 40 hv h).mono e4;refine⟨C3,?_,iw,hclo⟩;have cw:∀b∈L,aq S (Ym s1 L S).log b:=fun b hb=>by
  rcases Nat.lt_or_ge b S.bound with h|h
  .exact .inl ((FZ s1 L S).2 b hb h)
  .exact .inr h
 have hmw:∀b o,S.heap.get b=some o->aq S.whole s2.log b->b∈L:=fun b o hb hm=>by
  rcases hm with h|h
  .exact hL b h
  .have h1:=hS.fresh b (hS.live b o hb).1;have:S.next<=b:=h;omega
 have YZ:=I7 s1 L S;have hold:∀b o,(Ym s1 L S).heap.get b=some o->∃o0,S.heap.get b=some o0:=by
  intro b o hb;rw[YZ]at hb;split at hb
  .next rG=>
   have:=hs b rG;cases ho:S.heap.get b with
   |none=>rw[ho]at this;simp[bq]at this
   |some o0=>exact⟨o0,rfl⟩
  .exact⟨o,hb⟩
 have hobj:∀b∈L,∀o,s1.heap.get b=some o->∃x,w2.heap[(C.pl b).Ci]?=some x/\OR C3 b o x/\C2.M (C.pl b).Ci=none:=by
  intro b rG o ho;have ZW:=hs b rG;have hb:=Co b rG;rw[ho]at ZW;cases ho0:S.heap.get b with
  |none=>rw[ho0]at ZW;simp[bq]at ZW
  |some o0=>
  cases ho2:s2.heap.get b with
  |none=>rw[ho2]at ZW;unfold bq at ZW;split at ZW<;>simp_all
  |some o2=>
  rw[ho0,ho2]at ZW;obtain⟨qu,x,hx,hr⟩:=t.st.live b o2 ho2;obtain⟨hdC,XV⟩:=hD b hb qu;have vC:=t.st.apart b o2 ho2;rw[XV]at hx vC;refine⟨x,hx,?_,vC⟩;unfold bq at ZW;split at ZW
  .next n0 es n lf n' e0 e1 e2=>
   cases e0;cases e1;cases e2;simp only[Qf]at ZW;obtain⟨⟨⟨h1,h2⟩,h3⟩,h4⟩:=ZW;have hn:=Qb h1;subst hn;obtain⟨_,x0,_,oX⟩:=hS.live b _ ho0;have hst1:st1 b=es:=by grind
   have pc:bN b=lf:=by grind
   cases oX with
   | @map _ _ arr0 l0 _ _ _ _ _ fT _=>
   cases hr with
   | @map _ _ arr l hp h hk hn hc hg hi=>
    have hσ:∀e∈es,C3.gh b e.2.2=C2.gh b (X8 es lf e.2.2):=by
     intro e he;show(if C.G b e.2.2 then C.gh b e.2.2 else C2.gh b (X8 (st1 b) (bN b) e.2.2))=_;rw[hst1,pc];split
     .next hG=>
      have ph:=fT _ hG;rcases D8 h2 h3 e he with h5|h5
      .rw[<-h5,t.ext.gh b _ hG]
      .omega
     .rfl
    obtain⟨lr',zN,hR3⟩:=Gc (C2:=C2) (C3:=C3) (b:=b) (m:=S.next) iw h2 h3 h4 h fun e he=>⟨.inr ⟨rG,e,by rw[hst1];exact he,rfl⟩,hσ e he⟩;have zG:=E1 h2;have uG:(lr'.map (·.born)).Nodup:=(zN.map (·.born)).nodup_iff.2 hn;have ek:∀n,C3.G b n->(C.G b n/\C3.gh b n=C2.gh b n/\C2.G b n)\/(¬C.G b n/\∃e∈es,e.2.2=n/\C3.gh b n=C2.gh b (X8 es lf n)/\C2.G b (X8 es lf n)):=by
     intro n hG;by_cases hCG:C.G b n
     .exact .inl ⟨hCG,by rw[e3.gh b n hCG,t.ext.gh b n hCG],t.ext.G b n hCG⟩
     .rcases hG with hG|⟨_,e,he,jr⟩
      .exact absurd hG hCG
      .rw[hst1]at he;refine .inr ⟨hCG,e,he,jr,?_,?_⟩
       .rw[<-jr];exact hσ e he
       .rw[<-jr];exact HZ h h2 h3 e he
    refine .map (zN.trans hp) hR3 ⟨fun e he=>?_,zG.nodup_iff.2 hk.2⟩ uG ?_ ?_ ?_
    .have:e.1∈lf.map (·.1):=zG.subset (List.mem_map.2 ⟨e,he,rfl⟩);obtain⟨e',Zs,hee⟩:=List.mem_map.1 this;rw[<-hee];exact hk.1 e' Zs
    .grind
    .intro n hG;rcases ek n hG with⟨_,h5,h6⟩|⟨_,e,he,jr,h5,h6⟩
     .exact hg n h6
     .rw[<-jr];exact Ga h3 e he
    .intro n m hGn hGm heq;rcases ek n hGn with⟨lG,vD,hn4⟩|⟨lG,e,he,jr,vD,hn4⟩
     .rcases ek m hGm with⟨lF,hm3,hm4⟩|⟨lF,e',Zs,hem,hm3,hm4⟩
      .grind
      .have h7:=hi n _ hn4 hm4 (by rw[<-vD,<-hm3];exact heq);rcases D8 h2 h3 e' Zs with h8|h8
       .rw[hem]at h8;rw[h7,<-h8]
       .rw[hem,<-h7]at h8;have:=fT n lG;omega
     .rcases ek m hGm with⟨lF,hm3,hm4⟩|⟨lF,e',Zs,hem,hm3,hm4⟩
      .have h7:=hi _ m hn4 hm4 (by rw[<-vD,<-hm3];exact heq);rcases D8 h2 h3 e he with h8|h8
       .rw[jr]at h8;rw[<-h7,<-h8]
       .rw[jr,h7]at h8;have:=fT m lF;omega
      .have:=Jm (f:=fun e:Xk=>C3.gh b e.2.2) (by rw[<-HD hR3];exact uG) e he e' Zs (by show C3.gh b e.2.2=C3.gh b e'.2.2;rw[jr,hem];exact heq);rw[<-jr,<-hem,this]
  .next t0 p0 a t1 p1 b' t2 p2 e0 e1 e2=>
   cases e0;cases e1;cases e2;simp only[Qf]at ZW;obtain⟨⟨⟨h1,h2⟩,h3⟩,h4⟩:=ZW;have ha:=Is h1;subst ha;have hpp:p1=p2:=by grind
   subst hpp;have htt:=Qb h2;subst htt;cases hr with
   | @cells _ _ _ c fr vs hv ha Xn Wt hf hp=>
    have WQ:Wc C3 a vs:=by
     have key:∀ {l:List AV} {xs:List Value},fk l l=true->l.all (Cr S.next 40)=true->Wc C2 l xs->Wc C3 l xs:=by
      intro l;induction l with
      |nil=>intro xs _ _ h;cases h;exact .nil
      |cons u l ih=>
       intro xs h5 h6 h7;simp only[fk,Qf]at h5;simp only[List.all_cons,Qf]at h6;cases h7 with
       |cons hv t'=>
        refine .cons (iw (a:=u) ?_ h6.1 hv) (ih h5.2 h6.2 t');unfold aJ;split
        .next e=>simp[ku]at h5
        .next e=>simp[ku]at h5
        .next e=>cases e;exact h5.1
        .next e=>cases e
     exact key h1 h4 hv
    exact .cells WQ (by show Y6 _ (C.pl b).base _;rw[<-XV];exact ha) (by show _=(C.pl b).size;rw[<-XV];exact Xn) Wt hf (fun zN=>by show(C.pl b).base=0/\_;rw[<-XV];exact hp zN)
  .cases ZW
 have helse:∀b,b∉L->∀o,S.heap.get b=some o->w2.heap[(C.pl b).Ci]?=w.heap[(C.pl b).Ci]?:=by
  intro b rG o hb;obtain⟨_,x,hx,_⟩:=hS.live b o hb;refine t.frame _ (Bq hx) fun b0 o0 h0 hm nV=>?_;have:=hS.inj b0 b o0 o h0 hb nV;subst this;exact rG (hmw _ _ h0 hm)
 refine⟨e3,⟨?_,?_,?_,t.st.kG,?_,?_,t.st.there,fun b hd=>t.ext.X _ (hS.WS b hd),t.st.XP⟩,(D7 s1 L S).2,(FZ s1 L S).1,by rw[(D7 s1 L S).1];exact Qj _,t.size,?_,?_,fun _ h=> .inl h,?_,?_,t.YQ⟩
 .intro b o hb;obtain⟨o0,h0⟩:=hold b o hb;obtain⟨hdC,x0,sx,oX⟩:=hS.live b o0 h0;rw[YZ]at hb;refine⟨hdC,?_⟩;split at hb
  .grind
  .next rG=>
   rw[h0]at hb;cases hb;exact⟨x0,by rw[<-sx];exact helse b rG _ h0,oX.mono e3 hdC fun n hn=>hn.elim id fun h=>absurd h.1 rG⟩
 .intro b b' o o' hb ZL he;obtain⟨o0,h0⟩:=hold b o hb;obtain⟨o1,h1⟩:=hold b' o' ZL;exact hS.inj b b' o0 o1 h0 h1 he
 .intro b hb;rw[(D7 s1 L S).1];exact hS.fresh b hb
 .intro b o hb;obtain⟨o0,h0⟩:=hold b o hb;rw[YZ]at hb;split at hb
  .grind
  .next rG=>
   obtain⟨hdC,x,hx,_⟩:=hS.live b o0 h0;show C2.M (C.pl b).Ci=none;cases hm:C2.M (C.pl b).Ci with
   |none=>rfl
   |some ms=>
    exfalso;rcases t.cu _ _ hm with h1|h1|⟨b0,o1,h2,h3,h4⟩
    .rw[hS.apart b o0 h0]at h1;cases h1
    .have:=Bq hx;omega
    .have:=hS.inj b0 b o1 o0 h2 h0 h4;subst this;exact rG (hmw _ _ h2 h3)
 .intro b n hG;rcases hG with h|⟨rG,_⟩
  .exact hS.stamps b n h
  .have:=hs b rG;cases ho:S.heap.get b with
   |none=>rw[ho]at this;simp[bq]at this
   |some o0=>exact(hS.live b o0 ho).1
 .intro Ci hb hm;exact t.frame Ci hb fun b o ho zO=>hm b o ho (cw b (hmw b o ho zO))
 .grind
 .intro b o hb;obtain⟨o0,h0⟩:=hold b o hb;exact .inl ⟨(hS.live b o0 h0).1,o0,h0⟩
 .intro Ci ms hm;rcases t.cu Ci ms hm with h1|h1|⟨b0,o0,h0,h2,h3⟩
  .exact .inl h1
  .exact .inr (.inl h1)
  .exact .inr (.inr ⟨b0,o0,h0,cw b0 (hmw b0 o0 h0 h2),h3⟩)
theorem HI:∀(a l:List Nat),(∀b∈a,b∈Z3.iL a l)/\∀b∈l,b∈Z3.iL a l
 | [],_=>⟨fun _ h=>(by cases h),fun _ h=>h⟩
 |c::a,l=>by
  simp only[Z3.iL];obtain⟨h1,h2⟩:=HI a (XL c l);refine⟨fun b hb=>?_,fun b hb=>h2 b (E3 (.inr hb))⟩;rcases Qk.1 hb with rfl|hb
  .exact h2 b (E3 (.inl U))
  .exact h1 b hb
theorem KQ:∀(os:List (AV×St)) (l:List Nat),(∀o∈os,∀b∈o.2.log,b∈Z3 os l)/\∀b∈l,b∈Z3 os l
 | [],_=>⟨fun _ h=>(by cases h),fun _ h=>h⟩
 |q::os,l=>by
  simp only[Z3];obtain⟨h1,h2⟩:=KQ os (Z3.iL q.2.log l);refine⟨fun o ho b hb=>?_,fun b hb=>h2 b ((HI q.2.log l).2 b hb)⟩;rcases Qk.1 ho with rfl|ho
  .exact h2 b ((HI _ l).1 b hb)
  .exact h1 o ho b hb
theorem KR {s0 a b:St}:∀ {L:List Nat},ky s0 a b L=true->∀n∈L,n<s0.next/\bq s0.next (s0.heap.get n) (a.heap.get n) (b.heap.get n)=true
 | [],_,n,hn=>by cases hn
 |c::l,h,n,hn=>by
  simp only[ky,Qf]at h;rcases Qk.1 hn with rfl|hn
  .grind [Nat.blt_eq]
  .exact KR h.2 n hn
theorem Ji {m:Nat} {s0:St} {o:AV×St} {L:List Nat}:∀ {os:List (AV×St)},eO m s0 o L os=true->∀q∈os,
 ((aJ o.1 (some q.1)=true/\Cr m 40 o.1=true)\/(Zu o.1 q.1=true/\Cj 40 o.1=true))/\ky s0 o.2 q.2 L=true
 | [],_,q,hq=>by cases hq
 |c::l,h,q,hq=>by
  simp only[eO,Qf,Bool.or_eq_true]at h;rcases Qk.1 hq with rfl|hq
  .exact h.1
  .exact Ji h.2 q hq
theorem Mz {n:Nat} {o:AV×St} {p:List Xk×Nat} (h:cm n o=some p):∃b,o.1= .map b/\o.2.log=[]/\n<=b/\o.2.heap.get b=some (.map p.1 p.2):=by
 unfold cm at h;split at h
 .next b h1 h2=>
  cases hb:Nat.ble n b with
  |false=>rw[hb]at h;cases h
  |true=>
   rw[hb]at h;simp only[cond_true]at h;split at h
   .next es c h3=>cases h;exact⟨b,h1,h2,Qc hb,h3⟩
   .cases h
 .cases h
theorem EZ {n:Nat} {es:List Xk} {c:Nat}:∀ {l:List (AV×St)},cn n es c l=true->∀q∈l,∃lf,cm n q=some (lf,c)/\XM 0 es lf=true/\dW 0 (some (.map lf c))=true
 |a::l,h,q,hq=>by
  simp only[cn,Qf]at h;rcases Qk.1 hq with rfl|hq
  .cases hf:cm n q with
   |none=>rw[hf]at h;cases h.1
   |some p=>
    rw[hf]at h;obtain⟨lf,c'⟩:=p;simp only[qT,Qf]at h;have:=Qb h.1.1.1;subst this;exact⟨lf,U,h.1.1.2,h.1.2⟩
  .exact EZ h.2 q hq
def Cx.pj (C:Cx) (b:Nat):Cx:=⟨C.pl,C.M,fun _=>False,fun _ n=>C.gh b n,fun _ n=>C.G b n,C.X⟩
theorem P9 {C:Cx} {b c:Nat} {es:List Xk} {l:List MapEntry} (h:W9 C b es l) (hu:(es.all fun e=>Cr 0 40 e.1&&Cr 0 40 e.2.1)=true):W9 (C.pj b) c es l:=by
 induction h with
 |nil=>exact .nil
 |cons hk hv hg hn _ ih=>
  simp only[List.all_cons,Qf]at hu;have key:∀ {v:AV} {x:Value},Cr 0 40 v=true->VR C v x->VR (C.pj b) v x:=fun h hv=>
   F1 (C:=C.pj b) (C':=C) (m:=0) (fun b hb _=>absurd hb (Nat.not_lt_zero b)) (fun b n hb _=>absurd hb (Nat.not_lt_zero b)) 40 h hv
  exact .cons (key hu.1.1 hk) (key hu.1.2 hv) hg hn (ih hu.2)
theorem vE {C C2:Cx} {S s2:St} {w w2:World} (hS:W2 C S w) (t:Cu C S.whole w C2 s2 w2) (Wk:s2.log=[]) {b2 clock:Nat} {es es2:List Xk} (gw:S.next<=b2) (o8:s2.heap.get b2=some (.map es2 clock))
 (hp:XM 0 es es2=true) (u5:dW 0 (some (.map es2 clock))=true) (hu:dW 0 (some (.map es clock))=true) (WT:X6 clock es=true) {x:Value} (hv:VR C2 (.map b2) x):
 ∃C4,Cu C S w C4 (S.alloc (.map es clock)) w2/\VR C4 (.map S.next) x:=by
 cases hv with
 |map qu=>
 obtain⟨arr,l,hm⟩:=t.st.map o8;have aB:¬C.D S.next:=fun hd=>Nat.lt_irrefl _ (hS.fresh _ hd);have mq:∀n,¬C.G S.next n:=fun n hg=>aB (hS.stamps _ _ hg);have Z4:∀b o,S.heap.get b=some o->¬aq S.whole s2.log b:=by
  intro b o hb zO;have Co:=hS.fresh b (hS.live b o hb).1;rcases zO with h|h
  .rw[Wk]at h;cases h
  .have:S.next<=b:=h;omega
 have hk:w.heap.size<=(C2.pl b2).Ci:=by
  rcases t.own b2 _ o8 with⟨hd,_⟩|h|⟨b0,o0,h0,zO,_⟩
  .have:=hS.fresh b2 hd;omega
  .exact h
  .exact absurd zO (Z4 b0 o0 h0)
 let C4:Cx:=⟨fun j=>if j=S.next then⟨(C2.pl b2).Ci,0,0⟩else C.pl j,C2.M,fun j=>C.D j\/j=S.next,fun j n=>if j=S.next then C2.gh b2 (X8 es es2 n)else C.gh j n,
  fun j n=>C.G j n\/(j=S.next/\∃e∈es,e.2.2=n),C2.X⟩
 have YM:∀b,C.D b->b≠S.next:=fun b hb e=>aB (e▸hb);have e4:Ext C C4:=⟨fun _ h=> .inl h,fun b hb=>if_neg (YM b hb),t.ext.M,fun _ _ h=> .inl h,fun b n hg=>if_neg (YM b (hS.stamps b n hg)),t.ext.X⟩
 have XV:C4.pl S.next=⟨(C2.pl b2).Ci,0,0⟩:=if_pos rfl;have hghn:∀n,C4.gh S.next n=C2.gh b2 (X8 es es2 n):=fun n=>if_pos rfl;have hR2:=P9 (c:=S.next) hm.cT (by simpa[dW]using u5);have hobj:OR C4 S.next (.map es clock) (.map arr clock):=by
  have enoG:Ext (C2.pj b2).vB C4:=⟨fun _ h=>False.elim h,fun _ h=>False.elim h,fun _ _ h=>h,fun _ _ h=>False.elim h,fun _ _ h=>False.elim h,fun _ h=>h⟩
  obtain⟨lr',zN,hR3⟩:=Gc (C2:=C2.pj b2) (C3:=C4) (b:=S.next) (m:=0) (n0:=0) (n1:=clock) (fun h _ hv=>(Nk h hv).mono enoG)
   hp WT (by simpa[dW]using hu) hR2 (fun e he=>⟨.inr ⟨rfl,e,he,rfl⟩,hghn _⟩)
  have zG:=E1 hp;have uG:(lr'.map (·.born)).Nodup:=(zN.map (·.born)).nodup_iff.2 hm.nodup;have Yw:∀e∈es,C2.G b2 (X8 es es2 e.2.2):=fun e he=>HZ hR2 hp WT e he;have ek:∀n,C4.G S.next n->∃e∈es,e.2.2=n:=fun n hg=>hg.elim (fun h=>absurd h (mq n)) (fun h=>h.2);refine .map (zN.trans hm.perm) hR3 ⟨fun e he=>?_,zG.nodup_iff.2 hm.keys.2⟩ uG ?_ ?_ ?_
  .have:e.1∈es2.map (·.1):=zG.subset (List.mem_map.2 ⟨e,he,rfl⟩);obtain⟨e',Zs,hee⟩:=List.mem_map.1 this;rw[<-hee];exact hm.keys.1 e' Zs
  .intro n hG;obtain⟨e,he,rfl⟩:=ek n hG;rw[hghn];exact hm.yc _ (Yw e he)
  .intro n hG;obtain⟨e,he,rfl⟩:=ek n hG;exact Ga WT e he
  .intro n m hGn hGm heq;obtain⟨e,he,rfl⟩:=ek n hGn;obtain⟨e',Zs,rfl⟩:=ek m hGm;have:=Jm (f:=fun e:Xk=>C4.gh S.next e.2.2) (by rw[<-HD hR3];exact uG) e he e' Zs heq;rw[this]
 have eg:=fun k=>JC S k (.map es clock);have hold:∀b o,S.heap.get b=some o->w2.heap[(C.pl b).Ci]?=w.heap[(C.pl b).Ci]?:=fun b o hb=>
  t.frame _ (hS.lt hb) fun b0 o0 h0 zO _=>Z4 b0 o0 h0 zO
 refine⟨C4,⟨e4,⟨?_,?_,?_,t.st.kG,?_,?_,t.st.there,?_,t.st.XP⟩,rfl,fun _ h=>h,Nat.le_succ _,t.size,?_,?_,?_,?_,?_,t.YQ⟩,?_⟩
 .intro b o hb;rw[eg]at hb;split at hb
  .next e=>subst e;cases hb;exact⟨.inr rfl,_,by rw[XV];exact hm.at_,hobj⟩
  .next fh=>
   obtain⟨hd,y,hy,hr⟩:=hS.live b o hb;refine⟨.inl hd,y,?_,hr.mono e4 hd (fun n hn=>hn.elim id fun h=>absurd h.1 fh)⟩;rw[e4.pl b hd,hold b o hb];exact hy
 .intro b b' o o' hb ZL he;rw[eg]at hb ZL;split at hb
  .next h1=>
   split at ZL
   .next h2=>rw[h1,h2]
   .next h2=>
    exfalso;subst h1;rw[XV,e4.pl b' (hS.live b' o' ZL).1]at he;have:=hS.lt ZL;simp only at he;omega
  .next h1=>
   split at ZL
   .next h2=>
    exfalso;subst h2;rw[XV,e4.pl b (hS.live b o hb).1]at he;have:=hS.lt hb;simp only at he;omega
   .next h2=>
    rw[e4.pl b (hS.live b o hb).1,e4.pl b' (hS.live b' o' ZL).1]at he;exact hS.inj b b' o o' hb ZL he
 .rintro b (hd|rfl)
  .exact Nat.lt_succ_of_lt (hS.fresh b hd)
  .exact Nat.lt_succ_self _
 .intro b o hb;rw[eg]at hb;split at hb
  .next e=>subst e;rw[XV];exact t.st.apart b2 _ o8
  .next fh=>
   obtain⟨hd,y,hy,_⟩:=hS.live b o hb;rw[e4.pl b hd];show C2.M (C.pl b).Ci=none;cases y9:C2.M (C.pl b).Ci with
   |none=>rfl
   |some ms=>
    exfalso;rcases t.cu _ _ y9 with h1|h1|⟨b0,o1,h2,h3,h4⟩
    .rw[hS.apart b o hb]at h1;cases h1
    .have:=Bq hy;omega
    .exact Z4 b0 o1 h2 h3
 .rintro b n (hg|⟨rfl,_⟩)
  .exact .inl (hS.stamps b n hg)
  .exact .inr U
 .rintro b (hd|rfl)
  .rw[e4.pl b hd];exact t.ext.X _ (hS.WS b hd)
  .rw[XV];exact t.st.WS b2 qu
 .intro Ci hb _;exact t.frame Ci hb fun b o ho zO=>absurd zO (Z4 b o ho)
 .grind
 .grind
 .intro b o hb;rw[eg]at hb;split at hb
  .grind
  .next fh=>exact .inl ⟨(hS.live b o hb).1,o,hb⟩
 .intro Ci ms y9;rcases t.cu Ci ms y9 with h1|h1|⟨b0,o0,h0,h2,h3⟩
  .exact .inl h1
  .exact .inr (.inl h1)
  .exact absurd h2 (Z4 b0 o0 h0)
 .have:=VR.map (C:=C4) (b:=S.next) (.inr rfl);rw[XV]at this;exact this
section
variable {E : Env} {P : Program}
theorem Ia {ev:Ev} {f:FuncId} {fn:Func} {S:St}:∀ {l:List bO} {os:List (AV×St)},hQ E ev f fn S l=some os->∀r∈l,∃q∈os,outcome S.whole (ZI E ev f fn S.whole r)=some q
 | [],_,_,r,hr=>by cases hr
 |a::l,os,h,r,hr=>by
  simp only[hQ]at h;obtain⟨o,ho,h⟩:=Qa.1 h;obtain⟨os',hos,h⟩:=Qa.1 h;cases h;rcases Qk.1 hr with rfl|hr
  .grind
  .obtain⟨q,hq,h⟩:=Ia hos r hr;exact⟨q,Qg _ hq,h⟩
theorem Mp (ev:Ev):jQ E P ev:=by
 intro f fn S r0 l cr h C w hS r hr m c cs Zx;unfold nj at h;obtain⟨o,ho,h⟩:=Qa.1 h;obtain⟨os,hos,h⟩:=Qa.1 h;have hq:∃q∈o::os,outcome S.whole (ZI E ev f fn S.whole r)=some q:=by grind [ZI,Ia]
 obtain⟨q,hq,cU⟩:=hq;have qz:∃C2 x w2,Steps P m (lone (c.finish x) cs w2)/\Cu C S.whole w C2 q.2 w2/\VR C2 q.1 x:=by
  cases he:ZI E ev f fn S.whole r with
  |none=>rw[he]at cU;cases cU
  |some cr'=>
   have hx:=Zx cr' he;rw[he]at cU;cases cr' with
   |same v=>cases cU;exact hx
   |val v s=>cases cU;exact hx
   |WR v s=>cases cU
 obtain⟨C2,x,w2,WT,t,hv⟩:=qz;have hsplit:jK S o os (Z3 (o::os) [])=some cr\/eQ S o os=some cr:=by
  unfold orCR at h;split at h
  .next c hc=>exact .inl (hc.trans h)
  .exact .inr h
 rcases hsplit with h|h
 case inr=>
  unfold eQ at h;obtain⟨p,hp,h⟩:=Qa.1 h;cases hl:(cn S.next p.1 p.2 (o::os)&&X6 p.2 p.1)with
  |false=>rw[hl]at h;cases h
  |true=>
  rw[hl]at h;cases h;rw[Qf]at hl;obtain⟨lf,hf,hpe,u5⟩:=EZ hl.1 q hq;obtain⟨b2,h1,h2,h3,h4⟩:=Mz hf;obtain⟨es1,hf1,_,hu1⟩:=EZ hl.1 o (Qh ..);obtain⟨es,clock⟩:=p;rw[hp]at hf1;cases hf1;rw[h1]at hv;obtain⟨C4,t4,hv4⟩:=vE hS t h2 h3 h4 hpe u5 hu1 hl.2 hv;exact⟨C4,x,w2,WT,t4,hv4⟩
 unfold jK at h;cases hl:eO S.next S o (Z3 (o::os) []) (o::os)with
 |false=>rw[hl]at h;cases h
 |true=>
 rw[hl]at h;cases h;obtain⟨iw,j4⟩:=Ji hl q hq;have hat':=KR j4;obtain⟨C3,t3,h1,h2⟩:=Rw (s1:=o.2) hS t (L:=Z3 (o::os) []) ((KQ (o::os) []).1 q hq) (fun b hb=>(hat' b hb).1) (fun b hb=>(hat' b hb).2);refine⟨C3,x,w2,WT,t3,?_⟩;rcases iw with⟨h3,h4⟩|⟨h3,h4⟩
 .grind [Gy]
 .grind [HC]
end
open Go Go.RowKit
structure OK where
 f:Nat
 args:List AV
 v:AV
def jb:List OK->FuncId->List AV->Option AV
 | [],_,_=>none
 |e::l,f,args=>bif Nat.beq e.f f then(bif dX e.args args then some e.v else jb l f args)else jb l f args
def S0:St:= {next:=0,bound:=0,log:=[],heap:= .nil}
theorem s0_st (C:Cx) {S:St} {w:World} (h:W2 C S w):W2 C.bare S0 w:=
 ⟨fun b o hb=>(by rw[show S0.heap= .nil from rfl,AM]at hb;cases hb),fun b b' o o' hb=>(by rw[show S0.heap= .nil from rfl,AM]at hb;cases hb),fun b hb=>hb.elim,h.kG,
  fun b o hb=>(by rw[show S0.heap= .nil from rfl,AM]at hb;cases hb),fun b n hb=>hb.elim,h.there,fun b hb=>hb.elim,h.XP⟩
theorem QM {C C1:Cx} {S:St} {w w':World} (hS:W2 C S w) (t:Cu C.bare S0 w C1 S0 w'):Cu C S w (C.YT C1) S w':=by
 have Z4:∀b o,¬S0.heap.get b=some o:=fun b o hb=>by rw[show S0.heap= .nil from rfl,AM]at hb;cases hb
 have uc:∀Ci,Ci<w.heap.size->w'.heap[Ci]?=w.heap[Ci]?:=fun Ci hb=>t.frame Ci hb fun b o hb=>absurd hb (Z4 b o);have hM:∀Ci ms,C1.M Ci=some ms->C.M Ci=some ms\/w.heap.size<=Ci:=by
  intro Ci ms hm;rcases t.cu Ci ms hm with h1|h1|⟨b0,o0,h0,_⟩
  .exact .inl h1
  .exact .inr h1
  .exact absurd h0 (Z4 b0 o0)
 have e:Ext C (C.YT C1):=⟨fun _ h=>h,fun _ _=>rfl,t.ext.M,fun _ _ h=>h,fun _ _ _=>rfl,t.ext.X⟩
 refine⟨e,⟨?_,hS.inj,hS.fresh,t.st.kG,?_,hS.stamps,t.st.there,fun b hd=>t.ext.X _ (hS.WS b hd),t.st.XP⟩,rfl,fun _ h=>h,Qj _,t.size,fun Ci hb _=>uc Ci hb,fun _ _ _=>⟨rfl,fun _ h=>h⟩,fun _ h=> .inl h,
  fun b o hb=> .inl ⟨(hS.live b o hb).1,o,hb⟩,fun Ci ms hm=>(hM Ci ms hm).imp id .inl,t.YQ⟩
 .intro b o hb;obtain⟨hd,x,hx,hr⟩:=hS.live b o hb;exact⟨hd,x,by rw[<-hx];exact uc _ (Bq hx),hr.mono e hd fun _ h=>h⟩
 .intro b o hb;cases hm:(C.YT C1).M (C.pl b).Ci with
  |none=>exact hm
  |some ms=>
   exfalso;rcases hM _ ms hm with h1|h1
   .rw[hS.apart b o hb]at h1;cases h1
   .have:=hS.lt hb;omega
section
variable {E : Env} {P : Program}
def MOk (E:Env) (P:Program) (e:OK):Prop:=
 ∀(C:Cx) (S:St) (w:World) (xs:Array Value) (c:Frame) (cs:List Frame),W5 E C->Wc C e.args xs.toList->W2 C S w->Returns P (lone (Frame.enter P e.f xs .normal) (c::cs) w) c cs C S w (.same e.v)
theorem Um {l:List OK} (h:∀e∈l,MOk E P e):∀(f:FuncId) (args:List AV) (v:AV),jb l f args=some v->∀(C:Cx) (S:St) (w:World) (xs:Array Value) (c:Frame) (cs:List Frame),W5 E C->Wc C args xs.toList->W2 C S w->
 Returns P (lone (Frame.enter P f xs .normal) (c::cs) w) c cs C S w (.same v):=by
 induction l with
 |nil=>intro f args v h;cases h
 |cons e l ih=>
  intro f args v hm;simp only[jb]at hm;cases hf:Nat.beq e.f f with
  |false=>rw[hf]at hm;exact ih (fun x hx=>h x (Qg _ hx)) f args v hm
  |true=>
   rw[hf]at hm;have:=Qb hf;subst this;simp only[cond_true]at hm;cases ha:dX e.args args with
   |false=>rw[ha]at hm;exact ih (fun x hx=>h x (Qg _ hx)) _ args v hm
   |true=>
    rw[ha]at hm;cases hm;rw[<-FH ha];exact h e (Qh ..)
noncomputable def Xo (E:Env) (n:Nat) (e:OK):Bool:=
 match WA E (ev E n) e.f e.args S0 with
 |some (.same v)=>Zu v e.v&&Cj 40 v&&e.args.all (Cj 40)
 |_=>false
theorem ent_ok (he:CV E P) (hx:ZO E P) (hm:fQ E P) (pR:∀g cs,E.pW g=some cs->cs.all (Cj 40)=true) {n:Nat} {e:OK} (h:Xo E n e=true):MOk E P e:=by
 intro C S w xs c cs hg hv hS;unfold Xo at h;split at h
 .next v hc=>
  simp only[Qf]at h;have Wi:=V6 he hx (PC he hx) hm (fun _ ev _=>Mp ev) n;have hgb:W5 E C.bare:=by
   intro g XU vF;obtain⟨ms,h1,h2,h3⟩:=hg g XU vF;exact⟨ms,h1,B0 40 h2 (pR g XU vF),h3⟩
  have:=Wi e.f e.args (.same v) C.bare S0 w xs c cs hc hgb (B0 40 hv h.2) (s0_st C hS);obtain⟨C1,x,w',hs,t,aw⟩:=this;rw[<-HC h.1.1];have eb:Ext C1.bare (C.YT C1):=⟨fun _ x=>x.elim,fun _ x=>x.elim,fun _ _ h=>h,fun _ _ x=>x.elim,fun _ _ x=>x.elim,fun _ h=>h⟩
  exact⟨_,x,w',hs,QM hS t,(E9 40 aw h.1.2).mono eb⟩
 .cases h
theorem Ll (he:CV E P) {ev:Ev} (fu:kO E P ev) {f:FuncId} {fn:Func} (hp:P.funcs[f]?=some fn) {S:St} {r:bO} {v:AV} (h:ZI E ev f fn S r=some (.same v)) {C C1:Cx} {w w1:World} (hg:W5 E C)
 (hS:W2 C S w) (t:Cu C S.enter w C1 r.st w1) {b:Frame} {a1:Act} (hT:TR C1 r.fr.nt r.T a1.tmps) {cs:List Frame} (hF:mu C1 r.fr b a1 cs) (hk:b.kind= .normal) (hr:b.roundOf=none) (hf:b.fn=f)
 {m:Machine} (ZM:Ends P b [] cs C1 m r.ex a1 w1):∃C2 x w2 fr,Steps P m (lone fr cs w2)/\fr.fn=f/\fr.leaving P w2 (.returned x)/\Cu C S w C2 S w2/\VR C2 v x:=by
 unfold ZI at h;obtain⟨mo,iZ,h⟩:=Qa.1 h;obtain⟨p,s8,h⟩:=Qa.1 h;obtain⟨m',S'⟩:=p;obtain⟨todo,mode,Z5,lF⟩:=leaves hr ZM iZ;have iC:=hg.mono t.ext;obtain⟨C2,w2,mode2,oZ,t2,zy⟩:=Gs he fu s8 iC hF.defs t.st lF b a1.tmps todo cs;have WT:=Z5.trans oZ;have t3:=t.trans t2;unfold endWith at h;cases zy with
 |ret=>
  simp only at h;obtain⟨vs,WQ,h⟩:=Qa.1 h;have zA:TR C2 a1.tmps.size r.T a1.tmps:=⟨rfl,(hT.mono t2.ext).2⟩
  obtain⟨x,hx,aw⟩:=IH he zA t3.st WQ;obtain⟨C3,t4,hv4⟩:=Q9 h hS t3 aw;exact⟨C3,x,w2,_,WT,hf,⟨U,U,hk,fn,by show P.funcs[b.fn]?=_;rw[hf];exact hp,hx⟩,t4,hv4⟩
 |WR hv=>cases h
theorem J6 (he:CV E P) (hx:ZO E P) (hm:fQ E P) {n:Nat} {f:FuncId} {args:List AV} {v:AV} (zI:E.Y3 f args=none) {S:St} (h:WA E (ev E n) f args S=some (.same v))
 {C:Cx} {w:World} {xs:Array Value} (hg:W5 E C) (ha:Wc C args xs.toList) (hS:W2 C S w):Calls P f xs w fun e w'=>∃C2 x,e= .returned x/\Cu C S w C2 S w'/\VR C2 v x:=by
 intro cs;have fu:=rC he hx (PC he hx) hm (fun _ ev _=>Mp ev) n;unfold WA at h;rw[zI]at h;simp only at h;cases nO:E.fns.get f with
 |none=>
  rw[nO]at h;simp only at h;unfold tV at h;cases eU:E.gH f with
  |none=>rw[eU]at h;cases h
  |some g=>
   rw[eU]at h;obtain⟨p,hp,h⟩:=Qa.1 h;cases h
 |some fn=>
 rw[nO]at h;simp only at h;obtain⟨cd,hc,h⟩:=Qa.1 h;have hp:=he.fn f fn nO;have aN:Frame.enter P f xs .normal=CX (Frame.enter P f xs .normal) ⟨xs++Array.replicate (fn.ntmps-xs.size) undef,[]⟩ [.code cd]:=by
  simp[Frame.enter,CX,hp,hc]
 have lk:(Frame.enter P f xs .normal).kind= .normal:=rfl;have ig:(Frame.enter P f xs .normal).roundOf=none:=rfl;have q7:(Frame.enter P f xs .normal).fn=f:=rfl;generalize Frame.enter P f xs .normal=bd at aN lk ig q7;have Zk:=fu cd C S.enter w (frame fn.ntmps args none) (Yl 0 args .nil) bd ⟨xs++Array.replicate (fn.ntmps-xs.size) undef,[]⟩ [] cs hg (PI ha fn.ntmps)
  ⟨.nil,.none (by simp[mr,tryRecover,lk]),.none ig⟩ hS.enter
 rw[<-aN]at Zk;generalize cU:(ev E n) cd (frame fn.ntmps args none) (Yl 0 args .nil) S.enter=out at h Zk;unfold nq at h;split at h
 .next r=>
  obtain⟨r',dD,C1,a1,w1,cs1,t,hT,hF,hn,iY,Wt,ZM⟩:=Zk [r] rfl;simp only[Qn]at dD;subst dD;have:=Wt.none rfl;subst this;obtain⟨C2,x,w2,frr,h1,h2,h3,h4,h5⟩:=Ll he fu hp h hg hS t hT hF lk ig q7 ZM;exact⟨.returned x,w2,frr,⟨C2,x,U,h4,h5⟩,h1,h2,h3⟩
 .next r l=>
  obtain⟨r',dD,C1,a1,w1,cs1,t,hT,hF,hn,iY,Wt,ZM⟩:=Zk (r::l) rfl;have:=Wt.none rfl;subst this;have nW:W2 C S.whole w:=hS.ib _ _;have ht':Cu C S.whole.enter w C1 r'.st w1:=t;cases lF:many1 E (ev E n) f fn S r l with
  |some c1=>
   rw[lF]at h;cases h;obtain⟨v,e,Za⟩:=Q6 lF;cases e;obtain⟨C2,x,w2,frr,h1,h2,h3,h4,h5⟩:=Ll he fu hp (Za r' dD) hg nW ht' hT hF lk ig q7 ZM;exact⟨.returned x,w2,frr,⟨C2,x,U,K9 hS h4,h5⟩,h1,h2,h3⟩
  |none=>
  rw[lF]at h;unfold nk at h;cases yi:E.merge with
  |false=>rw[yi]at h;cases h
  |true=>
  rw[yi]at h;simp only[cond_true]at h;unfold nj at h;obtain⟨o,_,h⟩:=Qa.1 h;obtain⟨os,_,h⟩:=Qa.1 h;unfold orCR at h;split at h
  .next c hc=>
   unfold jK at hc;cases hl:eO S.next S o (Z3 (o::os) []) (o::os)with
   |false=>rw[hl]at hc;cases hc
   |true=>rw[hl]at hc;cases hc;cases h
  .unfold eQ at h;obtain⟨p,_,h⟩:=Qa.1 h;cases hl:(cn S.next p.1 p.2 (o::os)&&X6 p.2 p.1)with
   |false=>rw[hl]at h;cases h
   |true=>rw[hl]at h;cases h
 .cases h
end
noncomputable def pk (P:Program) (nt nf mask:Nat) (m:List OK):Env:=
 {tys:=jX nt P.types.toList,fns:=jX nf P.funcs.toList,j0:=fun f=>bif Nat.testBit mask f then 0 else 1,Y3:=jb m,pW:=fun _=>none,merge:=true,ext:=true,plain:=fun t=> !P.stoodInHeld t,gH:=fun _=>none}
structure Z6 (P:Program) (nt nf:Nat):Prop where
 types:P.types.size<=nt
 funcs:P.funcs.size<=nf
 names:P.funcs.toList.all (fun fn=> !(fn.name== "runtime.NumGoroutine"))=true
 outer:P.funcs.toList.all im=true
theorem QR {P:Program} {nt nf:Nat} (h:Z6 P nt nf) (mask:Nat) (m:List OK):CV (pk P nt nf mask m) P:=by
 refine⟨fun t i hi=>?_,fun f fn hf=>?_,fun t ht=>(by simpa[pk]using ht),fun f fn hf=>?_,fun _ _ h=>by cases h⟩
 .have:P.types.toList[t]?=some i:=by rw[<-EN nt P.types.toList t (by simpa using h.types)];exact hi
  have Co:t<P.types.size:=by
   rcases Nat.lt_or_ge t P.types.size with h|h
   .exact h
   .rw[List.getElem?_eq_none (by simpa using h)]at this;cases this
  unfold Tables.info?;rw[if_pos Co];simpa using this
 .have:P.funcs.toList[f]?=some fn:=by rw[<-EN nf P.funcs.toList f (by simpa using h.funcs)];exact hf
  simpa using this
 .have:P.funcs.toList[f]?=some fn:=by rw[<-EN nf P.funcs.toList f (by simpa using h.funcs)];exact hf
  have:=(List.all_eq_true.1 h.names) fn (List.mem_of_getElem? this);simpa using this
inductive vG (P:Program) (nt nf mask:Nat):List OK->Prop where
 |nil:vG P nt nf mask []
 |cons {e:OK} {m l:List OK} {n:Nat} (hl:vG P nt nf mask l) (hs:∀x∈m,x∈l) (h:Xo (pk P nt nf mask m) n e=true):vG P nt nf mask (e::l)
noncomputable def insT (t:Tr (List OK)) (e:OK):Tr (List OK):=t.set e.f (some (e::(t.get e.f).getD []))
noncomputable def fU:List OK->Tr (List OK)
 | []=> .nil
 |e::l=>insT (fU l) e
def vH (f:FuncId) (args:List AV):Option (List OK)->Option AV
 |some l=>jb l f args
 |none=>none
noncomputable def vI (t:Tr (List OK)) (f:FuncId) (args:List AV):Option AV:=vH f args (t.get f)
theorem Hs:∀ {m:List OK} {f:Nat} {l:List OK},(fU m).get f=some l->∀e∈l,e∈m
 | [],f,l,h=>by rw[fU,AM]at h;cases h
 |a::m,f,l,h=>by
  simp only[fU,insT]at h;rw[Ay]at h;split at h
  .next e=>
   cases h;intro x hx;rcases Qk.1 hx with rfl|hx
   .exact Qh ..
   .cases hg:(fU m).get a.f with
    |none=>rw[hg]at hx;cases hx
    |some l'=>
     rw[hg]at hx;exact Qg _ (Hs hg x hx)
  .intro x hx;exact Qg _ (Hs h x hx)
noncomputable def Y8 (P:Program) (nt nf mask:Nat) (m:List OK):Env:= {pk P nt nf mask []with Y3:=vI (fU m)}
theorem P7 {P:Program} {nt nf:Nat} (h:Z6 P nt nf) (mask:Nat) (m:List OK):CV (Y8 P nt nf mask m) P:=by
 have:=QR h mask [];exact⟨this.ty,this.fn,this.flat,this.lone,this.gH⟩
theorem QQ {P:Program} {nt nf:Nat} (h:Z6 P nt nf) (mask:Nat) (m:List OK):ZO (Y8 P nt nf mask m) P:=
 vk (P7 h mask m) fun f fn hf=>by
  have:P.funcs.toList[f]?=some fn:=by rw[<-EN nf P.funcs.toList f (by simpa using h.funcs)];exact hf
  exact(List.all_eq_true.1 h.outer) fn (List.mem_of_getElem? this)
theorem Q2 {E:Env} {P:Program} {m:List OK} (h:∀e∈m,MOk E P e) (f:FuncId) (args:List AV) (v:AV) (hm:vI (fU m) f args=some v) (C:Cx) (S:St) (w:World) (xs:Array Value) (c:Frame) (cs:List Frame)
 (hg:W5 E C) (hv:Wc C args xs.toList) (hS:W2 C S w):Returns P (lone (Frame.enter P f xs .normal) (c::cs) w) c cs C S w (.same v):=by
 unfold vI vH at hm;split at hm
 .next l hl=>exact Um (fun e he=>h e (Hs hl e he)) f args v hm C S w xs c cs hg hv hS
 .cases hm
def Wx (P:Program) (nt nf mask:Nat) (e:OK):Prop:=∀m,MOk (Y8 P nt nf mask m) P e
theorem Bf {P:Program} {nt nf mask:Nat} (hp:Z6 P nt nf) {m:List OK} (hm:∀e∈m,Wx P nt nf mask e) {n:Nat} {e:OK} (h:Xo (Y8 P nt nf mask m) n e=true):Wx P nt nf mask e:=by
 intro m';have:=ent_ok (P7 hp mask m) (QQ hp mask m) ⟨Q2 (fun y hy=>hm y hy m),fun _ _ h=>by cases h⟩ (fun g cs hg=>by cases hg) h;intro C S w xs c cs hg hv hS;exact this C S w xs c cs (fun g cs hg=>by cases hg) hv hS
end Am
