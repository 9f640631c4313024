/- The abstract machine: regions that draw their order; calls that are known ahead. -/
import Derived.Test.YtpihdbhocgcbpaaGreatDoorAmD
import Derived.Below
set_option linter.unusedSectionVars false
set_option linter.unusedVariables false
set_option linter.unusedSimpArgs false
namespace Am
open Go
section
variable {E : Env} {P : Program}
theorem wJ {ops:Array Oper} {i:Nat} {idx:List Nat} {o:Oper} (ho:ops[i]?=some o) {xo:Tr AV→Option AV} {F:Tr AV→St→Option AV} (aH:XN E P o (.read xo F)) (heq:Xg E o.type o.op= .read xo F)
 {C:Cx} {S:St} {w:World} {T:Tr AV} {b:Frame} {a:Act} {k:List Item} {cs:List Frame} (hg:Wg E C) (hT:TR C a.tmps.size T a.tmps)
 (hS:Wn C S w) (hw:Region.wanted o (yielded ops a.tmps)=true) {v:AV} (h:F T S=some v):
 ∃x,Steps P (lone (CZ b a (.inRegion ops (i::idx)::k)) cs w) (lone (CZ b (a.put o.dst x) (.inRegion ops idx::k)) cs w)∧VR C v x:=by
 obtain⟨x,C5,hv⟩:=aH C T a S w hg hT hS v h;have hr:b.roundOf=none∨∀c,o.op≠ .defer c:= .inr (JU heq (by simp) (by simp));exact⟨x,.one (Dp ho hw hr C5),hv⟩
theorem wK {ev:Ev} (VJ:YF E P ev) (Wi:YG E P ev) {ops:Array Oper} {i:Nat} {idx:List Nat} {o:Oper} (ho:ops[i]?=some o) {so:ZY} (aH:XN E P o so) (heq:Xg E o.type o.op=so)
 (dK:∀f,so≠ .defer f) (jg:so≠ .recover) {C:Cx} {S S':St} {w:World} {fr Xz:Fr} {T TV:Tr AV} {b:Frame} {a:Act} {k:List Item} {cs:List Frame} (hg:Wg E C) (hT:TR C a.tmps.size T a.tmps)
 (hS:Wn C S w) (hw:Region.wanted o (yielded ops a.tmps)=true) (h:(WW E so K0).run ev fr T S= .one ⟨.normal,Xz,TV,S'⟩):
 ∃v C' x w',TV=ZO v∧Xz=fr∧Steps P (lone (CZ b a (.inRegion ops (i::idx)::k)) cs w) (lone (CZ b (a.put o.dst x) (.inRegion ops idx::k)) cs w')∧Cv C S w C' S' w'∧VR C' v x:=by
 have sp:=aH C T a S w hg hT hS;have hr:so≠ .bad→b.roundOf=none∨∀c,o.op≠ .defer c:=fun h2=> .inr (JU heq dK h2);have Yn:=fun v=>DK b a ops i idx k v;simp only[ho,Qe]at Yn;have cr_:∀ {cr:CR} {m:Machine},Returns P m (CZ b a (.inRegion ops (i::idx)::k)) cs C S w cr→Xy fr T S (fun v s=> .one ⟨.normal,fr,ZO v,s⟩) (some cr)= .one ⟨.normal,Xz,TV,S'⟩→
  ∃v C' x w',TV=ZO v∧Xz=fr∧Steps P m (lone (CZ b (a.put o.dst x) (.inRegion ops idx::k)) cs w')∧Cv C S w C' S' w'∧VR C' v x:=by
  intro cr m YQ h;cases cr with
  |same v=>
   obtain⟨C',x,w',hs,t,hv⟩:=YQ;cases h;rw[Yn]at hs;exact⟨v,C',x,w',rfl,rfl,hs,t,hv⟩
  |val v s=>
   obtain⟨C',x,w',hs,t,hv⟩:=YQ;cases h;rw[Yn]at hs;exact⟨v,C',x,w',rfl,rfl,hs,t,hv⟩
  |WD v s=>cases h
 cases so with
 |bad=>cases h
 |make f=>
  change jI S (fun v s=> .one ⟨.normal,fr,ZO v,s⟩) (f T)=_ at h;cases hf:f T with
  |none=>rw[hf]at h;cases h
  |some mk=>
   rw[hf]at h;cases mk with
   |val v=>
    obtain⟨C',x,w',C5,t,hv⟩:=sp.1 v hf;cases h;exact⟨v,C',x,w',rfl,rfl,.one (Dp ho hw (hr (by simp)) C5),t,hv⟩
   |obj ob g=>
    obtain⟨C',x,w',C5,t,hv⟩:=sp.2 ob g hf;cases h;exact⟨_,C',x,w',rfl,rfl,.one (Dp ho hw (hr (by simp)) C5),t,hv⟩
 |pure f=>
  change Xh (fun v=> .one ⟨.normal,fr,ZO v,S⟩) (f T)=_ at h;cases hf:f T with
  |none=>rw[hf]at h;cases h
  |some v=>
   rw[hf]at h;obtain⟨x,C5,hv⟩:=sp v hf;cases h;exact⟨v,C,x,w,rfl,rfl,.one (Dp ho hw (hr (by simp)) C5),Cv.refl hS,hv⟩
 |read xo f=>
  change Xh (fun v=> .one ⟨.normal,fr,ZO v,S⟩) (f T S)=_ at h;cases hf:f T S with
  |none=>rw[hf]at h;cases h
  |some v=>
   rw[hf]at h;obtain⟨x,C5,hv⟩:=sp v hf;cases h;exact⟨v,C,x,w,rfl,rfl,.one (Dp ho hw (hr (by simp)) C5),Cv.refl hS,hv⟩
 |look f=>
  change Xh (fun v=> .one ⟨.normal,fr,ZO v,S⟩) (f T S)=_ at h;cases hf:f T S with
  |none=>rw[hf]at h;cases h
  |some v=>
   rw[hf]at h;obtain⟨x,C5,hv⟩:=sp v hf;cases h;exact⟨v,C,x,w,rfl,rfl,.one (Dp ho hw (hr (by simp)) C5),Cv.refl hS,hv⟩
 |act only xo f=>
  change kQ (fun v s=> .one ⟨.normal,fr,ZO v,s⟩) (f T S)=_ at h;cases hf:f T S with
  |none=>rw[hf]at h;cases h
  |some p=>
   rw[hf]at h;obtain⟨v,S1⟩:=p;obtain⟨C',nx,w',C5,t,az⟩:=sp v S1 hf;cases h;cases az with
   | @value _ x hv=>exact⟨v,C',x,w',rfl,rfl,.one (Dp ho hw (hr (by simp)) C5),t,hv⟩
   |skip=>exact⟨_,C',undef,w',rfl,rfl,.one (Ns ho hw (hr (by simp)) C5),t,VR.unit⟩
 |pick f=>
  change Zi (fun v s=> .one ⟨.normal,fr,ZO v,s⟩) ((f T).bind fun l=>some (mb S l))=_ at h;cases hf:f T with
  |none=>rw[hf]at h;cases h
  |some l=>
   rw[hf]at h;obtain⟨v,hv,x,C5,Yq⟩:=sp l hf;cases l with
   |nil=>cases hv
   |cons u l=>
    cases l with
    |nil=>
     simp only[Qp]at hv;subst hv;cases h;exact⟨v,C,x,w,rfl,rfl,.one (Dp ho hw (hr (by simp)) C5),Cv.refl hS,Yq⟩
    |cons u2 l=>
     exfalso;simp only[Qe,Zi,mb,XF]at h;cases fC:XF (fun v s=>Out.one ⟨.normal,fr,ZO v,s⟩) ((u2,S)::mb S l)with
     |stuck=>simp only[XF]at fC;rw[fC]at h;cases h
     |one r=>simp only[XF]at fC;rw[fC]at h;cases h
     |many r=>simp only[XF]at fC;rw[fC]at h;cases h
 |j6 f=>
  change Zi (fun v s=> .one ⟨.normal,fr,ZO v,s⟩) (f T S)=_ at h;cases hf:f T S with
  |none=>rw[hf]at h;cases h
  |some l=>
   rw[hf]at h;obtain⟨p,hp,C',x,w',C5,t,Yq⟩:=sp l hf;cases l with
   |nil=>cases hp
   |cons u l=>
    cases l with
    |nil=>
     simp only[Qp]at hp;subst hp;cases h;exact⟨_,C',x,w',rfl,rfl,.one (Dp ho hw (hr (by simp)) C5),t,Yq⟩
    |cons u2 l=>
     exfalso;simp only[Zi,XF]at h;cases fC:XF (fun v s=>Out.one ⟨.normal,fr,ZO v,s⟩) (u2::l)with
     |stuck=>simp only[XF]at fC;rw[fC]at h;cases h
     |one r=>simp only[XF]at fC;rw[fC]at h;cases h
     |many r=>simp only[XF]at fC;rw[fC]at h;cases h
 |call f=>
  change Xy fr T S (fun v s=> .one ⟨.normal,fr,ZO v,s⟩) ((f T S).bind fun p=>We E ev p.1 p.2 S)=_ at h;cases hf:f T S with
  |none=>rw[hf]at h;cases h
  |some p=>
   rw[hf]at h;obtain⟨g,args⟩:=p;obtain⟨xs,C5,Wk⟩:=sp g args hf;simp only[Qe]at h;cases jv:We E ev g args S with
   |none=>rw[jv]at h;cases h
   |some cr=>
    rw[jv]at h;have YQ:=VJ g args cr C S w xs (CZ b a (.inRegion ops (i::idx)::k)) cs jv hg Wk hS;obtain⟨v,C',x,w',h1,h2,h3,h4,h5⟩:=cr_ YQ h;exact⟨v,C',x,w',h1,h2,.head (I3 ho hw (hr (by simp)) C5) h3,h4,h5⟩
 |ZB f ar=>
  change Xy fr T S (fun v s=> .one ⟨.normal,fr,ZO v,s⟩) ((f T).bind fun g=>(ar T).bind fun args=>Ya E ev args S g)=_ at h;cases hf:f T with
  |none=>rw[hf]at h;cases h
  |some g=>
  cases ha:ar T with
  |none=>rw[hf,ha]at h;cases h
  |some args=>
   rw[hf,ha]at h;obtain⟨gx,xs,hgx,ZQ,hex⟩:=sp g args hf ha;simp only[Qe]at h;cases jv:Ya E ev args S g with
   |none=>rw[jv]at h;cases h
   |some cr=>
    rw[jv]at h;rcases Wi g args cr C S w gx xs (CZ b a (.inRegion ops (i::idx)::k)) cs jv hg hgx ZQ hS with⟨f',ys,C5,YQ⟩|⟨l,f',tmps,dN,body,C5,YQ⟩
    ·rw[←hex]at C5;obtain⟨v,C',x,w',h1,h2,h3,h4,h5⟩:=cr_ YQ h;exact⟨v,C',x,w',h1,h2,.head (I3 ho hw (hr (by simp)) C5) h3,h4,h5⟩
    ·rw[←hex]at C5;obtain⟨v,C',x,w',h1,h2,h3,h4,h5⟩:=cr_ YQ h;exact⟨v,C',x,w',h1,h2,.head (Pe ho hw (hr (by simp)) C5) h3,h4,h5⟩
 |defer f=>exact absurd rfl (dK f)
 |panic f=>
  change Xh (fun v=> .one ⟨.panic v,fr,T,S⟩) (f T)=_ at h;cases hf:f T with
  |none=>rw[hf]at h;cases h
  |some v=>rw[hf]at h;cases h
 |recover=>exact absurd rfl jg
theorem rZ {ev:Ev} (VJ:YF E P ev) (Wi:YG E P ev) {ops:Array Oper} {i:Nat} {idx:List Nat} {o:Oper} (ho:ops[i]?=some o) {so:ZY} (aH:XN E P o so) (heq:Xg E o.type o.op=so)
 (hq:(∃F,so= .call F)∨∃F A,so= .ZB F A) {C:Cx} {S S':St} {w:World} {fr:Fr} {T:Tr AV} {v:AV} {b:Frame} {a:Act} {k:List Item} {cs:List Frame} (hg:Wg E C) (hT:TR C a.tmps.size T a.tmps)
 (hS:Wn C S w) (hw:Region.wanted o (yielded ops a.tmps)=true) (h:bw ((WW E so K0).run ev fr T S)=some (v,S')):
 ∃C' x w',Steps P (lone (CZ b a (.inRegion ops (i::idx)::k)) cs w) (lone {CZ b a (.inRegion ops (i::idx)::k)with mode:= .panicking [{v:=x,recovered:=false}]} cs w')∧Cv C S w C' S' w'∧VR C' v x:=by
 have sp:=aH C T a S w hg hT hS;have hr:b.roundOf=none∨∀c,o.op≠ .defer c:=by
  rcases hq with⟨F,rfl⟩|⟨F,A,rfl⟩
  ·exact .inr (JU heq (by simp) (by simp))
  ·exact .inr (JU heq (by simp) (by simp))
 have cr_:∀ {cr:CR} {m:Machine},Returns P m (CZ b a (.inRegion ops (i::idx)::k)) cs C S w cr→bw (Xy fr T S (fun v s=> .one ⟨.normal,fr,ZO v,s⟩) (some cr))=some (v,S')→
  ∃C' x w',Steps P m (lone {CZ b a (.inRegion ops (i::idx)::k)with mode:= .panicking [{v:=x,recovered:=false}]} cs w')∧Cv C S w C' S' w'∧VR C' v x:=by
  intro cr m YQ h;cases cr with
  |same v=>cases h
  |val v s=>cases h
  |WD v s=>
   obtain⟨C',x,w',hs,t,hv⟩:=YQ;cases h;exact⟨C',x,w',hs,t,hv⟩
 rcases hq with⟨f,rfl⟩|⟨f,ar,rfl⟩
 ·change bw (Xy fr T S (fun v s=> .one ⟨.normal,fr,ZO v,s⟩) ((f T S).bind fun p=>We E ev p.1 p.2 S))=_ at h;cases hf:f T S with
  |none=>rw[hf]at h;cases h
  |some p=>
   rw[hf]at h;obtain⟨g,args⟩:=p;obtain⟨xs,C5,Wk⟩:=sp g args hf;simp only[Qe]at h;cases jv:We E ev g args S with
   |none=>rw[jv]at h;cases h
   |some cr=>
    rw[jv]at h;have YQ:=VJ g args cr C S w xs (CZ b a (.inRegion ops (i::idx)::k)) cs jv hg Wk hS;obtain⟨C',x,w',h3,h4,h5⟩:=cr_ YQ h;exact⟨C',x,w',.head (I3 ho hw hr C5) h3,h4,h5⟩
 ·change bw (Xy fr T S (fun v s=> .one ⟨.normal,fr,ZO v,s⟩) ((f T).bind fun g=>(ar T).bind fun args=>Ya E ev args S g))=_ at h;cases hf:f T with
  |none=>rw[hf]at h;cases h
  |some g=>
  cases ha:ar T with
  |none=>rw[hf,ha]at h;cases h
  |some args=>
   rw[hf,ha]at h;obtain⟨gx,xs,hgx,ZQ,hex⟩:=sp g args hf ha;simp only[Qe]at h;cases jv:Ya E ev args S g with
   |none=>rw[jv]at h;cases h
   |some cr=>
    rw[jv]at h;rcases Wi g args cr C S w gx xs (CZ b a (.inRegion ops (i::idx)::k)) cs jv hg hgx ZQ hS with⟨f',ys,C5,YQ⟩|⟨l,f',tmps,dN,body,C5,YQ⟩
    ·rw[←hex]at C5;obtain⟨C',x,w',h3,h4,h5⟩:=cr_ YQ h;exact⟨C',x,w',.head (I3 ho hw hr C5) h3,h4,h5⟩
    ·rw[←hex]at C5;obtain⟨C',x,w',h3,h4,h5⟩:=cr_ YQ h;exact⟨C',x,w',.head (Pe ho hw hr C5) h3,h4,h5⟩
end
def gg (ops:List Oper) (i j:Nat):Prop:=∃o,ops[i]?=some o∧∃e∈o.after.toList,Region.binds .any e=true∧e.on=j
inductive dS (ops:List Oper):(Nat→Prop)→List Nat→Prop where
 |nil {D:Nat→Prop} (h:∀i,i<ops.length→D i):dS ops D []
 |cons {D:Nat→Prop} {i:Nat} {l:List Nat} (hi:i<ops.length) (hd:¬D i) (he:∀j,gg ops i j→D j) (t:dS ops (fun k=>D k∨k=i) l):dS ops D (i::l)
theorem sb {ops:Array Oper} {m:Region.Mode} {jx:Nat→Nat} (hr:∀i o,ops[i]?=some o→∀e∈o.after.toList,Region.binds m e=true→e.on<ops.size∧jx e.on<jx i)
 (hany:∀e,Region.binds .any e=true→Region.binds m e=true):∀(fuel t:Nat) (listed:Array Bool) (acc:List Nat),listed.size=ops.size→listed.toList.countP (! ·)≤fuel→
 ∃l,Region.linearise.go m ops fuel t listed acc=acc.reverse++l∧dS ops.toList (fun i=>listed[i]?=some true) l:=by
 intro fuel;have unl:∀(listed:Array Bool),listed.size=ops.size→∀i,i<ops.size→listed[i]?=some true∨listed[i]?=some false:=by
  intro listed hs i hi;rw[Array.getElem?_eq_getElem (by omega)];cases listed[i]<;>simp
 induction fuel with
 |zero=>
  intro t listed acc hs hc;refine⟨[],by simp[Region.linearise.go],.nil fun i hi=>?_⟩;rcases unl listed hs i (by simpa using hi)with h|h
  ·exact h
  ·exfalso;have XY:false∈listed.toList:=by rw[Array.mem_toList_iff];exact Array.mem_of_getElem? h
   have:=List.countP_pos_iff (p:=(! · :Bool→Bool)) (l:=listed.toList)|>.2 ⟨false,XY,rfl⟩;omega
 |succ fuel ih=>
  intro t listed acc hs hc;unfold Region.linearise.go;simp only;generalize hrs:(List.range ops.size).filter (fun i=> !listed.getD i true&&((ops[i]?).map (·.after.all fun e=> !Region.binds m e||listed.getD e.on false)).getD false)=rs;have XY:∀i,i∈rs↔i<ops.size∧listed[i]?=some false∧∃o,ops[i]?=some o∧∀e∈o.after.toList,Region.binds m e=true→listed[e.on]?=some true:=by
   intro i;rw[←hrs,List.mem_filter,List.mem_range];refine and_congr_right fun hi=>?_;rw[Qf];refine and_congr ?_ ?_
   ·rcases unl listed hs i hi with h|h<;>simp[Array.getD_eq_getD_getElem?,h]
   ·rw[Array.getElem?_eq_getElem hi];simp only[Option.map_some,Option.getD_some,Array.all_eq_true_iff_forall_mem,Option.some.injEq,exists_eq_left',Array.mem_toList_iff,Bool.or_eq_true,Bool.not_eq_true'];refine forall_congr' fun e=>forall_congr' fun _=>?_;constructor
    ·rintro(h|h) hb
     ·rw[hb]at h;cases h
     ·rw[Array.getD_eq_getD_getElem?]at h;cases hl:listed[e.on]? with
      |none=>rw[hl]at h;cases h
      |some b=>rw[hl]at h;simp at h;rw[h]
    ·intro h;cases hb:Region.binds m e with
     |false=>exact .inl rfl
     |true=>right;rw[Array.getD_eq_getD_getElem?,h hb];rfl
  cases hsel:rs[t % rs.length]? with
  |none=>
   refine⟨[],by simp,.nil ?_⟩;have zY:rs=[]:=by
    cases rs with
    |nil=>rfl
    |cons a l=>
     exfalso;have:t % (a::l).length<(a::l).length:=Nat.mod_lt _ (by simp);rw[Qi this]at hsel;cases hsel
   have all:∀r i,jx i=r→i<ops.size→listed[i]?=some true:=by
    intro r;induction r using Nat.strongRecOn with
    |_ r ihr=>
     intro i hri hi;rcases unl listed hs i hi with h|h
     ·exact h
     ·exfalso;have:i∈rs:=(XY i).2 ⟨hi,h,ops[i],Array.getElem?_eq_getElem hi,fun e he hb=>by
       obtain⟨h1,h2⟩:=hr i _ (Array.getElem?_eq_getElem hi) e he hb;exact ihr (jx e.on) (by omega) e.on U h1⟩
      rw[zY]at this;cases this
   exact fun i hi=>all _ i U (by simpa using hi)
  |some i=>
   have hi:i∈rs:=List.mem_of_getElem? hsel;obtain⟨C6,qA,o,ho,hed⟩:=(XY i).1 hi;have gQ:i<listed.size:=by omega
   have hcnt:(listed.setIfInBounds i true).toList.countP (! ·)≤fuel:=by
    rw[Array.toList_setIfInBounds,List.countP_set (by simpa using gQ)];have aG:listed.toList[i]'(by simpa using gQ)=false:=by
     have:listed[i]=false:=by rw[Array.getElem?_eq_getElem gQ]at qA;exact Option.some.inj qA
     simpa using this
    rw[aG];simp;simp at hc;omega
   obtain⟨l,hl,sd⟩:=ih (t/rs.length) (listed.setIfInBounds i true) (i::acc) (by simpa using hs) hcnt;refine⟨i::l,by simpa using hl,.cons (by simpa using C6) (by rw[qA];simp) ?_ ?_⟩
   ·rintro j ⟨o',vm,e,he,hb,rfl⟩;rw[Array.getElem?_toList,ho]at vm;cases vm;exact hed e he (hany e hb)
   ·have:(fun k=>listed[k]?=some true∨k=i)=(fun k=>(listed.setIfInBounds i true)[k]?=some true):=by
     funext k
     apply propext;rw[Array.getElem?_setIfInBounds];by_cases hk:i=k
     ·subst hk;simp[gQ]
     ·simp only[hk,if_false];constructor
      ·rintro(h|h)
       ·exact h
       ·exact absurd h.symm hk
      ·exact .inl
    rw[this];exact sd
theorem Kc {ops:Array Oper} {m:Region.Mode} {jx:Nat→Nat} (hr:∀i o,ops[i]?=some o→∀e∈o.after.toList,Region.binds m e=true→e.on<ops.size∧jx e.on<jx i)
 (hany:∀e,Region.binds .any e=true→Region.binds m e=true) (t:Nat):dS ops.toList (fun _=>False) (Region.linearise m ops t):=by
 obtain⟨l,h1,h2⟩:=sb hr hany ops.size t (Array.replicate ops.size false) [] (by simp) (by
  have:=List.countP_le_length (p:=(! · :Bool→Bool)) (l:=(Array.replicate ops.size false).toList);simpa using this)
 have hl:Region.linearise m ops t=l:=by unfold Region.linearise;rw[h1];rfl
 rw[hl];have:(fun i=>(Array.replicate ops.size false)[i]?=some true)=(fun _:Nat=>False):=by
  funext i
  apply propext;rw[Array.getElem?_replicate];split<;>simp
 rw[this]at h2;exact h2
theorem KE {m:Region.Mode} (e:Edge) (h:Region.binds .any e=true):Region.binds m e=true:=by
 unfold Region.binds at*;split at h<;>first|(simp at h;done)|rfl
theorem Du {i:Nat}:∀ {l:List Edge},Z9 i l=true→∀e∈l,(∀r,e.ground≠ .gcOnly r)→e.on<i
 |a::l,h,e,he,hn=>by
  simp only[Z9,Qf]at h;rcases Qk.1 he with rfl|he
  ·have h1:=h.1;split at h1
   ·next r hr=>exact absurd hr (hn r)
   ·simpa[Nat.blt_eq]using h1
  ·exact Du h.2 e he hn
theorem LH {n i:Nat} {fV:List Nat}:∀ {l:List Edge},fi n fV i l=true→∀e∈l,Region.binds .gc e=true→e.on<n∧jL e.on fV<jL i fV
 |a::l,h,e,he,hb=>by
  simp only[fi,Qf]at h;rcases Qk.1 he with rfl|he
  ·have h1:=h.1;rw[hb]at h1;simpa[Nat.blt_eq]using h1
  ·exact LH h.2 e he hb
theorem QU {n:Nat} {fV:List Nat}:∀ {l:List Oper} {j:Nat},mc n fV l j=true→∀i o,l[i]?=some o→fi n fV (j+i) o.after.toList=true
 |a::l,j,h,0,o,ho=>by
  simp only[mc,Qf]at h;simp at ho;subst ho;exact h.1
 |a::l,j,h,i+1,o,ho=>by
  simp only[mc,Qf]at h;have:=QU h.2 i o (by simpa using ho);rw[show j+(i+1)=j+1+i by omega];exact this
 | [],_,_,_,_,ho=>by simp at ho
theorem Oc:∀ {l:List Edge},eg l=false→∀e∈l,∀r,e.ground≠ .gcOnly r
 |a::l,h,e,he,r,hr=>by
  simp only[eg]at h;split at h
  ·cases h
  ·next hn=>
   rcases Qk.1 he with rfl|he
   ·exact hn r hr
   ·exact Oc h e he r hr
theorem Sw {a:Oper} {l:List Oper} (h:iJ (a::l)=false):eg a.after.toList=false∧iJ l=false:=by
 unfold iJ at h;generalize eg a.after.toList=q at h;cases q with
 |true=>cases h
 |false=>exact⟨rfl,h⟩
theorem QT:∀ {l:List Oper},iJ l=false→∀o,o∈l→eg o.after.toList=false
 | [],_,_,ho=>by cases ho
 |a::l,h,o,ho=>by
  obtain⟨h1,h2⟩:=Sw h;cases ho with
  |head=>exact h1
  |tail _ ho=>exact QT h2 o ho
theorem JI {ops:List Oper} {bs:List Nat}:∀ {l:List Oper} {j:Nat},cK ops bs l j=true→∀i o,l[i]?=some o→ny ops bs (j+i) o (l.drop (i+1))=true
 |a::l,j,h,0,o,ho=>by
  simp only[cK,Qf]at h;simp at ho;subst ho;exact h.1
 |a::l,j,h,i+1,o,ho=>by
  simp only[cK,Qf]at h;have:=JI h.2 i o (by simpa using ho);rw[show j+(i+1)=j+1+i by omega];exact this
 | [],_,_,_,_,ho=>by simp at ho
theorem Is {ops:List Oper} (h:WK ops=true) {i:Nat} {o:Oper} (ho:ops[i]?=some o):ny ops (VL ops) i o (ops.drop (i+1))=true:=by
 unfold WK at h;rw[Qf]at h;have:=JI h.1 i o ho;simpa using this
theorem Gf {ops:List Oper} (h:WK ops=true) {i:Nat} {o:Oper} (ho:ops[i]?=some o):Z9 i o.after.toList=true:=by
 have:=Is h ho;unfold ny at this;simp only[Qf]at this;exact this.1.1.2
theorem JC {ops:Array Oper} (h:WK ops.toList=true) (mixed:Bool) (t:Nat):dS ops.toList (fun _=>False) (Region.schedule mixed ops t):=by
 have o8:∀i o,ops[i]?=some o→Z9 i o.after.toList=true:=fun i o ho=>Gf h (by rw[Array.getElem?_toList];exact ho);have C6:∀i o,ops[i]?=some o→i<ops.size:=by
  intro i o ho;rcases Nat.lt_or_ge i ops.size with h|h
  ·exact h
  ·rw[Array.getElem?_eq_none h]at ho;cases ho
 have plain:∀(m:Region.Mode),m≠ .gc→∀t,dS ops.toList (fun _=>False) (Region.linearise m ops t):=by
  intro m hm t;refine Kc (jx:=id) (fun i o ho e he hb=>?_) KE t;have jS:∀r,e.ground≠ .gcOnly r:=by
   intro r hr;unfold Region.binds at hb;rw[hr]at hb;simp at hb;exact hm hb
  have:=Du (o8 i o ho) e he jS;exact⟨Nat.lt_trans this (C6 i o ho),this⟩
 have gc:∀t,dS ops.toList (fun _=>False) (Region.linearise .gc ops t):=by
  intro t;unfold WK at h;rw[Qf]at h;cases hg:iJ ops.toList with
  |true=>
   have h2:=h.2;rw[hg]at h2;simp only[cond_true,D1,Array.length_toList]at h2;refine Kc (jx:=fun i=>jL i (Region.linearise .gc ops.toList.toArray 0)) (fun i o ho e he hb=>?_) KE t;have:=QU h2 i o (by rw[Array.getElem?_toList];exact ho);rw[Nat.zero_add]at this;exact LH this e he hb
  |false=>
   refine Kc (jx:=id) (fun i o ho e he hb=>?_) KE t;have jS:=Oc (QT hg o (by rw[Array.mem_toList_iff];exact Array.mem_of_getElem? ho)) e he;have:=Du (o8 i o ho) e he jS;exact⟨Nat.lt_trans this (C6 i o ho),this⟩
 unfold Region.schedule;split
 ·exact plain .any (by simp) t
 ·split
  ·exact plain .text (by simp) _
  ·exact gc _
theorem Re (acc:Array Nat) (j:Nat):∀(l:List Edge) (s:Nat),
 (l.foldl (fun s e=>if Region.binds .any e then s|||2^e.on|||acc.getD e.on 0 else s) s).testBit j=true↔
  s.testBit j=true∨∃e∈l,Region.binds .any e=true∧(e.on=j∨(acc.getD e.on 0).testBit j=true)
 | [],s=>by simp
 |e::l,s=>by
  rw[List.foldl_cons,Re acc j l];cases hb:Region.binds .any e with
  |true=>
   simp only[if_true,Nat.testBit_or,Bool.or_eq_true,Nat.testBit_two_pow,decide_eq_true_eq,Qk,exists_eq_or_imp,hb,true_and];constructor
   ·rintro(((h|h)|h)|h)
    ·exact .inl h
    ·exact .inr (.inl (.inl h))
    ·exact .inr (.inl (.inr h))
    ·exact .inr (.inr h)
   ·rintro(h|(h|h)|h)
    ·exact .inl (.inl (.inl h))
    ·exact .inl (.inl (.inr h))
    ·exact .inl (.inr h)
    ·exact .inr h
  |false=>
   simp only[Bool.false_eq_true,if_false,Qk,exists_eq_or_imp,hb,false_and,false_or]
theorem Og (f:Array Nat→Oper→Nat):∀(l:List Oper) (acc:Array Nat),(l.foldl (fun acc o=>acc.push (f acc o)) acc).size=acc.size+l.length∧
 (∀i,i<acc.size→(l.foldl (fun acc o=>acc.push (f acc o)) acc)[i]?=acc[i]?)∧
 (∀i o,l[i]?=some o→∃pre:Array Nat,(l.foldl (fun acc o=>acc.push (f acc o)) acc)[acc.size+i]?=some (f pre o)∧pre.size=acc.size+i∧
  ∀k,k<pre.size→pre[k]?=(l.foldl (fun acc o=>acc.push (f acc o)) acc)[k]?)
 | [],acc=>⟨by simp,fun _ _=>rfl,fun i o h=>by simp at h⟩
 |a::l,acc=>by
  obtain⟨h1,h2,h3⟩:=Og f l (acc.push (f acc a));simp only[List.foldl_cons];refine⟨by rw[h1];simp;omega,fun i hi=>?_,fun i o ho=>?_⟩
  ·rw[h2 i (by simp;omega),Array.getElem?_push_lt hi];rw[Array.getElem?_eq_getElem hi]
  ·cases i with
   |zero=>
    simp at ho;subst ho;refine⟨acc,?_,by simp,fun k hk=>?_⟩
    ·rw[Nat.add_zero,h2 acc.size (by simp)];exact Array.getElem?_push_size
    ·rw[h2 k (by simp;omega),Array.getElem?_push_lt hk,Array.getElem?_eq_getElem hk]
   |succ i=>
    obtain⟨pre,ek,pd,hp3⟩:=h3 i o (by simpa using ho);refine⟨pre,?_,?_,hp3⟩
    ·rw[←ek];congr 1;simp;omega
    ·rw[pd];simp;omega
def cQ (ops:List Oper) (i j:Nat):Prop:=Nat.testBit ((nth (VL ops) i).getD 0) j=true
theorem Vt {ops:List Oper} (h:WK ops=true) {i:Nat} {o:Oper} (ho:ops[i]?=some o) (j:Nat):
 cQ ops i j↔∃e∈o.after.toList,Region.binds .any e=true∧(e.on=j∨cQ ops e.on j):=by
 obtain⟨h1,h2,h3⟩:=Og (fun acc o=>o.after.foldl (fun s e=>if Region.binds .any e then s|||2^e.on|||acc.getD e.on 0 else s) 0) ops #[];have hbef:Region.before ops.toArray=ops.foldl (fun acc o=>acc.push (o.after.foldl (fun s e=>if Region.binds .any e then s|||2^e.on|||acc.getD e.on 0 else s) 0)) #[]:=by
  unfold Region.before;rw[←Array.foldl_toList]
 have Y2:∀k,nth (VL ops) k=(Region.before ops.toArray)[k]?:=by
  intro k;unfold VL;rw[EP,Array.getElem?_toList]
 rw[←hbef]at h1 h2 h3;obtain⟨pre,ek,pd,hp3⟩:=h3 i o ho;simp only[List.size_toArray,List.length_nil,Nat.zero_add]at ek pd;unfold cQ;rw[Y2 i,ek];simp only[Option.getD_some];rw[←Array.foldl_toList,Re];simp only[Nat.zero_testBit,Bool.false_eq_true,false_or];have hb:=Gf h ho;constructor
 ·rintro⟨e,he,wL,hj⟩;have jS:∀r,e.ground≠ .gcOnly r:=by
   intro r hr;unfold Region.binds at wL;rw[hr]at wL;simp at wL
  have C6:=Du hb e he jS;refine⟨e,he,wL,hj.imp id fun hj=>?_⟩;rw[Y2,←hp3 e.on (by omega),←Array.getD_eq_getD_getElem?];exact hj
 ·rintro⟨e,he,wL,hj⟩;have jS:∀r,e.ground≠ .gcOnly r:=by
   intro r hr;unfold Region.binds at wL;rw[hr]at wL;simp at wL
  have C6:=Du hb e he jS;refine⟨e,he,wL,hj.imp id fun hj=>?_⟩;rw[Y2,←hp3 e.on (by omega),←Array.getD_eq_getD_getElem?]at hj;exact hj
theorem O0 {ops:List Oper} (h:WK ops=true):∀(i j:Nat),i<ops.length→cQ ops i j→j<i:=by
 intro i;induction i using Nat.strongRecOn with
 |_ i ih=>
  intro j hi ha;have ho:ops[i]?=some ops[i]:=Qi hi;obtain⟨e,he,hb,hj⟩:=(Vt h ho j).1 ha;have jS:∀r,e.ground≠ .gcOnly r:=by
   intro r hr;unfold Region.binds at hb;rw[hr]at hb;simp at hb
  have C6:=Du (Gf h ho) e he jS;rcases hj with rfl|hj
  ·exact C6
  ·exact Nat.lt_trans (ih e.on C6 j (by omega) hj) C6
theorem Hf {ops:List Oper} (h:WK ops=true) {D:Nat→Prop} (hD:∀i,D i→∀j,gg ops i j→D j):∀(i j:Nat),i<ops.length→D i→cQ ops i j→D j:=by
 intro i;induction i using Nat.strongRecOn with
 |_ i ih=>
  intro j hi hd ha;have ho:ops[i]?=some ops[i]:=Qi hi;obtain⟨e,he,hb,hj⟩:=(Vt h ho j).1 ha;have jS:∀r,e.ground≠ .gcOnly r:=by
   intro r hr;unfold Region.binds at hb;rw[hr]at hb;simp at hb
  have C6:=Du (Gf h ho) e he jS;have hde:D e.on:=hD i hd e.on ⟨_,ho,e,he,hb,rfl⟩;rcases hj with rfl|hj
  ·exact hde
  ·exact ih e.on C6 j (by omega) hde hj
theorem P6 {CS b:Nat}:∀ {l:W8},X4 CS b l=true↔∃j,(j,b)∈l∧Nat.testBit CS j=false
 | []=>by simp[X4]
 |p::l=>by
  obtain⟨pi,pb⟩:=p;simp only[X4];cases hq:(Nat.beq pb b&& !(Nat.testBit CS pi))with
  |true=>
   simp only[cond_true,true_iff];rw[Qf]at hq;have:=Qb hq.1;subst this;exact⟨pi,Qh ..,by simpa using hq.2⟩
  |false=>
   simp only[cond_false];rw[P6];constructor
   ·rintro⟨j,h1,h2⟩;exact⟨j,Qg _ h1,h2⟩
   ·rintro⟨j,h1,h2⟩;rcases Qk.1 h1 with h1|h1
    ·cases h1;rw[Bool.and_eq_false_iff]at hq;rcases hq with hq|hq
     ·rw[Nat.beq_refl]at hq;cases hq
     ·rw[h2]at hq;cases hq
    ·exact⟨j,h1,h2⟩
theorem H5 {CS:Nat}:∀(l:W8) (h:Tr CB) (b:Nat) (o:CB),(bu CS l h).get b=some o→h.get b=some o∧∀j,(j,b)∈l→Nat.testBit CS j=true
 | [],h,b,o,hg=>⟨hg,fun _ h=>by cases h⟩
 |p::l,h,b,o,hg=>by
  obtain⟨pi,pb⟩:=p;simp only[bu]at hg;cases hq:Nat.testBit CS pi with
  |true=>
   rw[hq]at hg;obtain⟨h1,h2⟩:=H5 l _ b o hg;refine⟨h1,fun j hj=>?_⟩;rcases Qk.1 hj with hj|hj
   ·cases hj;exact hq
   ·exact h2 j hj
  |false=>
   rw[hq]at hg;obtain⟨h1,h2⟩:=H5 l _ b o hg;simp only[cond_false,AF]at h1;split at h1
   ·cases h1
   ·next Xl=>
    refine⟨h1,fun j hj=>?_⟩;rcases Qk.1 hj with hj|hj
    ·cases hj;exact absurd rfl Xl
    ·exact h2 j hj
theorem Bs {α:Type} (i:Nat):(Tr.nil:Tr α).get i=none:=by
 unfold Tr.get;cases pathOf i<;>rfl
theorem J7 {CS:Nat} {news:W8} {h:Tr CB} {t:Touch} {b:Nat} {o:CB} (hg:(VP CS news h t).get b=some o):h.get b=some o∧(∀j,(j,b)∈news→Nat.testBit CS j=true)∧dD b t=true:=by
 cases t with
 |nothing=>rw[VP,Bs]at hg;cases hg
 |block c=>
  simp only[VP]at hg;cases hq:X4 CS c news with
  |true=>rw[hq]at hg;rw[cond_true,Bs]at hg;cases hg
  |false=>
   rw[hq]at hg;simp only[cond_false,AF,Bs]at hg;split at hg
   ·next e=>
    subst e;refine⟨hg,fun j hj=>?_,by simp[dD]⟩;cases hb:Nat.testBit CS j with
    |true=>rfl
    |false=>rw[P6.2 ⟨j,hj,hb⟩]at hq;cases hq
   ·cases hg
 |all=>
  obtain⟨h1,h2⟩:=H5 _ _ _ _ hg;exact⟨h1,h2,rfl⟩
theorem F9 (T:Tr AV):∀(l:List Nat) (t:Tr AV) (i:Nat),(Xb T l t).get i=if i∈l then T.get i else t.get i
 | [],t,i=>by simp[Xb]
 |a::l,t,i=>by
  simp only[Xb];rw[F9 T l,AF];by_cases h1:i∈l
  ·simp[h1]
  ·by_cases h2:i=a
   ·subst h2;simp
   ·simp[h1,h2]
theorem Mu:∀ {n b x:Nat},x∈Yb b n↔b≤x∧x<b+n
 |0,b,x=>by simp only[Yb,List.not_mem_nil,false_iff];omega
 |n+1,b,x=>by
  simp only[Yb,Qk];rw[Mu];omega
theorem Dc (h':Tr CB):∀(l:List Nat) (h:Tr CB) (b:Nat),(W5 h' l h).get b=if b∈l then h'.get b else h.get b
 | [],h,b=>by simp[W5]
 |a::l,h,b=>by
  simp only[W5];rw[Dc h' l,AF];by_cases h1:b∈l
  ·simp[h1]
  ·by_cases h2:b=a
   ·subst h2;simp
   ·simp[h1,h2]
theorem LZ {i:Nat} {news:W8}:∀ {l:List Nat} {p:Nat×Nat},p∈Xi i news l↔(p.1=i∧p.2∈l)∨p∈news
 | [],p=>by simp[Xi]
 |b::l,p=>by
  simp only[Xi,Qk];rw[LZ];constructor
  ·rintro(rfl|h|h)
   ·exact .inl ⟨rfl,.inl U⟩
   ·exact .inl ⟨h.1,.inr h.2⟩
   ·exact .inr h
  ·rintro(⟨h1,h2|h2⟩|h)
   ·left;cases p;simp_all
   ·exact .inr (.inl ⟨h1,h2⟩)
   ·exact .inr (.inr h)
theorem Il {CS b n:Nat} {o:Option CB}:∀ {l:Zp},YB CS b n o l=true→∀p∈l,Nat.testBit CS p.1=false→dD b p.2.1=false∨p.2.2 n o=true
 |q::l,h,p,hp,ha=>by
  simp only[YB]at h;cases hq:Nat.testBit CS q.1 with
  |true=>
   rw[hq]at h;rcases Qk.1 hp with rfl|hp
   ·rw[hq]at ha;cases ha
   ·exact Il h p hp ha
  |false=>
   rw[hq]at h;simp only[cond_false]at h;cases hh:dD b q.2.1 with
   |true=>
    rw[hh]at h;simp only[cond_true,Qf]at h;rcases Qk.1 hp with rfl|hp
    ·exact .inr h.1
    ·exact Il h.2 p hp ha
   |false=>
    rw[hh]at h;rcases Qk.1 hp with rfl|hp
    ·exact .inl hh
    ·exact Il h p hp ha
theorem JZ {CS next n:Nat} {H:Tr CB} {q:Zv}:∀ {l:List Nat},Wp CS next n H q l=true→∀b∈l,b<next∧(∀j,(j,b)∈q.news→Nat.testBit CS j=true)∧
 ∀p∈q.looked,Nat.testBit CS p.1=false→dD b p.2.1=false∨p.2.2 n (H.get b)=true
 |a::l,h,b,hb=>by
  simp only[Wp,Qf,Bool.not_eq_true']at h;rcases Qk.1 hb with rfl|hb
  ·refine⟨by simpa[Nat.blt_eq]using h.1.1.1,fun j hj=>?_,Il h.1.2⟩;cases hq:Nat.testBit CS j with
   |true=>rfl
   |false=>rw[P6.2 ⟨j,hj,hq⟩]at h;simp at h
  ·exact JZ h.2 b hb
theorem T8 {d:Option Nat} {nt:Nat} {v:AV} {T T':Tr AV} (h:vC d nt v T=some T'):(∀t,d=some t→t<nt)∧∀t,T'.get t=if d=some t then some v else T.get t:=by
 unfold vC at h;split at h
 ·next k=>
  cases hk:Nat.blt k nt with
  |false=>rw[hk]at h;cases h
  |true=>
   rw[hk]at h;cases h;refine⟨fun t ht=>(by cases ht;simpa[Nat.blt_eq]using hk),fun t=>?_⟩;show(T.set k (some v)).get t=_;rw[AF];by_cases e:t=k
   ·subst e;simp
   ·have:¬k=t:=fun h=>e h.symm;simp[e,this]
 ·cases h;exact⟨fun t ht=>(by cases ht),fun t=>by simp⟩
structure se (nt:Nat) (d:fJ) (q:Zv) (r:Touch×AV×St) (q':Zv):Prop where
 le:q.st.next≤r.2.2.next
 may:∀b∈r.2.2.log,b<q.st.next∧(∀j,(j,b)∈q.news→Nat.testBit d.CS j=true)∧∀p∈q.looked,Nat.testBit d.CS p.1=false→dD b p.2.1=false∨p.2.2 r.2.2.next (r.2.2.heap.get b)=true
 next:q'.st.next=r.2.2.next
 bound:q'.st.bound=q.st.bound
 log:q'.st.log=below q.st.bound r.2.2.log q.st.log
 heap:∀b,q'.st.heap.get b=if b∈r.2.2.log∨(q.st.next≤b∧b<r.2.2.next)then r.2.2.heap.get b else q.st.heap.get b
 news:∀j b,(j,b)∈q'.news↔(j=d.i∧(b∈r.2.2.log∨(q.st.next≤b∧b<r.2.2.next)))∨(j,b)∈q.news
 looked:∀p,p∈q'.looked↔p=(d.i,r.1,aU d q r)∨p∈q.looked
 slot:∀t,d.o.dst=some t→t<nt
 T:∀t,q'.T.get t=if d.o.dst=some t then some r.2.1 else q.T.get t
theorem QA {nt:Nat} {d:fJ} {q q':Zv} {r:Touch×AV×St} (h:VF nt d q r=some q'):se nt d q r q':=by
 unfold VF at h;cases hc:(Nat.ble q.st.next r.2.2.next&&Wp d.CS q.st.next r.2.2.next r.2.2.heap q r.2.2.log)with
 |false=>rw[hc]at h;cases h
 |true=>
 rw[hc]at h;simp only[cond_true]at h;rw[Qf]at hc;obtain⟨T,hT,h⟩:=Qa.1 h;cases h;have hle:=Qc hc.1;obtain⟨h1,h2⟩:=T8 hT;refine⟨hle,JZ hc.2,rfl,rfl,rfl,fun b=>?_,fun j b=>?_,fun p=>by simp,h1,h2⟩
 ·show(W5 _ _ (W5 _ _ _)).get b=_;rw[Dc,Dc];simp only[Mu];have:q.st.next+(r.2.2.next-q.st.next)=r.2.2.next:=by omega
  rw[this];by_cases ha:b∈r.2.2.log<;>by_cases hb:q.st.next≤b∧b<r.2.2.next<;>simp[ha,hb]
 ·rw[LZ,LZ];simp only[Mu];have:q.st.next+(r.2.2.next-q.st.next)=r.2.2.next:=by omega
  rw[this];constructor
  ·rintro(⟨rfl,h⟩|⟨rfl,h⟩|h)
   ·exact .inl ⟨rfl,.inl h⟩
   ·exact .inl ⟨rfl,.inr h⟩
   ·exact .inr h
  ·rintro(⟨rfl,h|h⟩|h)
   ·exact .inl ⟨rfl,h⟩
   ·exact .inr (.inl ⟨rfl,h⟩)
   ·exact .inr (.inr h)
noncomputable def Yr (E:Env) (ops:List Oper) (i:Nat) (o:Oper):fJ:= {o,so:=Xg E o.type o.op,i,CS:=(nth (VL ops) i).getD 0,tmps:=tmpsOf o.op.operands.toList}
structure bD (E:Env) (ops:List Oper) (ev:Ev) (fr:Fr) (f:Nat→Zv) (r:Nat→Touch×AV×St) (X:Nat→Prop):Prop where
 run:∀i o,¬X i→ops[i]?=some o→Wx E ops ev fr (Yr E ops i o) (f i)=some (r i)
 put:∀i o,ops[i]?=some o→se fr.nt (Yr E ops i o) (f i) (r i) (f (i+1))
theorem Kx {E:Env} {ops:List Oper} {ev:Ev} {fr:Fr}:∀ {l:List Oper} {i0:Nat} {q q':Zv},dq E ops ev fr (XM E (VL ops) l i0) q=some q'→
 ∃(f:Nat→Zv) (r:Nat→Touch×AV×St),f i0=q∧f (i0+l.length)=q'∧∀k o,l[k]?=some o→Wx E ops ev fr (Yr E ops (i0+k) o) (f (i0+k))=some (r (i0+k))∧
  se fr.nt (Yr E ops (i0+k) o) (f (i0+k)) (r (i0+k)) (f (i0+k+1))
 | [],i0,q,q',h=>by
  cases h;exact⟨fun _=>q,fun _=>(.nothing,.C8,q.st),rfl,rfl,fun k o h=>by simp at h⟩
 |o::l,i0,q,q',h=>by
  simp only[XM,dq]at h;obtain⟨r0,kY,h⟩:=Qa.1 h;obtain⟨q1,dK,h⟩:=Qa.1 h;obtain⟨f,r,h1,h2,h3⟩:=Kx h;refine⟨fun n=>if n=i0 then q else f n,fun n=>if n=i0 then r0 else r n,by simp,?_,fun k o' ho=>?_⟩
  ·have:i0+(o::l).length≠i0:=by simp
   simp only[this,if_false];rw[←h2];congr 1;simp;omega
  ·cases k with
   |zero=>
    simp at ho;subst ho;have Xl:i0+1≠i0:=by omega
    simp only[Nat.add_zero,if_true,Xl,if_false,h1];exact⟨kY,QA dK⟩
   |succ k=>
    have:=h3 k o' (by simpa using ho);have e1:i0+(k+1)=i0+1+k:=by omega
    have n1:i0+1+k≠i0:=by omega
    have n2:i0+1+k+1≠i0:=by omega
    simp only[e1,n1,n2,if_false];exact this
theorem JH {E:Env} {ops:List Oper} {ev:Ev} {fr:Fr} {p:Nat}:∀ {l:List Oper} {i0:Nat} {q q':Zv},Zf E ops ev fr p (XM E (VL ops) l i0) q=some q'→
 ∃(f:Nat→Zv) (r:Nat→Touch×AV×St),f i0=q∧f (i0+l.length)=q'∧∀k o,l[k]?=some o→(Nat.testBit (Yr E ops (i0+k) o).CS p=false→Wx E ops ev fr (Yr E ops (i0+k) o) (f (i0+k))=some (r (i0+k)))∧
  se fr.nt (Yr E ops (i0+k) o) (f (i0+k)) (r (i0+k)) (f (i0+k+1))∧(r (i0+k)).2.2.next=(f (i0+k)).st.next∧(r (i0+k)).2.2.log=[]
 | [],i0,q,q',h=>by
  cases h;exact⟨fun _=>q,fun _=>(.nothing,.C8,q.st),rfl,rfl,fun k o h=>by simp at h⟩
 |o::l,i0,q,q',h=>by
  have one:∃r0 q1,(Nat.testBit (Yr E ops i0 o).CS p=false→Wx E ops ev fr (Yr E ops i0 o) q=some r0)∧VF fr.nt (Yr E ops i0 o) q r0=some q1∧r0.2.2.next=q.st.next∧r0.2.2.log=[]∧
   Zf E ops ev fr p (XM E (VL ops) l (i0+1)) q1=some q':=by
   change (bif Nat.testBit (Yr E ops i0 o).CS p then _ else _)=_ at h;cases hb:Nat.testBit (Yr E ops i0 o).CS p with
   |true=>
    rw[hb]at h;obtain⟨q1,h1,h2⟩:=Qa.1 h;exact⟨_,q1,(fun h=>by cases h),h1,rfl,rfl,h2⟩
   |false=>
    rw[hb]at h;obtain⟨r0,h1,h2⟩:=Qa.1 h;cases hc:(Nat.beq r0.2.2.next q.st.next&&nv r0.2.2.log)with
    |false=>rw[hc]at h2;cases h2
    |true=>
     rw[hc]at h2;obtain⟨q1,h3,h4⟩:=Qa.1 h2;rw[Qf]at hc;refine⟨r0,q1,fun _=>h1,h3,Qb hc.1,?_,h4⟩;cases hl:r0.2.2.log with
     |nil=>rfl
     |cons _ _=>rw[hl]at hc;cases hc.2
  obtain⟨r0,q1,kY,dK,mn,X9,ZR⟩:=one;obtain⟨f,r,h1,h2,h3⟩:=JH ZR;refine⟨fun n=>if n=i0 then q else f n,fun n=>if n=i0 then r0 else r n,by simp,?_,fun k o' ho=>?_⟩
  ·have:i0+(o::l).length≠i0:=by simp
   simp only[this,if_false];rw[←h2];congr 1;simp;omega
  ·cases k with
   |zero=>
    simp at ho;subst ho;have Xl:i0+1≠i0:=by omega
    simp only[Nat.add_zero,if_true,Xl,if_false,h1];exact⟨kY,QA dK,mn,X9⟩
   |succ k=>
    have:=h3 k o' (by simpa using ho);have e1:i0+(k+1)=i0+1+k:=by omega
    have n1:i0+1+k≠i0:=by omega
    have n2:i0+1+k+1≠i0:=by omega
    simp only[e1,n1,n2,if_false];exact this
theorem O2 {CS:Nat}:∀ {l:W8},b6 CS l=true→∀p∈l,Nat.testBit CS p.1=true
 | [],_,_,h=>by cases h
 |q::l,h,p,hp=>by
  simp only[b6,Qf]at h;cases hp with
  |head=>exact h.1
  |tail _ hp=>exact O2 h.2 p hp
structure sf (E:Env) (ops:List Oper) (ev:Ev) (fr:Fr) (f:Nat→Zv) (r:Nat→Touch×AV×St) (i0:Nat) (l:List Oper) (p:Nat) (v:AV):Prop where
 run:∀k o,l[k]?=some o→i0+k≠p→Nat.testBit (Yr E ops (i0+k) o).CS p=false∨i0+k<p→Wx E ops ev fr (Yr E ops (i0+k) o) (f (i0+k))=some (r (i0+k))
 put:∀k o,l[k]?=some o→se fr.nt (Yr E ops (i0+k) o) (f (i0+k)) (r (i0+k)) (f (i0+k+1))
 at_:∃k o,i0+k=p∧l[k]?=some o∧bx E ops ev fr (Yr E ops p o) (f p)=some (v,(r p).2.2)∧(∀n∈(f p).news,Nat.testBit (Yr E ops p o).CS n.1=true)∧(r p).1= .all
 quiet:∀k,k<l.length→p<i0+k→(r (i0+k)).2.2.next=(f (i0+k)).st.next∧(r (i0+k)).2.2.log=[]
theorem Ht {E:Env} {ops:List Oper} {ev:Ev} {fr:Fr} {T0:Tr AV}:∀ {l:List Oper} {i0:Nat} {q:Zv} {rs:List Z2},gf (YC E ops ev fr T0 (XM E (VL ops) l i0) q)=some rs→
 (∃q',dq E ops ev fr (XM E (VL ops) l i0) q=some q'∧rs=[⟨.normal,fr,q'.T,q'.st⟩])∨
 ∃f r p v,f i0=q∧sf E ops ev fr f r i0 l p v∧rs=[⟨.panic v,fr,Yy ops T0,(f (i0+l.length)).st⟩]
 | [],i0,q,rs,h=>by
  cases h;exact .inl ⟨q,rfl,rfl⟩
 |o::l,i0,q,rs,h=>by
  change gf (match Wx E ops ev fr (Yr E ops i0 o) q with
   |some r=>match VF fr.nt (Yr E ops i0 o) q r with
    |some q'=>YC E ops ev fr T0 (XM E (VL ops) l (i0+1)) q'
    |none=> .stuck
   |none=>iI E ops ev fr T0 (Yr E ops i0 o) (XM E (VL ops) l (i0+1)) q (bx E ops ev fr (Yr E ops i0 o) q))=_ at h
  cases hr:Wx E ops ev fr (Yr E ops i0 o) q with
  |some r0=>
   rw[hr]at h;simp only at h;cases hp:VF fr.nt (Yr E ops i0 o) q r0 with
   |none=>rw[hp]at h;cases h
   |some q1=>
    rw[hp]at h;simp only at h;rcases Ht h with⟨q',h1,h2⟩|⟨f,r,p,v,hf,hs,h2⟩
    ·refine .inl ⟨q',?_,h2⟩;show(Wx E ops ev fr (Yr E ops i0 o) q).bind _=_;rw[hr];show(VF fr.nt (Yr E ops i0 o) q r0).bind _=_;rw[hp];exact h1
    ·obtain⟨kp,op,wM,_⟩:=hs.at_;have ek:i0+1≤p:=by omega
     have ne:∀k,i0+1+k≠i0:=fun k=>by omega
     have ne2:∀k,i0+1+k+1≠i0:=fun k=>by omega
     refine .inr ⟨fun n=>if n=i0 then q else f n,fun n=>if n=i0 then r0 else r n,p,v,by simp,⟨fun k o' ho hn hx=>?_,fun k o' ho=>?_,?_,fun k hk C6=>?_⟩,?_⟩
     ·cases k with
      |zero=>
       simp at ho;subst ho;simp only[Nat.add_zero,if_true];exact hr
      |succ k=>
       have e1:i0+(k+1)=i0+1+k:=by omega
       rw[e1]at hn hx⊢;simp only[ne,if_false];exact hs.run k o' (by simpa using ho) hn hx
     ·cases k with
      |zero=>
       simp at ho;subst ho;have Xl:i0+1≠i0:=by omega
       simp only[Nat.add_zero,if_true,Xl,if_false,hf];exact QA hp
      |succ k=>
       have e1:i0+(k+1)=i0+1+k:=by omega
       simp only[e1,ne,ne2,if_false];exact hs.put k o' (by simpa using ho)
     ·obtain⟨k,o',hk,ho,h3⟩:=hs.at_;have hpn:p≠i0:=by omega
      refine⟨k+1,o',by omega,by simpa using ho,?_⟩;simp only[hpn,if_false];exact h3
     ·cases k with
      |zero=>omega
      |succ k=>
       have e1:i0+(k+1)=i0+1+k:=by omega
       rw[e1]at C6⊢;simp only[ne,if_false];exact hs.quiet k (by simpa using hk) C6
     ·have Xl:i0+(o::l).length≠i0:=by simp
      simp only[Xl,if_false];rw[h2];have:i0+(o::l).length=i0+1+l.length:=by simp;omega
      rw[this]
  |none=>
   rw[hr]at h;simp only at h;cases hq:bx E ops ev fr (Yr E ops i0 o) q with
   |none=>rw[hq]at h;cases h
   |some vs=>
    obtain⟨v,s⟩:=vs;rw[hq]at h;unfold iI at h;simp only at h;cases ha:b6 (Yr E ops i0 o).CS q.news with
    |false=>rw[ha]at h;cases h
    |true=>
     rw[ha]at h;simp only[cond_true]at h;cases hd:(VF fr.nt (Yr E ops i0 o) q (.all,.tuple [],s)).bind (Zf E ops ev fr (Yr E ops i0 o).i (XM E (VL ops) l (i0+1)))with
     |none=>rw[hd]at h;cases h
     |some q'=>
      rw[hd]at h;cases h;obtain⟨q1,dK,ZR⟩:=Qa.1 hd;obtain⟨f,r,h1,h2,h3⟩:=JH (p:=i0) ZR;have ne:∀k,i0+1+k≠i0:=fun k=>by omega
      have ne2:∀k,i0+1+k+1≠i0:=fun k=>by omega
      refine .inr ⟨fun n=>if n=i0 then q else f n,fun n=>if n=i0 then(.all,.tuple [],s)else r n,i0,v,by simp,⟨fun k o' ho hn hx=>?_,fun k o' ho=>?_,⟨0,o,rfl,rfl,by simpa using hq,by simpa using O2 ha,by simp⟩,fun k hk C6=>?_⟩,?_⟩
      ·cases k with
       |zero=>exact absurd rfl hn
       |succ k=>
        have e1:i0+(k+1)=i0+1+k:=by omega
        rw[e1]at hn hx⊢;simp only[ne,if_false];exact(h3 k o' (by simpa using ho)).1 (hx.resolve_right (by omega))
      ·cases k with
       |zero=>
        simp at ho;subst ho;have Xl:i0+1≠i0:=by omega
        simp only[Nat.add_zero,if_true,Xl,if_false,h1];exact QA dK
       |succ k=>
        have e1:i0+(k+1)=i0+1+k:=by omega
        simp only[e1,ne,ne2,if_false];exact(h3 k o' (by simpa using ho)).2.1
      ·cases k with
       |zero=>omega
       |succ k=>
        have e1:i0+(k+1)=i0+1+k:=by omega
        rw[e1];simp only[ne,if_false];exact(h3 k _ (Qi (show k<l.length by simpa using hk))).2.2
      ·have Xl:i0+(o::l).length≠i0:=by simp
       simp only[Xl,if_false];have:i0+(o::l).length=i0+1+l.length:=by simp;omega
       rw[this,h2]
section
variable {E : Env} {ops : List Oper} {ev : Ev} {fr : Fr} {f : Nat → Zv} {r : Nat → Touch × AV × St} {X : Nat → Prop} (hs : bD E ops ev fr f r X)
def Wr (f:Nat→Zv) (r:Nat→Touch×AV×St) (i b:Nat):Prop:=b∈(r i).2.2.log∨((f i).st.next≤b∧b<(r i).2.2.next)
include hs
theorem Md {i:Nat} (hi:i<ops.length):(f i).st.next≤(f (i+1)).st.next:=by
 have:=hs.put i _ (Qi hi);rw[this.next];exact this.le
theorem Dk {i j : Nat} (h : i ≤ j) (hj : j ≤ ops.length) : (f i).st.next ≤ (f j).st.next := by
  induction j with
  | zero => have : i = 0 := by omega
            subst this; exact Qj _
  | succ j ih =>
    rcases Nat.lt_or_ge i (j + 1) with h' | h'
    · exact Nat.le_trans (ih (by omega) (by omega)) (Md hs (by omega))
    · have : i = j + 1 := by omega
      subst this; exact Qj _
theorem Nl {i:Nat} (hi:i≤ops.length):(f i).st.bound=(f 0).st.bound:=by
 induction i with
 |zero=>rfl
 |succ i ih=>rw[(hs.put i _ (Qi (show i<ops.length by omega))).bound,ih (by omega)]
theorem Me (h0:(f 0).news=[]) {i:Nat} (hi:i≤ops.length) (j b:Nat):(j,b)∈(f i).news↔j<i∧Wr f r j b:=by
 induction i with
 |zero=>rw[h0];simp
 |succ i ih=>
  have hp:=hs.put i _ (Qi (show i<ops.length by omega));rw[hp.news,ih (by omega)];show(j=i∧_)∨_↔_;constructor
  ·rintro(⟨rfl,h⟩|⟨h1,h2⟩)
   ·exact⟨by omega,h⟩
   ·exact⟨by omega,h2⟩
  ·rintro⟨h1,h2⟩;rcases Nat.lt_or_ge j i with h|h
   ·exact .inr ⟨h,h2⟩
   ·have:j=i:=by omega
    subst this;exact .inl ⟨rfl,h2⟩
theorem RL {i j:Nat} (hi:i≤ops.length) (hj:j<i) {o:Oper} (ho:ops[j]?=some o):(j,(r j).1,aU (Yr E ops j o) (f j) (r j))∈(f i).looked:=by
 induction i with
 |zero=>omega
 |succ i ih=>
  have hp:=hs.put i _ (Qi (show i<ops.length by omega));rw[hp.looked];rcases Nat.lt_or_ge j i with h|h
  ·exact .inr (ih (by omega) h)
  ·have:j=i:=by omega
   subst this;rw[Qi (show j<ops.length by omega)]at ho;cases ho;exact .inl U
theorem Tp {i j : Nat} (h : i ≤ j) (hj : j ≤ ops.length) : ∀ b ∈ (f i).st.log, b ∈ (f j).st.log := by
  induction j with
  | zero => have : i = 0 := by omega
            subst this; exact fun _ h => h
  | succ j ih =>
    rcases Nat.lt_or_ge i (j + 1) with h' | h'
    · intro b hb
      rw [(hs.put j _ (Qi (show j < ops.length by omega))).log];exact Dt (.inr (ih (by omega) (by omega) b hb))
    · have : i = j + 1 := by omega
      subst this; exact fun _ h => h
theorem Q5 {i:Nat} (hi:i<ops.length) {b:Nat} (hb:b∈(r i).2.2.log):Z6 (f 0).st (f ops.length).st.log b:=by
 have hp:=hs.put i _ (Qi hi);rcases Nat.lt_or_ge b (f 0).st.bound with h|h
 ·left;refine Tp hs (show i+1≤ops.length by omega) (Qj _) b ?_;rw[hp.log];refine Dt (.inl ⟨hb,?_⟩);rw[Nl hs (by omega)];exact h
 ·exact .inr h
theorem RM (h0:∀b,(f 0).st.next≤b→(f 0).st.heap.get b=none) {i:Nat} (hi:i≤ops.length):∀b,(f i).st.next≤b→(f i).st.heap.get b=none:=by
 induction i with
 |zero=>exact h0
 |succ i ih=>
  intro b hb;have hp:=hs.put i _ (Qi (show i<ops.length by omega));rw[hp.heap];have hle:=hp.le;rw[hp.next]at hb;rw[if_neg]
  ·exact ih (by omega) b (by omega)
  ·rintro(h|⟨_,h⟩)
   ·have:=(hp.may b h).1;omega
   ·omega
end
def Cx.gS (C:Cx) (m:Nat):Cx:= {C with D:=fun b=>C.D b∧b<m,G:=fun b n=>C.G b n∧b<m}
theorem Ke {C C':Cx} (e:Ext C C') {m m':Nat} (h:m≤m'):Ext (C.gS m) (C'.gS m'):=
 ⟨fun b hb=>⟨e.D b hb.1,by have:=hb.2;omega⟩,fun b hb=>e.pl b hb.1,e.M,fun b n hb=>⟨e.G b n hb.1,by have:=hb.2;omega⟩,fun b n hb=>e.gh b n hb.1,e.X⟩
theorem Uv {C:Cx} {m:Nat}:Ext (C.gS m) C:=⟨fun _ hb=>hb.1,fun _ _=>rfl,fun _ _ h=>h,fun _ _ h=>h.1,fun _ _ _=>rfl,fun _ h=>h⟩
open Classical in
noncomputable def W9 (f:Nat→Zv) (r:Nat→Touch×AV×St) (D:Nat→Prop):Nat→Nat→Option CB
 |0,b=>(f 0).st.heap.get b
 |i+1,b=>if D i∧Wr f r i b then(r i).2.2.heap.get b else W9 f r D i b
open Classical in
noncomputable def bG (f:Nat→Zv) (r:Nat→Touch×AV×St) (D:Nat→Prop):Nat→Nat→Nat
 |0,_=>(f 0).st.next
 |i+1,b=>if D i∧Wr f r i b then(f (i+1)).st.next else bG f r D i b
section
variable {E : Env} {ops : List Oper} {ev : Ev} {fr : Fr} {f : Nat → Zv} {r : Nat → Touch × AV × St}
theorem Iv {D D':Nat→Prop} {b:Nat}:∀ {i:Nat},(∀j,j<i→Wr f r j b→(D j↔D' j))→W9 f r D i b=W9 f r D' i b∧bG f r D i b=bG f r D' i b
 |0,_=>⟨rfl,rfl⟩
 |i+1,h=>by
  obtain⟨h1,h2⟩:=Iv (i:=i) fun j hj=>h j (by omega);simp only[W9,bG];have:(D i∧Wr f r i b)↔(D' i∧Wr f r i b):=and_congr_left fun hw=>h i (by omega) hw;by_cases hd:D i∧Wr f r i b
  ·rw[if_pos hd,if_pos (this.1 hd),if_pos hd,if_pos (this.1 hd)];exact⟨rfl,rfl⟩
  ·have mr:=fun x=>hd (this.2 x);rw[if_neg hd,if_neg mr,if_neg hd,if_neg mr];exact⟨h1,h2⟩
theorem FI {D : Nat → Prop} {b i : Nat} : ∀ {n : Nat}, i ≤ n → (∀ j, i ≤ j → j < n → D j → ¬ Wr f r j b) → W9 f r D n b = W9 f r D i b ∧ bG f r D n b = bG f r D i b
  | 0, h, _ => by have : i = 0 := by omega
                  subst this; exact ⟨rfl, rfl⟩
  | n + 1, h, hn => by
    rcases Nat.lt_or_ge i (n + 1) with h' | h'
    · obtain ⟨h1, h2⟩ := FI (n := n) (by omega) fun j hj hl => hn j hj (by omega)
      simp only [W9, bG];have : ¬ (D n ∧ Wr f r n b) := fun x => hn n (by omega) (by omega) x.1 x.2;rw [if_neg this, if_neg this]; exact ⟨h1, h2⟩
    · have : i = n + 1 := by omega
      subst this; exact ⟨rfl, rfl⟩
variable {X : Nat → Prop} (hs : bD E ops ev fr f r X)
include hs
theorem MM {b:Nat}:∀ {i:Nat},i≤ops.length→W9 f r (fun _=>True) i b=(f i).st.heap.get b
 |0,_=>rfl
 |i+1,h=>by
  have hp:=hs.put i _ (Qi (show i<ops.length by omega));simp only[W9];rw[hp.heap,MM (by omega)];by_cases hw:Wr f r i b
  ·rw[if_pos ⟨trivial,hw⟩];exact(if_pos hw).symm
  ·rw[if_neg (fun x=>hw x.2)];exact(if_neg hw).symm
theorem sg {D:Nat→Prop} {b:Nat}:∀ {i:Nat},i≤ops.length→bG f r D i b≤(f i).st.next
 |0,_=>Qj _
 |i+1,h=>by
  simp only[bG];split
  ·exact Qj _
  ·exact Nat.le_trans (sg (by omega)) (Md hs (by omega))
theorem yP {i b:Nat} (hi:i<ops.length) (h:Wr f r i b):b<(f (i+1)).st.next:=by
 have hp:=hs.put i _ (Qi hi);rcases h with h|h
 ·exact Nat.lt_of_lt_of_le (hp.may b h).1 (Md hs hi)
 ·rw[hp.next];exact h.2
theorem KA {D:Nat→Prop} {b:Nat} {o:CB} (h0:∀b o,(f 0).st.heap.get b=some o→b<(f 0).st.next):∀ {i:Nat},i≤ops.length→W9 f r D i b=some o→b<bG f r D i b
 |0,_,h=>h0 b o h
 |i+1,hi,h=>by
  simp only[W9,bG]at h⊢;split at h
  ·next hd=>rw[if_pos hd];exact yP hs (by omega) hd.2
  ·next hd=>rw[if_neg hd];exact KA h0 (by omega) h
theorem sh (t:Nat):∀ {i:Nat},i≤ops.length→(∃j o,j<i∧ops[j]?=some o∧o.dst=some t∧(f i).T.get t=some (r j).2.1)∨
 ((∀j o,j<i→ops[j]?=some o→o.dst≠some t)∧(f i).T.get t=(f 0).T.get t)
 |0,_=> .inr ⟨fun j o hj=>by omega,rfl⟩
 |i+1,hi=>by
  have ho:ops[i]?=some ops[i]:=Qi (show i<ops.length by omega);have hp:=hs.put i _ ho;have hT:(f (i+1)).T.get t=if ops[i].dst=some t then some (r i).2.1 else(f i).T.get t:=hp.T t;by_cases hd:ops[i].dst=some t
  ·exact .inl ⟨i,_,by omega,ho,hd,by rw[hT,if_pos hd]⟩
  ·rw[if_neg hd]at hT;rcases sh t (i:=i) (by omega)with⟨j,o,hj,vm,mr,hg⟩|⟨h1,h2⟩
   ·exact .inl ⟨j,o,by omega,vm,mr,by rw[hT];exact hg⟩
   ·refine .inr ⟨fun j o hj vm=>?_,hT.trans h2⟩;rcases Nat.lt_or_ge j i with h|h
    ·exact h1 j o h vm
    ·have:j=i:=by omega
     subst this;rw[ho]at vm;cases vm;exact hd
end
theorem Sm {d:Nat} {a:Oper} {l:List Oper} (h:jK d (a::l)=true):a.dst≠some d∧jK d l=true:=by
 unfold jK at h;rw[Qf]at h;refine⟨fun e=>?_,h.2⟩;have:=h.1;unfold gv at this;rw[e]at this;simp at this
theorem QE {d:Nat}:∀ {l:List Oper},jK d l=true→∀o,o∈l→o.dst≠some d
 | [],_,_,ho=>by cases ho
 |a::l,h,o,ho=>by
  obtain⟨h1,h2⟩:=Sm h;cases ho with
  |head=>exact h1
  |tail _ ho=>exact QE h2 o ho
theorem Lz {ops:List Oper} (h:WK ops=true) {i j t:Nat} {o p:Oper} (hi:ops[i]?=some o) (hj:ops[j]?=some p) (ho:o.dst=some t) (hp:p.dst=some t):i=j:=by
 have key:∀ {i j:Nat} {o p:Oper},ops[i]?=some o→ops[j]?=some p→o.dst=some t→p.dst=some t→¬i<j:=by
  intro i j o p hi hj ho hp C6;have:=Is h hi;unfold ny at this;simp only[Qf,ho]at this;have XY:p∈ops.drop (i+1):=by
   have:(ops.drop (i+1))[j-(i+1)]?=some p:=by rw[List.getElem?_drop];rw[←hj];congr 1;omega
   exact List.mem_of_getElem? this
  exact QE this.1.2 p XY hp
 have h1:=key hi hj ho hp;have h2:=key hj hi hp ho;omega
theorem Nj {bs:List Nat} {i CS t:Nat}:∀ {l:List Oper} {j:Nat},fU bs i CS t l j=true→∀k o,l[k]?=some o→o.dst=some t→i=j+k∨Nat.testBit CS (j+k)=true∨Nat.testBit ((nth bs (j+k)).getD 0) i=true
 |a::l,j,h,0,o,ho,hd=>by
  simp at ho;subst ho;simp only[fU,Qf,Bool.or_eq_true,Bool.not_eq_true']at h;rcases h.1 with((h1|h1)|h1)|h1
  ·exact .inl (Qb h1)
  ·simp only[gv,hd]at h1;rw[Nat.beq_refl]at h1;cases h1
  ·exact .inr (.inl h1)
  ·exact .inr (.inr h1)
 |a::l,j,h,k+1,o,ho,hd=>by
  simp only[fU,Qf]at h;have:=Nj h.2 k o (by simpa using ho) hd;rw[show j+(k+1)=j+1+k by omega];exact this
 | [],_,_,_,_,ho,_=>by simp at ho
theorem JA {ops:List Oper} {bs:List Nat} {i CS:Nat}:∀ {l:List Nat},hO ops bs i CS l=true→∀t∈l,fU bs i CS t ops 0=true
 |a::l,h,t,ht=>by
  simp only[hO,Qf]at h;rcases Qk.1 ht with rfl|ht
  ·exact h.1
  ·exact JA h.2 t ht
theorem si {ops:List Oper} (h:WK ops=true) {i j t:Nat} {o p:Oper} (hi:ops[i]?=some o) (ht:t∈tmpsOf o.op.operands.toList) (hj:ops[j]?=some p) (hp:p.dst=some t):i=j∨cQ ops i j∨cQ ops j i:=by
 have:=Is h hi;unfold ny at this;simp only[Qf]at this;have:=Nj (JA this.1.1.1 t ht) j p hj hp;simpa[cQ]using this
theorem UK {ops:List Oper} (h:WK ops=true) {i:Nat} {o:Oper} (hi:ops[i]?=some o) {g:Nat×Bool} (hg:o.guard=some g):cQ ops i g.1:=by
 have:=Is h hi;unfold ny at this;simp only[Qf,hg]at this;exact this.2
section
variable (f : Nat → Zv) (r : Nat → Touch × AV × St) (n : Nat)
def mz (b:Nat):Prop:=Z6 (f 0).st (f n).st.log b
structure Inv (C0:Cx) (w0:World) (D:Nat→Prop) (C:Cx) (w:World):Prop where
 dn:∀i,D i→i<n
 ext:Ext C0 C
 heap:∀b o,W9 f r D n b=some o→C.D b∧∃x,w.heap[(C.pl b).Cn]?=some x∧OR (C.gS (bG f r D n b)) b o x
 inj:∀b b' o o',W9 f r D n b=some o→W9 f r D n b'=some o'→(C.pl b).Cn=(C.pl b').Cn→b=b'
 num:∀b,C.D b→C0.D b∨∃j,D j∧(f j).st.next≤b∧b<(r j).2.2.next
 iK:∀Cn ms,C.M Cn=some ms→∃c e fr,w.heap[Cn]?=some (.cells c e fr)∧c.toList=ms
 apart:∀b o,W9 f r D n b=some o→C.M (C.pl b).Cn=none
 stamps:∀b k,C.G b k→C.D b
 there:∀k,C.X k→k<w.heap.size
 Ww:∀b,C.D b→C.X (C.pl b).Cn
 Xu:∀Cn ms,C.M Cn=some ms→C.X Cn
 lj:∀b k,C.G b k→C0.G b k∨∃i,D i∧Wr f r i b
 size:w0.heap.size≤w.heap.size
 frame:∀Cn,Cn<w0.heap.size→(∀b o,(f 0).st.heap.get b=some o→mz f n b→(C0.pl b).Cn≠Cn)→w.heap[Cn]?=w0.heap[Cn]?
 own:∀b o,W9 f r D n b=some o→(C0.D b∧∃o0,(f 0).st.heap.get b=some o0)∨w0.heap.size≤(C.pl b).Cn∨∃b0 o0,(f 0).st.heap.get b0=some o0∧mz f n b0∧(C0.pl b0).Cn=(C.pl b).Cn
 aV:∀Cn ms,C.M Cn=some ms→C0.M Cn=some ms∨w0.heap.size≤Cn∨∃b0 o0,(f 0).st.heap.get b0=some o0∧mz f n b0∧(C0.pl b0).Cn=Cn
 Yz:w.tape=w0.tape∧w.os=w0.os∧w.output=w0.output
end
open Classical in
noncomputable def Cx.join (C C':Cx):Cx:=
 {pl:=fun b=>if C.D b then C.pl b else C'.pl b,M:=C'.M,D:=fun b=>C.D b∨C'.D b,gh:=fun b k=>if C.G b k then C.gh b k else C'.gh b k,G:=fun b k=>C.G b k∨C'.G b k,X:=C'.X}
section
variable {E : Env} {ops : List Oper} {ev : Ev} {fr : Fr} {f : Nat → Zv} {r : Nat → Touch × AV × St} {X : Nat → Prop} (hs : bD E ops ev fr f r X)
include hs
open Classical in
theorem Inv.step (WX:WK ops=true) (Zx:(f 0).news=[]) {C0:Cx} {w0:World} (ZT:Wn C0 (f 0).st w0) {D:Nat→Prop} {C:Cx} {w:World} (h:Inv f r ops.length C0 w0 D C w) {d:Nat} (hd:d<ops.length) (ZA:¬D d)
 (XK:∀i j,D i→cQ ops i j→D j) {s s':St} (Xm:(r d).2.2.next=s'.next) (jw:(r d).2.2.log=s'.log) (hs3:∀b,Wr f r d b→(r d).2.2.heap.get b=s'.heap.get b) (hsn:s.next=(f d).st.next) (hsb:s.bound=(f d).st.next) (zV:s.log=[])
 (Zk:∀b o,s.heap.get b=some o→W9 f r D ops.length b=some o) (hSs:Wn (C.gS (f d).st.next) s w) {C1:Cx} {w':World} (t:Cv (C.gS (f d).st.next) s w C1 s' w'):
 Inv f r ops.length C0 w0 (fun k=>D k∨k=d) (C.join C1) w'∧Ext C (C.join C1)∧Ext C1 ((C.join C1).gS (f (d+1)).st.next):=by
 have hp:=hs.put d _ (Qi hd);have yQ:(f (d+1)).st.next=s'.next:=by rw[←Xm];exact hp.next
 have hle:(f d).st.next≤s'.next:=by rw[←Xm];exact hp.le
 have n9:∀b o,(f 0).st.heap.get b=some o→b<(f 0).st.next:=fun b o hb=>ZT.fresh b (ZT.live b o hb).1;have bO:∀b,C1.D b→b<s'.next:=t.st.fresh;have k1:∀b,C1.D b→C.D b→b<(f d).st.next:=by
  intro b h1 h2;rcases Nat.lt_or_ge b (f d).st.next with hl|hl
  ·exact hl
  ·exfalso;rcases h.num b h2 with h0|⟨j,hj,hj1,hj2⟩
   ·have a1:=ZT.fresh b h0;have a2:=Dk hs (Qo d) (Nat.le_of_lt hd);omega
   ·have mX:=h.dn j hj;have nA:=hs.put j _ (Qi mX);have hjx:=nA.next;rcases Nat.lt_trichotomy j d with C6|rfl|yB
    ·have:=Dk hs (show j+1≤d by omega) (Nat.le_of_lt hd);omega
    ·exact ZA hj
    ·have:=Dk hs (show d+1≤j by omega) (Nat.le_of_lt mX);have:=bO b h1;omega
 have hold:∀b,C1.D b→C.D b∨(f d).st.next≤b:=by
  intro b hb;rcases t.fW b hb with h1|h1
  ·exact .inl h1.1
  ·rw[hsn]at h1;exact .inr h1
 have e1:Ext C (C.join C1):=by
  refine⟨fun _ h=> .inl h,fun b hb=>by simp[Cx.join,hb],fun Cn ms hm=>?_,fun _ _ h=> .inl h,fun b k hb=>by simp[Cx.join,hb],fun k hk=>t.ext.X k hk⟩;exact t.ext.M Cn ms hm
 have e2:Ext C1 (C.join C1):=by
  refine⟨fun _ h=> .inr h,fun b hb=>?_,fun _ _ h=>h,fun _ _ h=> .inr h,fun b k hb=>?_,fun _ h=>h⟩
  ·by_cases hc:C.D b
   ·have:=t.ext.pl b ⟨hc,k1 b hb hc⟩;simp only[Cx.join,hc,if_true];exact this.symm
   ·simp[Cx.join,hc]
  ·by_cases hc:C.G b k
   ·have bW:=t.st.stamps b k hb;have:=t.ext.gh b k ⟨hc,k1 b bW (h.stamps b k hc)⟩;simp only[Cx.join,hc,if_true];exact this.symm
   ·simp[Cx.join,hc]
 have e4:Ext C1 ((C.join C1).gS (f (d+1)).st.next):=by
  refine⟨fun b hb=>⟨.inr hb,by rw[yQ];exact bO b hb⟩,fun b hb=>e2.pl b hb,fun _ _ h=>h,fun b k hb=>⟨.inr hb,by rw[yQ];exact bO b (t.st.stamps b k hb)⟩,fun b k hb=>e2.gh b k hb,fun _ h=>h⟩
 have ra:∀b,Wr f r d b↔b∈s'.log∨((f d).st.next≤b∧b<s'.next):=by
  intro b;unfold Wr;rw[Xm,jw]
 have ZP:∀b o,s.heap.get b=some o→Z6 s s'.log b→b∈s'.log:=by
  intro b o hb hm;rcases hm with hm|hm
  ·exact hm
  ·rw[hsb]at hm;have:=(hSs.live b o hb).1.2;omega
 have wN:∀b,Wr f r d b→∀j,d+1≤j→j<ops.length→D j→¬Wr f r j b:=by
  intro b hb j hj mX po hw;have nA:=hs.put j _ (Qi mX);have hmono:=Dk hs hj (Nat.le_of_lt mX);rcases hw with hw|hw
  ·have hnews:=(Me hs Zx (Nat.le_of_lt mX) d b).2 ⟨by omega,hb⟩;exact ZA (XK j d po ((nA.may b hw).2.1 d hnews))
  ·have:=yP hs hd hb;omega
 have fq:∀b,W9 f r (fun k=>D k∨k=d) ops.length b=(if Wr f r d b then s'.heap.get b else W9 f r D ops.length b)∧
  bG f r (fun k=>D k∨k=d) ops.length b=(if Wr f r d b then(f (d+1)).st.next else bG f r D ops.length b):=by
  intro b;by_cases hb:Wr f r d b
  ·have Xp:=FI (f:=f) (r:=r) (D:=fun k=>D k∨k=d) (b:=b) (show d+1≤ops.length by omega) (fun j hj mX po=>by
    rcases po with po|rfl
    ·exact wN b hb j hj mX po
    ·omega)
   rw[Xp.1,Xp.2];simp only[W9,bG,or_true,true_and,hb,if_true,hs3 b hb,and_self]
  ·have:=Iv (f:=f) (r:=r) (D:=fun k=>D k∨k=d) (D':=D) (b:=b) (i:=ops.length) (fun j _ hw=>by
    constructor
    ·rintro(hj|rfl)
     ·exact hj
     ·exact absurd hw hb
    ·exact .inl)
   rw[if_neg hb,if_neg hb];exact this
 have hlw:∀b o,W9 f r D ops.length b=some o→(C.pl b).Cn<w.heap.size:=by
  intro b o hb;obtain⟨_,x,hx,_⟩:=h.heap b o hb;exact BM hx
 have hkeep:∀b o,W9 f r D ops.length b=some o→¬Wr f r d b→w'.heap[(C.pl b).Cn]?=w.heap[(C.pl b).Cn]?:=by
  intro b o hb hnw';refine t.frame _ (hlw b o hb) fun b2 o2 dw hm he=>?_;have hb2':=ZP b2 o2 dw hm;have:=h.inj b2 b o2 o (Zk b2 o2 dw) hb he;subst this;exact hnw' ((ra b2).2 (.inl hb2'))
 have mA:∀b o,Wr f r d b→s'.heap.get b=some o→C1.D b∧(C.join C1).pl b=C1.pl b:=fun b o _ hb=>⟨(t.st.live b o hb).1,e2.pl b (t.st.live b o hb).1⟩;have hG1:∀b k,C1.G b k→C.D b→¬Wr f r d b→C.G b k:=by
  intro b k hg hdb hnw';have bW:=t.st.stamps b k hg;have C6:=k1 b bW hdb;have:=(t.kept b ⟨hdb,C6⟩ (fun hm=>by
   rcases hm with hm|hm
   ·exact hnw' ((ra b).2 (.inl hm))
   ·rw[hsb]at hm;omega)).2 k hg
  exact this.1
 have yR:∀b o,Wr f r d b→s'.heap.get b=some o→(W9 f r D ops.length b≠none∧C.D b∧C1.pl b=C.pl b)∨w.heap.size≤(C1.pl b).Cn∨∃b0 o0,W9 f r D ops.length b0=some o0∧b0∈s'.log∧(C.pl b0).Cn=(C1.pl b).Cn:=by
  intro b o _ hb;rcases t.own b o hb with⟨dx,o0,h0⟩|h1|⟨b0,o0,h0,hm,he⟩
  ·exact .inl ⟨by rw[Zk b o0 h0];simp,dx.1,t.ext.pl b dx⟩
  ·exact .inr (.inl h1)
  ·exact .inr (.inr ⟨b0,o0,Zk b0 o0 h0,ZP b0 o0 h0 hm,he⟩)
 have sk:∀b0 o0,W9 f r D ops.length b0=some o0→b0∈s'.log→∀Cn,(C.pl b0).Cn=Cn→w0.heap.size≤Cn∨∃b1 o1,(f 0).st.heap.get b1=some o1∧mz f ops.length b1∧(C0.pl b1).Cn=Cn:=by
  intro b0 o0 h0 hm Cn he;have wO:mz f ops.length b0:=Q5 hs hd (by rw[jw];exact hm);rcases h.own b0 o0 h0 with⟨zS,o1,h1⟩|h1|⟨b1,o1,h1,gR,he1⟩
  ·exact .inr ⟨b0,o1,h1,wO,by rw[←he,h.ext.pl b0 zS]⟩
  ·exact .inl (by rw[←he];exact h1)
  ·exact .inr ⟨b1,o1,h1,gR,he1.trans he⟩
 refine⟨⟨?_,h.ext.trans e1,?_,?_,?_,?_,?_,?_,t.st.there,?_,t.st.Xu,?_,Nat.le_trans h.size t.size,?_,?_,?_,?_⟩,e1,e4⟩
 ·rintro i (hi|rfl)
  ·exact h.dn i hi
  ·exact hd
 ·
   intro b o hb;rw[(fq b).1]at hb;rw[(fq b).2];by_cases hw:Wr f r d b
   ·rw[if_pos hw]at hb⊢;obtain⟨dx,x,hx,hr⟩:=t.st.live b o hb;refine⟨.inr dx,x,by rw[e2.pl b dx];exact hx,hr.mono e4 dx fun k hk=>?_⟩;rcases hk.1 with gL|gL
    ·exact t.ext.G b k ⟨gL,k1 b dx (h.stamps b k gL)⟩
    ·exact gL
   ·rw[if_neg hw]at hb⊢;obtain⟨dx,x,hx,hr⟩:=h.heap b o hb;have C6:=KA hs n9 (Qj _) hb;refine⟨.inl dx,x,by rw[e1.pl b dx,hkeep b o hb hw];exact hx,hr.mono (Ke e1 (Qj _)) ⟨dx,C6⟩ fun k hk=>⟨?_,C6⟩⟩;rcases hk.1 with gL|gL
    ·exact gL
    ·exact hG1 b k gL dx hw
 ·
   have mixed:∀b b' o o',Wr f r d b→s'.heap.get b=some o→¬Wr f r d b'→W9 f r D ops.length b'=some o'→(C1.pl b).Cn=(C.pl b').Cn→False:=by
    intro b b' o o' hw hb lP YN he;rcases yR b o hw hb with⟨h1,h2,h3⟩|h1|⟨b0,o0,h0,hm,vn⟩
    ·cases hc:W9 f r D ops.length b with
     |none=>exact h1 hc
     |some o1=>
      have:=h.inj b b' o1 o' hc YN (by rw[←h3];exact he);subst this;exact lP hw
    ·have:=hlw b' o' YN;omega
    ·have:=h.inj b0 b' o0 o' h0 YN (vn.trans he);subst this;exact lP ((ra b0).2 (.inl hm))
   intro b b' o o' hb YN he;rw[(fq b).1]at hb;rw[(fq b').1]at YN;by_cases hw:Wr f r d b
   ·rw[if_pos hw]at hb;have p1:=(mA b o hw hb).2;by_cases lP:Wr f r d b'
    ·rw[if_pos lP]at YN;rw[p1,(mA b' o' lP YN).2]at he;exact t.st.inj b b' o o' hb YN he
    ·rw[if_neg lP]at YN;rw[p1,e1.pl b' (h.heap b' o' YN).1]at he;exact(mixed b b' o o' hw hb lP YN he).elim
   ·rw[if_neg hw]at hb;have p1:=e1.pl b (h.heap b o hb).1;by_cases lP:Wr f r d b'
    ·rw[if_pos lP]at YN;rw[p1,(mA b' o' lP YN).2]at he;exact(mixed b' b o' o lP YN hw hb he.symm).elim
    ·rw[if_neg lP]at YN;rw[p1,e1.pl b' (h.heap b' o' YN).1]at he;exact h.inj b b' o o' hb YN he
 ·
   rintro b (hb|hb)
   ·rcases h.num b hb with h1|⟨j,h1,h2⟩
    ·exact .inl h1
    ·exact .inr ⟨j,.inl h1,h2⟩
   ·rcases hold b hb with h1|h1
    ·rcases h.num b h1 with h2|⟨j,h2,h3⟩
     ·exact .inl h2
     ·exact .inr ⟨j,.inl h2,h3⟩
    ·exact .inr ⟨d,.inr U,h1,by rw[Xm];exact bO b hb⟩
 ·exact fun Cn ms hm=>t.st.iK Cn ms hm
 ·
   intro b o hb;rw[(fq b).1]at hb;by_cases hw:Wr f r d b
   ·rw[if_pos hw]at hb;rw[(mA b o hw hb).2];exact t.st.apart b o hb
   ·rw[if_neg hw]at hb;rw[e1.pl b (h.heap b o hb).1];show C1.M (C.pl b).Cn=none;cases hm:C1.M (C.pl b).Cn with
    |none=>rfl
    |some ms=>
     exfalso;rcases t.aV _ ms hm with h1|h1|⟨b0,o0,h0,lI,he⟩
     ·have h1':C.M (C.pl b).Cn=some ms:=h1;rw[h.apart b o hb]at h1';cases h1'
     ·have:=hlw b o hb;omega
     ·have:=h.inj b0 b o0 o (Zk b0 o0 h0) hb he;subst this;exact hw ((ra b0).2 (.inl (ZP b0 o0 h0 lI)))
 ·
   rintro b k (hg|hg)
   ·exact .inl (h.stamps b k hg)
   ·exact .inr (t.st.stamps b k hg)
 ·
   rintro b (hb|hb)
   ·rw[e1.pl b hb];exact t.ext.X _ (h.Ww b hb)
   ·rw[e2.pl b hb];exact t.st.Ww b hb
 ·
   rintro b k (hg|hg)
   ·rcases h.lj b k hg with h1|⟨i,h1,h2⟩
    ·exact .inl h1
    ·exact .inr ⟨i,.inl h1,h2⟩
   ·have bW:=t.st.stamps b k hg;by_cases hw:Wr f r d b
    ·exact .inr ⟨d,.inr U,hw⟩
    ·rcases hold b bW with h1|h1
     ·rcases h.lj b k (hG1 b k hg h1 hw)with h2|⟨i,h2,h3⟩
      ·exact .inl h2
      ·exact .inr ⟨i,.inl h2,h3⟩
     ·exact absurd ((ra b).2 (.inr ⟨h1,bO b bW⟩)) hw
 ·
   intro Cn n3 hn;rw[←h.frame Cn n3 hn];refine t.frame Cn (Nat.lt_of_lt_of_le n3 h.size) fun b2 o2 dw hm he=>?_;rcases sk b2 o2 (Zk b2 o2 dw) (ZP b2 o2 dw hm) Cn he with h1|⟨b1,o1,h1,h2,h3⟩
   ·omega
   ·exact hn b1 o1 h1 h2 h3
 ·
   intro b o hb;rw[(fq b).1]at hb;by_cases hw:Wr f r d b
   ·rw[if_pos hw]at hb;rw[(mA b o hw hb).2];rcases yR b o hw hb with⟨h1,h2,h3⟩|h1|⟨b0,o0,h0,hm,vn⟩
    ·cases hc:W9 f r D ops.length b with
     |none=>exact absurd hc h1
     |some o1=>
      rw[h3];exact h.own b o1 hc
    ·exact .inr (.inl (Nat.le_trans h.size h1))
    ·rcases sk b0 o0 h0 hm _ vn with h1|h1
     ·exact .inr (.inl h1)
     ·exact .inr (.inr h1)
   ·rw[if_neg hw]at hb;rw[e1.pl b (h.heap b o hb).1];exact h.own b o hb
 ·
   intro Cn ms hm;rcases t.aV Cn ms hm with h1|h1|⟨b0,o0,h0,lI,he⟩
   ·exact h.aV Cn ms h1
   ·exact .inr (.inl (Nat.le_trans h.size h1))
   ·rcases sk b0 o0 (Zk b0 o0 h0) (ZP b0 o0 h0 lI) Cn he with h1|h1
    ·exact .inr (.inl h1)
    ·exact .inr (.inr h1)
 ·exact⟨t.Yz.1.trans h.Yz.1,t.Yz.2.1.trans h.Yz.2.1,t.Yz.2.2.trans h.Yz.2.2⟩
end
section
variable {E : Env} {P : Program} {ops : Array Oper} {ev : Ev} {fr : Fr} {f : Nat → Zv} {r : Nat → Touch × AV × St}
structure eo (ops:List Oper) (f:Nat→Zv) (r:Nat→Touch×AV×St) (nt:Nat) (a0:Act) (D:Nat→Prop) (C:Cx) (a:Act):Prop where
 size:a.tmps.size=nt
 defers:a.defers=a0.defers
 slot:∀i o t,D i→ops[i]?=some o→o.dst=some t→∃x,a.tmps[t]?=some x∧VR (C.gS (f (i+1)).st.next) (r i).2.1 x
 oG:∀t,(∀i o,D i→ops[i]?=some o→o.dst≠some t)→a.tmps[t]?=a0.tmps[t]?
variable {X : Nat → Prop} (hs : bD E ops.toList ev fr f r X)
include hs
theorem eo.step (WX:WK ops.toList=true) {a0 a:Act} {D:Nat→Prop} {C C' C1:Cx} (h:eo ops.toList f r fr.nt a0 D C a) {d:Nat} {o:Oper} (ho:ops.toList[d]?=some o) (ZA:¬D d) (e:Ext C C') (e4:Ext C1 (C'.gS (f (d+1)).st.next))
 {x:Value} (hv:VR C1 (r d).2.1 x):eo ops.toList f r fr.nt a0 (fun k=>D k∨k=d) C' (a.put o.dst x):=by
 have hp:=hs.put d o ho;have Y2:∀t,(a.put o.dst x).tmps[t]?=if o.dst=some t then some x else a.tmps[t]?:=by
  intro t;cases hd:o.dst with
  |none=>simp[Act.put]
  |some k=>
   have hk:k<fr.nt:=hp.slot k hd;simp only[Act.put,Array.getElem?_setIfInBounds,Option.some.injEq];by_cases hkt:k=t
   ·subst hkt;simp[h.size,hk]
   ·simp[hkt]
 refine⟨by rw[Q9];exact h.size,by rw[Lw];exact h.defers,?_,?_⟩
 ·rintro i p t (hi|rfl) sm gw
  ·have Xl:o.dst≠some t:=fun hot=>by
    have:=Lz WX sm ho gw hot;subst this;exact ZA hi
   obtain⟨y,hy,dL⟩:=h.slot i p t hi sm gw;exact⟨y,by rw[Y2,if_neg Xl];exact hy,dL.mono (Ke e (Qj _))⟩
  ·rw[ho]at sm;cases sm;exact⟨x,by rw[Y2,if_pos gw],hv.mono e4⟩
 ·intro t ht;rw[Y2,if_neg (ht d o (.inr rfl) ho)];exact h.oG t fun i p hi sm=>ht i p (.inl hi) sm
theorem eo.reads (WX:WK ops.toList=true) {a0 a:Act} {D:Nat→Prop} {C0 C:Cx} (h:eo ops.toList f r fr.nt a0 D C a) (e0:Ext C0 C) (mB:∀b,C0.D b→b<(f 0).st.next) (hst0:∀b k,C0.G b k→C0.D b)
 (jW:TR C0 fr.nt (f 0).T a0.tmps) {d:Nat} (hd:d<ops.toList.length) (ZA:¬D d) (XK:∀i j,D i→cQ ops.toList i j→D j) (hdn:∀i,D i→i<ops.toList.length) (YI:∀j,cQ ops.toList d j→D j) {t:Nat}
 (hw:∀j p,ops.toList[j]?=some p→p.dst=some t→d=j∨cQ ops.toList d j∨cQ ops.toList j d) {v:AV} (hv:(f d).T.get t=some v):∃x,a.tmps[t]?=some x∧VR (C.gS (f d).st.next) v x:=by
 rcases sh hs t (Nat.le_of_lt hd)with⟨j,p,hj,nA,gw,hg⟩|⟨h1,h2⟩
 ·rw[hg]at hv;cases hv;have po:D j:=by
   rcases hw j p nA gw with rfl|h1|h1
   ·omega
   ·exact YI j h1
   ·have:=O0 WX j d (by omega) h1;omega
  obtain⟨x,hx,Yq⟩:=h.slot j p t po nA gw;exact⟨x,hx,Yq.mono (Ke (.refl C) (Dk hs (show j+1≤d by omega) (Nat.le_of_lt hd)))⟩
 ·have XG:∀i p,D i→ops.toList[i]?=some p→p.dst≠some t:=by
   intro i p hi sm gw;rcases Nat.lt_trichotomy i d with C6|rfl|yB
   ·exact h1 i p C6 sm gw
   ·exact ZA hi
   ·rcases hw i p sm gw with rfl|h3|h3
    ·omega
    ·have:=O0 WX d i hd h3;omega
    ·exact ZA (XK i d hi h3)
  rw[h2]at hv;obtain⟨x,hx,Yq⟩:=jW.2 t v hv;refine⟨x,by rw[h.oG t XG];exact hx,Yq.mono ?_⟩;have hm:=Dk hs (Qo d) (Nat.le_of_lt hd);exact⟨fun b hb=>⟨e0.D b hb,by have:=mB b hb;omega⟩,fun b hb=>e0.pl b hb,e0.M,fun b k hb=>⟨e0.G b k hb,by have:=mB b (hst0 b k hb);omega⟩,fun b k hb=>e0.gh b k hb,e0.X⟩
theorem sees (WX:WK ops.toList=true) (Zx:(f 0).news=[]) {C0:Cx} {w0:World} (ZT:Wn C0 (f 0).st w0) {D:Nat→Prop} {C:Cx} {w:World} (h:Inv f r ops.toList.length C0 w0 D C w) {d:Nat} (hd:d<ops.toList.length) (ZA:¬D d)
 (XK:∀i j,D i→cQ ops.toList i j→D j) (YI:∀j,cQ ops.toList d j→D j) {b:Nat} {o:CB} (hg:(f d).st.heap.get b=some o) (hn:∀j,(j,b)∈(f d).news→cQ ops.toList d j) (hh:dD b (r d).1=true)
 (mC:∀b j,b<(f d).st.next→d<j→j<ops.toList.length→D j→Wr f r j b→dD b (r d).1=false):
 W9 f r D ops.toList.length b=some o∧bG f r D ops.toList.length b≤(f d).st.next:=by
 have h0:∀b,(f 0).st.next≤b→(f 0).st.heap.get b=none:=by
  intro b hb;cases hc:(f 0).st.heap.get b with
  |none=>rfl
  |some o=>have:=ZT.fresh b (ZT.live b o hc).1;omega
 have C6:b<(f d).st.next:=by
  rcases Nat.lt_or_ge b (f d).st.next with h1|h1
  ·exact h1
  ·rw[RM hs h0 (Nat.le_of_lt hd) b h1]at hg;cases hg
 have hlater:∀j,d≤j→j<ops.toList.length→D j→¬Wr f r j b:=by
  intro j hj mX po hw;have Xl:d<j:=by
   rcases Nat.lt_or_ge d j with h1|h1
   ·exact h1
   ·have:j=d:=by omega
    subst this;exact absurd po ZA
  have:=mC b j C6 Xl mX po hw;rw[hh]at this;cases this
 have h1:=FI (f:=f) (r:=r) (D:=D) (b:=b) (Nat.le_of_lt hd) hlater;have h2:=Iv (f:=f) (r:=r) (D:=D) (D':=fun _=>True) (b:=b) (i:=d) (fun j hj hw=>by
  refine⟨fun _=>trivial,fun _=>YI j (hn j ((Me hs Zx (Nat.le_of_lt hd) j b).2 ⟨hj,hw⟩))⟩)
 refine⟨by rw[h1.1,h2.1,MM hs (Nat.le_of_lt hd)];exact hg,?_⟩;rw[h1.2];exact sg hs (Nat.le_of_lt hd)
theorem Q2 (WX:WK ops.toList=true) (Zx:(f 0).news=[]) {C0:Cx} {w0:World} (ZT:Wn C0 (f 0).st w0) {D:Nat→Prop} {C:Cx} {w:World} (h:Inv f r ops.toList.length C0 w0 D C w) {d:Nat} (hd:d<ops.toList.length) (ZA:¬D d)
 (XK:∀i j,D i→cQ ops.toList i j→D j) (YI:∀j,cQ ops.toList d j→D j) {H:Tr CB}
 (hH:∀b o,H.get b=some o→(f d).st.heap.get b=some o∧(∀j,(j,b)∈(f d).news→cQ ops.toList d j)∧dD b (r d).1=true)
 (mC:(∃b o,H.get b=some o)→∀b j,b<(f d).st.next→d<j→j<ops.toList.length→D j→Wr f r j b→dD b (r d).1=false):
 Wn (C.gS (f d).st.next) ((f d).st.sub H) w∧∀b o,H.get b=some o→W9 f r D ops.toList.length b=some o:=by
 have sn:=fun b o hb=>sees hs WX Zx ZT h hd ZA XK YI (hH b o hb).1 (hH b o hb).2.1 (hH b o hb).2.2 (mC ⟨b,o,hb⟩);have n9:∀b o,(f 0).st.heap.get b=some o→b<(f 0).st.next:=fun b o hb=>ZT.fresh b (ZT.live b o hb).1;refine⟨⟨?_,?_,fun b hb=>hb.2,h.iK,fun b o hb=>h.apart b o (sn b o hb).1,fun b k hg=>⟨h.stamps b k hg.1,hg.2⟩,h.there,fun b hb=>h.Ww b hb.1,h.Xu⟩,fun b o hb=>(sn b o hb).1⟩
 ·intro b o hb;obtain⟨h1,h2⟩:=sn b o hb;obtain⟨dx,x,hx,hr⟩:=h.heap b o h1;have C6:=KA hs n9 (Qj _) h1;refine⟨⟨dx,by omega⟩,x,hx,hr.mono (Ke (.refl C) h2) ⟨dx,C6⟩ fun k hk=>⟨hk.1,C6⟩⟩
 ·intro b b' o o' hb YN he;exact h.inj b b' o o' (sn b o hb).1 (sn b' o' YN).1 he
theorem Pt {D:Nat→Prop} {b d j:Nat} (hj:d<j) (hn:j<ops.toList.length) (hd:D j) (hw:Wr f r j b):
 ∃k,d<k∧k<ops.toList.length∧D k∧Wr f r k b∧∀i,k<i→i<ops.toList.length→D i→¬Wr f r i b:=by
 have key:∀m j,ops.toList.length-j≤m→d<j→j<ops.toList.length→D j→Wr f r j b→
  ∃k,d<k∧k<ops.toList.length∧D k∧Wr f r k b∧∀i,k<i→i<ops.toList.length→D i→¬Wr f r i b:=by
  intro m;induction m with
  |zero=>intro j h1 _ h2;omega
  |succ m ih=>
   intro j h1 h2 h3 h4 h5;by_cases he:∃i,j<i∧i<ops.toList.length∧D i∧Wr f r i b
   ·obtain⟨i,e1,e2,e3,e4⟩:=he;exact ih i (by omega) (by omega) e2 e3 e4
   ·exact⟨j,h2,h3,h4,h5,fun i e1 e2 e3 e4=>he ⟨i,e1,e2,e3,e4⟩⟩
 exact key _ j (Qj _) hj hn hd hw
omit hs in
theorem T6 {d:fJ} {q:Zv} {r:Touch×AV×St} {n:Nat} {o:Option CB} (h:aU d q r n o=true):
 ∃xo F b,d.so= .read xo F∧r.1= .block b∧kR r.2.1 (F (Xb q.T d.tmps .nil) {next:=n,bound:=n,log:=[],heap:=Tr.set .nil b o})=true∧Cz q.st.next 40 r.2.1=true:=by
 obtain⟨o',so,i,CS,tmps⟩:=d;obtain⟨t,v⟩:=r;cases so with
 |read xo F=>
  cases t with
  |block b=>
   simp only[aU,Qf]at h;exact⟨xo,F,b,rfl,rfl,h.1,h.2⟩
  |_=>cases h
 |_=>cases h
theorem wP (WX:WK ops.toList=true) {C0:Cx} {w0:World} (ZT:Wn C0 (f 0).st w0) {D:Nat→Prop} {C:Cx} {w:World} (h:Inv f r ops.toList.length C0 w0 D C w) {d:Nat} (hd:d<ops.toList.length) (ZA:¬D d)
 (XK:∀i j,D i→cQ ops.toList i j→D j) {o:Oper} (ho:ops.toList[d]?=some o) {b j:Nat} (hb:b<(f d).st.next) (hj:d<j) (mX:j<ops.toList.length) (po:D j) (hw:Wr f r j b) (hh:dD b (r d).1=true):
 ∃xo F n H,Xg E o.type o.op= .read xo F∧(f d).st.next≤n∧F (Xb (f d).T (tmpsOf o.op.operands.toList) .nil) {next:=n,bound:=n,log:=[],heap:=H}=some (r d).2.1∧
  Cz (f d).st.next 40 (r d).2.1=true∧Wn (C.gS n) {next:=n,bound:=n,log:=[],heap:=H} w:=by
 have n9:∀b o,(f 0).st.heap.get b=some o→b<(f 0).st.next:=fun b o hb=>ZT.fresh b (ZT.live b o hb).1;obtain⟨k,k1,k2,k3,k4,k5⟩:=Pt hs hj mX po hw;have hpk:=hs.put k _ (Qi k2);have Wm:b∈(r k).2.2.log:=by
  rcases k4 with hw|hw
  ·exact hw
  ·have:=Dk hs (Nat.le_of_lt k1) (Nat.le_of_lt k2);omega
 have hna:Nat.testBit (Yr E ops.toList k ops.toList[k]).CS d=false:=by
  cases hq:Nat.testBit (Yr E ops.toList k ops.toList[k]).CS d with
  |false=>rfl
  |true=>exact absurd (XK k d k3 hq) ZA
 have hre:=((hpk.may b Wm).2.2 _ (RL hs (Nat.le_of_lt k2) k1 ho) hna).resolve_left (fun h=>by simp only at h;rw[hh]at h;cases h);simp only at hre;have az:(f d).st.next≤(r k).2.2.next:=by
  rw[←hpk.next];exact Dk hs (show d≤k+1 by omega) (by omega)
 obtain⟨xo,F,b',aH,hr1,hre1,hre2⟩:=T6 hre;have pR:b'=b:=by
  rw[hr1]at hh;exact(Qb hh).symm
 subst pR;refine⟨xo,F,_,Tr.set .nil b' ((r k).2.2.heap.get b'),aH,az,?_,hre2,?_⟩
 ·have h1:=hre1;unfold kR at h1;split at h1
  ·next u hu=>
   have:u=(r d).2.1:=by
    unfold eqU at h1;rcases Bool.or_eq_true_iff.1 h1 with h2|h2
    ·exact IF h2
    ·exact HK h2
   rw[←this];exact hu
  ·cases h1
 ·have Xp:=FI (f:=f) (r:=r) (D:=D) (b:=b') (show k+1≤ops.toList.length by omega) (fun i h1 h2 h3=>k5 i (by omega) h2 h3);have hc:W9 f r D ops.toList.length b'=(r k).2.2.heap.get b'∧bG f r D ops.toList.length b'=(r k).2.2.next:=by
   rw[Xp.1,Xp.2];simp only[W9,bG];rw[if_pos ⟨k3,k4⟩,if_pos ⟨k3,k4⟩];exact⟨rfl,hpk.next⟩
  have Y2:∀c oc,(Tr.set .nil b' ((r k).2.2.heap.get b')).get c=some oc→c=b'∧W9 f r D ops.toList.length b'=some oc:=by
   intro c oc hg;rw[AF]at hg;split at hg
   ·next e=>exact⟨e,by rw[hc.1];exact hg⟩
   ·rw[Bs]at hg;cases hg
  refine⟨fun c oc hg=>?_,fun c c' oc oc' hg hU _=>(Y2 c oc hg).1.trans (Y2 c' oc' hU).1.symm,fun c hg=>hg.2,h.iK,fun c oc hg=>?_,fun c k hg=>⟨h.stamps c k hg.1,hg.2⟩,h.there,fun c hg=>h.Ww c hg.1,h.Xu⟩
  ·obtain⟨rfl,ia⟩:=Y2 c oc hg;obtain⟨dx,x,hx,hr⟩:=h.heap c oc ia;have C6:=KA hs n9 (Qj _) ia;rw[hc.2]at hr C6;exact⟨⟨dx,C6⟩,x,hx,hr⟩
  ·obtain⟨rfl,ia⟩:=Y2 c oc hg;exact h.apart c oc ia
theorem Jf {bV:Touch} {out:Out} {q:Touch×AV×St} (h:Ye bV out=some q):∃Xz,out= .one ⟨.normal,Xz,ZO q.2.1,q.2.2⟩∧q.1=bV:=by
 unfold Ye at h;split at h
 ·cases h;exact⟨_,rfl,rfl⟩
 ·cases h
theorem LO (WX:WK ops.toList=true) {C0:Cx} {w0:World} (gi:Wg E C0) (ZT:Wn C0 (f 0).st w0) {a0:Act}
 (jW:TR C0 fr.nt (f 0).T a0.tmps) {D:Nat→Prop} {C:Cx} {a:Act} {w:World} (h:Inv f r ops.toList.length C0 w0 D C w) (hT:eo ops.toList f r fr.nt a0 D C a) {d:Nat} (hd:d<ops.toList.length) (ZA:¬D d)
 (XK:∀i j,D i→cQ ops.toList i j→D j) (YI:∀j,cQ ops.toList d j→D j) {o:Oper} (ho:ops.toList[d]?=some o):
 TR (C.gS (f d).st.next) a.tmps.size (Xb (f d).T (tmpsOf o.op.operands.toList) .nil) a.tmps∧Wg E (C.gS (f d).st.next)∧
  ∀g,o.guard=some g→∀tw,W4 ops.toList g (f d).T=some tw→Region.wanted o (yielded ops a.tmps)=tw:=by
 have mB:=ZT.fresh;have reads:=fun(t:Nat) (hw:∀j p,ops.toList[j]?=some p→p.dst=some t→d=j∨cQ ops.toList d j∨cQ ops.toList j d) (v:AV) (hv:(f d).T.get t=some v)=>
  hT.reads hs WX h.ext mB ZT.stamps jW hd ZA XK h.dn YI hw hv
 have hTp:TR (C.gS (f d).st.next) a.tmps.size (Xb (f d).T (tmpsOf o.op.operands.toList) .nil) a.tmps:=by
  refine⟨rfl,fun t v hv=>?_⟩;rw[F9]at hv;split at hv
  ·next ht=>exact reads t (fun j p nA gw=>si WX ho ht nA gw) v hv
  ·rw[Bs]at hv;cases hv
 have jX:Wg E (C.gS (f d).st.next):=by
  have hm:=Dk hs (Qo d) (Nat.le_of_lt hd);exact gi.mono ⟨fun b hb=>⟨h.ext.D b hb,by have:=mB b hb;omega⟩,fun b hb=>h.ext.pl b hb,h.ext.M,fun b k hb=>⟨h.ext.G b k hb,by have:=mB b (ZT.stamps b k hb);omega⟩,fun b k hb=>h.ext.gh b k hb,h.ext.X⟩
 refine⟨hTp,jX,fun g lL tw htw=>?_⟩;have hgA:=UK WX ho lL;have hgj:=O0 WX d g.1 hd hgA;have fD:Region.wanted o (yielded ops a.tmps)=tw:=by
  have nA:ops.toList[g.1]?=some ops.toList[g.1]:=Qi (show g.1<ops.toList.length by omega);generalize ops.toList[g.1]=p at nA;cases hdst:p.dst with
  |none=>
   refine J1 (C:=C.gS (f d).st.next) (T:=Xb (f d).T [] .nil) (a:=a) ⟨rfl,fun t v hv=>by rw[F9]at hv;simp[Bs]at hv⟩ (o:=o) (j:=g.1) (want:=g.2) lL ?_;rw[←htw];unfold W4 ZN;rw[EP,nA];simp[hdst]
  |some t=>
   refine J1 (C:=C.gS (f d).st.next) (T:=Xb (f d).T [t] .nil) (a:=a) ⟨rfl,fun u v hv=>?_⟩ (o:=o) (j:=g.1) (want:=g.2) lL ?_
   ·rw[F9]at hv;split at hv
    ·next hu=>
     simp only[Qp]at hu;subst hu;refine reads u (fun j q hqj hqt=>?_) v hv;have:=Lz WX hqj nA hqt hdst;subst this;exact .inr (.inl hgA)
    ·rw[Bs]at hv;cases hv
   ·rw[←htw];unfold W4 ZN;rw[EP,nA];simp only[Qe,hdst];have:=F9 (f d).T [t] .nil t;simp only[Qp,if_true]at this;unfold Tr.get at this;rw[this]
 exact fD
theorem Ov (he:CN E P) (hx:Y6 E P) (VJ:YF E P ev) (Wi:YG E P ev) (WX:WK ops.toList=true) (Zx:(f 0).news=[]) {C0:Cx} {w0:World} (gi:Wg E C0) (ZT:Wn C0 (f 0).st w0) {a0:Act}
 (jW:TR C0 fr.nt (f 0).T a0.tmps) {D:Nat→Prop} {C:Cx} {a:Act} {w:World} (h:Inv f r ops.toList.length C0 w0 D C w) (hT:eo ops.toList f r fr.nt a0 D C a) {d:Nat} (hd:d<ops.toList.length) (ZA:¬D d)
 (hxd:¬X d) (XK:∀i j,D i→cQ ops.toList i j→D j) (YI:∀j,cQ ops.toList d j→D j) (b:Frame) (k:List Item) (cs:List Frame) (idx:List Nat):
 ∃C' a' w',Steps P (lone (CZ b a (.inRegion ops (d::idx)::k)) cs w) (lone (CZ b a' (.inRegion ops idx::k)) cs w')∧Inv f r ops.toList.length C0 w0 (fun j=>D j∨j=d) C' w'∧
  eo ops.toList f r fr.nt a0 (fun j=>D j∨j=d) C' a':=by
 have ho:ops.toList[d]?=some ops.toList[d]:=Qi hd;generalize ops.toList[d]=o at ho;have hoA:ops[d]?=some o:=by rw[←Array.getElem?_toList];exact ho
 have C5:=hs.run d o hxd ho;have mB:=ZT.fresh;obtain⟨hTp,jX,hwd⟩:=LO hs WX gi ZT jW h hT hd ZA XK YI ho;have go:Region.wanted o (yielded ops a.tmps)=true→WS E ev fr (Yr E ops.toList d o) (f d) (Xb (f d).T (tmpsOf o.op.operands.toList) .nil)=some (r d)→
  ∃C' a' w',Steps P (lone (CZ b a (.inRegion ops (d::idx)::k)) cs w) (lone (CZ b a' (.inRegion ops idx::k)) cs w')∧Inv f r ops.toList.length C0 w0 (fun j=>D j∨j=d) C' w'∧
   eo ops.toList f r fr.nt a0 (fun j=>D j∨j=d) C' a':=by
  intro fD bj;by_cases bO:∃b j,b<(f d).st.next∧d<j∧j<ops.toList.length∧D j∧Wr f r j b∧dD b (r d).1=true
  ·obtain⟨b0,j,q1,q2,q3,q4,q5,q6⟩:=bO;obtain⟨xo,F,n,H,aH,hn,hF,hu,hSt⟩:=wP hs WX ZT h hd ZA XK ho q1 q2 q3 q4 q5 q6;have yS:=o9 he hx o;rw[aH]at yS;have elim:Ext (C.gS (f d).st.next) (C.gS n):=Ke (.refl C) hn;obtain⟨x,Xp,hv⟩:=wJ (P:=P) (idx:=idx) (b:=b) (k:=k) (cs:=cs) hoA yS aH (jX.mono elim) (hTp.mono elim) hSt fD hF;have lH:VR (C.gS (f d).st.next) (r d).2.1 x:=
    GN (C:=C.gS (f d).st.next) (C':=C.gS n) (m:=(f d).st.next) (fun b hb hd=>⟨⟨hd.1,hb⟩,rfl⟩) (fun b k hb hg=>⟨⟨hg.1,hb⟩,rfl⟩) 40 hu hv
   have dO:(r d).2.2.next=(f d).st.next∧(r d).2.2.log=[]:=by
    unfold WS at bj;cases hq:WH (Yr E ops.toList d o).so with
    |false=>rw[hq]at bj;cases bj
    |true=>
    rw[hq]at bj;simp only[cond_true]at bj;obtain⟨Xz,bA,_⟩:=Jf hs bj;have hso':(Yr E ops.toList d o).so= .read xo F:=aH;rw[hso']at bA;change Xh (fun v=> .one ⟨.normal,fr,ZO v,_⟩) (F _ _)=_ at bA;cases hf:F (Xb (f d).T (tmpsOf o.op.operands.toList) .nil) ((f d).st.sub (VP (Yr E ops.toList d o).CS (f d).news (f d).st.heap (Wh (.read xo F) (Xb (f d).T (tmpsOf o.op.operands.toList) .nil))))with
    |none=>rw[hf]at bA;cases bA
    |some v=>
     rw[hf]at bA;simp only[Xh,Out.one.injEq,Z2.mk.injEq]at bA;obtain⟨_,_,_,h4⟩:=bA;rw[←h4];exact⟨rfl,rfl⟩
   have Zk:=Q2 hs WX Zx ZT h hd ZA XK YI (H:= .nil) (fun b o' hb=>by rw[Bs]at hb;cases hb) (fun⟨b,o',hb⟩=>by rw[Bs]at hb;cases hb);obtain⟨hinv,e1,e4⟩:=Inv.step hs WX Zx ZT h hd ZA XK (s:=(f d).st.sub .nil) (s':=(f d).st.sub .nil) dO.1 dO.2 (fun b hw=>by
    rcases hw with hw|hw
    ·rw[dO.2]at hw;cases hw
    ·rw[dO.1]at hw;omega) rfl rfl rfl Zk.2 Zk.1 (Cv.refl Zk.1)
   exact⟨_,_,w,Xp,hinv,hT.step hs WX ho ZA e1 e4 lH⟩
  have mC:∀b j,b<(f d).st.next→d<j→j<ops.toList.length→D j→Wr f r j b→dD b (r d).1=false:=by
   intro b j q1 q2 q3 q4 q5;cases q6:dD b (r d).1 with
   |false=>rfl
   |true=>exact absurd ⟨b,j,q1,q2,q3,q4,q5,q6⟩ bO
  unfold WS at bj;cases hq:WH (Yr E ops.toList d o).so with
  |false=>rw[hq]at bj;cases bj
  |true=>
  rw[hq]at bj;simp only[cond_true]at bj;obtain⟨Xz,bA,fE⟩:=Jf hs bj;have Zk:=Q2 hs WX Zx ZT h hd ZA XK YI (H:=VP (Yr E ops.toList d o).CS (f d).news (f d).st.heap (Wh (Yr E ops.toList d o).so (Xb (f d).T (tmpsOf o.op.operands.toList) .nil))) (by
   intro b o' hb;obtain⟨h1,h2,h3⟩:=J7 hb;exact⟨h1,fun j hj=>h2 j hj,by rw[fE];exact h3⟩) (fun _=>mC)
  have dK:∀F,Xg E o.type o.op≠ .defer F:=by
   intro F hF;have:WH (Xg E o.type o.op)=true:=hq;rw[hF]at this;cases this
  have jg:Xg E o.type o.op≠ .recover:=by
   intro hF;have:WH (Xg E o.type o.op)=true:=hq;rw[hF]at this;cases this
  obtain⟨v,C1,x,w',hTV,_,Xp,t,hv⟩:=wK (P:=P) VJ Wi (idx:=idx) (b:=b) (k:=k) (cs:=cs) hoA (o9 he hx o) rfl dK jg jX hTp Zk.1 fD bA;have hveq:(r d).2.1=v:=by
   have:=hTV;unfold ZO at this;cases this;rfl
  obtain⟨hinv,e1,e4⟩:=Inv.step hs WX Zx ZT h hd ZA XK (s:=(f d).st.sub _) rfl rfl (fun _ _=>rfl) rfl rfl rfl Zk.2 Zk.1 t;exact⟨_,_,w',Xp,hinv,hT.step hs WX ho ZA e1 e4 (by rw[hveq];exact hv)⟩
 unfold Wx at C5;have hdo:(Yr E ops.toList d o).o=o:=rfl;rw[hdo]at C5;cases lL:o.guard with
 |none=>
  rw[lL]at C5;exact go (by unfold Region.wanted;rw[lL]) C5
 |some g=>
  rw[lL]at C5;simp only at C5;obtain⟨tw,htw,C5⟩:=Qa.1 C5;have fD:=hwd g lL tw htw;cases tw with
  |true=>exact go fD C5
  |false=>
   simp only[cond_false]at C5;have hr:r d=(.nothing,.tuple [],(f d).st.sub .nil):=(Option.some.inj C5).symm;have Zk:=Q2 hs WX Zx ZT h hd ZA XK YI (H:= .nil) (fun b o' hb=>by rw[Bs]at hb;cases hb) (fun⟨b,o',hb⟩=>by rw[Bs]at hb;cases hb);obtain⟨hinv,e1,e4⟩:=Inv.step hs WX Zx ZT h hd ZA XK (s:=(f d).st.sub .nil) (s':=(f d).st.sub .nil) (by rw[hr]) (by rw[hr]) (fun b _=>by rw[hr]) rfl rfl rfl Zk.2 Zk.1 (Cv.refl Zk.1);have hsk:=Nr (P:=P) (b:=b) (a:=a) (k:=k) (cs:=cs) (w:=w) (ops:=ops) (i:=d) (rest:=idx) (by rw[hoA];exact fD);simp only[hoA,Qe]at hsk;exact⟨_,_,w,.one hsk,hinv,hT.step hs WX ho ZA e1 e4 (by rw[hr];exact VR.unit)⟩
end
section
variable {E : Env} {P : Program} {ops : Array Oper} {ev : Ev} {fr : Fr} {f : Nat → Zv} {r : Nat → Touch × AV × St} {X : Nat → Prop} (hs : bD E ops.toList ev fr f r X)
include hs
theorem NX {C:Cx} {w:World} (hS:Wn C (f 0).st w):Inv f r ops.toList.length C w (fun _=>False) C w:=by
 have hc:∀b,W9 f r (fun _=>False) ops.toList.length b=(f 0).st.heap.get b∧bG f r (fun _=>False) ops.toList.length b=(f 0).st.next:=by
  intro b;have:=FI (f:=f) (r:=r) (D:=fun _=>False) (b:=b) (Qo ops.toList.length) (fun _ _ _ h=>h.elim);exact⟨this.1.trans U,this.2.trans U⟩
 have e:Ext C (C.gS (f 0).st.next):=⟨fun b hb=>⟨hb,hS.fresh b hb⟩,fun _ _=>rfl,fun _ _ h=>h,fun b k hg=>⟨hg,hS.fresh b (hS.stamps b k hg)⟩,fun _ _ _=>rfl,fun _ h=>h⟩
 refine⟨fun i h=>h.elim,.refl C,?_,?_,fun b hb=> .inl hb,hS.iK,?_,hS.stamps,hS.there,hS.Ww,hS.Xu,fun b k hg=> .inl hg,Qj _,fun _ _ _=>rfl,?_,fun _ _ h=> .inl h,⟨rfl,rfl,rfl⟩⟩
 ·intro b o hb;rw[(hc b).1]at hb;rw[(hc b).2];obtain⟨hd,x,hx,hr⟩:=hS.live b o hb;exact⟨hd,x,hx,hr.mono e hd fun k hk=>hk.1⟩
 ·intro b b' o o' hb YN he;rw[(hc b).1]at hb;rw[(hc b').1]at YN;exact hS.inj b b' o o' hb YN he
 ·intro b o hb;rw[(hc b).1]at hb;exact hS.apart b o hb
 ·intro b o hb;rw[(hc b).1]at hb;exact .inl ⟨(hS.live b o hb).1,o,hb⟩
theorem S9 (he:CN E P) (hx:Y6 E P) (VJ:YF E P ev) (Wi:YG E P ev) (WX:WK ops.toList=true) (Zx:(f 0).news=[]) (hX:∀i,¬X i) {C0:Cx} {w0:World} (gi:Wg E C0) (ZT:Wn C0 (f 0).st w0) {a0:Act}
 (jW:TR C0 fr.nt (f 0).T a0.tmps) (b:Frame) (k:List Item) (cs:List Frame) {D:Nat→Prop} {idx:List Nat} (sd:dS ops.toList D idx):∀ {C:Cx} {a:Act} {w:World},Inv f r ops.toList.length C0 w0 D C w→
 eo ops.toList f r fr.nt a0 D C a→(∀i,D i→∀j,gg ops.toList i j→D j)→
 ∃D' C' a' w',(∀i,i<ops.toList.length→D' i)∧Steps P (lone (CZ b a (.inRegion ops idx::k)) cs w) (lone (CZ b a' k) cs w')∧Inv f r ops.toList.length C0 w0 D' C' w'∧eo ops.toList f r fr.nt a0 D' C' a':=by
 induction sd with
 |nil Ym=>
  intro C a w h hT _;exact⟨_,C,a,w,Ym,.one IS,h,hT⟩
 | @cons D d idx hd ZA hed _ ih=>
  intro C a w h hT XK;have hD':∀i,(D i∨i=d)→∀j,gg ops.toList i j→(D j∨j=d):=by
   rintro i (hi|rfl) j hj
   ·exact .inl (XK i hi j hj)
   ·exact .inl (hed j hj)
  have pB:∀i j,D i→cQ ops.toList i j→D j:=fun i j hi ha=>Hf WX XK i j (h.dn i hi) hi ha;have YI:∀j,cQ ops.toList d j→D j:=by
   intro j ha;rcases Hf WX hD' d j hd (.inr rfl) ha with h1|h1
   ·exact h1
   ·have:=O0 WX d j hd ha;omega
  obtain⟨C',a',w',Xp,hinv,YP⟩:=Ov hs he hx VJ Wi WX Zx gi ZT jW h hT hd ZA (hX d) pB YI b k cs idx;obtain⟨D2,C2,a2,w2,h1,h2,h3,h4⟩:=ih hinv YP hD';exact⟨D2,C2,a2,w2,h1,Xp.trans h2,h3,h4⟩
theorem QR {C0 C:Cx} {w0 w:World} (ZT:Wn C0 (f 0).st w0) {D:Nat→Prop} (Ym:∀i b,i<ops.toList.length→Wr f r i b→D i) (h:Inv f r ops.toList.length C0 w0 D C w):
 Cv C0 (f 0).st w0 C (f ops.toList.length).st w:=by
 have hc:∀b,W9 f r D ops.toList.length b=(f ops.toList.length).st.heap.get b:=by
  intro b;rw[←MM hs (Qj _)];exact(Iv fun j hj hw=>⟨fun _=>trivial,fun _=>Ym j b hj hw⟩).1
 have n9:∀b o,(f 0).st.heap.get b=some o→b<(f 0).st.next:=fun b o hb=>ZT.fresh b (ZT.live b o hb).1;have nowr:∀b,C0.D b→¬Z6 (f 0).st (f ops.toList.length).st.log b→∀j,0≤j→j<ops.toList.length→D j→¬Wr f r j b:=by
  intro b hb hm j _ hj _ hw;rcases hw with hw|hw
  ·exact hm (Q5 hs hj hw)
  ·have:=ZT.fresh b hb;have:=Dk hs (Qo j) (Nat.le_of_lt hj);omega
 refine⟨h.ext,⟨?_,?_,?_,h.iK,?_,h.stamps,h.there,h.Ww,h.Xu⟩,Nl hs (Qj _),Tp hs (Qo _) (Qj _),Dk hs (Qo _) (Qj _),h.size,h.frame,?_,?_,?_,h.aV,h.Yz⟩
 ·intro b o hb;rw[←hc]at hb;obtain⟨hd,x,hx,hr⟩:=h.heap b o hb;have C6:=KA hs n9 (Qj _) hb;exact⟨hd,x,hx,hr.mono Uv ⟨hd,C6⟩ fun k hk=>⟨hk,C6⟩⟩
 ·intro b b' o o' hb YN he;rw[←hc]at hb YN;exact h.inj b b' o o' hb YN he
 ·intro b hb;rcases h.num b hb with h1|⟨j,hj,h1,h2⟩
  ·exact Nat.lt_of_lt_of_le (ZT.fresh b h1) (Dk hs (Qo _) (Qj _))
  ·have mX:=h.dn j hj;have hp:=(hs.put j _ (Qi mX)).next;have:=Dk hs (show j+1≤ops.toList.length by omega) (Qj _);omega
 ·intro b o hb;rw[←hc]at hb;exact h.apart b o hb
 ·intro b hb hm;refine⟨?_,fun k hk=>?_⟩
  ·rw[←hc];exact(FI (Qo _) (nowr b hb hm)).1.trans U
  ·rcases h.lj b k hk with h1|⟨i,hi,hw⟩
   ·exact h1
   ·exact absurd hw (nowr b hb hm i (Qo _) (h.dn i hi) hi)
 ·intro b hb;rcases h.num b hb with h1|⟨j,hj,h1,_⟩
  ·exact .inl h1
  ·exact .inr (Nat.le_trans (Dk hs (Qo j) (Nat.le_of_lt (h.dn j hj))) h1)
 ·intro b o hb;rw[←hc]at hb;exact h.own b o hb
theorem U0 {C0 C:Cx} {a0 a:Act} (e:Ext C0 C) (jW:TR C0 fr.nt (f 0).T a0.tmps) {D:Nat→Prop} (Ym:∀i,i<ops.toList.length→D i) (hdn:∀i,D i→i<ops.toList.length) (h:eo ops.toList f r fr.nt a0 D C a):
 TR C fr.nt (f ops.toList.length).T a.tmps:=by
 refine⟨h.size,fun t v hv=>?_⟩;rcases sh hs t (Qj _)with⟨j,p,hj,nA,gw,hg⟩|⟨h1,h2⟩
 ·rw[hg]at hv;cases hv;obtain⟨x,hx,Yq⟩:=h.slot j p t (Ym j hj) nA gw;exact⟨x,hx,Yq.mono Uv⟩
 ·rw[h2]at hv;obtain⟨x,hx,Yq⟩:=jW.2 t v hv;exact⟨x,by rw[h.oG t fun i p hi sm=>h1 i p (hdn i hi) sm];exact hx,Yq.mono e⟩
omit hs in
theorem IK:∀(l:List Oper) (T:Tr AV) (t:Nat) (v:AV),(Yy l T).get t=some v→T.get t=some v∧∀o∈l,o.dst≠some t
 | [],T,t,v,h=>⟨h,fun o ho=>by cases ho⟩
 |o::l,T,t,v,h=>by
  unfold Yy at h;cases hd:o.dst with
  |none=>
   rw[hd]at h;obtain⟨h1,h2⟩:=IK l T t v h;exact⟨h1,fun p hp=>by
    rcases Qk.1 hp with rfl|hp
    ·rw[hd];simp
    ·exact h2 p hp⟩
  |some d=>
   rw[hd]at h;obtain⟨h1,h2⟩:=IK l (T.set d none) t v h;rw[AF]at h1;by_cases e:t=d
   ·rw[if_pos e]at h1;cases h1
   ·rw[if_neg e]at h1;exact⟨h1,fun p hp=>by
     rcases Qk.1 hp with rfl|hp
     ·rw[hd];simp;exact fun x=>e x.symm
     ·exact h2 p hp⟩
theorem TN (he:CN E P) (hx:Y6 E P) (VJ:YF E P ev) (Wi:YG E P ev) (WX:WK ops.toList=true) (Zx:(f 0).news=[]) {p:Nat} {v:AV} (hp:sf E ops.toList ev fr f r 0 ops.toList p v)
 (hX:∀i,X i↔i=p∨cQ ops.toList i p) {C0:Cx} {w0:World} (gi:Wg E C0) (ZT:Wn C0 (f 0).st w0) {a0:Act}
 (jW:TR C0 fr.nt (f 0).T a0.tmps) (b:Frame) (k:List Item) (cs:List Frame) {D:Nat→Prop} {idx:List Nat} (sd:dS ops.toList D idx):∀ {C:Cx} {a:Act} {w:World},Inv f r ops.toList.length C0 w0 D C w→
 eo ops.toList f r fr.nt a0 D C a→(∀i,D i→∀j,gg ops.toList i j→D j)→¬D p→
 ∃C' a' w' k2 x,Steps P (lone (CZ b a (.inRegion ops idx::k)) cs w) (lone {CZ b a' k2 with mode:= .panicking [{v:=x,recovered:=false}]} cs w')∧Cv C0 (f 0).st w0 C' (f ops.toList.length).st w'∧
  TR C' fr.nt (Yy ops.toList (f 0).T) a'.tmps∧a'.defers=a0.defers∧VR C' v x∧la k2:=by
 obtain⟨kp,op,wM,XX,sq,hpa,gw⟩:=hp.at_;simp only[Nat.zero_add]at wM;subst wM;have X3:kp<ops.toList.length:=(List.getElem?_eq_some_iff.1 XX).1;induction sd with
 |nil Ym=>intro C a w h hT _ lK;exact absurd (Ym kp X3) lK
 | @cons D d idx hd ZA hed _ ih=>
  intro C a w h hT XK lK;have hD':∀i,(D i∨i=d)→∀j,gg ops.toList i j→(D j∨j=d):=by
   rintro i (hi|rfl) j hj
   ·exact .inl (XK i hi j hj)
   ·exact .inl (hed j hj)
  have pB:∀i j,D i→cQ ops.toList i j→D j:=fun i j hi ha=>Hf WX XK i j (h.dn i hi) hi ha;have YI:∀j,cQ ops.toList d j→D j:=by
   intro j ha;rcases Hf WX hD' d j hd (.inr rfl) ha with h1|h1
   ·exact h1
   ·have:=O0 WX d j hd ha;omega
  by_cases hdp:d=kp
  ·subst hdp;have noWr:∀b j,d<j→j<ops.toList.length→¬Wr f r j b:=by
    intro b j hj mX hw;have hq:=hp.quiet j mX (by omega);simp only[Nat.zero_add]at hq;rcases hw with hw|hw
    ·rw[hq.2]at hw;cases hw
    ·rw[hq.1]at hw;omega
   obtain⟨hTp,jX,hwd⟩:=LO hs WX gi ZT jW h hT hd ZA pB YI XX;have hoA:ops[d]?=some op:=by rw[←Array.getElem?_toList];exact XX
   have go:Region.wanted op (yielded ops a.tmps)=true→jJ E ev fr (Yr E ops.toList d op) (f d) (Xb (f d).T (tmpsOf op.op.operands.toList) .nil)=some (v,(r d).2.2)→
    ∃C' a' w' k2 x,Steps P (lone (CZ b a (.inRegion ops (d::idx)::k)) cs w) (lone {CZ b a' k2 with mode:= .panicking [{v:=x,recovered:=false}]} cs w')∧Cv C0 (f 0).st w0 C' (f ops.toList.length).st w'∧
    TR C' fr.nt (Yy ops.toList (f 0).T) a'.tmps∧a'.defers=a0.defers∧VR C' v x∧la k2:=by
    intro fD bj;have Zk:=Q2 hs WX Zx ZT h hd ZA pB YI (H:=VP (Yr E ops.toList d op).CS (f d).news (f d).st.heap .all) (by
     intro b o' hb;obtain⟨h1,h2,h3⟩:=J7 hb;exact⟨h1,fun j hj=>h2 j hj,by rw[gw];rfl⟩) (fun _ b j _ h2 h3 _ h5=>absurd h5 (noWr b j h2 h3))
    have aH:Xg E op.type op.op=(Yr E ops.toList d op).so:=rfl;have hq:((∃F,Xg E op.type op.op= .call F)∨∃F A,Xg E op.type op.op= .ZB F A)∧
     bw ((WW E (Xg E op.type op.op) K0).run ev fr (Xb (f d).T (tmpsOf op.op.operands.toList) .nil) ((f d).st.sub (VP (Yr E ops.toList d op).CS (f d).news (f d).st.heap .all)))=some (v,(r d).2.2):=by
     unfold jJ at bj;rw[←aH]at bj;cases hc:Xg E op.type op.op with
     |call F=>rw[hc]at bj;exact⟨.inl ⟨F,rfl⟩,bj⟩
     |ZB F A=>rw[hc]at bj;exact⟨.inr ⟨F,A,rfl⟩,bj⟩
     |_=>rw[hc]at bj;cases bj
    obtain⟨C1,x,w',Xp,t,hv⟩:=rZ (P:=P) VJ Wi (idx:=idx) (b:=b) (k:=k) (cs:=cs) hoA (o9 he hx op) rfl hq.1 jX hTp Zk.1 fD hq.2;obtain⟨hinv,e1,e4⟩:=Inv.step hs WX Zx ZT h hd ZA pB (s:=(f d).st.sub _) rfl rfl (fun _ _=>rfl) rfl rfl rfl Zk.2 Zk.1 t;have tl:=QR hs ZT (fun i b hi hw=>by
     rcases Nat.lt_trichotomy i d with C6|rfl|yB
     ·exact .inl (YI i (hpa (i,b) ((Me hs Zx (Nat.le_of_lt hd) i b).2 ⟨C6,hw⟩)))
     ·exact .inr U
     ·exact absurd hw (noWr b i yB hi)) hinv
    refine⟨_,a,w',_,x,Xp,tl,⟨hT.size,fun t u hu=>?_⟩,hT.defers,(hv.mono e4).mono Uv,by intro _ _ _ _ _ h;cases h⟩;obtain⟨h1,h2⟩:=IK _ _ _ _ hu;obtain⟨y,hy,dL⟩:=jW.2 t u h1;exact⟨y,by rw[hT.oG t fun i q hi hq=>h2 q (List.mem_of_getElem? hq)];exact hy,dL.mono hinv.ext⟩
   unfold bx at sq;have hdo:(Yr E ops.toList d op).o=op:=rfl;rw[hdo]at sq;cases lL:op.guard with
   |none=>
    rw[lL]at sq;exact go (by unfold Region.wanted;rw[lL]) sq
   |some g=>
    rw[lL]at sq;obtain⟨tw,htw,sq⟩:=Qa.1 sq;cases tw with
    |false=>cases sq
    |true=>exact go (hwd g lL true htw) sq
  ·have hxd:¬X d:=fun hx=>by
    rcases(hX d).1 hx with h1|h1
    ·exact hdp h1
    ·exact lK (YI kp h1)
   obtain⟨C',a',w',Xp,hinv,YP⟩:=Ov hs he hx VJ Wi WX Zx gi ZT jW h hT hd ZA hxd pB YI b k cs idx;obtain⟨C2,a2,w2,k2,x,h1,h2⟩:=ih hinv YP hD' (fun hh=>hh.elim lK fun h=>hdp h.symm);exact⟨C2,a2,w2,k2,x,Xp.trans h1,h2⟩
end
theorem Kw {E:Env} {P:Program} (he:CN E P) (hx:Y6 E P):lh E P:=by
 intro ev VJ Wi id ops C S w fr T b a k cs hg hT hF hS;show Good P C S w fr b k cs _ ((kS E ops.toList (XM E (VL ops.toList) ops.toList 0)).run ev fr T S);unfold kS;cases WX:WK ops.toList with
 |false=>exact AE
 |true=>
 intro rs hrs;rcases Ht hrs with⟨q,hda,rfl⟩|⟨f,r,p,v,wQ,hp,rfl⟩
 rotate_left
 ·have hX:∀i,(fun i=>i=p∨cQ ops.toList i p) i↔i=p∨cQ ops.toList i p:=fun _=> .rfl;have hs:bD E ops.toList ev fr f r (fun i=>i=p∨cQ ops.toList i p):=⟨fun i o hx ho=>by
   have:=hp.run i o ho (fun h=>hx (.inl (by omega))) (.inl (by
    simp only[Nat.zero_add];cases hb:Nat.testBit (Yr E ops.toList i o).CS p with
    |false=>rfl
    |true=>exact absurd (.inr hb) hx))
   simpa only[Nat.zero_add]using this,fun i o ho=>by simpa only[Nat.zero_add]using hp.put i o ho⟩
  have hw0:=Cv.drew hS (w.drawn+1);have ZT:Wn C (f 0).st {w with drawn:=w.drawn+1}:=by rw[wQ];exact hw0.st
  have jW:TR C fr.nt (f 0).T a.tmps:=by rw[wQ];exact hT
  have hT00:eo ops.toList f r fr.nt a (fun _=>False) C a:=⟨hT.1,rfl,fun i o t h=>h.elim,fun t _=>rfl⟩
  obtain⟨C',a',w',k2,x,Xp,t,wG,hde,hv,hnc⟩:=TN hs he hx VJ Wi WX (by rw[wQ]) hp hX hg ZT jW b k cs (JC WX (P.follows .mixedOrders) (w.tape w.drawn (.order b.fn id))) (NX hs ZT) hT00 (fun i h=>h.elim) (fun h=>h);rw[wQ]at t wG;refine⟨_,Qp.2 U,C',a',w',cs,?_,wG,⟨?_,(hF.mono t.ext).WD,(hF.mono t.ext).round⟩,rfl,rfl,.same,k2,x,.head HL Xp,hv,hnc⟩
  ·simp only[Nat.zero_add];exact hw0.trans t
  ·have:=(hF.mono t.ext).defs;rw[hde];exact this
 obtain⟨f,r,wQ,kZ,hseq⟩:=Kx hda;simp only[Nat.zero_add]at kZ hseq;have hs:bD E ops.toList ev fr f r (fun _=>False):=⟨fun i o _ ho=>(hseq i o ho).1,fun i o ho=>(hseq i o ho).2⟩
 have hw0:=Cv.drew hS (w.drawn+1);have ZT:Wn C (f 0).st {w with drawn:=w.drawn+1}:=by rw[wQ];exact hw0.st
 have jW:TR C fr.nt (f 0).T a.tmps:=by rw[wQ];exact hT
 have hT00:eo ops.toList f r fr.nt a (fun _=>False) C a:=⟨hT.1,rfl,fun i o t h=>h.elim,fun t _=>rfl⟩
 obtain⟨D,C',a',w',Ym,Xp,hinv,wG⟩:=S9 hs he hx VJ Wi WX (by rw[wQ]) (fun _ h=>h) hg ZT jW b k cs (JC WX (P.follows .mixedOrders) (w.tape w.drawn (.order b.fn id))) (NX hs ZT) hT00 (fun i h=>h.elim);have t:=QR hs ZT (fun i _ hi _=>Ym i hi) hinv;have hTn:=U0 hs hinv.ext jW Ym hinv.dn wG;rw[wQ,kZ]at t;rw[kZ]at hTn;refine⟨_,Qp.2 U,C',a',w',cs,hw0.trans t,hTn,⟨?_,(hF.mono t.ext).WD,(hF.mono t.ext).round⟩,rfl,rfl,.same,.head HL Xp⟩;have:=(hF.mono t.ext).defs;rw[wG.defers];exact this
def Cx.sr (C:Cx):Cx:= {C with G:=fun _ _=>False}
theorem No {C:Cx} {a b:AV} {x:Value} (h:fb a b=true) (hv:VR C a x):VR C.sr a x:=by
 cases hv with
 |bool b=>exact .bool b
 |int k n=>exact .int k n
 |str hs=>exact .str hs
 |CJ=>exact .CJ
 |ptr hd=>exact VR.ptr (C:=C.sr) hd
 |Ca a hx=>exact .Ca a hx
 |slice hd hc hl=>exact VR.slice (C:=C.sr) hd hc hl
 |Xj hx hd hc=>exact VR.Xj (C:=C.sr) hx hd hc
 |VU=>exact .VU
 |map hd=>exact VR.map (C:=C.sr) hd
 |_=>exfalso;cases b<;>cases h
theorem JD {C:Cx}:∀ {a b:List AV} {xs:List Value},cC a b=true→VS C a xs→VS C.sr a xs
 |_,_,_,_,.nil=> .nil
 |_,[],_,h,.cons _ _=>by cases h
 |_,_::_,_,h,.cons hv t=>by
  simp only[cC,Qf]at h;exact .cons (No h.1 hv) (JD h.2 t)
theorem Nn {C:Cx} {a b:AV} {x:Value} (h:Zu a (some b)=true) (hv:VR C a x):VR C.sr a x:=by
 unfold Zu at h;split at h
 ·cases hv with
  |agg Wk VX=>exact .agg (JD h Wk) VX
 ·cases hv with
  |tuple Wk=>exact .tuple (JD h Wk)
 ·exact No h hv
 ·cases h
theorem Gz {k:AV}:∀ {l:List WV} {p:WV×List WV},pull k l=some p→∃a b,l=a++p.1::b∧p.2=a++b∧Zu k (some p.1.1)=true
 | [],_,h=>by cases h
 |e::l,p,h=>by
  unfold pull at h;cases hs:Zu k (some e.1)with
  |true=>
   rw[hs]at h;cases h;exact⟨[],l,rfl,rfl,hs⟩
  |false=>
   rw[hs]at h;obtain⟨q,hq,h⟩:=Qa.1 h;cases h;obtain⟨a,b,h1,h2,h3⟩:=Gz hq;exact⟨e::a,b,by rw[h1];rfl,by rw[h2];rfl,h3⟩
theorem T9 {k:AV} {l:List WV} {p:WV×List WV} (h:pull k l=some p):l.Perm (p.1::p.2):=by
 obtain⟨a,b,h1,h2,_⟩:=Gz h;rw[h1,h2];exact List.perm_middle
theorem H7 {C:Cx} {b:Nat}:∀ {x y:List WV} {l:List MapEntry},Wq C b (x++y) l→∃l1 l2,l=l1++l2∧Wq C b x l1∧Wq C b y l2
 | [],_,l,h=>⟨[],l,rfl,.nil,h⟩
 |_::_,_,_,h=>by
  cases h with
  |cons hk hv hg hn t=>
   obtain⟨l1,l2,e,h1,h2⟩:=H7 t;exact⟨_::l1,l2,by rw[e];rfl,.cons hk hv hg hn h1,h2⟩
theorem GE {C:Cx} {b:Nat} {y:List WV} {l2:List MapEntry} (h2:Wq C b y l2):∀ {x:List WV} {l1:List MapEntry},Wq C b x l1→Wq C b (x++y) (l1++l2)
 |_,_,.nil=>h2
 |_,_,.cons hk hv hg hn t=> .cons hk hv hg hn (GE h2 t)
def Xq:List WV→List WV→Nat→Nat
 | [],_,n=>n
 |e::r,l,n=>match pull e.1 l with
  |some p=>if e.2.2=n then p.1.2.2 else Xq r p.2 n
  |none=>n
theorem GR {s:Nat}:∀ {l:List WV},hB s l=true→∀e∈l,s≠e.2.2
 | [],_,e,he=>by cases he
 |a::l,h,e,he=>by
  simp only[hB,Qf,Bool.not_eq_true']at h;rcases Qk.1 he with rfl|he
  ·intro hs;rw[hs,Nat.beq_refl]at h;cases h.1
  ·exact GR h.2 e he
theorem Hz {n:Nat}:∀ {l:List WV},Xo n l=true→∀e∈l,e.2.2<n
 | [],_,e,he=>by cases he
 |a::l,h,e,he=>by
  simp only[Xo,Qf]at h;rcases Qk.1 he with rfl|he
  ·simpa[Nat.blt_eq]using h.1.1
  ·exact Hz h.2 e he
theorem Mb {n a b:Nat} (h:fS n a b=true):a=b∨(n≤a∧n≤b):=by
 unfold fS at h;simp only[Bool.or_eq_true,Qf]at h;rcases h with h|h
 ·exact .inl (Qb h)
 ·exact .inr ⟨Qc h.1,Qc h.2⟩
theorem Fs {n0 n1:Nat}:∀ {es l:List WV},X6 n0 es l=true→Xo n1 es=true→∀e∈es,e.2.2=Xq es l e.2.2∨(n0≤e.2.2∧n0≤Xq es l e.2.2)
 | [],_,_,_,e,he=>by cases he
 |a::r,l,h,hs,e,he=>by
  simp only[X6]at h;split at h
  ·next p hp=>
   simp only[Qf]at h;simp only[Xo,Qf]at hs;simp only[Xq,hp];rcases Qk.1 he with rfl|he
   ·simp only[if_true];exact Mb h.1.2
   ·have:a.2.2≠e.2.2:=GR hs.1.2 e he;rw[if_neg this];exact Fs h.2 hs.2 e he
  ·cases h
theorem H0 {C2 C3:Cx} {b m n0 n1:Nat} (gT:∀ {a c:AV} {x:Value},Zu a (some c)=true→Cz m 40 a=true→VR C2 a x→VR C3 a x):
 ∀ {es l2:List WV} {lr:List MapEntry},X6 n0 es l2=true→Xo n1 es=true→(es.all fun e=>Cz m 40 e.1&&Cz m 40 e.2.1)=true→Wq C2 b l2 lr→
  (∀e∈es,C3.G b e.2.2∧C3.gh b e.2.2=C2.gh b (Xq es l2 e.2.2))→∃yT,yT.Perm lr∧Wq C3 b es yT
 | [],[],_,_,_,_,h,_=>by cases h;exact⟨[],.nil,.nil⟩
 | [],_::_,_,h,_,_,_,_=>by cases h
 |(k,v,s)::r,l2,lr,h,hs,hu,hR,Xp=>by
  simp only[X6]at h;split at h
  ·next p hp=>
   simp only[Qf]at h;simp only[Xo,Qf]at hs;simp only[List.all_cons,Qf]at hu;obtain⟨x,y,h1,h2,h3⟩:=Gz hp;rw[h1]at hR;obtain⟨lx,ly,rfl,hx,hy⟩:=H7 hR;obtain⟨⟨k2,v2,s2⟩,q⟩:=p;cases hy with
   | @cons _ _ _ e _ ly' hk hv hg hn hy=>
    have hR':Wq C2 b q (lx++ly'):=by
     have:q=x++y:=h2;rw[this];exact GE hy hx
    obtain⟨yT,wR,hR3⟩:=H0 gT h.2 hs.2 hu.2 hR' (fun e' Y0=>by
     have Xl:s≠e'.2.2:=GR hs.1.2 e' Y0;have:=Xp e' (Qg _ Y0);refine⟨this.1,?_⟩;rw[this.2];simp only[Xq,hp];rw[if_neg Xl])
    have Xm:=Xp (k,v,s) (Qh ..);simp only[Xq,hp,if_true]at Xm;have gL:k=k2:=HK h3;have hv':v=v2:=HK h.1.1;refine⟨e::yT,?_,.cons (gT h3 hu.1.1 (by rw[gL];exact hk)) (gT h.1.1 hu.1.2 (by rw[hv'];exact hv)) Xm.1 (hn.trans Xm.2.symm) hR3⟩;exact(wR.cons e).trans List.perm_middle.symm
  ·cases h
theorem FU {n0:Nat}:∀ {es l2:List WV},X6 n0 es l2=true→(es.map (·.1)).Perm (l2.map (·.1))
 | [],[],_=> .nil
 | [],_::_,h=>by cases h
 |e::r,l2,h=>by
  simp only[X6]at h;split at h
  ·next p hp=>
   simp only[Qf]at h;obtain⟨_,_,_,_,h3⟩:=Gz hp;have:=(T9 hp).map (·.1);refine .trans ?_ this.symm;simp only[List.map_cons];rw[HK h3];exact(FU h.2).cons _
  ·cases h
theorem IV {n0:Nat} {C:Cx} {b:Nat} {l2:List WV} {lr:List MapEntry} (hR:Wq C b l2 lr) {n1:Nat}:∀ {es:List WV},X6 n0 es l2=true→Xo n1 es=true→∀e∈es,C.G b (Xq es l2 e.2.2):=by
 intro es;induction es generalizing l2 lr with
 |nil=>intro _ _ e he;cases he
 |cons a r ih=>
  intro h hs e he;simp only[X6]at h;split at h
  ·next p hp=>
   simp only[Qf]at h;simp only[Xo,Qf]at hs;obtain⟨x,y,h1,h2,h3⟩:=Gz hp;rw[h1]at hR;obtain⟨lx,ly,rfl,hx,hy⟩:=H7 hR;simp only[Xq,hp];obtain⟨⟨k2,v2,s2⟩,q⟩:=p;cases hy with
   | @cons _ _ _ e' _ ly' hk hv hg hn hy=>
    rcases Qk.1 he with rfl|he
    ·simp only[if_true];exact hg
    ·have:a.2.2≠e.2.2:=GR hs.1.2 e he;rw[if_neg this];refine ih (l2:=q) (lr:=lx++ly') ?_ h.2 hs.2 e he;have:q=x++y:=h2;rw[this];exact GE hy hx
  ·cases h
theorem J4 (s1:St):∀(L:List Nat) (s:St) (b:Nat),(XW s1 L s).heap.get b=if b∈L then s1.heap.get b else s.heap.get b
 | [],s,b=>by simp[XW]
 |c::l,s,b=>by
  simp only[XW];rw[J4 s1 l];by_cases h1:b∈l
  ·simp[h1]
  ·simp only[h1,if_false,St.put,Qk,or_false];rw[AF];by_cases h2:b=c
   ·rw[if_pos h2,if_pos h2,h2]
   ·rw[if_neg h2,if_neg h2]
theorem Fp (s1:St):∀(L:List Nat) (s:St),(XW s1 L s).next=s.next∧(XW s1 L s).bound=s.bound
 | [],_=>⟨rfl,rfl⟩
 |_::l,_=>by simp only[XW];exact Fp s1 l _
theorem FX {b c:Nat} {l:List Nat} (h:c=b∨c∈l):c∈Xt b l:=h.elim (fun e=>e▸(GW b l).1) ((GW b l).2 c)
theorem Hy (s1:St):∀(L:List Nat) (s:St),(∀b∈s.log,b∈(XW s1 L s).log)∧∀b∈L,b<s.bound→b∈(XW s1 L s).log
 | [],_=>⟨fun _ h=>h,fun _ h=>(by cases h)⟩
 |c::l,s=>by
  simp only[XW];obtain⟨h1,h2⟩:=Hy s1 l (s.put c (s1.heap.get c));refine⟨fun b hb=>h1 b ?_,fun b hb C6=>?_⟩
  ·simp only[St.put];cases Nat.blt c s.bound with
   |true=>exact FX (.inr hb)
   |false=>exact hb
  ·rcases Qk.1 hb with rfl|hb
   ·refine h1 b ?_;simp only[St.put];have:Nat.blt b s.bound=true:=by simpa[Nat.blt_eq]using C6
    rw[this];exact FX (.inl U)
   ·exact h2 b hb C6
theorem Ki {α:Type} {f:α→Nat}:∀ {l:List α},(l.map f).Nodup→∀a∈l,∀b∈l,f a=f b→a=b
 | [],_,a,ha,_,_,_=>by cases ha
 |c::l,h,a,ha,b,hb,e=>by
  simp only[List.map_cons,List.nodup_cons]at h;rcases Qk.1 ha with h1|h1
  ·rcases Qk.1 hb with h2|h2
   ·rw[h1,h2]
   ·exact absurd (List.mem_map.2 ⟨b,h2,by rw[←e,h1]⟩) h.1
  ·rcases Qk.1 hb with h2|h2
   ·exact absurd (List.mem_map.2 ⟨a,h1,by rw[e,h2]⟩) h.1
   ·exact Ki h.2 a h1 b h2 e
theorem IG {C:Cx} {b:Nat}:∀ {es:List WV} {l:List MapEntry},Wq C b es l→l.map (·.born)=es.map fun e=>C.gh b e.2.2
 |_,_,.nil=>rfl
 |_,_,.cons _ _ _ hn t=>by simp only[List.map_cons];rw[hn,IG t]
theorem RD {C C2:Cx} {S s1 s2:St} {w w2:World} (hS:Wn C S w) (t:Cv C S.whole w C2 s2 w2) {L:List Nat} (hL:∀b∈s2.log,b∈L) (C6:∀b∈L,b<S.next)
 (hs:∀b∈L,au S.next (S.heap.get b) (s1.heap.get b) (s2.heap.get b)=true):
 ∃C3,Cv C S w C3 (XW s1 L S) w2∧(∀ {v a:AV} {x:Value},Zu v (some a)=true→Cz S.next 40 v=true→VR C2 v x→VR C3 v x)∧∀ {v:AV} {x:Value},Cr 40 v=true→VR C2 v x→VR C3 v x:=by
 classical
 let jY:Nat→List WV:=fun b=>match s1.heap.get b with|some (.map es _)=>es|_=>[]
 let mD:Nat→List WV:=fun b=>match s2.heap.get b with|some (.map es _)=>es|_=>[]
 let C3:Cx:= {C with M:=C2.M,G:=fun b n=>C.G b n∨(b∈L∧∃e∈jY b,e.2.2=n),gh:=fun b n=>if C.G b n then C.gh b n else C2.gh b (Xq (jY b) (mD b) n),X:=C2.X}
 have e3:Ext C C3:=⟨fun _ h=>h,fun _ _=>rfl,t.ext.M,fun _ _ h=> .inl h,fun b n h=>by show(if C.G b n then _ else _)=_;rw[if_pos h],t.ext.X⟩
 have hD:∀b,b<S.next→C2.D b→C.D b∧C2.pl b=C.pl b:=fun b hb hd=>by
  rcases t.fW b hd with h|h
  ·exact⟨h,t.ext.pl b h⟩
  ·have:S.next≤b:=h;omega
 have gT:∀ {v a:AV} {x:Value},Zu v (some a)=true→Cz S.next 40 v=true→VR C2 v x→VR C3 v x:=by
  intro v a x h hu hv;have h1:VR (C.Yi C2.sr) v x:=GN (C:=C) (C':=C2.sr) (m:=S.next) (fun b hb hd=>hD b hb hd) (fun b n _ hg=>hg.elim) 40 hu (Nn h hv);have e5:Ext (C.Yi C2.sr) C3:=⟨fun _ h=>h,fun _ _=>rfl,fun _ _ h=>h,fun b n h=>e3.G b n h,fun b n h=>e3.gh b n h,fun _ h=>h⟩
  exact h1.mono e5
 have e4:Ext C2.bare C3:=⟨fun _ x=>x.elim,fun _ x=>x.elim,fun _ _ h=>h,fun _ _ x=>x.elim,fun _ _ x=>x.elim,fun _ h=>h⟩
 have hclo:∀ {v:AV} {x:Value},Cr 40 v=true→VR C2 v x→VR C3 v x:=fun h hv=>(Ek 40 hv h).mono e4;refine⟨C3,?_,gT,hclo⟩;have ZP:∀b∈L,Z6 S (XW s1 L S).log b:=fun b hb=>by
  rcases Nat.lt_or_ge b S.bound with h|h
  ·exact .inl ((Hy s1 L S).2 b hb h)
  ·exact .inr h
 have hmw:∀b o,S.heap.get b=some o→Z6 S.whole s2.log b→b∈L:=fun b o hb hm=>by
  rcases hm with h|h
  ·exact hL b h
  ·have h1:=hS.fresh b (hS.live b o hb).1;have:S.next≤b:=h;omega
 have Y2:=J4 s1 L S;have hold:∀b o,(XW s1 L S).heap.get b=some o→∃o0,S.heap.get b=some o0:=by
  intro b o hb;rw[Y2]at hb;split at hb
  ·next jy=>
   have:=hs b jy;cases ho:S.heap.get b with
   |none=>rw[ho]at this;simp[au]at this
   |some o0=>exact⟨o0,rfl⟩
  ·exact⟨o,hb⟩
 have wS:∀b∈L,∀o,s1.heap.get b=some o→∃x,w2.heap[(C.pl b).Cn]?=some x∧OR C3 b o x∧C2.M (C.pl b).Cn=none:=by
  intro b jy o ho;have aH:=hs b jy;have hb:=C6 b jy;rw[ho]at aH;cases ho0:S.heap.get b with
  |none=>rw[ho0]at aH;simp[au]at aH
  |some o0=>
  cases ho2:s2.heap.get b with
  |none=>rw[ho2]at aH;unfold au at aH;split at aH<;>simp_all
  |some o2=>
  rw[ho0,ho2]at aH;obtain⟨jq,x,hx,hr⟩:=t.st.live b o2 ho2;obtain⟨hdC,X3⟩:=hD b hb jq;have hap:=t.st.apart b o2 ho2;rw[X3]at hx hap;refine⟨x,hx,?_,hap⟩;unfold au at aH;split at aH
  ·next n0 es n gu n' e0 e1 e2=>
   cases e0;cases e1;cases e2;simp only[Qf]at aH;obtain⟨⟨⟨h1,h2⟩,h3⟩,h4⟩:=aH;have hn:=Qb h1;subst hn;obtain⟨_,x0,_,kY⟩:=hS.live b _ ho0;have wT:jY b=es:=by show(match s1.heap.get b with|some (.map es _)=>es|_=>[])=es;rw[ho]
   have mw:mD b=gu:=by show(match s2.heap.get b with|some (.map es _)=>es|_=>[])=gu;rw[ho2]
   cases kY with
   | @map _ _ arr0 l0 _ _ _ _ _ gi _=>
   cases hr with
   | @map _ _ arr l hp h hk hn hc hg hi=>
    have hσ:∀e∈es,C3.gh b e.2.2=C2.gh b (Xq es gu e.2.2):=by
     intro e he;show(if C.G b e.2.2 then C.gh b e.2.2 else C2.gh b (Xq (jY b) (mD b) e.2.2))=_;rw[wT,mw];split
     ·next hG=>
      have mB:=gi _ hG;rcases Fs h2 h3 e he with h5|h5
      ·rw[←h5,t.ext.gh b _ hG]
      ·omega
     ·rfl
    obtain⟨yT,wR,hR3⟩:=H0 (C2:=C2) (C3:=C3) (b:=b) (m:=S.next) gT h2 h3 h4 h fun e he=>⟨.inr ⟨jy,e,by rw[wT];exact he,rfl⟩,hσ e he⟩;have wM:=FU h2;have ri:(yT.map (·.born)).Nodup:=(wR.map (·.born)).nodup_iff.2 hn;have bP:∀n,C3.G b n→(C.G b n∧C3.gh b n=C2.gh b n∧C2.G b n)∨(¬C.G b n∧∃e∈es,e.2.2=n∧C3.gh b n=C2.gh b (Xq es gu n)∧C2.G b (Xq es gu n)):=by
     intro n hG;by_cases hCG:C.G b n
     ·exact .inl ⟨hCG,by rw[e3.gh b n hCG,t.ext.gh b n hCG],t.ext.G b n hCG⟩
     ·rcases hG with hG|⟨_,e,he,fK⟩
      ·exact absurd hG hCG
      ·rw[wT]at he;refine .inr ⟨hCG,e,he,fK,?_,?_⟩
       ·rw[←fK];exact hσ e he
       ·rw[←fK];exact IV h h2 h3 e he
    refine .map (wR.trans hp) hR3 ⟨fun e he=>?_,wM.nodup_iff.2 hk.2⟩ ri ?_ ?_ ?_
    ·have:e.1∈gu.map (·.1):=wM.subset (List.mem_map.2 ⟨e,he,rfl⟩);obtain⟨e',Y0,zT⟩:=List.mem_map.1 this;rw[←zT];exact hk.1 e' Y0
    ·intro n hG;rcases bP n hG with⟨_,h5,h6⟩|⟨_,e,he,fK,h5,h6⟩
     ·rw[h5];exact hc n h6
     ·rw[h5];exact hc _ h6
    ·intro n hG;rcases bP n hG with⟨_,h5,h6⟩|⟨_,e,he,fK,h5,h6⟩
     ·exact hg n h6
     ·rw[←fK];exact Hz h3 e he
    ·intro n m hGn hGm heq;rcases bP n hGn with⟨fB,vo,hn4⟩|⟨fB,e,he,fK,vo,hn4⟩
     ·rcases bP m hGm with⟨gR,hm3,hm4⟩|⟨gR,e',Y0,hem,hm3,hm4⟩
      ·exact hi n m hn4 hm4 (by rw[←vo,←hm3];exact heq)
      ·have h7:=hi n _ hn4 hm4 (by rw[←vo,←hm3];exact heq);rcases Fs h2 h3 e' Y0 with h8|h8
       ·rw[hem]at h8;rw[h7,←h8]
       ·rw[hem,←h7]at h8;have:=gi n fB;omega
     ·rcases bP m hGm with⟨gR,hm3,hm4⟩|⟨gR,e',Y0,hem,hm3,hm4⟩
      ·have h7:=hi _ m hn4 hm4 (by rw[←vo,←hm3];exact heq);rcases Fs h2 h3 e he with h8|h8
       ·rw[fK]at h8;rw[←h7,←h8]
       ·rw[fK,h7]at h8;have:=gi m gR;omega
      ·have:=Ki (f:=fun e:WV=>C3.gh b e.2.2) (by rw[←IG hR3];exact ri) e he e' Y0 (by show C3.gh b e.2.2=C3.gh b e'.2.2;rw[fK,hem];exact heq);rw[←fK,←hem,this]
  ·next t0 p0 a t1 p1 b' t2 p2 e0 e1 e2=>
   cases e0;cases e1;cases e2;simp only[Qf]at aH;obtain⟨⟨⟨h1,h2⟩,h3⟩,h4⟩:=aH;have ha:=Jk h1;subst ha;have hpp:p1=p2:=by cases p1<;>cases p2<;>first|rfl|cases h3
   subst hpp;have htt:=Qb h2;subst htt;cases hr with
   | @cells _ _ _ c fr vs hv ha XA VX hf hp=>
    have Wk:VS C3 a vs:=by
     have key:∀ {l:List AV} {xs:List Value},cC l l=true→l.all (Cz S.next 40)=true→VS C2 l xs→VS C3 l xs:=by
      intro l;induction l with
      |nil=>intro xs _ _ h;cases h;exact .nil
      |cons u l ih=>
       intro xs h5 h6 h7;simp only[cC,Qf]at h5;simp only[List.all_cons,Qf]at h6;cases h7 with
       |cons hv t'=>
        refine .cons (gT (a:=u) ?_ h6.1 hv) (ih h5.2 h6.2 t');unfold Zu;split
        ·next e=>simp[fb]at h5
        ·next e=>simp[fb]at h5
        ·next e=>cases e;exact h5.1
        ·next e=>cases e
     exact key h1 h4 hv
    exact .cells Wk (by show Yf _ (C.pl b).base _;rw[←X3];exact ha) (by show _=(C.pl b).size;rw[←X3];exact XA) VX hf (fun wR=>by show(C.pl b).base=0∧_;rw[←X3];exact hp wR)
  ·cases aH
 have helse:∀b,b∉L→∀o,S.heap.get b=some o→w2.heap[(C.pl b).Cn]?=w.heap[(C.pl b).Cn]?:=by
  intro b jy o hb;obtain⟨_,x,hx,_⟩:=hS.live b o hb;refine t.frame _ (BM hx) fun b0 o0 h0 hm lM=>?_;have:=hS.inj b0 b o0 o h0 hb lM;subst this;exact jy (hmw _ _ h0 hm)
 refine⟨e3,⟨?_,?_,?_,t.st.iK,?_,?_,t.st.there,fun b hd=>t.ext.X _ (hS.Ww b hd),t.st.Xu⟩,(Fp s1 L S).2,(Hy s1 L S).1,by rw[(Fp s1 L S).1];exact Qj _,t.size,?_,?_,fun _ h=> .inl h,?_,?_,t.Yz⟩
 ·intro b o hb;obtain⟨o0,h0⟩:=hold b o hb;obtain⟨hdC,x0,pc,kY⟩:=hS.live b o0 h0;rw[Y2]at hb;refine⟨hdC,?_⟩;split at hb
  ·next jy=>
   obtain⟨x,hx,hr,_⟩:=wS b jy o hb;exact⟨x,hx,hr⟩
  ·next jy=>
   rw[h0]at hb;cases hb;exact⟨x0,by rw[←pc];exact helse b jy _ h0,kY.mono e3 hdC fun n hn=>hn.elim id fun h=>absurd h.1 jy⟩
 ·intro b b' o o' hb YN he;obtain⟨o0,h0⟩:=hold b o hb;obtain⟨o1,h1⟩:=hold b' o' YN;exact hS.inj b b' o0 o1 h0 h1 he
 ·intro b hb;rw[(Fp s1 L S).1];exact hS.fresh b hb
 ·intro b o hb;obtain⟨o0,h0⟩:=hold b o hb;rw[Y2]at hb;split at hb
  ·next jy=>exact(wS b jy o hb).choose_spec.2.2
  ·next jy=>
   obtain⟨hdC,x,hx,_⟩:=hS.live b o0 h0;show C2.M (C.pl b).Cn=none;cases hm:C2.M (C.pl b).Cn with
   |none=>rfl
   |some ms=>
    exfalso;rcases t.aV _ _ hm with h1|h1|⟨b0,o1,h2,h3,h4⟩
    ·rw[hS.apart b o0 h0]at h1;cases h1
    ·have:=BM hx;omega
    ·have:=hS.inj b0 b o1 o0 h2 h0 h4;subst this;exact jy (hmw _ _ h2 h3)
 ·intro b n hG;rcases hG with h|⟨jy,_⟩
  ·exact hS.stamps b n h
  ·have:=hs b jy;cases ho:S.heap.get b with
   |none=>rw[ho]at this;simp[au]at this
   |some o0=>exact(hS.live b o0 ho).1
 ·intro Cn hb hm;exact t.frame Cn hb fun b o ho vp=>hm b o ho (ZP b (hmw b o ho vp))
 ·intro b hdC hm;have jy:b∉L:=fun h=>hm (ZP b h);refine⟨by rw[Y2,if_neg jy],fun n hn=>hn.elim id fun h=>absurd h.1 jy⟩
 ·intro b o hb;obtain⟨o0,h0⟩:=hold b o hb;exact .inl ⟨(hS.live b o0 h0).1,o0,h0⟩
 ·intro Cn ms hm;rcases t.aV Cn ms hm with h1|h1|⟨b0,o0,h0,h2,h3⟩
  ·exact .inl h1
  ·exact .inr (.inl h1)
  ·exact .inr (.inr ⟨b0,o0,h0,ZP b0 (hmw b0 o0 h0 h2),h3⟩)
theorem IM:∀(a l:List Nat),(∀b∈a,b∈YZ.fT a l)∧∀b∈l,b∈YZ.fT a l
 | [],_=>⟨fun _ h=>(by cases h),fun _ h=>h⟩
 |c::a,l=>by
  simp only[YZ.fT];obtain⟨h1,h2⟩:=IM a (Xt c l);refine⟨fun b hb=>?_,fun b hb=>h2 b (FX (.inr hb))⟩;rcases Qk.1 hb with rfl|hb
  ·exact h2 b (FX (.inl U))
  ·exact h1 b hb
theorem L5:∀(os:List (AV×St)) (l:List Nat),(∀o∈os,∀b∈o.2.log,b∈YZ os l)∧∀b∈l,b∈YZ os l
 | [],_=>⟨fun _ h=>(by cases h),fun _ h=>h⟩
 |q::os,l=>by
  simp only[YZ];obtain⟨h1,h2⟩:=L5 os (YZ.fT q.2.log l);refine⟨fun o ho b hb=>?_,fun b hb=>h2 b ((IM q.2.log l).2 b hb)⟩;rcases Qk.1 ho with rfl|ho
  ·exact h2 b ((IM _ l).1 b hb)
  ·exact h1 o ho b hb
theorem L6 {s0 a b:St}:∀ {L:List Nat},iG s0 a b L=true→∀n∈L,n<s0.next∧au s0.next (s0.heap.get n) (a.heap.get n) (b.heap.get n)=true
 | [],_,n,hn=>by cases hn
 |c::l,h,n,hn=>by
  simp only[iG,Qf]at h;rcases Qk.1 hn with rfl|hn
  ·exact⟨by simpa[Nat.blt_eq]using h.1.1,h.1.2⟩
  ·exact L6 h.2 n hn
theorem Kf {m:Nat} {s0:St} {o:AV×St} {L:List Nat}:∀ {os:List (AV×St)},dm m s0 o L os=true→∀q∈os,
 ((Zu o.1 (some q.1)=true∧Cz m 40 o.1=true)∨(Za o.1 q.1=true∧Cr 40 o.1=true))∧iG s0 o.2 q.2 L=true
 | [],_,q,hq=>by cases hq
 |c::l,h,q,hq=>by
  simp only[dm,Qf,Bool.or_eq_true]at h;rcases Qk.1 hq with rfl|hq
  ·exact h.1
  ·exact Kf h.2 q hq
theorem MA {n:Nat} {o:AV×St} {p:List WV×Nat} (h:aR n o=some p):∃b,o.1= .map b∧o.2.log=[]∧n≤b∧o.2.heap.get b=some (.map p.1 p.2):=by
 unfold aR at h;split at h
 ·next b h1 h2=>
  cases hb:Nat.ble n b with
  |false=>rw[hb]at h;cases h
  |true=>
   rw[hb]at h;simp only[cond_true]at h;split at h
   ·next es c h3=>cases h;exact⟨b,h1,h2,Qc hb,h3⟩
   ·cases h
 ·cases h
theorem G6 {n:Nat} {es:List WV} {c:Nat}:∀ {l:List (AV×St)},aS n es c l=true→∀q∈l,∃gu,aR n q=some (gu,c)∧X6 0 es gu=true∧cB 0 (some (.map gu c))=true
 |a::l,h,q,hq=>by
  simp only[aS,Qf]at h;rcases Qk.1 hq with rfl|hq
  ·cases hf:aR n q with
   |none=>rw[hf]at h;cases h.1
   |some p=>
    rw[hf]at h;obtain⟨gu,c'⟩:=p;simp only[oq,Qf]at h;have:=Qb h.1.1.1;subst this;exact⟨gu,rfl,h.1.1.2,h.1.2⟩
  ·exact G6 h.2 q hq
def Cx.mE (C:Cx) (b:Nat):Cx:=⟨C.pl,C.M,fun _=>False,fun _ n=>C.gh b n,fun _ n=>C.G b n,C.X⟩
theorem PF {C:Cx} {b c:Nat} {es:List WV} {l:List MapEntry} (h:Wq C b es l) (hu:(es.all fun e=>Cz 0 40 e.1&&Cz 0 40 e.2.1)=true):Wq (C.mE b) c es l:=by
 induction h with
 |nil=>exact .nil
 |cons hk hv hg hn _ ih=>
  simp only[List.all_cons,Qf]at hu;have key:∀ {v:AV} {x:Value},Cz 0 40 v=true→VR C v x→VR (C.mE b) v x:=fun h hv=>
   GN (C:=C.mE b) (C':=C) (m:=0) (fun b hb _=>absurd hb (Nat.not_lt_zero b)) (fun b n hb _=>absurd hb (Nat.not_lt_zero b)) 40 h hv
  exact .cons (key hu.1.1 hk) (key hu.1.2 hv) hg hn (ih hu.2)
theorem ss {C C2:Cx} {S s2:St} {w w2:World} (hS:Wn C S w) (t:Cv C S.whole w C2 s2 w2) (Wm:s2.log=[]) {b2 clock:Nat} {es es2:List WV} (dw:S.next≤b2) (gI:s2.heap.get b2=some (.map es2 clock))
 (hp:X6 0 es es2=true) (qT:cB 0 (some (.map es2 clock))=true) (hu:cB 0 (some (.map es clock))=true) (Xp:Xo clock es=true) {x:Value} (hv:VR C2 (.map b2) x):
 ∃C4,Cv C S w C4 (S.alloc (.map es clock)) w2∧VR C4 (.map S.next) x:=by
 cases hv with
 |map jq=>
 obtain⟨arr,l,hm⟩:=t.st.map gI;have ZA:¬C.D S.next:=fun hd=>Nat.lt_irrefl _ (hS.fresh _ hd);have jS:∀n,¬C.G S.next n:=fun n hg=>ZA (hS.stamps _ _ hg);have XG:∀b o,S.heap.get b=some o→¬Z6 S.whole s2.log b:=by
  intro b o hb vp;have C6:=hS.fresh b (hS.live b o hb).1;rcases vp with h|h
  ·rw[Wm]at h;cases h
  ·have:S.next≤b:=h;omega
 have hk:w.heap.size≤(C2.pl b2).Cn:=by
  rcases t.own b2 _ gI with⟨hd,_⟩|h|⟨b0,o0,h0,vp,_⟩
  ·have:=hS.fresh b2 hd;omega
  ·exact h
  ·exact absurd vp (XG b0 o0 h0)
 let C4:Cx:=⟨fun j=>if j=S.next then⟨(C2.pl b2).Cn,0,0⟩else C.pl j,C2.M,fun j=>C.D j∨j=S.next,fun j n=>if j=S.next then C2.gh b2 (Xq es es2 n)else C.gh j n,
  fun j n=>C.G j n∨(j=S.next∧∃e∈es,e.2.2=n),C2.X⟩
 have Xl:∀b,C.D b→b≠S.next:=fun b hb e=>ZA (e▸hb);have e4:Ext C C4:=⟨fun _ h=> .inl h,fun b hb=>if_neg (Xl b hb),t.ext.M,fun _ _ h=> .inl h,fun b n hg=>if_neg (Xl b (hS.stamps b n hg)),t.ext.X⟩
 have X3:C4.pl S.next=⟨(C2.pl b2).Cn,0,0⟩:=if_pos rfl;have hghn:∀n,C4.gh S.next n=C2.gh b2 (Xq es es2 n):=fun n=>if_pos rfl;have yU:=PF (c:=S.next) hm.b8 (by simpa[cB]using qT);have wS:OR C4 S.next (.map es clock) (.map arr clock):=by
  have enoG:Ext (C2.mE b2).sr C4:=⟨fun _ h=>False.elim h,fun _ h=>False.elim h,fun _ _ h=>h,fun _ _ h=>False.elim h,fun _ _ h=>False.elim h,fun _ h=>h⟩
  obtain⟨yT,wR,hR3⟩:=H0 (C2:=C2.mE b2) (C3:=C4) (b:=S.next) (m:=0) (n0:=0) (n1:=clock) (fun h _ hv=>(Nn h hv).mono enoG)
   hp Xp (by simpa[cB]using hu) yU (fun e he=>⟨.inr ⟨rfl,e,he,rfl⟩,hghn _⟩)
  have wM:=FU hp;have ri:(yT.map (·.born)).Nodup:=(wR.map (·.born)).nodup_iff.2 hm.nodup;have XY:∀e∈es,C2.G b2 (Xq es es2 e.2.2):=fun e he=>IV yU hp Xp e he;have bP:∀n,C4.G S.next n→∃e∈es,e.2.2=n:=fun n hg=>hg.elim (fun h=>absurd h (jS n)) (fun h=>h.2);refine .map (wR.trans hm.perm) hR3 ⟨fun e he=>?_,wM.nodup_iff.2 hm.keys.2⟩ ri ?_ ?_ ?_
  ·have:e.1∈es2.map (·.1):=wM.subset (List.mem_map.2 ⟨e,he,rfl⟩);obtain⟨e',Y0,zT⟩:=List.mem_map.1 this;rw[←zT];exact hm.keys.1 e' Y0
  ·intro n hG;obtain⟨e,he,rfl⟩:=bP n hG;rw[hghn];exact hm.vl _ (XY e he)
  ·intro n hG;obtain⟨e,he,rfl⟩:=bP n hG;exact Hz Xp e he
  ·intro n m hGn hGm heq;obtain⟨e,he,rfl⟩:=bP n hGn;obtain⟨e',Y0,rfl⟩:=bP m hGm;have:=Ki (f:=fun e:WV=>C4.gh S.next e.2.2) (by rw[←IG hR3];exact ri) e he e' Y0 heq;rw[this]
 have aG:=fun k=>KG S k (.map es clock);have hold:∀b o,S.heap.get b=some o→w2.heap[(C.pl b).Cn]?=w.heap[(C.pl b).Cn]?:=fun b o hb=>
  t.frame _ (hS.lt hb) fun b0 o0 h0 vp _=>XG b0 o0 h0 vp
 refine⟨C4,⟨e4,⟨?_,?_,?_,t.st.iK,?_,?_,t.st.there,?_,t.st.Xu⟩,rfl,fun _ h=>h,Nat.le_succ _,t.size,?_,?_,?_,?_,?_,t.Yz⟩,?_⟩
 ·intro b o hb;rw[aG]at hb;split at hb
  ·next e=>subst e;cases hb;exact⟨.inr rfl,_,by rw[X3];exact hm.at_,wS⟩
  ·next hY=>
   obtain⟨hd,y,hy,hr⟩:=hS.live b o hb;refine⟨.inl hd,y,?_,hr.mono e4 hd (fun n hn=>hn.elim id fun h=>absurd h.1 hY)⟩;rw[e4.pl b hd,hold b o hb];exact hy
 ·intro b b' o o' hb YN he;rw[aG]at hb YN;split at hb
  ·next h1=>
   split at YN
   ·next h2=>rw[h1,h2]
   ·next h2=>
    exfalso;subst h1;rw[X3,e4.pl b' (hS.live b' o' YN).1]at he;have:=hS.lt YN;simp only at he;omega
  ·next h1=>
   split at YN
   ·next h2=>
    exfalso;subst h2;rw[X3,e4.pl b (hS.live b o hb).1]at he;have:=hS.lt hb;simp only at he;omega
   ·next h2=>
    rw[e4.pl b (hS.live b o hb).1,e4.pl b' (hS.live b' o' YN).1]at he;exact hS.inj b b' o o' hb YN he
 ·rintro b (hd|rfl)
  ·exact Nat.lt_succ_of_lt (hS.fresh b hd)
  ·exact Nat.lt_succ_self _
 ·intro b o hb;rw[aG]at hb;split at hb
  ·next e=>subst e;rw[X3];exact t.st.apart b2 _ gI
  ·next hY=>
   obtain⟨hd,y,hy,_⟩:=hS.live b o hb;rw[e4.pl b hd];show C2.M (C.pl b).Cn=none;cases mU:C2.M (C.pl b).Cn with
   |none=>rfl
   |some ms=>
    exfalso;rcases t.aV _ _ mU with h1|h1|⟨b0,o1,h2,h3,h4⟩
    ·rw[hS.apart b o hb]at h1;cases h1
    ·have:=BM hy;omega
    ·exact XG b0 o1 h2 h3
 ·rintro b n (hg|⟨rfl,_⟩)
  ·exact .inl (hS.stamps b n hg)
  ·exact .inr U
 ·rintro b (hd|rfl)
  ·rw[e4.pl b hd];exact t.ext.X _ (hS.Ww b hd)
  ·rw[X3];exact t.st.Ww b2 jq
 ·intro Cn hb _;exact t.frame Cn hb fun b o ho vp=>absurd vp (XG b o ho)
 ·intro b hd vp;exact⟨by rw[aG,if_neg (Xl b hd)],fun n hn=>hn.elim id fun h=>absurd h.1 (Xl b hd)⟩
 ·rintro b (hd|rfl)
  ·exact .inl hd
  ·exact .inr (Qj _)
 ·intro b o hb;rw[aG]at hb;split at hb
  ·next e=>subst e;exact .inr (.inl (by rw[X3];exact hk))
  ·next hY=>exact .inl ⟨(hS.live b o hb).1,o,hb⟩
 ·intro Cn ms mU;rcases t.aV Cn ms mU with h1|h1|⟨b0,o0,h0,h2,h3⟩
  ·exact .inl h1
  ·exact .inr (.inl h1)
  ·exact absurd h2 (XG b0 o0 h0)
 ·have:=VR.map (C:=C4) (b:=S.next) (.inr rfl);rw[X3]at this;exact this
section
variable {E : Env} {P : Program}
theorem IX {ev:Ev} {f:FuncId} {fn:Func} {S:St}:∀ {l:List Z2} {os:List (AV×St)},ff E ev f fn S l=some os→∀r∈l,∃q∈os,outcome S.whole (YY E ev f fn S.whole r)=some q
 | [],_,_,r,hr=>by cases hr
 |a::l,os,h,r,hr=>by
  simp only[ff]at h;obtain⟨o,ho,h⟩:=Qa.1 h;obtain⟨os',hos,h⟩:=Qa.1 h;cases h;rcases Qk.1 hr with rfl|hr
  ·exact⟨o,Qh ..,ho⟩
  ·obtain⟨q,hq,h⟩:=IX hos r hr;exact⟨q,Qg _ hq,h⟩
theorem HW (ev:Ev):ib E P ev:=by
 intro f fn S r0 l cr h C w hS r hr m c cs YQ;unfold kN at h;obtain⟨o,ho,h⟩:=Qa.1 h;obtain⟨os,hos,h⟩:=Qa.1 h;have hq:∃q∈o::os,outcome S.whole (YY E ev f fn S.whole r)=some q:=by
  rcases Qk.1 hr with rfl|hr
  ·exact⟨o,Qh ..,ho⟩
  ·obtain⟨q,hq,h⟩:=IX hos r hr;exact⟨q,Qg _ hq,h⟩
 obtain⟨q,hq,bA⟩:=hq;have n8:∃C2 x w2,Steps P m (lone (c.finish x) cs w2)∧Cv C S.whole w C2 q.2 w2∧VR C2 q.1 x:=by
  cases he:YY E ev f fn S.whole r with
  |none=>rw[he]at bA;cases bA
  |some cr'=>
   have hx:=YQ cr' he;rw[he]at bA;cases cr' with
   |same v=>cases bA;exact hx
   |val v s=>cases bA;exact hx
   |WD v s=>cases bA
 obtain⟨C2,x,w2,Xp,t,hv⟩:=n8;have hsplit:hE S o os (YZ (o::os) [])=some cr∨dp S o os=some cr:=by
  unfold zz at h;split at h
  ·next c hc=>exact .inl (hc.trans h)
  ·exact .inr h
 rcases hsplit with h|h
 case inr=>
  unfold dp at h;obtain⟨p,hp,h⟩:=Qa.1 h;cases hl:(aS S.next p.1 p.2 (o::os)&&Xo p.2 p.1)with
  |false=>rw[hl]at h;cases h
  |true=>
  rw[hl]at h;cases h;rw[Qf]at hl;obtain⟨gu,hf,hpe,qT⟩:=G6 hl.1 q hq;obtain⟨b2,h1,h2,h3,h4⟩:=MA hf;obtain⟨es1,hf1,_,hu1⟩:=G6 hl.1 o (Qh ..);obtain⟨es,clock⟩:=p;rw[hp]at hf1;cases hf1;rw[h1]at hv;obtain⟨C4,t4,hv4⟩:=ss hS t h2 h3 h4 hpe qT hu1 hl.2 hv;exact⟨C4,x,w2,Xp,t4,hv4⟩
 unfold hE at h;cases hl:dm S.next S o (YZ (o::os) []) (o::os)with
 |false=>rw[hl]at h;cases h
 |true=>
 rw[hl]at h;cases h;obtain⟨gT,ZZ⟩:=Kf hl q hq;have hat':=L6 ZZ;obtain⟨C3,t3,h1,h2⟩:=RD (s1:=o.2) hS t (L:=YZ (o::os) []) ((L5 (o::os) []).1 q hq) (fun b hb=>(hat' b hb).1) (fun b hb=>(hat' b hb).2);refine⟨C3,x,w2,Xp,t3,?_⟩;rcases gT with⟨h3,h4⟩|⟨h3,h4⟩
 ·exact h1 h3 h4 (by rw[HK h3];exact hv)
 ·exact h2 h4 (by rw[IF h3];exact hv)
end
open Go Go.RowKit
structure Wd where
 f:Nat
 args:List AV
 v:AV
def gj:List Wd→FuncId→List AV→Option AV
 | [],_,_=>none
 |e::l,f,args=>bif Nat.beq e.f f then(bif cI e.args args then some e.v else gj l f args)else gj l f args
def S0:St:= {next:=0,bound:=0,log:=[],heap:= .nil}
theorem oH (C:Cx) {S:St} {w:World} (h:Wn C S w):Wn C.bare S0 w:=
 ⟨fun b o hb=>(by rw[show S0.heap= .nil from rfl,Bs]at hb;cases hb),fun b b' o o' hb=>(by rw[show S0.heap= .nil from rfl,Bs]at hb;cases hb),fun b hb=>hb.elim,h.iK,
  fun b o hb=>(by rw[show S0.heap= .nil from rfl,Bs]at hb;cases hb),fun b n hb=>hb.elim,h.there,fun b hb=>hb.elim,h.Xu⟩
theorem Jq {C C1:Cx} {S:St} {w w':World} (hS:Wn C S w) (t:Cv C.bare S0 w C1 S0 w'):Cv C S w (C.Yi C1) S w':=by
 have XG:∀b o,¬S0.heap.get b=some o:=fun b o hb=>by rw[show S0.heap= .nil from rfl,Bs]at hb;cases hb
 have qA:∀Cn,Cn<w.heap.size→w'.heap[Cn]?=w.heap[Cn]?:=fun Cn hb=>t.frame Cn hb fun b o hb=>absurd hb (XG b o);have hM:∀Cn ms,C1.M Cn=some ms→C.M Cn=some ms∨w.heap.size≤Cn:=by
  intro Cn ms hm;rcases t.aV Cn ms hm with h1|h1|⟨b0,o0,h0,_⟩
  ·exact .inl h1
  ·exact .inr h1
  ·exact absurd h0 (XG b0 o0)
 have e:Ext C (C.Yi C1):=⟨fun _ h=>h,fun _ _=>rfl,t.ext.M,fun _ _ h=>h,fun _ _ _=>rfl,t.ext.X⟩
 refine⟨e,⟨?_,hS.inj,hS.fresh,t.st.iK,?_,hS.stamps,t.st.there,fun b hd=>t.ext.X _ (hS.Ww b hd),t.st.Xu⟩,rfl,fun _ h=>h,Qj _,t.size,fun Cn hb _=>qA Cn hb,fun _ _ _=>⟨rfl,fun _ h=>h⟩,fun _ h=> .inl h,
  fun b o hb=> .inl ⟨(hS.live b o hb).1,o,hb⟩,fun Cn ms hm=>(hM Cn ms hm).imp id .inl,t.Yz⟩
 ·intro b o hb;obtain⟨hd,x,hx,hr⟩:=hS.live b o hb;exact⟨hd,x,by rw[←hx];exact qA _ (BM hx),hr.mono e hd fun _ h=>h⟩
 ·intro b o hb;cases hm:(C.Yi C1).M (C.pl b).Cn with
  |none=>exact hm
  |some ms=>
   exfalso;rcases hM _ ms hm with h1|h1
   ·rw[hS.apart b o hb]at h1;cases h1
   ·have:=hS.lt hb;omega
section
variable {E : Env} {P : Program}
def MOk (E:Env) (P:Program) (e:Wd):Prop:=
 ∀(C:Cx) (S:St) (w:World) (xs:Array Value) (c:Frame) (cs:List Frame),Wg E C→VS C e.args xs.toList→Wn C S w→Returns P (lone (Frame.enter P e.f xs .normal) (c::cs) w) c cs C S w (.same e.v)
theorem Uq {l:List Wd} (h:∀e∈l,MOk E P e):∀(f:FuncId) (args:List AV) (v:AV),gj l f args=some v→∀(C:Cx) (S:St) (w:World) (xs:Array Value) (c:Frame) (cs:List Frame),Wg E C→VS C args xs.toList→Wn C S w→
 Returns P (lone (Frame.enter P f xs .normal) (c::cs) w) c cs C S w (.same v):=by
 induction l with
 |nil=>intro f args v h;cases h
 |cons e l ih=>
  intro f args v hm;simp only[gj]at hm;cases hf:Nat.beq e.f f with
  |false=>rw[hf]at hm;exact ih (fun x hx=>h x (Qg _ hx)) f args v hm
  |true=>
   rw[hf]at hm;have:=Qb hf;subst this;simp only[cond_true]at hm;cases ha:cI e.args args with
   |false=>rw[ha]at hm;exact ih (fun x hx=>h x (Qg _ hx)) _ args v hm
   |true=>
    rw[ha]at hm;cases hm;rw[←Ha ha];exact h e (Qh ..)
noncomputable def X1 (E:Env) (n:Nat) (e:Wd):Bool:=
 match We E (ev E n) e.f e.args S0 with
 |some (.same v)=>Za v e.v&&Cr 40 v&&e.args.all (Cr 40)
 |_=>false
theorem ent_ok (he:CN E P) (hx:Y6 E P) (hm:bB E P) (jX:∀g cs,E.kn g=some cs→cs.all (Cr 40)=true) {n:Nat} {e:Wd} (h:X1 E n e=true):MOk E P e:=by
 intro C S w xs c cs hg hv hS;unfold X1 at h;split at h
 ·next v hc=>
  simp only[Qf]at h;have VJ:=MR he hx (Kw he hx) hm (fun _ ev _=>HW ev) n;have hgb:Wg E C.bare:=by
   intro g XS mF;obtain⟨ms,h1,h2,h3⟩:=hg g XS mF;exact⟨ms,h1,B1 40 h2 (jX g XS mF),h3⟩
  have:=VJ e.f e.args (.same v) C.bare S0 w xs c cs hc hgb (B1 40 hv h.2) (oH C hS);obtain⟨C1,x,w',hs,t,Yq⟩:=this;rw[←IF h.1.1];have eb:Ext C1.bare (C.Yi C1):=⟨fun _ x=>x.elim,fun _ x=>x.elim,fun _ _ h=>h,fun _ _ x=>x.elim,fun _ _ x=>x.elim,fun _ h=>h⟩
  exact⟨_,x,w',hs,Jq hS t,(Ek 40 Yq h.1.2).mono eb⟩
 ·cases h
theorem LN (he:CN E P) {ev:Ev} (dP:iR E P ev) {f:FuncId} {fn:Func} (hp:P.funcs[f]?=some fn) {S:St} {r:Z2} {v:AV} (h:YY E ev f fn S r=some (.same v)) {C C1:Cx} {w w1:World} (hg:Wg E C)
 (hS:Wn C S w) (t:Cv C S.enter w C1 r.st w1) {b:Frame} {a1:Act} (hT:TR C1 r.fr.nt r.T a1.tmps) {cs:List Frame} (hF:jU C1 r.fr b a1 cs) (hk:b.kind= .normal) (hr:b.roundOf=none) (hf:b.fn=f)
 {m:Machine} (Zb:Ends P b [] cs C1 m r.ex a1 w1):∃C2 x w2 fr,Steps P m (lone fr cs w2)∧fr.fn=f∧fr.leaving P w2 (.returned x)∧Cv C S w C2 S w2∧VR C2 v x:=by
 unfold YY at h;obtain⟨mo,fC,h⟩:=Qa.1 h;obtain⟨p,ek,h⟩:=Qa.1 h;obtain⟨m',S'⟩:=p;obtain⟨todo,mode,Xm,gR⟩:=leaves hr Zb fC;have eE:=hg.mono t.ext;obtain⟨C2,w2,mode2,jw,t2,Zj⟩:=HE he dP ek eE hF.defs t.st gR b a1.tmps todo cs;have Xp:=Xm.trans jw;have t3:=t.trans t2;unfold endWith at h;cases Zj with
 |ret=>
  simp only at h;obtain⟨vs,Wk,h⟩:=Qa.1 h;have wG:TR C2 a1.tmps.size r.T a1.tmps:=⟨rfl,(hT.mono t2.ext).2⟩
  obtain⟨x,hx,Yq⟩:=JE he wG t3.st Wk;obtain⟨C3,t4,hv4⟩:=QM h hS t3 Yq;exact⟨C3,x,w2,_,Xp,hf,⟨rfl,rfl,hk,fn,by show P.funcs[b.fn]?=_;rw[hf];exact hp,hx⟩,t4,hv4⟩
 |WD hv=>cases h
theorem KD (he:CN E P) (hx:Y6 E P) (hm:bB E P) {n:Nat} {f:FuncId} {args:List AV} {v:AV} (wO:E.Cs f args=none) {S:St} (h:We E (ev E n) f args S=some (.same v))
 {C:Cx} {w:World} {xs:Array Value} (hg:Wg E C) (ha:VS C args xs.toList) (hS:Wn C S w):Calls P f xs w fun e w'=>∃C2 x,e= .returned x∧Cv C S w C2 S w'∧VR C2 v x:=by
 intro cs;have dP:=oE he hx (Kw he hx) hm (fun _ ev _=>HW ev) n;unfold We at h;rw[wO]at h;simp only at h;obtain⟨fn,kZ,h⟩:=Qa.1 h;obtain⟨cd,hc,h⟩:=Qa.1 h;have hp:=he.fn f fn kZ;have ZS:Frame.enter P f xs .normal=CZ (Frame.enter P f xs .normal) ⟨xs++Array.replicate (fn.ntmps-xs.size) undef,[]⟩ [.code cd]:=by
  simp[Frame.enter,CZ,hp,hc]
 have jk:(Frame.enter P f xs .normal).kind= .normal:=rfl;have fw:(Frame.enter P f xs .normal).roundOf=none:=rfl;have rS:(Frame.enter P f xs .normal).fn=f:=rfl;generalize Frame.enter P f xs .normal=bd at ZS jk fw rS;have YH:=dP cd C S.enter w (frame fn.ntmps args none) (XV 0 args .nil) bd ⟨xs++Array.replicate (fn.ntmps-xs.size) undef,[]⟩ [] cs hg (PS ha fn.ntmps)
  ⟨.nil,.none (by simp[jT,tryRecover,jk]),.none fw⟩ hS.enter
 rw[←ZS]at YH;generalize bA:(ev E n) cd (frame fn.ntmps args none) (XV 0 args .nil) S.enter=out at h YH;unfold kP at h;split at h
 ·next r=>
  obtain⟨r',b9,C1,a1,w1,cs1,t,hT,hF,hn,dO,VX,Zb⟩:=YH [r] rfl;simp only[Qp]at b9;subst b9;have:=VX.none rfl;subst this;obtain⟨C2,x,w2,frr,h1,h2,h3,h4,h5⟩:=LN he dP hp h hg hS t hT hF jk fw rS Zb;exact⟨.returned x,w2,frr,⟨C2,x,rfl,h4,h5⟩,h1,h2,h3⟩
 ·next r l=>
  obtain⟨r',b9,C1,a1,w1,cs1,t,hT,hF,hn,dO,VX,Zb⟩:=YH (r::l) rfl;have:=VX.none rfl;subst this;have lf:Wn C S.whole w:=hS.fk _ _;have ht':Cv C S.whole.enter w C1 r'.st w1:=t;cases gR:many1 E (ev E n) f fn S r l with
  |some c1=>
   rw[gR]at h;cases h;obtain⟨v,e,Ym⟩:=QJ gR;cases e;obtain⟨C2,x,w2,frr,h1,h2,h3,h4,h5⟩:=LN he dP hp (Ym r' b9) hg lf ht' hT hF jk fw rS Zb;exact⟨.returned x,w2,frr,⟨C2,x,rfl,Ln hS h4,h5⟩,h1,h2,h3⟩
  |none=>
  rw[gR]at h;unfold kO at h;cases lO:E.merge with
  |false=>rw[lO]at h;cases h
  |true=>
  rw[lO]at h;simp only[cond_true]at h;unfold kN at h;obtain⟨o,_,h⟩:=Qa.1 h;obtain⟨os,_,h⟩:=Qa.1 h;unfold zz at h;split at h
  ·next c hc=>
   unfold hE at hc;cases hl:dm S.next S o (YZ (o::os) []) (o::os)with
   |false=>rw[hl]at hc;cases hc
   |true=>rw[hl]at hc;cases hc;cases h
  ·unfold dp at h;obtain⟨p,_,h⟩:=Qa.1 h;cases hl:(aS S.next p.1 p.2 (o::os)&&Xo p.2 p.1)with
   |false=>rw[hl]at h;cases h
   |true=>rw[hl]at h;cases h
 ·cases h
theorem RC (he:CN E P) (hx:Y6 E P) (hm:bB E P) (jX:∀g,E.kn g=none) {n:Nat} {f:FuncId} (wO:E.Cs f []=none) (h:We E (ev E n) f [] S0=some (.same (.bool true))) (w:World):
 Calls P f #[] w fun e w'=>e= .returned (.bool true)∧Below w.heap.size w w':=by
 let C:Cx:=⟨fun _=>⟨0,0,0⟩,fun _=>none,fun _=>False,fun _ _=>0,fun _ _=>False,fun _=>False⟩
 have XG:∀b o,¬S0.heap.get b=some o:=fun b o hb=>by rw[show S0.heap= .nil from rfl,Bs]at hb;cases hb
 have hS:Wn C S0 w:=⟨fun b o hb=>absurd hb (XG b o),fun b _ o _ hb=>absurd hb (XG b o),fun b hb=>hb.elim,fun Cn ms hm=>(by cases hm),fun b o hb=>absurd hb (XG b o),fun b n hb=>hb.elim,fun _ hb=>hb.elim,fun _ hb=>hb.elim,fun Cn ms hm=>(by cases hm)⟩
 have hc:=KD he hx hm wO h (C:=C) (w:=w) (xs:= #[]) (fun g cs hg=>by rw[jX g]at hg;cases hg) .nil hS;intro cs;obtain⟨e,w',fr,⟨C2,x,Y0,t,hv⟩,h2,h3,h4⟩:=hc cs;refine⟨e,w',fr,⟨?_,⟨t.Yz.2.1,t.Yz.1,t.Yz.2.2,t.size,fun k hk=>t.frame k hk fun b o hb=>absurd hb (XG b o)⟩⟩,h2,h3,h4⟩;cases hv;exact Y0
end
noncomputable def mG (P:Program) (nt nf mask:Nat) (m:List Wd):Env:=
 {tys:=ie nt P.types.toList,fns:=ie nf P.funcs.toList,nX:=fun f=>bif Nat.testBit mask f then 0 else 1,Cs:=gj m,kn:=fun _=>none,merge:=true,ext:=true,plain:=fun t=> !P.stoodInHeld t}
structure X8 (P:Program) (nt nf:Nat):Prop where
 types:P.types.size≤nt
 funcs:P.funcs.size≤nf
 names:P.funcs.toList.all (fun fn=> !(fn.name== "runtime.NumGoroutine"))=true
 outer:P.funcs.toList.all fA=true
theorem Jr {P:Program} {nt nf:Nat} (h:X8 P nt nf) (mask:Nat) (m:List Wd):CN (mG P nt nf mask m) P:=by
 refine⟨fun t i hi=>?_,fun f fn hf=>?_,fun t ht=>(by simpa[mG]using ht),fun f fn hf=>?_⟩
 ·have:P.types.toList[t]?=some i:=by rw[←EL nt P.types.toList t (by simpa using h.types)];exact hi
  have C6:t<P.types.size:=by
   rcases Nat.lt_or_ge t P.types.size with h|h
   ·exact h
   ·rw[List.getElem?_eq_none (by simpa using h)]at this;cases this
  unfold Tables.info?;rw[if_pos C6];simpa using this
 ·have:P.funcs.toList[f]?=some fn:=by rw[←EL nf P.funcs.toList f (by simpa using h.funcs)];exact hf
  simpa using this
 ·have:P.funcs.toList[f]?=some fn:=by rw[←EL nf P.funcs.toList f (by simpa using h.funcs)];exact hf
  have:=(List.all_eq_true.1 h.names) fn (List.mem_of_getElem? this);simpa using this
inductive su (P:Program) (nt nf mask:Nat):List Wd→Prop where
 |nil:su P nt nf mask []
 |cons {e:Wd} {m l:List Wd} {n:Nat} (hl:su P nt nf mask l) (hs:∀x∈m,x∈l) (h:X1 (mG P nt nf mask m) n e=true):su P nt nf mask (e::l)
noncomputable def insT (t:Tr (List Wd)) (e:Wd):Tr (List Wd):=t.set e.f (some (e::(t.get e.f).getD []))
noncomputable def ep:List Wd→Tr (List Wd)
 | []=> .nil
 |e::l=>insT (ep l) e
def sw (f:FuncId) (args:List AV):Option (List Wd)→Option AV
 |some l=>gj l f args
 |none=>none
noncomputable def sx (t:Tr (List Wd)) (f:FuncId) (args:List AV):Option AV:=sw f args (t.get f)
theorem I0:∀ {m:List Wd} {f:Nat} {l:List Wd},(ep m).get f=some l→∀e∈l,e∈m
 | [],f,l,h=>by rw[ep,Bs]at h;cases h
 |a::m,f,l,h=>by
  simp only[ep,insT]at h;rw[AF]at h;split at h
  ·next e=>
   cases h;intro x hx;rcases Qk.1 hx with rfl|hx
   ·exact Qh ..
   ·cases hg:(ep m).get a.f with
    |none=>rw[hg]at hx;cases hx
    |some l'=>
     rw[hg]at hx;exact Qg _ (I0 hg x hx)
  ·intro x hx;exact Qg _ (I0 h x hx)
noncomputable def Y3 (P:Program) (nt nf mask:Nat) (m:List Wd):Env:= {mG P nt nf mask []with Cs:=sx (ep m)}
theorem PD {P:Program} {nt nf:Nat} (h:X8 P nt nf) (mask:Nat) (m:List Wd):CN (Y3 P nt nf mask m) P:=by
 have:=Jr h mask [];exact⟨this.ty,this.fn,this.flat,this.lone⟩
theorem Ra {P:Program} {nt nf:Nat} (h:X8 P nt nf) (mask:Nat) (m:List Wd):Y6 (Y3 P nt nf mask m) P:=
 QY (PD h mask m) fun f fn hf=>by
  have:P.funcs.toList[f]?=some fn:=by rw[←EL nf P.funcs.toList f (by simpa using h.funcs)];exact hf
  exact(List.all_eq_true.1 h.outer) fn (List.mem_of_getElem? this)
theorem QG {E:Env} {P:Program} {m:List Wd} (h:∀e∈m,MOk E P e) (f:FuncId) (args:List AV) (v:AV) (hm:sx (ep m) f args=some v) (C:Cx) (S:St) (w:World) (xs:Array Value) (c:Frame) (cs:List Frame)
 (hg:Wg E C) (hv:VS C args xs.toList) (hS:Wn C S w):Returns P (lone (Frame.enter P f xs .normal) (c::cs) w) c cs C S w (.same v):=by
 unfold sx sw at hm;split at hm
 ·next l hl=>exact Uq (fun e he=>h e (I0 hl e he)) f args v hm C S w xs c cs hg hv hS
 ·cases hm
def Xc (P:Program) (nt nf mask:Nat) (e:Wd):Prop:=∀m,MOk (Y3 P nt nf mask m) P e
theorem Dl {P:Program} {nt nf mask:Nat} (hp:X8 P nt nf) {m:List Wd} (hm:∀e∈m,Xc P nt nf mask e) {n:Nat} {e:Wd} (h:X1 (Y3 P nt nf mask m) n e=true):Xc P nt nf mask e:=by
 intro m';have:=ent_ok (PD hp mask m) (Ra hp mask m) (QG fun y hy=>hm y hy m) (fun g cs hg=>by cases hg) h;intro C S w xs c cs hg hv hS;exact this C S w xs c cs (fun g cs hg=>by cases hg) hv hS
noncomputable def mH (E:Env) (n:Nat) (f:FuncId):Bool:=
 wU (E.Cs f [])&&match We E (ev E n) f [] S0 with
 |some (.same (.bool b))=>b
 |_=>false
where wU:Option AV→Bool
 |none=>true
 |some _=>false
theorem yV {P:Program} {nt nf mask:Nat} (hp:X8 P nt nf) {m:List Wd} (hm:∀e∈m,Xc P nt nf mask e) {n:Nat} {f:FuncId} (h:mH (Y3 P nt nf mask m) n f=true) (w:World):
 Calls P f #[] w fun e w'=>e= .returned (.bool true)∧Go.RowKit.Below w.heap.size w w':=by
 unfold mH at h;rw[Qf]at h;have wO:(Y3 P nt nf mask m).Cs f []=none:=by
  cases hq:(Y3 P nt nf mask m).Cs f []with
  |none=>rfl
  |some v=>rw[hq]at h;cases h.1
 have h2:=h.2;split at h2
 ·next b hc=>
  subst h2;exact RC (PD hp mask m) (Ra hp mask m) (QG fun y hy=>hm y hy m) (fun _=>rfl) wO hc w
 ·cases h2
end Am
