/- The abstract machine: its operations are the model's, first part. -/
import Derived.Test.YtfhimfcbphepeaaGreatDoorAmA
import Derived.Laws.Tables
import Derived.IntWalk
import Derived.Laws.Strings
import Derived.ChangeKeysEq
import Derived.LaidEql
import Derived.Laws.IdiomStrings
set_option linter.unusedSectionVars false
set_option linter.unusedVariables false
set_option linter.unusedSimpArgs false
namespace Am
open Go
def YV (E:a_) (C:Cx):Prop:=∀g cs,E.i g=some cs->∃ms,C.M g=some ms/\Y0 C cs ms/\h_ cs
theorem YV.mono {E:a_} {C C':Cx} (h:YV E C) (e:n_ C C'):YV E C':=fun g cs hg=>
 let⟨ms,hm,hv,hc⟩:=h g cs hg;⟨ms,e.M _ _ hm,hv.mono e,hc⟩
inductive tH (C:Cx):kJ->Deferred->Prop where
 |fn {fn:Fn} {a b:List AV} {x y:Array Value} (hf:∀l,fn≠ .yield l) (ha:Y0 C a x.toList) (hb:Y0 C b y.toList):tH C ⟨.fn fn b,a⟩ ⟨.fn fn y,x⟩
 |J {r:Nat} (hd:C.D r):tH C ⟨.J r,[]⟩ ⟨.collected (C.a r).Cr, #[]⟩
inductive yv (C:Cx):AV->Next->Prop where
 |J {v:AV} {x:Value} (h:VR C v x):yv C v (.value x)
 |O:yv C (.O []) .skip
def b5 (E:a_) (P:Program) (o:Oper) (so:fN):Prop:=
 ∀(C:Cx) (T:Tr AV) (a:Act) (S:St) (w:World),YV E C->TR C a.tmps.size T a.tmps->YR C S w->
 match so with
 | .J=>True
 | .O f=>∀v,f T=some v->∃x,(execOp a.eval o).run P w= .ok (.value x) w/\VR C v x
 | .Z _ f=>∀v,f T S=some v->∃x,(execOp a.eval o).run P w= .ok (.value x) w/\VR C v x
 | .I' f=>∀v,f T S=some v->∃x,(execOp a.eval o).run P w= .ok (.value x) w/\VR C v x
 | .make f=>(∀v,f T=some (.O v)->∃C' x w',(execOp a.eval o).run P w= .ok (.value x) w'/\C6 C S w C' S w'/\VR C' v x)/\
  (∀ob g,f T=some (.J ob g)->∃C' x w',(execOp a.eval o).run P w= .ok (.value x) w'/\C6 C S w C' (S.A ob) w'/\VR C' (g S.a) x)
 | .I_ _ _ f=>∀v S',f T S=some (v,S')->∃C' nx w',(execOp a.eval o).run P w= .ok nx w'/\C6 C S w C' S' w'/\yv C' v nx
 | .J' f=>∀l,f T=some l->∃v∈l,∃x,(execOp a.eval o).run P w= .ok (.value x) w/\VR C v x
 | .qU f=>∀l,f T S=some l->∃p∈l,∃C' x w',(execOp a.eval o).run P w= .ok (.value x) w'/\C6 C S w C' p.2 w'/\VR C' p.1 x
 | .H_ f=>∀g args,f T S=some (g,args)->∃xs,(execOp a.eval o).run P w= .ok (.enter g xs) w/\Y0 C args xs.toList
 | .dN f ar=>∀g args,f T=some g->ar T=some args->∃gx xs,VR C g gx/\Y0 C args xs.toList/\
  execOp a.eval o=(do let d<-Deferred.ofValue gx xs;invoke d.target d.args)
 | .H' f=>∀d,f T=some d->∃dv,(execOp a.eval o).run P w= .ok (.defer dv) w/\tH C d dv
 | .J_ f=>∀v,f T=some v->∃x,(execOp a.eval o).run P w= .halt (.panic x) w/\VR C v x
 | .G'=>(execOp a.eval o).run P w= .ok .recover w
theorem An {E:a_} {C:Cx} {T:Tr AV} {a:Act} (hg:YV E C) (hT:TR C a.tmps.size T a.tmps) {x:Operand} {v:AV} (h:Ch E x T=some v):VR C v (a.eval x):=by
 cases x with
 |tmp t=>
  obtain⟨y,hy,hr⟩:=hT.2 t v h;simpa[Act.eval,Array.getD_eq_getD_getElem?,hy]using hr
 |const c=>
  simp only[Ch]at h;cases hc:qV c with
  |none=>rw[hc]at h;simp[xS,E_]at h
  |some u=>rw[hc]at h;simp only[xS,wA]at h;cases h;exact Nl hc
 |global g=>
  simp only[Ch]at h;cases hc:E.i g with
  |none=>rw[hc]at h;simp[E_]at h
  |some cs=>
   rw[hc]at h;simp only[wA]at h;cases h;obtain⟨ms,hm,hv,YO⟩:=hg g cs hc;have hw:bP ms 0 ms:= .whole ms;exact .Zu hm hw hv YO
 |func f=>
  simp only[Ch,wA]at h;cases h;exact .G' (fun l e=>by cases e) .O .O
theorem DI {E:a_} {C:Cx} {T:Tr AV} {a:Act} (hg:YV E C) (hT:TR C a.tmps.size T a.tmps):∀ {l:List Operand} {vs:List AV},CV E l T=some vs->Y0 C vs (l.map a.eval)
 | [],vs,h=>by cases h;exact .O
 |x::l,vs,h=>by
  simp only[CV]at h;obtain⟨v,hv,h⟩:=Qa.1 h;obtain⟨r,hr,h⟩:=Qa.1 h;cases h;exact .J (An hg hT hv) (DI hg hT hr)
theorem Nd {E:a_} {C:Cx} {T:Tr AV} {a:Act} (hg:YV E C) (hT:TR C a.tmps.size T a.tmps):∀ {l:List (Nat×Operand)} {ps:List (Nat×AV)},fg E l T=some ps->
 ps.map (·.1)=l.map (·.1)/\Y0 C (ps.map (·.2)) (l.map fun p=>a.eval p.2)
 | [],ps,h=>by cases h;exact⟨rfl,.O⟩
 |p::l,ps,h=>by
  simp only[fg]at h;obtain⟨v,hv,h⟩:=Qa.1 h;obtain⟨r,hr,h⟩:=Qa.1 h;cases h;obtain⟨h1,h2⟩:=Nd hg hT hr;exact⟨by simp[h1],.J (An hg hT hv) h2⟩
theorem Gv {C:Cx} {v:AV} {x:Value} {n:Nat} (h:VR C v x) (e:Ze v=some n):∃k,x= .int k n:=by
 cases h with
 |int k m=>
  cases m with
  |ofNat m=>simp only[Ze,Option.some.injEq]at e;subst e;exact⟨k,rfl⟩
  |negSucc m=>simp[Ze]at e
 |_=>simp[Ze]at e
section
variable {E : a_} {P : Program}
theorem Br {o:Oper} {x:Operand} {f:AV->Option AV} {G:Value->Sem Value} (ho:∀ρ,execOp ρ o=(do pure (.value (<-G (ρ x)))))
 (h:∀(C:Cx) (w:World) v y r,VR C v y->f v=some r->∃z,(G y).run P w= .ok z w/\VR C r z):b5 E P o (.O fun T=>(Ch E x T).bind f):=by
 intro C T a S w hg hT hS v hv;obtain⟨u,hu,hv⟩:=Qa.1 hv;obtain⟨z,hz,hr⟩:=h C w u _ v (An hg hT hu) hv;exact⟨z,by rw[ho];simp[hz],hr⟩
theorem Fb {o:Oper} {x y:Operand} {f:AV->AV->Option AV} {G:Value->Value->Sem Value} (ho:∀ρ,execOp ρ o=(do pure (.value (<-G (ρ x) (ρ y)))))
 (h:∀(C:Cx) (w:World) v u y z r,VR C v y->VR C u z->f v u=some r->∃q,(G y z).run P w= .ok q w/\VR C r q):b5 E P o (cu E f x y):=by
 intro C T a S w hg hT hS v hv;obtain⟨u,hu,hv⟩:=Qa.1 hv;obtain⟨u',ov,hv⟩:=Qa.1 hv;obtain⟨z,hz,hr⟩:=h C w u u' _ _ v (An hg hT hu) (An hg hT ov) hv;exact⟨z,by rw[ho];simp[hz],hr⟩
theorem Gc {o:Oper} {x y:Operand} {f:St->AV->Option AV} {G:Value->Sem Value} (ho:∀ρ,execOp ρ o=(do pure (.value (<-G (ρ x)))))
 (h:∀(C:Cx) (S:St) (w:World) v y r,YR C S w->VR C v y->f S v=some r->∃z,(G y).run P w= .ok z w/\VR C r z):
 b5 E P o (.Z (Ch E y) fun T s=>(Ch E x T).bind (f s)):=by
 intro C T a S w hg hT hS v hv;obtain⟨u,hu,hv⟩:=Qa.1 hv;obtain⟨z,hz,hr⟩:=h C S w u _ v hS (An hg hT hu) hv;exact⟨z,by rw[ho];simp[hz],hr⟩
theorem ok_pick {o:Oper} {c x y:Operand} (ho:o.op= .pick c x y):b5 E P o (.O fun T=>(Ch E c T).bind (pK (Ch E x) (Ch E y) T)):=by
 intro C T a S w hg hT hS v h;obtain⟨t,ht,h⟩:=Qa.1 h;have hc:=An hg hT ht;generalize he:a.eval c=z at hc;cases hc with
 |bool b=>
  cases b with
  |true=>exact⟨_,by simp[execOp,ho,asBool,he],An hg hT h⟩
  |false=>exact⟨_,by simp[execOp,ho,asBool,he],An hg hT h⟩
 |_=>simp[pK]at h
theorem Wi {o:Oper} {x:Operand} (ho:o.op= .move x\/o.op= .assign x):b5 E P o (.O (Ch E x)):=by
 intro C T a S w hg hT hS v h;refine⟨_,?_,An hg hT h⟩;rcases ho with ho|ho<;>simp[execOp,ho]
abbrev Cx.fresh (C:Cx) (S:St) (w:World) (n:Nat):Cx:=C.J S.a ⟨w.heap.size,0,n⟩
theorem FQ {C:Cx} {S:St} {w:World} (hS:YR C S w) (n:Nat):n_ C (C.fresh S w n):=n_.B (fun hd=>Nat.lt_irrefl _ (hS.fresh _ hd))
theorem DQ {C:Cx} {S:St} {w:World} (hS:YR C S w) {cs:List AV} {c:Array Value} {vs ex:List Value} (hv:Y0 C cs vs) (hc:c.toList=vs++ex) (YO:h_ cs)
 (t:TypeId) (part:Bool) (hp:part=false->ex=[]):C6 C S w (C.fresh S w c.size) (S.A (.J cs t part)) (World.A w (.cells c t (0,0))):=by
 refine C6.A hS _ _ c.size (.J (hv.mono (FQ hS _)) ?_ ?_ YO (.inr (Qj _)) ?_)
 .rw[Bc,hc];exact⟨[],ex,by simp,rfl⟩
 .rw[Bc]
 .intro h;rw[Bc];refine⟨U,?_,U⟩;have:=congrArg List.length hc;rw[hp h]at this;simpa[hv.u]using this.symm
theorem FP {C:Cx} {S:St} {w:World} {n:Nat} (off:Nat):VR (C.fresh S w n) (.Z S.a off) (.pointer (some ⟨w.heap.size,off,none⟩)):=by
 have:=VR.H_ (C:=C.fresh S w n) (off:=off) (Jp C S.a ⟨w.heap.size,0,n⟩);rw[Bc]at this;simpa using this
theorem DZ {C:Cx} {S:St} {w:World} {n len sz:Nat} {cap:Option Nat} {c:Nat} (h:match cap with|some k=>c=k/\0<k|none=>c*sz=n/\0<sz) (cM:len<=c):
 VR (C.fresh S w n) (.slice S.a 0 len sz cap) (.slice (some ⟨w.heap.size,0,none⟩) len c):=by
 have:=VR.slice (C:=C.fresh S w n) (b:=S.a) (off:=0) (len:=len) (sz:=sz) (cap:=cap) (c:=c) (Jp C S.a ⟨w.heap.size,0,n⟩) (by
  cases cap with
  |some k=>exact h
  |none=>simpa[tE,Bc]using h) cM
 rw[Bc]at this;simpa using this
variable (he : Ym E P)
include he
theorem yw {o:Oper} {t:TypeId} (ho:o.op= .alloc t):b5 E P o (lD E t):=by
 unfold lD;cases hz:i_ E t with
 |none=>intro C T a S w _ _ _;trivial
 |some z=>
  simp only;cases ht:z.A with
  |true=>intro C T a S w _ _ _;trivial
  |false=>
   intro C T a S w hg hT hS;refine⟨(nofun),fun ob g h=>?_⟩;cases h;obtain⟨x,hx,hr,_⟩:=Hv he hz w;refine⟨_,_,_,?_,DQ hS (hr C).u (c:=x.cells) (ex:=[]) (by simp) ((hr C).B ht) t false (fun _=>rfl),FP 0⟩;simp[execOp,ho,Instr.alloc,hx,newVar,newRow,World.A]
omit he in
theorem ok_box {o:Oper} {t:TypeId} {x:Operand} (ho:o.op= .box t x):
 b5 E P o (.make fun T=>(Ch E x T).bind fun v=>bif v.A then none else some (.J (.J v.u t false) fun b=> .Z b 0)):=by
 intro C T a S w hg hT hS;have key:∀m,((Ch E x T).bind fun v=>bif v.A then none else some (Mk.J (.J v.u t false) fun b=> .Z b 0))=some m->
  ∃v,Ch E x T=some v/\v.A=false/\m= .J (.J v.u t false) fun b=> .Z b 0:=by
  intro m h;obtain⟨v,hv,h⟩:=Qa.1 h;cases ht:v.A with
  |true=>rw[ht]at h;cases h
  |false=>rw[ht]at h;cases h;exact⟨v,hv,ht,rfl⟩
 refine⟨fun v h=>?_,fun ob g h=>?_⟩
 .obtain⟨_,_,_,h⟩:=key _ h;cases h
 .obtain⟨v,hv,ht,h⟩:=key _ h;cases h;have hr:=An hg hT hv;refine⟨_,_,_,?_,DQ hS hr.u (c:=(a.eval x).cells) (ex:=[]) (by simp) (hr.B ht) t false (fun _=>rfl),FP 0⟩;simp[execOp,ho,Instr.box,newVar,newRow,World.A]
end
theorem NV (off:Nat):∀(l:List Value) (k:Nat) (c:Array Value),(l.zipIdx k).foldl (fun cs (p:Value×Nat)=>cs.setIfInBounds (off+p.2) p.1) c=C_ c (off+k) l
 | [],_,_=>rfl
 |v::l,k,c=>by
  rw[List.zipIdx_cons,List.foldl_cons,NV off l (k+1)];rfl
theorem N4 {C:Cx} {place:Nat->Option (Nat×Nat)}:∀ {ps:List (Nat×AV)} {qs:List (Nat×Value)} {cells:List AV} {xs:Array Value} {r:List AV},
 ps.map (·.1)=qs.map (·.1)->Y0 C (ps.map (·.2)) (qs.map (·.2))->Y0 C cells xs.toList->h_ cells->eJ place ps cells=some r->
 ∃ys,Instr.fill place xs qs=some ys/\Y0 C r ys.toList/\h_ r/\ys.size=xs.size
 | [],qs,cells,xs,r,h1,_,h3,YO,h=>by
  have:qs=[]:=by cases qs with|nil=>rfl|cons _ _=>simp at h1
  subst this;cases h;exact⟨xs,U,h3,YO,U⟩
 |p::ps,qs,cells,xs,r,h1,h2,h3,YO,h=>by
  cases qs with
  |nil=>simp at h1
  |cons q qs=>
  obtain⟨qi,qv⟩:=q;obtain⟨i,v⟩:=p;simp only[List.map_cons,List.cons.injEq]at h1;obtain⟨rfl,h1⟩:=h1;simp only[List.map_cons]at h2;cases h2 with
  |J hv h2=>
  simp only[eJ]at h;obtain⟨q,hq,h⟩:=Qa.1 h;cases hb:(Nat.beq (ZA v.u) q.2&& !v.A)with
  |false=>rw[hb]at h;cases h
  |true=>
  rw[hb]at h;simp only[Qf,Bool.not_eq_true']at hb;obtain⟨cs,x9,h⟩:=Qa.1 h;have hlen:v.u.length=q.2:=by have:=Qb hb.1;simpa using this
  have af:qv.cells.size=q.2:=by have:=hv.u.u;simpa[hlen]using this
  obtain⟨pre,nE,post,rfl,hp,hm,rfl⟩:=JL x9;obtain⟨y,z3,he,a1,a4⟩:=AK h3;obtain⟨y1,z2,rfl,a2,a3⟩:=AK a1;have eE:(C_ xs q.1 qv.cells.toList).toList=y1++qv.cells.toList++z3:=
   Gs _ xs _ y1 z2 z3 he (by rw[a2.u,hp]) (by rw[a3.u,hm,hv.u.u])
  have hle:q.1+qv.cells.size<=xs.size:=by
   have:=congrArg List.length he;simp only[Qm,Array.length_toList]at this;have e1:=a2.u;have e2:=a3.u;have e3:=hv.u.u;simp only[Array.length_toList]at e3;omega
  obtain⟨ys,rY,hr,xB,hs⟩:=N4 (place:=place) (ps:=ps) (qs:=qs) (xs:=C_ xs q.1 qv.cells.toList) h1 h2 (by rw[eE];exact(a2.A hv.u).A a4)
   ((YO.sub.1.sub.1.append (hv.B hb.2)).append YO.sub.2) h
  refine⟨ys,?_,hr,xB,hs.trans (DP _ _ _)⟩;have hz:qv.cells.zipIdx.foldl (fun cs (p:Value×Nat)=>cs.setIfInBounds (q.1+p.2) p.1) xs=C_ xs q.1 qv.cells.toList:=by
   rw[<-Array.foldl_toList,Array.toList_zipIdx];exact NV q.1 _ 0 xs
  have hc:(decide (qv.cells.size≠q.2)||decide (q.1+qv.cells.size>xs.size))=false:=by
   simp[af];omega
  obtain⟨q1,q2⟩:=q;simp only at hc hz rY;simp only[Instr.fill,hq];rw[hc];simp only[Bool.false_eq_true,if_false];rw[<-rY,<-hz]
section
variable {E : a_} {P : Program} (he : Ym E P)
include he
theorem OD:∀ {l:List Field} {ps:List (Nat×Nat)},fP E l=some ps->l.mapM (fun f=>(P.info? f.type).map fun i=>(f.offset,i.size))=some ps
 | [],ps,h=>by cases h;rfl
 |f::l,ps,h=>by
  simp only[fP]at h;obtain⟨n,hn,h⟩:=Qa.1 h;obtain⟨r,hr,h⟩:=Qa.1 h;cases h;have ih:=OD hr;unfold Am.an at hn;cases hi:E.b.u f.type with
  |none=>rw[hi]at hn;cases hn
  |some i=>
   rw[hi]at hn;simp[List.mapM_cons,ih,he.d _ i hi,Option.some.inj hn]
theorem yx {o:Oper} {t:TypeId} {parts:Array (Nat×Operand)} (ho:o.op= .build t parts):b5 E P o (pE E t parts.toList):=by
 unfold pE;cases ZV:eZ E t with
 |none=>intro C T a S w _ _ _;trivial
 |some pl=>
  intro C T a S w hg hT hS v h;obtain⟨ps,nG,h⟩:=Qa.1 h;obtain⟨h1,h2⟩:=Nd hg hT nG;cases hf:eJ pl.2 ps pl.1 with
  |none=>rw[hf]at h;cases h
  |some r=>
  rw[hf]at h;cases h;unfold eZ at ZV;obtain⟨z,hz,ZV⟩:=Qa.1 ZV;obtain⟨x,hx,hr,hiz⟩:=Hv he hz w;have yy:h_ z.u:=(hr C).B (D7 hz);cases hu:CS E t with
  |none=>rw[hu]at ZV;cases ZV
  |some d=>
  rw[hu]at ZV;have kN:ps.map (·.1)=(parts.toList.map fun p=>(p.1,a.eval p.2)).map (·.1):=by simpa[List.map_map,Function.comp_def]using h1
  have np:Y0 C (ps.map (·.2)) ((parts.toList.map fun p=>(p.1,a.eval p.2)).map (·.2)):=by simpa[List.map_map,Function.comp_def]using h2
  split at ZV
  .next fields heq=>
   cases heq;obtain⟨pls,hpls,ZV⟩:=Qa.1 ZV;cases ZV;have hfun:(pa pls:Nat->Option (Nat×Nat))=fun i=>pls[i]?:=by funext i;simp[EN]
   simp only at hf;rw[hfun]at hf;obtain⟨ys,rY,oS,xB,_⟩:=N4 kN np (hr C).u yy hf;refine⟨.agg ys,?_,.agg oS xB⟩;have hpp:=run_places (P:=P) w _ _ (OD he hpls);simp[execOp,ho,Instr.build,hx,Ah he hu,Array.mapM_eq_mapM_toList,hpp,rY]
  .next n elem heq=>
   cases heq;obtain⟨sz,af,ZV⟩:=Qa.1 ZV;cases ZV;simp only at hf;obtain⟨ys,rY,oS,xB,_⟩:=N4 kN np (hr C).u yy hf;refine⟨.agg ys,?_,.agg oS xB⟩;simp[execOp,ho,Instr.build,hx,Ah he hu,A5 he af,rY]
  .cases ZV
omit he in
theorem Y0.N {C:Cx} {l:List AV} {x:List Value} (h:Y0 C l x) {i:Nat} {v:AV} (e:Am.pa l i=some v):∃y,x[i]?=some y/\VR C v y:=
 h.M (by rw[<-EN];exact e)
omit he in
theorem Y0.I {C:Cx} {l q:List AV} {x:List Value} (h:Y0 C l x) {off n:Nat} (e:Am.y_ l off n=some q):
 ∃y,Y0 C q y/\y=(x.drop off).take n/\q.length=n/\(h_ l->h_ q)/\off+n<=x.length/\bP x off y:=by
 obtain⟨pre,post,rfl,hp,hn⟩:=GH e;obtain⟨y,z3,rfl,a1,a3⟩:=AK h;obtain⟨y1,y2,rfl,a2,a4⟩:=AK a1;have e1:=a2.u;have e2:=a4.u;refine⟨y2,a4,?_,hn,fun hc=>hc.sub.1.sub.2,?_,⟨y1,z3,rfl,by omega⟩⟩
 .rw[<-hp,<-e1];simp[<-hn,<-e2]
 .simp;omega
theorem FH {t:TypeId} {n:Nat} (h1:j_ E t=some true) (h2:Am.an E t=some n) {C:Cx} {cs:List AV} {xs:Array Value} (hv:Y0 C cs xs.toList) (hc:h_ cs)
 {off:Nat} {q:List AV} (e:Am.y_ cs off n=some q) (w:World):∃z,(part t xs off).run P w= .ok z w/\VR C (.agg q) z:=by
 obtain⟨y,hy,rfl,hq,hcq,hle,_⟩:=hv.I e;refine⟨.agg (xs.extract off (off+n)),by simp[part,MU he h1,A5 he h2],.agg ?_ (hcq hc)⟩;simpa[List.extract_eq_take_drop]using hy
theorem Ez {t:TypeId} (h1:j_ E t=some false) {C:Cx} {cs:List AV} {xs:Array Value} (hv:Y0 C cs xs.toList)
 {off:Nat} {v:AV} (e:Am.pa cs off=some v) (w:World):∃z,(part t xs off).run P w= .ok z w/\VR C v z:=by
 obtain⟨y,hy,hr⟩:=hv.N e;have xA:xs[off]?=some y:=by simpa using hy
 exact⟨y,by simp[part,MU he h1,xA],hr⟩
omit he in
theorem FT {t:TypeId} {i off n:Nat} {b:Bool} (h:de E t i=some (off,n,b)):
 ∃fs f,CS E t=some (.struct fs)/\fs[i]?=some f/\f.offset=off/\Am.an E f.type=some n/\j_ E f.type=some b:=by
 unfold de at h;split at h
 .next fs hu=>
  obtain⟨f,hf,h⟩:=Qa.1 h;obtain⟨n',hn,h⟩:=Qa.1 h;obtain⟨a,ha,h⟩:=Qa.1 h;cases h;exact⟨fs,f,hu,by rw[EN]at hf;simpa using hf,U,hn,ha⟩
 .cases h
theorem yz {o:Oper} {t:TypeId} {x:Operand} {i:Nat} (ho:o.op= .field t x i):b5 E P o (pF E t x i):=by
 unfold pF;split
 .next off n hf=>
  obtain⟨fs,f,hu,hfi,rfl,hn,ha⟩:=FT hf;refine Br (G:=fun v=>Instr.field t v i) (fun ρ=>by simp[execOp,ho]) ?_;intro C w v y r hv hr;cases hv with
  |agg Zh YO=>
   simp only[gN]at hr;obtain⟨l,hl,hr⟩:=Qa.1 hr;cases ht:o_ n l with
   |none=>rw[ht]at hr;cases hr
   |some q=>
    rw[ht]at hr;cases hr;obtain⟨z,hz,pk⟩:=FH (P:=P) he ha hn Zh YO (q:=q) (off:=f.offset) (by rw[y_,hl];exact ht) w;exact⟨z,by simp[Instr.field,Ah he hu,hfi,asAgg,hz],pk⟩
  |_=>simp[gN]at hr
 .next off n hf=>
  obtain⟨fs,f,hu,hfi,rfl,hn,ha⟩:=FT hf;refine Br (G:=fun v=>Instr.field t v i) (fun ρ=>by simp[execOp,ho]) ?_;intro C w v y r hv hr;cases hv with
  |agg Zh YO=>
   obtain⟨z,hz,pk⟩:=Ez (P:=P) he ha Zh hr w;exact⟨z,by simp[Instr.field,Ah he hu,hfi,asAgg,hz],pk⟩
  |_=>simp[fb]at hr
 .intro C T a S w _ _ _;trivial
omit he in
theorem Fa {C:Cx} {v r:AV} {x:Value} {n:Nat} (h:VR C v x) (e:aA n v=some r):∃a,x= .pointer (some a)/\VR C r (.pointer (some (a.add n))):=by
 cases h with
 |H_ hd=>
  simp only[aA,Option.some.injEq]at e;subst e;exact⟨_,U,by rw[Bh,Nat.add_assoc];exact .H_ hd⟩
 |Zu hm ha hv YO=>
  simp only[aA]at e;obtain⟨l,hl,e⟩:=Qa.1 e;cases e;obtain⟨pre,rfl,hp⟩:=BQ hl;obtain⟨y,z,rfl,h1,h2⟩:=AK hv;refine⟨_,U,?_⟩;rw[Bh,<-hp,<-h1.u];exact .Zu hm ha.right h2 YO.sub.2
 |_=>simp[aA]at e
theorem OO {o:Oper} {t:TypeId} {x:Operand} {i:Nat} (ho:o.op= .fieldAddr t x i):b5 E P o (cK E t x i):=by
 unfold cK;split
 .next off n b hf=>
  obtain⟨fs,f,hu,hfi,rfl,hn,ha⟩:=FT hf;refine Br (G:=fun v=>Instr.fieldAt t v i) (fun ρ=>by simp[execOp,ho]) ?_;intro C w v y r hv hr;obtain⟨a,rfl,hra⟩:=Fa hv hr;exact⟨_,by simp[Instr.fieldAt,Ah he hu,hfi,Instr.sureAddr,fieldPlace,A5 he hn],hra⟩
 .intro C T a S w _ _ _;trivial
end
section
variable {E : a_} {P : Program} (he : Ym E P)
theorem Ao {o:Oper}:b5 E P o .J:=fun _ _ _ _ _ _ _ _=>trivial
theorem FL {C:Cx} {v:AV} {x:Value} {n:Nat} (h:VR C v x) (e:Ze v=some n):∃k,x= .int k (n:Int):=Gv h e
theorem Rm {C:Cx} {v r:AV} {x:Value} {sz k:Nat} (h:VR C v x) (e:Yr sz k v=some r):
 ∃a len c,x= .slice (some a) len c/\k<len/\VR C r (.pointer (some (a.add (k*sz)))):=by
 cases h with
 |slice hd hc cM=>
  rename_i b off len db cap c
  simp only[Yr]at e;cases hk:Nat.blt k len with
  |false=>rw[hk]at e;cases e
  |true=>
   rw[hk]at e;cases e;exact⟨_,_,_,U,by simpa[Nat.blt_eq]using hk,by rw[Bh,Nat.add_assoc];exact .H_ hd⟩
 |ZX hxx hd hc=>
  simp only[Yr]at e;have:Nat.blt k 0=false:=by cases k<;>rfl
  rw[this]at e;cases e
 |Zk a h cM=>
  rename_i db cl len c
  simp only[Yr]at e;cases hk:Nat.blt k len with
  |false=>rw[hk]at e;cases e
  |true=>
   rw[hk]at e;obtain⟨l,hl,e⟩:=Qa.1 e;obtain⟨pre,hp,_⟩:=BQ hl;have:l=[]:=by
    have:=congrArg List.length hp;simp at this;exact List.eq_nil_of_length_eq_zero (by omega)
   subst this;simp[vn]at e
 |Ck hl hm ha hv bu YO cM=>
  rename_i Cr off len db c cl cs ms vs
  simp only[Yr]at e;cases hk:Nat.blt k len with
  |false=>rw[hk]at e;cases e
  |true=>
   rw[hk]at e;obtain⟨l,ck,e1⟩:=Qa.1 e;obtain⟨pre,rfl,hp⟩:=BQ ck;obtain⟨y,z,rfl,h1,h2⟩:=AK hv;have:r= .Zu l:=by
    unfold vn at e1;split at e1
    .cases e1
    .cases e1;rfl
   subst this;refine⟨_,_,_,U,by simpa[Nat.blt_eq]using hk,?_⟩;rw[Bh,<-hp,<-h1.u];exact .Zu hm ha.right h2 YO.sub.2
 |_=>simp[Yr]at e
include he
theorem ON {o:Oper} {t:TypeId} {x i:Operand} (ho:o.op= .indexAddr t x i):b5 E P o (ZP E t x i):=by
 unfold ZP;split
 .next n elem hu=>
  split
  .next sz af=>
   intro C T a S w hg hT hS v h;obtain⟨iv,hiv,h⟩:=Qa.1 h;obtain⟨k,hk,h⟩:=Qa.1 h;cases hb:Nat.blt k n with
   |false=>rw[hb]at h;cases h
   |true=>
   rw[hb]at h;obtain⟨u,ov,h⟩:=Qa.1 h;obtain⟨ki,y8⟩:=FL (An hg hT hiv) hk;obtain⟨ad,te,hr⟩:=Fa (An hg hT ov) h;have C8:k<n:=by simpa[Nat.blt_eq]using hb
   refine⟨_,?_,hr⟩;simp[execOp,ho,Instr.indexAt,y8,asIntOf,Ah he hu,te,Instr.sureAddr,A5 he af,C8]
  .exact Ao
 .next elem hu=>
  split
  .next sz af=>
   intro C T a S w hg hT hS v h;obtain⟨iv,hiv,h⟩:=Qa.1 h;obtain⟨k,hk,h⟩:=Qa.1 h;obtain⟨u,ov,h⟩:=Qa.1 h;obtain⟨ki,y8⟩:=FL (An hg hT hiv) hk;obtain⟨ad,len,c,te,C8,hr⟩:=Rm (An hg hT ov) h;refine⟨_,?_,hr⟩;simp[execOp,ho,Instr.indexAt,y8,asIntOf,Ah he hu,te,A5 he af,C8]
  .exact Ao
 .exact Ao
theorem y9 {o:Oper} {t:TypeId} {x i:Operand} (ho:o.op= .index t x i):b5 E P o (pG E t x i):=by
 unfold pG;split
 .next n elem hu=>
  split
  .next sz ha af=>
   intro C T a S w hg hT hS v h;obtain⟨iv,hiv,h⟩:=Qa.1 h;obtain⟨k,hk,h⟩:=Qa.1 h;cases hb:Nat.blt k n with
   |false=>rw[hb]at h;cases h
   |true=>
   rw[hb]at h;obtain⟨u,ov,h⟩:=Qa.1 h;obtain⟨ki,y8⟩:=FL (An hg hT hiv) hk;have hv:=An hg hT ov;have C8:k<n:=by simpa[Nat.blt_eq]using hb
   generalize hx:a.eval x=xv at hv;cases hv with
   |agg Zh YO=>
    simp only[rJ]at h;obtain⟨l,hl,h⟩:=Qa.1 h;cases ht:o_ sz l with
    |none=>rw[ht]at h;cases h
    |some q=>
     rw[ht]at h;cases h;obtain⟨z,hz,pk⟩:=FH (P:=P) he ha af Zh YO (q:=q) (off:=k*sz) (by rw[y_,hl];exact ht) w;exact⟨z,by simp[execOp,ho,Instr.index,y8,asIntOf,Ah he hu,hx,A5 he af,C8,hz],pk⟩
   |_=>simp[rJ]at h
  .next sz ha af=>
   intro C T a S w hg hT hS v h;obtain⟨iv,hiv,h⟩:=Qa.1 h;obtain⟨k,hk,h⟩:=Qa.1 h;cases hb:Nat.blt k n with
   |false=>rw[hb]at h;cases h
   |true=>
   rw[hb]at h;obtain⟨u,ov,h⟩:=Qa.1 h;obtain⟨ki,y8⟩:=FL (An hg hT hiv) hk;have hv:=An hg hT ov;have C8:k<n:=by simpa[Nat.blt_eq]using hb
   generalize hx:a.eval x=xv at hv;cases hv with
   |agg Zh YO=>
    simp only[rK]at h;obtain⟨z,hz,pk⟩:=Ez (P:=P) he ha Zh h w;exact⟨z,by simp[execOp,ho,Instr.index,y8,asIntOf,Ah he hu,hx,A5 he af,C8,hz],pk⟩
   |_=>simp[rK]at h
  .exact Ao
 .next hu=>
  intro C T a S w hg hT hS v h;obtain⟨iv,hiv,h⟩:=Qa.1 h;obtain⟨k,hk,h⟩:=Qa.1 h;obtain⟨u,ov,h⟩:=Qa.1 h;obtain⟨ki,y8⟩:=FL (An hg hT hiv) hk;have hv:=An hg hT ov;generalize hx:a.eval x=xv at hv;cases hv with
  |O hs=>
   rename_i l s
   simp only[mi]at h;obtain⟨b,hb,h⟩:=Qa.1 h;cases h;have dG:s[k]?=some b:=by
    rw[EN,<-hs]at hb;have:s.data[k]?=some b:=by simpa using hb
    exact this
   refine⟨.int .u8 b.toNat,?_,.int _ _⟩;simp[execOp,ho,Instr.index,y8,asIntOf,Ah he hu,hx,dG]
  |_=>simp[mi]at h
 .exact Ao
theorem ok_load {o:Oper} {t:TypeId} {x:Operand} (ho:o.op= .load t x):b5 E P o (.Z (Ch E x) fun T s=>(Ch E x T).bind (Zd E t s)):=by
 refine Gc (G:=fun v=>Instr.loadAt t v) (fun ρ=>by simp[execOp,ho]) ?_;intro C S w v y r hS hv hr;obtain⟨a,z,rfl,hz,pk⟩:=H7 (P:=P) he hS hv hr;exact⟨z,by simp[Instr.loadAt,Instr.sureAddr,hz],pk⟩
theorem yA {o:Oper} {t:TypeId} {x y:Operand} (ho:o.op= .store t x y):b5 E P o (l9 E t x y):=by
 unfold l9;split
 .next n hn=>
  intro C T a S w hg hT hS v S' h;obtain⟨p,hp,h⟩:=Qa.1 h;obtain⟨u,hu,h⟩:=Qa.1 h;unfold ja at h;split at h
  .next S1 hs=>
   cases h;obtain⟨ad,w',te,hw,ht⟩:=V1 (P:=P) he hS hn (An hg hT hu) (An hg hT hp) hs;exact⟨C,.skip,w',by simp[execOp,ho,Instr.storeAt,te,Instr.sureAddr,hw],ht,.O⟩
  .cases h
 .exact Ao
omit he in
theorem Up {o:Oper} {x:Operand} {i:Nat} (ho:o.op= .extract x i):b5 E P o (.O fun T=>(Ch E x T).bind (gY i)):=by
 refine Br (G:=fun v=>Instr.extract v i) (fun ρ=>by simp[execOp,ho]) ?_;intro C w v y r hv hr;cases hv with
 |J Zh=>
  simp only[gY]at hr;obtain⟨z,hz,pk⟩:=Zh.N hr;have hz':=hz;simp only[Array.getElem?_toList]at hz';exact⟨z,by simp[Instr.extract,hz'],pk⟩
 |_=>simp[gY]at hr
theorem OM {o:Oper} {t:TypeId} {x:Operand} (ho:o.op= .makeInterface t x):b5 E P o (fu E t x):=by
 unfold fu;split
 .next hi=>
  refine Br (f:=fun v=>some (.H' t v)) (G:=fun v=>Instr.makeInterface t v) (fun ρ=>by simp[execOp,ho]) ?_;intro C w v y r hv hr;cases hr;refine⟨.iface t y,?_,.Z hv⟩;unfold aW at hi;split at hi
  .cases hi
  .next d hd hu=>
   simp only[Instr.makeInterface,Sem.run_bind,Ah he hu,Result.andThen_ok];cases d<;>first|rfl|exact absurd rfl (hd _)
  .cases hi
 .exact Ao
omit he in
theorem U3 {fn:Fn} (h:kk fn=false):∀l,fn≠ .yield l:=by
 intro l e;subst e;cases h
omit he in
theorem Re {o:Oper} {fn:Fn} {x y:Array Operand} (ho:o.op= .makeFunc fn x y):b5 E P o (n3 E fn x.toList y.toList):=by
 unfold n3;cases hf:kk fn with
 |true=>exact Ao
 |false=>
 intro C T a S w hg hT hS v h;obtain⟨p,hp,h⟩:=Qa.1 h;obtain⟨q,hq,h⟩:=Qa.1 h;cases h;exact⟨.func fn (x.map a.eval) (y.map a.eval),by simp[execOp,ho,Instr.makeFunc],.G' (U3 hf) (by simpa using DI hg hT hp) (by simpa using DI hg hT hq)⟩
theorem Un {o:Oper} {t:TypeId} {r:Option Operand} (ho:o.op= .makeMap t r):b5 E P o (j5 E t r):=by
 have key:∀ {C:Cx} {S:St} {w:World},YR C S w->C6 C S w (C.fresh S w 0) (S.A (.O [] 0)) (World.A w (.map #[] 0))/\VR (C.fresh S w 0) (.H_ S.a) (.map (some w.heap.size)):=by
  intro C S w hS;have no:∀n,¬C.G S.a n:=fun n hn=>absurd (hS.fresh _ (hS.d _ _ hn)) (Nat.lt_irrefl _);refine⟨C6.A hS _ _ 0 (.Z (l:=[]) (by simp) .O ⟨by simp,by simp⟩ (by simp) (fun n hn=>absurd hn (no n)) (fun n hn=>absurd hn (no n)) (fun n _ hn=>absurd hn (no n))),?_⟩
  .have:=VR.I_ (C:=C.fresh S w 0) (Jp C S.a ⟨w.heap.size,0,0⟩);rw[Bc]at this;exact this
 unfold j5;split
 .next k e hu=>
  intro C T a S w hg hT hS;refine⟨(nofun),fun ob g h=>?_⟩;cases h;exact⟨_,_,_,by simp[execOp,ho,Instr.makeMap,World.A],(key hS).1,(key hS).2⟩
 .next k e x hu=>
  intro C T a S w hg hT hS;have hh:∀m,((Ch E x T).bind fun v=>(Ze v).bind fun _=>some (Mk.J (.O [] 0) .H_))=some m->∃kd n,a.eval x= .int kd n/\m= .J (.O [] 0) .H_:=by
   intro m h;obtain⟨p,hp,h⟩:=Qa.1 h;obtain⟨n,hn,h⟩:=Qa.1 h;cases h;obtain⟨kd,hkd⟩:=Gv (An hg hT hp) hn;exact⟨kd,_,hkd,U⟩
  refine⟨fun v h=>?_,fun ob g h=>?_⟩
  .obtain⟨_,_,_,h⟩:=hh _ h;cases h
  .obtain⟨kd,n,hx,h⟩:=hh _ h;cases h;exact⟨_,_,_,by simp[execOp,ho,Instr.makeMap,Ah he hu,hx,asInt,asIntOf,World.A],(key hS).1,(key hS).2⟩
 .exact Ao
omit he in
theorem yB {o:Oper} {x:Operand} (ho:o.op= .panic x):b5 E P o (.J_ fun T=>(Ch E x T).bind rQ):=by
 intro C T a S w hg hT hS v h;obtain⟨p,hp,h⟩:=Qa.1 h;have hv:=An hg hT hp;generalize hx:a.eval x=xv at hv;cases hv with
 |Z hv=>cases h;exact⟨_,by simp[execOp,ho,hx,Instr.panic],.Z hv⟩
 |_=>simp[rQ]at h
end
section
variable {E : a_} {P : Program}
theorem Y0.G {C:Cx} {z:List AV} {x:List Value} (h:Y0 C z x):∀n,Y0 C (bp z n) ((List.replicate n x).flatten)
 |0=> .O
 |n+1=>by
  rw[List.replicate_succ,List.flatten_cons];exact h.A (Y0.G h n)
theorem h_.repeat {z:List AV} (h:h_ z):∀n,h_ (bp z n)
 |0=>fun _ h=>by cases h
 |n+1=>h.append (h_.repeat h n)
theorem JD (z:Array Value) (n:Nat):((Array.range (n*z.size)).map fun i=>z[i % z.size]!).toList=(List.replicate n z.toList).flatten:=by
 apply List.ext_getElem?;intro i;rcases Nat.eq_zero_or_pos z.size with h0|h0
 .have:z= #[]:=by simpa using h0
  subst this;simp
 .have hl:((List.replicate n z.toList).flatten).length=n*z.size:=by simp
  rcases Nat.lt_or_ge i (n*z.size)with hi|hi
  .have hm:i % z.size<z.size:=Nat.mod_lt _ h0;have key:∀(n i:Nat),i<n*z.size->((List.replicate n z.toList).flatten)[i]?=z.toList[i % z.size]?:=by
    intro n;induction n with
    |zero=>intro i hi;simp at hi
    |succ n ih=>
     intro i hi;rw[List.replicate_succ,List.flatten_cons];rcases Nat.lt_or_ge i z.size with h|h
     .rw[List.getElem?_append_left (by simpa using h),Nat.mod_eq_of_lt h]
     .rw[List.getElem?_append_right (by simpa using h),Array.length_toList,ih _ (by rw[Nat.succ_mul]at hi;omega),<-Nat.mod_eq_sub_mod h]
   rw[key n i hi];simp[hi,hm]
  .rw[List.getElem?_eq_none (l:=(List.replicate n z.toList).flatten) (by rw[hl];exact hi),List.getElem?_eq_none (by simpa using hi)]
theorem FC {n:Nat} (h:n<=1099511627776):IntKind.i64.wrap (n:Int)=n:=Go.IntWalk.i64_in _ (by omega)
theorem Dx {n b:Nat} (h:m_ n b=true):n*b<=1099511627776/\n<=1099511627776/\0<b/\b<=1048576:=by
 simp only[m_,Qf,Bool.not_eq_true']at h;obtain⟨⟨⟨h1,h2⟩,h3⟩,h4⟩:=h;refine⟨Qc h1,Qc h2,?_,Qc h4⟩;rcases Nat.eq_zero_or_pos b with h|h
 .subst h;simp at h3
 .exact h
variable (he : Ym E P)
include he
theorem OL {o:Oper} {t:TypeId} {l c:Operand} (ho:o.op= .makeSlice t l c):b5 E P o (l5 E t l c):=by
 unfold l5;split
 .next e hu=>
  split
  .next sz CZ z af kO hz=>
   cases hb:Nat.beq (ZA z.u) sz with
   |false=>exact Ao
   |true=>
   have yC:z.u.length=sz:=by have:=Qb hb;simpa using this
   intro C T a S w hg hT hS;obtain⟨x,hx,hr,_⟩:=Hv he hz w;obtain⟨i,hi,hib⟩:=O2 he kO w;have iw:x.cells.size=sz:=by have:=(hr C).u.u;simpa[yC]using this
   have main:∀m,((Ch E l T).bind fun a=>(Ch E c T).bind fun b=>(Ze a).bind fun n=>(Ze b).bind fun m=>fq e sz CZ z.u n m)=some m->
    ∃(n k:Nat) (ki kj:IntKind),a.eval l= .int ki (n:Int)/\a.eval c= .int kj (k:Int)/\fq e sz CZ z.u n k=some m:=by
    intro m h;obtain⟨p,hp,h⟩:=Qa.1 h;obtain⟨q,hq,h⟩:=Qa.1 h;obtain⟨n,hn,h⟩:=Qa.1 h;obtain⟨k,hk,h⟩:=Qa.1 h;obtain⟨ki,y8⟩:=Gv (An hg hT hp) hn;obtain⟨kj,hkj⟩:=Gv (An hg hT hq) hk;exact⟨n,k,ki,kj,y8,hkj,h⟩
   have hzx:i_ E e=some z:=hz;have conds:∀(n k:Nat) m,fq e sz CZ z.u n k=some m->n<=k/\(k=0\/(k*CZ<=1099511627776/\k<=1099511627776))/\
    ((k=0/\m= .O .Ca)\/(k≠0/\m= .J (.J (bp z.u k) e false) fun b=> .slice b 0 n sz (some k))):=by
    intro n k m h;unfold fq at h;cases h1:(Nat.ble n k&&(Nat.beq k 0||m_ k CZ))with
    |false=>rw[h1]at h;cases h
    |true=>
     rw[h1]at h;simp only[Qf,Bool.or_eq_true]at h1;refine⟨Qc h1.1,?_,?_⟩
     .rcases h1.2 with h2|h2
      .exact .inl (Qb h2)
      .exact .inr ⟨(Dx h2).1,(Dx h2).2.1⟩
     .cases h2:Nat.beq k 0 with
      |true=>rw[h2]at h;cases h;exact .inl ⟨Qb h2,rfl⟩
      |false=>
       rw[h2]at h;cases h;exact .inr ⟨fun e=>by subst e;simp at h2,rfl⟩
   have runs:∀(n k:Nat) (ki kj:IntKind),n<=k->(k=0\/(k*CZ<=1099511627776/\k<=1099511627776))->a.eval l= .int ki (n:Int)->a.eval c= .int kj (k:Int)->
    (execOp a.eval o).run P w= .ok (.value (.slice (some ⟨w.heap.size,0,none⟩) n k)) (World.A w (.cells ((Array.range (k*x.cells.size)).map fun i=>x.cells[i % x.cells.size]!) e (0,0))):=by
    intro n k ki kj h1 h2 h3 h4;have hk:k*CZ<=1099511627776/\k<=1099511627776:=by
     rcases h2 with h2|h2
     .subst h2;simp
     .exact h2
    have w1:IntKind.i64.wrap (n:Int)=n:=FC (by omega);have w2:IntKind.i64.wrap (k:Int)=k:=FC (by omega);have yD:¬(281474976710656<(i.bytes:Int)*(k:Int)):=by
     rw[hib];have:(CZ:Int)*(k:Int)=((k*CZ:Nat):Int):=by push_cast;exact Int.mul_comm _ _
     rw[this];omega
    have hgt:¬(k<n):=by omega
    have r0:Array.range 0= #[]:=rfl;have mG:∀m:Nat,¬((m:Int)<0):=fun m=>by omega
    by_cases h0:k*sz=0
    .simp[execOp,ho,Instr.makeSlice,Ah he hu,h3,h4,asInt,asIntOf,hi,w1,w2,yD,mG,hgt,A5 he af,h0,iw,r0,newRow,World.A]
    .simp[execOp,ho,Instr.makeSlice,Ah he hu,h3,h4,asInt,asIntOf,hi,w1,w2,yD,mG,hgt,A5 he af,h0,iw,hx,newRow,World.A]
   refine⟨fun v h=>?_,fun ob g h=>?_⟩
   .obtain⟨n,k,ki,kj,h1,h2,h3⟩:=main _ h;obtain⟨c1,c2,c3⟩:=conds n k _ h3;rcases c3 with⟨rfl,c3⟩|⟨_,c3⟩
    .cases c3;obtain rfl:n=0:=by omega
     exact⟨_,_,_,runs 0 0 ki kj c1 c2 h1 h2,KS hS _,.Ca _ (.some (.inr U))⟩
    .cases c3
   .obtain⟨n,k,ki,kj,h1,h2,h3⟩:=main _ h;obtain⟨c1,c2,c3⟩:=conds n k _ h3;rcases c3 with⟨rfl,c3⟩|⟨hk0,c3⟩
    .cases c3
    .cases c3;have hzc:=(hr C).B (D7 hz);refine⟨_,_,_,runs n k ki kj c1 c2 h1 h2,DQ hS ((hr C).u.G k) (ex:=[]) ?_ (hzc.repeat k) e false (fun _=>rfl),DZ (cap:=some k) ⟨rfl,Nat.pos_of_ne_zero hk0⟩ c1⟩;rw[JD];simp
  .exact Ao
 .exact Ao
end
section
variable {E : a_} {P : Program} (he : Ym E P)
include he
theorem Nj {o:Oper} {t:TypeId} {len:Nat} {parts:Array (Nat×Operand)} (ho:o.op= .buildSlice t len parts):b5 E P o (b8 E t len parts.toList):=by
 unfold b8;split
 .next e hu=>
  split
  .next sz z af hz=>
   cases hb:(Nat.beq (ZA z.u) sz&&Nat.ble (len*sz) 16777216&& !(Nat.beq sz 0))with
   |false=>exact Ao
   |true=>
   simp only[Qf,Bool.not_eq_true']at hb;obtain⟨⟨oU,jA⟩,xC⟩:=hb;have yC:z.u.length=sz:=by have:=Qb oU;simpa using this
   have hle:len*sz<=16777216:=Qc jA;have uK:sz≠0:=fun e=>by subst e;simp at xC
   intro C T a S w hg hT hS;obtain⟨x,hx,hr,_⟩:=Hv he hz w;have iw:x.cells.size=sz:=by have:=(hr C).u.u;simpa[yC]using this
   have hzc:=(hr C).B (D7 hz);have main:∀m,((fg E parts.toList T).bind fun ps=>ei e sz len (eJ (fun i=>some (i*sz,sz)) ps (bp z.u len)))=some m->
    ∃r ys,Y0 C r ys.toList/\h_ r/\ys.size=len*sz/\(execOp a.eval o).run P w= .ok (.value (.slice (some ⟨w.heap.size,0,none⟩) len len)) (World.A w (.cells ys e (0,0)))/\
     ((len=0/\m= .O .Ca)\/(len≠0/\m= .J (.J r e false) fun b=> .slice b 0 len sz (some len))):=by
    intro m h;obtain⟨ps,nG,h⟩:=Qa.1 h;obtain⟨h1,h2⟩:=Nd hg hT nG;have kN:ps.map (·.1)=(parts.toList.map fun p=>(p.1,a.eval p.2)).map (·.1):=by simpa[List.map_map,Function.comp_def]using h1
    have np:Y0 C (ps.map (·.2)) ((parts.toList.map fun p=>(p.1,a.eval p.2)).map (·.2)):=by simpa[List.map_map,Function.comp_def]using h2
    cases hf:eJ (fun i=>some (i*sz,sz)) ps (bp z.u len)with
    |none=>rw[hf]at h;cases h
    |some r=>
    rw[hf]at h;simp only[ei]at h;have hrm:=JD x.cells len;obtain⟨ys,rY,oS,xB,yE⟩:=N4 (xs:=(Array.range (len*x.cells.size)).map fun i=>x.cells[i % x.cells.size]!) kN np (by rw[hrm];exact(hr C).u.G len) (hzc.repeat len) hf;refine⟨r,ys,oS,xB,by simpa[iw]using yE,?_,?_⟩
    .have hgt:¬(16777216<len*sz):=by omega
     by_cases h0:len*sz=0
     .have je:len=0:=by rcases Nat.mul_eq_zero.1 h0 with h|h;exact h;exact absurd h uK
      subst je;have r0:Array.range 0= #[]:=rfl;simp[r0]at rY;simp[execOp,ho,Instr.buildSlice,Ah he hu,A5 he af,r0,rY,newRow,World.A]
     .rw[iw]at rY;have je:len≠0:=fun e=>h0 (by simp[e]);simp[execOp,ho,Instr.buildSlice,Ah he hu,A5 he af,hgt,h0,je,uK,hx,iw,rY,newRow,World.A]
    .cases hl:Nat.beq len 0 with
     |true=>rw[hl]at h;cases h;exact .inl ⟨Qb hl,rfl⟩
     |false=>rw[hl]at h;cases h;exact .inr ⟨fun e=>by subst e;simp at hl,rfl⟩
   refine⟨fun v h=>?_,fun ob g h=>?_⟩
   .obtain⟨r,ys,h1,h2,h3,h4,h5⟩:=main _ h;rcases h5 with⟨rfl,h5⟩|⟨_,h5⟩
    .cases h5;exact⟨_,_,_,h4,KS hS _,.Ca _ (.some (.inr rfl))⟩
    .cases h5
   .obtain⟨r,ys,h1,h2,h3,h4,h5⟩:=main _ h;rcases h5 with⟨rfl,h5⟩|⟨je,h5⟩
    .cases h5
    .cases h5;exact⟨_,_,_,h4,DQ hS h1 (ex:=[]) (by simp) h2 e false (fun _=>rfl),DZ (cap:=some len) ⟨rfl,Nat.pos_of_ne_zero je⟩ (Qj _)⟩
  .exact Ao
 .exact Ao
omit he in
theorem ok_unOp {o:Oper} {op:UnOp} {t:TypeId} {x:Operand} (ho:o.op= .unOp op t x):b5 E P o (.O fun T=>(Ch E x T).bind (xW op)):=by
 refine Br (G:=fun v=>Op.unary op v) (fun ρ=>by simp[execOp,ho]) ?_;intro C w v y r hv hr;cases hv with
 |int k n=>
  cases op with
  |neg=>cases hr;exact⟨_,rfl,.int _ _⟩
  |xor=>cases hr;exact⟨_,rfl,.int _ _⟩
  |_=>simp[xW]at hr
 |bool b=>
  cases op with
  |not=>cases hr;exact⟨_,rfl,.bool _⟩
  |_=>simp[xW]at hr
 |_=>cases op<;>simp[xW]at hr
omit he in
theorem WU {C:Cx} {ok:Bool} {v r:AV} {x:Value} (hv:VR C v x) (h:uD ok v=some r):VR C r (if ok then .tuple #[x,.bool true]else x):=by
 unfold uD at h;cases ok with
 |true=>cases h;exact .J (.J hv (.J (.bool _) .O))
 |false=>cases h;exact hv
theorem P9 {C:Cx} {ok:Bool} {t:TypeId} {z r:AV} (hz:i_ E t=some z) (h:rP ok z=some r) (w:World):
 ok=true/\∃x,(zeroValue t).run P w= .ok x w/\VR C r (.tuple #[x,.bool false]):=by
 unfold rP at h;cases ok with
 |true=>
  cases h;obtain⟨x,hx,hr,_⟩:=Hv he hz w;exact⟨U,x,hx,.J (.J (hr C) (.J (.bool _) .O))⟩
 |false=>cases h
theorem Wt {o:Oper} {x:Operand} {xt t:TypeId} {ok:Bool} (ho:o.op= .typeAssert x xt t ok):b5 E P o (mu E x t ok):=by
 unfold mu;split
 .exact Ao
 .next d z cW hu hz=>
  refine Br (G:=fun v=>Instr.typeAssert v xt t ok) (fun ρ=>by simp[execOp,ho]) ?_;intro C w v y r hv hr;have hd:∀ms,z=z->d≠ .interface ms:=fun ms _ e=>cW ms (by rw[e]);cases hv with
  |Z hv'=>
   rename_i u v' y'
   simp only[ke]at hr;cases hut:Nat.beq u t with
   |true=>
    rw[hut]at hr;have:u=t:=Qb hut;subst this;refine⟨_,?_,WU hv' hr⟩;simp only[Instr.typeAssert,Sem.run_bind,Ah he hu,Result.andThen_ok];cases d<;>first|exact absurd rfl (hd _ rfl)|simp
   |false=>
    rw[hut]at hr;have ZT:u≠t:=fun e=>by subst e;simp at hut
    obtain⟨rfl,zx,hzx,pk⟩:=P9 (P:=P) (C:=C) he hz hr w;refine⟨_,?_,pk⟩;simp only[Instr.typeAssert,Sem.run_bind,Ah he hu,Result.andThen_ok];cases d<;>first|exact absurd rfl (hd _ rfl)|simp[ZT,hzx]
  |Yk=>
   obtain⟨rfl,zx,hzx,pk⟩:=P9 (P:=P) (C:=C) he hz hr w;refine⟨_,?_,pk⟩;simp only[Instr.typeAssert,Sem.run_bind,Ah he hu,Result.andThen_ok];cases d<;>first|exact absurd rfl (hd _ rfl)|simp[hzx]
  |_=>simp[ke]at hr
 .exact Ao
end
theorem AY:∀ {l m:List UInt8},CK l m=decide (l=m)
 | [],[]=>rfl
 | [],_::_=>by simp[CK]
 |_::_,[]=>by simp[CK]
 |a::l,b::m=>by
  unfold CK;cases h:Nat.beq a.toNat b.toNat with
  |true=>
   have:a=b:=UInt8.toNat_inj.1 (Qb h);subst this;simp[AY]
  |false=>
   have:a≠b:=fun e=>by subst e;simp at h
   simp[this]
theorem M0:∀ {l m:List UInt8},iy l m=Op.bytesLess l m
 | [],[]=>rfl
 |_::_,[]=>rfl
 | [],_::_=>rfl
 |a::l,b::m=>by
  unfold iy Op.bytesLess;rw[M0 (l:=l)];cases h1:Nat.blt a.toNat b.toNat with
  |true=>
   have:a<b:=UInt8.lt_iff_toNat_lt.2 (by simpa[Nat.blt_eq]using h1);simp[this]
  |false=>
   have hn:¬a<b:=fun C8=>by
    have:Nat.blt a.toNat b.toNat=true:=by simpa[Nat.blt_eq]using UInt8.lt_iff_toNat_lt.1 C8
    rw[this]at h1;cases h1
   cases h2:Nat.beq a.toNat b.toNat with
   |true=>
    have:a=b:=UInt8.toNat_inj.1 (Qb h2);subst this;simp
   |false=>
    have:a≠b:=fun e=>by subst e;simp at h2
    simp[hn,this]
section
variable {E : a_} {P : Program}
theorem intF_ok {op:BinOp} {f:IntKind->Int->Int->Option AV} (hf:rL op=some f) {C:Cx} {k:IntKind} {a b:Int} {r:AV} (h:f k a b=some r) (t:TypeId) (w:World):
 ∃z,(binOp op t (.int k a) (.int k b)).run P w= .ok z w/\VR C r z:=by
 cases op<;>simp only[rL,Option.some.injEq]at hf<;>cases hf
 case quo=>
  simp only[wB]at h;split at h
  .cases h
  .next hb=>cases h;exact⟨_,by simp[binOp,Op.intDiv,hb],.int _ _⟩
 case rem=>
  simp only[wC]at h;split at h
  .cases h
  .next hb=>cases h;exact⟨_,by simp[binOp,Op.intDiv,hb],.int _ _⟩
 case eql=>cases h;refine⟨_,?_,.bool _⟩;simp only[binOp,ne_eq,not_true_eq_false,if_false];rfl
 case neq=>cases h;refine⟨_,?_,.bool _⟩;simp only[binOp,ne_eq,not_true_eq_false,if_false];rfl
 case lss=>cases h;refine⟨_,?_,.bool _⟩;simp only[binOp,ne_eq,not_true_eq_false,if_false];rfl
 case leq=>cases h;refine⟨_,?_,.bool _⟩;simp only[binOp,ne_eq,not_true_eq_false,if_false];rfl
 case gtr=>cases h;refine⟨_,?_,.bool _⟩;simp only[binOp,ne_eq,not_true_eq_false,if_false];rfl
 case geq=>cases h;refine⟨_,?_,.bool _⟩;simp only[binOp,ne_eq,not_true_eq_false,if_false];rfl
 all_goals cases h;refine⟨_,?_,.int _ _⟩;simp only[binOp,ne_eq,not_true_eq_false,if_false];rfl
theorem strF_ok {op:BinOp} {f:List UInt8->List UInt8->Option AV} (hf:xV op=some f) {C:Cx} {a b:ByteArray} {r:AV} (h:f a.data.toList b.data.toList=some r) (t:TypeId) (w:World):
 ∃z,(binOp op t (.string a) (.string b)).run P w= .ok z w/\VR C r z:=by
 cases op<;>simp only[xV,Option.some.injEq]at hf<;>cases hf
 case add=>
  dsimp only at h;cases hb:Nat.ble (ZA a.data.toList+ZA b.data.toList) 4294967296 with
  |false=>rw[hb]at h;cases h
  |true=>
   rw[hb]at h;cases h;have:=Qc hb;simp only[BV,Array.length_toList]at this;have e1:a.size=a.data.size:=rfl;have e2:b.size=b.data.size:=rfl;have hm:¬(((a.size+b.size:Nat):Int)>IntKind.i64.max):=by
    have:IntKind.i64.max=9223372036854775807:=by decide
    rw[this];omega
   refine⟨.string (a++b),?_,.O (by simp)⟩;simp only[binOp,Op.stringOp,hm,if_false,Sem.run_pure]
 all_goals
  cases h;refine⟨_,?_,.bool _⟩;have hd:(a.data==b.data)=decide (a.data=b.data):=by rw[Bool.eq_iff_iff];simp
  simp[binOp,Op.stringOp,ByteArray.toList_eq,AY,M0,hd]
theorem Kp {op:BinOp} {t:TypeId} {x y:Operand} {k j:IntKind} {a b:Int} (w:World):(eqGuard op t x y (.int k a) (.int j b)).run P w= .ok () w:=by
 unfold eqGuard;split<;>rfl
theorem WZ {op:BinOp} {t:TypeId} {x y:Operand} {a b:ByteArray} (w:World):(eqGuard op t x y (.string a) (.string b)).run P w= .ok () w:=by
 unfold eqGuard;split<;>rfl
end
section
variable {E : a_} {P : Program}
theorem Bl {t:TypeId} {d:TypeDesc} (h:ct E t=some d):CS E t=some d/\dY d=true:=by
 unfold ct at h;split at h
 .next d' hu=>
  cases hd:dY d' with
  |true=>rw[hd]at h;cases h;exact⟨hu,hd⟩
  |false=>rw[hd]at h;cases h
 .cases h
variable (he : Ym E P)
include he
theorem Ot {t:TypeId} {d:TypeDesc} (h:ct E t=some d):j_ E t=some false:=by
 obtain⟨hu,hd⟩:=Bl h;unfold j_;rw[hu];cases d<;>first|rfl|cases hd
theorem PE {d:TypeDesc} {t:TypeId} (hu:CS E t=some d) {C:Cx} {a b:AV} {x y:Value} (ha:VR C a x) (hb:VR C b y) {r:Bool} (h:wE d a b=some r) (n:Nat) (w:World):
 (Op.equalIn (n+1) t x y).run P w= .ok r w:=by
 unfold wE at h;split at h
 .cases ha;cases hb;cases h;simp only[Op.equalIn,Sem.run_bind,Ah he hu,Result.andThen_ok,Sem.run_pure];rename_i p q
  cases p<;>cases q<;>rfl
 .cases ha;cases hb;split at h
  .next hk=>
   cases h;subst hk;simp only[Op.equalIn,Sem.run_bind,Ah he hu,Result.andThen_ok,if_true,Sem.run_pure];rfl
  .cases h
 .cases ha;cases hb;cases h;rename_i l1 l2 s1 h1 s2 h2
  subst h1;subst h2;rw[run_equalIn_string w n t s1 s2 (Dw he hu),ByteArray.toList_eq,ByteArray.toList_eq,AY]
  congr 1
  rw[Bool.eq_iff_iff];simp
 .cases h
omit he in
theorem Xw {d:TypeDesc} {a b:AV} {r:Bool} (h:wE d a b=some r):(r=true↔a=b)/\fQ a=true/\fQ b=true/\okD d a=true/\okD d b=true:=by
 unfold wE at h;split at h
 .cases h;rename_i p q
  refine⟨?_,U,U,U,U⟩;cases p<;>cases q<;>simp
 .next k j p q=>
  split at h
  .next hk=>cases h;subst hk;exact⟨by simp,rfl,rfl,rfl,rfl⟩
  .cases h
 .cases h;refine⟨?_,U,U,U,U⟩;rw[AY];simp
 .cases h
omit he in
theorem Fo:∀ {l:List TypeDesc} {a:List AV},qX l a=true->a.all fQ=true/\a.length=l.length
 | [],[],_=>⟨rfl,rfl⟩
 | [],_::_,h=>by simp[qX]at h
 |_::_,[],h=>by simp[qX]at h
 |d::l,a::x,h=>by
  simp only[qX,Qf]at h;obtain⟨h1,h2⟩:=Fo h.2;refine⟨?_,by simp[h2]⟩;rw[List.all_cons,h1,Bool.and_true];cases d<;>cases a<;>first|rfl|simp[okD]at h
omit he in
theorem Uu {kd:Kd} {k:AV} (h:iz kd k=true):mm k=true:=by
 cases kd with
 |one d=>cases d<;>cases k<;>first|rfl|simp[iz,okD]at h
 |flat l=>cases k<;>first|(simp[iz]at h;done)|exact(Fo h).1
omit he in
theorem GB:∀ {fs:List Field} {i:Nat} {l:List TypeDesc},lu E fs i=some l->l.length=fs.length/\
 ∀j f,fs[j]?=some f->∃d,l[j]?=some d/\f.offset=i+j/\f.name≠ "_" /\ct E f.type=some d
 | [],i,l,h=>by cases h;exact⟨rfl,fun j f h=>by simp at h⟩
 |g::fs,i,l,h=>by
  simp only[lu]at h;cases hb:(Nat.beq g.offset i&& !(g.name== "_"))with
  |false=>rw[hb]at h;cases h
  |true=>
  rw[hb]at h;simp only[Qf,Bool.not_eq_true',beq_eq_false_iff_ne]at hb;obtain⟨d,hd,h⟩:=Qa.1 h;obtain⟨r,hr,h⟩:=Qa.1 h;cases h;obtain⟨h1,h2⟩:=GB hr;refine⟨by simp[h1],fun j f hf=>?_⟩;cases j with
  |zero=>simp at hf;subst hf;exact⟨d,rfl,Qb hb.1,hb.2,hd⟩
  |succ j=>
   obtain⟨d',a1,a2,a3,a4⟩:=h2 j f (by simpa using hf);exact⟨d',by simpa using a1,by omega,a3,a4⟩
theorem Dy {t:TypeId} {d:TypeDesc} (hs:ct E t=some d) {C:Cx} {aa:List AV} {xs:Array Value} (hv:Y0 C aa xs.toList) {i:Nat} {a:AV} (hi:aa[i]?=some a) (w:World):
 ∃x,(part t xs i).run P w= .ok x w/\VR C a x:=
 Ez (P:=P) he (Ot he hs) hv (by rw[EN];exact hi) w
theorem Kt {C:Cx} {aa bb:List AV} {xs ys:Array Value} (ha:Y0 C aa xs.toList) (hb:Y0 C bb ys.toList) (n:Nat) (w:World):
 ∀ {fs:List Field} {i:Nat} {l:List TypeDesc} {r:Bool},lu E fs i=some l->dP l (aa.drop i) (bb.drop i)=some r->(Op.eqFields (n+1) xs ys fs).run P w= .ok r w
 | [],i,l,r,hl,h=>by
  cases hl;generalize aa.drop i=p at h;generalize bb.drop i=q at h;cases p<;>cases q<;>simp[dP]at h
  subst h;rfl
 |f::fs,i,l,r,hl,h=>by
  have hg:=(GB hl).2 0 f rfl;simp only[lu]at hl;cases hbq:(Nat.beq f.offset i&& !(f.name== "_"))with
  |false=>rw[hbq]at hl;cases hl
  |true=>
  rw[hbq]at hl;obtain⟨d,hd,hl⟩:=Qa.1 hl;obtain⟨l',hr,hl⟩:=Qa.1 hl;cases hl;obtain⟨d',e1,hoff,yF,lJ⟩:=hg;simp at e1;subst e1;cases hp:aa.drop i with
  |nil=>rw[hp]at h;simp[dP]at h
  |cons a p=>
  cases hq:bb.drop i with
  |nil=>rw[hp,hq]at h;simp[dP]at h
  |cons b q=>
  rw[hp,hq]at h;simp only[dP]at h;obtain⟨v,hv,h⟩:=Qa.1 h;have ga:aa[i]?=some a:=by have:=congrArg (·[0]?) hp;simpa using this
  have gb:bb[i]?=some b:=by have:=congrArg (·[0]?) hq;simpa using this
  obtain⟨x,hx,eV⟩:=Dy (P:=P) he lJ ha ga w;obtain⟨y,hy,mb⟩:=Dy (P:=P) he lJ hb gb w;have heq:=PE (P:=P) he (Bl lJ).1 eV mb hv n w;have h0:f.offset=i:=by simpa using hoff
  simp only[Op.eqFields,yF,ne_eq,not_false_eq_true,if_true,h0,Sem.run_bind,hx,hy,heq,Result.andThen_ok];cases v with
  |false=>cases h;rfl
  |true=>
   have e1:p=aa.drop (i+1):=by rw[<-List.drop_drop,hp];rfl
   have e2:q=bb.drop (i+1):=by rw[<-List.drop_drop,hq];rfl
   subst e1;subst e2;simpa using Kt ha hb n w hr h
theorem Mv {e:TypeId} {d:TypeDesc} (hs:ct E e=some d) {C:Cx} {aa bb:List AV} {xs ys:Array Value} (ha:Y0 C aa xs.toList) (hb:Y0 C bb ys.toList) (n:Nat) (w:World):
 ∀(m i:Nat) {r:Bool},dP (rep d m) (aa.drop i) (bb.drop i)=some r->(Op.eqItems (n+1) e 1 xs ys (List.range' i m)).run P w= .ok r w
 |0,i,r,h=>by
  generalize aa.drop i=p at h;generalize bb.drop i=q at h;cases p<;>cases q<;>simp[dP,rep]at h
  subst h;rfl
 |m+1,i,r,h=>by
  cases hp:aa.drop i with
  |nil=>rw[hp]at h;simp[dP,rep]at h
  |cons a p=>
  cases hq:bb.drop i with
  |nil=>rw[hp,hq]at h;simp[dP,rep]at h
  |cons b q=>
  rw[hp,hq]at h;simp only[rep,dP]at h;obtain⟨v,hv,h⟩:=Qa.1 h;have ga:aa[i]?=some a:=by have:=congrArg (·[0]?) hp;simpa using this
  have gb:bb[i]?=some b:=by have:=congrArg (·[0]?) hq;simpa using this
  obtain⟨x,hx,eV⟩:=Dy (P:=P) he hs ha ga w;obtain⟨y,hy,mb⟩:=Dy (P:=P) he hs hb gb w;have heq:=PE (P:=P) he (Bl hs).1 eV mb hv n w;simp only[List.range'_succ,Op.eqItems,Nat.mul_one,Sem.run_bind,hx,hy,heq,Result.andThen_ok];cases v with
  |false=>cases h;rfl
  |true=>
   have e1:p=aa.drop (i+1):=by rw[<-List.drop_drop,hp];rfl
   have e2:q=bb.drop (i+1):=by rw[<-List.drop_drop,hq];rfl
   subst e1;subst e2;simpa using Mv hs ha hb n w m (i+1) h
omit he in
theorem ET {t:TypeId} {kd:Kd} (h:eC E t=some kd):
 (∃fs l,CS E t=some (.struct fs)/\lu E fs.toList 0=some l/\E.plain t=true/\kd= .flat l)\/
 (∃n e d,CS E t=some (.array n e)/\ct E e=some d/\Am.an E e=some 1/\kd= .flat (rep d n))\/
 (∃d,CS E t=some d/\dY d=true/\kd= .one d):=by
 unfold eC at h;split at h
 .next fs hu=>
  cases ZV:E.plain t with
  |false=>rw[ZV]at h;cases h
  |true=>
  rw[ZV]at h;obtain⟨l,hl,h⟩:=Qa.1 h;cases h;exact .inl ⟨fs,l,hu,hl,U,U⟩
 .next n e hu=>
  split at h
  .next d hd hs=>cases h;exact .inr (.inl ⟨n,e,d,hu,hd,hs,rfl⟩)
  .cases h
 .next d jt po hu=>
  cases hs:dY d with
  |true=>rw[hs]at h;cases h;exact .inr (.inr ⟨d,hu,hs,rfl⟩)
  |false=>rw[hs]at h;cases h
 .cases h
theorem Xv {t:TypeId} {kd:Kd} (hk:eC E t=some kd) {C:Cx} {a b:AV} {x y:Value} (ha:VR C a x) (hb:VR C b y) {r:Bool} (h:fh kd a b=some r) (n:Nat) (w:World):
 (Op.equalIn (n+2) t x y).run P w= .ok r w:=by
 rcases ET hk with⟨fs,l,hu,hl,ZV,rfl⟩|⟨m,e,d,hu,hd,hs,rfl⟩|⟨d,hu,hs,rfl⟩
 .cases ha<;>cases hb<;>simp only[fh]at h<;>try (cases h;done)
  rename_i a' xs hca yG b' ys rZ hvb
  have hf:P.fieldsOf t=fs:=by simp[Program.fieldsOf,Dw he hu]
  rw[run_equalIn_struct w (n+1) t xs ys (by rw[hf];exact Dw he hu) (he.a t ZV),hf];exact Kt he yG hvb n w hl (by simpa using h)
 .cases ha<;>cases hb<;>simp only[fh]at h<;>try (cases h;done)
  rename_i a' xs hca yG b' ys rZ hvb
  have hi:∃i,E.b.u e=some i/\i.size=1:=by
   unfold Am.an at hs;cases hi:E.b.u e with
   |none=>rw[hi]at hs;cases hs
   |some i=>rw[hi]at hs;exact⟨i,rfl,Option.some.inj hs⟩
  obtain⟨i,hi,hi1⟩:=hi;have hc:P.cellsOf e=1:=by simp[Program.cellsOf,he.d e i hi,hi1]
  rw[run_equalIn_array w (n+1) xs ys (Dw he hu) (he.d e i hi),hc,List.range_eq_range'];exact Mv he hd yG hvb n w m 0 (by simpa using h)
 .exact PE he hu ha hb h (n+1) w
theorem yH {t:TypeId} {kd:Kd} (hk:eC E t=some kd):P.eqGuardType P.depth t=false:=by
 have tJ:∃k,P.depth=k+2:=⟨_,rfl⟩
 obtain⟨k,oQ⟩:=tJ;rw[oQ];have sc:∀(j:Nat) {u:TypeId} {d:TypeDesc},CS E u=some d->dY d=true->P.eqGuardType (j+1) u=false:=by
  intro j u d hu hd;simp only[Program.eqGuardType,Dw he hu];cases d<;>first|rfl|cases hd
 rcases ET hk with⟨fs,l,hu,hl,ZV,rfl⟩|⟨m,e,d,hu,hd,hs,rfl⟩|⟨d,hu,hs,rfl⟩
 .rw[Program.eqGuardType];simp only[Dw he hu];rw[<-Array.any_toList];rw[List.any_eq_false];intro f hf;obtain⟨j,hj⟩:=List.getElem?_of_mem hf;obtain⟨d,_,_,_,lJ⟩:=(GB hl).2 j f hj;obtain⟨h1,h2⟩:=Bl lJ;rw[sc k h1 h2];simp
 .rw[Program.eqGuardType];simp only[Dw he hu];obtain⟨h1,h2⟩:=Bl hd;exact sc k h1 h2
 .exact sc (k+1) hu hs
end
section
variable {E : a_} {P : Program} (he : Ym E P)
abbrev nJ (op:BinOp) (t:TypeId) (x y:Operand) (a b:Value):Sem Value:=do eqGuard op t x y a b;binOp op t a b
theorem E5 {o:Oper} {op:BinOp} {t yt:TypeId} {x y:Operand} (ho:o.op= .binOp op t x y yt):∀ρ,execOp ρ o=(do pure (.value (<-nJ op t x y (ρ x) (ρ y)))):=by
 intro ρ;simp[execOp,ho,nJ]
theorem ok_int2 {o:Oper} {op:BinOp} {t yt:TypeId} {x y:Operand} (ho:o.op= .binOp op t x y yt) {f:IntKind->Int->Int->Option AV} (hf:rL op=some f):b5 E P o (cu E (tu f) x y):=by
 refine Fb (E5 ho) ?_;intro C w v u p q r hv hu hr;cases hv with
 |int k a=>
  cases hu with
  |int k' b=>simp_all [tu,nJ,Kp,intF_ok]
  |_=>simp[tu]at hr
 |_=>simp[tu]at hr
theorem ok_str2 {o:Oper} {op:BinOp} {t yt:TypeId} {x y:Operand} (ho:o.op= .binOp op t x y yt) {f:List UInt8->List UInt8->Option AV} (hf:xV op=some f):b5 E P o (cu E (u9 f) x y):=by
 refine Fb (E5 ho) ?_;intro C w v u p q r hv hu hr;cases hv with
 |O h1=>
  cases hu with
  |O h2=>simp_all [u9,nJ,WZ,strF_ok]
  |_=>simp[u9]at hr
 |_=>simp[u9]at hr
theorem ok_sh {o:Oper} {op:BinOp} {t yt:TypeId} {x y:Operand} (ho:o.op= .binOp op t x y yt) (aY:op= .shl\/op= .shr):b5 E P o (cu E (om (if op= .shl then shlA else wD)) x y):=by
 refine Fb (E5 ho) ?_;intro C w v u p q r hv hu hr;cases hv with
 |int k a=>
  cases hu with
  |int k' b=>
   simp only[om]at hr;rcases aY with rfl|rfl
   .simp only[if_true,shlA]at hr;split at hr
    .cases hr
    .next hb=>cases hr;exact⟨_,by simp only[nJ,Sem.run_bind,Kp,Result.andThen_ok,binOp,Op.shift,hb,if_false];rfl,.int _ _⟩
   .simp only[reduceCtorEq,if_false,wD]at hr;split at hr
    .cases hr
    .next hb=>cases hr;exact⟨_,by simp only[nJ,Sem.run_bind,Kp,Result.andThen_ok,binOp,Op.shift,hb,if_false];rfl,.int _ _⟩
  |_=>simp[om]at hr
 |_=>simp[om]at hr
def fT:Value->Value->Bool
 | .int _ _,.int _ _=>false
 | .float _ _,_=>false
 | .complex _ _ _,_=>false
 | .string _,.string _=>false
 | .nilIface,.nilIface=>false
 | .agg _,.agg _=>false
 |_,_=>true
theorem Fv {op:BinOp} {t:TypeId} {x y:Operand} {a b:Value} (h:fT a b=true) (w:World):(eqGuard op t x y a b).run P w= .ok () w:=by
 unfold eqGuard;split
 all_goals first|rfl|(cases a<;>cases b<;>first|rfl|cases h)
theorem T5 {neg:Bool} {t:TypeId} {a b:Value} (h:fT a b=true) {r:Bool} {w:World} (he:(Op.equal t a b).run P w= .ok r w):
 (binOp (if neg then .neq else .eql) t a b).run P w= .ok (.bool (bif neg then !r else r)) w:=by
 cases neg<;>cases a<;>cases b<;>first|(cases h;done)|(simp[binOp,he];done)
theorem Ji {C:Cx} {neg:Bool} {o:Option Bool} {r:AV} (h:au neg o=some r):∃b,o=some b/\VR C r (.bool (bif neg then !b else b)):=by
 unfold au at h;split at h
 .cases h;exact⟨_,rfl,.bool _⟩
 .cases h
theorem Wp {o:Oper} {neg:Bool} {t yt:TypeId} {x y:Operand} (ho:o.op= .binOp (if neg then .neq else .eql) t x y yt) {f:AV->AV->Option Bool}
 (h:∀(C:Cx) (w:World) a b p q r,VR C a p->VR C b q->f a b=some r->fT p q=true/\(Op.equal t p q).run P w= .ok r w):
 b5 E P o (cu E (fun a b=>au neg (f a b)) x y):=by
 refine Fb (E5 ho) ?_;intro C w v u p q r hv hu hr;obtain⟨b,hb,hrb⟩:=Ji (C:=C) hr;obtain⟨h1,h2⟩:=h C w v u p q b hv hu hb;exact⟨_,by simp only[nJ,Sem.run_bind,Fv h1,Result.andThen_ok,T5 h1 h2],hrb⟩
theorem De {t:TypeId} {a b:Value} {r:Bool} {w:World} (h:∀n,(Op.equalIn (n+1) t a b).run P w= .ok r w):(Op.equal t a b).run P w= .ok r w:=h 9999
section steps
variable {t : TypeId} (n : Nat) (w : World)
include he
theorem in_ptr0 {e:TypeId} (hu:CS E t=some (.pointer e)) (b:Option Addr):(Op.equalIn (n+1) t (.pointer none) (.pointer b)).run P w= .ok b.isNone w:=by
 simp only[Op.equalIn,Sem.run_bind,Ah he hu,Result.andThen_ok,Sem.run_pure]
theorem in_ptr1 {e:TypeId} (hu:CS E t=some (.pointer e)) (a:Addr):(Op.equalIn (n+1) t (.pointer (some a)) (.pointer none)).run P w= .ok false w:=by
 simp only[Op.equalIn,Sem.run_bind,Ah he hu,Result.andThen_ok,Sem.run_pure]
theorem WN {e:TypeId} (hu:CS E t=some (.pointer e)) {k:Nat} (hs:Am.an E e=some (k+1)) {a b:Addr} {r:Bool} (h:(sameAddr a b).run P w= .ok r w):
 (Op.equalIn (n+1) t (.pointer (some a)) (.pointer (some b))).run P w= .ok r w:=by
 simp only[Op.equalIn,Sem.run_bind,Ah he hu,A5 he hs,Result.andThen_ok,ne_eq,Nat.succ_ne_zero,not_false_eq_true,if_true,h]
theorem in_fn0 {ps rs:Array TypeId} {v:Bool} (hu:CS E t=some (.func ps rs v)):(Op.equalIn (n+1) t .nilFunc .nilFunc).run P w= .ok true w:=by
 simp only[Op.equalIn,Sem.run_bind,Ah he hu,Result.andThen_ok,Sem.run_pure]
theorem in_fn1 {ps rs:Array TypeId} {v:Bool} (hu:CS E t=some (.func ps rs v)) (f:Fn) (a b:Array Value):(Op.equalIn (n+1) t .nilFunc (.func f a b)).run P w= .ok false w:=by
 simp only[Op.equalIn,Sem.run_bind,Ah he hu,Result.andThen_ok,Sem.run_pure]
theorem in_fn2 {ps rs:Array TypeId} {v:Bool} (hu:CS E t=some (.func ps rs v)) (f:Fn) (a b:Array Value):(Op.equalIn (n+1) t (.func f a b) .nilFunc).run P w= .ok false w:=by
 simp only[Op.equalIn,Sem.run_bind,Ah he hu,Result.andThen_ok,Sem.run_pure]
theorem in_if0 {ms:Array (String×TypeId)} (hu:CS E t=some (.interface ms)):(Op.equalIn (n+1) t .nilIface .nilIface).run P w= .ok true w:=by
 simp only[Op.equalIn,Sem.run_bind,Ah he hu,Result.andThen_ok,Sem.run_pure]
theorem in_if1 {ms:Array (String×TypeId)} (hu:CS E t=some (.interface ms)) (u:TypeId) (a:Value):(Op.equalIn (n+1) t .nilIface (.iface u a)).run P w= .ok false w:=by
 simp only[Op.equalIn,Sem.run_bind,Ah he hu,Result.andThen_ok,Sem.run_pure]
theorem in_if2 {ms:Array (String×TypeId)} (hu:CS E t=some (.interface ms)) (u:TypeId) (a:Value):(Op.equalIn (n+1) t (.iface u a) .nilIface).run P w= .ok false w:=by
 simp only[Op.equalIn,Sem.run_bind,Ah he hu,Result.andThen_ok,Sem.run_pure]
theorem in_if3 {ms:Array (String×TypeId)} (hu:CS E t=some (.interface ms)) {u v:TypeId} (h:u≠v) (a b:Value):(Op.equalIn (n+1) t (.iface u a) (.iface v b)).run P w= .ok false w:=by
 simp only[Op.equalIn,Sem.run_bind,Ah he hu,Result.andThen_ok,ne_eq,h,not_false_eq_true,if_true,Sem.run_pure]
theorem in_if4 {ms:Array (String×TypeId)} (hu:CS E t=some (.interface ms)) {u:TypeId} {i:TypeInfo} (hi:E.b.u u=some i) (hc:i.comparable=true) {a b:Value} {r:Bool}
 (h:(Op.equalIn n u a b).run P w= .ok r w):(Op.equalIn (n+1) t (.iface u a) (.iface u b)).run P w= .ok r w:=by
 simp only[Op.equalIn,Sem.run_bind,Ah he hu,Result.andThen_ok,ne_eq,not_true_eq_false,if_false,BO he hi,hc,Bool.not_true,Bool.false_eq_true,h]
end steps
include he
theorem Wo {o:Oper} {neg:Bool} {t yt:TypeId} {x y:Operand} (ho:o.op= .binOp (if neg then .neq else .eql) t x y yt) (hu:CS E t=some .bool):
 b5 E P o (cu E (fun a b=>au neg (wE .bool a b)) x y):=by
 refine Wp ho ?_;intro C w a b p q r ha hb h;have heq:=PE (P:=P) he hu ha hb h 9999 w;refine⟨?_,heq⟩;unfold wE at h;split at h
 .cases ha;cases hb;rfl
 .next k j p q e=>cases e
 .next e=>cases e
 .cases h
theorem Wn {o:Oper} {neg:Bool} {t yt:TypeId} {x y:Operand} (ho:o.op= .binOp (if neg then .neq else .eql) t x y yt) {ps rs:Array TypeId} {v:Bool} (hu:CS E t=some (.func ps rs v)):
 b5 E P o (cu E (fun a b=>au neg (pH a b)) x y):=by
 refine Wp ho ?_;intro C w a b p q r ha hb h;unfold pH at h;split at h<;>first|(cases h;done)|skip
 .cases ha;cases hb;cases h;exact⟨rfl,De fun n=>in_fn0 he n w hu⟩
 .cases ha;cases h;cases hb<;>exact⟨rfl,De fun n=>in_fn1 he n w hu _ _ _⟩
 .cases hb;cases h;cases ha<;>exact⟨rfl,De fun n=>in_fn2 he n w hu _ _ _⟩
theorem Tn {t e:TypeId} (hu:CS E t=some (.pointer e)) {C:Cx} {w:World} {a b:AV} {p q:Value} {r:Bool} (ha:VR C a p) (hb:VR C b q) (h:qY a b=some r):
 fT p q=true/\(Op.equal t p q).run P w= .ok r w:=by
 unfold qY at h;split at h<;>first|(cases h;done)|skip
 all_goals
  cases ha;cases hb;cases h;first
   |exact⟨rfl,De fun n=>in_ptr0 he n w hu _⟩
   |exact⟨rfl,De fun n=>in_ptr1 he n w hu _⟩
theorem yI {o:Oper} {neg:Bool} {t yt:TypeId} {x y:Operand} (ho:o.op= .binOp (if neg then .neq else .eql) t x y yt) {e:TypeId} (hu:CS E t=some (.pointer e)):
 b5 E P o (cu E (fun a b=>au neg (qY a b)) x y):=
 Wp ho fun _ _ _ _ _ _ _ ha hb h=>Tn he hu ha hb h
omit he in
theorem PD {s:St} {a b:AV} {r:Bool} (h:jz s a b=some r):(∃b1 i b2 j,a= .Z b1 i/\b= .Z b2 j)\/qY a b=some r:=by
 unfold jz at h;split at h
 .exact .inl ⟨_,_,_,_,U,U⟩
 .exact .inr h
theorem Xu {t e:TypeId} {n:Nat} (hu:CS E t=some (.pointer e)) (hs:Am.an E e=some (n+1)) {C:Cx} {S:St} {w:World} (hS:YR C S w) {b1 i b2 j:Nat} {p q:Value} {b:Bool}
 (xD:VR C (.Z b1 i) p) (ha2:VR C (.Z b2 j) q) (hb:jz S (.Z b1 i) (.Z b2 j)=some b):fT p q=true/\(Op.equal t p q).run P w= .ok b w:=by
 cases xD with
 |H_ jt=>
 cases ha2 with
 |H_ po=>
 refine⟨U,?_⟩;simp only[jz]at hb;cases tf:Nat.beq b1 b2 with
 |true=>
  rw[tf]at hb;have:b1=b2:=Qb tf;subst this;cases hb;have:(sameAddr ⟨(C.a b1).Cr,(C.a b1).base+i,none⟩ ⟨(C.a b1).Cr,(C.a b1).base+j,none⟩).run P w= .ok (Nat.beq i j) w:=by
   simp only[sameAddr,beq_self_eq_true,if_true,Sem.run_pure]
   congr 1
   rw[Bool.eq_iff_iff];simp
  exact De fun n=>WN he n w hu hs this
 |false=>
  rw[tf]at hb;cases hv:(isVar (S.heap.u b1)&&isVar (S.heap.u b2))with
  |false=>rw[hv]at hb;cases hb
  |true=>
   rw[hv]at hb;cases hb;simp only[Qf]at hv;have var:∀k,isVar (S.heap.u k)=true->∃o c e',S.heap.u k=some o/\w.heap[(C.a k).Cr]?=some (.cells c e' (0,0)):=by
    intro k hk;cases hgk:S.heap.u k with
    |none=>rw[hgk]at hk;cases hk
    |some o=>
     rw[hgk]at hk;cases o with
     |J cs e' part=>
      have hpf:part=false:=by simpa[isVar]using hk
      subst hpf;obtain⟨_,x',yJ,hr⟩:=hS.a k _ hgk;cases hr with
      |J hv ha af YO hf hp=>obtain⟨_,_,rfl⟩:=hp rfl;exact⟨_,_,_,rfl,yJ⟩
     |_=>cases hk
   obtain⟨o1,c1,e1,g1,m1⟩:=var b1 hv.1;obtain⟨o2,c2,e2,g2,m2⟩:=var b2 hv.2;have ZT:(C.a b1).Cr≠(C.a b2).Cr:=fun e=>by
    have:=hS.inj b1 b2 o1 o2 g1 g2 e;subst this;simp at tf
   have:=run_sameAddr_other (P:=P) w (a:=⟨(C.a b1).Cr,(C.a b1).base+i,none⟩) (b:=⟨(C.a b2).Cr,(C.a b2).base+j,none⟩) (fun e=>ZT (congrArg Addr.block e)) m1 m2;exact De fun n=>WN he n w hu hs this
theorem Wl {o:Oper} {neg:Bool} {t yt:TypeId} {x y:Operand} (ho:o.op= .binOp (if neg then .neq else .eql) t x y yt) {e:TypeId} {n:Nat} (hu:CS E t=some (.pointer e))
 (hs:Am.an E e=some (n+1)):b5 E P o (.I' fun T s=>(Ch E x T).bind fun a=>(Ch E y T).bind fun b=>au neg (jz s a b)):=by
 intro C T a S w hg hT hS v h;obtain⟨u,ov,h⟩:=Qa.1 h;obtain⟨u2,yK,h⟩:=Qa.1 h;obtain⟨b,hb,hrb⟩:=Ji (C:=C) h;have xD:=An hg hT ov;have ha2:=An hg hT yK;have main:fT (a.eval x) (a.eval y)=true/\(Op.equal t (a.eval x) (a.eval y)).run P w= .ok b w:=by
  rcases PD hb with⟨b1,i,b2,j,rfl,rfl⟩|h
  .exact Xu he hu hs hS xD ha2 hb
  .exact Tn he hu xD ha2 h
 refine⟨_,?_,hrb⟩;rw[E5 ho];simp only[nJ,Sem.run_bind,Fv main.1,Result.andThen_ok,T5 main.1 main.2,Sem.run_pure]
theorem Wm {o:Oper} {neg:Bool} {t yt:TypeId} {x y:Operand} (ho:o.op= .binOp (if neg then .neq else .eql) t x y yt) {kd:Option Kd} (hk:kd=eC E t)
 (hu:(∃fs,CS E t=some (.struct fs))\/∃n e,CS E t=some (.array n e)):b5 E P o (vo E neg kd x y):=by
 subst hk;unfold vo;split
 .next kd hkd=>
  refine Fb (E5 ho) ?_;intro C w v u p q r hv huv hr;obtain⟨b,hb,hrb⟩:=Ji (C:=C) hr;have heq:=Xv (P:=P) he hkd hv huv hb 9998 w;have hagg:∃xs ys,p= .agg xs/\q= .agg ys:=by
   rcases ET hkd with⟨fs,l,_,_,_,rfl⟩|⟨m,e,d,_,_,_,rfl⟩|⟨d,hd,hs,rfl⟩
   .cases hv<;>cases huv<;>simp only[fh]at hb<;>first|(cases hb;done)|exact⟨_,_,rfl,rfl⟩
   .cases hv<;>cases huv<;>simp only[fh]at hb<;>first|(cases hb;done)|exact⟨_,_,rfl,rfl⟩
   .exfalso;rcases hu with⟨fs,hu⟩|⟨n,e,hu⟩<;>rw[hu]at hd<;>cases hd<;>cases hs
  obtain⟨xs,ys,rfl,rfl⟩:=hagg;refine⟨_,?_,hrb⟩;simp only[nJ,Sem.run_bind,run_eqGuard_agg w _ t x y xs ys (yH he hkd),Result.andThen_ok];have heq':(Op.equal t (.agg xs) (.agg ys)).run P w= .ok b w:=heq;cases neg
  .simp[binOp,heq']
  .simp[binOp,heq']
 .exact Ao
theorem Uq {o:Oper} {neg:Bool} {t yt:TypeId} {x y:Operand} (ho:o.op= .binOp (if neg then .neq else .eql) t x y yt) {ms:Array (String×TypeId)} (hu:CS E t=some (.interface ms)):
 b5 E P o (cu E (fun a b=>au neg (mj E (s_ x||s_ y) a b)) x y):=by
 refine Fb (E5 ho) ?_;intro C w v u p q r hv huv hr;obtain⟨b,hb,hrb⟩:=Ji (C:=C) hr;have fin:fT p q=true->(Op.equal t p q).run P w= .ok b w->∃z,(nJ (if neg then .neq else .eql) t x y p q).run P w= .ok z w/\VR C r z:=fun h1 h2=>
  ⟨_,by simp only[nJ,Sem.run_bind,Fv h1,Result.andThen_ok,T5 h1 h2],hrb⟩
 unfold mj at hb;split at hb
 .cases hl:(s_ x||s_ y)with
  |false=>rw[hl]at hb;cases hb
  |true=>
   rw[hl]at hb;cases hb;cases hv;cases huv;have hg:(eqGuard (if neg then .neq else .eql) t x y .nilIface .nilIface).run P w= .ok () w:=by
    cases neg<;>cases x<;>cases y<;>first|rfl|(simp[s_]at hl)
   refine⟨_,?_,hrb⟩;simp only[nJ,Sem.run_bind,hg,Result.andThen_ok];have h0:(Op.equal t .nilIface .nilIface).run P w= .ok true w:=De fun n=>in_if0 he n w hu;cases neg<;>simp[binOp,h0]
 .cases hv;cases huv;cases hb;exact fin U (De fun n=>in_if1 he n w hu _ _)
 .cases hv;cases huv;cases hb;exact fin U (De fun n=>in_if2 he n w hu _ _)
 .next t1 a1 t2 a2=>
  cases hv with
  |Z hv=>
  cases huv with
  |Z huv=>
  refine fin U ?_;cases htt:Nat.beq t1 t2 with
  |false=>
   rw[htt]at hb;cases hb;have ZT:t1≠t2:=fun e=>by subst e;simp at htt
   exact De fun n=>in_if3 he n w hu ZT _ _
  |true=>
   rw[htt]at hb;have:t1=t2:=Qb htt;subst this;cases hc:j0 E t1 with
   |false=>rw[hc]at hb;cases hb
   |true=>
   rw[hc]at hb;obtain⟨d,hd,hb⟩:=Qa.1 hb;unfold j0 at hc;cases hi:E.b.u t1 with
   |none=>rw[hi]at hc;cases hc
   |some i=>
    rw[hi]at hc;exact in_if4 he 9999 w hu hi hc (PE (P:=P) he (Bl hd).1 hv huv hb 9998 w)
 .cases hb
omit he in
theorem nilA_ok {C:Cx} {v:AV} {x:Value} (h:VR C v x) {l:List Bool} (e:nilA v=some l):∃a n c,x= .slice a n c/\a.isNone∈l:=by
 cases h with
 |Ca a hxx=>cases e;cases a<;>exact⟨_,_,_,rfl,by simp⟩
 |slice hd hc cM=>cases e;exact⟨_,_,_,rfl,by simp⟩
 |ZX hxx hd hc=>cases e;exact⟨_,_,_,rfl,by simp⟩
 |Zk a h cM=>cases e;cases a<;>exact⟨_,_,_,rfl,by simp⟩
 |Ck hl hm ha hv bu YO cM=>
  rename_i Cr off len sz c cl cs ms vs
  cases cs with
  |nil=>cases e;exact⟨_,_,_,rfl,by simp⟩
  |cons q cs=>cases e;exact⟨_,_,_,rfl,by simp⟩
 |_=>simp[nilA]at e
theorem yL {o:Oper} {neg:Bool} {t yt:TypeId} {x:Operand} (ho:o.op= .binOp (if neg then .neq else .eql) t x (.const (.slice none 0 0)) yt) {e:TypeId} (hu:CS E t=some (.slice e)):
 b5 E P o (.J' fun T=>(Ch E x T).bind fun a=>(nilA a).bind fun l=>some (rM neg l)):=by
 intro C T a S w hg hT hS l h;obtain⟨u,ov,h⟩:=Qa.1 h;obtain⟨bs,tF,h⟩:=Qa.1 h;cases h;obtain⟨ad,n,c,hx,aM⟩:=nilA_ok (An hg hT ov) tF;have Z2:∀(bs:List Bool) (b:Bool),b∈bs->(AV.bool (bif neg then !b else b))∈rM neg bs:=by
  intro bs;induction bs with
  |nil=>intro b h;cases h
  |cons q bs ih=>
   intro b h;rcases Qk.1 h with rfl|h
   .exact Qh ..
   .exact Qg _ (ih b h)
 refine⟨_,Z2 bs _ aM,_,?_,.bool _⟩;have heq:(Op.equal t (a.eval x) (a.eval (.const (.slice none 0 0)))).run P w= .ok ad.isNone w:=by
  refine De fun n=>?_;rw[hx];show(Op.equalIn (n+1) t _ (.slice none 0 0)).run P w=_;cases ad<;>simp only[Op.equalIn,Sem.run_bind,Ah he hu,Result.andThen_ok,Sem.run_pure]<;>rfl
 have hp:fT (a.eval x) (a.eval (.const (.slice none 0 0)))=true:=by rw[hx];rfl
 rw[E5 ho];simp only[nJ,Sem.run_bind,Fv hp,Result.andThen_ok,T5 hp heq,Sem.run_pure]
theorem ok_eq {o:Oper} {neg:Bool} {t yt:TypeId} {x y:Operand} (ho:o.op= .binOp (if neg then .neq else .eql) t x y yt):b5 E P o (eqC E neg t x y):=by
 unfold eqC;split
 .next hu=>exact Wo he ho hu
 .next e hu=>
  split
  .next n hs=>exact Wl he ho hu hs
  .exact yI he ho hu
 .next ms hu=>exact Uq he ho hu
 .next ps rs v hu=>exact Wn he ho hu
 .grind [Wm]
 .grind [Wm]
 .next e hu=>
  split
  .exact yL he ho hu
  .exact Ao
 .exact Ao
theorem ok_bin {o:Oper} {op:BinOp} {t yt:TypeId} {x y:Operand} (ho:o.op= .binOp op t x y yt):b5 E P o (lz E op t x y):=by
 unfold lz;split
 .grind [ok_sh,ok_int2,Ao]
 .grind [ok_str2,Ao]
 .grind [ok_eq,Ao]
end
inductive OV (C:Cx):Option AV->Option Value->Prop where
 |none:OV C none none
 |some {v:AV} {x:Value} (h:VR C v x):OV C (some v) (some x)
section
variable {E : a_} {P : Program}
theorem DJ {C:Cx} {T:Tr AV} {a:Act} (hg:YV E C) (hT:TR C a.tmps.size T a.tmps) {x:Option Operand} {v:Option AV} (h:Zg E x T=some v):OV C v (x.map a.eval):=by
 cases x with
 |none=>cases h;exact .none
 |some x=>
  simp only[Zg]at h;obtain⟨u,hu,h⟩:=Qa.1 h;cases h;exact .some (An hg hT hu)
theorem XU {n fj:Nat} (h:n<=fj) (k:IntKind) (code:BoundsCode) (w:World):(Instr.sliceBound (.int k (n:Int)) fj code).run P w= .ok n w:=by
 have hc:(0:Int)<=(n:Int)/\(n:Int)<=(fj:Int):=by omega
 simp[Instr.sliceBound,asIntOf,h]
theorem DR {C:Cx} {fj r:Nat} {v:AV} {x:Value} (hv:VR C v x) {dflt:Nat} (h:YB dflt fj (some v)=some r) {m:Nat} (hm:fj<=m) (code:BoundsCode) (w:World):
 (Instr.sliceBound x m code).run P w= .ok r w/\r<=fj:=by
 simp only[YB]at h;obtain⟨n,hn,h⟩:=Qa.1 h;obtain⟨k,rfl⟩:=Gv hv hn;cases hb:Nat.ble n fj with
 |false=>rw[hb]at h;cases h
 |true=>
  rw[hb]at h;cases h;have:=Qc hb;exact⟨XU (by omega) k code w,this⟩
theorem IS {d m r:Nat} (h:YB d m none=some r):r=d:=by cases h;rfl
theorem BK {C:Cx} {lo hi:Option AV} {xlo xhi:Option Value} (pq:OV C lo xlo) (tg:OV C hi xhi) {len fj c h l:Nat} (hmc:fj<=c) (cM:len<=c)
 (h1:YB len fj hi=some h) (h2:YB 0 h lo=some l) (b:Bool) (w:World):
 (Instr.sliceBounds b len c xlo xhi none).run P w= .ok (l,h,c) w/\l<=h/\h<=c:=by
 have hh:h<=c/\∀code,(match xhi with|some v=>Instr.sliceBound v c code|none=>pure len:Sem Nat).run P w= .ok h w:=by
  cases tg with
  |none=>cases IS h1;exact⟨cM,fun _=>rfl⟩
  |some hv=>exact⟨Nat.le_trans (DR (P:=P) hv h1 hmc .index w).2 hmc,fun code=>(DR (P:=P) hv h1 hmc code w).1⟩
 have hl:l<=h/\∀code,(match xlo with|some v=>Instr.sliceBound v h code|none=>pure 0:Sem Nat).run P w= .ok l w:=by
  cases pq with
  |none=>cases IS h2;exact⟨Qo _,fun _=>rfl⟩
  |some hv=>exact⟨(DR (P:=P) hv h2 (Qj _) .index w).2,fun code=>(DR (P:=P) hv h2 (Qj _) code w).1⟩
 refine⟨?_,hl.1,hh.1⟩;have e1:=hh.2;have e2:=hl.2;unfold Instr.sliceBounds;cases tg with
 |none=>
  cases pq with
  |none=>simp_all
  |some hv=>simp_all
 |some qG=>
  cases pq with
  |none=>simp_all
  |some hv=>simp_all
theorem Wz {C:Cx} {S:St} {w:World} (hS:YR C S w) {b off len sz c:Nat} {cap:Option Nat} (hc:tE C b off sz cap c) {cs:List AV} (YO:Y4 (S.heap.u b)=some cs):
 gq sz off len cap cs<=c:=by
 cases cap with
 |some k=>simp only[tE]at hc;simp[gq,hc.1]
 |none=>
  simp only[tE]at hc;simp only[gq];have hs:Nat.beq sz 0=false:=by cases sz with|zero=>omega|succ n=>rfl
  rw[hs];obtain⟨_,x,e,fr,vs,hx,hv,ha,af,_,_⟩:=hS.u YO;have h1:=hv.u;have h2:=ha.le;simp only[Array.length_toList]at h2;simp only[cond_false,BV];have:(cs.length-off)<=c*sz:=by omega
  exact Nat.div_le_of_le_mul (by rw[Nat.mul_comm];exact this)
variable (he : Ym E P)
include he
theorem yM {t e:TypeId} {sz:Nat} (hu:CS E t=some (.slice e)) (af:Am.an E e=some sz) {C:Cx} {S:St} {w:World} (hS:YR C S w) {v r:AV} {x:Value} (hv:VR C v x)
 {lo hi mx:Option AV} {xlo xhi xmx:Option Value} (pq:OV C lo xlo) (tg:OV C hi xhi) (hmx:OV C mx xmx) (h:YX S sz lo hi mx v=some r):
 ∃z,(Instr.sliceAt t x xlo xhi xmx).run P w= .ok z w/\VR C r z:=by
 have run:∀(a:Option Addr) (n c l h m:Nat),(Instr.sliceBounds true n c xlo xhi xmx).run P w= .ok (l,h,m) w->
  (Instr.sliceAt t (.slice a n c) xlo xhi xmx).run P w= .ok (.slice (if m=l then a else a.map (·.add (l*sz))) (h-l) (m-l)) w:=by
  intro a n c l h m hb;simp[Instr.sliceAt,Instr.slice,Ah he hu,hb,A5 he af]
 have moved:∀ {a:Option Addr} {q:Prop} [Decidable q] {k:Nat},x8 C a->x8 C (if q then a else a.map (·.add k)):=by
  intro a q _ k ha ad te;split at te
  .exact ha ad te
  .cases a with
   |none=>cases te
   |some ad0=>
    cases te;have:=ha ad0 rfl;unfold Addr.add;split<;>exact this
 cases hv with
 |Ca a yN=>
  simp only[YX]at h;cases hmx with
  |none=>
   simp only[xX]at h;obtain⟨p,hp,h⟩:=Qa.1 h;obtain⟨q,hq,h⟩:=Qa.1 h;cases h;have vE:p=0:=by
    cases tg with
    |none=>cases hp;rfl
    |some hv=>have:=(DR (P:=P) hv hp (Qj _) .index w).2;omega
   subst vE;obtain⟨hb,hle,_⟩:=BK (P:=P) pq tg (Qj 0) (Qj 0) hp hq true w;have hq0:q=0:=by omega
   subst hq0;exact⟨_,run a 0 0 0 0 0 hb,.Ca _ yN⟩
  |some wI=>simp[xX]at h
 |slice hd hc cM=>
  rename_i b off len db cap c
  simp only[YX]at h;cases lK:Nat.beq db sz with
  |false=>rw[lK]at h;cases h
  |true=>
  rw[lK]at h;have:db=sz:=Qb lK;subst this;obtain⟨cs,YO,h⟩:=Qa.1 h;have hmost:=Wz hS hc (len:=len) YO;generalize gq db off len cap cs=fj at h hmost;cases hmx with
  |none=>
   simp only[jW]at h;obtain⟨p,hp,h⟩:=Qa.1 h;obtain⟨l,hl,h⟩:=Qa.1 h;obtain⟨hb,hle,hpc⟩:=BK (P:=P) pq tg hmost cM hp hl true w;refine⟨_,run _ len c l p c hb,?_⟩;cases cap with
   |some k=>
    obtain⟨rfl,hk0⟩:=hc;simp only[F_,Option.some.injEq]at h;subst h;cases uz:Nat.beq c l with
    |true=>
     have:c=l:=Qb uz;subst this;have h0:Nat.beq c 0=false:=by cases c with|zero=>omega|succ n=>rfl
     have ZV:p-c=0:=by omega
     simp only[cond_true,h0,cond_false,if_true,ZV,Nat.sub_self];exact .Ca _ (.some (hS.g _ hd))
    |false=>
     have ZT:c≠l:=fun e=>by subst e;simp at uz
     simp only[cond_false,ZT,if_false,Option.map_some,Bh,Nat.add_assoc];exact .slice hd ⟨U,by omega⟩ (by omega)
   |none=>
    obtain⟨uL,qA⟩:=hc;have wJ:(C.a b).base+(off+l*db)+(c-l)*db=(C.a b).size:=by
     rw[Nat.sub_mul];have:=Nat.mul_le_mul_right db (Nat.le_trans hle hpc);omega
    simp only[F_]at h;cases hlm:Nat.blt l fj with
    |true=>
     rw[hlm]at h;cases h;have:l<fj:=by simpa[Nat.blt_eq]using hlm
     have ZT:c≠l:=by omega
     simp only[ZT,if_false,Option.map_some,Bh,Nat.add_assoc];exact .slice hd ⟨by rw[<-Nat.add_assoc]at wJ|-;exact wJ,qA⟩ (by omega)
    |false=>
     rw[hlm]at h;cases vE:Nat.beq (p-l) 0 with
     |false=>rw[vE]at h;cases h
     |true=>
      rw[vE]at h;cases h;have ZV:p-l=0:=Qb vE;rw[ZV];by_cases ZT:c=l
      .subst ZT;simp only[if_true,Nat.sub_self];exact .ZX (hS.g _ hd) hd (.inl U)
      .simp only[ZT,if_false,Option.map_some,Bh,Nat.add_assoc];exact .ZX (hS.g _ hd) hd (.inr ⟨U,wJ,qA⟩)
  |some wI=>simp[jW]at h
 |ZX yN hd hc=>
  rename_i b off db a c
  simp only[YX]at h;cases lK:Nat.beq db sz with
  |false=>rw[lK]at h;cases h
  |true=>
  rw[lK]at h;have:db=sz:=Qb lK;subst this;obtain⟨cs,YO,h⟩:=Qa.1 h;simp only[gq]at h;cases hmx with
  |none=>
   simp only[jW]at h;obtain⟨p,hp,h⟩:=Qa.1 h;obtain⟨l,hl,h⟩:=Qa.1 h;have vE:p=0:=by
    cases tg with
    |none=>cases hp;rfl
    |some hv=>have:=(DR (P:=P) hv hp (Qj _) .index w).2;omega
   subst vE;obtain⟨hb,hle,_⟩:=BK (P:=P) pq tg (Qo c) (Qo c) hp hl true w;have je:l=0:=by omega
   subst je;cases h;refine⟨_,run _ 0 c 0 0 c hb,?_⟩;have:(if c=0 then some a else Option.map (fun x=>x.add (0*db)) (some a))=some a:=by
    split
    .rfl
    .simp[Addr.add]
   rw[this];exact .ZX yN hd hc
  |some wI=>simp[jW]at h
 |Zk a h0 cM=>
  rename_i db cl len c
  simp only[YX]at h;cases lK:Nat.beq db sz with
  |false=>rw[lK]at h;cases h
  |true=>
  rw[lK]at h;have:db=sz:=Qb lK;subst this;have yO:∀ {k n:Nat} {q:List AV},y_ [] k n=some q->q=[]/\n=0:=by
   intro k n q hq;obtain⟨pre,post,h1,h2,h3⟩:=GH hq;have:=congrArg List.length h1;simp at this;have hq0:q=[]:=List.eq_nil_of_length_eq_zero (by omega);exact⟨hq0,by rw[<-h3,hq0];rfl⟩
  cases hmx with
  |none=>
   simp only[cond_true,gT,dZ]at h;obtain⟨p,hp,h⟩:=Qa.1 h;obtain⟨l,hl,h⟩:=Qa.1 h;obtain⟨q,hq,h⟩:=Qa.1 h;cases h;obtain⟨hb,hle,hpc⟩:=BK (P:=P) pq tg cM cM hp hl true w;obtain⟨rfl,hn⟩:=yO hq;exact⟨_,run _ len c l p c hb,.Zk _ hn (by omega)⟩
  |some wI=>simp[gT]at h
 |Ck je tK ha hv0 bu YO cM=>
  rename_i Cr off len db c cl cs ms vs
  simp only[YX]at h;cases lK:Nat.beq db sz with
  |false=>rw[lK]at h;cases h
  |true=>
  rw[lK]at h;have:db=sz:=Qb lK;subst this;have made:∀ {l p m:Nat} {q:List AV},y_ cs (l*db) ((p-l)*db)=some q->l<=p->p<=m->
   VR C (.Ck q (p-l) db cl) (.slice (if m=l then some (⟨Cr,off,none⟩:Addr)else Option.map (fun x:Addr=>x.add (l*db)) (some (⟨Cr,off,none⟩:Addr))) (p-l) (m-l)):=by
   intro l p m q hq h1 h2;obtain⟨y,hy,hyd,hql,hcq,_,nq⟩:=hv0.I hq;by_cases h0:(p-l)*db=0
   .have:q=[]:=List.eq_nil_of_length_eq_zero (by omega);subst this;exact .Zk _ h0 (by omega)
   .have ZT:m≠l:=by
     intro e;have:p-l=0:=by omega
     rw[this]at h0;simp at h0
    simp only[ZT,if_false,Option.map_some,Bh];refine .Ck hql tK (vs:=y) ?_ hy ?_ (hcq YO) (by omega)
    .obtain⟨p1,q1,e1,e2⟩:=ha;obtain⟨p2,q2,e3,e4⟩:=nq;exact⟨p1++p2,q2++q1,by rw[e1,e3];simp,by simp[e2,e4]⟩
    .intro hct;obtain⟨y',xA,hyd',_⟩:=(bu hct).I hq;rw[hyd,<-hyd'];exact xA
  cases hmx with
  |none=>
   simp only[cond_true,gT,dZ]at h;obtain⟨p,hp,h⟩:=Qa.1 h;obtain⟨l,hl,h⟩:=Qa.1 h;obtain⟨q,hq,h⟩:=Qa.1 h;cases h;obtain⟨hb,hle,hpc⟩:=BK (P:=P) pq tg cM cM hp hl true w;exact⟨_,run _ len c l p c hb,made hq hle hpc⟩
  |some wI=>simp[gT]at h
 |_=>simp[YX]at h
end
section
variable {E : a_} {P : Program}
theorem PA {s:ByteArray} {l h:Nat} {q:List UInt8} (hq:y_ s.data.toList l (h-l)=some q) (hlh:l<=h):(s.extract l h).data.toList=q:=by
 obtain⟨pre,post,h1,h2,h3⟩:=GH hq;have hs:s.data.toList.length=s.data.size:=by simp
 have hle:h<=s.data.size:=by
  have:=congrArg List.length h1;simp only[Qm]at this;omega
 have:(s.extract l h).data=s.data.extract l h:=by simp[ByteArray.data_extract]
 rw[this];rw[Array.toList_extract,h1,List.extract_eq_take_drop,<-h3,<-h2];simp
variable (he : Ym E P)
include he
theorem ok_slice {o:Oper} {t:TypeId} {x:Operand} {lo hi mx:Option Operand} (ho:o.op= .slice t x lo hi mx):b5 E P o (fk E t x lo hi mx):=by
 have hex:∀ρ,execOp ρ o=(do pure (.value (<-Instr.sliceAt t (ρ x) (lo.map ρ) (hi.map ρ) (mx.map ρ)))):=fun ρ=>by simp[execOp,ho]
 unfold fk;split
 .next hu=>
  split
  .intro C T a S w hg hT hS v h;obtain⟨u,ov,h⟩:=Qa.1 h;obtain⟨l,hl,h⟩:=Qa.1 h;obtain⟨hh,hhh,h⟩:=Qa.1 h;have hv:=An hg hT ov;rw[hex];generalize a.eval x=xv at hv;cases hv with
   | @O _ q s hs=>
    simp only[gR]at h;obtain⟨h1,ow,h⟩:=Qa.1 h;obtain⟨l1,tL,h⟩:=Qa.1 h;obtain⟨r,hr,h⟩:=Qa.1 h;cases h;rw[<-hs]at ow hr;have hlen:ZA s.data.toList=s.size:=by simp
    rw[hlen]at ow;obtain⟨hb,hle,_⟩:=BK (P:=P) (DJ hg hT hl) (DJ hg hT hhh) (Qj s.size) (Qj s.size) ow tL false w;refine⟨.string (s.extract l1 h1),?_,.O (PA hr hle)⟩;simp[Instr.sliceAt,Instr.slice,Ah he hu,hb]
   |_=>simp[gR]at h
  .exact Ao
 .next e hu=>
  split
  .next sz af=>
   intro C T a S w hg hT hS v h;obtain⟨u,ov,h⟩:=Qa.1 h;obtain⟨l,hl,h⟩:=Qa.1 h;obtain⟨hh,hhh,h⟩:=Qa.1 h;obtain⟨m,hm,h⟩:=Qa.1 h;obtain⟨z,hz,pk⟩:=yM (P:=P) he hu af hS (An hg hT ov) (DJ hg hT hl) (DJ hg hT hhh) (DJ hg hT hm) h;exact⟨z,by rw[hex];simp[hz],pk⟩
  .exact Ao
 .next n e hu=>
  split
  .next sz af=>
   intro C T a S w hg hT hS v h;obtain⟨u,ov,h⟩:=Qa.1 h;obtain⟨l,hl,h⟩:=Qa.1 h;obtain⟨hh,hhh,h⟩:=Qa.1 h;have hv:=An hg hT ov;rw[hex];have run:∀(ad:Addr) (l' h':Nat),(Instr.sliceBounds false n n (lo.map a.eval) (hi.map a.eval) none).run P w= .ok (l',h',n) w->
    (do pure (.value (<-Instr.sliceAt t (.pointer (some ad)) (lo.map a.eval) (hi.map a.eval) (Option.map a.eval none))):Sem Next).run P w=
     .ok (.value (.slice (some (if n=l' then ad else ad.add (l'*sz))) (h'-l') (n-l'))) w:=by
    intro ad l' h' hb;simp[Instr.sliceAt,Ah he hu,Instr.sureAddr,hb,A5 he af]
   generalize a.eval x=xv at hv;cases hv with
   |H_ hd=>
    simp only[gU]at h;obtain⟨h1,ow,h⟩:=Qa.1 h;obtain⟨l1,tL,h⟩:=Qa.1 h;obtain⟨hb,hle,hhn⟩:=BK (P:=P) (DJ hg hT hl) (DJ hg hT hhh) (Qj n) (Qj n) ow tL false w;refine⟨_,run _ l1 h1 hb,?_⟩;cases dH:Nat.beq n l1 with
    |true=>
     rw[dH]at h;cases h;have:n=l1:=Qb dH;subst this;have ZV:h1-n=0:=by omega
     rw[ZV,Nat.sub_self];exact .Ca _ (.some (by simpa using hS.g _ hd))
    |false=>
     rw[dH]at h;cases h;have ZT:n≠l1:=fun e=>by subst e;simp at dH
     simp only[ZT,if_false,Bh,Nat.add_assoc];exact .slice hd ⟨U,by omega⟩ (by omega)
   |Zu hm ha Zh YO=>
    simp only[gU,dZ]at h;obtain⟨h1,ow,h⟩:=Qa.1 h;obtain⟨l1,tL,h⟩:=Qa.1 h;obtain⟨q,hq,h⟩:=Qa.1 h;cases h;obtain⟨hb,hle,hhn⟩:=BK (P:=P) (DJ hg hT hl) (DJ hg hT hhh) (Qj n) (Qj n) ow tL false w;refine⟨_,run _ l1 h1 hb,?_⟩;obtain⟨y,hy,hyd,hql,hcq,_,nq⟩:=Zh.I hq;by_cases h0:(h1-l1)*sz=0
    .have:q=[]:=List.eq_nil_of_length_eq_zero (by omega);subst this;exact .Zk _ h0 (by omega)
    .have ZT:n≠l1:=by
      intro e;have:h1-l1=0:=by omega
      rw[this]at h0;simp at h0
     simp only[ZT,if_false,Bh];refine .Ck hql hm (vs:=y) ?_ hy (fun e=>by cases e) (hcq YO) (by omega);obtain⟨p1,q1,e1,e2⟩:=ha;obtain⟨p2,q2,e3,e4⟩:=nq;exact⟨p1++p2,q2++q1,by rw[e1,e3];simp,by simp[e2,e4]⟩
   |_=>simp[gU]at h
  .exact Ao
 .exact Ao
omit he in
theorem YZ.A {C:Cx} {b:Nat} {l:List Y2} {es:List MapEntry} (h:YZ C b l es):es.length=l.length:=by
 induction h with
 |O=>rfl
 |J _ _ _ _ _ ih=>simp[ih]
omit he in
theorem AN {w:World} {r:Nat} {x:Obj} (h:w.heap[r]?=some x) (hc:∀c e f,x≠ .cells c e f):(getObj r).run P w= .ok x w:=by
 simp only[getObj,Sem.run,h]
omit he in
structure mH (C:Cx) (b:Nat) (es:List Y2) (clock:Nat) (w:World) (arr:Array MapEntry) (l:List MapEntry):Prop where
 d:C.D b
 f:w.heap[(C.a b).Cr]?=some (.map arr clock)
 a:l.Perm arr.toList
 j:YZ C b es l
 e:Keys es
 c:(l.map (·.born)).Nodup
 i:∀n,C.G b n->C.b b n<clock
 g:∀n,C.G b n->n<clock
 inj:∀n m,C.G b n->C.G b m->C.b b n=C.b b m->n=m
omit he in
theorem YR.A {C:Cx} {S:St} {w:World} (h:YR C S w) {b:Nat} {es:List Y2} {clock:Nat} (hb:S.heap.u b=some (.O es clock)):∃arr l,mH C b es clock w arr l:=by
 obtain⟨hd,x,hx,hr⟩:=h.a b _ hb;cases hr with
 |Z hp h hk hn hc hg hi=>exact⟨_,_,hd,hx,hp,h,hk,hn,hc,hg,hi⟩
omit he in
theorem YZ.I {C:Cx} {b:Nat} {l:List Y2} {es:List MapEntry} (h:YZ C b l es) {n:Nat} (hh:∀k,C.G b k->C.b b k<n):∀e∈es,e.born<n:=by
 induction h with
 |O=>simp
 |J hk hv hg hn _ ih=>
  intro e he;rcases Qk.1 he with rfl|he
  .rw[hn];exact hh _ hg
  .exact ih e he
theorem ok_len {o:Oper} {c:Call} {t:TypeId} {x:Operand} (ho:o.op= .call c) (hc:c.callee= .builtin .len) (th:c.argTypes.toList.head?=some t) (iw:c.args.toList=[x]):
 b5 E P o (uB E t x):=by
 have aN:c.args= #[x]:=Array.ext' (by simpa using iw);have wK:c.argTypes[0]?=some t:=by rw[<-th,List.head?_eq_getElem?];simp
 have hex:∀ρ,execOp ρ o=(do pure (.value (<-Builtin.len_ c.argTypes o.type #[ρ x]))):=by
  intro ρ;simp[execOp,ho,resolve,hc,aN,invoke,builtin]
 unfold uB;split
 .next hu=>
  refine Br (G:=fun v=>Builtin.len_ c.argTypes o.type #[v]) hex ?_;intro C w v y r hv hr;cases hv with
  | @O _ q s hs=>
   cases hr;refine⟨goInt s.size,by simp[Builtin.len_,wK,Ah he hu],?_⟩;rw[<-hs];have:((ZA s.data.toList:Nat):Int)=(s.size:Int):=by simp
   rw[this];exact .int _ _
  |_=>simp[rO]at hr
 .next e hu=>
  refine Br (G:=fun v=>Builtin.len_ c.argTypes o.type #[v]) hex ?_;intro C w v y r hv hr;cases hv<;>simp only[jb]at hr<;>first|(cases hr;done)|skip
  all_goals
   cases hr;exact⟨_,by simp[Builtin.len_,wK,Ah he hu];rfl,.int _ _⟩
 .next n e hu=>
  refine Br (G:=fun v=>Builtin.len_ c.argTypes o.type #[v]) (f:=fun _=>some (.int .i64 n)) hex ?_;intro C w v y r hv hr;cases hr;exact⟨_,by simp[Builtin.len_,wK,Ah he hu];rfl,.int _ _⟩
 .next k e hu=>
  refine Gc (G:=fun v=>Builtin.len_ c.argTypes o.type #[v]) hex ?_;intro C S w v y r hS hv hr;simp only[xY]at hr;obtain⟨es,u0,hr⟩:=Qa.1 hr;cases hr;cases hv with
  |Zn=>cases u0;exact⟨_,by simp[Builtin.len_,wK,Ah he hu];rfl,.int _ _⟩
  |I_ hd=>
   simp only[iB]at u0;obtain⟨cl,hm⟩:=JW u0;obtain⟨arr,l,hmr⟩:=hS.A hm;have hx:=hmr.f;have hp:=hmr.a;have hents:=hmr.j;refine⟨goInt arr.size,by simp[Builtin.len_,wK,Ah he hu,AN hx (by intros;simp)],?_⟩;have:((ZA es:Nat):Int)=(arr.size:Int):=by
    have h1:=hents.A;have h2:=hp.length_eq;simp only[Array.length_toList]at h2;simp only[BV];omega
   rw[this];exact .int _ _
  |_=>simp[iB]at u0
 .next a hu=>
  split
  .next n e yK=>
   refine Br (G:=fun v=>Builtin.len_ c.argTypes o.type #[v]) (f:=fun _=>some (.int .i64 n)) hex ?_;intro C w v y r hv hr;cases hr;exact⟨_,by simp[Builtin.len_,wK,Ah he hu,Ah he yK];rfl,.int _ _⟩
  .exact Ao
 .exact Ao
theorem ok_cap {o:Oper} {c:Call} {t:TypeId} {x:Operand} (ho:o.op= .call c) (hc:c.callee= .builtin .cap) (th:c.argTypes.toList.head?=some t) (iw:c.args.toList=[x]):
 b5 E P o (xZ E t x):=by
 have aN:c.args= #[x]:=Array.ext' (by simpa using iw);have wK:c.argTypes[0]?=some t:=by rw[<-th,List.head?_eq_getElem?];simp
 have hex:∀ρ,execOp ρ o=(do pure (.value (<-Builtin.cap_ c.argTypes o.type #[ρ x]))):=by
  intro ρ;simp[execOp,ho,resolve,hc,aN,invoke,builtin]
 unfold xZ;split
 .next e hu=>
  refine Br (G:=fun v=>Builtin.cap_ c.argTypes o.type #[v]) hex ?_;intro C w v y r hv hr;cases hv with
  |Ca a hxx=>cases hr;exact⟨_,by simp[Builtin.cap_,wK,Ah he hu];rfl,.int _ _⟩
  | @slice _ b off len sz cap k hd ek cM=>
   cases cap with
   |none=>simp[wF]at hr
   |some n=>
    obtain⟨rfl,h0⟩:=ek;cases k with
    |zero=>omega
    |succ k=>cases hr;exact⟨_,by simp[Builtin.cap_,wK,Ah he hu];rfl,.int _ _⟩
  |ZX hxx hd ek=>simp[wF]at hr
  |_=>simp[wF]at hr
 .exact Ao
end
section
variable {E : a_} {P : Program} (he : Ym E P)
theorem E4 {C:Cx}:∀(l:List UInt8),Y0 C (d_ l) (l.map fun b=> .int .u8 b.toNat)/\h_ (d_ l)/\(d_ l).length=l.length
 | []=>⟨.O,(fun _ h=>by cases h),rfl⟩
 |c::l=>by
  obtain⟨h1,h2,h3⟩:=E4 (C:=C) l;refine⟨.J (.int _ _) h1,fun v hv=>?_,by simp[d_,h3]⟩;rcases Qk.1 hv with rfl|hv
  .rfl
  .exact h2 v hv
theorem Ef {C:Cx}:∀ {cs:List AV} {vs:List Value} {r:List UInt8},Y0 C cs vs->ZE cs=some r->
 ∃ns:List Int,vs=ns.map (.int .u8)/\r=ns.map fun n=>UInt8.ofNat n.toNat
 | [],vs,r,h,e=>by cases h;cases e;exact⟨[],rfl,rfl⟩
 |v::cs,vs,r,h,e=>by
  cases h with
  |J hv ht=>
  cases hv with
  |int k n=>
   cases k<;>simp only[ZE]at e<;>try (cases e;done)
   obtain⟨q,hq,e1⟩:=Qa.1 e;cases e1;obtain⟨ns,h1,h2⟩:=Ef ht hq;exact⟨n::ns,by simp[h1],by simp[h2]⟩
  |_=>simp[ZE]at e
include he
theorem Ml {e:TypeId} (h:r5 E e=true):CS E e=some (.int .u8):=by
 unfold r5 at h;split at h
 .next hu=>exact hu
 .cases h
omit he in
theorem Ny {w:World} (a:Addr):qF w a []:=fun j v h=>by simp at h
omit he in
theorem Fi {C:Cx} {S:St} {w:World} (hS:YR C S w) {v:AV} {x:Value} (hv:VR C v x) {sz:Nat} {p:List AV×Nat} (e:ZQ S sz v=some p):
 ∃a c vs,x= .slice a p.2 c/\Y0 C p.1 vs/\h_ p.1/\vs.length=p.2*sz/\(∀ad,a=some ad->qF w ad vs)/\(a=none->vs=[]):=by
 cases hv with
 |Ca a hxx=>cases e;exact⟨a,0,[],rfl,.O,(fun _ h=>by cases h),by simp,fun ad _=>Ny ad,fun _=>rfl⟩
 |Zk a h0 cM=>
  rename_i db cl len c
  simp only[ZQ]at e;cases hs:Nat.beq db sz with
  |false=>rw[hs]at e;cases e
  |true=>
   rw[hs]at e;obtain⟨l,hl,e1⟩:=Qa.1 e;cases e1;have:db=sz:=Qb hs;subst this;rw[h0]at hl;cases hl;exact⟨a,c,[],rfl,.O,(fun _ h=>by cases h),by simp[h0],fun ad _=>Ny ad,fun _=>rfl⟩
 |Ck hl hm ha Zh bu YO cM=>
  rename_i Cr off len db c cl cs ms vs
  simp only[ZQ]at e;cases hs:Nat.beq db sz with
  |false=>rw[hs]at e;cases e
  |true=>
   rw[hs]at e;obtain⟨l,nI,e1⟩:=Qa.1 e;cases e1;have:db=sz:=Qb hs;subst this;obtain⟨post,rfl,sd⟩:=Dk nI;obtain⟨y,z,rfl,h1,h2⟩:=AK Zh;obtain⟨cc,ty,fr,hx,rfl⟩:=hS.i _ _ hm;exact⟨_,c,y,rfl,h1,YO.sub.1,h1.u.trans sd,(fun ad te=>by cases te;exact Iu hx ha.left),(fun h=>by cases h)⟩
 |slice hd hc cM=>
  rename_i b off len db cap c
  simp only[ZQ]at e;cases hs:Nat.beq db sz with
  |false=>rw[hs]at e;cases e
  |true=>
   rw[hs]at e;obtain⟨cs,YO,e1⟩:=Qa.1 e;obtain⟨q,hq,e2⟩:=Qa.1 e1;obtain⟨l,nI,e3⟩:=Qa.1 e2;cases e3;have:db=sz:=Qb hs;subst this;obtain⟨pre,rfl,hp⟩:=BQ hq;obtain⟨post,rfl,sd⟩:=Dk nI;obtain⟨_,cc,ty,fr,vs,hx,Zh,ha,af,hcc,_⟩:=hS.u YO;obtain⟨y,z,rfl,h1,h2⟩:=AK Zh;obtain⟨z1,z2,rfl,h3,h4⟩:=AK h2;refine⟨_,c,z1,rfl,h3,(hcc.sub.2).sub.1,h3.u.trans sd,(fun ad te=>?_),(fun h=>by cases h)⟩;cases te;refine Iu hx ?_;have:=ha.sub (a:=y) (b:=z1) (c:=z2) (by simp);rw[h1.u,hp]at this;exact this
 |ZX hxx hd hc=>
  rename_i b off db a c
  simp only[ZQ]at e;cases hs:Nat.beq db sz with
  |false=>rw[hs]at e;cases e
  |true=>
   rw[hs]at e;obtain⟨cs,YO,e1⟩:=Qa.1 e;obtain⟨q,hq,e2⟩:=Qa.1 e1;obtain⟨l,nI,e3⟩:=Qa.1 e2;cases e3;rw[Nat.zero_mul]at nI;cases nI;exact⟨_,c,[],rfl,.O,(fun _ h=>by cases h),by simp,fun ad _=>Ny ad,fun _=>rfl⟩
 |_=>simp[ZQ]at e
omit he in
theorem U9 (ns:List Int) (s:ByteArray):(ns.foldl (fun r n=>r.push (UInt8.ofNat n.toNat)) s).data.toList=s.data.toList++ns.map fun n=>UInt8.ofNat n.toNat:=by
 induction ns generalizing s with
 |nil=>simp
 |cons n ns ih=>rw[List.foldl_cons,ih];simp
theorem RC {src dst e:TypeId} (h1:CS E src=some (.slice e)) (h2:CS E dst=some .string) (h3:r5 E e=true) {C:Cx} {S:St} {w:World} (hS:YR C S w) {v r:AV} {x:Value}
 (hv:VR C v x) (h:fi S v=some r):∃z,(convert src dst x).run P w= .ok z w/\VR C r z:=by
 simp only[fi]at h;obtain⟨p,hp,h⟩:=Qa.1 h;obtain⟨q,hq,h⟩:=Qa.1 h;cases h;obtain⟨a,c,vs,rfl,Zh,_,hlen,ox,tM⟩:=Fi hS hv hp;obtain⟨ns,hns,rfl⟩:=Ef Zh hq;rw[run_convert_bytes_string w src dst e a p.2 c (Dw he h1) (Dw he (Ml he h3)) (Dw he h2)];cases a with
 |none=>
  have h0:=tM rfl;rw[hns]at h0;have:ns=[]:=by simpa using h0
  subst this;exact⟨.string .empty,U,.O U⟩
 |some ad=>
  have hl:=Hw (P:=P) (ox ad rfl) p.2 (by simpa using hlen);rw[hns]at hl;exact⟨_,run_bytesToString w ad p.2 c ns hl,.O (by rw[U9];rfl)⟩
theorem QJ {src dst e:TypeId} (h1:CS E src=some .string) (h2:CS E dst=some (.slice e)) (h3:r5 E e=true) {C:Cx} {S:St} {w:World} (hS:YR C S w) {v:AV} {x:Value}
 (hv:VR C v x) {ob:Cv} {g:Nat->AV} (h:ml e v=some (.J ob g)):
 ∃C' z w',(convert src dst x).run P w= .ok z w'/\C6 C S w C' (S.A ob) w'/\VR C' (g S.a) z:=by
 cases hv with
 | @O _ l s hs=>
  cases h;obtain⟨b1,b2,b3⟩:=E4 (C:=C) l;let q:=Question.appendCap s.size 0 e
  let cap:=q.cut (w.tape w.drawn q)
  have ek:s.size<=cap:=Nat.le_add_right _ _;let arr:Array Value:=(s.data.map fun b=> .int .u8 b.toNat)++Array.replicate (cap-s.size) (.int .u8 0)
  have hlen:l.length=s.size:=by rw[<-hs];simp
  have hrow:bytesRow s cap=arr:=rfl;have uM:arr.size=cap:=by
   simp only[arr,Array.size_append,Array.size_map,Array.size_replicate];have:s.data.size=s.size:=rfl;omega
  have hlist:arr.toList=(l.map fun b=>Value.int .u8 b.toNat)++(List.replicate (cap-s.size) (.int .u8 0)):=by
   simp[arr,<-hs]
  have ku:=C6.B hS (w.drawn+1);have hal:=C6.A (ku.c) (.J (d_ l) e true) (.cells arr e (cap,cap+1)) cap (by
   refine .J (b1.mono (FQ ku.c _)) ?_ ?_ b2 (.inl (by rw[uM];exact Qj _)) (fun h=>by cases h)
   .rw[Bc,hlist];exact⟨[],List.replicate (cap-s.size) (.int .u8 0),by simp,rfl⟩
   .rw[Bc];exact uM)
  refine⟨_,.slice (some ⟨w.heap.size,0,none⟩) s.size cap,_,?_,ku.trans hal,?_⟩
  .rw[run_bytes_of_string w src dst e s (Dw he h1) (Dw he h2) (Dw he (Ml he h3))];show Result.ok (Value.slice _ s.size cap) (w.drew.alloc (.cells (bytesRow s cap) e ((bytesRow s cap).size,(bytesRow s cap).size+1)))=_;rw[hrow,uM];rfl
  .have:=DZ (C:=C) (S:=S) (w:= {w with drawn:=w.drawn+1}) (n:=cap) (len:=s.size) (sz:=1) (cap:=none) (c:=cap) ⟨by simp,Nat.one_pos⟩ ek;show VR _ (.slice S.a 0 (ZA l) 1 none) _;rw[BV,hlen];exact this
 |_=>simp[ml]at h
omit he in
theorem EW {o:Oper} {src dst:TypeId} {x:Operand} (ho:o.op= .convert src dst x):∀ρ,execOp ρ o=(do pure (.value (<-convert src dst (ρ x)))):=by
 intro ρ;simp[execOp,ho]
theorem Us {o:Oper} {src dst:TypeId} {x:Operand} (ho:o.op= .convert src dst x) {j k:IntKind} (h1:CS E src=some (.int j)) (h2:CS E dst=some (.int k)):
 b5 E P o (.O fun T=>(Ch E x T).bind (pI k)):=by
 refine Br (EW ho) ?_;intro C w v y r hv hr;cases hv with
 |int q n=>cases hr;exact⟨_,by simp[convert,Ah he h1,Ah he h2,Conv.intToInt],.int _ _⟩
 |_=>simp[pI]at hr
theorem Ur {o:Oper} {src dst:TypeId} {x:Operand} (ho:o.op= .convert src dst x) (h1:CS E src=some .string) (h2:CS E dst=some .string):
 b5 E P o (.O fun T=>(Ch E x T).bind uA):=by
 refine Br (EW ho) ?_;intro C w v y r hv hr;cases hv with
 |O hs=>cases hr;exact⟨_,by simp[convert,Ah he h1,Ah he h2],.O hs⟩
 |_=>simp[uA]at hr
theorem QI {src dst t:TypeId} {n:Nat} (h1:CS E src=some (.pointer t)) (h2:CS E dst=some .unsafePointer) (hs:Am.an E t=some (n+1)) {C:Cx} {S:St} {w:World} (hS:YR C S w)
 {v r:AV} {x:Value} (hv:VR C v x) (h:gO S v=some r):∃z,(convert src dst x).run P w= .ok z w/\VR C r z:=by
 cases hv with
 |Ys=>
  cases h;exact⟨_,by simp[convert,Ah he h1,Ah he h2,Conv.unsafePointer],.Ys⟩
 | @H_ _ b off hd=>
  simp only[gO]at h;obtain⟨cs,YO,h⟩:=Qa.1 h;cases hb:Nat.blt off (ZA cs)with
  |false=>rw[hb]at h;cases h
  |true=>
   rw[hb]at h;cases h;have C8:off<cs.length:=by simpa[Nat.blt_eq]using hb
   obtain⟨_,c,ty,fr,vs,hx,Zh,ha,af,_,_⟩:=hS.u YO;have hle:=ha.le;have e1:=Zh.u;simp only[Array.length_toList]at hle;have aZ:¬(c.size<=(C.a b).base+off):=by omega
   have hsh:w.shape? (C.a b).Cr=some (ty,c.size):=by simp[World.shape?,hx]
   refine⟨_,?_,.H_ hd⟩;simp[convert,Ah he h1,Ah he h2,Conv.unsafePointer,Conv.seenAt,viewAt,cellsIn,hsh,A5 he hs,aZ]
 |_=>simp[gO]at h
omit he in
theorem HH {u off:Nat}:∀ {fs:List Field},jV u off fs=true->∃f∈fs,f.offset=off/\f.type=u
 | [],h=>by cases h
 |f::l,h=>by
  simp only[jV,Bool.or_eq_true,Qf]at h;rcases h with⟨h1,h2⟩|h
  .exact⟨f,Qh ..,Qb h1,Qb h2⟩
  .obtain⟨g,hg,h⟩:=HH h;exact⟨g,Qg _ hg,h⟩
theorem I2 {t:TypeId} {n:Nat} (h:Am.an E t=some n):P.cellsOf t=n:=by
 unfold Am.an at h;cases hi:E.b.u t with
 |none=>rw[hi]at h;cases h
 |some i=>rw[hi]at h;simp[Program.cellsOf,he.d t i hi,Option.some.inj h]
theorem lies_ok {e u off n m k:Nat} (hn:Am.an E e=some n) (hm:Am.an E u=some (m+1)) (h:rN E e u off=true) (hk:n<=k) (ho:off<n):
 liesAt P P.depth e (k/P.cellsOf e) off u 1=true:=by
 have tJ:∃q,P.depth=q+2:=⟨_,rfl⟩
 obtain⟨q,hq⟩:=tJ;have hc:=I2 (P:=P) he hn;have hcu:=I2 (P:=P) he hm;have vF:∀t d,sameLayout P (d+1) t t=true:=fun t d=>by simp[sameLayout]
 have hcount:0<k/n:=Nat.div_pos hk (by omega);rw[hc];rw[hq,liesAt];refine Bool.or_eq_true_iff.2 (.inl ?_);rw[hq,rowAt,hc];have se:n≠0:=by omega
 have hmod:off % n=off:=Nat.mod_eq_of_lt ho;have hdiv:off/n=0:=Nat.div_eq_of_lt ho;simp only[se,if_false,hmod,hdiv];unfold rN at h;rcases Bool.or_eq_true_iff.1 h with h|h
 .simp only[Qf]at h;have e1:e=u:=Qb h.1;have e2:off=0:=Qb h.2;subst e1;subst e2;simp[vF];left;omega
 .rw[Qf]at h;obtain⟨hnest,h⟩:=h;split at h
  .next fs hu=>
   obtain⟨f,hf,h1,h2⟩:=HH h;refine Bool.or_eq_true_iff.2 (.inr ?_);simp only[Dw he hu,he.a e hnest];simp only[Qf,decide_eq_true_eq,Bool.not_false,true_and];refine⟨hcount,?_⟩;rw[<-Array.any_toList,List.any_eq_true];refine⟨f,hf,?_⟩;subst h1;subst h2;simp[rowAt,hcu,vF]
  .cases h
theorem N0 {src dst u:TypeId} {m:Nat} (h1:CS E src=some .unsafePointer) (h2:CS E dst=some (.pointer u)) (hs:Am.an E u=some (m+1)) {C:Cx} {S:St} {w:World} (hS:YR C S w)
 {v r:AV} {x:Value} (hv:VR C v x) (h:dR E S u v=some r):∃z,(convert src dst x).run P w= .ok z w/\VR C r z:=by
 cases hv with
 |Ys=>
  cases h;exact⟨_,by simp[convert,Ah he h1,Ah he h2,Conv.unsafePointer],.Ys⟩
 | @H_ _ b off hd=>
  simp only[dR]at h;unfold iA at h;split at h
  .next cs e uN=>
   obtain⟨n,hn,h⟩:=Qa.1 h;cases hb:(rN E e u off&&Nat.ble n (ZA cs)&&Nat.blt off n)with
   |false=>rw[hb]at h;cases h
   |true=>
    rw[hb]at h;cases h;simp only[Qf]at hb;obtain⟨⟨b1,b2⟩,b3⟩:=hb;obtain⟨_,xo,hx,hr⟩:=hS.a b _ uN;cases hr with
    |J Zh ha af YO hf hp=>
    rename_i c fr vs
    obtain⟨p1,p2,p3⟩:=hp rfl;have yP:=lies_ok (P:=P) (k:=c.size) he hn hs b1 (by have:=Qc b2;simp only[BV]at this;omega) (by simpa[Nat.blt_eq]using b3);have hsh:w.shape? (C.a b).Cr=some (e,c.size):=by simp[World.shape?,hx]
    refine⟨_,?_,.H_ hd⟩;rw[p1,Nat.zero_add];simp[convert,Ah he h1,Ah he h2,Conv.unsafePointer,Conv.seenAt,viewAt,variablesAt,hsh,A5 he hs,yP]
  .cases h
 |_=>simp[dR]at h
theorem ok_conv {o:Oper} {src dst:TypeId} {x:Operand} (ho:o.op= .convert src dst x):b5 E P o (gQ E src dst x):=by
 unfold gQ;split
 .next j k h1 h2=>exact Us he ho h1 h2
 .next t h1 h2=>
  split
  .next n hs=>exact Gc (EW ho) fun C S w v y r hS hv hr=>QI he h1 h2 hs hS hv hr
  .exact Ao
 .next u h1 h2=>
  split
  .next n hs=>exact Gc (EW ho) fun C S w v y r hS hv hr=>N0 he h1 h2 hs hS hv hr
  .exact Ao
 .next h1 h2=>exact Ur he ho h1 h2
 .next e h1 h2=>
  cases hb:r5 E e with
  |false=>exact Ao
  |true=>
   intro C T a S w hg hT hS;refine⟨fun v h=>?_,fun ob g h=>?_⟩
   .obtain⟨u,hu,h⟩:=Qa.1 h;unfold ml at h;split at h<;>cases h
   .obtain⟨u,hu,h⟩:=Qa.1 h;obtain⟨C',z,w',hz,ht,hr⟩:=QJ (P:=P) he h1 h2 hb hS (An hg hT hu) h;exact⟨C',z,w',by rw[EW ho];simp[hz],ht,hr⟩
 .next e h1 h2=>
  cases hb:r5 E e with
  |false=>exact Ao
  |true=>exact Gc (EW ho) fun C S w v y r hS hv hr=>RC he h1 h2 hb hS hv hr
 .exact Ao
end
theorem Pv (nK:Nat):∀(r c:Nat),Builtin.growBy nK r c<=Nat.max c (2*nK+192)
 |0,c=>Nat.le_max_left _ _
 |r+1,c=>by
  unfold Builtin.growBy;split
  .exact Nat.le_max_left _ _
  .refine Nat.le_trans (Pv nK r _)<|Nat.max_le.2 ⟨?_,Nat.le_max_right _ _⟩;exact Nat.le_trans (by omega) (Nat.le_max_right _ _)
theorem JR {nK cap:Nat} (h:cap<nK):Builtin.nextslicecap nK cap<=2*nK+512:=by
 unfold Builtin.nextslicecap;split
 .omega
 .split
  .omega
  .refine Nat.le_trans (Pv nK 4 cap) (Nat.max_le.2 ⟨by omega,by omega⟩)
theorem VO {nK cap b:Nat} (h:cap<nK) (hs:m_ nK b=true):¬(Builtin.nextslicecap nK cap*b>2^48):=by
 obtain⟨h1,h2,h3,h4⟩:=Dx hs;have:=Nat.mul_le_mul_right b (JR h);rw[Nat.add_mul,Nat.mul_assoc]at this;omega
section
variable {E : a_} {P : Program}
theorem qF.heap {w w':World} (h:w'.heap=w.heap) {a:Addr} {vs:List Value} (hh:qF w a vs):qF w' a vs:=by
 intro j v hv;have:=hh j v hv;unfold World.cell? at this|-;rw[h];exact this
theorem HE {C:Cx} {S:St} {w:World} (hS:YR C S w) {v:AV} {x:Value} (hv:VR C v x) {sz:Nat} {p:List AV×Nat} (e:ZQ S sz v=some p):
 ∃xs,(Builtin.lenOf x).run P w= .ok p.2 w/\Y0 C p.1 xs/\h_ p.1/\xs.length=p.2*sz/\∀w',w'.heap=w.heap->(Builtin.firstCells sz p.2 x).run P w'= .ok xs.toArray w':=by
 obtain⟨a,c,vs,rfl,Zh,YO,hlen,ox,tM⟩:=Fi hS hv e;refine⟨vs,rfl,Zh,YO,hlen,fun w' hw=>?_⟩;cases a with
 |none=>rw[tM rfl];rfl
 |some ad=>exact Hw ((ox ad rfl).heap hw) _ hlen
theorem PW {C:Cx} {S:St} {w:World} (hS:YR C S w) {v:AV} {x:Value} (hv:VR C v x) {sz:Nat} {p:List AV×Nat} (e:YQ S sz v=some p):
 ∃xs,(Builtin.lenOf x).run P w= .ok p.2 w/\Y0 C p.1 xs/\h_ p.1/\xs.length=p.2*sz/\∀w',w'.heap=w.heap->(Builtin.firstCells sz p.2 x).run P w'= .ok xs.toArray w':=by
 unfold YQ at e;split at e
 .next b=>
  cases hb:Nat.beq sz 1 with
  |false=>rw[hb]at e;cases e
  |true=>
   rw[hb]at e;cases e;have:sz=1:=Qb hb;subst this;cases hv with
   | @O _ l s hs=>
   obtain⟨b1,b2,b3⟩:=E4 (C:=C) b;refine⟨_,?_,b1,b2,by simp,fun w' _=>?_⟩
   .simp[Builtin.lenOf,<-hs]
   .subst hs;simp[Builtin.firstCells];apply Array.ext';simp
 .exact HE hS hv e
variable (he : Ym E P)
include he
def fU (P:Program) (a:Option Addr) (off:Nat) (xs:List Value) (w w':World):Prop:=match a with
 |some a=>(storeCells (a.add off) xs).run P w= .ok () w'
 |none=>w'=w
theorem Lm {ts:Array TypeId} {ty t e:TypeId} {sz n len cap:Nat} {x:Value} {xs:List Value} {a:Option Addr} {w w':World} (ht:ts[0]?=some t) (hu:CS E t=some (.slice e))
 (af:Am.an E e=some sz) (hz:aB E (ts.toList.tail.head?)=false) (hl:(Builtin.lenOf x).run P w= .ok n w) (hf:(Builtin.firstCells sz n x).run P w= .ok xs.toArray w)
 (b7:len+n<=cap) (hzs:∀u,ts[1]?=some u->∃d,CS E u=some d) (hw:fU P a (len*sz) xs w w'):
 (Builtin.append_ ts ty #[.slice a len cap,x]).run P w= .ok (.slice a (len+n) cap) w':=by
 have h1:ts[1]?=ts.toList.tail.head?:=by simp[List.head?_eq_getElem?]
 unfold fU at hw;cases h:ts[1]? with
 |none=>
  cases a with
  |none=>subst hw;simp[Builtin.append_,ht,h,Ah he hu,A5 he af,hl,b7,hf]
  |some a=>simp[Builtin.append_,ht,h,Ah he hu,A5 he af,hl,b7,hf,hw]
 |some u=>
  obtain⟨d,hd⟩:=hzs u h;rw[<-h1,h]at hz;simp only[aB,hd]at hz;have hm:Builtin.append_.match_1 (fun _=>Bool) d (fun _=>true) (fun _=>false)=false:=by cases d<;>first|rfl|(simp at hz)
  cases a with
  |none=>subst hw;simp[Builtin.append_,ht,h,Ah he hu,Ah he hd,hm,A5 he af,hl,b7,hf]
  |some a=>simp[Builtin.append_,ht,h,Ah he hu,Ah he hd,hm,A5 he af,hl,b7,hf,hw]
theorem J9 {ts:Array TypeId} {ty t e:TypeId} {sz CZ n len cap:Nat} {x z:Value} {xs dK:List Value} {a:Option Addr} {w:World} (ht:ts[0]?=some t) (hu:CS E t=some (.slice e))
 (af:Am.an E e=some sz) (kO:p_ E e=some CZ) (hz:aB E (ts.toList.tail.head?)=false) (hl:(Builtin.lenOf x).run P w= .ok n w)
 (hf:(Builtin.firstCells sz n x).run P w.drew= .ok xs.toArray w.drew) (ho:(Builtin.firstCells sz len (.slice a len cap)).run P w.drew= .ok dK.toArray w.drew)
 (xE:∀w,(zeroValue e).run P w= .ok z w) (b7:cap<len+n) (hs:m_ (len+n) CZ=true) (hzs:∀u,ts[1]?=some u->∃d,CS E u=some d):
 (Builtin.append_ ts ty #[.slice a len cap,x]).run P w= .ok (.slice (some ⟨w.heap.size,0,none⟩) (len+n) (grownCap w (len+n) cap e))
  (w.drew.alloc (.cells (dK.toArray++(xs.toArray++Builtin.zeroCells z.cells (grownCap w (len+n) cap e-(len+n)))) e)):=by
 have h1:ts[1]?=ts.toList.tail.head?:=by simp[List.head?_eq_getElem?]
 obtain⟨i,hi,hib⟩:=O2 he kO w;have rn:=VO b7 hs;obtain⟨b1,b2,b3,b4⟩:=Dx hs;have hn:¬(len+n<=cap):=by omega
 have nk:i.bytes≠0:=by omega
 have sf:¬(281474976710656<Builtin.nextslicecap (len+n) cap*i.bytes):=by rw[hib];exact rn
 have hi':∀w',(typeInfo e).run P w'= .ok i w':=by
  intro w';unfold p_ at kO;cases hj:E.b.u e with
  |none=>rw[hj]at kO;cases kO
  |some j=>
   have:=BO he hj w;rw[hi]at this;cases this;exact BO he hj w'
 cases h:ts[1]? with
 |none=>
  simp[Builtin.append_,ht,h,Ah he hu,A5 he af,hl,hn,hi',nk,sf,Question.forced,hf,ho,xE,newRow,grownCap]
 |some u=>
  obtain⟨d,hd⟩:=hzs u h;rw[<-h1,h]at hz;simp only[aB,hd]at hz;have hm:Builtin.append_.match_1 (fun _=>Bool) d (fun _=>true) (fun _=>false)=false:=by cases d<;>first|rfl|(simp at hz)
  simp[Builtin.append_,ht,h,Ah he hu,Ah he hd,hm,A5 he af,hl,hn,hi',nk,sf,Question.forced,hf,ho,xE,newRow,grownCap]
theorem RU {e:TypeId} {CZ n:Nat} (kO:p_ E e=some CZ) (hn:n<=1048576) (hb:n=0\/CZ<=1048576):
 ∃i,(∀w',(typeInfo e).run P w'= .ok i w')/\i.bytes=CZ/\IntKind.i64.wrap (n:Int)=n/\¬(281474976710656:Int)<(n:Int)*(i.bytes:Int):=by
 have hw:IntKind.i64.wrap (n:Int)=n:=FC (by omega);unfold p_ at kO;cases hj:E.b.u e with
 |none=>rw[hj]at kO;cases kO
 |some j=>
  rw[hj]at kO;have hib:j.bytes=CZ:=Option.some.inj kO;refine⟨j,BO he hj,hib,hw,?_⟩;rw[hib];rcases hb with rfl|hb
  .simp
  .have h1:n*CZ<=1048576*1048576:=Nat.mul_le_mul hn hb;have h2:((n*CZ:Nat):Int)<=((1048576*1048576:Nat):Int):=Int.ofNat_le.2 h1;rw[Int.natCast_mul]at h2;omega
theorem JA {ts:Array TypeId} {ty t e:TypeId} {sz CZ n len cap:Nat} {k:IntKind} {z:Value} {a:Option Addr} {w w':World} (ht:ts[0]?=some t) (hu:CS E t=some (.slice e))
 (af:Am.an E e=some sz) (kO:p_ E e=some CZ) (hz:aB E (ts.toList.tail.head?)=true) (hn:n<=1048576) (hb:n=0\/CZ<=1048576) (xE:∀w,(zeroValue e).run P w= .ok z w)
 (b7:len+n<=cap) (qH:n≠0->sz≠0) (hw:fU P a (len*sz) (Builtin.zeroCells z.cells n).toList w w'):
 (Builtin.append_ ts ty #[.slice a len cap,.int k n]).run P w= .ok (.slice a (len+n) cap) w':=by
 have h1:ts[1]?=ts.toList.tail.head?:=by simp[List.head?_eq_getElem?]
 unfold fU at hw;cases h:ts[1]? with
 |none=>rw[<-h1,h]at hz;cases hz
 |some u=>
  rw[<-h1,h]at hz;simp only[aB]at hz;split at hz
  .next j hd=>
   obtain⟨i,hi,hib,yQ,C8⟩:=RU he kO hn hb;have mG:¬((n:Int)<0):=by omega
   by_cases h0:n=0
   .subst h0;have hwr':IntKind.i64.wrap 0=0:=yQ;have hfit':len<=cap:=b7;have hzc:Builtin.zeroCells z.cells 0= #[]:=by simp[Builtin.zeroCells]
    rw[hzc]at hw;cases a with
    |none=>subst hw;simp[Builtin.append_,ht,h,Ah he hu,Ah he hd,A5 he af,asInt,asIntOf,hwr',hi,hfit']
    |some a=>simp at hw;simp[Builtin.append_,ht,h,Ah he hu,Ah he hd,A5 he af,asInt,asIntOf,hwr',hi,hfit',hw]
   .have h00:¬(n*sz=0):=by have:=qH h0;simp only[Nat.mul_eq_zero];omega
    cases a with
    |none=>subst hw;simp[Builtin.append_,ht,h,Ah he hu,Ah he hd,A5 he af,asInt,asIntOf,yQ,hi,C8,mG,xE,b7]
    |some a=>simp only at hw;simp[Builtin.append_,ht,h,Ah he hu,Ah he hd,A5 he af,asInt,asIntOf,yQ,hi,C8,mG,h00,xE,b7,hw]
  .cases hz
theorem IV {ts:Array TypeId} {ty t e:TypeId} {sz CZ n len cap:Nat} {k:IntKind} {z:Value} {dK:List Value} {a:Option Addr} {w:World} (ht:ts[0]?=some t) (hu:CS E t=some (.slice e))
 (af:Am.an E e=some sz) (kO:p_ E e=some CZ) (hz:aB E (ts.toList.tail.head?)=true) (hn:n<=1048576) (xE:∀w,(zeroValue e).run P w= .ok z w)
 (ho:(Builtin.firstCells sz len (.slice a len cap)).run P w.drew= .ok dK.toArray w.drew)
 (b7:cap<len+n) (hs:m_ (len+n) CZ=true) (qH:sz≠0) (se:n≠0):
 (Builtin.append_ ts ty #[.slice a len cap,.int k n]).run P w= .ok (.slice (some ⟨w.heap.size,0,none⟩) (len+n) (grownCap w (len+n) cap e))
  (w.drew.alloc (.cells (dK.toArray++(Builtin.zeroCells z.cells n++Builtin.zeroCells z.cells (grownCap w (len+n) cap e-(len+n)))) e)):=by
 have h1:ts[1]?=ts.toList.tail.head?:=by simp[List.head?_eq_getElem?]
 have rn:=VO b7 hs;obtain⟨b1,b2,b3,b4⟩:=Dx hs;obtain⟨i,hi,hib,yQ,C8⟩:=RU he kO hn (.inr b4);have mG:¬((n:Int)<0):=by omega
 have h00:¬(n*sz=0):=by simp only[Nat.mul_eq_zero];omega
 have hnf:¬(len+n<=cap):=by omega
 have nk:i.bytes≠0:=by omega
 have hmx:¬(9223372036854775807<(len:Int)+(n:Int)):=by omega
 have sf:¬(281474976710656<Builtin.nextslicecap (len+n) cap*i.bytes):=by rw[hib];exact rn
 cases h:ts[1]? with
 |none=>rw[<-h1,h]at hz;cases hz
 |some u=>
  rw[<-h1,h]at hz;simp only[aB]at hz;split at hz
  .next j hd=>
   simp[Builtin.append_,ht,h,Ah he hu,Ah he hd,A5 he af,asInt,asIntOf,yQ,hi,C8,mG,h00,xE,hnf,hmx,sf,Question.forced,ho,newRow,grownCap]
  .cases hz
end
end Am
