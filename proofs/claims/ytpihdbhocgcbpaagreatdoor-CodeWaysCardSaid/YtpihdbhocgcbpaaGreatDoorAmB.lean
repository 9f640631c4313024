/- The abstract machine: its operations are the model's, first part. -/
import Derived.Test.YtpihdbhocgcbpaaGreatDoorAmA
import Derived.Laws.Tables
import Derived.IntWalk
import Derived.Laws.Strings
import Derived.ChangeKeysEq
import Derived.LaidEql
import Derived.Laws.IdiomStrings
set_option linter.unusedSectionVars false
set_option linter.unusedVariables false
set_option linter.unusedSimpArgs false
namespace Am
open Go
def WN (E:c_) (C:Cx):Prop:=∀g cs,E.i g=some cs->∃ms,C.M g=some ms/\Wx C cs ms/\j_ cs
theorem WN.mono {E:c_} {C C':Cx} (h:WN E C) (e:m_ C C'):WN E C':=fun g cs hg=>
 let⟨ms,hm,hv,hc⟩:=h g cs hg;⟨ms,e.M _ _ hm,hv.z e,hc⟩
inductive qH (C:Cx):fY->Deferred->Prop where
 |O {fn:Fn} {a b:List AV} {x y:Array Value} (hf:∀l,fn≠ .yield l) (ha:Wx C a x.toList) (hb:Wx C b y.toList):qH C ⟨.O fn b,a⟩ ⟨.fn fn y,x⟩
 |J {r:Nat} (hd:C.D r):qH C ⟨.J r,[]⟩ ⟨.collected (C.a r).b, #[]⟩
inductive vF (C:Cx):AV->Next->Prop where
 |J {v:AV} {x:Value} (h:VR C v x):vF C v (.value x)
 |O:vF C (.Y []) .skip
def W5 (E:c_) (P:Program) (o:Oper) (so:cf):Prop:=
 ∀(C:Cx) (T:Tr AV) (a:Act) (S:St) (w:World),WN E C->TR C a.tmps.size T a.tmps->WW C S w->
 match so with
 | .J=>True
 | .O f=>∀v,f T=some v->∃x,(execOp a.eval o).run P w= .ok (.value x) w/\VR C v x
 | .Y _ f=>∀v,f T S=some v->∃x,(execOp a.eval o).run P w= .ok (.value x) w/\VR C v x
 | .c_ f=>∀v,f T S=some v->∃x,(execOp a.eval o).run P w= .ok (.value x) w/\VR C v x
 | .an f=>(∀v,f T=some (.O v)->∃C' x w',(execOp a.eval o).run P w= .ok (.value x) w'/\CE C S w C' S w'/\VR C' v x)/\
  (∀ob g,f T=some (.J ob g)->∃C' x w',(execOp a.eval o).run P w= .ok (.value x) w'/\CE C S w C' (S.g ob) w'/\VR C' (g S.a) x)
 | .a_ _ _ f=>∀v S',f T S=some (v,S')->∃C' nx w',(execOp a.eval o).run P w= .ok nx w'/\CE C S w C' S' w'/\vF C' v nx
 | .d_ f=>∀l,f T=some l->∃v∈l,∃x,(execOp a.eval o).run P w= .ok (.value x) w/\VR C v x
 | .Cc f=>∀l,f T S=some l->∃p∈l,∃C' x w',(execOp a.eval o).run P w= .ok (.value x) w'/\CE C S w C' p.2 w'/\VR C' p.1 x
 | .aG f=>∀g args,f T S=some (g,args)->∃xs,(execOp a.eval o).run P w= .ok (.enter g xs) w/\Wx C args xs.toList
 | .Z1 f ar=>∀g args,f T=some g->ar T=some args->∃gx xs,VR C g gx/\Wx C args xs.toList/\
  execOp a.eval o=(do let d<-Deferred.ofValue gx xs;invoke d.target d.args)
 | .bW f=>∀d,f T=some d->∃dv,(execOp a.eval o).run P w= .ok (.defer dv) w/\qH C d dv
 | .b_ f=>∀v,f T=some v->∃x,(execOp a.eval o).run P w= .halt (.panic x) w/\VR C v x
 | .Z=>(execOp a.eval o).run P w= .ok .recover w
theorem Al {E:c_} {C:Cx} {T:Tr AV} {a:Act} (hg:WN E C) (hT:TR C a.tmps.size T a.tmps) {x:Operand} {v:AV} (h:Ci E x T=some v):VR C v (a.eval x):=by
 cases x with
 |tmp t=>
  obtain⟨y,hy,hr⟩:=hT.2 t v h;simpa[Act.eval,Array.getD_eq_getD_getElem?,hy]using hr
 |const c=>
  simp only[Ci]at h;cases hc:nR c with
  |none=>rw[hc]at h;simp[vj,E']at h
  |some u=>rw[hc]at h;simp only[vj,uc]at h;cases h;exact Mu hc
 |global g=>
  simp only[Ci]at h;cases hc:E.i g with
  |none=>rw[hc]at h;simp[E']at h
  |some cs=>
   rw[hc]at h;simp only[uc]at h;cases h;obtain⟨ms,hm,hv,WS⟩:=hg g cs hc;have hw:YT ms 0 ms:= .whole ms;exact .XD hm hw hv WS
 |func f=>
  simp only[Ci,uc]at h;cases h;exact .Z (fun l e=>by cases e) .O .O
theorem Ei {E:c_} {C:Cx} {T:Tr AV} {a:Act} (hg:WN E C) (hT:TR C a.tmps.size T a.tmps):∀ {l:List Operand} {vs:List AV},CZ E l T=some vs->Wx C vs (l.map a.eval)
 | [],vs,h=>by cases h;exact .O
 |x::l,vs,h=>by
  simp only[CZ]at h;obtain⟨v,hv,h⟩:=Qa.1 h;obtain⟨r,hr,h⟩:=Qa.1 h;cases h;exact .J (Al hg hT hv) (Ei hg hT hr)
theorem Mp {E:c_} {C:Cx} {T:Tr AV} {a:Act} (hg:WN E C) (hT:TR C a.tmps.size T a.tmps):∀ {l:List (Nat×Operand)} {ps:List (Nat×AV)},bp E l T=some ps->
 ps.map (·.1)=l.map (·.1)/\Wx C (ps.map (·.2)) (l.map fun p=>a.eval p.2)
 | [],ps,h=>by cases h;exact⟨rfl,.O⟩
 |p::l,ps,h=>by
  simp only[bp]at h;obtain⟨v,hv,h⟩:=Qa.1 h;obtain⟨r,hr,h⟩:=Qa.1 h;cases h;obtain⟨h1,h2⟩:=Mp hg hT hr;exact⟨by simp[h1],.J (Al hg hT hv) h2⟩
theorem FL {C:Cx} {v:AV} {x:Value} {n:Nat} (h:VR C v x) (e:Xb v=some n):∃k,x= .int k n:=by
 cases h with
 |int k m=>
  cases m with
  |ofNat m=>simp only[Xb,Option.some.injEq]at e;subst e;exact⟨k,rfl⟩
  |negSucc m=>simp[Xb]at e
 |_=>simp[Xb]at e
section
variable {E : c_} {P : Program}
theorem Bm {o:Oper} {x:Operand} {f:AV->Option AV} {G:Value->Sem Value} (ho:∀ρ,execOp ρ o=(do pure (.value (<-G (ρ x)))))
 (h:∀(C:Cx) (w:World) v y r,VR C v y->f v=some r->∃z,(G y).run P w= .ok z w/\VR C r z):W5 E P o (.O fun T=>(Ci E x T).bind f):=by
 intro C T a S w hg hT hS v hv;obtain⟨u,hu,hv⟩:=Qa.1 hv;obtain⟨z,hz,hr⟩:=h C w u _ v (Al hg hT hu) hv;exact⟨z,by rw[ho];simp[hz],hr⟩
theorem EC {o:Oper} {x y:Operand} {f:AV->AV->Option AV} {G:Value->Value->Sem Value} (ho:∀ρ,execOp ρ o=(do pure (.value (<-G (ρ x) (ρ y)))))
 (h:∀(C:Cx) (w:World) v u y z r,VR C v y->VR C u z->f v u=some r->∃q,(G y z).run P w= .ok q w/\VR C r q):W5 E P o (Zh E f x y):=by
 intro C T a S w hg hT hS v hv;obtain⟨u,hu,hv⟩:=Qa.1 hv;obtain⟨u',kY,hv⟩:=Qa.1 hv;obtain⟨z,hz,hr⟩:=h C w u u' _ _ v (Al hg hT hu) (Al hg hT kY) hv;exact⟨z,by rw[ho];simp[hz],hr⟩
theorem Hx {o:Oper} {x y:Operand} {f:St->AV->Option AV} {G:Value->Sem Value} (ho:∀ρ,execOp ρ o=(do pure (.value (<-G (ρ x)))))
 (h:∀(C:Cx) (S:St) (w:World) v y r,WW C S w->VR C v y->f S v=some r->∃z,(G y).run P w= .ok z w/\VR C r z):
 W5 E P o (.Y (Ci E y) fun T s=>(Ci E x T).bind (f s)):=by
 intro C T a S w hg hT hS v hv;obtain⟨u,hu,hv⟩:=Qa.1 hv;obtain⟨z,hz,hr⟩:=h C S w u _ v hS (Al hg hT hu) hv;exact⟨z,by rw[ho];simp[hz],hr⟩
theorem Y' {o:Oper} {c x y:Operand} (ho:o.op= .pick c x y):W5 E P o (.O fun T=>(Ci E c T).bind (lH (Ci E x) (Ci E y) T)):=by
 intro C T a S w hg hT hS v h;obtain⟨t,ht,h⟩:=Qa.1 h;have hc:=Al hg hT ht;generalize he:a.eval c=z at hc;cases hc with
 |bool b=>
  cases b with
  |true=>exact⟨_,by simp[execOp,ho,asBool,he],Al hg hT h⟩
  |false=>exact⟨_,by simp[execOp,ho,asBool,he],Al hg hT h⟩
 |_=>simp[lH]at h
theorem Um {o:Oper} {x:Operand} (ho:o.op= .move x\/o.op= .assign x):W5 E P o (.O (Ci E x)):=by
 intro C T a S w hg hT hS v h;refine⟨_,?_,Al hg hT h⟩;rcases ho with ho|ho<;>simp[execOp,ho]
abbrev Cx.u (C:Cx) (S:St) (w:World) (n:Nat):Cx:=C.A S.a ⟨w.heap.size,0,n⟩
theorem Hb {C:Cx} {S:St} {w:World} (hS:WW C S w) (n:Nat):m_ C (C.u S w n):=m_.A (fun hd=>Nat.lt_irrefl _ (hS.d _ hd))
theorem DD {C:Cx} {S:St} {w:World} (hS:WW C S w) {cs:List AV} {c:Array Value} {vs ex:List Value} (hv:Wx C cs vs) (hc:c.toList=vs++ex) (WS:j_ cs)
 (t:TypeId) (part:Bool) (hp:part=false->ex=[]):CE C S w (C.u S w c.size) (S.g (.J cs t part)) (e_.u w (.cells c t (0,0))):=by
 refine CE.A hS _ _ c.size (.J (hv.z (Hb hS _)) ?_ ?_ WS (.inr (Qj _)) ?_)
 .rw[Bk,hc];exact⟨[],ex,by simp,rfl⟩
 .rw[Bk]
 .intro h;rw[Bk];refine⟨U,?_,U⟩;have:=congrArg List.length hc;rw[hp h]at this;simpa[hv.g]using this.symm
theorem F2 {C:Cx} {S:St} {w:World} {n:Nat} (off:Nat):VR (C.u S w n) (.J S.a off) (.pointer (some ⟨w.heap.size,off,none⟩)):=by
 have:=VR.aG (C:=C.u S w n) (off:=off) (IJ C S.a ⟨w.heap.size,0,n⟩);rw[Bk]at this;simpa using this
theorem EV {C:Cx} {S:St} {w:World} {n len sz:Nat} {cap:Option Nat} {c:Nat} (h:match cap with|some k=>c=k/\0<k|none=>c*sz=n/\0<sz) (Zu:len<=c):
 VR (C.u S w n) (.Z S.a 0 len sz cap) (.slice (some ⟨w.heap.size,0,none⟩) len c):=by
 have:=VR.O (C:=C.u S w n) (b:=S.a) (off:=0) (len:=len) (sz:=sz) (cap:=cap) (c:=c) (IJ C S.a ⟨w.heap.size,0,n⟩) (by
  cases cap with
  |some k=>exact h
  |none=>simpa[qG,Bk]using h) Zu
 rw[Bk]at this;simpa using this
variable (he : Wd E P)
include he
theorem vG {o:Oper} {t:TypeId} (ho:o.op= .alloc t):W5 E P o (gW E t):=by
 unfold gW;cases hz:h_ E t with
 |none=>intro C T a S w _ _ _;trivial
 |some z=>
  simp only;cases ht:z.u with
  |true=>intro C T a S w _ _ _;trivial
  |false=>
   intro C T a S w hg hT hS;refine⟨(nofun),fun ob g h=>?_⟩;cases h;obtain⟨x,hx,hr,_⟩:=GH he hz w;refine⟨_,_,_,?_,DD hS (hr C).u (c:=x.cells) (ex:=[]) (by simp) ((hr C).A ht) t false (fun _=>rfl),F2 0⟩;simp[execOp,ho,Instr.alloc,hx,newVar,newRow,e_.u]
omit he in
theorem ok_box {o:Oper} {t:TypeId} {x:Operand} (ho:o.op= .box t x):
 W5 E P o (.an fun T=>(Ci E x T).bind fun v=>bif v.u then none else some (.J (.J v.g t false) fun b=> .J b 0)):=by
 intro C T a S w hg hT hS;have key:∀m,((Ci E x T).bind fun v=>bif v.u then none else some (Mk.J (.J v.g t false) fun b=> .J b 0))=some m->
  ∃v,Ci E x T=some v/\v.u=false/\m= .J (.J v.g t false) fun b=> .J b 0:=by
  intro m h;obtain⟨v,hv,h⟩:=Qa.1 h;cases ht:v.u with
  |true=>rw[ht]at h;cases h
  |false=>rw[ht]at h;cases h;exact⟨v,hv,ht,rfl⟩
 refine⟨fun v h=>?_,fun ob g h=>?_⟩
 .obtain⟨_,_,_,h⟩:=key _ h;cases h
 .obtain⟨v,hv,ht,h⟩:=key _ h;cases h;have hr:=Al hg hT hv;refine⟨_,_,_,?_,DD hS hr.u (c:=(a.eval x).cells) (ex:=[]) (by simp) (hr.A ht) t false (fun _=>rfl),F2 0⟩;simp[execOp,ho,Instr.box,newVar,newRow,e_.u]
end
theorem MZ (off:Nat):∀(l:List Value) (k:Nat) (c:Array Value),(l.zipIdx k).foldl (fun cs (p:Value×Nat)=>cs.setIfInBounds (off+p.2) p.1) c=y_ c (off+k) l
 | [],_,_=>rfl
 |v::l,k,c=>by
  rw[List.zipIdx_cons,List.foldl_cons,MZ off l (k+1)];rfl
theorem M7 {C:Cx} {place:Nat->Option (Nat×Nat)}:∀ {ps:List (Nat×AV)} {qs:List (Nat×Value)} {cells:List AV} {xs:Array Value} {r:List AV},
 ps.map (·.1)=qs.map (·.1)->Wx C (ps.map (·.2)) (qs.map (·.2))->Wx C cells xs.toList->j_ cells->aP place ps cells=some r->
 ∃ys,Instr.fill place xs qs=some ys/\Wx C r ys.toList/\j_ r/\ys.size=xs.size
 | [],qs,cells,xs,r,h1,_,h3,WS,h=>by
  have:qs=[]:=by cases qs with|nil=>rfl|cons _ _=>simp at h1
  subst this;cases h;exact⟨xs,U,h3,WS,U⟩
 |p::ps,qs,cells,xs,r,h1,h2,h3,WS,h=>by
  cases qs with
  |nil=>simp at h1
  |cons q qs=>
  obtain⟨qi,qv⟩:=q;obtain⟨i,v⟩:=p;simp only[List.map_cons,List.cons.injEq]at h1;obtain⟨rfl,h1⟩:=h1;simp only[List.map_cons]at h2;cases h2 with
  |J hv h2=>
  simp only[aP]at h;obtain⟨q,hq,h⟩:=Qa.1 h;cases hb:(Nat.beq (Xu v.g) q.2&& !v.u)with
  |false=>rw[hb]at h;cases h
  |true=>
  rw[hb]at h;simp only[Qf,Bool.not_eq_true']at hb;obtain⟨cs,hov,h⟩:=Qa.1 h;have hlen:v.g.length=q.2:=by have:=Qb hb.1;simpa using this
  have X2:qv.cells.size=q.2:=by have:=hv.u.g;simpa[hlen]using this
  obtain⟨pre,aI,post,rfl,hp,hm,rfl⟩:=Jl hov;obtain⟨y,z3,he,a1,a4⟩:=AB h3;obtain⟨y1,z2,rfl,a2,a3⟩:=AB a1;have Zx:(y_ xs q.1 qv.cells.toList).toList=y1++qv.cells.toList++z3:=
   FI _ xs _ y1 z2 z3 he (by rw[a2.g,hp]) (by rw[a3.g,hm,hv.u.g])
  have hle:q.1+qv.cells.size<=xs.size:=by
   have:=congrArg List.length he;simp only[Qm,Array.length_toList]at this;have e1:=a2.g;have e2:=a3.g;have e3:=hv.u.g;simp only[Array.length_toList]at e3;omega
  obtain⟨ys,sd,hr,rF,hs⟩:=M7 (place:=place) (ps:=ps) (qs:=qs) (xs:=y_ xs q.1 qv.cells.toList) h1 h2 (by rw[Zx];exact(a2.u hv.u).u a4)
   ((WS.sub.1.sub.1.append (hv.A hb.2)).append WS.sub.2) h
  refine⟨ys,?_,hr,rF,hs.trans (DC _ _ _)⟩;have hz:qv.cells.zipIdx.foldl (fun cs (p:Value×Nat)=>cs.setIfInBounds (q.1+p.2) p.1) xs=y_ xs q.1 qv.cells.toList:=by
   rw[<-Array.foldl_toList,Array.toList_zipIdx];exact MZ q.1 _ 0 xs
  have hc:(decide (qv.cells.size≠q.2)||decide (q.1+qv.cells.size>xs.size))=false:=by
   simp[X2];omega
  obtain⟨q1,q2⟩:=q;simp only at hc hz sd;simp only[Instr.fill,hq];rw[hc];simp only[Bool.false_eq_true,if_false];rw[<-sd,<-hz]
section
variable {E : c_} {P : Program} (he : Wd E P)
include he
theorem NB:∀ {l:List Field} {ps:List (Nat×Nat)},cg E l=some ps->l.mapM (fun f=>(P.info? f.type).map fun i=>(f.offset,i.size))=some ps
 | [],ps,h=>by cases h;rfl
 |f::l,ps,h=>by
  simp only[cg]at h;obtain⟨n,hn,h⟩:=Qa.1 h;obtain⟨r,hr,h⟩:=Qa.1 h;cases h;have ih:=NB hr;unfold Am.an at hn;cases hi:E.b.g f.type with
  |none=>rw[hi]at hn;cases hn
  |some i=>
   rw[hi]at hn;simp[List.mapM_cons,ih,he.c _ i hi,Option.some.inj hn]
theorem vH {o:Oper} {t:TypeId} {parts:Array (Nat×Operand)} (ho:o.op= .build t parts):W5 E P o (lq E t parts.toList):=by
 unfold lq;cases Y1:bk E t with
 |none=>intro C T a S w _ _ _;trivial
 |some pl=>
  intro C T a S w hg hT hS v h;obtain⟨ps,ti,h⟩:=Qa.1 h;obtain⟨h1,h2⟩:=Mp hg hT ti;cases hf:aP pl.2 ps pl.1 with
  |none=>rw[hf]at h;cases h
  |some r=>
  rw[hf]at h;cases h;unfold bk at Y1;obtain⟨z,hz,Y1⟩:=Qa.1 Y1;obtain⟨x,hx,hr,hiz⟩:=GH he hz w;have vI:j_ z.g:=(hr C).A (Dp hz);cases hu:Wb E t with
  |none=>rw[hu]at Y1;cases Y1
  |some d=>
  rw[hu]at Y1;have eJ:ps.map (·.1)=(parts.toList.map fun p=>(p.1,a.eval p.2)).map (·.1):=by simpa[List.map_map,Function.comp_def]using h1
  have kD:Wx C (ps.map (·.2)) ((parts.toList.map fun p=>(p.1,a.eval p.2)).map (·.2)):=by simpa[List.map_map,Function.comp_def]using h2
  split at Y1
  .next fields heq=>
   cases heq;obtain⟨pls,hpls,Y1⟩:=Qa.1 Y1;cases Y1;have hfun:(l_ pls:Nat->Option (Nat×Nat))=fun i=>pls[i]?:=by funext i;simp[E4]
   simp only at hf;rw[hfun]at hf;obtain⟨ys,sd,ug,rF,_⟩:=M7 eJ kD (hr C).u vI hf;refine⟨.agg ys,?_,.a_ ug rF⟩;have hpp:=run_places (P:=P) w _ _ (NB he hpls);simp[execOp,ho,Instr.build,hx,Ag he hu,Array.mapM_eq_mapM_toList,hpp,sd]
  .next n elem heq=>
   cases heq;obtain⟨sz,X2,Y1⟩:=Qa.1 Y1;cases Y1;simp only at hf;obtain⟨ys,sd,ug,rF,_⟩:=M7 eJ kD (hr C).u vI hf;refine⟨.agg ys,?_,.a_ ug rF⟩;simp[execOp,ho,Instr.build,hx,Ag he hu,A1 he X2,sd]
  .cases Y1
omit he in
theorem Wx.N {C:Cx} {l:List AV} {x:List Value} (h:Wx C l x) {i:Nat} {v:AV} (e:Am.l_ l i=some v):∃y,x[i]?=some y/\VR C v y:=
 h.I (by rw[<-E4];exact e)
omit he in
theorem Wx.M {C:Cx} {l q:List AV} {x:List Value} (h:Wx C l x) {off n:Nat} (e:Am.v_ l off n=some q):
 ∃y,Wx C q y/\y=(x.drop off).take n/\q.length=n/\(j_ l->j_ q)/\off+n<=x.length/\YT x off y:=by
 obtain⟨pre,post,rfl,hp,hn⟩:=FX e;obtain⟨y,z3,rfl,a1,a3⟩:=AB h;obtain⟨y1,y2,rfl,a2,a4⟩:=AB a1;have e1:=a2.g;have e2:=a4.g;refine⟨y2,a4,?_,hn,fun hc=>hc.sub.1.sub.2,?_,⟨y1,z3,rfl,by omega⟩⟩
 .rw[<-hp,<-e1];simp[<-hn,<-e2]
 .simp;omega
theorem Fk {t:TypeId} {n:Nat} (h1:j' E t=some true) (h2:Am.an E t=some n) {C:Cx} {cs:List AV} {xs:Array Value} (hv:Wx C cs xs.toList) (hc:j_ cs)
 {off:Nat} {q:List AV} (e:Am.v_ cs off n=some q) (w:World):∃z,(part t xs off).run P w= .ok z w/\VR C (.O q) z:=by
 obtain⟨y,hy,rfl,hq,hcq,hle,_⟩:=hv.M e;refine⟨.agg (xs.extract off (off+n)),by simp[part,Mj he h1,A1 he h2],.a_ ?_ (hcq hc)⟩;simpa[List.extract_eq_take_drop]using hy
theorem Ef {t:TypeId} (h1:j' E t=some false) {C:Cx} {cs:List AV} {xs:Array Value} (hv:Wx C cs xs.toList)
 {off:Nat} {v:AV} (e:Am.l_ cs off=some v) (w:World):∃z,(part t xs off).run P w= .ok z w/\VR C v z:=by
 obtain⟨y,hy,hr⟩:=hv.N e;have uL:xs[off]?=some y:=by simpa using hy
 exact⟨y,by simp[part,Mj he h1,uL],hr⟩
omit he in
theorem F3 {t:TypeId} {i off n:Nat} {b:Bool} (h:Z7 E t i=some (off,n,b)):
 ∃fs f,Wb E t=some (.struct fs)/\fs[i]?=some f/\f.offset=off/\Am.an E f.type=some n/\j' E f.type=some b:=by
 unfold Z7 at h;split at h
 .next fs hu=>
  obtain⟨f,hf,h⟩:=Qa.1 h;obtain⟨n',hn,h⟩:=Qa.1 h;obtain⟨a,ha,h⟩:=Qa.1 h;cases h;exact⟨fs,f,hu,by rw[E4]at hf;simpa using hf,U,hn,ha⟩
 .cases h
theorem vJ {o:Oper} {t:TypeId} {x:Operand} {i:Nat} (ho:o.op= .field t x i):W5 E P o (lu E t x i):=by
 unfold lu;split
 .next off n hf=>
  obtain⟨fs,f,hu,hfi,rfl,hn,ha⟩:=F3 hf;refine Bm (G:=fun v=>Instr.field t v i) (fun ρ=>by simp[execOp,ho]) ?_;intro C w v y r hv hr;cases hv with
  |a_ Xr WS=>
   simp only[cW]at hr;obtain⟨l,hl,hr⟩:=Qa.1 hr;cases ht:pa n l with
   |none=>rw[ht]at hr;cases hr
   |some q=>
    rw[ht]at hr;cases hr;obtain⟨z,hz,kZ⟩:=Fk (P:=P) he ha hn Xr WS (q:=q) (off:=f.offset) (by rw[v_,hl];exact ht) w;exact⟨z,by simp[Instr.field,Ag he hu,hfi,asAgg,hz],kZ⟩
  |_=>simp[cW]at hr
 .next off n hf=>
  obtain⟨fs,f,hu,hfi,rfl,hn,ha⟩:=F3 hf;refine Bm (G:=fun v=>Instr.field t v i) (fun ρ=>by simp[execOp,ho]) ?_;intro C w v y r hv hr;cases hv with
  |a_ Xr WS=>
   obtain⟨z,hz,kZ⟩:=Ef (P:=P) he ha Xr hr w;exact⟨z,by simp[Instr.field,Ag he hu,hfi,asAgg,hz],kZ⟩
  |_=>simp[bl]at hr
 .intro C T a S w _ _ _;trivial
omit he in
theorem EB {C:Cx} {v r:AV} {x:Value} {n:Nat} (h:VR C v x) (e:YB n v=some r):∃a,x= .pointer (some a)/\VR C r (.pointer (some (a.add n))):=by
 cases h with
 |aG hd=>
  simp only[YB,Option.some.injEq]at e;subst e;exact⟨_,U,by rw[Bx,Nat.add_assoc];exact .aG hd⟩
 |XD hm ha hv WS=>
  simp only[YB]at e;obtain⟨l,hl,e⟩:=Qa.1 e;cases e;obtain⟨pre,rfl,hp⟩:=BF hl;obtain⟨y,z,rfl,h1,h2⟩:=AB hv;refine⟨_,U,?_⟩;rw[Bx,<-hp,<-h1.g];exact .XD hm ha.right h2 WS.sub.2
 |_=>simp[YB]at e
theorem NJ {o:Oper} {t:TypeId} {x:Operand} {i:Nat} (ho:o.op= .fieldAddr t x i):W5 E P o (Zq E t x i):=by
 unfold Zq;split
 .next off n b hf=>
  obtain⟨fs,f,hu,hfi,rfl,hn,ha⟩:=F3 hf;refine Bm (G:=fun v=>Instr.fieldAt t v i) (fun ρ=>by simp[execOp,ho]) ?_;intro C w v y r hv hr;obtain⟨a,rfl,vK⟩:=EB hv hr;exact⟨_,by simp[Instr.fieldAt,Ag he hu,hfi,Instr.sureAddr,fieldPlace,A1 he hn],vK⟩
 .intro C T a S w _ _ _;trivial
end
section
variable {E : c_} {P : Program} (he : Wd E P)
theorem W5.bad {o:Oper}:W5 E P o .J:=fun _ _ _ _ _ _ _ _=>trivial
theorem Ft {C:Cx} {v:AV} {x:Value} {n:Nat} (h:VR C v x) (e:Xb v=some n):∃k,x= .int k (n:Int):=FL h e
theorem PC {C:Cx} {v r:AV} {x:Value} {sz k:Nat} (h:VR C v x) (e:OK sz k v=some r):
 ∃a len c,x= .slice (some a) len c/\k<len/\VR C r (.pointer (some (a.add (k*sz)))):=by
 cases h with
 |O hd hc Zu=>
  rename_i b off len Z5 cap c
  simp only[OK]at e;cases hk:Nat.blt k len with
  |false=>rw[hk]at e;cases e
  |true=>
   rw[hk]at e;cases e;exact⟨_,_,_,U,by simpa[Nat.blt_eq]using hk,by rw[Bx,Nat.add_assoc];exact .aG hd⟩
 |XT hxx hd hc=>
  simp only[OK]at e;have:Nat.blt k 0=false:=by cases k<;>rfl
  rw[this]at e;cases e
 |Xm a h Zu=>
  rename_i Z5 cl len c
  simp only[OK]at e;cases hk:Nat.blt k len with
  |false=>rw[hk]at e;cases e
  |true=>
   rw[hk]at e;obtain⟨l,hl,e⟩:=Qa.1 e;obtain⟨pre,hp,_⟩:=BF hl;have:l=[]:=by
    have:=congrArg List.length hp;simp at this;exact List.eq_nil_of_length_eq_zero (by omega)
   subst this;simp[tb]at e
 |Ck hl hm ha hv Y8 WS Zu=>
  rename_i Cv off len Z5 c cl cs ms vs
  simp only[OK]at e;cases hk:Nat.blt k len with
  |false=>rw[hk]at e;cases e
  |true=>
   rw[hk]at e;obtain⟨l,ZI,e1⟩:=Qa.1 e;obtain⟨pre,rfl,hp⟩:=BF ZI;obtain⟨y,z,rfl,h1,h2⟩:=AB hv;have:r= .XD l:=by
    unfold tb at e1;split at e1
    .cases e1
    .cases e1;rfl
   subst this;refine⟨_,_,_,U,by simpa[Nat.blt_eq]using hk,?_⟩;rw[Bx,<-hp,<-h1.g];exact .XD hm ha.right h2 WS.sub.2
 |_=>simp[OK]at e
include he
theorem NI {o:Oper} {t:TypeId} {x i:Operand} (ho:o.op= .indexAddr t x i):W5 E P o (Yy E t x i):=by
 unfold Yy;split
 .next n elem hu=>
  split
  .next sz X2=>
   intro C T a S w hg hT hS v h;obtain⟨iv,hiv,h⟩:=Qa.1 h;obtain⟨k,hk,h⟩:=Qa.1 h;cases hb:Nat.blt k n with
   |false=>rw[hb]at h;cases h
   |true=>
   rw[hb]at h;obtain⟨u,kY,h⟩:=Qa.1 h;obtain⟨ki,vL⟩:=Ft (Al hg hT hiv) hk;obtain⟨ad,qu,hr⟩:=EB (Al hg hT kY) h;have C5:k<n:=by simpa[Nat.blt_eq]using hb
   refine⟨_,?_,hr⟩;simp[execOp,ho,Instr.indexAt,vL,asIntOf,Ag he hu,qu,Instr.sureAddr,A1 he X2,C5]
  .exact W5.bad
 .next elem hu=>
  split
  .next sz X2=>
   intro C T a S w hg hT hS v h;obtain⟨iv,hiv,h⟩:=Qa.1 h;obtain⟨k,hk,h⟩:=Qa.1 h;obtain⟨u,kY,h⟩:=Qa.1 h;obtain⟨ki,vL⟩:=Ft (Al hg hT hiv) hk;obtain⟨ad,len,c,qu,C5,hr⟩:=PC (Al hg hT kY) h;refine⟨_,?_,hr⟩;simp[execOp,ho,Instr.indexAt,vL,asIntOf,Ag he hu,qu,A1 he X2,C5]
  .exact W5.bad
 .exact W5.bad
theorem vM {o:Oper} {t:TypeId} {x i:Operand} (ho:o.op= .index t x i):W5 E P o (lv E t x i):=by
 unfold lv;split
 .next n elem hu=>
  split
  .next sz ha X2=>
   intro C T a S w hg hT hS v h;obtain⟨iv,hiv,h⟩:=Qa.1 h;obtain⟨k,hk,h⟩:=Qa.1 h;cases hb:Nat.blt k n with
   |false=>rw[hb]at h;cases h
   |true=>
   rw[hb]at h;obtain⟨u,kY,h⟩:=Qa.1 h;obtain⟨ki,vL⟩:=Ft (Al hg hT hiv) hk;have hv:=Al hg hT kY;have C5:k<n:=by simpa[Nat.blt_eq]using hb
   generalize hx:a.eval x=xv at hv;cases hv with
   |a_ Xr WS=>
    simp only[pd]at h;obtain⟨l,hl,h⟩:=Qa.1 h;cases ht:pa sz l with
    |none=>rw[ht]at h;cases h
    |some q=>
     rw[ht]at h;cases h;obtain⟨z,hz,kZ⟩:=Fk (P:=P) he ha X2 Xr WS (q:=q) (off:=k*sz) (by rw[v_,hl];exact ht) w;exact⟨z,by simp[execOp,ho,Instr.index,vL,asIntOf,Ag he hu,hx,A1 he X2,C5,hz],kZ⟩
   |_=>simp[pd]at h
  .next sz ha X2=>
   intro C T a S w hg hT hS v h;obtain⟨iv,hiv,h⟩:=Qa.1 h;obtain⟨k,hk,h⟩:=Qa.1 h;cases hb:Nat.blt k n with
   |false=>rw[hb]at h;cases h
   |true=>
   rw[hb]at h;obtain⟨u,kY,h⟩:=Qa.1 h;obtain⟨ki,vL⟩:=Ft (Al hg hT hiv) hk;have hv:=Al hg hT kY;have C5:k<n:=by simpa[Nat.blt_eq]using hb
   generalize hx:a.eval x=xv at hv;cases hv with
   |a_ Xr WS=>
    simp only[pe]at h;obtain⟨z,hz,kZ⟩:=Ef (P:=P) he ha Xr h w;exact⟨z,by simp[execOp,ho,Instr.index,vL,asIntOf,Ag he hu,hx,A1 he X2,C5,hz],kZ⟩
   |_=>simp[pe]at h
  .exact W5.bad
 .next hu=>
  intro C T a S w hg hT hS v h;obtain⟨iv,hiv,h⟩:=Qa.1 h;obtain⟨k,hk,h⟩:=Qa.1 h;obtain⟨u,kY,h⟩:=Qa.1 h;obtain⟨ki,vL⟩:=Ft (Al hg hT hiv) hk;have hv:=Al hg hT kY;generalize hx:a.eval x=xv at hv;cases hv with
  |an hs=>
   rename_i l s
   simp only[iA]at h;obtain⟨b,hb,h⟩:=Qa.1 h;cases h;have ZJ:s[k]?=some b:=by
    rw[E4,<-hs]at hb;have:s.data[k]?=some b:=by simpa using hb
    exact this
   refine⟨.int .u8 b.toNat,?_,.int _ _⟩;simp[execOp,ho,Instr.index,vL,asIntOf,Ag he hu,hx,ZJ]
  |_=>simp[iA]at h
 .exact W5.bad
theorem Z_ {o:Oper} {t:TypeId} {x:Operand} (ho:o.op= .load t x):W5 E P o (.Y (Ci E x) fun T s=>(Ci E x T).bind (Wq E t s)):=by
 refine Hx (G:=fun v=>Instr.loadAt t v) (fun ρ=>by simp[execOp,ho]) ?_;intro C S w v y r hS hv hr;obtain⟨a,z,rfl,hz,kZ⟩:=GS (P:=P) he hS hv hr;exact⟨z,by simp[Instr.loadAt,Instr.sureAddr,hz],kZ⟩
theorem vN {o:Oper} {t:TypeId} {x y:Operand} (ho:o.op= .store t x y):W5 E P o (dM E t x y):=by
 unfold dM;split
 .next n hn=>
  intro C T a S w hg hT hS v S' h;obtain⟨p,hp,h⟩:=Qa.1 h;obtain⟨u,hu,h⟩:=Qa.1 h;unfold eU at h;split at h
  .next S1 hs=>
   cases h;obtain⟨ad,w',qu,hw,ht⟩:=TB (P:=P) he hS hn (Al hg hT hu) (Al hg hT hp) hs;exact⟨C,.skip,w',by simp[execOp,ho,Instr.storeAt,qu,Instr.sureAddr,hw],ht,.O⟩
  .cases h
 .exact W5.bad
omit he in
theorem Sw {o:Oper} {x:Operand} {i:Nat} (ho:o.op= .extract x i):W5 E P o (.O fun T=>(Ci E x T).bind (dc i)):=by
 refine Bm (G:=fun v=>Instr.extract v i) (fun ρ=>by simp[execOp,ho]) ?_;intro C w v y r hv hr;cases hv with
 |J Xr=>
  simp only[dc]at hr;obtain⟨z,hz,kZ⟩:=Xr.N hr;have hz':=hz;simp only[Array.getElem?_toList]at hz';exact⟨z,by simp[Instr.extract,hz'],kZ⟩
 |_=>simp[dc]at hr
theorem NH {o:Oper} {t:TypeId} {x:Operand} (ho:o.op= .makeInterface t x):W5 E P o (bu E t x):=by
 unfold bu;split
 .next hi=>
  refine Bm (f:=fun v=>some (.a_ t v)) (G:=fun v=>Instr.makeInterface t v) (fun ρ=>by simp[execOp,ho]) ?_;intro C w v y r hv hr;cases hr;refine⟨.iface t y,?_,.Y hv⟩;unfold Yp at hi;split at hi
  .cases hi
  .next d hd hu=>
   simp only[Instr.makeInterface,Sem.run_bind,Ag he hu,Result.andThen_ok];cases d<;>first|rfl|exact absurd rfl (hd _)
  .cases hi
 .exact W5.bad
omit he in
theorem SE {fn:Fn} (h:fL fn=false):∀l,fn≠ .yield l:=by
 intro l e;subst e;cases h
omit he in
theorem Px {o:Oper} {fn:Fn} {x y:Array Operand} (ho:o.op= .makeFunc fn x y):W5 E P o (jx E fn x.toList y.toList):=by
 unfold jx;cases hf:fL fn with
 |true=>exact W5.bad
 |false=>
 intro C T a S w hg hT hS v h;obtain⟨p,hp,h⟩:=Qa.1 h;obtain⟨q,hq,h⟩:=Qa.1 h;cases h;exact⟨.func fn (x.map a.eval) (y.map a.eval),by simp[execOp,ho,Instr.makeFunc],.Z (SE hf) (by simpa using Ei hg hT hp) (by simpa using Ei hg hT hq)⟩
theorem Su {o:Oper} {t:TypeId} {r:Option Operand} (ho:o.op= .makeMap t r):W5 E P o (bw E t r):=by
 have key:∀ {C:Cx} {S:St} {w:World},WW C S w->CE C S w (C.u S w 0) (S.g (.Y [] 0)) (e_.u w (.map #[] 0))/\VR (C.u S w 0) (.bW S.a) (.map (some w.heap.size)):=by
  intro C S w hS;have no:∀n,¬C.G S.a n:=fun n hn=>absurd (hS.d _ (hS.f _ _ hn)) (Nat.lt_irrefl _);refine⟨CE.A hS _ _ 0 (.Y (l:=[]) (by simp) .O ⟨by simp,by simp⟩ (by simp) (fun n hn=>absurd hn (no n)) (fun n hn=>absurd hn (no n)) (fun n _ hn=>absurd hn (no n))),?_⟩
  .have:=VR.b_ (C:=C.u S w 0) (IJ C S.a ⟨w.heap.size,0,0⟩);rw[Bk]at this;exact this
 unfold bw;split
 .next k e hu=>
  intro C T a S w hg hT hS;refine⟨(nofun),fun ob g h=>?_⟩;cases h;exact⟨_,_,_,by simp[execOp,ho,Instr.makeMap,e_.u],(key hS).1,(key hS).2⟩
 .next k e x hu=>
  intro C T a S w hg hT hS;have hh:∀m,((Ci E x T).bind fun v=>(Xb v).bind fun _=>some (Mk.J (.Y [] 0) .bW))=some m->∃kd n,a.eval x= .int kd n/\m= .J (.Y [] 0) .bW:=by
   intro m h;obtain⟨p,hp,h⟩:=Qa.1 h;obtain⟨n,hn,h⟩:=Qa.1 h;cases h;obtain⟨kd,hkd⟩:=FL (Al hg hT hp) hn;exact⟨kd,_,hkd,U⟩
  refine⟨fun v h=>?_,fun ob g h=>?_⟩
  .obtain⟨_,_,_,h⟩:=hh _ h;cases h
  .obtain⟨kd,n,hx,h⟩:=hh _ h;cases h;exact⟨_,_,_,by simp[execOp,ho,Instr.makeMap,Ag he hu,hx,asInt,asIntOf,e_.u],(key hS).1,(key hS).2⟩
 .exact W5.bad
omit he in
theorem vO {o:Oper} {x:Operand} (ho:o.op= .panic x):W5 E P o (.b_ fun T=>(Ci E x T).bind p9):=by
 intro C T a S w hg hT hS v h;obtain⟨p,hp,h⟩:=Qa.1 h;have hv:=Al hg hT hp;generalize hx:a.eval x=xv at hv;cases hv with
 |Y hv=>cases h;exact⟨_,by simp[execOp,ho,hx,Instr.panic],.Y hv⟩
 |_=>simp[p9]at h
end
section
variable {E : c_} {P : Program}
theorem Wx.G {C:Cx} {z:List AV} {x:List Value} (h:Wx C z x):∀n,Wx C (Xj z n) ((List.replicate n x).flatten)
 |0=> .O
 |n+1=>by
  rw[List.replicate_succ,List.flatten_cons];exact h.u (Wx.G h n)
theorem j_.repeat {z:List AV} (h:j_ z):∀n,j_ (Xj z n)
 |0=>fun _ h=>by cases h
 |n+1=>h.append (j_.repeat h n)
theorem Jg (z:Array Value) (n:Nat):((Array.range (n*z.size)).map fun i=>z[i % z.size]!).toList=(List.replicate n z.toList).flatten:=by
 apply List.ext_getElem?;intro i;rcases Nat.eq_zero_or_pos z.size with h0|h0
 .have:z= #[]:=by simpa using h0
  subst this;simp
 .have hl:((List.replicate n z.toList).flatten).length=n*z.size:=by simp
  rcases Nat.lt_or_ge i (n*z.size)with hi|hi
  .have hm:i % z.size<z.size:=Nat.mod_lt _ h0;have key:∀(n i:Nat),i<n*z.size->((List.replicate n z.toList).flatten)[i]?=z.toList[i % z.size]?:=by
    intro n;induction n with
    |zero=>intro i hi;simp at hi
    |succ n ih=>
     intro i hi;rw[List.replicate_succ,List.flatten_cons];rcases Nat.lt_or_ge i z.size with h|h
     .rw[List.getElem?_append_left (by simpa using h),Nat.mod_eq_of_lt h]
     .rw[List.getElem?_append_right (by simpa using h),Array.length_toList,ih _ (by rw[Nat.succ_mul]at hi;omega),<-Nat.mod_eq_sub_mod h]
   rw[key n i hi];simp[hi,hm]
  .rw[List.getElem?_eq_none (l:=(List.replicate n z.toList).flatten) (by rw[hl];exact hi),List.getElem?_eq_none (by simpa using hi)]
theorem Fg {n:Nat} (h:n<=1099511627776):IntKind.i64.wrap (n:Int)=n:=Go.IntWalk.i64_in _ (by omega)
theorem Df {n b:Nat} (h:k7 n b=true):n*b<=1099511627776/\n<=1099511627776/\0<b/\b<=1048576:=by
 simp only[k7,Qf,Bool.not_eq_true']at h;obtain⟨⟨⟨h1,h2⟩,h3⟩,h4⟩:=h;refine⟨Qc h1,Qc h2,?_,Qc h4⟩;rcases Nat.eq_zero_or_pos b with h|h
 .subst h;simp at h3
 .exact h
variable (he : Wd E P)
include he
theorem NG {o:Oper} {t:TypeId} {l c:Operand} (ho:o.op= .makeSlice t l c):W5 E P o (Zr E t l c):=by
 unfold Zr;split
 .next e hu=>
  split
  .next sz VZ z X2 cQ hz=>
   cases hb:Nat.beq (Xu z.g) sz with
   |false=>exact W5.bad
   |true=>
   have vP:z.g.length=sz:=by have:=Qb hb;simpa using this
   intro C T a S w hg hT hS;obtain⟨x,hx,hr,_⟩:=GH he hz w;obtain⟨i,hi,hib⟩:=N1 he cQ w;have gu:x.cells.size=sz:=by have:=(hr C).u.g;simpa[vP]using this
   have main:∀m,((Ci E l T).bind fun a=>(Ci E c T).bind fun b=>(Xb a).bind fun n=>(Xb b).bind fun m=>YI e sz VZ z.g n m)=some m->
    ∃(n k:Nat) (ki kj:IntKind),a.eval l= .int ki (n:Int)/\a.eval c= .int kj (k:Int)/\YI e sz VZ z.g n k=some m:=by
    intro m h;obtain⟨p,hp,h⟩:=Qa.1 h;obtain⟨q,hq,h⟩:=Qa.1 h;obtain⟨n,hn,h⟩:=Qa.1 h;obtain⟨k,hk,h⟩:=Qa.1 h;obtain⟨ki,vL⟩:=FL (Al hg hT hp) hn;obtain⟨kj,hkj⟩:=FL (Al hg hT hq) hk;exact⟨n,k,ki,kj,vL,hkj,h⟩
   have hzx:h_ E e=some z:=hz;have conds:∀(n k:Nat) m,YI e sz VZ z.g n k=some m->n<=k/\(k=0\/(k*VZ<=1099511627776/\k<=1099511627776))/\
    ((k=0/\m= .O .Ca)\/(k≠0/\m= .J (.J (Xj z.g k) e false) fun b=> .Z b 0 n sz (some k))):=by
    intro n k m h;unfold YI at h;cases h1:(Nat.ble n k&&(Nat.beq k 0||k7 k VZ))with
    |false=>rw[h1]at h;cases h
    |true=>
     rw[h1]at h;simp only[Qf,Bool.or_eq_true]at h1;refine⟨Qc h1.1,?_,?_⟩
     .rcases h1.2 with h2|h2
      .exact .inl (Qb h2)
      .exact .inr ⟨(Df h2).1,(Df h2).2.1⟩
     .cases h2:Nat.beq k 0 with
      |true=>rw[h2]at h;cases h;exact .inl ⟨Qb h2,rfl⟩
      |false=>
       rw[h2]at h;cases h;exact .inr ⟨fun e=>by subst e;simp at h2,rfl⟩
   have runs:∀(n k:Nat) (ki kj:IntKind),n<=k->(k=0\/(k*VZ<=1099511627776/\k<=1099511627776))->a.eval l= .int ki (n:Int)->a.eval c= .int kj (k:Int)->
    (execOp a.eval o).run P w= .ok (.value (.slice (some ⟨w.heap.size,0,none⟩) n k)) (e_.u w (.cells ((Array.range (k*x.cells.size)).map fun i=>x.cells[i % x.cells.size]!) e (0,0))):=by
    intro n k ki kj h1 h2 h3 h4;have hk:k*VZ<=1099511627776/\k<=1099511627776:=by
     rcases h2 with h2|h2
     .subst h2;simp
     .exact h2
    have w1:IntKind.i64.wrap (n:Int)=n:=Fg (by omega);have w2:IntKind.i64.wrap (k:Int)=k:=Fg (by omega);have vQ:¬(281474976710656<(i.bytes:Int)*(k:Int)):=by
     rw[hib];have:(VZ:Int)*(k:Int)=((k*VZ:Nat):Int):=by push_cast;exact Int.mul_comm _ _
     rw[this];omega
    have ou:¬(k<n):=by omega
    have r0:Array.range 0= #[]:=rfl;have mZ:∀m:Nat,¬((m:Int)<0):=fun m=>by omega
    by_cases h0:k*sz=0
    .simp[execOp,ho,Instr.makeSlice,Ag he hu,h3,h4,asInt,asIntOf,hi,w1,w2,vQ,mZ,ou,A1 he X2,h0,gu,r0,newRow,e_.u]
    .simp[execOp,ho,Instr.makeSlice,Ag he hu,h3,h4,asInt,asIntOf,hi,w1,w2,vQ,mZ,ou,A1 he X2,h0,gu,hx,newRow,e_.u]
   refine⟨fun v h=>?_,fun ob g h=>?_⟩
   .obtain⟨n,k,ki,kj,h1,h2,h3⟩:=main _ h;obtain⟨c1,c2,c3⟩:=conds n k _ h3;rcases c3 with⟨rfl,c3⟩|⟨_,c3⟩
    .cases c3;obtain rfl:n=0:=by omega
     exact⟨_,_,_,runs 0 0 ki kj c1 c2 h1 h2,Kh hS _,.Ca _ (.some (.inr U))⟩
    .cases c3
   .obtain⟨n,k,ki,kj,h1,h2,h3⟩:=main _ h;obtain⟨c1,c2,c3⟩:=conds n k _ h3;rcases c3 with⟨rfl,c3⟩|⟨hk0,c3⟩
    .cases c3
    .cases c3;have hzc:=(hr C).A (Dp hz);refine⟨_,_,_,runs n k ki kj c1 c2 h1 h2,DD hS ((hr C).u.G k) (ex:=[]) ?_ (hzc.repeat k) e false (fun _=>rfl),EV (cap:=some k) ⟨rfl,Nat.pos_of_ne_zero hk0⟩ c1⟩;rw[Jg];simp
  .exact W5.bad
 .exact W5.bad
end
section
variable {E : c_} {P : Program} (he : Wd E P)
include he
theorem Mt {o:Oper} {t:TypeId} {len:Nat} {parts:Array (Nat×Operand)} (ho:o.op= .buildSlice t len parts):W5 E P o (YJ E t len parts.toList):=by
 unfold YJ;split
 .next e hu=>
  split
  .next sz z X2 hz=>
   cases hb:(Nat.beq (Xu z.g) sz&&Nat.ble (len*sz) 16777216&& !(Nat.beq sz 0))with
   |false=>exact W5.bad
   |true=>
   simp only[Qf,Bool.not_eq_true']at hb;obtain⟨⟨dt,dD⟩,qI⟩:=hb;have vP:z.g.length=sz:=by have:=Qb dt;simpa using this
   have hle:len*sz<=16777216:=Qc dD;have na:sz≠0:=fun e=>by subst e;simp at qI
   intro C T a S w hg hT hS;obtain⟨x,hx,hr,_⟩:=GH he hz w;have gu:x.cells.size=sz:=by have:=(hr C).u.g;simpa[vP]using this
   have hzc:=(hr C).A (Dp hz);have main:∀m,((bp E parts.toList T).bind fun ps=>ax e sz len (aP (fun i=>some (i*sz,sz)) ps (Xj z.g len)))=some m->
    ∃r ys,Wx C r ys.toList/\j_ r/\ys.size=len*sz/\(execOp a.eval o).run P w= .ok (.value (.slice (some ⟨w.heap.size,0,none⟩) len len)) (e_.u w (.cells ys e (0,0)))/\
     ((len=0/\m= .O .Ca)\/(len≠0/\m= .J (.J r e false) fun b=> .Z b 0 len sz (some len))):=by
    intro m h;obtain⟨ps,ti,h⟩:=Qa.1 h;obtain⟨h1,h2⟩:=Mp hg hT ti;have eJ:ps.map (·.1)=(parts.toList.map fun p=>(p.1,a.eval p.2)).map (·.1):=by simpa[List.map_map,Function.comp_def]using h1
    have kD:Wx C (ps.map (·.2)) ((parts.toList.map fun p=>(p.1,a.eval p.2)).map (·.2)):=by simpa[List.map_map,Function.comp_def]using h2
    cases hf:aP (fun i=>some (i*sz,sz)) ps (Xj z.g len)with
    |none=>rw[hf]at h;cases h
    |some r=>
    rw[hf]at h;simp only[ax]at h;have hrm:=Jg x.cells len;obtain⟨ys,sd,ug,rF,vR⟩:=M7 (xs:=(Array.range (len*x.cells.size)).map fun i=>x.cells[i % x.cells.size]!) eJ kD (by rw[hrm];exact(hr C).u.G len) (hzc.repeat len) hf;refine⟨r,ys,ug,rF,by simpa[gu]using vR,?_,?_⟩
    .have ou:¬(16777216<len*sz):=by omega
     by_cases h0:len*sz=0
     .have eH:len=0:=by rcases Nat.mul_eq_zero.1 h0 with h|h;exact h;exact absurd h na
      subst eH;have r0:Array.range 0= #[]:=rfl;simp[r0]at sd;simp[execOp,ho,Instr.buildSlice,Ag he hu,A1 he X2,r0,sd,newRow,e_.u]
     .rw[gu]at sd;have eH:len≠0:=fun e=>h0 (by simp[e]);simp[execOp,ho,Instr.buildSlice,Ag he hu,A1 he X2,ou,h0,eH,na,hx,gu,sd,newRow,e_.u]
    .cases hl:Nat.beq len 0 with
     |true=>rw[hl]at h;cases h;exact .inl ⟨Qb hl,rfl⟩
     |false=>rw[hl]at h;cases h;exact .inr ⟨fun e=>by subst e;simp at hl,rfl⟩
   refine⟨fun v h=>?_,fun ob g h=>?_⟩
   .obtain⟨r,ys,h1,h2,h3,h4,h5⟩:=main _ h;rcases h5 with⟨rfl,h5⟩|⟨_,h5⟩
    .cases h5;exact⟨_,_,_,h4,Kh hS _,.Ca _ (.some (.inr rfl))⟩
    .cases h5
   .obtain⟨r,ys,h1,h2,h3,h4,h5⟩:=main _ h;rcases h5 with⟨rfl,h5⟩|⟨eH,h5⟩
    .cases h5
    .cases h5;exact⟨_,_,_,h4,DD hS h1 (ex:=[]) (by simp) h2 e false (fun _=>rfl),EV (cap:=some len) ⟨rfl,Nat.pos_of_ne_zero eH⟩ (Qj _)⟩
  .exact W5.bad
 .exact W5.bad
omit he in
theorem Z' {o:Oper} {op:UnOp} {t:TypeId} {x:Operand} (ho:o.op= .unOp op t x):W5 E P o (.O fun T=>(Ci E x T).bind (N_ op)):=by
 refine Bm (G:=fun v=>Op.unary op v) (fun ρ=>by simp[execOp,ho]) ?_;intro C w v y r hv hr;cases hv with
 |int k n=>
  cases op with
  |neg=>cases hr;exact⟨_,rfl,.int _ _⟩
  |xor=>cases hr;exact⟨_,rfl,.int _ _⟩
  |_=>simp[N_]at hr
 |bool b=>
  cases op with
  |not=>cases hr;exact⟨_,rfl,.bool _⟩
  |_=>simp[N_]at hr
 |_=>cases op<;>simp[N_]at hr
omit he in
theorem UN {C:Cx} {ok:Bool} {v r:AV} {x:Value} (hv:VR C v x) (h:rV ok v=some r):VR C r (if ok then .tuple #[x,.bool true]else x):=by
 unfold rV at h;cases ok with
 |true=>cases h;exact .J (.J hv (.J (.bool _) .O))
 |false=>cases h;exact hv
theorem On {C:Cx} {ok:Bool} {t:TypeId} {z r:AV} (hz:h_ E t=some z) (h:p6 ok z=some r) (w:World):
 ok=true/\∃x,(zeroValue t).run P w= .ok x w/\VR C r (.tuple #[x,.bool false]):=by
 unfold p6 at h;cases ok with
 |true=>
  cases h;obtain⟨x,hx,hr,_⟩:=GH he hz w;exact⟨U,x,hx,.J (.J (hr C) (.J (.bool _) .O))⟩
 |false=>cases h
theorem Uw {o:Oper} {x:Operand} {xt t:TypeId} {ok:Bool} (ho:o.op= .typeAssert x xt t ok):W5 E P o (iL E x t ok):=by
 unfold iL;split
 .exact W5.bad
 .next d z Zw hu hz=>
  refine Bm (G:=fun v=>Instr.typeAssert v xt t ok) (fun ρ=>by simp[execOp,ho]) ?_;intro C w v y r hv hr;have hd:∀ms,z=z->d≠ .interface ms:=fun ms _ e=>Zw ms (by rw[e]);cases hv with
  |Y hv'=>
   rename_i u v' y'
   simp only[fK]at hr;cases hut:Nat.beq u t with
   |true=>
    rw[hut]at hr;have:u=t:=Qb hut;subst this;refine⟨_,?_,UN hv' hr⟩;simp only[Instr.typeAssert,Sem.run_bind,Ag he hu,Result.andThen_ok];cases d<;>first|exact absurd rfl (hd _ rfl)|simp
   |false=>
    rw[hut]at hr;have Yh:u≠t:=fun e=>by subst e;simp at hut
    obtain⟨rfl,zx,hzx,kZ⟩:=On (P:=P) (C:=C) he hz hr w;refine⟨_,?_,kZ⟩;simp only[Instr.typeAssert,Sem.run_bind,Ag he hu,Result.andThen_ok];cases d<;>first|exact absurd rfl (hd _ rfl)|simp[Yh,hzx]
  |CS=>
   obtain⟨rfl,zx,hzx,kZ⟩:=On (P:=P) (C:=C) he hz hr w;refine⟨_,?_,kZ⟩;simp only[Instr.typeAssert,Sem.run_bind,Ag he hu,Result.andThen_ok];cases d<;>first|exact absurd rfl (hd _ rfl)|simp[hzx]
  |_=>simp[fK]at hr
 .exact W5.bad
end
theorem Bc:∀ {l m:List UInt8},XY l m=decide (l=m)
 | [],[]=>rfl
 | [],_::_=>by simp[XY]
 |_::_,[]=>by simp[XY]
 |a::l,b::m=>by
  unfold XY;cases h:Nat.beq a.toNat b.toNat with
  |true=>
   have:a=b:=UInt8.toNat_inj.1 (Qb h);subst this;simp[Bc]
  |false=>
   have:a≠b:=fun e=>by subst e;simp at h
   simp[this]
theorem LF:∀ {l m:List UInt8},dI l m=Op.bytesLess l m
 | [],[]=>rfl
 |_::_,[]=>rfl
 | [],_::_=>rfl
 |a::l,b::m=>by
  unfold dI Op.bytesLess;rw[LF (l:=l)];cases h1:Nat.blt a.toNat b.toNat with
  |true=>
   have:a<b:=UInt8.lt_iff_toNat_lt.2 (by simpa[Nat.blt_eq]using h1);simp[this]
  |false=>
   have hn:¬a<b:=fun C5=>by
    have:Nat.blt a.toNat b.toNat=true:=by simpa[Nat.blt_eq]using UInt8.lt_iff_toNat_lt.1 C5
    rw[this]at h1;cases h1
   cases h2:Nat.beq a.toNat b.toNat with
   |true=>
    have:a=b:=UInt8.toNat_inj.1 (Qb h2);subst this;simp
   |false=>
    have:a≠b:=fun e=>by subst e;simp at h2
    simp[hn,this]
section
variable {E : c_} {P : Program}
theorem intF_ok {op:BinOp} {f:IntKind->Int->Int->Option AV} (hf:pf op=some f) {C:Cx} {k:IntKind} {a b:Int} {r:AV} (h:f k a b=some r) (t:TypeId) (w:World):
 ∃z,(binOp op t (.int k a) (.int k b)).run P w= .ok z w/\VR C r z:=by
 cases op<;>simp only[pf,Option.some.injEq]at hf<;>cases hf
 case quo=>
  simp only[quoA]at h;split at h
  .cases h
  .next hb=>cases h;exact⟨_,by simp[binOp,Op.intDiv,hb],.int _ _⟩
 case rem=>
  simp only[remA]at h;split at h
  .cases h
  .next hb=>cases h;exact⟨_,by simp[binOp,Op.intDiv,hb],.int _ _⟩
 case eql=>cases h;refine⟨_,?_,.bool _⟩;simp only[binOp,ne_eq,not_true_eq_false,if_false];rfl
 case neq=>cases h;refine⟨_,?_,.bool _⟩;simp only[binOp,ne_eq,not_true_eq_false,if_false];rfl
 case lss=>cases h;refine⟨_,?_,.bool _⟩;simp only[binOp,ne_eq,not_true_eq_false,if_false];rfl
 case leq=>cases h;refine⟨_,?_,.bool _⟩;simp only[binOp,ne_eq,not_true_eq_false,if_false];rfl
 case gtr=>cases h;refine⟨_,?_,.bool _⟩;simp only[binOp,ne_eq,not_true_eq_false,if_false];rfl
 case geq=>cases h;refine⟨_,?_,.bool _⟩;simp only[binOp,ne_eq,not_true_eq_false,if_false];rfl
 all_goals cases h;refine⟨_,?_,.int _ _⟩;simp only[binOp,ne_eq,not_true_eq_false,if_false];rfl
theorem strF_ok {op:BinOp} {f:List UInt8->List UInt8->Option AV} (hf:vl op=some f) {C:Cx} {a b:ByteArray} {r:AV} (h:f a.data.toList b.data.toList=some r) (t:TypeId) (w:World):
 ∃z,(binOp op t (.string a) (.string b)).run P w= .ok z w/\VR C r z:=by
 cases op<;>simp only[vl,Option.some.injEq]at hf<;>cases hf
 case add=>
  dsimp only at h;cases hb:Nat.ble (Xu a.data.toList+Xu b.data.toList) 4294967296 with
  |false=>rw[hb]at h;cases h
  |true=>
   rw[hb]at h;cases h;have:=Qc hb;simp only[DT,Array.length_toList]at this;have e1:a.size=a.data.size:=rfl;have e2:b.size=b.data.size:=rfl;have hm:¬(((a.size+b.size:Nat):Int)>IntKind.i64.max):=by
    have:IntKind.i64.max=9223372036854775807:=by decide
    rw[this];omega
   refine⟨.string (a++b),?_,.an (by simp)⟩;simp only[binOp,Op.stringOp,hm,if_false,Sem.run_pure]
 all_goals
  cases h;refine⟨_,?_,.bool _⟩;have hd:(a.data==b.data)=decide (a.data=b.data):=by rw[Bool.eq_iff_iff];simp
  simp[binOp,Op.stringOp,ByteArray.toList_eq,Bc,LF,hd]
theorem JH {op:BinOp} {t:TypeId} {x y:Operand} {k j:IntKind} {a b:Int} (w:World):(eqGuard op t x y (.int k a) (.int j b)).run P w= .ok () w:=by
 unfold eqGuard;split<;>rfl
theorem UU {op:BinOp} {t:TypeId} {x y:Operand} {a b:ByteArray} (w:World):(eqGuard op t x y (.string a) (.string b)).run P w= .ok () w:=by
 unfold eqGuard;split<;>rfl
end
section
variable {E : c_} {P : Program}
theorem Bg {t:TypeId} {d:TypeDesc} (h:Zg E t=some d):Wb E t=some d/\ai d=true:=by
 unfold Zg at h;split at h
 .next d' hu=>
  cases hd:ai d' with
  |true=>rw[hd]at h;cases h;exact⟨hu,hd⟩
  |false=>rw[hd]at h;cases h
 .cases h
variable (he : Wd E P)
include he
theorem Np {t:TypeId} {d:TypeDesc} (h:Zg E t=some d):j' E t=some false:=by
 obtain⟨hu,hd⟩:=Bg h;unfold j';rw[hu];cases d<;>first|rfl|cases hd
theorem Ov {d:TypeDesc} {t:TypeId} (hu:Wb E t=some d) {C:Cx} {a b:AV} {x y:Value} (ha:VR C a x) (hb:VR C b y) {r:Bool} (h:ud d a b=some r) (n:Nat) (w:World):
 (Op.equalIn (n+1) t x y).run P w= .ok r w:=by
 unfold ud at h;split at h
 .cases ha;cases hb;cases h;simp only[Op.equalIn,Sem.run_bind,Ag he hu,Result.andThen_ok,Sem.run_pure];rename_i p q
  cases p<;>cases q<;>rfl
 .cases ha;cases hb;split at h
  .next hk=>
   cases h;subst hk;simp only[Op.equalIn,Sem.run_bind,Ag he hu,Result.andThen_ok,if_true,Sem.run_pure];rfl
  .cases h
 .cases ha;cases hb;cases h;rename_i l1 l2 s1 h1 s2 h2
  subst h1;subst h2;rw[run_equalIn_string w n t s1 s2 (Fe he hu),ByteArray.toList_eq,ByteArray.toList_eq,Bc]
  congr 1
  rw[Bool.eq_iff_iff];simp
 .cases h
omit he in
theorem Vt {d:TypeDesc} {a b:AV} {r:Bool} (h:ud d a b=some r):(r=true↔a=b)/\cj a=true/\cj b=true/\R_ d a=true/\R_ d b=true:=by
 unfold ud at h;split at h
 .cases h;rename_i p q
  refine⟨?_,U,U,U,U⟩;cases p<;>cases q<;>simp
 .next k j p q=>
  split at h
  .next hk=>cases h;subst hk;exact⟨by simp,rfl,rfl,rfl,rfl⟩
  .cases h
 .cases h;refine⟨?_,U,U,U,U⟩;rw[Bc];simp
 .cases h
omit he in
theorem EO:∀ {l:List TypeDesc} {a:List AV},nU l a=true->a.all cj=true/\a.length=l.length
 | [],[],_=>⟨rfl,rfl⟩
 | [],_::_,h=>by simp[nU]at h
 |_::_,[],h=>by simp[nU]at h
 |d::l,a::x,h=>by
  simp only[nU,Qf]at h;obtain⟨h1,h2⟩:=EO h.2;refine⟨?_,by simp[h2]⟩;rw[List.all_cons,h1,Bool.and_true];cases d<;>cases a<;>first|rfl|simp[R_]at h
omit he in
theorem S5 {kd:Kd} {k:AV} (h:fZ kd k=true):iG k=true:=by
 cases kd with
 |J d=>cases d<;>cases k<;>first|rfl|simp[fZ,R_]at h
 |O l=>cases k<;>first|(simp[fZ]at h;done)|exact(EO h).1
omit he in
theorem dn:∀ {fs:List Field} {i:Nat} {l:List TypeDesc},gT E fs i=some l->l.length=fs.length/\
 ∀j f,fs[j]?=some f->∃d,l[j]?=some d/\f.offset=i+j/\f.name≠ "_" /\Zg E f.type=some d
 | [],i,l,h=>by cases h;exact⟨rfl,fun j f h=>by simp at h⟩
 |g::fs,i,l,h=>by
  simp only[gT]at h;cases hb:(Nat.beq g.offset i&& !(g.name== "_"))with
  |false=>rw[hb]at h;cases h
  |true=>
  rw[hb]at h;simp only[Qf,Bool.not_eq_true',beq_eq_false_iff_ne]at hb;obtain⟨d,hd,h⟩:=Qa.1 h;obtain⟨r,hr,h⟩:=Qa.1 h;cases h;obtain⟨h1,h2⟩:=dn hr;refine⟨by simp[h1],fun j f hf=>?_⟩;cases j with
  |zero=>simp at hf;subst hf;exact⟨d,rfl,Qb hb.1,hb.2,hd⟩
  |succ j=>
   obtain⟨d',a1,a2,a3,a4⟩:=h2 j f (by simpa using hf);exact⟨d',by simpa using a1,by omega,a3,a4⟩
theorem Dg {t:TypeId} {d:TypeDesc} (hs:Zg E t=some d) {C:Cx} {aa:List AV} {xs:Array Value} (hv:Wx C aa xs.toList) {i:Nat} {a:AV} (hi:aa[i]?=some a) (w:World):
 ∃x,(part t xs i).run P w= .ok x w/\VR C a x:=
 Ef (P:=P) he (Np he hs) hv (by rw[E4];exact hi) w
theorem JM {C:Cx} {aa bb:List AV} {xs ys:Array Value} (ha:Wx C aa xs.toList) (hb:Wx C bb ys.toList) (n:Nat) (w:World):
 ∀ {fs:List Field} {i:Nat} {l:List TypeDesc} {r:Bool},gT E fs i=some l->ZV l (aa.drop i) (bb.drop i)=some r->(Op.eqFields (n+1) xs ys fs).run P w= .ok r w
 | [],i,l,r,hl,h=>by
  cases hl;generalize aa.drop i=p at h;generalize bb.drop i=q at h;cases p<;>cases q<;>simp[ZV]at h
  subst h;rfl
 |f::fs,i,l,r,hl,h=>by
  have hg:=(dn hl).2 0 f rfl;simp only[gT]at hl;cases hbq:(Nat.beq f.offset i&& !(f.name== "_"))with
  |false=>rw[hbq]at hl;cases hl
  |true=>
  rw[hbq]at hl;obtain⟨d,hd,hl⟩:=Qa.1 hl;obtain⟨l',hr,hl⟩:=Qa.1 hl;cases hl;obtain⟨d',e1,hoff,vS,zB⟩:=hg;simp at e1;subst e1;cases hp:aa.drop i with
  |nil=>rw[hp]at h;simp[ZV]at h
  |cons a p=>
  cases hq:bb.drop i with
  |nil=>rw[hp,hq]at h;simp[ZV]at h
  |cons b q=>
  rw[hp,hq]at h;simp only[ZV]at h;obtain⟨v,hv,h⟩:=Qa.1 h;have ga:aa[i]?=some a:=by have:=congrArg (·[0]?) hp;simpa using this
  have gb:bb[i]?=some b:=by have:=congrArg (·[0]?) hq;simpa using this
  obtain⟨x,hx,aJ⟩:=Dg (P:=P) he zB ha ga w;obtain⟨y,hy,ir⟩:=Dg (P:=P) he zB hb gb w;have heq:=Ov (P:=P) he (Bg zB).1 aJ ir hv n w;have h0:f.offset=i:=by simpa using hoff
  simp only[Op.eqFields,vS,ne_eq,not_false_eq_true,if_true,h0,Sem.run_bind,hx,hy,heq,Result.andThen_ok];cases v with
  |false=>cases h;rfl
  |true=>
   have e1:p=aa.drop (i+1):=by rw[<-List.drop_drop,hp];rfl
   have e2:q=bb.drop (i+1):=by rw[<-List.drop_drop,hq];rfl
   subst e1;subst e2;simpa using JM ha hb n w hr h
theorem L6 {e:TypeId} {d:TypeDesc} (hs:Zg E e=some d) {C:Cx} {aa bb:List AV} {xs ys:Array Value} (ha:Wx C aa xs.toList) (hb:Wx C bb ys.toList) (n:Nat) (w:World):
 ∀(m i:Nat) {r:Bool},ZV (J' d m) (aa.drop i) (bb.drop i)=some r->(Op.eqItems (n+1) e 1 xs ys (List.range' i m)).run P w= .ok r w
 |0,i,r,h=>by
  generalize aa.drop i=p at h;generalize bb.drop i=q at h;cases p<;>cases q<;>simp[ZV,J']at h
  subst h;rfl
 |m+1,i,r,h=>by
  cases hp:aa.drop i with
  |nil=>rw[hp]at h;simp[ZV,J']at h
  |cons a p=>
  cases hq:bb.drop i with
  |nil=>rw[hp,hq]at h;simp[ZV,J']at h
  |cons b q=>
  rw[hp,hq]at h;simp only[J',ZV]at h;obtain⟨v,hv,h⟩:=Qa.1 h;have ga:aa[i]?=some a:=by have:=congrArg (·[0]?) hp;simpa using this
  have gb:bb[i]?=some b:=by have:=congrArg (·[0]?) hq;simpa using this
  obtain⟨x,hx,aJ⟩:=Dg (P:=P) he hs ha ga w;obtain⟨y,hy,ir⟩:=Dg (P:=P) he hs hb gb w;have heq:=Ov (P:=P) he (Bg hs).1 aJ ir hv n w;simp only[List.range'_succ,Op.eqItems,Nat.mul_one,Sem.run_bind,hx,hy,heq,Result.andThen_ok];cases v with
  |false=>cases h;rfl
  |true=>
   have e1:p=aa.drop (i+1):=by rw[<-List.drop_drop,hp];rfl
   have e2:q=bb.drop (i+1):=by rw[<-List.drop_drop,hq];rfl
   subst e1;subst e2;simpa using L6 hs ha hb n w m (i+1) h
omit he in
theorem E6 {t:TypeId} {kd:Kd} (h:aF E t=some kd):
 (∃fs l,Wb E t=some (.struct fs)/\gT E fs.toList 0=some l/\E.e t=true/\kd= .O l)\/
 (∃n e d,Wb E t=some (.array n e)/\Zg E e=some d/\Am.an E e=some 1/\kd= .O (J' d n))\/
 (∃d,Wb E t=some d/\ai d=true/\kd= .J d):=by
 unfold aF at h;split at h
 .next fs hu=>
  cases Y1:E.e t with
  |false=>rw[Y1]at h;cases h
  |true=>
  rw[Y1]at h;obtain⟨l,hl,h⟩:=Qa.1 h;cases h;exact .inl ⟨fs,l,hu,hl,U,U⟩
 .next n e hu=>
  split at h
  .next d hd hs=>cases h;exact .inr (.inl ⟨n,e,d,hu,hd,hs,rfl⟩)
  .cases h
 .next d fS nd hu=>
  cases hs:ai d with
  |true=>rw[hs]at h;cases h;exact .inr (.inr ⟨d,hu,hs,rfl⟩)
  |false=>rw[hs]at h;cases h
 .cases h
theorem Vs {t:TypeId} {kd:Kd} (hk:aF E t=some kd) {C:Cx} {a b:AV} {x y:Value} (ha:VR C a x) (hb:VR C b y) {r:Bool} (h:cG kd a b=some r) (n:Nat) (w:World):
 (Op.equalIn (n+2) t x y).run P w= .ok r w:=by
 rcases E6 hk with⟨fs,l,hu,hl,Y1,rfl⟩|⟨m,e,d,hu,hd,hs,rfl⟩|⟨d,hu,hs,rfl⟩
 .cases ha<;>cases hb<;>simp only[cG]at h<;>try (cases h;done)
  rename_i a' xs hca vT b' ys se hvb
  have hf:P.fieldsOf t=fs:=by simp[Program.fieldsOf,Fe he hu]
  rw[run_equalIn_struct w (n+1) t xs ys (by rw[hf];exact Fe he hu) (he.a t Y1),hf];exact JM he vT hvb n w hl (by simpa using h)
 .cases ha<;>cases hb<;>simp only[cG]at h<;>try (cases h;done)
  rename_i a' xs hca vT b' ys se hvb
  have hi:∃i,E.b.g e=some i/\i.size=1:=by
   unfold Am.an at hs;cases hi:E.b.g e with
   |none=>rw[hi]at hs;cases hs
   |some i=>rw[hi]at hs;exact⟨i,rfl,Option.some.inj hs⟩
  obtain⟨i,hi,hi1⟩:=hi;have hc:P.cellsOf e=1:=by simp[Program.cellsOf,he.c e i hi,hi1]
  rw[run_equalIn_array w (n+1) xs ys (Fe he hu) (he.c e i hi),hc,List.range_eq_range'];exact L6 he hd vT hvb n w m 0 (by simpa using h)
 .exact Ov he hu ha hb h (n+1) w
theorem vU {t:TypeId} {kd:Kd} (hk:aF E t=some kd):P.eqGuardType P.depth t=false:=by
 have qJ:∃k,P.depth=k+2:=⟨_,rfl⟩
 obtain⟨k,iX⟩:=qJ;rw[iX];have sc:∀(j:Nat) {u:TypeId} {d:TypeDesc},Wb E u=some d->ai d=true->P.eqGuardType (j+1) u=false:=by
  intro j u d hu hd;simp only[Program.eqGuardType,Fe he hu];cases d<;>first|rfl|cases hd
 rcases E6 hk with⟨fs,l,hu,hl,Y1,rfl⟩|⟨m,e,d,hu,hd,hs,rfl⟩|⟨d,hu,hs,rfl⟩
 .rw[Program.eqGuardType];simp only[Fe he hu];rw[<-Array.any_toList];rw[List.any_eq_false];intro f hf;obtain⟨j,hj⟩:=List.getElem?_of_mem hf;obtain⟨d,_,_,_,zB⟩:=(dn hl).2 j f hj;obtain⟨h1,h2⟩:=Bg zB;rw[sc k h1 h2];simp
 .rw[Program.eqGuardType];simp only[Fe he hu];obtain⟨h1,h2⟩:=Bg hd;exact sc k h1 h2
 .exact sc (k+1) hu hs
end
section
variable {E : c_} {P : Program} (he : Wd E P)
abbrev jB (op:BinOp) (t:TypeId) (x y:Operand) (a b:Value):Sem Value:=do eqGuard op t x y a b;binOp op t a b
theorem Eo {o:Oper} {op:BinOp} {t yt:TypeId} {x y:Operand} (ho:o.op= .binOp op t x y yt):∀ρ,execOp ρ o=(do pure (.value (<-jB op t x y (ρ x) (ρ y)))):=by
 intro ρ;simp[execOp,ho,jB]
theorem ok_int2 {o:Oper} {op:BinOp} {t yt:TypeId} {x y:Operand} (ho:o.op= .binOp op t x y yt) {f:IntKind->Int->Int->Option AV} (hf:pf op=some f):W5 E P o (Zh E (qA f) x y):=by
 refine EC (Eo ho) ?_;intro C w v u p q r hv hu hr;cases hv with
 |int k a=>
  cases hu with
  |int k' b=>simp_all [qA,jB,JH,intF_ok]
  |_=>simp[qA]at hr
 |_=>simp[qA]at hr
theorem ok_str2 {o:Oper} {op:BinOp} {t yt:TypeId} {x y:Operand} (ho:o.op= .binOp op t x y yt) {f:List UInt8->List UInt8->Option AV} (hf:vl op=some f):W5 E P o (Zh E (rS f) x y):=by
 refine EC (Eo ho) ?_;intro C w v u p q r hv hu hr;cases hv with
 |an h1=>
  cases hu with
  |an h2=>simp_all [rS,jB,UU,strF_ok]
  |_=>simp[rS]at hr
 |_=>simp[rS]at hr
theorem ok_sh {o:Oper} {op:BinOp} {t yt:TypeId} {x y:Operand} (ho:o.op= .binOp op t x y yt) (XB:op= .shl\/op= .shr):W5 E P o (Zh E (jR (if op= .shl then V4 else lz)) x y):=by
 refine EC (Eo ho) ?_;intro C w v u p q r hv hu hr;cases hv with
 |int k a=>
  cases hu with
  |int k' b=>
   simp only[jR]at hr;rcases XB with rfl|rfl
   .simp only[if_true,V4]at hr;split at hr
    .cases hr
    .next hb=>cases hr;exact⟨_,by simp only[jB,Sem.run_bind,JH,Result.andThen_ok,binOp,Op.shift,hb,if_false];rfl,.int _ _⟩
   .simp only[reduceCtorEq,if_false,lz]at hr;split at hr
    .cases hr
    .next hb=>cases hr;exact⟨_,by simp only[jB,Sem.run_bind,JH,Result.andThen_ok,binOp,Op.shift,hb,if_false];rfl,.int _ _⟩
  |_=>simp[jR]at hr
 |_=>simp[jR]at hr
def cq:Value->Value->Bool
 | .int _ _,.int _ _=>false
 | .float _ _,_=>false
 | .complex _ _ _,_=>false
 | .string _,.string _=>false
 | .nilIface,.nilIface=>false
 | .agg _,.agg _=>false
 |_,_=>true
theorem ET {op:BinOp} {t:TypeId} {x y:Operand} {a b:Value} (h:cq a b=true) (w:World):(eqGuard op t x y a b).run P w= .ok () w:=by
 unfold eqGuard;split
 all_goals first|rfl|(cases a<;>cases b<;>first|rfl|cases h)
theorem R0 {neg:Bool} {t:TypeId} {a b:Value} (h:cq a b=true) {r:Bool} {w:World} (he:(Op.equal t a b).run P w= .ok r w):
 (binOp (if neg then .neq else .eql) t a b).run P w= .ok (.bool (bif neg then !r else r)) w:=by
 cases neg<;>cases a<;>cases b<;>first|(cases h;done)|(simp[binOp,he];done)
theorem ID {C:Cx} {neg:Bool} {o:Option Bool} {r:AV} (h:Y2 neg o=some r):∃b,o=some b/\VR C r (.bool (bif neg then !b else b)):=by
 unfold Y2 at h;split at h
 .cases h;exact⟨_,rfl,.bool _⟩
 .cases h
theorem Ut {o:Oper} {neg:Bool} {t yt:TypeId} {x y:Operand} (ho:o.op= .binOp (if neg then .neq else .eql) t x y yt) {f:AV->AV->Option Bool}
 (h:∀(C:Cx) (w:World) a b p q r,VR C a p->VR C b q->f a b=some r->cq p q=true/\(Op.equal t p q).run P w= .ok r w):
 W5 E P o (Zh E (fun a b=>Y2 neg (f a b)) x y):=by
 refine EC (Eo ho) ?_;intro C w v u p q r hv hu hr;obtain⟨b,hb,hrb⟩:=ID (C:=C) hr;obtain⟨h1,h2⟩:=h C w v u p q b hv hu hb;exact⟨_,by simp only[jB,Sem.run_bind,ET h1,Result.andThen_ok,R0 h1 h2],hrb⟩
theorem BN {t:TypeId} {a b:Value} {r:Bool} {w:World} (h:∀n,(Op.equalIn (n+1) t a b).run P w= .ok r w):(Op.equal t a b).run P w= .ok r w:=h 9999
section steps
variable {t : TypeId} (n : Nat) (w : World)
include he
theorem in_ptr0 {e:TypeId} (hu:Wb E t=some (.pointer e)) (b:Option Addr):(Op.equalIn (n+1) t (.pointer none) (.pointer b)).run P w= .ok b.isNone w:=by
 simp only[Op.equalIn,Sem.run_bind,Ag he hu,Result.andThen_ok,Sem.run_pure]
theorem in_ptr1 {e:TypeId} (hu:Wb E t=some (.pointer e)) (a:Addr):(Op.equalIn (n+1) t (.pointer (some a)) (.pointer none)).run P w= .ok false w:=by
 simp only[Op.equalIn,Sem.run_bind,Ag he hu,Result.andThen_ok,Sem.run_pure]
theorem UK {e:TypeId} (hu:Wb E t=some (.pointer e)) {k:Nat} (hs:Am.an E e=some (k+1)) {a b:Addr} {r:Bool} (h:(sameAddr a b).run P w= .ok r w):
 (Op.equalIn (n+1) t (.pointer (some a)) (.pointer (some b))).run P w= .ok r w:=by
 simp only[Op.equalIn,Sem.run_bind,Ag he hu,A1 he hs,Result.andThen_ok,ne_eq,Nat.succ_ne_zero,not_false_eq_true,if_true,h]
theorem in_fn0 {ps rs:Array TypeId} {v:Bool} (hu:Wb E t=some (.func ps rs v)):(Op.equalIn (n+1) t .nilFunc .nilFunc).run P w= .ok true w:=by
 simp only[Op.equalIn,Sem.run_bind,Ag he hu,Result.andThen_ok,Sem.run_pure]
theorem in_fn1 {ps rs:Array TypeId} {v:Bool} (hu:Wb E t=some (.func ps rs v)) (f:Fn) (a b:Array Value):(Op.equalIn (n+1) t .nilFunc (.func f a b)).run P w= .ok false w:=by
 simp only[Op.equalIn,Sem.run_bind,Ag he hu,Result.andThen_ok,Sem.run_pure]
theorem in_fn2 {ps rs:Array TypeId} {v:Bool} (hu:Wb E t=some (.func ps rs v)) (f:Fn) (a b:Array Value):(Op.equalIn (n+1) t (.func f a b) .nilFunc).run P w= .ok false w:=by
 simp only[Op.equalIn,Sem.run_bind,Ag he hu,Result.andThen_ok,Sem.run_pure]
theorem in_if0 {ms:Array (String×TypeId)} (hu:Wb E t=some (.interface ms)):(Op.equalIn (n+1) t .nilIface .nilIface).run P w= .ok true w:=by
 simp only[Op.equalIn,Sem.run_bind,Ag he hu,Result.andThen_ok,Sem.run_pure]
theorem in_if1 {ms:Array (String×TypeId)} (hu:Wb E t=some (.interface ms)) (u:TypeId) (a:Value):(Op.equalIn (n+1) t .nilIface (.iface u a)).run P w= .ok false w:=by
 simp only[Op.equalIn,Sem.run_bind,Ag he hu,Result.andThen_ok,Sem.run_pure]
theorem in_if2 {ms:Array (String×TypeId)} (hu:Wb E t=some (.interface ms)) (u:TypeId) (a:Value):(Op.equalIn (n+1) t (.iface u a) .nilIface).run P w= .ok false w:=by
 simp only[Op.equalIn,Sem.run_bind,Ag he hu,Result.andThen_ok,Sem.run_pure]
theorem in_if3 {ms:Array (String×TypeId)} (hu:Wb E t=some (.interface ms)) {u v:TypeId} (h:u≠v) (a b:Value):(Op.equalIn (n+1) t (.iface u a) (.iface v b)).run P w= .ok false w:=by
 simp only[Op.equalIn,Sem.run_bind,Ag he hu,Result.andThen_ok,ne_eq,h,not_false_eq_true,if_true,Sem.run_pure]
theorem in_if4 {ms:Array (String×TypeId)} (hu:Wb E t=some (.interface ms)) {u:TypeId} {i:TypeInfo} (hi:E.b.g u=some i) (hc:i.comparable=true) {a b:Value} {r:Bool}
 (h:(Op.equalIn n u a b).run P w= .ok r w):(Op.equalIn (n+1) t (.iface u a) (.iface u b)).run P w= .ok r w:=by
 simp only[Op.equalIn,Sem.run_bind,Ag he hu,Result.andThen_ok,ne_eq,not_true_eq_false,if_false,BA he hi,hc,Bool.not_true,Bool.false_eq_true,h]
end steps
include he
theorem Us {o:Oper} {neg:Bool} {t yt:TypeId} {x y:Operand} (ho:o.op= .binOp (if neg then .neq else .eql) t x y yt) (hu:Wb E t=some .bool):
 W5 E P o (Zh E (fun a b=>Y2 neg (ud .bool a b)) x y):=by
 refine Ut ho ?_;intro C w a b p q r ha hb h;have heq:=Ov (P:=P) he hu ha hb h 9999 w;refine⟨?_,heq⟩;unfold ud at h;split at h
 .cases ha;cases hb;rfl
 .next k j p q e=>cases e
 .next e=>cases e
 .cases h
theorem Ur {o:Oper} {neg:Bool} {t yt:TypeId} {x y:Operand} (ho:o.op= .binOp (if neg then .neq else .eql) t x y yt) {ps rs:Array TypeId} {v:Bool} (hu:Wb E t=some (.func ps rs v)):
 W5 E P o (Zh E (fun a b=>Y2 neg (l7 a b)) x y):=by
 refine Ut ho ?_;intro C w a b p q r ha hb h;unfold l7 at h;split at h<;>first|(cases h;done)|skip
 .cases ha;cases hb;cases h;exact⟨rfl,BN fun n=>in_fn0 he n w hu⟩
 .cases ha;cases h;cases hb<;>exact⟨rfl,BN fun n=>in_fn1 he n w hu _ _ _⟩
 .cases hb;cases h;cases ha<;>exact⟨rfl,BN fun n=>in_fn2 he n w hu _ _ _⟩
theorem Rs {t e:TypeId} (hu:Wb E t=some (.pointer e)) {C:Cx} {w:World} {a b:AV} {p q:Value} {r:Bool} (ha:VR C a p) (hb:VR C b q) (h:nV a b=some r):
 cq p q=true/\(Op.equal t p q).run P w= .ok r w:=by
 unfold nV at h;split at h<;>first|(cases h;done)|skip
 all_goals
  cases ha;cases hb;cases h;first
   |exact⟨rfl,BN fun n=>in_ptr0 he n w hu _⟩
   |exact⟨rfl,BN fun n=>in_ptr1 he n w hu _⟩
theorem vV {o:Oper} {neg:Bool} {t yt:TypeId} {x y:Operand} (ho:o.op= .binOp (if neg then .neq else .eql) t x y yt) {e:TypeId} (hu:Wb E t=some (.pointer e)):
 W5 E P o (Zh E (fun a b=>Y2 neg (nV a b)) x y):=
 Ut ho fun _ _ _ _ _ _ _ ha hb h=>Rs he hu ha hb h
omit he in
theorem Ou {s:St} {a b:AV} {r:Bool} (h:jq s a b=some r):(∃b1 i b2 j,a= .J b1 i/\b= .J b2 j)\/nV a b=some r:=by
 unfold jq at h;split at h
 .exact .inl ⟨_,_,_,_,U,U⟩
 .exact .inr h
theorem Vr {t e:TypeId} {n:Nat} (hu:Wb E t=some (.pointer e)) (hs:Am.an E e=some (n+1)) {C:Cx} {S:St} {w:World} (hS:WW C S w) {b1 i b2 j:Nat} {p q:Value} {b:Bool}
 (uM:VR C (.J b1 i) p) (uN:VR C (.J b2 j) q) (hb:jq S (.J b1 i) (.J b2 j)=some b):cq p q=true/\(Op.equal t p q).run P w= .ok b w:=by
 cases uM with
 |aG fS=>
 cases uN with
 |aG nd=>
 refine⟨U,?_⟩;simp only[jq]at hb;cases zC:Nat.beq b1 b2 with
 |true=>
  rw[zC]at hb;have:b1=b2:=Qb zC;subst this;cases hb;have:(sameAddr ⟨(C.a b1).b,(C.a b1).a+i,none⟩ ⟨(C.a b1).b,(C.a b1).a+j,none⟩).run P w= .ok (Nat.beq i j) w:=by
   simp only[sameAddr,beq_self_eq_true,if_true,Sem.run_pure]
   congr 1
   rw[Bool.eq_iff_iff];simp
  exact BN fun n=>UK he n w hu hs this
 |false=>
  rw[zC]at hb;cases hv:(H_ (S.b.g b1)&&H_ (S.b.g b2))with
  |false=>rw[hv]at hb;cases hb
  |true=>
   rw[hv]at hb;cases hb;simp only[Qf]at hv;have var:∀k,H_ (S.b.g k)=true->∃o c e',S.b.g k=some o/\w.heap[(C.a k).b]?=some (.cells c e' (0,0)):=by
    intro k hk;cases hgk:S.b.g k with
    |none=>rw[hgk]at hk;cases hk
    |some o=>
     rw[hgk]at hk;cases o with
     |J cs e' part=>
      have uf:part=false:=by simpa[H_]using hk
      subst uf;obtain⟨_,x',hx',hr⟩:=hS.a k _ hgk;cases hr with
      |J hv ha X2 WS hf hp=>obtain⟨_,_,rfl⟩:=hp rfl;exact⟨_,_,_,rfl,hx'⟩
     |_=>cases hk
   obtain⟨o1,c1,e1,g1,m1⟩:=var b1 hv.1;obtain⟨o2,c2,e2,g2,m2⟩:=var b2 hv.2;have Yh:(C.a b1).b≠(C.a b2).b:=fun e=>by
    have:=hS.inj b1 b2 o1 o2 g1 g2 e;subst this;simp at zC
   have:=run_sameAddr_other (P:=P) w (a:=⟨(C.a b1).b,(C.a b1).a+i,none⟩) (b:=⟨(C.a b2).b,(C.a b2).a+j,none⟩) (fun e=>Yh (congrArg Addr.block e)) m1 m2;exact BN fun n=>UK he n w hu hs this
theorem Up {o:Oper} {neg:Bool} {t yt:TypeId} {x y:Operand} (ho:o.op= .binOp (if neg then .neq else .eql) t x y yt) {e:TypeId} {n:Nat} (hu:Wb E t=some (.pointer e))
 (hs:Am.an E e=some (n+1)):W5 E P o (.c_ fun T s=>(Ci E x T).bind fun a=>(Ci E y T).bind fun b=>Y2 neg (jq s a b)):=by
 intro C T a S w hg hT hS v h;obtain⟨u,kY,h⟩:=Qa.1 h;obtain⟨u2,vW,h⟩:=Qa.1 h;obtain⟨b,hb,hrb⟩:=ID (C:=C) h;have uM:=Al hg hT kY;have uN:=Al hg hT vW;have main:cq (a.eval x) (a.eval y)=true/\(Op.equal t (a.eval x) (a.eval y)).run P w= .ok b w:=by
  rcases Ou hb with⟨b1,i,b2,j,rfl,rfl⟩|h
  .exact Vr he hu hs hS uM uN hb
  .exact Rs he hu uM uN h
 refine⟨_,?_,hrb⟩;rw[Eo ho];simp only[jB,Sem.run_bind,ET main.1,Result.andThen_ok,R0 main.1 main.2,Sem.run_pure]
theorem Uq {o:Oper} {neg:Bool} {t yt:TypeId} {x y:Operand} (ho:o.op= .binOp (if neg then .neq else .eql) t x y yt) {kd:Option Kd} (hk:kd=aF E t)
 (hu:(∃fs,Wb E t=some (.struct fs))\/∃n e,Wb E t=some (.array n e)):W5 E P o (tc E neg kd x y):=by
 subst hk;unfold tc;split
 .next kd hkd=>
  refine EC (Eo ho) ?_;intro C w v u p q r hv zD hr;obtain⟨b,hb,hrb⟩:=ID (C:=C) hr;have heq:=Vs (P:=P) he hkd hv zD hb 9998 w;have hagg:∃xs ys,p= .agg xs/\q= .agg ys:=by
   rcases E6 hkd with⟨fs,l,_,_,_,rfl⟩|⟨m,e,d,_,_,_,rfl⟩|⟨d,hd,hs,rfl⟩
   .cases hv<;>cases zD<;>simp only[cG]at hb<;>first|(cases hb;done)|exact⟨_,_,rfl,rfl⟩
   .cases hv<;>cases zD<;>simp only[cG]at hb<;>first|(cases hb;done)|exact⟨_,_,rfl,rfl⟩
   .exfalso;rcases hu with⟨fs,hu⟩|⟨n,e,hu⟩<;>rw[hu]at hd<;>cases hd<;>cases hs
  obtain⟨xs,ys,rfl,rfl⟩:=hagg;refine⟨_,?_,hrb⟩;simp only[jB,Sem.run_bind,run_eqGuard_agg w _ t x y xs ys (vU he hkd),Result.andThen_ok];have heq':(Op.equal t (.agg xs) (.agg ys)).run P w= .ok b w:=heq;cases neg
  .simp[binOp,heq']
  .simp[binOp,heq']
 .exact W5.bad
theorem Sy {o:Oper} {neg:Bool} {t yt:TypeId} {x y:Operand} (ho:o.op= .binOp (if neg then .neq else .eql) t x y yt) {ms:Array (String×TypeId)} (hu:Wb E t=some (.interface ms)):
 W5 E P o (Zh E (fun a b=>Y2 neg (iB E (u_ x||u_ y) a b)) x y):=by
 refine EC (Eo ho) ?_;intro C w v u p q r hv zD hr;obtain⟨b,hb,hrb⟩:=ID (C:=C) hr;have fin:cq p q=true->(Op.equal t p q).run P w= .ok b w->∃z,(jB (if neg then .neq else .eql) t x y p q).run P w= .ok z w/\VR C r z:=fun h1 h2=>
  ⟨_,by simp only[jB,Sem.run_bind,ET h1,Result.andThen_ok,R0 h1 h2],hrb⟩
 unfold iB at hb;split at hb
 .cases hl:(u_ x||u_ y)with
  |false=>rw[hl]at hb;cases hb
  |true=>
   rw[hl]at hb;cases hb;cases hv;cases zD;have hg:(eqGuard (if neg then .neq else .eql) t x y .nilIface .nilIface).run P w= .ok () w:=by
    cases neg<;>cases x<;>cases y<;>first|rfl|(simp[u_]at hl)
   refine⟨_,?_,hrb⟩;simp only[jB,Sem.run_bind,hg,Result.andThen_ok];have h0:(Op.equal t .nilIface .nilIface).run P w= .ok true w:=BN fun n=>in_if0 he n w hu;cases neg<;>simp[binOp,h0]
 .cases hv;cases zD;cases hb;exact fin U (BN fun n=>in_if1 he n w hu _ _)
 .cases hv;cases zD;cases hb;exact fin U (BN fun n=>in_if2 he n w hu _ _)
 .next t1 a1 t2 a2=>
  cases hv with
  |Y hv=>
  cases zD with
  |Y zD=>
  refine fin U ?_;cases htt:Nat.beq t1 t2 with
  |false=>
   rw[htt]at hb;cases hb;have Yh:t1≠t2:=fun e=>by subst e;simp at htt
   exact BN fun n=>in_if3 he n w hu Yh _ _
  |true=>
   rw[htt]at hb;have:t1=t2:=Qb htt;subst this;cases hc:eW E t1 with
   |false=>rw[hc]at hb;cases hb
   |true=>
   rw[hc]at hb;obtain⟨d,hd,hb⟩:=Qa.1 hb;unfold eW at hc;cases hi:E.b.g t1 with
   |none=>rw[hi]at hc;cases hc
   |some i=>
    rw[hi]at hc;exact in_if4 he 9999 w hu hi hc (Ov (P:=P) he (Bg hd).1 hv zD hb 9998 w)
 .cases hb
omit he in
theorem nilA_ok {C:Cx} {v:AV} {x:Value} (h:VR C v x) {l:List Bool} (e:zU v=some l):∃a n c,x= .slice a n c/\a.isNone∈l:=by
 cases h with
 |Ca a hxx=>cases e;cases a<;>exact⟨_,_,_,rfl,by simp⟩
 |O hd hc Zu=>cases e;exact⟨_,_,_,rfl,by simp⟩
 |XT hxx hd hc=>cases e;exact⟨_,_,_,rfl,by simp⟩
 |Xm a h Zu=>cases e;cases a<;>exact⟨_,_,_,rfl,by simp⟩
 |Ck hl hm ha hv Y8 WS Zu=>
  rename_i Cv off len sz c cl cs ms vs
  cases cs with
  |nil=>cases e;exact⟨_,_,_,rfl,by simp⟩
  |cons q cs=>cases e;exact⟨_,_,_,rfl,by simp⟩
 |_=>simp[zU]at e
theorem vX {o:Oper} {neg:Bool} {t yt:TypeId} {x:Operand} (ho:o.op= .binOp (if neg then .neq else .eql) t x (.const (.slice none 0 0)) yt) {e:TypeId} (hu:Wb E t=some (.slice e)):
 W5 E P o (.d_ fun T=>(Ci E x T).bind fun a=>(zU a).bind fun l=>some (pg neg l)):=by
 intro C T a S w hg hT hS l h;obtain⟨u,kY,h⟩:=Qa.1 h;obtain⟨bs,vD,h⟩:=Qa.1 h;cases h;obtain⟨ad,n,c,hx,XU⟩:=nilA_ok (Al hg hT kY) vD;have Yi:∀(bs:List Bool) (b:Bool),b∈bs->(AV.bool (bif neg then !b else b))∈pg neg bs:=by
  intro bs;induction bs with
  |nil=>intro b h;cases h
  |cons q bs ih=>
   intro b h;rcases Qk.1 h with rfl|h
   .exact Qh ..
   .exact Qg _ (ih b h)
 refine⟨_,Yi bs _ XU,_,?_,.bool _⟩;have heq:(Op.equal t (a.eval x) (a.eval (.const (.slice none 0 0)))).run P w= .ok ad.isNone w:=by
  refine BN fun n=>?_;rw[hx];show(Op.equalIn (n+1) t _ (.slice none 0 0)).run P w=_;cases ad<;>simp only[Op.equalIn,Sem.run_bind,Ag he hu,Result.andThen_ok,Sem.run_pure]<;>rfl
 have hp:cq (a.eval x) (a.eval (.const (.slice none 0 0)))=true:=by rw[hx];rfl
 rw[Eo ho];simp only[jB,Sem.run_bind,ET hp,Result.andThen_ok,R0 hp heq,Sem.run_pure]
theorem ok_eq {o:Oper} {neg:Bool} {t yt:TypeId} {x y:Operand} (ho:o.op= .binOp (if neg then .neq else .eql) t x y yt):W5 E P o (K' E neg t x y):=by
 unfold K';split
 .next hu=>exact Us he ho hu
 .next e hu=>
  split
  .next n hs=>exact Up he ho hu hs
  .exact vV he ho hu
 .next ms hu=>exact Sy he ho hu
 .next ps rs v hu=>exact Ur he ho hu
 .grind [Uq]
 .grind [Uq]
 .next e hu=>
  split
  .exact vX he ho hu
  .exact W5.bad
 .exact W5.bad
theorem ok_bin {o:Oper} {op:BinOp} {t yt:TypeId} {x y:Operand} (ho:o.op= .binOp op t x y yt):W5 E P o (iC E op t x y):=by
 unfold iC;split
 .grind [ok_sh,ok_int2,W5.bad]
 .grind [ok_str2,W5.bad]
 .grind [ok_eq,W5.bad]
end
inductive OV (C:Cx):Option AV->Option Value->Prop where
 |J:OV C none none
 |O {v:AV} {x:Value} (h:VR C v x):OV C (some v) (some x)
section
variable {E : c_} {P : Program}
theorem GO {C:Cx} {T:Tr AV} {a:Act} (hg:WN E C) (hT:TR C a.tmps.size T a.tmps) {x:Option Operand} {v:Option AV} (h:XR E x T=some v):OV C v (x.map a.eval):=by
 cases x with
 |none=>cases h;exact .J
 |some x=>
  simp only[XR]at h;obtain⟨u,hu,h⟩:=Qa.1 h;cases h;exact .O (Al hg hT hu)
theorem VB {n bq:Nat} (h:n<=bq) (k:IntKind) (code:BoundsCode) (w:World):(Instr.sliceBound (.int k (n:Int)) bq code).run P w= .ok n w:=by
 have hc:(0:Int)<=(n:Int)/\(n:Int)<=(bq:Int):=by omega
 simp[Instr.sliceBound,asIntOf,h]
theorem DE {C:Cx} {bq r:Nat} {v:AV} {x:Value} (hv:VR C v x) {dflt:Nat} (h:WB dflt bq (some v)=some r) {m:Nat} (hm:bq<=m) (code:BoundsCode) (w:World):
 (Instr.sliceBound x m code).run P w= .ok r w/\r<=bq:=by
 simp only[WB]at h;obtain⟨n,hn,h⟩:=Qa.1 h;obtain⟨k,rfl⟩:=FL hv hn;cases hb:Nat.ble n bq with
 |false=>rw[hb]at h;cases h
 |true=>
  rw[hb]at h;cases h;have:=Qc hb;exact⟨VB (by omega) k code w,this⟩
theorem Ir {d m r:Nat} (h:WB d m none=some r):r=d:=by cases h;rfl
theorem Dj {C:Cx} {lo hi:Option AV} {xlo xhi:Option Value} (qK:OV C lo xlo) (rG:OV C hi xhi) {len bq c h l:Nat} (hmc:bq<=c) (Zu:len<=c)
 (h1:WB len bq hi=some h) (h2:WB 0 h lo=some l) (b:Bool) (w:World):
 (Instr.sliceBounds b len c xlo xhi none).run P w= .ok (l,h,c) w/\l<=h/\h<=c:=by
 have hh:h<=c/\∀code,(match xhi with|some v=>Instr.sliceBound v c code|none=>pure len:Sem Nat).run P w= .ok h w:=by
  cases rG with
  |J=>cases Ir h1;exact⟨Zu,fun _=>rfl⟩
  |O hv=>exact⟨Nat.le_trans (DE (P:=P) hv h1 hmc .index w).2 hmc,fun code=>(DE (P:=P) hv h1 hmc code w).1⟩
 have hl:l<=h/\∀code,(match xlo with|some v=>Instr.sliceBound v h code|none=>pure 0:Sem Nat).run P w= .ok l w:=by
  cases qK with
  |J=>cases Ir h2;exact⟨Qo _,fun _=>rfl⟩
  |O hv=>exact⟨(DE (P:=P) hv h2 (Qj _) .index w).2,fun code=>(DE (P:=P) hv h2 (Qj _) code w).1⟩
 refine⟨?_,hl.1,hh.1⟩;have e1:=hh.2;have e2:=hl.2;unfold Instr.sliceBounds;cases rG with
 |J=>
  cases qK with
  |J=>simp_all
  |O hv=>simp_all
 |O uO=>
  cases qK with
  |J=>simp_all
  |O hv=>simp_all
theorem U2 {C:Cx} {S:St} {w:World} (hS:WW C S w) {b off len sz c:Nat} {cap:Option Nat} (hc:qG C b off sz cap c) {cs:List AV} (WS:Ww (S.b.g b)=some cs):
 jt sz off len cap cs<=c:=by
 cases cap with
 |some k=>simp only[qG]at hc;simp[jt,hc.1]
 |none=>
  simp only[qG]at hc;simp only[jt];have hs:Nat.beq sz 0=false:=by cases sz with|zero=>omega|succ n=>rfl
  rw[hs];obtain⟨_,x,e,fr,vs,hx,hv,ha,X2,_,_⟩:=hS.u WS;have h1:=hv.g;have h2:=ha.le;simp only[Array.length_toList]at h2;simp only[cond_false,DT];have:(cs.length-off)<=c*sz:=by omega
  exact Nat.div_le_of_le_mul (by rw[Nat.mul_comm];exact this)
variable (he : Wd E P)
include he
theorem vY {t e:TypeId} {sz:Nat} (hu:Wb E t=some (.slice e)) (X2:Am.an E e=some sz) {C:Cx} {S:St} {w:World} (hS:WW C S w) {v r:AV} {x:Value} (hv:VR C v x)
 {lo hi mx:Option AV} {xlo xhi xmx:Option Value} (qK:OV C lo xlo) (rG:OV C hi xhi) (hmx:OV C mx xmx) (h:Xp S sz lo hi mx v=some r):
 ∃z,(Instr.sliceAt t x xlo xhi xmx).run P w= .ok z w/\VR C r z:=by
 have run:∀(a:Option Addr) (n c l h m:Nat),(Instr.sliceBounds true n c xlo xhi xmx).run P w= .ok (l,h,m) w->
  (Instr.sliceAt t (.slice a n c) xlo xhi xmx).run P w= .ok (.slice (if m=l then a else a.map (·.add (l*sz))) (h-l) (m-l)) w:=by
  intro a n c l h m hb;simp[Instr.sliceAt,Instr.slice,Ag he hu,hb,A1 he X2]
 have moved:∀ {a:Option Addr} {q:Prop} [Decidable q] {k:Nat},uK C a->uK C (if q then a else a.map (·.add k)):=by
  intro a q _ k ha ad qu;split at qu
  .exact ha ad qu
  .cases a with
   |none=>cases qu
   |some ad0=>
    cases qu;have:=ha ad0 rfl;unfold Addr.add;split<;>exact this
 cases hv with
 |Ca a vZ=>
  simp only[Xp]at h;cases hmx with
  |J=>
   simp only[vm]at h;obtain⟨p,hp,h⟩:=Qa.1 h;obtain⟨q,hq,h⟩:=Qa.1 h;cases h;have Z4:p=0:=by
    cases rG with
    |J=>cases hp;rfl
    |O hv=>have:=(DE (P:=P) hv hp (Qj _) .index w).2;omega
   subst Z4;obtain⟨hb,hle,_⟩:=Dj (P:=P) qK rG (Qj 0) (Qj 0) hp hq true w;have hq0:q=0:=by omega
   subst hq0;exact⟨_,run a 0 0 0 0 0 hb,.Ca _ vZ⟩
  |O wa=>simp[vm]at h
 |O hd hc Zu=>
  rename_i b off len Z5 cap c
  simp only[Xp]at h;cases gY:Nat.beq Z5 sz with
  |false=>rw[gY]at h;cases h
  |true=>
  rw[gY]at h;have:Z5=sz:=Qb gY;subst this;obtain⟨cs,WS,h⟩:=Qa.1 h;have hmost:=U2 hS hc (len:=len) WS;generalize jt Z5 off len cap cs=bq at h hmost;cases hmx with
  |J=>
   simp only[iF]at h;obtain⟨p,hp,h⟩:=Qa.1 h;obtain⟨l,hl,h⟩:=Qa.1 h;obtain⟨hb,hle,uh⟩:=Dj (P:=P) qK rG hmost Zu hp hl true w;refine⟨_,run _ len c l p c hb,?_⟩;cases cap with
   |some k=>
    obtain⟨rfl,hk0⟩:=hc;simp only[A_,Option.some.injEq]at h;subst h;cases rH:Nat.beq c l with
    |true=>
     have:c=l:=Qb rH;subst this;have h0:Nat.beq c 0=false:=by cases c with|zero=>omega|succ n=>rfl
     have Y1:p-c=0:=by omega
     simp only[cond_true,h0,cond_false,if_true,Y1,Nat.sub_self];exact .Ca _ (.some (hS.j _ hd))
    |false=>
     have Yh:c≠l:=fun e=>by subst e;simp at rH
     simp only[cond_false,Yh,if_false,Option.map_some,Bx,Nat.add_assoc];exact .O hd ⟨U,by omega⟩ (by omega)
   |none=>
    obtain⟨qw,ct⟩:=hc;have wc:(C.a b).a+(off+l*Z5)+(c-l)*Z5=(C.a b).c:=by
     rw[Nat.sub_mul];have:=Nat.mul_le_mul_right Z5 (Nat.le_trans hle uh);omega
    simp only[A_]at h;cases hlm:Nat.blt l bq with
    |true=>
     rw[hlm]at h;cases h;have:l<bq:=by simpa[Nat.blt_eq]using hlm
     have Yh:c≠l:=by omega
     simp only[Yh,if_false,Option.map_some,Bx,Nat.add_assoc];exact .O hd ⟨by rw[<-Nat.add_assoc]at wc|-;exact wc,ct⟩ (by omega)
    |false=>
     rw[hlm]at h;cases Z4:Nat.beq (p-l) 0 with
     |false=>rw[Z4]at h;cases h
     |true=>
      rw[Z4]at h;cases h;have Y1:p-l=0:=Qb Z4;rw[Y1];by_cases Yh:c=l
      .subst Yh;simp only[if_true,Nat.sub_self];exact .XT (hS.j _ hd) hd (.inl U)
      .simp only[Yh,if_false,Option.map_some,Bx,Nat.add_assoc];exact .XT (hS.j _ hd) hd (.inr ⟨U,wc,ct⟩)
  |O wa=>simp[iF]at h
 |XT vZ hd hc=>
  rename_i b off Z5 a c
  simp only[Xp]at h;cases gY:Nat.beq Z5 sz with
  |false=>rw[gY]at h;cases h
  |true=>
  rw[gY]at h;have:Z5=sz:=Qb gY;subst this;obtain⟨cs,WS,h⟩:=Qa.1 h;simp only[jt]at h;cases hmx with
  |J=>
   simp only[iF]at h;obtain⟨p,hp,h⟩:=Qa.1 h;obtain⟨l,hl,h⟩:=Qa.1 h;have Z4:p=0:=by
    cases rG with
    |J=>cases hp;rfl
    |O hv=>have:=(DE (P:=P) hv hp (Qj _) .index w).2;omega
   subst Z4;obtain⟨hb,hle,_⟩:=Dj (P:=P) qK rG (Qo c) (Qo c) hp hl true w;have eH:l=0:=by omega
   subst eH;cases h;refine⟨_,run _ 0 c 0 0 c hb,?_⟩;have:(if c=0 then some a else Option.map (fun x=>x.add (0*Z5)) (some a))=some a:=by
    split
    .rfl
    .simp[Addr.add]
   rw[this];exact .XT vZ hd hc
  |O wa=>simp[iF]at h
 |Xm a h0 Zu=>
  rename_i Z5 cl len c
  simp only[Xp]at h;cases gY:Nat.beq Z5 sz with
  |false=>rw[gY]at h;cases h
  |true=>
  rw[gY]at h;have:Z5=sz:=Qb gY;subst this;have we:∀ {k n:Nat} {q:List AV},v_ [] k n=some q->q=[]/\n=0:=by
   intro k n q hq;obtain⟨pre,post,h1,h2,h3⟩:=FX hq;have:=congrArg List.length h1;simp at this;have hq0:q=[]:=List.eq_nil_of_length_eq_zero (by omega);exact⟨hq0,by rw[<-h3,hq0];rfl⟩
  cases hmx with
  |J=>
   simp only[cond_true,cX,kO]at h;obtain⟨p,hp,h⟩:=Qa.1 h;obtain⟨l,hl,h⟩:=Qa.1 h;obtain⟨q,hq,h⟩:=Qa.1 h;cases h;obtain⟨hb,hle,uh⟩:=Dj (P:=P) qK rG Zu Zu hp hl true w;obtain⟨rfl,hn⟩:=we hq;exact⟨_,run _ len c l p c hb,.Xm _ hn (by omega)⟩
  |O wa=>simp[cX]at h
 |Ck eH uP ha hv0 Y8 WS Zu=>
  rename_i Cv off len Z5 c cl cs ms vs
  simp only[Xp]at h;cases gY:Nat.beq Z5 sz with
  |false=>rw[gY]at h;cases h
  |true=>
  rw[gY]at h;have:Z5=sz:=Qb gY;subst this;have made:∀ {l p m:Nat} {q:List AV},v_ cs (l*Z5) ((p-l)*Z5)=some q->l<=p->p<=m->
   VR C (.Ck q (p-l) Z5 cl) (.slice (if m=l then some (⟨Cv,off,none⟩:Addr)else Option.map (fun x:Addr=>x.add (l*Z5)) (some (⟨Cv,off,none⟩:Addr))) (p-l) (m-l)):=by
   intro l p m q hq h1 h2;obtain⟨y,hy,hyd,hql,hcq,_,Y0⟩:=hv0.M hq;by_cases h0:(p-l)*Z5=0
   .have:q=[]:=List.eq_nil_of_length_eq_zero (by omega);subst this;exact .Xm _ h0 (by omega)
   .have Yh:m≠l:=by
     intro e;have:p-l=0:=by omega
     rw[this]at h0;simp at h0
    simp only[Yh,if_false,Option.map_some,Bx];refine .Ck hql uP (vs:=y) ?_ hy ?_ (hcq WS) (by omega)
    .obtain⟨p1,q1,e1,e2⟩:=ha;obtain⟨p2,q2,e3,e4⟩:=Y0;exact⟨p1++p2,q2++q1,by rw[e1,e3];simp,by simp[e2,e4]⟩
    .intro hct;obtain⟨y',uL,hyd',_⟩:=(Y8 hct).M hq;rw[hyd,<-hyd'];exact uL
  cases hmx with
  |J=>
   simp only[cond_true,cX,kO]at h;obtain⟨p,hp,h⟩:=Qa.1 h;obtain⟨l,hl,h⟩:=Qa.1 h;obtain⟨q,hq,h⟩:=Qa.1 h;cases h;obtain⟨hb,hle,uh⟩:=Dj (P:=P) qK rG Zu Zu hp hl true w;exact⟨_,run _ len c l p c hb,made hq hle uh⟩
  |O wa=>simp[cX]at h
 |_=>simp[Xp]at h
end
section
variable {E : c_} {P : Program}
theorem Oo {s:ByteArray} {l h:Nat} {q:List UInt8} (hq:v_ s.data.toList l (h-l)=some q) (hlh:l<=h):(s.extract l h).data.toList=q:=by
 obtain⟨pre,post,h1,h2,h3⟩:=FX hq;have hs:s.data.toList.length=s.data.size:=by simp
 have hle:h<=s.data.size:=by
  have:=congrArg List.length h1;simp only[Qm]at this;omega
 have:(s.extract l h).data=s.data.extract l h:=by simp[ByteArray.data_extract]
 rw[this];rw[Array.toList_extract,h1,List.extract_eq_take_drop,<-h3,<-h2];simp
variable (he : Wd E P)
include he
theorem S_ {o:Oper} {t:TypeId} {x:Operand} {lo hi mx:Option Operand} (ho:o.op= .slice t x lo hi mx):W5 E P o (dK E t x lo hi mx):=by
 have hex:∀ρ,execOp ρ o=(do pure (.value (<-Instr.sliceAt t (ρ x) (lo.map ρ) (hi.map ρ) (mx.map ρ)))):=fun ρ=>by simp[execOp,ho]
 unfold dK;split
 .next hu=>
  split
  .intro C T a S w hg hT hS v h;obtain⟨u,kY,h⟩:=Qa.1 h;obtain⟨l,hl,h⟩:=Qa.1 h;obtain⟨hh,hhh,h⟩:=Qa.1 h;have hv:=Al hg hT kY;rw[hex];generalize a.eval x=xv at hv;cases hv with
   | @an _ q s hs=>
    simp only[jr]at h;obtain⟨h1,ng,h⟩:=Qa.1 h;obtain⟨l1,ow,h⟩:=Qa.1 h;obtain⟨r,hr,h⟩:=Qa.1 h;cases h;rw[<-hs]at ng hr;have hlen:Xu s.data.toList=s.size:=by simp
    rw[hlen]at ng;obtain⟨hb,hle,_⟩:=Dj (P:=P) (GO hg hT hl) (GO hg hT hhh) (Qj s.size) (Qj s.size) ng ow false w;refine⟨.string (s.extract l1 h1),?_,.an (Oo hr hle)⟩;simp[Instr.sliceAt,Instr.slice,Ag he hu,hb]
   |_=>simp[jr]at h
  .exact W5.bad
 .next e hu=>
  split
  .next sz X2=>
   intro C T a S w hg hT hS v h;obtain⟨u,kY,h⟩:=Qa.1 h;obtain⟨l,hl,h⟩:=Qa.1 h;obtain⟨hh,hhh,h⟩:=Qa.1 h;obtain⟨m,hm,h⟩:=Qa.1 h;obtain⟨z,hz,kZ⟩:=vY (P:=P) he hu X2 hS (Al hg hT kY) (GO hg hT hl) (GO hg hT hhh) (GO hg hT hm) h;exact⟨z,by rw[hex];simp[hz],kZ⟩
  .exact W5.bad
 .exact W5.bad
omit he in
theorem WT.u {C:Cx} {b:Nat} {l:List XA} {es:List MapEntry} (h:WT C b l es):es.length=l.length:=by
 induction h with
 |O=>rfl
 |J _ _ _ _ _ ih=>simp[ih]
omit he in
theorem AE {w:World} {r:Nat} {x:Obj} (h:w.heap[r]?=some x) (hc:∀c e f,x≠ .cells c e f):(getObj r).run P w= .ok x w:=by
 simp only[getObj,Sem.run,h]
omit he in
structure iY (C:Cx) (b:Nat) (es:List XA) (clock:Nat) (w:World) (arr:Array MapEntry) (l:List MapEntry):Prop where
 d:C.D b
 f:w.heap[(C.a b).b]?=some (.map arr clock)
 a:l.Perm arr.toList
 i:WT C b es l
 e:Aab es
 c:(l.map (·.born)).Nodup
 j:∀n,C.G b n->C.b b n<clock
 g:∀n,C.G b n->n<clock
 inj:∀n m,C.G b n->C.G b m->C.b b n=C.b b m->n=m
omit he in
theorem WW.z {C:Cx} {S:St} {w:World} (h:WW C S w) {b:Nat} {es:List XA} {clock:Nat} (hb:S.b.g b=some (.Y es clock)):∃arr l,iY C b es clock w arr l:=by
 obtain⟨hd,x,hx,hr⟩:=h.a b _ hb;cases hr with
 |Y hp h hk hn hc hg hi=>exact⟨_,_,hd,hx,hp,h,hk,hn,hc,hg,hi⟩
omit he in
theorem WT.G {C:Cx} {b:Nat} {l:List XA} {es:List MapEntry} (h:WT C b l es) {n:Nat} (hh:∀k,C.G b k->C.b b k<n):∀e∈es,e.born<n:=by
 induction h with
 |O=>simp
 |J hk hv hg hn _ ih=>
  intro e he;rcases Qk.1 he with rfl|he
  .rw[hn];exact hh _ hg
  .exact ih e he
theorem ok_len {o:Oper} {c:Call} {t:TypeId} {x:Operand} (ho:o.op= .call c) (hc:c.callee= .builtin .len) (fT:c.argTypes.toList.head?=some t) (gu:c.args.toList=[x]):
 W5 E P o (pr E t x):=by
 have Xx:c.args= #[x]:=Array.ext' (by simpa using gu);have tm:c.argTypes[0]?=some t:=by rw[<-fT,List.head?_eq_getElem?];simp
 have hex:∀ρ,execOp ρ o=(do pure (.value (<-Builtin.len_ c.argTypes o.type #[ρ x]))):=by
  intro ρ;simp[execOp,ho,resolve,hc,Xx,invoke,builtin]
 unfold pr;split
 .next hu=>
  refine Bm (G:=fun v=>Builtin.len_ c.argTypes o.type #[v]) hex ?_;intro C w v y r hv hr;cases hv with
  | @an _ q s hs=>
   cases hr;refine⟨goInt s.size,by simp[Builtin.len_,tm,Ag he hu],?_⟩;rw[<-hs];have:((Xu s.data.toList:Nat):Int)=(s.size:Int):=by simp
   rw[this];exact .int _ _
  |_=>simp[po]at hr
 .next e hu=>
  refine Bm (G:=fun v=>Builtin.len_ c.argTypes o.type #[v]) hex ?_;intro C w v y r hv hr;cases hv<;>simp only[aQ]at hr<;>first|(cases hr;done)|skip
  all_goals
   cases hr;exact⟨_,by simp[Builtin.len_,tm,Ag he hu];rfl,.int _ _⟩
 .next n e hu=>
  refine Bm (G:=fun v=>Builtin.len_ c.argTypes o.type #[v]) (f:=fun _=>some (.int .i64 n)) hex ?_;intro C w v y r hv hr;cases hr;exact⟨_,by simp[Builtin.len_,tm,Ag he hu];rfl,.int _ _⟩
 .next k e hu=>
  refine Hx (G:=fun v=>Builtin.len_ c.argTypes o.type #[v]) hex ?_;intro C S w v y r hS hv hr;simp only[pq]at hr;obtain⟨es,fi,hr⟩:=Qa.1 hr;cases hr;cases hv with
  |WZ=>cases fi;exact⟨_,by simp[Builtin.len_,tm,Ag he hu];rfl,.int _ _⟩
  |b_ hd=>
   simp only[l9]at fi;obtain⟨cl,hm⟩:=Jz fi;obtain⟨arr,l,hmr⟩:=hS.z hm;have hx:=hmr.f;have hp:=hmr.a;have hents:=hmr.i;refine⟨goInt arr.size,by simp[Builtin.len_,tm,Ag he hu,AE hx (by intros;simp)],?_⟩;have:((Xu es:Nat):Int)=(arr.size:Int):=by
    have h1:=hents.u;have h2:=hp.length_eq;simp only[Array.length_toList]at h2;simp only[DT];omega
   rw[this];exact .int _ _
  |_=>simp[l9]at fi
 .next a hu=>
  split
  .next n e vW=>
   refine Bm (G:=fun v=>Builtin.len_ c.argTypes o.type #[v]) (f:=fun _=>some (.int .i64 n)) hex ?_;intro C w v y r hv hr;cases hr;exact⟨_,by simp[Builtin.len_,tm,Ag he hu,Ag he vW];rfl,.int _ _⟩
  .exact W5.bad
 .exact W5.bad
theorem ok_cap {o:Oper} {c:Call} {t:TypeId} {x:Operand} (ho:o.op= .call c) (hc:c.callee= .builtin .cap) (fT:c.argTypes.toList.head?=some t) (gu:c.args.toList=[x]):
 W5 E P o (V_ E t x):=by
 have Xx:c.args= #[x]:=Array.ext' (by simpa using gu);have tm:c.argTypes[0]?=some t:=by rw[<-fT,List.head?_eq_getElem?];simp
 have hex:∀ρ,execOp ρ o=(do pure (.value (<-Builtin.cap_ c.argTypes o.type #[ρ x]))):=by
  intro ρ;simp[execOp,ho,resolve,hc,Xx,invoke,builtin]
 unfold V_;split
 .next e hu=>
  refine Bm (G:=fun v=>Builtin.cap_ c.argTypes o.type #[v]) hex ?_;intro C w v y r hv hr;cases hv with
  |Ca a hxx=>cases hr;exact⟨_,by simp[Builtin.cap_,tm,Ag he hu];rfl,.int _ _⟩
  | @O _ b off len sz cap k hd dk Zu=>
   cases cap with
   |none=>simp[zW]at hr
   |some n=>
    obtain⟨rfl,h0⟩:=dk;cases k with
    |zero=>omega
    |succ k=>cases hr;exact⟨_,by simp[Builtin.cap_,tm,Ag he hu];rfl,.int _ _⟩
  |XT hxx hd dk=>simp[zW]at hr
  |_=>simp[zW]at hr
 .exact W5.bad
end
section
variable {E : c_} {P : Program} (he : Wd E P)
theorem FA {C:Cx}:∀(l:List UInt8),Wx C (z_ l) (l.map fun b=> .int .u8 b.toNat)/\j_ (z_ l)/\(z_ l).length=l.length
 | []=>⟨.O,(fun _ h=>by cases h),rfl⟩
 |c::l=>by
  obtain⟨h1,h2,h3⟩:=FA (C:=C) l;refine⟨.J (.int _ _) h1,fun v hv=>?_,by simp[z_,h3]⟩;rcases Qk.1 hv with rfl|hv
  .rfl
  .exact h2 v hv
theorem F9 {C:Cx}:∀ {cs:List AV} {vs:List Value} {r:List UInt8},Wx C cs vs->YR cs=some r->
 ∃ns:List Int,vs=ns.map (.int .u8)/\r=ns.map fun n=>UInt8.ofNat n.toNat
 | [],vs,r,h,e=>by cases h;cases e;exact⟨[],rfl,rfl⟩
 |v::cs,vs,r,h,e=>by
  cases h with
  |J hv ht=>
  cases hv with
  |int k n=>
   cases k<;>simp only[YR]at e<;>try (cases e;done)
   obtain⟨q,hq,e1⟩:=Qa.1 e;cases e1;obtain⟨ns,h1,h2⟩:=F9 ht hq;exact⟨n::ns,by simp[h1],by simp[h2]⟩
  |_=>simp[YR]at e
include he
omit he in
theorem M0 {w:World} (a:Addr):mY w a []:=fun j v h=>by simp at h
omit he in
theorem GC {C:Cx} {S:St} {w:World} (hS:WW C S w) {v:AV} {x:Value} (hv:VR C v x) {sz:Nat} {p:List AV×Nat} (e:Yd S sz v=some p):
 ∃a c vs,x= .slice a p.2 c/\Wx C p.1 vs/\j_ p.1/\vs.length=p.2*sz/\(∀ad,a=some ad->mY w ad vs)/\(a=none->vs=[]):=by
 cases hv with
 |Ca a hxx=>cases e;exact⟨a,0,[],rfl,.O,(fun _ h=>by cases h),by simp,fun ad _=>M0 ad,fun _=>rfl⟩
 |Xm a h0 Zu=>
  rename_i Z5 cl len c
  simp only[Yd]at e;cases hs:Nat.beq Z5 sz with
  |false=>rw[hs]at e;cases e
  |true=>
   rw[hs]at e;obtain⟨l,hl,e1⟩:=Qa.1 e;cases e1;have:Z5=sz:=Qb hs;subst this;rw[h0]at hl;cases hl;exact⟨a,c,[],rfl,.O,(fun _ h=>by cases h),by simp[h0],fun ad _=>M0 ad,fun _=>rfl⟩
 |Ck hl hm ha Xr Y8 WS Zu=>
  rename_i Cv off len Z5 c cl cs ms vs
  simp only[Yd]at e;cases hs:Nat.beq Z5 sz with
  |false=>rw[hs]at e;cases e
  |true=>
   rw[hs]at e;obtain⟨l,dC,e1⟩:=Qa.1 e;cases e1;have:Z5=sz:=Qb hs;subst this;obtain⟨post,rfl,ui⟩:=BS dC;obtain⟨y,z,rfl,h1,h2⟩:=AB Xr;obtain⟨cc,ty,fr,hx,rfl⟩:=hS.l _ _ hm;exact⟨_,c,y,rfl,h1,WS.sub.1,h1.g.trans ui,(fun ad qu=>by cases qu;exact JF hx ha.left),(fun h=>by cases h)⟩
 |O hd hc Zu=>
  rename_i b off len Z5 cap c
  simp only[Yd]at e;cases hs:Nat.beq Z5 sz with
  |false=>rw[hs]at e;cases e
  |true=>
   rw[hs]at e;obtain⟨cs,WS,e1⟩:=Qa.1 e;obtain⟨q,hq,e2⟩:=Qa.1 e1;obtain⟨l,dC,e3⟩:=Qa.1 e2;cases e3;have:Z5=sz:=Qb hs;subst this;obtain⟨pre,rfl,hp⟩:=BF hq;obtain⟨post,rfl,ui⟩:=BS dC;obtain⟨_,cc,ty,fr,vs,hx,Xr,ha,X2,hcc,_⟩:=hS.u WS;obtain⟨y,z,rfl,h1,h2⟩:=AB Xr;obtain⟨z1,z2,rfl,h3,h4⟩:=AB h2;refine⟨_,c,z1,rfl,h3,(hcc.sub.2).sub.1,h3.g.trans ui,(fun ad qu=>?_),(fun h=>by cases h)⟩;cases qu;refine JF hx ?_;have:=ha.sub (a:=y) (b:=z1) (c:=z2) (by simp);rw[h1.g,hp]at this;exact this
 |XT hxx hd hc=>
  rename_i b off Z5 a c
  simp only[Yd]at e;cases hs:Nat.beq Z5 sz with
  |false=>rw[hs]at e;cases e
  |true=>
   rw[hs]at e;obtain⟨cs,WS,e1⟩:=Qa.1 e;obtain⟨q,hq,e2⟩:=Qa.1 e1;obtain⟨l,dC,e3⟩:=Qa.1 e2;cases e3;rw[Nat.zero_mul]at dC;cases dC;exact⟨_,c,[],rfl,.O,(fun _ h=>by cases h),by simp,fun ad _=>M0 ad,fun _=>rfl⟩
 |_=>simp[Yd]at e
omit he in
omit he in
theorem JS {o:Oper} {src dst:TypeId} {x:Operand} (ho:o.op= .convert src dst x):∀ρ,execOp ρ o=(do pure (.value (<-convert src dst (ρ x)))):=by
 intro ρ;simp[execOp,ho]
theorem Sz {o:Oper} {src dst:TypeId} {x:Operand} (ho:o.op= .convert src dst x) {j k:IntKind} (h1:Wb E src=some (.int j)) (h2:Wb E dst=some (.int k)):
 W5 E P o (.O fun T=>(Ci E x T).bind (l8 k)):=by
 refine Bm (JS ho) ?_;intro C w v y r hv hr;cases hv with
 |int q n=>cases hr;exact⟨_,by simp[convert,Ag he h1,Ag he h2,Conv.intToInt],.int _ _⟩
 |_=>simp[l8]at hr
theorem Pf {src dst t:TypeId} {n:Nat} (h1:Wb E src=some (.pointer t)) (h2:Wb E dst=some .unsafePointer) (hs:Am.an E t=some (n+1)) {C:Cx} {S:St} {w:World} (hS:WW C S w)
 {v r:AV} {x:Value} (hv:VR C v x) (h:iD S v=some r):∃z,(convert src dst x).run P w= .ok z w/\VR C r z:=by
 cases hv with
 |W2=>
  cases h;exact⟨_,by simp[convert,Ag he h1,Ag he h2,Conv.unsafePointer],.W2⟩
 | @aG _ b off hd=>
  simp only[iD]at h;obtain⟨cs,WS,h⟩:=Qa.1 h;cases hb:Nat.blt off (Xu cs)with
  |false=>rw[hb]at h;cases h
  |true=>
   rw[hb]at h;cases h;have C5:off<cs.length:=by simpa[Nat.blt_eq]using hb
   obtain⟨_,c,ty,fr,vs,hx,Xr,ha,X2,_,_⟩:=hS.u WS;have hle:=ha.le;have e1:=Xr.g;simp only[Array.length_toList]at hle;have hnot:¬(c.size<=(C.a b).a+off):=by omega
   have tp:w.shape? (C.a b).b=some (ty,c.size):=by simp[World.shape?,hx]
   refine⟨_,?_,.aG hd⟩;simp[convert,Ag he h1,Ag he h2,Conv.unsafePointer,Conv.seenAt,viewAt,cellsIn,tp,A1 he hs,hnot]
 |_=>simp[iD]at h
omit he in
theorem Hh {u off:Nat}:∀ {fs:List Field},fI u off fs=true->∃f∈fs,f.offset=off/\f.type=u
 | [],h=>by cases h
 |f::l,h=>by
  simp only[fI,Bool.or_eq_true,Qf]at h;rcases h with⟨h1,h2⟩|h
  .exact⟨f,Qh ..,Qb h1,Qb h2⟩
  .obtain⟨g,hg,h⟩:=Hh h;exact⟨g,Qg _ hg,h⟩
theorem HW {t:TypeId} {n:Nat} (h:Am.an E t=some n):P.cellsOf t=n:=by
 unfold Am.an at h;cases hi:E.b.g t with
 |none=>rw[hi]at h;cases h
 |some i=>rw[hi]at h;simp[Program.cellsOf,he.c t i hi,Option.some.inj h]
theorem lies_ok {e u off n m k:Nat} (hn:Am.an E e=some n) (hm:Am.an E u=some (m+1)) (h:ph E e u off=true) (hk:n<=k) (ho:off<n):
 liesAt P P.depth e (k/P.cellsOf e) off u 1=true:=by
 have qJ:∃q,P.depth=q+2:=⟨_,rfl⟩
 obtain⟨q,hq⟩:=qJ;have hc:=HW (P:=P) he hn;have hcu:=HW (P:=P) he hm;have tr:∀t d,sameLayout P (d+1) t t=true:=fun t d=>by simp[sameLayout]
 have hcount:0<k/n:=Nat.div_pos hk (by omega);rw[hc];rw[hq,liesAt];refine Bool.or_eq_true_iff.2 (.inl ?_);rw[hq,rowAt,hc];have nh:n≠0:=by omega
 have hmod:off % n=off:=Nat.mod_eq_of_lt ho;have hdiv:off/n=0:=Nat.div_eq_of_lt ho;simp only[nh,if_false,hmod,hdiv];unfold ph at h;rcases Bool.or_eq_true_iff.1 h with h|h
 .simp only[Qf]at h;have e1:e=u:=Qb h.1;have e2:off=0:=Qb h.2;subst e1;subst e2;simp[tr];left;omega
 .rw[Qf]at h;obtain⟨hnest,h⟩:=h;split at h
  .next fs hu=>
   obtain⟨f,hf,h1,h2⟩:=Hh h;refine Bool.or_eq_true_iff.2 (.inr ?_);simp only[Fe he hu,he.a e hnest];simp only[Qf,decide_eq_true_eq,Bool.not_false,true_and];refine⟨hcount,?_⟩;rw[<-Array.any_toList,List.any_eq_true];refine⟨f,hf,?_⟩;subst h1;subst h2;simp[rowAt,hcu,tr]
  .cases h
theorem M3 {src dst u:TypeId} {m:Nat} (h1:Wb E src=some .unsafePointer) (h2:Wb E dst=some (.pointer u)) (hs:Am.an E u=some (m+1)) {C:Cx} {S:St} {w:World} (hS:WW C S w)
 {v r:AV} {x:Value} (hv:VR C v x) (h:dJ E S u v=some r):∃z,(convert src dst x).run P w= .ok z w/\VR C r z:=by
 cases hv with
 |W2=>
  cases h;exact⟨_,by simp[convert,Ag he h1,Ag he h2,Conv.unsafePointer],.W2⟩
 | @aG _ b off hd=>
  simp only[dJ]at h;unfold iE at h;split at h
  .next cs e hob=>
   obtain⟨n,hn,h⟩:=Qa.1 h;cases hb:(ph E e u off&&Nat.ble n (Xu cs)&&Nat.blt off n)with
   |false=>rw[hb]at h;cases h
   |true=>
    rw[hb]at h;cases h;simp only[Qf]at hb;obtain⟨⟨b1,b2⟩,b3⟩:=hb;obtain⟨_,xo,hx,hr⟩:=hS.a b _ hob;cases hr with
    |J Xr ha X2 WS hf hp=>
    rename_i c fr vs
    obtain⟨p1,p2,p3⟩:=hp rfl;have wg:=lies_ok (P:=P) (k:=c.size) he hn hs b1 (by have:=Qc b2;simp only[DT]at this;omega) (by simpa[Nat.blt_eq]using b3);have tp:w.shape? (C.a b).b=some (e,c.size):=by simp[World.shape?,hx]
    refine⟨_,?_,.aG hd⟩;rw[p1,Nat.zero_add];simp[convert,Ag he h1,Ag he h2,Conv.unsafePointer,Conv.seenAt,viewAt,variablesAt,tp,A1 he hs,wg]
  .cases h
 |_=>simp[dJ]at h
theorem ok_conv {o:Oper} {src dst:TypeId} {x:Operand} (ho:o.op= .convert src dst x):W5 E P o (qB E src dst x):=by
 unfold qB;split
 .next j k h1 h2=>exact Sz he ho h1 h2
 .next t h1 h2=>
  split
  .next n hs=>exact Hx (JS ho) fun C S w v y r hS hv hr=>Pf he h1 h2 hs hS hv hr
  .exact W5.bad
 .next u h1 h2=>
  split
  .next n hs=>exact Hx (JS ho) fun C S w v y r hS hv hr=>M3 he h1 h2 hs hS hv hr
  .exact W5.bad
 .exact W5.bad
end
theorem Og (jC:Nat):∀(r c:Nat),Builtin.growBy jC r c<=Nat.max c (2*jC+192)
 |0,c=>Nat.le_max_left _ _
 |r+1,c=>by
  unfold Builtin.growBy;split
  .exact Nat.le_max_left _ _
  .refine Nat.le_trans (Og jC r _) ?_;refine Nat.max_le.2 ⟨?_,Nat.le_max_right _ _⟩;exact Nat.le_trans (by omega) (Nat.le_max_right _ _)
theorem Jq {jC cap:Nat} (h:cap<jC):Builtin.nextslicecap jC cap<=2*jC+512:=by
 unfold Builtin.nextslicecap;split
 .omega
 .split
  .omega
  .refine Nat.le_trans (Og jC 4 cap) (Nat.max_le.2 ⟨by omega,by omega⟩)
theorem TU {jC cap b:Nat} (h:cap<jC) (hs:k7 jC b=true):¬(Builtin.nextslicecap jC cap*b>2^48):=by
 obtain⟨h1,h2,h3,h4⟩:=Df hs;have:=Nat.mul_le_mul_right b (Jq h);rw[Nat.add_mul,Nat.mul_assoc]at this;omega
section
variable {E : c_} {P : Program}
theorem mY.heap {w w':World} (h:w'.heap=w.heap) {a:Addr} {vs:List Value} (hh:mY w a vs):mY w' a vs:=by
 intro j v hv;have:=hh j v hv;unfold World.cell? at this|-;rw[h];exact this
theorem Hf {C:Cx} {S:St} {w:World} (hS:WW C S w) {v:AV} {x:Value} (hv:VR C v x) {sz:Nat} {p:List AV×Nat} (e:Yd S sz v=some p):
 ∃xs,(Builtin.lenOf x).run P w= .ok p.2 w/\Wx C p.1 xs/\j_ p.1/\xs.length=p.2*sz/\∀w',w'.heap=w.heap->(Builtin.firstCells sz p.2 x).run P w'= .ok xs.toArray w':=by
 obtain⟨a,c,vs,rfl,Xr,WS,hlen,ox,eu⟩:=GC hS hv e;refine⟨vs,rfl,Xr,WS,hlen,fun w' hw=>?_⟩;cases a with
 |none=>rw[eu rfl];rfl
 |some ad=>exact Jb ((ox ad rfl).heap hw) _ hlen
theorem O7 {C:Cx} {S:St} {w:World} (hS:WW C S w) {v:AV} {x:Value} (hv:VR C v x) {sz:Nat} {p:List AV×Nat} (e:CY S sz v=some p):
 ∃xs,(Builtin.lenOf x).run P w= .ok p.2 w/\Wx C p.1 xs/\j_ p.1/\xs.length=p.2*sz/\∀w',w'.heap=w.heap->(Builtin.firstCells sz p.2 x).run P w'= .ok xs.toArray w':=by
 unfold CY at e;split at e
 .next b=>
  cases hb:Nat.beq sz 1 with
  |false=>rw[hb]at e;cases e
  |true=>
   rw[hb]at e;cases e;have:sz=1:=Qb hb;subst this;cases hv with
   | @an _ l s hs=>
   obtain⟨b1,b2,b3⟩:=FA (C:=C) b;refine⟨_,?_,b1,b2,by simp,fun w' _=>?_⟩
   .simp[Builtin.lenOf,<-hs]
   .subst hs;simp[Builtin.firstCells];apply Array.ext';simp
 .exact Hf hS hv e
variable (he : Wd E P)
include he
def cu (P:Program) (a:Option Addr) (off:Nat) (xs:List Value) (w w':World):Prop:=match a with
 |some a=>(storeCells (a.add off) xs).run P w= .ok () w'
 |none=>w'=w
theorem Kw {ts:Array TypeId} {ty t e:TypeId} {sz n len cap:Nat} {x:Value} {xs:List Value} {a:Option Addr} {w w':World} (ht:ts[0]?=some t) (hu:Wb E t=some (.slice e))
 (X2:Am.an E e=some sz) (hz:Xw E (ts.toList.tail.head?)=false) (hl:(Builtin.lenOf x).run P w= .ok n w) (hf:(Builtin.firstCells sz n x).run P w= .ok xs.toArray w)
 (a9:len+n<=cap) (hzs:∀u,ts[1]?=some u->∃d,Wb E u=some d) (hw:cu P a (len*sz) xs w w'):
 (Builtin.append_ ts ty #[.slice a len cap,x]).run P w= .ok (.slice a (len+n) cap) w':=by
 have h1:ts[1]?=ts.toList.tail.head?:=by simp[List.head?_eq_getElem?]
 unfold cu at hw;cases h:ts[1]? with
 |none=>
  cases a with
  |none=>subst hw;simp[Builtin.append_,ht,h,Ag he hu,A1 he X2,hl,a9,hf]
  |some a=>simp[Builtin.append_,ht,h,Ag he hu,A1 he X2,hl,a9,hf,hw]
 |some u=>
  obtain⟨d,hd⟩:=hzs u h;rw[<-h1,h]at hz;simp only[Xw,hd]at hz;have hm:Builtin.append_.match_1 (fun _=>Bool) d (fun _=>true) (fun _=>false)=false:=by cases d<;>first|rfl|(simp at hz)
  cases a with
  |none=>subst hw;simp[Builtin.append_,ht,h,Ag he hu,Ag he hd,hm,A1 he X2,hl,a9,hf]
  |some a=>simp[Builtin.append_,ht,h,Ag he hu,Ag he hd,hm,A1 he X2,hl,a9,hf,hw]
theorem Jc {ts:Array TypeId} {ty t e:TypeId} {sz VZ n len cap:Nat} {x z:Value} {xs ZO:List Value} {a:Option Addr} {w:World} (ht:ts[0]?=some t) (hu:Wb E t=some (.slice e))
 (X2:Am.an E e=some sz) (cQ:i_ E e=some VZ) (hz:Xw E (ts.toList.tail.head?)=false) (hl:(Builtin.lenOf x).run P w= .ok n w)
 (hf:(Builtin.firstCells sz n x).run P w.drew= .ok xs.toArray w.drew) (ho:(Builtin.firstCells sz len (.slice a len cap)).run P w.drew= .ok ZO.toArray w.drew)
 (uQ:∀w,(zeroValue e).run P w= .ok z w) (a9:cap<len+n) (hs:k7 (len+n) VZ=true) (hzs:∀u,ts[1]?=some u->∃d,Wb E u=some d):
 (Builtin.append_ ts ty #[.slice a len cap,x]).run P w= .ok (.slice (some ⟨w.heap.size,0,none⟩) (len+n) (grownCap w (len+n) cap e))
  (w.drew.alloc (.cells (ZO.toArray++(xs.toArray++Builtin.zeroCells z.cells (grownCap w (len+n) cap e-(len+n)))) e)):=by
 have h1:ts[1]?=ts.toList.tail.head?:=by simp[List.head?_eq_getElem?]
 obtain⟨i,hi,hib⟩:=N1 he cQ w;have oy:=TU a9 hs;obtain⟨b1,b2,b3,b4⟩:=Df hs;have hn:¬(len+n<=cap):=by omega
 have er:i.bytes≠0:=by omega
 have pM:¬(281474976710656<Builtin.nextslicecap (len+n) cap*i.bytes):=by rw[hib];exact oy
 have qx:∀w',(typeInfo e).run P w'= .ok i w':=by
  intro w';unfold i_ at cQ;cases hj:E.b.g e with
  |none=>rw[hj]at cQ;cases cQ
  |some j=>
   have:=BA he hj w;rw[hi]at this;cases this;exact BA he hj w'
 cases h:ts[1]? with
 |none=>
  simp[Builtin.append_,ht,h,Ag he hu,A1 he X2,hl,hn,qx,er,pM,Question.forced,hf,ho,uQ,newRow,grownCap]
 |some u=>
  obtain⟨d,hd⟩:=hzs u h;rw[<-h1,h]at hz;simp only[Xw,hd]at hz;have hm:Builtin.append_.match_1 (fun _=>Bool) d (fun _=>true) (fun _=>false)=false:=by cases d<;>first|rfl|(simp at hz)
  simp[Builtin.append_,ht,h,Ag he hu,Ag he hd,hm,A1 he X2,hl,hn,qx,er,pM,Question.forced,hf,ho,uQ,newRow,grownCap]
theorem QA {e:TypeId} {VZ n:Nat} (cQ:i_ E e=some VZ) (hn:n<=1048576) (hb:n=0\/VZ<=1048576):
 ∃i,(∀w',(typeInfo e).run P w'= .ok i w')/\i.bytes=VZ/\IntKind.i64.wrap (n:Int)=n/\¬(281474976710656:Int)<(n:Int)*(i.bytes:Int):=by
 have hw:IntKind.i64.wrap (n:Int)=n:=Fg (by omega);unfold i_ at cQ;cases hj:E.b.g e with
 |none=>rw[hj]at cQ;cases cQ
 |some j=>
  rw[hj]at cQ;have hib:j.bytes=VZ:=Option.some.inj cQ;refine⟨j,BA he hj,hib,hw,?_⟩;rw[hib];rcases hb with rfl|hb
  .simp
  .have h1:n*VZ<=1048576*1048576:=Nat.mul_le_mul hn hb;have h2:((n*VZ:Nat):Int)<=((1048576*1048576:Nat):Int):=Int.ofNat_le.2 h1;rw[Int.natCast_mul]at h2;omega
theorem Jd {ts:Array TypeId} {ty t e:TypeId} {sz VZ n len cap:Nat} {k:IntKind} {z:Value} {a:Option Addr} {w w':World} (ht:ts[0]?=some t) (hu:Wb E t=some (.slice e))
 (X2:Am.an E e=some sz) (cQ:i_ E e=some VZ) (hz:Xw E (ts.toList.tail.head?)=true) (hn:n<=1048576) (hb:n=0\/VZ<=1048576) (uQ:∀w,(zeroValue e).run P w= .ok z w)
 (a9:len+n<=cap) (fj:n≠0->sz≠0) (hw:cu P a (len*sz) (Builtin.zeroCells z.cells n).toList w w'):
 (Builtin.append_ ts ty #[.slice a len cap,.int k n]).run P w= .ok (.slice a (len+n) cap) w':=by
 have h1:ts[1]?=ts.toList.tail.head?:=by simp[List.head?_eq_getElem?]
 unfold cu at hw;cases h:ts[1]? with
 |none=>rw[<-h1,h]at hz;cases hz
 |some u=>
  rw[<-h1,h]at hz;simp only[Xw]at hz;split at hz
  .next j hd=>
   obtain⟨i,hi,hib,wh,C5⟩:=QA he cQ hn hb;have mZ:¬((n:Int)<0):=by omega
   by_cases h0:n=0
   .subst h0;have hwr':IntKind.i64.wrap 0=0:=wh;have hfit':len<=cap:=a9;have hzc:Builtin.zeroCells z.cells 0= #[]:=by simp[Builtin.zeroCells]
    rw[hzc]at hw;cases a with
    |none=>subst hw;simp[Builtin.append_,ht,h,Ag he hu,Ag he hd,A1 he X2,asInt,asIntOf,hwr',hi,hfit']
    |some a=>simp at hw;simp[Builtin.append_,ht,h,Ag he hu,Ag he hd,A1 he X2,asInt,asIntOf,hwr',hi,hfit',hw]
   .have h00:¬(n*sz=0):=by have:=fj h0;simp only[Nat.mul_eq_zero];omega
    cases a with
    |none=>subst hw;simp[Builtin.append_,ht,h,Ag he hu,Ag he hd,A1 he X2,asInt,asIntOf,wh,hi,C5,mZ,uQ,a9]
    |some a=>simp only at hw;simp[Builtin.append_,ht,h,Ag he hu,Ag he hd,A1 he X2,asInt,asIntOf,wh,hi,C5,mZ,h00,uQ,a9,hw]
  .cases hz
theorem Iz {ts:Array TypeId} {ty t e:TypeId} {sz VZ n len cap:Nat} {k:IntKind} {z:Value} {ZO:List Value} {a:Option Addr} {w:World} (ht:ts[0]?=some t) (hu:Wb E t=some (.slice e))
 (X2:Am.an E e=some sz) (cQ:i_ E e=some VZ) (hz:Xw E (ts.toList.tail.head?)=true) (hn:n<=1048576) (uQ:∀w,(zeroValue e).run P w= .ok z w)
 (ho:(Builtin.firstCells sz len (.slice a len cap)).run P w.drew= .ok ZO.toArray w.drew)
 (a9:cap<len+n) (hs:k7 (len+n) VZ=true) (fj:sz≠0) (nh:n≠0):
 (Builtin.append_ ts ty #[.slice a len cap,.int k n]).run P w= .ok (.slice (some ⟨w.heap.size,0,none⟩) (len+n) (grownCap w (len+n) cap e))
  (w.drew.alloc (.cells (ZO.toArray++(Builtin.zeroCells z.cells n++Builtin.zeroCells z.cells (grownCap w (len+n) cap e-(len+n)))) e)):=by
 have h1:ts[1]?=ts.toList.tail.head?:=by simp[List.head?_eq_getElem?]
 have oy:=TU a9 hs;obtain⟨b1,b2,b3,b4⟩:=Df hs;obtain⟨i,hi,hib,wh,C5⟩:=QA he cQ hn (.inr b4);have mZ:¬((n:Int)<0):=by omega
 have h00:¬(n*sz=0):=by simp only[Nat.mul_eq_zero];omega
 have hnf:¬(len+n<=cap):=by omega
 have er:i.bytes≠0:=by omega
 have hmx:¬(9223372036854775807<(len:Int)+(n:Int)):=by omega
 have pM:¬(281474976710656<Builtin.nextslicecap (len+n) cap*i.bytes):=by rw[hib];exact oy
 cases h:ts[1]? with
 |none=>rw[<-h1,h]at hz;cases hz
 |some u=>
  rw[<-h1,h]at hz;simp only[Xw]at hz;split at hz
  .next j hd=>
   simp[Builtin.append_,ht,h,Ag he hu,Ag he hd,A1 he X2,asInt,asIntOf,wh,hi,C5,mZ,h00,uQ,hnf,hmx,pM,Question.forced,ho,newRow,grownCap]
  .cases hz
end
end Am
