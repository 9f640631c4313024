/- The abstract machine: its operations are the model's, first part. -/
import Derived.Test.YtfhimfcbphepeaaGreatDoorAmA
import Derived.Laws.Tables
import Derived.IntWalk
import Derived.Laws.Strings
import Derived.ChangeKeysEq
import Derived.LaidEql
import Derived.Laws.IdiomStrings
set_option linter.unusedSectionVars false
set_option linter.unusedVariables false
set_option linter.unusedSimpArgs false
namespace Am
open Go
def W5 (E:Env) (C:Cx):Prop:=∀g cs,E.pW g=some cs->∃ms,C.M g=some ms/\Wc C cs ms/\Cells cs
theorem W5.mono {E:Env} {C C':Cx} (h:W5 E C) (e:Ext C C'):W5 E C':=fun g cs hg=>
 let⟨ms,hm,hv,hc⟩:=h g cs hg;⟨ms,e.M _ _ hm,hv.mono e,hc⟩
inductive oP (C:Cx):fD->Deferred->Prop where
 |fn {fn:Fn} {a b:List AV} {x y:Array Value} (hf:∀l,fn≠ .yield l) (ha:Wc C a x.toList) (hb:Wc C b y.toList):oP C ⟨.fn fn b,a⟩ ⟨.fn fn y,x⟩
 |collected {r:Nat} (hd:C.D r):oP C ⟨.collected r,[]⟩ ⟨.collected (C.pl r).Ci, #[]⟩
inductive ue (C:Cx):AV->Next->Prop where
 |value {v:AV} {x:Value} (h:VR C v x):ue C v (.value x)
 |skip:ue C (.tuple []) .skip
def Yq (E:Env) (P:Program) (o:Oper) (so:bf):Prop:=
 ∀(C:Cx) (T:Tr AV) (a:Act) (S:St) (w:World),W5 E C->TR C a.tmps.size T a.tmps->W2 C S w->
 match so with
 | .bad=>True
 | .pure f=>∀v,f T=some v->∃x,(execOp a.eval o).run P w= .ok (.value x) w/\VR C v x
 | .read _ f=>∀v,f T S=some v->∃x,(execOp a.eval o).run P w= .ok (.value x) w/\VR C v x
 | .look f=>∀v,f T S=some v->∃x,(execOp a.eval o).run P w= .ok (.value x) w/\VR C v x
 | .make f=>(∀v,f T=some (.val v)->∃C' x w',(execOp a.eval o).run P w= .ok (.value x) w'/\Cu C S w C' S w'/\VR C' v x)/\
  (∀ob g,f T=some (.obj ob g)->∃C' x w',(execOp a.eval o).run P w= .ok (.value x) w'/\Cu C S w C' (S.alloc ob) w'/\VR C' (g S.next) x)
 | .act _ _ f=>∀v S',f T S=some (v,S')->∃C' nx w',(execOp a.eval o).run P w= .ok nx w'/\Cu C S w C' S' w'/\ue C' v nx
 | .pick f=>∀l,f T=some l->∃v∈l,∃x,(execOp a.eval o).run P w= .ok (.value x) w/\VR C v x
 | .lO f=>∀l,f T S=some l->∃p∈l,∃C' x w',(execOp a.eval o).run P w= .ok (.value x) w'/\Cu C S w C' p.2 w'/\VR C' p.1 x
 | .call f=>∀g args,f T S=some (g,args)->∃xs,(execOp a.eval o).run P w= .ok (.enter g xs) w/\Wc C args xs.toList
 | .ah f ar=>∀g args,f T=some g->ar T=some args->∃gx xs,VR C g gx/\Wc C args xs.toList/\
  execOp a.eval o=(do let d<-Deferred.ofValue gx xs;invoke d.target d.args)
 | .defer f=>∀d,f T=some d->∃dv,(execOp a.eval o).run P w= .ok (.defer dv) w/\oP C d dv
 | .panic f=>∀v,f T=some v->∃x,(execOp a.eval o).run P w= .halt (.panic x) w/\VR C v x
 | .recover=>(execOp a.eval o).run P w= .ok .recover w
theorem Ak {E:Env} {C:Cx} {T:Tr AV} {a:Act} (hg:W5 E C) (hT:TR C a.tmps.size T a.tmps) {x:Operand} {v:AV} (h:Cg E x T=some v):VR C v (a.eval x):=by
 cases x with
 |tmp t=>
  obtain⟨y,hy,hr⟩:=hT.2 t v h;simpa[Act.eval,Array.getD_eq_getD_getElem?,hy]using hr
 |const c=>
  simp only[Cg]at h;cases hc:lQ c with
  |none=>rw[hc]at h;simp[tH,nothing]at h
  |some u=>rw[hc]at h;simp only[tH,sr]at h;cases h;exact Mn hc
 |global g=>
  simp only[Cg]at h;cases hc:E.pW g with
  |none=>rw[hc]at h;simp[nothing]at h
  |some cs=>
   rw[hc]at h;simp only[sr]at h;cases h;obtain⟨ms,hm,hv,Wt⟩:=hg g cs hc;have hw:Y6 ms 0 ms:= .whole ms;exact .Wl hm hw hv Wt
 |func f=>
  simp only[Cg,sr]at h;cases h;exact .func (fun l e=>by cases e) .nil .nil
theorem Dl {E:Env} {C:Cx} {T:Tr AV} {a:Act} (hg:W5 E C) (hT:TR C a.tmps.size T a.tmps):∀ {l:List Operand} {vs:List AV},CO E l T=some vs->Wc C vs (l.map a.eval)
 | [],vs,h=>by cases h;exact .nil
 |x::l,vs,h=>by
  simp only[CO]at h;obtain⟨v,hv,h⟩:=Qa.1 h;obtain⟨r,hr,h⟩:=Qa.1 h;cases h;exact .cons (Ak hg hT hv) (Dl hg hT hr)
theorem Mi {E:Env} {C:Cx} {T:Tr AV} {a:Act} (hg:W5 E C) (hT:TR C a.tmps.size T a.tmps):∀ {l:List (Nat×Operand)} {ps:List (Nat×AV)},aD E l T=some ps->
 ps.map (·.1)=l.map (·.1)/\Wc C (ps.map (·.2)) (l.map fun p=>a.eval p.2)
 | [],ps,h=>by cases h;exact⟨rfl,.nil⟩
 |p::l,ps,h=>by
  simp only[aD]at h;obtain⟨v,hv,h⟩:=Qa.1 h;obtain⟨r,hr,h⟩:=Qa.1 h;cases h;obtain⟨h1,h2⟩:=Mi hg hT hr;exact⟨by simp[h1],.cons (Ak hg hT hv) h2⟩
theorem F9 {C:Cx} {v:AV} {x:Value} {n:Nat} (h:VR C v x) (e:Xi v=some n):∃k,x= .int k n:=by
 cases h with
 |int k m=>
  cases m with
  |ofNat m=>simp only[Xi,Option.some.injEq]at e;subst e;exact⟨k,rfl⟩
  |negSucc m=>simp[Xi]at e
 |_=>simp[Xi]at e
section
variable {E : Env} {P : Program}
theorem Ba {o:Oper} {x:Operand} {f:AV->Option AV} {G:Value->Sem Value} (ho:∀ρ,execOp ρ o=(do pure (.value (<-G (ρ x)))))
 (h:∀(C:Cx) (w:World) v y r,VR C v y->f v=some r->∃z,(G y).run P w= .ok z w/\VR C r z):Yq E P o (.pure fun T=>(Cg E x T).bind f):=by
 intro C T a S w hg hT hS v hv;obtain⟨u,hu,hv⟩:=Qa.1 hv;obtain⟨z,hz,hr⟩:=h C w u _ v (Ak hg hT hu) hv;exact⟨z,by rw[ho];simp[hz],hr⟩
theorem Em {o:Oper} {x y:Operand} {f:AV->AV->Option AV} {G:Value->Value->Sem Value} (ho:∀ρ,execOp ρ o=(do pure (.value (<-G (ρ x) (ρ y)))))
 (h:∀(C:Cx) (w:World) v u y z r,VR C v y->VR C u z->f v u=some r->∃q,(G y z).run P w= .ok q w/\VR C r q):Yq E P o (YA E f x y):=by
 intro C T a S w hg hT hS v hv;obtain⟨u,hu,hv⟩:=Qa.1 hv;obtain⟨u',jN,hv⟩:=Qa.1 hv;obtain⟨z,hz,hr⟩:=h C w u u' _ _ v (Ak hg hT hu) (Ak hg hT jN) hv;exact⟨z,by rw[ho];simp[hz],hr⟩
theorem Ft {o:Oper} {x y:Operand} {f:St->AV->Option AV} {G:Value->Sem Value} (ho:∀ρ,execOp ρ o=(do pure (.value (<-G (ρ x)))))
 (h:∀(C:Cx) (S:St) (w:World) v y r,W2 C S w->VR C v y->f S v=some r->∃z,(G y).run P w= .ok z w/\VR C r z):
 Yq E P o (.read (Cg E y) fun T s=>(Cg E x T).bind (f s)):=by
 intro C T a S w hg hT hS v hv;obtain⟨u,hu,hv⟩:=Qa.1 hv;obtain⟨z,hz,hr⟩:=h C S w u _ v hS (Ak hg hT hu) hv;exact⟨z,by rw[ho];simp[hz],hr⟩
theorem yD {o:Oper} {c x y:Operand} (ho:o.op= .pick c x y):Yq E P o (.pure fun T=>(Cg E c T).bind (ko (Cg E x) (Cg E y) T)):=by
 intro C T a S w hg hT hS v h;obtain⟨t,ht,h⟩:=Qa.1 h;have hc:=Ak hg hT ht;generalize he:a.eval c=z at hc;cases hc with
 |bool b=>
  cases b with
  |true=>exact⟨_,by simp[execOp,ho,asBool,he],Ak hg hT h⟩
  |false=>exact⟨_,by simp[execOp,ho,asBool,he],Ak hg hT h⟩
 |_=>simp[ko]at h
theorem TM {o:Oper} {x:Operand} (ho:o.op= .move x\/o.op= .assign x):Yq E P o (.pure (Cg E x)):=by
 intro C T a S w hg hT hS v h;refine⟨_,?_,Ak hg hT h⟩;rcases ho with ho|ho<;>simp[execOp,ho]
abbrev Cx.fresh (C:Cx) (S:St) (w:World) (n:Nat):Cx:=C.Cy S.next ⟨w.heap.size,0,n⟩
theorem Fg {C:Cx} {S:St} {w:World} (hS:W2 C S w) (n:Nat):Ext C (C.fresh S w n):=Ext.Cy (fun hd=>Nat.lt_irrefl _ (hS.fresh _ hd))
theorem Dp {C:Cx} {S:St} {w:World} (hS:W2 C S w) {cs:List AV} {c:Array Value} {vs ex:List Value} (hv:Wc C cs vs) (hc:c.toList=vs++ex) (Wt:Cells cs)
 (t:TypeId) (part:Bool) (hp:part=false->ex=[]):Cu C S w (C.fresh S w c.size) (S.alloc (.cells cs t part)) (World.Wb w (.cells c t (0,0))):=by
 refine Cu.alloc hS _ _ c.size (.cells (hv.mono (Fg hS _)) ?_ ?_ Wt (.inr (Qj _)) ?_)
 .rw[AQ,hc];exact⟨[],ex,by simp,rfl⟩
 .rw[AQ]
 .intro h;rw[AQ];refine⟨U,?_,U⟩;have:=congrArg List.length hc;rw[hp h]at this;simpa[hv.length]using this.symm
theorem Ff {C:Cx} {S:St} {w:World} {n:Nat} (off:Nat):VR (C.fresh S w n) (.ptr S.next off) (.pointer (some ⟨w.heap.size,off,none⟩)):=by
 have:=VR.ptr (C:=C.fresh S w n) (off:=off) (I3 C S.next ⟨w.heap.size,0,n⟩);rw[AQ]at this;simpa using this
theorem Dx {C:Cx} {S:St} {w:World} {n len sz:Nat} {cap:Option Nat} {c:Nat} (h:match cap with|some k=>c=k/\0<k|none=>c*sz=n/\0<sz) (YK:len<=c):
 VR (C.fresh S w n) (.slice S.next 0 len sz cap) (.slice (some ⟨w.heap.size,0,none⟩) len c):=by
 have:=VR.slice (C:=C.fresh S w n) (b:=S.next) (off:=0) (len:=len) (sz:=sz) (cap:=cap) (c:=c) (I3 C S.next ⟨w.heap.size,0,n⟩) (by
  cases cap with
  |some k=>exact h
  |none=>simpa[oO,AQ]using h) YK
 rw[AQ]at this;simpa using this
variable (he : CV E P)
include he
theorem uf {o:Oper} {t:TypeId} (ho:o.op= .alloc t):Yq E P o (kt E t):=by
 unfold kt;cases hz:zeroOf E t with
 |none=>intro C T a S w _ _ _;trivial
 |some z=>
  simp only;cases ht:z.isTuple with
  |true=>intro C T a S w _ _ _;trivial
  |false=>
   intro C T a S w hg hT hS;refine⟨(nofun),fun ob g h=>?_⟩;cases h;obtain⟨x,hx,hr,_⟩:=G0 he hz w;refine⟨_,_,_,?_,Dp hS (hr C).cells (c:=x.cells) (ex:=[]) (by simp) ((hr C).Yv ht) t false (fun _=>rfl),Ff 0⟩;simp[execOp,ho,Instr.alloc,hx,newVar,newRow,World.Wb]
omit he in
theorem ok_box {o:Oper} {t:TypeId} {x:Operand} (ho:o.op= .box t x):
 Yq E P o (.make fun T=>(Cg E x T).bind fun v=>bif v.isTuple then none else some (.obj (.cells v.cells t false) fun b=> .ptr b 0)):=by
 intro C T a S w hg hT hS;have key:∀m,((Cg E x T).bind fun v=>bif v.isTuple then none else some (Mk.obj (.cells v.cells t false) fun b=> .ptr b 0))=some m->
  ∃v,Cg E x T=some v/\v.isTuple=false/\m= .obj (.cells v.cells t false) fun b=> .ptr b 0:=by
  intro m h;obtain⟨v,hv,h⟩:=Qa.1 h;cases ht:v.isTuple with
  |true=>rw[ht]at h;cases h
  |false=>rw[ht]at h;cases h;exact⟨v,hv,ht,rfl⟩
 refine⟨fun v h=>?_,fun ob g h=>?_⟩
 .obtain⟨_,_,_,h⟩:=key _ h;cases h
 .obtain⟨v,hv,ht,h⟩:=key _ h;cases h;have hr:=Ak hg hT hv;refine⟨_,_,_,?_,Dp hS hr.cells (c:=(a.eval x).cells) (ex:=[]) (by simp) (hr.Yv ht) t false (fun _=>rfl),Ff 0⟩;simp[execOp,ho,Instr.box,newVar,newRow,World.Wb]
end
theorem MR (off:Nat):∀(l:List Value) (k:Nat) (c:Array Value),(l.zipIdx k).foldl (fun cs (p:Value×Nat)=>cs.setIfInBounds (off+p.2) p.1) c=putAt c (off+k) l
 | [],_,_=>rfl
 |v::l,k,c=>by
  rw[List.zipIdx_cons,List.foldl_cons,MR off l (k+1)];rfl
theorem M4 {C:Cx} {place:Nat->Option (Nat×Nat)}:∀ {ps:List (Nat×AV)} {qs:List (Nat×Value)} {cells:List AV} {xs:Array Value} {r:List AV},
 ps.map (·.1)=qs.map (·.1)->Wc C (ps.map (·.2)) (qs.map (·.2))->Wc C cells xs.toList->Cells cells->ai place ps cells=some r->
 ∃ys,Instr.fill place xs qs=some ys/\Wc C r ys.toList/\Cells r/\ys.size=xs.size
 | [],qs,cells,xs,r,h1,_,h3,Wt,h=>by
  have:qs=[]:=by cases qs with|nil=>rfl|cons _ _=>simp at h1
  subst this;cases h;exact⟨xs,U,h3,Wt,U⟩
 |p::ps,qs,cells,xs,r,h1,h2,h3,Wt,h=>by
  cases qs with
  |nil=>simp at h1
  |cons q qs=>
  obtain⟨qi,qv⟩:=q;obtain⟨i,v⟩:=p;simp only[List.map_cons,List.cons.injEq]at h1;obtain⟨rfl,h1⟩:=h1;simp only[List.map_cons]at h2;cases h2 with
  |cons hv h2=>
  simp only[ai]at h;obtain⟨q,hq,h⟩:=Qa.1 h;cases hb:(Nat.beq (WL v.cells) q.2&& !v.isTuple)with
  |false=>rw[hb]at h;cases h
  |true=>
  rw[hb]at h;simp only[Qf,Bool.not_eq_true']at hb;obtain⟨cs,tm,h⟩:=Qa.1 h;have hlen:v.cells.length=q.2:=by have:=Qb hb.1;simpa using this
  have Xn:qv.cells.size=q.2:=by have:=hv.cells.length;simpa[hlen]using this
  obtain⟨pre,iR,post,rfl,hp,hm,rfl⟩:=IS tm;obtain⟨y,z3,he,a1,a4⟩:=AF h3;obtain⟨y1,z2,rfl,a2,a3⟩:=AF a1;have eh:(putAt xs q.1 qv.cells.toList).toList=y1++qv.cells.toList++z3:=
   F5 _ xs _ y1 z2 z3 he (by rw[a2.length,hp]) (by rw[a3.length,hm,hv.cells.length])
  have hle:q.1+qv.cells.size<=xs.size:=by
   have:=congrArg List.length he;simp only[Ql,Array.length_toList]at this;have e1:=a2.length;have e2:=a3.length;have e3:=hv.cells.length;simp only[Array.length_toList]at e3;omega
  obtain⟨ys,qn,hr,tp,hs⟩:=M4 (place:=place) (ps:=ps) (qs:=qs) (xs:=putAt xs q.1 qv.cells.toList) h1 h2 (by rw[eh];exact(a2.append hv.cells).append a4)
   ((Wt.sub.1.sub.1.append (hv.Yv hb.2)).append Wt.sub.2) h
  refine⟨ys,?_,hr,tp,hs.trans (Do _ _ _)⟩;have hz:qv.cells.zipIdx.foldl (fun cs (p:Value×Nat)=>cs.setIfInBounds (q.1+p.2) p.1) xs=putAt xs q.1 qv.cells.toList:=by
   rw[<-Array.foldl_toList,Array.toList_zipIdx];exact MR q.1 _ 0 xs
  have hc:(decide (qv.cells.size≠q.2)||decide (q.1+qv.cells.size>xs.size))=false:=by
   simp[Xn];omega
  obtain⟨q1,q2⟩:=q;simp only at hc hz qn;simp only[Instr.fill,hq];rw[hc];simp only[Bool.false_eq_true,if_false];rw[<-qn,<-hz]
section
variable {E : Env} {P : Program} (he : CV E P)
include he
theorem N6:∀ {l:List Field} {ps:List (Nat×Nat)},bj E l=some ps->l.mapM (fun f=>(P.info? f.type).map fun i=>(f.offset,i.size))=some ps
 | [],ps,h=>by cases h;rfl
 |f::l,ps,h=>by
  simp only[bj]at h;obtain⟨n,hn,h⟩:=Qa.1 h;obtain⟨r,hr,h⟩:=Qa.1 h;cases h;have ih:=N6 hr;unfold Am.sizeOf at hn;cases hi:E.tys.get f.type with
  |none=>rw[hi]at hn;cases hn
  |some i=>
   rw[hi]at hn;simp[List.mapM_cons,ih,he.ty _ i hi,Option.some.inj hn]
theorem ug {o:Oper} {t:TypeId} {parts:Array (Nat×Operand)} (ho:o.op= .build t parts):Yq E P o (jY E t parts.toList):=by
 unfold jY;cases XV:ay E t with
 |none=>intro C T a S w _ _ _;trivial
 |some pl=>
  intro C T a S w hg hT hS v h;obtain⟨ps,nD,h⟩:=Qa.1 h;obtain⟨h1,h2⟩:=Mi hg hT nD;cases hf:ai pl.2 ps pl.1 with
  |none=>rw[hf]at h;cases h
  |some r=>
  rw[hf]at h;cases h;unfold ay at XV;obtain⟨z,hz,XV⟩:=Qa.1 XV;obtain⟨x,hx,hr,hiz⟩:=G0 he hz w;have uh:Cells z.cells:=(hr C).Yv (De hz);cases hu:CN E t with
  |none=>rw[hu]at XV;cases XV
  |some d=>
  rw[hu]at XV;have fo:ps.map (·.1)=(parts.toList.map fun p=>(p.1,a.eval p.2)).map (·.1):=by simpa[List.map_map,Function.comp_def]using h1
  have lj:Wc C (ps.map (·.2)) ((parts.toList.map fun p=>(p.1,a.eval p.2)).map (·.2)):=by simpa[List.map_map,Function.comp_def]using h2
  split at XV
  .next fields heq=>
   cases heq;obtain⟨pls,hpls,XV⟩:=Qa.1 XV;cases XV;have hfun:(nth pls:Nat->Option (Nat×Nat))=fun i=>pls[i]?:=by funext i;simp[DV]
   simp only at hf;rw[hfun]at hf;obtain⟨ys,qn,sv,tp,_⟩:=M4 fo lj (hr C).cells uh hf;refine⟨.agg ys,?_,.agg sv tp⟩;have hpp:=run_places (P:=P) w _ _ (N6 he hpls);simp[execOp,ho,Instr.build,hx,Ad he hu,Array.mapM_eq_mapM_toList,hpp,qn]
  .next n elem heq=>
   cases heq;obtain⟨sz,Xn,XV⟩:=Qa.1 XV;cases XV;simp only at hf;obtain⟨ys,qn,sv,tp,_⟩:=M4 fo lj (hr C).cells uh hf;refine⟨.agg ys,?_,.agg sv tp⟩;simp[execOp,ho,Instr.build,hx,Ad he hu,A6 he Xn,qn]
  .cases XV
omit he in
theorem Wc.nth {C:Cx} {l:List AV} {x:List Value} (h:Wc C l x) {i:Nat} {v:AV} (e:Am.nth l i=some v):∃y,x[i]?=some y/\VR C v y:=
 h.get (by rw[<-DV];exact e)
omit he in
theorem Wc.cut {C:Cx} {l q:List AV} {x:List Value} (h:Wc C l x) {off n:Nat} (e:Am.cut l off n=some q):
 ∃y,Wc C q y/\y=(x.drop off).take n/\q.length=n/\(Cells l->Cells q)/\off+n<=x.length/\Y6 x off y:=by
 obtain⟨pre,post,rfl,hp,hn⟩:=FJ e;obtain⟨y,z3,rfl,a1,a3⟩:=AF h;obtain⟨y1,y2,rfl,a2,a4⟩:=AF a1;have e1:=a2.length;have e2:=a4.length;refine⟨y2,a4,?_,hn,fun hc=>hc.sub.1.sub.2,?_,⟨y1,z3,rfl,by omega⟩⟩
 .rw[<-hp,<-e1];simp[<-hn,<-e2]
 .simp;omega
theorem ES {t:TypeId} {n:Nat} (h1:isAgg E t=some true) (h2:Am.sizeOf E t=some n) {C:Cx} {cs:List AV} {xs:Array Value} (hv:Wc C cs xs.toList) (hc:Cells cs)
 {off:Nat} {q:List AV} (e:Am.cut cs off n=some q) (w:World):∃z,(part t xs off).run P w= .ok z w/\VR C (.agg q) z:=by
 obtain⟨y,hy,rfl,hq,hcq,hle,_⟩:=hv.cut e;refine⟨.agg (xs.extract off (off+n)),by simp[part,Ma he h1,A6 he h2],.agg ?_ (hcq hc)⟩;simpa[List.extract_eq_take_drop]using hy
theorem DA {t:TypeId} (h1:isAgg E t=some false) {C:Cx} {cs:List AV} {xs:Array Value} (hv:Wc C cs xs.toList)
 {off:Nat} {v:AV} (e:Am.nth cs off=some v) (w:World):∃z,(part t xs off).run P w= .ok z w/\VR C v z:=by
 obtain⟨y,hy,hr⟩:=hv.nth e;have tn:xs[off]?=some y:=by simpa using hy
 exact⟨y,by simp[part,Ma he h1,tn],hr⟩
omit he in
theorem Fi {t:TypeId} {i off n:Nat} {b:Bool} (h:Zd E t i=some (off,n,b)):
 ∃fs f,CN E t=some (.struct fs)/\fs[i]?=some f/\f.offset=off/\Am.sizeOf E f.type=some n/\isAgg E f.type=some b:=by
 unfold Zd at h;split at h
 .next fs hu=>
  obtain⟨f,hf,h⟩:=Qa.1 h;obtain⟨n',hn,h⟩:=Qa.1 h;obtain⟨a,ha,h⟩:=Qa.1 h;cases h;exact⟨fs,f,hu,by rw[DV]at hf;simpa using hf,U,hn,ha⟩
 .cases h
theorem ui {o:Oper} {t:TypeId} {x:Operand} {i:Nat} (ho:o.op= .field t x i):Yq E P o (jZ E t x i):=by
 unfold jZ;split
 .next off n hf=>
  obtain⟨fs,f,hu,yE,rfl,hn,ha⟩:=Fi hf;refine Ba (G:=fun v=>Instr.field t v i) (fun ρ=>by simp[execOp,ho]) ?_;intro C w v y r hv hr;cases hv with
  |agg WQ Wt=>
   simp only[bP]at hr;obtain⟨l,hl,hr⟩:=Qa.1 hr;cases ht:takeN n l with
   |none=>rw[ht]at hr;cases hr
   |some q=>
    rw[ht]at hr;cases hr;obtain⟨z,hz,jO⟩:=ES (P:=P) he ha hn WQ Wt (q:=q) (off:=f.offset) (by rw[cut,hl];exact ht) w;exact⟨z,by simp[Instr.field,Ad he hu,yE,asAgg,hz],jO⟩
  |_=>simp[bP]at hr
 .next off n hf=>
  obtain⟨fs,f,hu,yE,rfl,hn,ha⟩:=Fi hf;refine Ba (G:=fun v=>Instr.field t v i) (fun ρ=>by simp[execOp,ho]) ?_;intro C w v y r hv hr;cases hv with
  |agg WQ Wt=>
   obtain⟨z,hz,jO⟩:=DA (P:=P) he ha WQ hr w;exact⟨z,by simp[Instr.field,Ad he hu,yE,asAgg,hz],jO⟩
  |_=>simp[az]at hr
 .intro C T a S w _ _ _;trivial
omit he in
theorem Ek {C:Cx} {v r:AV} {x:Value} {n:Nat} (h:VR C v x) (e:Ze n v=some r):∃a,x= .pointer (some a)/\VR C r (.pointer (some (a.add n))):=by
 cases h with
 |ptr hd=>
  simp only[Ze,Option.some.injEq]at e;subst e;exact⟨_,U,by rw[Bm,Nat.add_assoc];exact .ptr hd⟩
 |Wl hm ha hv Wt=>
  simp only[Ze]at e;obtain⟨l,hl,e⟩:=Qa.1 e;cases e;obtain⟨pre,rfl,hp⟩:=B8 hl;obtain⟨y,z,rfl,h1,h2⟩:=AF hv;refine⟨_,U,?_⟩;rw[Bm,<-hp,<-h1.length];exact .Wl hm ha.right h2 Wt.sub.2
 |_=>simp[Ze]at e
theorem NB {o:Oper} {t:TypeId} {x:Operand} {i:Nat} (ho:o.op= .fieldAddr t x i):Yq E P o (YN E t x i):=by
 unfold YN;split
 .next off n b hf=>
  obtain⟨fs,f,hu,yE,rfl,hn,ha⟩:=Fi hf;refine Ba (G:=fun v=>Instr.fieldAt t v i) (fun ρ=>by simp[execOp,ho]) ?_;intro C w v y r hv hr;obtain⟨a,rfl,hra⟩:=Ek hv hr;exact⟨_,by simp[Instr.fieldAt,Ad he hu,yE,Instr.sureAddr,fieldPlace,A6 he hn],hra⟩
 .intro C T a S w _ _ _;trivial
end
section
variable {E : Env} {P : Program} (he : CV E P)
theorem Ap {o:Oper}:Yq E P o .bad:=fun _ _ _ _ _ _ _ _=>trivial
theorem EX {C:Cx} {v:AV} {x:Value} {n:Nat} (h:VR C v x) (e:Xi v=some n):∃k,x= .int k (n:Int):=F9 h e
theorem Py {C:Cx} {v r:AV} {x:Value} {sz k:Nat} (h:VR C v x) (e:CC sz k v=some r):
 ∃a len c,x= .slice (some a) len c/\k<len/\VR C r (.pointer (some (a.add (k*sz)))):=by
 cases h with
 |slice hd hc YK=>
  rename_i b off len Zc cap c
  simp only[CC]at e;cases hk:Nat.blt k len with
  |false=>rw[hk]at e;cases e
  |true=>
   rw[hk]at e;cases e;exact⟨_,_,_,U,by simpa[Nat.blt_eq]using hk,by rw[Bm,Nat.add_assoc];exact .ptr hd⟩
 |X1 hxx hd hc=>
  simp only[CC]at e;have:Nat.blt k 0=false:=by cases k<;>rfl
  rw[this]at e;cases e
 |W1 a h YK=>
  rename_i Zc cl len c
  simp only[CC]at e;cases hk:Nat.blt k len with
  |false=>rw[hk]at e;cases e
  |true=>
   rw[hk]at e;obtain⟨l,hl,e⟩:=Qa.1 e;obtain⟨pre,hp,_⟩:=B8 hl;have:l=[]:=by
    have:=congrArg List.length hp;simp at this;exact List.eq_nil_of_length_eq_zero (by omega)
   subst this;simp[lT]at e
 |Cf hl hm ha hv X7 Wt YK=>
  rename_i Ci off len Zc c cl cs ms vs
  simp only[CC]at e;cases hk:Nat.blt k len with
  |false=>rw[hk]at e;cases e
  |true=>
   rw[hk]at e;obtain⟨l,ZC,e1⟩:=Qa.1 e;obtain⟨pre,rfl,hp⟩:=B8 ZC;obtain⟨y,z,rfl,h1,h2⟩:=AF hv;have:r= .Wl l:=by
    unfold lT at e1;split at e1
    .cases e1
    .cases e1;rfl
   subst this;refine⟨_,_,_,U,by simpa[Nat.blt_eq]using hk,?_⟩;rw[Bm,<-hp,<-h1.length];exact .Wl hm ha.right h2 Wt.sub.2
 |_=>simp[CC]at e
include he
theorem NA {o:Oper} {t:TypeId} {x i:Operand} (ho:o.op= .indexAddr t x i):Yq E P o (XZ E t x i):=by
 unfold XZ;split
 .next n elem hu=>
  split
  .next sz Xn=>
   intro C T a S w hg hT hS v h;obtain⟨iv,yF,h⟩:=Qa.1 h;obtain⟨k,hk,h⟩:=Qa.1 h;cases hb:Nat.blt k n with
   |false=>rw[hb]at h;cases h
   |true=>
   rw[hb]at h;obtain⟨u,jN,h⟩:=Qa.1 h;obtain⟨ki,oQ⟩:=EX (Ak hg hT yF) hk;obtain⟨ad,o5,hr⟩:=Ek (Ak hg hT jN) h;have Co:k<n:=by simpa[Nat.blt_eq]using hb
   refine⟨_,?_,hr⟩;simp[execOp,ho,Instr.indexAt,oQ,asIntOf,Ad he hu,o5,Instr.sureAddr,A6 he Xn,Co]
  .exact Ap
 .next elem hu=>
  split
  .next sz Xn=>
   intro C T a S w hg hT hS v h;obtain⟨iv,yF,h⟩:=Qa.1 h;obtain⟨k,hk,h⟩:=Qa.1 h;obtain⟨u,jN,h⟩:=Qa.1 h;obtain⟨ki,oQ⟩:=EX (Ak hg hT yF) hk;obtain⟨ad,len,c,o5,Co,hr⟩:=Py (Ak hg hT jN) h;refine⟨_,?_,hr⟩;simp[execOp,ho,Instr.indexAt,oQ,asIntOf,Ad he hu,o5,A6 he Xn,Co]
  .exact Ap
 .exact Ap
theorem uj {o:Oper} {t:TypeId} {x i:Operand} (ho:o.op= .index t x i):Yq E P o (ke E t x i):=by
 unfold ke;split
 .next n elem hu=>
  split
  .next sz ha Xn=>
   intro C T a S w hg hT hS v h;obtain⟨iv,yF,h⟩:=Qa.1 h;obtain⟨k,hk,h⟩:=Qa.1 h;cases hb:Nat.blt k n with
   |false=>rw[hb]at h;cases h
   |true=>
   rw[hb]at h;obtain⟨u,jN,h⟩:=Qa.1 h;obtain⟨ki,oQ⟩:=EX (Ak hg hT yF) hk;have hv:=Ak hg hT jN;have Co:k<n:=by simpa[Nat.blt_eq]using hb
   generalize hx:a.eval x=xv at hv;cases hv with
   |agg WQ Wt=>
    simp only[mL]at h;obtain⟨l,hl,h⟩:=Qa.1 h;cases ht:takeN sz l with
    |none=>rw[ht]at h;cases h
    |some q=>
     rw[ht]at h;cases h;obtain⟨z,hz,jO⟩:=ES (P:=P) he ha Xn WQ Wt (q:=q) (off:=k*sz) (by rw[cut,hl];exact ht) w;exact⟨z,by simp[execOp,ho,Instr.index,oQ,asIntOf,Ad he hu,hx,A6 he Xn,Co,hz],jO⟩
   |_=>simp[mL]at h
  .next sz ha Xn=>
   intro C T a S w hg hT hS v h;obtain⟨iv,yF,h⟩:=Qa.1 h;obtain⟨k,hk,h⟩:=Qa.1 h;cases hb:Nat.blt k n with
   |false=>rw[hb]at h;cases h
   |true=>
   rw[hb]at h;obtain⟨u,jN,h⟩:=Qa.1 h;obtain⟨ki,oQ⟩:=EX (Ak hg hT yF) hk;have hv:=Ak hg hT jN;have Co:k<n:=by simpa[Nat.blt_eq]using hb
   generalize hx:a.eval x=xv at hv;cases hv with
   |agg WQ Wt=>
    simp only[mM]at h;obtain⟨z,hz,jO⟩:=DA (P:=P) he ha WQ h w;exact⟨z,by simp[execOp,ho,Instr.index,oQ,asIntOf,Ad he hu,hx,A6 he Xn,Co,hz],jO⟩
   |_=>simp[mM]at h
  .exact Ap
 .next hu=>
  intro C T a S w hg hT hS v h;obtain⟨iv,yF,h⟩:=Qa.1 h;obtain⟨k,hk,h⟩:=Qa.1 h;obtain⟨u,jN,h⟩:=Qa.1 h;obtain⟨ki,oQ⟩:=EX (Ak hg hT yF) hk;have hv:=Ak hg hT jN;generalize hx:a.eval x=xv at hv;cases hv with
  |str hs=>
   rename_i l s
   simp only[gL]at h;obtain⟨b,hb,h⟩:=Qa.1 h;cases h;have ZL:s[k]?=some b:=by
    rw[DV,<-hs]at hb;have:s.data[k]?=some b:=by simpa using hb
    exact this
   refine⟨.int .u8 b.toNat,?_,.int _ _⟩;simp[execOp,ho,Instr.index,oQ,asIntOf,Ad he hu,hx,ZL]
  |_=>simp[gL]at h
 .exact Ap
theorem yG {o:Oper} {t:TypeId} {x:Operand} (ho:o.op= .load t x):Yq E P o (.read (Cg E x) fun T s=>(Cg E x T).bind (Wy E t s)):=by
 refine Ft (G:=fun v=>Instr.loadAt t v) (fun ρ=>by simp[execOp,ho]) ?_;intro C S w v y r hS hv hr;obtain⟨a,z,rfl,hz,jO⟩:=GK (P:=P) he hS hv hr;exact⟨z,by simp[Instr.loadAt,Instr.sureAddr,hz],jO⟩
theorem uk {o:Oper} {t:TypeId} {x y:Operand} (ho:o.op= .store t x y):Yq E P o (fJ E t x y):=by
 unfold fJ;split
 .next n hn=>
  intro C T a S w hg hT hS v S' h;obtain⟨p,hp,h⟩:=Qa.1 h;obtain⟨u,hu,h⟩:=Qa.1 h;unfold dO at h;split at h
  .next S1 hs=>
   cases h;obtain⟨ad,w',o5,hw,ht⟩:=To (P:=P) he hS hn (Ak hg hT hu) (Ak hg hT hp) hs;exact⟨C,.skip,w',by simp[execOp,ho,Instr.storeAt,o5,Instr.sureAddr,hw],ht,.skip⟩
  .cases h
 .exact Ap
omit he in
theorem RM {o:Oper} {x:Operand} {i:Nat} (ho:o.op= .extract x i):Yq E P o (.pure fun T=>(Cg E x T).bind (cj i)):=by
 refine Ba (G:=fun v=>Instr.extract v i) (fun ρ=>by simp[execOp,ho]) ?_;intro C w v y r hv hr;cases hv with
 |tuple WQ=>
  simp only[cj]at hr;obtain⟨z,hz,jO⟩:=WQ.nth hr;have hz':=hz;simp only[Array.getElem?_toList]at hz';exact⟨z,by simp[Instr.extract,hz'],jO⟩
 |_=>simp[cj]at hr
theorem N9 {o:Oper} {t:TypeId} {x:Operand} (ho:o.op= .makeInterface t x):Yq E P o (aI E t x):=by
 unfold aI;split
 .next hi=>
  refine Ba (f:=fun v=>some (.iface t v)) (G:=fun v=>Instr.makeInterface t v) (fun ρ=>by simp[execOp,ho]) ?_;intro C w v y r hv hr;cases hr;refine⟨.iface t y,?_,.iface hv⟩;unfold Ye at hi;split at hi
  .cases hi
  .next d hd hu=>
   simp only[Instr.makeInterface,Sem.run_bind,Ad he hu,Result.andThen_ok];cases d<;>first|rfl|exact absurd rfl (hd _)
  .cases hi
 .exact Ap
omit he in
theorem Sj {fn:Fn} (h:eM fn=false):∀l,fn≠ .yield l:=by
 intro l e;subst e;cases h
omit he in
theorem Pr {o:Oper} {fn:Fn} {x y:Array Operand} (ho:o.op= .makeFunc fn x y):Yq E P o (iJ E fn x.toList y.toList):=by
 unfold iJ;cases hf:eM fn with
 |true=>exact Ap
 |false=>
 intro C T a S w hg hT hS v h;obtain⟨p,hp,h⟩:=Qa.1 h;obtain⟨q,hq,h⟩:=Qa.1 h;cases h;exact⟨.func fn (x.map a.eval) (y.map a.eval),by simp[execOp,ho,Instr.makeFunc],.func (Sj hf) (by simpa using Dl hg hT hp) (by simpa using Dl hg hT hq)⟩
theorem RK {o:Oper} {t:TypeId} {r:Option Operand} (ho:o.op= .makeMap t r):Yq E P o (dV E t r):=by
 have key:∀ {C:Cx} {S:St} {w:World},W2 C S w->Cu C S w (C.fresh S w 0) (S.alloc (.map [] 0)) (World.Wb w (.map #[] 0))/\VR (C.fresh S w 0) (.map S.next) (.map (some w.heap.size)):=by
  intro C S w hS;have no:∀n,¬C.G S.next n:=fun n hn=>absurd (hS.fresh _ (hS.stamps _ _ hn)) (Nat.lt_irrefl _);refine⟨Cu.alloc hS _ _ 0 (.map (l:=[]) (by simp) .nil ⟨by simp,by simp⟩ (by simp) (fun n hn=>absurd hn (no n)) (fun n hn=>absurd hn (no n)) (fun n _ hn=>absurd hn (no n))),?_⟩
  .have:=VR.map (C:=C.fresh S w 0) (I3 C S.next ⟨w.heap.size,0,0⟩);rw[AQ]at this;exact this
 unfold dV;split
 .next k e hu=>
  intro C T a S w hg hT hS;refine⟨(nofun),fun ob g h=>?_⟩;cases h;exact⟨_,_,_,by simp[execOp,ho,Instr.makeMap,World.Wb],(key hS).1,(key hS).2⟩
 .next k e x hu=>
  intro C T a S w hg hT hS;have hh:∀m,((Cg E x T).bind fun v=>(Xi v).bind fun _=>some (Mk.obj (.map [] 0) .map))=some m->∃kd n,a.eval x= .int kd n/\m= .obj (.map [] 0) .map:=by
   intro m h;obtain⟨p,hp,h⟩:=Qa.1 h;obtain⟨n,hn,h⟩:=Qa.1 h;cases h;obtain⟨kd,oR⟩:=F9 (Ak hg hT hp) hn;exact⟨kd,_,oR,U⟩
  refine⟨fun v h=>?_,fun ob g h=>?_⟩
  .obtain⟨_,_,_,h⟩:=hh _ h;cases h
  .obtain⟨kd,n,hx,h⟩:=hh _ h;cases h;exact⟨_,_,_,by simp[execOp,ho,Instr.makeMap,Ad he hu,hx,asInt,asIntOf,World.Wb],(key hS).1,(key hS).2⟩
 .exact Ap
omit he in
theorem um {o:Oper} {x:Operand} (ho:o.op= .panic x):Yq E P o (.panic fun T=>(Cg E x T).bind mZ):=by
 intro C T a S w hg hT hS v h;obtain⟨p,hp,h⟩:=Qa.1 h;have hv:=Ak hg hT hp;generalize hx:a.eval x=xv at hv;cases hv with
 |iface hv=>cases h;exact⟨_,by simp[execOp,ho,hx,Instr.panic],.iface hv⟩
 |_=>simp[mZ]at h
end
section
variable {E : Env} {P : Program}
theorem Wc.repeat {C:Cx} {z:List AV} {x:List Value} (h:Wc C z x):∀n,Wc C (Yk z n) ((List.replicate n x).flatten)
 |0=> .nil
 |n+1=>by
  rw[List.replicate_succ,List.flatten_cons];exact h.append (Wc.repeat h n)
theorem Cells.repeat {z:List AV} (h:Cells z):∀n,Cells (Yk z n)
 |0=>fun _ h=>by cases h
 |n+1=>h.append (Cells.repeat h n)
theorem IM (z:Array Value) (n:Nat):((Array.range (n*z.size)).map fun i=>z[i % z.size]!).toList=(List.replicate n z.toList).flatten:=by
 apply List.ext_getElem?;intro i;rcases Nat.eq_zero_or_pos z.size with h0|h0
 .have:z= #[]:=by simpa using h0
  subst this;simp
 .have hl:((List.replicate n z.toList).flatten).length=n*z.size:=by simp
  rcases Nat.lt_or_ge i (n*z.size)with hi|hi
  .have hm:i % z.size<z.size:=Nat.mod_lt _ h0;have key:∀(n i:Nat),i<n*z.size->((List.replicate n z.toList).flatten)[i]?=z.toList[i % z.size]?:=by
    intro n;induction n with
    |zero=>intro i hi;simp at hi
    |succ n ih=>
     intro i hi;rw[List.replicate_succ,List.flatten_cons];rcases Nat.lt_or_ge i z.size with h|h
     .rw[List.getElem?_append_left (by simpa using h),Nat.mod_eq_of_lt h]
     .rw[List.getElem?_append_right (by simpa using h),Array.length_toList,ih _ (by rw[Nat.succ_mul]at hi;omega),<-Nat.mod_eq_sub_mod h]
   rw[key n i hi];simp[hi,hm]
  .rw[List.getElem?_eq_none (l:=(List.replicate n z.toList).flatten) (by rw[hl];exact hi),List.getElem?_eq_none (by simpa using hi)]
theorem EJ {n:Nat} (h:n<=1099511627776):IntKind.i64.wrap (n:Int)=n:=Go.IntWalk.i64_in _ (by omega)
theorem BW {n b:Nat} (h:small n b=true):n*b<=1099511627776/\n<=1099511627776/\0<b/\b<=1048576:=by
 simp only[small,Qf,Bool.not_eq_true']at h;obtain⟨⟨⟨h1,h2⟩,h3⟩,h4⟩:=h;refine⟨Qc h1,Qc h2,?_,Qc h4⟩;rcases Nat.eq_zero_or_pos b with h|h
 .subst h;simp at h3
 .exact h
variable (he : CV E P)
include he
theorem N8 {o:Oper} {t:TypeId} {l c:Operand} (ho:o.op= .makeSlice t l c):Yq E P o (fH E t l c):=by
 unfold fH;split
 .next e hu=>
  split
  .next sz VY z Xn ei hz=>
   cases hb:Nat.beq (WL z.cells) sz with
   |false=>exact Ap
   |true=>
   have uo:z.cells.length=sz:=by have:=Qb hb;simpa using this
   intro C T a S w hg hT hS;obtain⟨x,hx,hr,_⟩:=G0 he hz w;obtain⟨i,hi,yH⟩:=Nt he ei w;have eX:x.cells.size=sz:=by have:=(hr C).cells.length;simpa[uo]using this
   have main:∀m,((Cg E l T).bind fun a=>(Cg E c T).bind fun b=>(Xi a).bind fun n=>(Xi b).bind fun m=>aH e sz VY z.cells n m)=some m->
    ∃(n k:Nat) (ki kj:IntKind),a.eval l= .int ki (n:Int)/\a.eval c= .int kj (k:Int)/\aH e sz VY z.cells n k=some m:=by
    intro m h;obtain⟨p,hp,h⟩:=Qa.1 h;obtain⟨q,hq,h⟩:=Qa.1 h;obtain⟨n,hn,h⟩:=Qa.1 h;obtain⟨k,hk,h⟩:=Qa.1 h;obtain⟨ki,oQ⟩:=F9 (Ak hg hT hp) hn;obtain⟨kj,hkj⟩:=F9 (Ak hg hT hq) hk;exact⟨n,k,ki,kj,oQ,hkj,h⟩
   have hzx:zeroOf E e=some z:=hz;have conds:∀(n k:Nat) m,aH e sz VY z.cells n k=some m->n<=k/\(k=0\/(k*VY<=1099511627776/\k<=1099511627776))/\
    ((k=0/\m= .val .Ca)\/(k≠0/\m= .obj (.cells (Yk z.cells k) e false) fun b=> .slice b 0 n sz (some k))):=by
    intro n k m h;unfold aH at h;cases h1:(Nat.ble n k&&(Nat.beq k 0||small k VY))with
    |false=>rw[h1]at h;cases h
    |true=>
     rw[h1]at h;simp only[Qf,Bool.or_eq_true]at h1;refine⟨Qc h1.1,?_,?_⟩
     .rcases h1.2 with h2|h2
      .exact .inl (Qb h2)
      .exact .inr ⟨(BW h2).1,(BW h2).2.1⟩
     .cases h2:Nat.beq k 0 with
      |true=>rw[h2]at h;cases h;exact .inl ⟨Qb h2,rfl⟩
      |false=>
       rw[h2]at h;cases h;exact .inr ⟨fun e=>by subst e;simp at h2,rfl⟩
   have runs:∀(n k:Nat) (ki kj:IntKind),n<=k->(k=0\/(k*VY<=1099511627776/\k<=1099511627776))->a.eval l= .int ki (n:Int)->a.eval c= .int kj (k:Int)->
    (execOp a.eval o).run P w= .ok (.value (.slice (some ⟨w.heap.size,0,none⟩) n k)) (World.Wb w (.cells ((Array.range (k*x.cells.size)).map fun i=>x.cells[i % x.cells.size]!) e (0,0))):=by
    intro n k ki kj h1 h2 h3 h4;have hk:k*VY<=1099511627776/\k<=1099511627776:=by
     rcases h2 with h2|h2
     .subst h2;simp
     .exact h2
    have w1:IntKind.i64.wrap (n:Int)=n:=EJ (by omega);have w2:IntKind.i64.wrap (k:Int)=k:=EJ (by omega);have uq:¬(281474976710656<(i.bytes:Int)*(k:Int)):=by
     rw[yH];have:(VY:Int)*(k:Int)=((k*VY:Nat):Int):=by push_cast;exact Int.mul_comm _ _
     rw[this];omega
    have hgt:¬(k<n):=by omega
    have r0:Array.range 0= #[]:=rfl;have nG:∀m:Nat,¬((m:Int)<0):=fun m=>by omega
    by_cases h0:k*sz=0
    .simp[execOp,ho,Instr.makeSlice,Ad he hu,h3,h4,asInt,asIntOf,hi,w1,w2,uq,nG,hgt,A6 he Xn,h0,eX,r0,newRow,World.Wb]
    .simp[execOp,ho,Instr.makeSlice,Ad he hu,h3,h4,asInt,asIntOf,hi,w1,w2,uq,nG,hgt,A6 he Xn,h0,eX,hx,newRow,World.Wb]
   refine⟨fun v h=>?_,fun ob g h=>?_⟩
   .obtain⟨n,k,ki,kj,h1,h2,h3⟩:=main _ h;obtain⟨c1,c2,c3⟩:=conds n k _ h3;rcases c3 with⟨rfl,c3⟩|⟨_,c3⟩
    .cases c3;obtain rfl:n=0:=by omega
     exact⟨_,_,_,runs 0 0 ki kj c1 c2 h1 h2,JF hS _,.Ca _ (.some (.inr U))⟩
    .cases c3
   .obtain⟨n,k,ki,kj,h1,h2,h3⟩:=main _ h;obtain⟨c1,c2,c3⟩:=conds n k _ h3;rcases c3 with⟨rfl,c3⟩|⟨xY,c3⟩
    .cases c3
    .cases c3;have hzc:=(hr C).Yv (De hz);refine⟨_,_,_,runs n k ki kj c1 c2 h1 h2,Dp hS ((hr C).cells.repeat k) (ex:=[]) ?_ (hzc.repeat k) e false (fun _=>rfl),Dx (cap:=some k) ⟨rfl,Nat.pos_of_ne_zero xY⟩ c1⟩;rw[IM];simp
  .exact Ap
 .exact Ap
end
section
variable {E : Env} {P : Program} (he : CV E P)
include he
theorem Mm {o:Oper} {t:TypeId} {len:Nat} {parts:Array (Nat×Operand)} (ho:o.op= .buildSlice t len parts):Yq E P o (Ys E t len parts.toList):=by
 unfold Ys;split
 .next e hu=>
  split
  .next sz z Xn hz=>
   cases hb:(Nat.beq (WL z.cells) sz&&Nat.ble (len*sz) 16777216&& !(Nat.beq sz 0))with
   |false=>exact Ap
   |true=>
   simp only[Qf,Bool.not_eq_true']at hb;obtain⟨⟨fM,gw⟩,ur⟩:=hb;have uo:z.cells.length=sz:=by have:=Qb fM;simpa using this
   have hle:len*sz<=16777216:=Qc gw;have qp:sz≠0:=fun e=>by subst e;simp at ur
   intro C T a S w hg hT hS;obtain⟨x,hx,hr,_⟩:=G0 he hz w;have eX:x.cells.size=sz:=by have:=(hr C).cells.length;simpa[uo]using this
   have hzc:=(hr C).Yv (De hz);have main:∀m,((aD E parts.toList T).bind fun ps=>ZH e sz len (ai (fun i=>some (i*sz,sz)) ps (Yk z.cells len)))=some m->
    ∃r ys,Wc C r ys.toList/\Cells r/\ys.size=len*sz/\(execOp a.eval o).run P w= .ok (.value (.slice (some ⟨w.heap.size,0,none⟩) len len)) (World.Wb w (.cells ys e (0,0)))/\
     ((len=0/\m= .val .Ca)\/(len≠0/\m= .obj (.cells r e false) fun b=> .slice b 0 len sz (some len))):=by
    intro m h;obtain⟨ps,nD,h⟩:=Qa.1 h;obtain⟨h1,h2⟩:=Mi hg hT nD;have fo:ps.map (·.1)=(parts.toList.map fun p=>(p.1,a.eval p.2)).map (·.1):=by simpa[List.map_map,Function.comp_def]using h1
    have lj:Wc C (ps.map (·.2)) ((parts.toList.map fun p=>(p.1,a.eval p.2)).map (·.2)):=by simpa[List.map_map,Function.comp_def]using h2
    cases hf:ai (fun i=>some (i*sz,sz)) ps (Yk z.cells len)with
    |none=>rw[hf]at h;cases h
    |some r=>
    rw[hf]at h;simp only[ZH]at h;have hrm:=IM x.cells len;obtain⟨ys,qn,sv,tp,uu⟩:=M4 (xs:=(Array.range (len*x.cells.size)).map fun i=>x.cells[i % x.cells.size]!) fo lj (by rw[hrm];exact(hr C).cells.repeat len) (hzc.repeat len) hf;refine⟨r,ys,sv,tp,by simpa[eX]using uu,?_,?_⟩
    .have hgt:¬(16777216<len*sz):=by omega
     by_cases h0:len*sz=0
     .have eV:len=0:=by rcases Nat.mul_eq_zero.1 h0 with h|h;exact h;exact absurd h qp
      subst eV;have r0:Array.range 0= #[]:=rfl;simp[r0]at qn;simp[execOp,ho,Instr.buildSlice,Ad he hu,A6 he Xn,r0,qn,newRow,World.Wb]
     .rw[eX]at qn;have eV:len≠0:=fun e=>h0 (by simp[e]);simp[execOp,ho,Instr.buildSlice,Ad he hu,A6 he Xn,hgt,h0,eV,qp,hx,eX,qn,newRow,World.Wb]
    .cases hl:Nat.beq len 0 with
     |true=>rw[hl]at h;cases h;exact .inl ⟨Qb hl,rfl⟩
     |false=>rw[hl]at h;cases h;exact .inr ⟨fun e=>by subst e;simp at hl,rfl⟩
   refine⟨fun v h=>?_,fun ob g h=>?_⟩
   .obtain⟨r,ys,h1,h2,h3,h4,h5⟩:=main _ h;rcases h5 with⟨rfl,h5⟩|⟨_,h5⟩
    .cases h5;exact⟨_,_,_,h4,JF hS _,.Ca _ (.some (.inr rfl))⟩
    .cases h5
   .obtain⟨r,ys,h1,h2,h3,h4,h5⟩:=main _ h;rcases h5 with⟨rfl,h5⟩|⟨eV,h5⟩
    .cases h5
    .cases h5;exact⟨_,_,_,h4,Dp hS h1 (ex:=[]) (by simp) h2 e false (fun _=>rfl),Dx (cap:=some len) ⟨rfl,Nat.pos_of_ne_zero eV⟩ (Qj _)⟩
  .exact Ap
 .exact Ap
omit he in
theorem yL {o:Oper} {op:UnOp} {t:TypeId} {x:Operand} (ho:o.op= .unOp op t x):Yq E P o (.pure fun T=>(Cg E x T).bind (unV op)):=by
 refine Ba (G:=fun v=>Op.unary op v) (fun ρ=>by simp[execOp,ho]) ?_;intro C w v y r hv hr;cases hv with
 |int k n=>
  cases op with
  |neg=>cases hr;exact⟨_,rfl,.int _ _⟩
  |xor=>cases hr;exact⟨_,rfl,.int _ _⟩
  |_=>simp[unV]at hr
 |bool b=>
  cases op with
  |not=>cases hr;exact⟨_,rfl,.bool _⟩
  |_=>simp[unV]at hr
 |_=>cases op<;>simp[unV]at hr
omit he in
theorem UB {C:Cx} {ok:Bool} {v r:AV} {x:Value} (hv:VR C v x) (h:qe ok v=some r):VR C r (if ok then .tuple #[x,.bool true]else x):=by
 unfold qe at h;cases ok with
 |true=>cases h;exact .tuple (.cons hv (.cons (.bool _) .nil))
 |false=>cases h;exact hv
theorem Oa {C:Cx} {ok:Bool} {t:TypeId} {z r:AV} (hz:zeroOf E t=some z) (h:mY ok z=some r) (w:World):
 ok=true/\∃x,(zeroValue t).run P w= .ok x w/\VR C r (.tuple #[x,.bool false]):=by
 unfold mY at h;cases ok with
 |true=>
  cases h;obtain⟨x,hx,hr,_⟩:=G0 he hz w;exact⟨U,x,hx,.tuple (.cons (hr C) (.cons (.bool _) .nil))⟩
 |false=>cases h
theorem Ua {o:Oper} {x:Operand} {xt t:TypeId} {ok:Bool} (ho:o.op= .typeAssert x xt t ok):Yq E P o (gV E x t ok):=by
 unfold gV;split
 .exact Ap
 .next d z aB hu hz=>
  refine Ba (G:=fun v=>Instr.typeAssert v xt t ok) (fun ρ=>by simp[execOp,ho]) ?_;intro C w v y r hv hr;have hd:∀ms,z=z->d≠ .interface ms:=fun ms _ e=>aB ms (by rw[e]);cases hv with
  |iface hv'=>
   rename_i u v' y'
   simp only[eK]at hr;cases hut:Nat.beq u t with
   |true=>
    rw[hut]at hr;have:u=t:=Qb hut;subst this;refine⟨_,?_,UB hv' hr⟩;simp only[Instr.typeAssert,Sem.run_bind,Ad he hu,Result.andThen_ok];cases d<;>first|exact absurd rfl (hd _ rfl)|simp
   |false=>
    rw[hut]at hr;have YM:u≠t:=fun e=>by subst e;simp at hut
    obtain⟨rfl,zx,hzx,jO⟩:=Oa (P:=P) (C:=C) he hz hr w;refine⟨_,?_,jO⟩;simp only[Instr.typeAssert,Sem.run_bind,Ad he hu,Result.andThen_ok];cases d<;>first|exact absurd rfl (hd _ rfl)|simp[YM,hzx]
  |CP=>
   obtain⟨rfl,zx,hzx,jO⟩:=Oa (P:=P) (C:=C) he hz hr w;refine⟨_,?_,jO⟩;simp only[Instr.typeAssert,Sem.run_bind,Ad he hu,Result.andThen_ok];cases d<;>first|exact absurd rfl (hd _ rfl)|simp[hzx]
  |_=>simp[eK]at hr
 .exact Ap
end
theorem AB:∀ {l m:List UInt8},Cp l m=decide (l=m)
 | [],[]=>rfl
 | [],_::_=>by simp[Cp]
 |_::_,[]=>by simp[Cp]
 |a::l,b::m=>by
  unfold Cp;cases h:Nat.beq a.toNat b.toNat with
  |true=>
   have:a=b:=UInt8.toNat_inj.1 (Qb h);subst this;simp[AB]
  |false=>
   have:a≠b:=fun e=>by subst e;simp at h
   simp[this]
theorem LA:∀ {l m:List UInt8},cJ l m=Op.bytesLess l m
 | [],[]=>rfl
 |_::_,[]=>rfl
 | [],_::_=>rfl
 |a::l,b::m=>by
  unfold cJ Op.bytesLess;rw[LA (l:=l)];cases h1:Nat.blt a.toNat b.toNat with
  |true=>
   have:a<b:=UInt8.lt_iff_toNat_lt.2 (by simpa[Nat.blt_eq]using h1);simp[this]
  |false=>
   have hn:¬a<b:=fun Co=>by
    have:Nat.blt a.toNat b.toNat=true:=by simpa[Nat.blt_eq]using UInt8.lt_iff_toNat_lt.1 Co
    rw[this]at h1;cases h1
   cases h2:Nat.beq a.toNat b.toNat with
   |true=>
    have:a=b:=UInt8.toNat_inj.1 (Qb h2);subst this;simp
   |false=>
    have:a≠b:=fun e=>by subst e;simp at h2
    simp[hn,this]
section
variable {E : Env} {P : Program}
theorem yM {op:BinOp} {f:IntKind->Int->Int->Option AV} (hf:mN op=some f) {C:Cx} {k:IntKind} {a b:Int} {r:AV} (h:f k a b=some r) (t:TypeId) (w:World):
 ∃z,(binOp op t (.int k a) (.int k b)).run P w= .ok z w/\VR C r z:=by
 cases op<;>simp only[mN,Option.some.injEq]at hf<;>cases hf
 case quo=>
  simp only[yq]at h;split at h
  .cases h
  .next hb=>cases h;exact⟨_,by simp[binOp,Op.intDiv,hb],.int _ _⟩
 case rem=>
  simp only[remA]at h;split at h
  .cases h
  .next hb=>cases h;exact⟨_,by simp[binOp,Op.intDiv,hb],.int _ _⟩
 case eql=>cases h;refine⟨_,?_,.bool _⟩;simp only[binOp,ne_eq,not_true_eq_false,if_false];rfl
 case neq=>cases h;refine⟨_,?_,.bool _⟩;simp only[binOp,ne_eq,not_true_eq_false,if_false];rfl
 case lss=>cases h;refine⟨_,?_,.bool _⟩;simp only[binOp,ne_eq,not_true_eq_false,if_false];rfl
 case leq=>cases h;refine⟨_,?_,.bool _⟩;simp only[binOp,ne_eq,not_true_eq_false,if_false];rfl
 case gtr=>cases h;refine⟨_,?_,.bool _⟩;simp only[binOp,ne_eq,not_true_eq_false,if_false];rfl
 case geq=>cases h;refine⟨_,?_,.bool _⟩;simp only[binOp,ne_eq,not_true_eq_false,if_false];rfl
 all_goals cases h;refine⟨_,?_,.int _ _⟩;simp only[binOp,ne_eq,not_true_eq_false,if_false];rfl
theorem yN {op:BinOp} {f:List UInt8->List UInt8->Option AV} (hf:tL op=some f) {C:Cx} {a b:ByteArray} {r:AV} (h:f a.data.toList b.data.toList=some r) (t:TypeId) (w:World):
 ∃z,(binOp op t (.string a) (.string b)).run P w= .ok z w/\VR C r z:=by
 cases op<;>simp only[tL,Option.some.injEq]at hf<;>cases hf
 case add=>
  dsimp only at h;cases hb:Nat.ble (WL a.data.toList+WL b.data.toList) 4294967296 with
  |false=>rw[hb]at h;cases h
  |true=>
   rw[hb]at h;cases h;have:=Qc hb;simp only[Bl,Array.length_toList]at this;have e1:a.size=a.data.size:=rfl;have e2:b.size=b.data.size:=rfl;have hm:¬(((a.size+b.size:Nat):Int)>IntKind.i64.max):=by
    have:IntKind.i64.max=9223372036854775807:=by decide
    rw[this];omega
   refine⟨.string (a++b),?_,.str (by simp)⟩;simp only[binOp,Op.stringOp,hm,if_false,Sem.run_pure]
 all_goals
  cases h;refine⟨_,?_,.bool _⟩;have hd:(a.data==b.data)=decide (a.data=b.data):=by rw[Bool.eq_iff_iff];simp
  simp[binOp,Op.stringOp,ByteArray.toList_eq,AB,LA,hd]
theorem Jp {op:BinOp} {t:TypeId} {x y:Operand} {k j:IntKind} {a b:Int} (w:World):(eqGuard op t x y (.int k a) (.int j b)).run P w= .ok () w:=by
 unfold eqGuard;split<;>rfl
theorem UH {op:BinOp} {t:TypeId} {x y:Operand} {a b:ByteArray} (w:World):(eqGuard op t x y (.string a) (.string b)).run P w= .ok () w:=by
 unfold eqGuard;split<;>rfl
end
section
variable {E : Env} {P : Program}
theorem AW {t:TypeId} {d:TypeDesc} (h:YI E t=some d):CN E t=some d/\Z8 d=true:=by
 unfold YI at h;split at h
 .next d' hu=>
  cases hd:Z8 d' with
  |true=>rw[hd]at h;cases h;exact⟨hu,hd⟩
  |false=>rw[hd]at h;cases h
 .cases h
variable (he : CV E P)
include he
theorem Nj {t:TypeId} {d:TypeDesc} (h:YI E t=some d):isAgg E t=some false:=by
 obtain⟨hu,hd⟩:=AW h;unfold isAgg;rw[hu];cases d<;>first|rfl|cases hd
theorem Oe {d:TypeDesc} {t:TypeId} (hu:CN E t=some d) {C:Cx} {a b:AV} {x y:Value} (ha:VR C a x) (hb:VR C b y) {r:Bool} (h:ss d a b=some r) (n:Nat) (w:World):
 (Op.equalIn (n+1) t x y).run P w= .ok r w:=by
 unfold ss at h;split at h
 .cases ha;cases hb;cases h;simp only[Op.equalIn,Sem.run_bind,Ad he hu,Result.andThen_ok,Sem.run_pure];rename_i p q
  cases p<;>cases q<;>rfl
 .cases ha;cases hb;split at h
  .next hk=>
   cases h;subst hk;simp only[Op.equalIn,Sem.run_bind,Ad he hu,Result.andThen_ok,if_true,Sem.run_pure];rfl
  .cases h
 .cases ha;cases hb;cases h;rename_i l1 l2 s1 h1 s2 h2
  subst h1;subst h2;rw[run_equalIn_string w n t s1 s2 (BU he hu),ByteArray.toList_eq,ByteArray.toList_eq,AB]
  congr 1
  rw[Bool.eq_iff_iff];simp
 .cases h
omit he in
theorem UZ {d:TypeDesc} {a b:AV} {r:Bool} (h:ss d a b=some r):(r=true↔a=b)/\bm a=true/\bm b=true/\jD d a=true/\jD d b=true:=by
 unfold ss at h;split at h
 .cases h;rename_i p q
  refine⟨?_,U,U,U,U⟩;cases p<;>cases q<;>simp
 .next k j p q=>
  split at h
  .next hk=>cases h;subst hk;exact⟨by simp,rfl,rfl,rfl,rfl⟩
  .cases h
 .cases h;refine⟨?_,U,U,U,U⟩;rw[AB];simp
 .cases h
omit he in
theorem E2:∀ {l:List TypeDesc} {a:List AV},lV l a=true->a.all bm=true/\a.length=l.length
 | [],[],_=>⟨rfl,rfl⟩
 | [],_::_,h=>by simp[lV]at h
 |_::_,[],h=>by simp[lV]at h
 |d::l,a::x,h=>by
  simp only[lV,Qf]at h;obtain⟨h1,h2⟩:=E2 h.2;refine⟨?_,by simp[h2]⟩;rw[List.all_cons,h1,Bool.and_true];cases d<;>cases a<;>first|rfl|simp[jD]at h
omit he in
theorem RS {kd:Kd} {k:AV} (h:cK kd k=true):gN k=true:=by
 cases kd with
 |one d=>cases d<;>cases k<;>first|rfl|simp[cK,jD]at h
 |flat l=>cases k<;>first|(simp[cK]at h;done)|exact(E2 h).1
omit he in
theorem FF:∀ {fs:List Field} {i:Nat} {l:List TypeDesc},fE E fs i=some l->l.length=fs.length/\
 ∀j f,fs[j]?=some f->∃d,l[j]?=some d/\f.offset=i+j/\f.name≠ "_" /\YI E f.type=some d
 | [],i,l,h=>by cases h;exact⟨rfl,fun j f h=>by simp at h⟩
 |g::fs,i,l,h=>by
  simp only[fE]at h;cases hb:(Nat.beq g.offset i&& !(g.name== "_"))with
  |false=>rw[hb]at h;cases h
  |true=>
  rw[hb]at h;simp only[Qf,Bool.not_eq_true',beq_eq_false_iff_ne]at hb;obtain⟨d,hd,h⟩:=Qa.1 h;obtain⟨r,hr,h⟩:=Qa.1 h;cases h;obtain⟨h1,h2⟩:=FF hr;refine⟨by simp[h1],fun j f hf=>?_⟩;cases j with
  |zero=>simp at hf;subst hf;exact⟨d,rfl,Qb hb.1,hb.2,hd⟩
  |succ j=>
   obtain⟨d',a1,a2,a3,a4⟩:=h2 j f (by simpa using hf);exact⟨d',by simpa using a1,by omega,a3,a4⟩
theorem BY {t:TypeId} {d:TypeDesc} (hs:YI E t=some d) {C:Cx} {aa:List AV} {xs:Array Value} (hv:Wc C aa xs.toList) {i:Nat} {a:AV} (hi:aa[i]?=some a) (w:World):
 ∃x,(part t xs i).run P w= .ok x w/\VR C a x:=
 DA (P:=P) he (Nj he hs) hv (by rw[DV];exact hi) w
theorem Jt {C:Cx} {aa bb:List AV} {xs ys:Array Value} (ha:Wc C aa xs.toList) (hb:Wc C bb ys.toList) (n:Nat) (w:World):
 ∀ {fs:List Field} {i:Nat} {l:List TypeDesc} {r:Bool},fE E fs i=some l->Zz l (aa.drop i) (bb.drop i)=some r->(Op.eqFields (n+1) xs ys fs).run P w= .ok r w
 | [],i,l,r,hl,h=>by
  cases hl;generalize aa.drop i=p at h;generalize bb.drop i=q at h;cases p<;>cases q<;>simp[Zz]at h
  subst h;rfl
 |f::fs,i,l,r,hl,h=>by
  have hg:=(FF hl).2 0 f rfl;simp only[fE]at hl;cases hbq:(Nat.beq f.offset i&& !(f.name== "_"))with
  |false=>rw[hbq]at hl;cases hl
  |true=>
  rw[hbq]at hl;obtain⟨d,hd,hl⟩:=Qa.1 hl;obtain⟨l',hr,hl⟩:=Qa.1 hl;cases hl;obtain⟨d',e1,hoff,uv,fp⟩:=hg;simp at e1;subst e1;cases hp:aa.drop i with
  |nil=>rw[hp]at h;simp[Zz]at h
  |cons a p=>
  cases hq:bb.drop i with
  |nil=>rw[hp,hq]at h;simp[Zz]at h
  |cons b q=>
  rw[hp,hq]at h;simp only[Zz]at h;obtain⟨v,hv,h⟩:=Qa.1 h;have ga:aa[i]?=some a:=by have:=congrArg (·[0]?) hp;simpa using this
  have gb:bb[i]?=some b:=by have:=congrArg (·[0]?) hq;simpa using this
  obtain⟨x,hx,aw⟩:=BY (P:=P) he fp ha ga w;obtain⟨y,hy,gz⟩:=BY (P:=P) he fp hb gb w;have heq:=Oe (P:=P) he (AW fp).1 aw gz hv n w;have h0:f.offset=i:=by simpa using hoff
  simp only[Op.eqFields,uv,ne_eq,not_false_eq_true,if_true,h0,Sem.run_bind,hx,hy,heq,Result.andThen_ok];cases v with
  |false=>cases h;rfl
  |true=>
   have e1:p=aa.drop (i+1):=by rw[<-List.drop_drop,hp];rfl
   have e2:q=bb.drop (i+1):=by rw[<-List.drop_drop,hq];rfl
   subst e1;subst e2;simpa using Jt ha hb n w hr h
theorem Lj {e:TypeId} {d:TypeDesc} (hs:YI E e=some d) {C:Cx} {aa bb:List AV} {xs ys:Array Value} (ha:Wc C aa xs.toList) (hb:Wc C bb ys.toList) (n:Nat) (w:World):
 ∀(m i:Nat) {r:Bool},Zz (rep d m) (aa.drop i) (bb.drop i)=some r->(Op.eqItems (n+1) e 1 xs ys (List.range' i m)).run P w= .ok r w
 |0,i,r,h=>by
  generalize aa.drop i=p at h;generalize bb.drop i=q at h;cases p<;>cases q<;>simp[Zz,rep]at h
  subst h;rfl
 |m+1,i,r,h=>by
  cases hp:aa.drop i with
  |nil=>rw[hp]at h;simp[Zz,rep]at h
  |cons a p=>
  cases hq:bb.drop i with
  |nil=>rw[hp,hq]at h;simp[Zz,rep]at h
  |cons b q=>
  rw[hp,hq]at h;simp only[rep,Zz]at h;obtain⟨v,hv,h⟩:=Qa.1 h;have ga:aa[i]?=some a:=by have:=congrArg (·[0]?) hp;simpa using this
  have gb:bb[i]?=some b:=by have:=congrArg (·[0]?) hq;simpa using this
  obtain⟨x,hx,aw⟩:=BY (P:=P) he hs ha ga w;obtain⟨y,hy,gz⟩:=BY (P:=P) he hs hb gb w;have heq:=Oe (P:=P) he (AW hs).1 aw gz hv n w;simp only[List.range'_succ,Op.eqItems,Nat.mul_one,Sem.run_bind,hx,hy,heq,Result.andThen_ok];cases v with
  |false=>cases h;rfl
  |true=>
   have e1:p=aa.drop (i+1):=by rw[<-List.drop_drop,hp];rfl
   have e2:q=bb.drop (i+1):=by rw[<-List.drop_drop,hq];rfl
   subst e1;subst e2;simpa using Lj hs ha hb n w m (i+1) h
omit he in
theorem DY {t:TypeId} {kd:Kd} (h:bQ E t=some kd):
 (∃fs l,CN E t=some (.struct fs)/\fE E fs.toList 0=some l/\E.plain t=true/\kd= .flat l)\/
 (∃n e d,CN E t=some (.array n e)/\YI E e=some d/\Am.sizeOf E e=some 1/\kd= .flat (rep d n))\/
 (∃d,CN E t=some d/\Z8 d=true/\kd= .one d):=by
 unfold bQ at h;split at h
 .next fs hu=>
  cases XV:E.plain t with
  |false=>rw[XV]at h;cases h
  |true=>
  rw[XV]at h;obtain⟨l,hl,h⟩:=Qa.1 h;cases h;exact .inl ⟨fs,l,hu,hl,U,U⟩
 .next n e hu=>
  split at h
  .next d hd hs=>cases h;exact .inr (.inl ⟨n,e,d,hu,hd,hs,rfl⟩)
  .cases h
 .next d du qu hu=>
  cases hs:Z8 d with
  |true=>rw[hs]at h;cases h;exact .inr (.inr ⟨d,hu,hs,rfl⟩)
  |false=>rw[hs]at h;cases h
 .cases h
theorem UY {t:TypeId} {kd:Kd} (hk:bQ E t=some kd) {C:Cx} {a b:AV} {x y:Value} (ha:VR C a x) (hb:VR C b y) {r:Bool} (h:dA kd a b=some r) (n:Nat) (w:World):
 (Op.equalIn (n+2) t x y).run P w= .ok r w:=by
 rcases DY hk with⟨fs,l,hu,hl,XV,rfl⟩|⟨m,e,d,hu,hd,hs,rfl⟩|⟨d,hu,hs,rfl⟩
 .cases ha<;>cases hb<;>simp only[dA]at h<;>try (cases h;done)
  rename_i a' xs hca uw b' ys nH hvb
  have hf:P.fieldsOf t=fs:=by simp[Program.fieldsOf,BU he hu]
  rw[run_equalIn_struct w (n+1) t xs ys (by rw[hf];exact BU he hu) (he.flat t XV),hf];exact Jt he uw hvb n w hl (by simpa using h)
 .cases ha<;>cases hb<;>simp only[dA]at h<;>try (cases h;done)
  rename_i a' xs hca uw b' ys nH hvb
  have hi:∃i,E.tys.get e=some i/\i.size=1:=by
   unfold Am.sizeOf at hs;cases hi:E.tys.get e with
   |none=>rw[hi]at hs;cases hs
   |some i=>rw[hi]at hs;exact⟨i,rfl,Option.some.inj hs⟩
  obtain⟨i,hi,hi1⟩:=hi;have hc:P.cellsOf e=1:=by simp[Program.cellsOf,he.ty e i hi,hi1]
  rw[run_equalIn_array w (n+1) xs ys (BU he hu) (he.ty e i hi),hc,List.range_eq_range'];exact Lj he hd uw hvb n w m 0 (by simpa using h)
 .exact Oe he hu ha hb h (n+1) w
theorem ux {t:TypeId} {kd:Kd} (hk:bQ E t=some kd):P.eqGuardType P.depth t=false:=by
 have uy:∃k,P.depth=k+2:=⟨_,rfl⟩
 obtain⟨k,j3⟩:=uy;rw[j3];have sc:∀(j:Nat) {u:TypeId} {d:TypeDesc},CN E u=some d->Z8 d=true->P.eqGuardType (j+1) u=false:=by
  intro j u d hu hd;simp only[Program.eqGuardType,BU he hu];cases d<;>first|rfl|cases hd
 rcases DY hk with⟨fs,l,hu,hl,XV,rfl⟩|⟨m,e,d,hu,hd,hs,rfl⟩|⟨d,hu,hs,rfl⟩
 .rw[Program.eqGuardType];simp only[BU he hu];rw[<-Array.any_toList];rw[List.any_eq_false];intro f hf;obtain⟨j,hj⟩:=List.getElem?_of_mem hf;obtain⟨d,_,_,_,fp⟩:=(FF hl).2 j f hj;obtain⟨h1,h2⟩:=AW fp;rw[sc k h1 h2];simp
 .rw[Program.eqGuardType];simp only[BU he hu];obtain⟨h1,h2⟩:=AW hd;exact sc k h1 h2
 .exact sc (k+1) hu hs
end
section
variable {E : Env} {P : Program} (he : CV E P)
abbrev iT (op:BinOp) (t:TypeId) (x y:Operand) (a b:Value):Sem Value:=do eqGuard op t x y a b;binOp op t a b
theorem DF {o:Oper} {op:BinOp} {t yt:TypeId} {x y:Operand} (ho:o.op= .binOp op t x y yt):∀ρ,execOp ρ o=(do pure (.value (<-iT op t x y (ρ x) (ρ y)))):=by
 intro ρ;simp[execOp,ho,iT]
theorem yO {o:Oper} {op:BinOp} {t yt:TypeId} {x y:Operand} (ho:o.op= .binOp op t x y yt) {f:IntKind->Int->Int->Option AV} (hf:mN op=some f):Yq E P o (YA E (oE f) x y):=by
 refine Em (DF ho) ?_;intro C w v u p q r hv hu hr;cases hv with
 |int k a=>
  cases hu with
  |int k' b=>simp_all [oE,iT,Jp,yM]
  |_=>simp[oE]at hr
 |_=>simp[oE]at hr
theorem yQ {o:Oper} {op:BinOp} {t yt:TypeId} {x y:Operand} (ho:o.op= .binOp op t x y yt) {f:List UInt8->List UInt8->Option AV} (hf:tL op=some f):Yq E P o (YA E (pY f) x y):=by
 refine Em (DF ho) ?_;intro C w v u p q r hv hu hr;cases hv with
 |str h1=>
  cases hu with
  |str h2=>simp_all [pY,iT,UH,yN]
  |_=>simp[pY]at hr
 |_=>simp[pY]at hr
theorem ok_sh {o:Oper} {op:BinOp} {t yt:TypeId} {x y:Operand} (ho:o.op= .binOp op t x y yt) (Yc:op= .shl\/op= .shr):Yq E P o (YA E (lU (if op= .shl then shlA else shrA)) x y):=by
 refine Em (DF ho) ?_;intro C w v u p q r hv hu hr;cases hv with
 |int k a=>
  cases hu with
  |int k' b=>
   simp only[lU]at hr;rcases Yc with rfl|rfl
   .simp only[if_true,shlA]at hr;split at hr
    .cases hr
    .next hb=>cases hr;exact⟨_,by simp only[iT,Sem.run_bind,Jp,Result.andThen_ok,binOp,Op.shift,hb,if_false];rfl,.int _ _⟩
   .simp only[reduceCtorEq,if_false,shrA]at hr;split at hr
    .cases hr
    .next hb=>cases hr;exact⟨_,by simp only[iT,Sem.run_bind,Jp,Result.andThen_ok,binOp,Op.shift,hb,if_false];rfl,.int _ _⟩
  |_=>simp[lU]at hr
 |_=>simp[lU]at hr
def bu:Value->Value->Bool
 | .int _ _,.int _ _=>false
 | .float _ _,_=>false
 | .complex _ _ _,_=>false
 | .string _,.string _=>false
 | .nilIface,.nilIface=>false
 | .agg _,.agg _=>false
 |_,_=>true
theorem E5 {op:BinOp} {t:TypeId} {x y:Operand} {a b:Value} (h:bu a b=true) (w:World):(eqGuard op t x y a b).run P w= .ok () w:=by
 unfold eqGuard;split
 all_goals first|rfl|(cases a<;>cases b<;>first|rfl|cases h)
theorem Rg {neg:Bool} {t:TypeId} {a b:Value} (h:bu a b=true) {r:Bool} {w:World} (he:(Op.equal t a b).run P w= .ok r w):
 (binOp (if neg then .neq else .eql) t a b).run P w= .ok (.bool (bif neg then !r else r)) w:=by
 cases neg<;>cases a<;>cases b<;>first|(cases h;done)|(simp[binOp,he];done)
theorem I0 {C:Cx} {neg:Bool} {o:Option Bool} {r:AV} (h:Zf neg o=some r):∃b,o=some b/\VR C r (.bool (bif neg then !b else b)):=by
 unfold Zf at h;split at h
 .cases h;exact⟨_,rfl,.bool _⟩
 .cases h
theorem TX {o:Oper} {neg:Bool} {t yt:TypeId} {x y:Operand} (ho:o.op= .binOp (if neg then .neq else .eql) t x y yt) {f:AV->AV->Option Bool}
 (h:∀(C:Cx) (w:World) a b p q r,VR C a p->VR C b q->f a b=some r->bu p q=true/\(Op.equal t p q).run P w= .ok r w):
 Yq E P o (YA E (fun a b=>Zf neg (f a b)) x y):=by
 refine Em (DF ho) ?_;intro C w v u p q r hv hu hr;obtain⟨b,hb,hrb⟩:=I0 (C:=C) hr;obtain⟨h1,h2⟩:=h C w v u p q b hv hu hb;exact⟨_,by simp only[iT,Sem.run_bind,E5 h1,Result.andThen_ok,Rg h1 h2],hrb⟩
theorem BE {t:TypeId} {a b:Value} {r:Bool} {w:World} (h:∀n,(Op.equalIn (n+1) t a b).run P w= .ok r w):(Op.equal t a b).run P w= .ok r w:=h 9999
section steps
variable {t : TypeId} (n : Nat) (w : World)
include he
theorem yR {e:TypeId} (hu:CN E t=some (.pointer e)) (b:Option Addr):(Op.equalIn (n+1) t (.pointer none) (.pointer b)).run P w= .ok b.isNone w:=by
 simp only[Op.equalIn,Sem.run_bind,Ad he hu,Result.andThen_ok,Sem.run_pure]
theorem yS {e:TypeId} (hu:CN E t=some (.pointer e)) (a:Addr):(Op.equalIn (n+1) t (.pointer (some a)) (.pointer none)).run P w= .ok false w:=by
 simp only[Op.equalIn,Sem.run_bind,Ad he hu,Result.andThen_ok,Sem.run_pure]
theorem U7 {e:TypeId} (hu:CN E t=some (.pointer e)) {k:Nat} (hs:Am.sizeOf E e=some (k+1)) {a b:Addr} {r:Bool} (h:(sameAddr a b).run P w= .ok r w):
 (Op.equalIn (n+1) t (.pointer (some a)) (.pointer (some b))).run P w= .ok r w:=by
 simp only[Op.equalIn,Sem.run_bind,Ad he hu,A6 he hs,Result.andThen_ok,ne_eq,Nat.succ_ne_zero,not_false_eq_true,if_true,h]
theorem in_fn0 {ps rs:Array TypeId} {v:Bool} (hu:CN E t=some (.func ps rs v)):(Op.equalIn (n+1) t .nilFunc .nilFunc).run P w= .ok true w:=by
 simp only[Op.equalIn,Sem.run_bind,Ad he hu,Result.andThen_ok,Sem.run_pure]
theorem in_fn1 {ps rs:Array TypeId} {v:Bool} (hu:CN E t=some (.func ps rs v)) (f:Fn) (a b:Array Value):(Op.equalIn (n+1) t .nilFunc (.func f a b)).run P w= .ok false w:=by
 simp only[Op.equalIn,Sem.run_bind,Ad he hu,Result.andThen_ok,Sem.run_pure]
theorem in_fn2 {ps rs:Array TypeId} {v:Bool} (hu:CN E t=some (.func ps rs v)) (f:Fn) (a b:Array Value):(Op.equalIn (n+1) t (.func f a b) .nilFunc).run P w= .ok false w:=by
 simp only[Op.equalIn,Sem.run_bind,Ad he hu,Result.andThen_ok,Sem.run_pure]
theorem in_if0 {ms:Array (String×TypeId)} (hu:CN E t=some (.interface ms)):(Op.equalIn (n+1) t .nilIface .nilIface).run P w= .ok true w:=by
 simp only[Op.equalIn,Sem.run_bind,Ad he hu,Result.andThen_ok,Sem.run_pure]
theorem in_if1 {ms:Array (String×TypeId)} (hu:CN E t=some (.interface ms)) (u:TypeId) (a:Value):(Op.equalIn (n+1) t .nilIface (.iface u a)).run P w= .ok false w:=by
 simp only[Op.equalIn,Sem.run_bind,Ad he hu,Result.andThen_ok,Sem.run_pure]
theorem in_if2 {ms:Array (String×TypeId)} (hu:CN E t=some (.interface ms)) (u:TypeId) (a:Value):(Op.equalIn (n+1) t (.iface u a) .nilIface).run P w= .ok false w:=by
 simp only[Op.equalIn,Sem.run_bind,Ad he hu,Result.andThen_ok,Sem.run_pure]
theorem in_if3 {ms:Array (String×TypeId)} (hu:CN E t=some (.interface ms)) {u v:TypeId} (h:u≠v) (a b:Value):(Op.equalIn (n+1) t (.iface u a) (.iface v b)).run P w= .ok false w:=by
 simp only[Op.equalIn,Sem.run_bind,Ad he hu,Result.andThen_ok,ne_eq,h,not_false_eq_true,if_true,Sem.run_pure]
theorem in_if4 {ms:Array (String×TypeId)} (hu:CN E t=some (.interface ms)) {u:TypeId} {i:TypeInfo} (hi:E.tys.get u=some i) (hc:i.comparable=true) {a b:Value} {r:Bool}
 (h:(Op.equalIn n u a b).run P w= .ok r w):(Op.equalIn (n+1) t (.iface u a) (.iface u b)).run P w= .ok r w:=by
 simp only[Op.equalIn,Sem.run_bind,Ad he hu,Result.andThen_ok,ne_eq,not_true_eq_false,if_false,B6 he hi,hc,Bool.not_true,Bool.false_eq_true,h]
end steps
include he
theorem TW {o:Oper} {neg:Bool} {t yt:TypeId} {x y:Operand} (ho:o.op= .binOp (if neg then .neq else .eql) t x y yt) (hu:CN E t=some .bool):
 Yq E P o (YA E (fun a b=>Zf neg (ss .bool a b)) x y):=by
 refine TX ho ?_;intro C w a b p q r ha hb h;have heq:=Oe (P:=P) he hu ha hb h 9999 w;refine⟨?_,heq⟩;unfold ss at h;split at h
 .cases ha;cases hb;rfl
 .next k j p q e=>cases e
 .next e=>cases e
 .cases h
theorem TU {o:Oper} {neg:Bool} {t yt:TypeId} {x y:Operand} (ho:o.op= .binOp (if neg then .neq else .eql) t x y yt) {ps rs:Array TypeId} {v:Bool} (hu:CN E t=some (.func ps rs v)):
 Yq E P o (YA E (fun a b=>Zf neg (pZ a b)) x y):=by
 refine TX ho ?_;intro C w a b p q r ha hb h;unfold pZ at h;split at h<;>first|(cases h;done)|skip
 .cases ha;cases hb;cases h;exact⟨rfl,BE fun n=>in_fn0 he n w hu⟩
 .cases ha;cases h;cases hb<;>exact⟨rfl,BE fun n=>in_fn1 he n w hu _ _ _⟩
 .cases hb;cases h;cases ha<;>exact⟨rfl,BE fun n=>in_fn2 he n w hu _ _ _⟩
theorem QP {t e:TypeId} (hu:CN E t=some (.pointer e)) {C:Cx} {w:World} {a b:AV} {p q:Value} {r:Bool} (ha:VR C a p) (hb:VR C b q) (h:lW a b=some r):
 bu p q=true/\(Op.equal t p q).run P w= .ok r w:=by
 unfold lW at h;split at h<;>first|(cases h;done)|skip
 all_goals
  cases ha;cases hb;cases h;first
   |exact⟨rfl,BE fun n=>yR he n w hu _⟩
   |exact⟨rfl,BE fun n=>yS he n w hu _⟩
theorem uz {o:Oper} {neg:Bool} {t yt:TypeId} {x y:Operand} (ho:o.op= .binOp (if neg then .neq else .eql) t x y yt) {e:TypeId} (hu:CN E t=some (.pointer e)):
 Yq E P o (YA E (fun a b=>Zf neg (lW a b)) x y):=
 TX ho fun _ _ _ _ _ _ _ ha hb h=>QP he hu ha hb h
omit he in
theorem Od {s:St} {a b:AV} {r:Bool} (h:dP s a b=some r):(∃b1 i b2 j,a= .ptr b1 i/\b= .ptr b2 j)\/lW a b=some r:=by
 unfold dP at h;split at h
 .exact .inl ⟨_,_,_,_,U,U⟩
 .exact .inr h
theorem UX {t e:TypeId} {n:Nat} (hu:CN E t=some (.pointer e)) (hs:Am.sizeOf E e=some (n+1)) {C:Cx} {S:St} {w:World} (hS:W2 C S w) {b1 i b2 j:Nat} {p q:Value} {b:Bool}
 (ha1:VR C (.ptr b1 i) p) (ha2:VR C (.ptr b2 j) q) (hb:dP S (.ptr b1 i) (.ptr b2 j)=some b):bu p q=true/\(Op.equal t p q).run P w= .ok b w:=by
 cases ha1 with
 |ptr du=>
 cases ha2 with
 |ptr qu=>
 refine⟨U,?_⟩;simp only[dP]at hb;cases qY:Nat.beq b1 b2 with
 |true=>
  rw[qY]at hb;have:b1=b2:=Qb qY;subst this;cases hb;have:(sameAddr ⟨(C.pl b1).Ci,(C.pl b1).base+i,none⟩ ⟨(C.pl b1).Ci,(C.pl b1).base+j,none⟩).run P w= .ok (Nat.beq i j) w:=by
   simp only[sameAddr,beq_self_eq_true,if_true,Sem.run_pure]
   congr 1
   rw[Bool.eq_iff_iff];simp
  exact BE fun n=>U7 he n w hu hs this
 |false=>
  rw[qY]at hb;cases hv:(isVar (S.heap.get b1)&&isVar (S.heap.get b2))with
  |false=>rw[hv]at hb;cases hb
  |true=>
   rw[hv]at hb;cases hb;simp only[Qf]at hv;have var:∀k,isVar (S.heap.get k)=true->∃o c e',S.heap.get k=some o/\w.heap[(C.pl k).Ci]?=some (.cells c e' (0,0)):=by
    intro k hk;cases hgk:S.heap.get k with
    |none=>rw[hgk]at hk;cases hk
    |some o=>
     rw[hgk]at hk;cases o with
     |cells cs e' part=>
      have hpf:part=false:=by simpa[isVar]using hk
      subst hpf;obtain⟨_,x',u0,hr⟩:=hS.live k _ hgk;cases hr with
      |cells hv ha Xn Wt hf hp=>obtain⟨_,_,rfl⟩:=hp rfl;exact⟨_,_,_,rfl,u0⟩
     |_=>cases hk
   obtain⟨o1,c1,e1,g1,m1⟩:=var b1 hv.1;obtain⟨o2,c2,e2,g2,m2⟩:=var b2 hv.2;have YM:(C.pl b1).Ci≠(C.pl b2).Ci:=fun e=>by
    have:=hS.inj b1 b2 o1 o2 g1 g2 e;subst this;simp at qY
   have:=run_sameAddr_other (P:=P) w (a:=⟨(C.pl b1).Ci,(C.pl b1).base+i,none⟩) (b:=⟨(C.pl b2).Ci,(C.pl b2).base+j,none⟩) (fun e=>YM (congrArg Addr.block e)) m1 m2;exact BE fun n=>U7 he n w hu hs this
theorem TS {o:Oper} {neg:Bool} {t yt:TypeId} {x y:Operand} (ho:o.op= .binOp (if neg then .neq else .eql) t x y yt) {e:TypeId} {n:Nat} (hu:CN E t=some (.pointer e))
 (hs:Am.sizeOf E e=some (n+1)):Yq E P o (.look fun T s=>(Cg E x T).bind fun a=>(Cg E y T).bind fun b=>Zf neg (dP s a b)):=by
 intro C T a S w hg hT hS v h;obtain⟨u,jN,h⟩:=Qa.1 h;obtain⟨u2,u5,h⟩:=Qa.1 h;obtain⟨b,hb,hrb⟩:=I0 (C:=C) h;have ha1:=Ak hg hT jN;have ha2:=Ak hg hT u5;have main:bu (a.eval x) (a.eval y)=true/\(Op.equal t (a.eval x) (a.eval y)).run P w= .ok b w:=by
  rcases Od hb with⟨b1,i,b2,j,rfl,rfl⟩|h
  .exact UX he hu hs hS ha1 ha2 hb
  .exact QP he hu ha1 ha2 h
 refine⟨_,?_,hrb⟩;rw[DF ho];simp only[iT,Sem.run_bind,E5 main.1,Result.andThen_ok,Rg main.1 main.2,Sem.run_pure]
theorem TT {o:Oper} {neg:Bool} {t yt:TypeId} {x y:Operand} (ho:o.op= .binOp (if neg then .neq else .eql) t x y yt) {kd:Option Kd} (hk:kd=bQ E t)
 (hu:(∃fs,CN E t=some (.struct fs))\/∃n e,CN E t=some (.array n e)):Yq E P o (qM E neg kd x y):=by
 subst hk;unfold qM;split
 .next kd oR=>
  refine Em (DF ho) ?_;intro C w v u p q r hv ya hr;obtain⟨b,hb,hrb⟩:=I0 (C:=C) hr;have heq:=UY (P:=P) he oR hv ya hb 9998 w;have hagg:∃xs ys,p= .agg xs/\q= .agg ys:=by
   rcases DY oR with⟨fs,l,_,_,_,rfl⟩|⟨m,e,d,_,_,_,rfl⟩|⟨d,hd,hs,rfl⟩
   .cases hv<;>cases ya<;>simp only[dA]at hb<;>first|(cases hb;done)|exact⟨_,_,rfl,rfl⟩
   .cases hv<;>cases ya<;>simp only[dA]at hb<;>first|(cases hb;done)|exact⟨_,_,rfl,rfl⟩
   .exfalso;rcases hu with⟨fs,hu⟩|⟨n,e,hu⟩<;>rw[hu]at hd<;>cases hd<;>cases hs
  obtain⟨xs,ys,rfl,rfl⟩:=hagg;refine⟨_,?_,hrb⟩;simp only[iT,Sem.run_bind,run_eqGuard_agg w _ t x y xs ys (ux he oR),Result.andThen_ok];have heq':(Op.equal t (.agg xs) (.agg ys)).run P w= .ok b w:=heq;cases neg
  .simp[binOp,heq']
  .simp[binOp,heq']
 .exact Ap
theorem RN {o:Oper} {neg:Bool} {t yt:TypeId} {x y:Operand} (ho:o.op= .binOp (if neg then .neq else .eql) t x y yt) {ms:Array (String×TypeId)} (hu:CN E t=some (.interface ms)):
 Yq E P o (YA E (fun a b=>Zf neg (gM E (isConst x||isConst y) a b)) x y):=by
 refine Em (DF ho) ?_;intro C w v u p q r hv ya hr;obtain⟨b,hb,hrb⟩:=I0 (C:=C) hr;have fin:bu p q=true->(Op.equal t p q).run P w= .ok b w->∃z,(iT (if neg then .neq else .eql) t x y p q).run P w= .ok z w/\VR C r z:=fun h1 h2=>
  ⟨_,by simp only[iT,Sem.run_bind,E5 h1,Result.andThen_ok,Rg h1 h2],hrb⟩
 unfold gM at hb;split at hb
 .cases hl:(isConst x||isConst y)with
  |false=>rw[hl]at hb;cases hb
  |true=>
   rw[hl]at hb;cases hb;cases hv;cases ya;have hg:(eqGuard (if neg then .neq else .eql) t x y .nilIface .nilIface).run P w= .ok () w:=by
    cases neg<;>cases x<;>cases y<;>first|rfl|(simp[isConst]at hl)
   refine⟨_,?_,hrb⟩;simp only[iT,Sem.run_bind,hg,Result.andThen_ok];have h0:(Op.equal t .nilIface .nilIface).run P w= .ok true w:=BE fun n=>in_if0 he n w hu;cases neg<;>simp[binOp,h0]
 .cases hv;cases ya;cases hb;exact fin U (BE fun n=>in_if1 he n w hu _ _)
 .cases hv;cases ya;cases hb;exact fin U (BE fun n=>in_if2 he n w hu _ _)
 .next t1 a1 t2 a2=>
  cases hv with
  |iface hv=>
  cases ya with
  |iface ya=>
  refine fin U ?_;cases htt:Nat.beq t1 t2 with
  |false=>
   rw[htt]at hb;cases hb;have YM:t1≠t2:=fun e=>by subst e;simp at htt
   exact BE fun n=>in_if3 he n w hu YM _ _
  |true=>
   rw[htt]at hb;have:t1=t2:=Qb htt;subst this;cases hc:dQ E t1 with
   |false=>rw[hc]at hb;cases hb
   |true=>
   rw[hc]at hb;obtain⟨d,hd,hb⟩:=Qa.1 hb;unfold dQ at hc;cases hi:E.tys.get t1 with
   |none=>rw[hi]at hc;cases hc
   |some i=>
    rw[hi]at hc;exact in_if4 he 9999 w hu hi hc (Oe (P:=P) he (AW hd).1 hv ya hb 9998 w)
 .cases hb
omit he in
theorem yT {C:Cx} {v:AV} {x:Value} (h:VR C v x) {l:List Bool} (e:yr v=some l):∃a n c,x= .slice a n c/\a.isNone∈l:=by
 cases h with
 |Ca a hxx=>cases e;cases a<;>exact⟨_,_,_,rfl,by simp⟩
 |slice hd hc YK=>cases e;exact⟨_,_,_,rfl,by simp⟩
 |X1 hxx hd hc=>cases e;exact⟨_,_,_,rfl,by simp⟩
 |W1 a h YK=>cases e;cases a<;>exact⟨_,_,_,rfl,by simp⟩
 |Cf hl hm ha hv X7 Wt YK=>
  rename_i Ci off len sz c cl cs ms vs
  cases cs with
  |nil=>cases e;exact⟨_,_,_,rfl,by simp⟩
  |cons q cs=>cases e;exact⟨_,_,_,rfl,by simp⟩
 |_=>simp[yr]at e
theorem u6 {o:Oper} {neg:Bool} {t yt:TypeId} {x:Operand} (ho:o.op= .binOp (if neg then .neq else .eql) t x (.const (.slice none 0 0)) yt) {e:TypeId} (hu:CN E t=some (.slice e)):
 Yq E P o (.pick fun T=>(Cg E x T).bind fun a=>(yr a).bind fun l=>some (mO neg l)):=by
 intro C T a S w hg hT hS l h;obtain⟨u,jN,h⟩:=Qa.1 h;obtain⟨bs,jn,h⟩:=Qa.1 h;cases h;obtain⟨ad,n,c,hx,Yw⟩:=yT (Ak hg hT jN) jn;have hin:∀(bs:List Bool) (b:Bool),b∈bs->(AV.bool (bif neg then !b else b))∈mO neg bs:=by
  intro bs;induction bs with
  |nil=>intro b h;cases h
  |cons q bs ih=>
   intro b h;rcases Qk.1 h with rfl|h
   .exact Qh ..
   .exact Qg _ (ih b h)
 refine⟨_,hin bs _ Yw,_,?_,.bool _⟩;have heq:(Op.equal t (a.eval x) (a.eval (.const (.slice none 0 0)))).run P w= .ok ad.isNone w:=by
  refine BE fun n=>?_;rw[hx];show(Op.equalIn (n+1) t _ (.slice none 0 0)).run P w=_;cases ad<;>simp only[Op.equalIn,Sem.run_bind,Ad he hu,Result.andThen_ok,Sem.run_pure]<;>rfl
 have hp:bu (a.eval x) (a.eval (.const (.slice none 0 0)))=true:=by rw[hx];rfl
 rw[DF ho];simp only[iT,Sem.run_bind,E5 hp,Result.andThen_ok,Rg hp heq,Sem.run_pure]
theorem ok_eq {o:Oper} {neg:Bool} {t yt:TypeId} {x y:Operand} (ho:o.op= .binOp (if neg then .neq else .eql) t x y yt):Yq E P o (eqC E neg t x y):=by
 unfold eqC;split
 .next hu=>exact TW he ho hu
 .next e hu=>
  split
  .next n hs=>exact TS he ho hu hs
  .exact uz he ho hu
 .next ms hu=>exact RN he ho hu
 .next ps rs v hu=>exact TU he ho hu
 .grind [TT]
 .grind [TT]
 .next e hu=>
  split
  .exact u6 he ho hu
  .exact Ap
 .exact Ap
theorem ok_bin {o:Oper} {op:BinOp} {t yt:TypeId} {x y:Operand} (ho:o.op= .binOp op t x y yt):Yq E P o (kg E op t x y):=by
 unfold kg;split
 .grind [ok_sh,yO,Ap]
 .grind [yQ,Ap]
 .grind [ok_eq,Ap]
end
inductive OV (C:Cx):Option AV->Option Value->Prop where
 |none:OV C none none
 |some {v:AV} {x:Value} (h:VR C v x):OV C (some v) (some x)
section
variable {E : Env} {P : Program}
theorem GC {C:Cx} {T:Tr AV} {a:Act} (hg:W5 E C) (hT:TR C a.tmps.size T a.tmps) {x:Option Operand} {v:Option AV} (h:XC E x T=some v):OV C v (x.map a.eval):=by
 cases x with
 |none=>cases h;exact .none
 |some x=>
  simp only[XC]at h;obtain⟨u,hu,h⟩:=Qa.1 h;cases h;exact .some (Ak hg hT hu)
theorem V9 {n aE:Nat} (h:n<=aE) (k:IntKind) (code:BoundsCode) (w:World):(Instr.sliceBound (.int k (n:Int)) aE code).run P w= .ok n w:=by
 have hc:(0:Int)<=(n:Int)/\(n:Int)<=(aE:Int):=by omega
 simp[Instr.sliceBound,asIntOf,h]
theorem Dr {C:Cx} {aE r:Nat} {v:AV} {x:Value} (hv:VR C v x) {dflt:Nat} (h:WM dflt aE (some v)=some r) {m:Nat} (hm:aE<=m) (code:BoundsCode) (w:World):
 (Instr.sliceBound x m code).run P w= .ok r w/\r<=aE:=by
 simp only[WM]at h;obtain⟨n,hn,h⟩:=Qa.1 h;obtain⟨k,rfl⟩:=F9 hv hn;cases hb:Nat.ble n aE with
 |false=>rw[hb]at h;cases h
 |true=>
  rw[hb]at h;cases h;have:=Qc hb;exact⟨V9 (by omega) k code w,this⟩
theorem Ih {d m r:Nat} (h:WM d m none=some r):r=d:=by cases h;rfl
theorem BZ {C:Cx} {lo hi:Option AV} {xlo xhi:Option Value} (sw:OV C lo xlo) (qZ:OV C hi xhi) {len aE c h l:Nat} (hmc:aE<=c) (YK:len<=c)
 (h1:WM len aE hi=some h) (h2:WM 0 h lo=some l) (b:Bool) (w:World):
 (Instr.sliceBounds b len c xlo xhi none).run P w= .ok (l,h,c) w/\l<=h/\h<=c:=by
 have hh:h<=c/\∀code,(match xhi with|some v=>Instr.sliceBound v c code|none=>pure len:Sem Nat).run P w= .ok h w:=by
  cases qZ with
  |none=>cases Ih h1;exact⟨YK,fun _=>rfl⟩
  |some hv=>exact⟨Nat.le_trans (Dr (P:=P) hv h1 hmc .index w).2 hmc,fun code=>(Dr (P:=P) hv h1 hmc code w).1⟩
 have hl:l<=h/\∀code,(match xlo with|some v=>Instr.sliceBound v h code|none=>pure 0:Sem Nat).run P w= .ok l w:=by
  cases sw with
  |none=>cases Ih h2;exact⟨Qm _,fun _=>rfl⟩
  |some hv=>exact⟨(Dr (P:=P) hv h2 (Qj _) .index w).2,fun code=>(Dr (P:=P) hv h2 (Qj _) code w).1⟩
 refine⟨?_,hl.1,hh.1⟩;have e1:=hh.2;have e2:=hl.2;unfold Instr.sliceBounds;cases qZ with
 |none=>
  cases sw with
  |none=>simp_all
  |some hv=>simp_all
 |some pN=>
  cases sw with
  |none=>simp_all
  |some hv=>simp_all
theorem Ug {C:Cx} {S:St} {w:World} (hS:W2 C S w) {b off len sz c:Nat} {cap:Option Nat} (hc:oO C b off sz cap c) {cs:List AV} (Wt:Wp (S.heap.get b)=some cs):
 bH sz off len cap cs<=c:=by
 cases cap with
 |some k=>simp only[oO]at hc;simp[bH,hc.1]
 |none=>
  simp only[oO]at hc;simp only[bH];have hs:Nat.beq sz 0=false:=by cases sz with|zero=>omega|succ n=>rfl
  rw[hs];obtain⟨_,x,e,fr,vs,hx,hv,ha,Xn,_,_⟩:=hS.cells Wt;have h1:=hv.length;have h2:=ha.le;simp only[Array.length_toList]at h2;simp only[cond_false,Bl];have:(cs.length-off)<=c*sz:=by omega
  exact Nat.div_le_of_le_mul (by rw[Nat.mul_comm];exact this)
variable (he : CV E P)
include he
theorem u7 {t e:TypeId} {sz:Nat} (hu:CN E t=some (.slice e)) (Xn:Am.sizeOf E e=some sz) {C:Cx} {S:St} {w:World} (hS:W2 C S w) {v r:AV} {x:Value} (hv:VR C v x)
 {lo hi mx:Option AV} {xlo xhi xmx:Option Value} (sw:OV C lo xlo) (qZ:OV C hi xhi) (hmx:OV C mx xmx) (h:Xm S sz lo hi mx v=some r):
 ∃z,(Instr.sliceAt t x xlo xhi xmx).run P w= .ok z w/\VR C r z:=by
 have run:∀(a:Option Addr) (n c l h m:Nat),(Instr.sliceBounds true n c xlo xhi xmx).run P w= .ok (l,h,m) w->
  (Instr.sliceAt t (.slice a n c) xlo xhi xmx).run P w= .ok (.slice (if m=l then a else a.map (·.add (l*sz))) (h-l) (m-l)) w:=by
  intro a n c l h m hb;simp[Instr.sliceAt,Instr.slice,Ad he hu,hb,A6 he Xn]
 have oS:∀ {a:Option Addr} {q:Prop} [Decidable q] {k:Nat},tk C a->tk C (if q then a else a.map (·.add k)):=by
  intro a q _ k ha ad o5;split at o5
  .exact ha ad o5
  .cases a with
   |none=>cases o5
   |some ad0=>
    cases o5;have:=ha ad0 rfl;unfold Addr.add;split<;>exact this
 cases hv with
 |Ca a sx=>
  simp only[Xm]at h;cases hmx with
  |none=>
   simp only[tM]at h;obtain⟨p,hp,h⟩:=Qa.1 h;obtain⟨q,hq,h⟩:=Qa.1 h;cases h;have xZ:p=0:=by
    cases qZ with
    |none=>cases hp;rfl
    |some hv=>have:=(Dr (P:=P) hv hp (Qj _) .index w).2;omega
   subst xZ;obtain⟨hb,hle,_⟩:=BZ (P:=P) sw qZ (Qj 0) (Qj 0) hp hq true w;have hq0:q=0:=by omega
   subst hq0;exact⟨_,run a 0 0 0 0 0 hb,.Ca _ sx⟩
  |some mm=>simp[tM]at h
 |slice hd hc YK=>
  rename_i b off len Zc cap c
  simp only[Xm]at h;cases fN:Nat.beq Zc sz with
  |false=>rw[fN]at h;cases h
  |true=>
  rw[fN]at h;have:Zc=sz:=Qb fN;subst this;obtain⟨cs,Wt,h⟩:=Qa.1 h;have hmost:=Ug hS hc (len:=len) Wt;generalize bH Zc off len cap cs=aE at h hmost;cases hmx with
  |none=>
   simp only[eI]at h;obtain⟨p,hp,h⟩:=Qa.1 h;obtain⟨l,hl,h⟩:=Qa.1 h;obtain⟨hb,hle,hpc⟩:=BZ (P:=P) sw qZ hmost YK hp hl true w;refine⟨_,run _ len c l p c hb,?_⟩;cases cap with
   |some k=>
    obtain⟨rfl,xY⟩:=hc;simp only[sliceFrom,Option.some.injEq]at h;subst h;cases l4:Nat.beq c l with
    |true=>
     have:c=l:=Qb l4;subst this;have h0:Nat.beq c 0=false:=by cases c with|zero=>omega|succ n=>rfl
     have XV:p-c=0:=by omega
     simp only[cond_true,h0,cond_false,if_true,XV,Nat.sub_self];exact .Ca _ (.some (hS.WS _ hd))
    |false=>
     have YM:c≠l:=fun e=>by subst e;simp at l4
     simp only[cond_false,YM,if_false,Option.map_some,Bm,Nat.add_assoc];exact .slice hd ⟨U,by omega⟩ (by omega)
   |none=>
    obtain⟨rb,oU⟩:=hc;have sy:(C.pl b).base+(off+l*Zc)+(c-l)*Zc=(C.pl b).size:=by
     rw[Nat.sub_mul];have:=Nat.mul_le_mul_right Zc (Nat.le_trans hle hpc);omega
    simp only[sliceFrom]at h;cases hlm:Nat.blt l aE with
    |true=>
     rw[hlm]at h;cases h;have:l<aE:=by simpa[Nat.blt_eq]using hlm
     have YM:c≠l:=by omega
     simp only[YM,if_false,Option.map_some,Bm,Nat.add_assoc];exact .slice hd ⟨by rw[<-Nat.add_assoc]at sy|-;exact sy,oU⟩ (by omega)
    |false=>
     rw[hlm]at h;cases xZ:Nat.beq (p-l) 0 with
     |false=>rw[xZ]at h;cases h
     |true=>
      rw[xZ]at h;cases h;have XV:p-l=0:=Qb xZ;rw[XV];by_cases YM:c=l
      .subst YM;simp only[if_true,Nat.sub_self];exact .X1 (hS.WS _ hd) hd (.inl U)
      .simp only[YM,if_false,Option.map_some,Bm,Nat.add_assoc];exact .X1 (hS.WS _ hd) hd (.inr ⟨U,sy,oU⟩)
  |some mm=>simp[eI]at h
 |X1 sx hd hc=>
  rename_i b off Zc a c
  simp only[Xm]at h;cases fN:Nat.beq Zc sz with
  |false=>rw[fN]at h;cases h
  |true=>
  rw[fN]at h;have:Zc=sz:=Qb fN;subst this;obtain⟨cs,Wt,h⟩:=Qa.1 h;simp only[bH]at h;cases hmx with
  |none=>
   simp only[eI]at h;obtain⟨p,hp,h⟩:=Qa.1 h;obtain⟨l,hl,h⟩:=Qa.1 h;have xZ:p=0:=by
    cases qZ with
    |none=>cases hp;rfl
    |some hv=>have:=(Dr (P:=P) hv hp (Qj _) .index w).2;omega
   subst xZ;obtain⟨hb,hle,_⟩:=BZ (P:=P) sw qZ (Qm c) (Qm c) hp hl true w;have eV:l=0:=by omega
   subst eV;cases h;refine⟨_,run _ 0 c 0 0 c hb,?_⟩;have:(if c=0 then some a else Option.map (fun x=>x.add (0*Zc)) (some a))=some a:=by
    split
    .rfl
    .simp[Addr.add]
   rw[this];exact .X1 sx hd hc
  |some mm=>simp[eI]at h
 |W1 a h0 YK=>
  rename_i Zc cl len c
  simp only[Xm]at h;cases fN:Nat.beq Zc sz with
  |false=>rw[fN]at h;cases h
  |true=>
  rw[fN]at h;have:Zc=sz:=Qb fN;subst this;have u9:∀ {k n:Nat} {q:List AV},cut [] k n=some q->q=[]/\n=0:=by
   intro k n q hq;obtain⟨pre,post,h1,h2,h3⟩:=FJ hq;have:=congrArg List.length h1;simp at this;have hq0:q=[]:=List.eq_nil_of_length_eq_zero (by omega);exact⟨hq0,by rw[<-h3,hq0];rfl⟩
  cases hmx with
  |none=>
   simp only[cond_true,cf,jE]at h;obtain⟨p,hp,h⟩:=Qa.1 h;obtain⟨l,hl,h⟩:=Qa.1 h;obtain⟨q,hq,h⟩:=Qa.1 h;cases h;obtain⟨hb,hle,hpc⟩:=BZ (P:=P) sw qZ YK YK hp hl true w;obtain⟨rfl,hn⟩:=u9 hq;exact⟨_,run _ len c l p c hb,.W1 _ hn (by omega)⟩
  |some mm=>simp[cf]at h
 |Cf eV uA ha hv0 X7 Wt YK=>
  rename_i Ci off len Zc c cl cs ms vs
  simp only[Xm]at h;cases fN:Nat.beq Zc sz with
  |false=>rw[fN]at h;cases h
  |true=>
  rw[fN]at h;have:Zc=sz:=Qb fN;subst this;have made:∀ {l p m:Nat} {q:List AV},cut cs (l*Zc) ((p-l)*Zc)=some q->l<=p->p<=m->
   VR C (.Cf q (p-l) Zc cl) (.slice (if m=l then some (⟨Ci,off,none⟩:Addr)else Option.map (fun x:Addr=>x.add (l*Zc)) (some (⟨Ci,off,none⟩:Addr))) (p-l) (m-l)):=by
   intro l p m q hq h1 h2;obtain⟨y,hy,hyd,yb,hcq,_,j4⟩:=hv0.cut hq;by_cases h0:(p-l)*Zc=0
   .have:q=[]:=List.eq_nil_of_length_eq_zero (by omega);subst this;exact .W1 _ h0 (by omega)
   .have YM:m≠l:=by
     intro e;have:p-l=0:=by omega
     rw[this]at h0;simp at h0
    simp only[YM,if_false,Option.map_some,Bm];refine .Cf yb uA (vs:=y) ?_ hy ?_ (hcq Wt) (by omega)
    .obtain⟨p1,q1,e1,e2⟩:=ha;obtain⟨p2,q2,e3,e4⟩:=j4;exact⟨p1++p2,q2++q1,by rw[e1,e3];simp,by simp[e2,e4]⟩
    .intro hct;obtain⟨y',tn,hyd',_⟩:=(X7 hct).cut hq;rw[hyd,<-hyd'];exact tn
  cases hmx with
  |none=>
   simp only[cond_true,cf,jE]at h;obtain⟨p,hp,h⟩:=Qa.1 h;obtain⟨l,hl,h⟩:=Qa.1 h;obtain⟨q,hq,h⟩:=Qa.1 h;cases h;obtain⟨hb,hle,hpc⟩:=BZ (P:=P) sw qZ YK YK hp hl true w;exact⟨_,run _ len c l p c hb,made hq hle hpc⟩
  |some mm=>simp[cf]at h
 |_=>simp[Xm]at h
end
section
variable {E : Env} {P : Program}
theorem Ob {s:ByteArray} {l h:Nat} {q:List UInt8} (hq:cut s.data.toList l (h-l)=some q) (hlh:l<=h):(s.extract l h).data.toList=q:=by
 obtain⟨pre,post,h1,h2,h3⟩:=FJ hq;have hs:s.data.toList.length=s.data.size:=by simp
 have hle:h<=s.data.size:=by
  have:=congrArg List.length h1;simp only[Ql]at this;omega
 have:(s.extract l h).data=s.data.extract l h:=by simp[ByteArray.data_extract]
 rw[this];rw[Array.toList_extract,h1,List.extract_eq_take_drop,<-h3,<-h2];simp
variable (he : CV E P)
include he
theorem ok_slice {o:Oper} {t:TypeId} {x:Operand} {lo hi mx:Option Operand} (ho:o.op= .slice t x lo hi mx):Yq E P o (fF E t x lo hi mx):=by
 have hex:∀ρ,execOp ρ o=(do pure (.value (<-Instr.sliceAt t (ρ x) (lo.map ρ) (hi.map ρ) (mx.map ρ)))):=fun ρ=>by simp[execOp,ho]
 unfold fF;split
 .next hu=>
  split
  .intro C T a S w hg hT hS v h;obtain⟨u,jN,h⟩:=Qa.1 h;obtain⟨l,hl,h⟩:=Qa.1 h;obtain⟨hh,hhh,h⟩:=Qa.1 h;have hv:=Ak hg hT jN;rw[hex];generalize a.eval x=xv at hv;cases hv with
   | @str _ q s hs=>
    simp only[bW]at h;obtain⟨h1,s8,h⟩:=Qa.1 h;obtain⟨l1,yU,h⟩:=Qa.1 h;obtain⟨r,hr,h⟩:=Qa.1 h;cases h;rw[<-hs]at s8 hr;have hlen:WL s.data.toList=s.size:=by simp
    rw[hlen]at s8;obtain⟨hb,hle,_⟩:=BZ (P:=P) (GC hg hT hl) (GC hg hT hhh) (Qj s.size) (Qj s.size) s8 yU false w;refine⟨.string (s.extract l1 h1),?_,.str (Ob hr hle)⟩;simp[Instr.sliceAt,Instr.slice,Ad he hu,hb]
   |_=>simp[bW]at h
  .exact Ap
 .next e hu=>
  split
  .next sz Xn=>
   intro C T a S w hg hT hS v h;obtain⟨u,jN,h⟩:=Qa.1 h;obtain⟨l,hl,h⟩:=Qa.1 h;obtain⟨hh,hhh,h⟩:=Qa.1 h;obtain⟨m,hm,h⟩:=Qa.1 h;obtain⟨z,hz,jO⟩:=u7 (P:=P) he hu Xn hS (Ak hg hT jN) (GC hg hT hl) (GC hg hT hhh) (GC hg hT hm) h;exact⟨z,by rw[hex];simp[hz],jO⟩
  .exact Ap
 .exact Ap
omit he in
theorem W9.length {C:Cx} {b:Nat} {l:List Xk} {es:List MapEntry} (h:W9 C b l es):es.length=l.length:=by
 induction h with
 |nil=>rfl
 |cons _ _ _ _ _ ih=>simp[ih]
omit he in
theorem AG {w:World} {r:Nat} {x:Obj} (h:w.heap[r]?=some x) (hc:∀c e f,x≠ .cells c e f):(getObj r).run P w= .ok x w:=by
 simp only[getObj,Sem.run,h]
omit he in
structure ic (C:Cx) (b:Nat) (es:List Xk) (clock:Nat) (w:World) (arr:Array MapEntry) (l:List MapEntry):Prop where
 d:C.D b
 at_:w.heap[(C.pl b).Ci]?=some (.map arr clock)
 perm:l.Perm arr.toList
 cT:W9 C b es l
 keys:yz es
 nodup:(l.map (·.born)).Nodup
 yc:∀n,C.G b n->C.gh b n<clock
 stamps:∀n,C.G b n->n<clock
 inj:∀n m,C.G b n->C.G b m->C.gh b n=C.gh b m->n=m
omit he in
theorem W2.map {C:Cx} {S:St} {w:World} (h:W2 C S w) {b:Nat} {es:List Xk} {clock:Nat} (hb:S.heap.get b=some (.map es clock)):∃arr l,ic C b es clock w arr l:=by
 obtain⟨hd,x,hx,hr⟩:=h.live b _ hb;cases hr with
 |map hp h hk hn hc hg hi=>exact⟨_,_,hd,hx,hp,h,hk,hn,hc,hg,hi⟩
omit he in
theorem W9.nK {C:Cx} {b:Nat} {l:List Xk} {es:List MapEntry} (h:W9 C b l es) {n:Nat} (hh:∀k,C.G b k->C.gh b k<n):∀e∈es,e.born<n:=by
 induction h with
 |nil=>simp
 |cons hk hv hg hn _ ih=>
  intro e he;rcases Qk.1 he with rfl|he
  .rw[hn];exact hh _ hg
  .exact ih e he
theorem ok_len {o:Oper} {c:Call} {t:TypeId} {x:Operand} (ho:o.op= .call c) (hc:c.callee= .builtin .len) (fO:c.argTypes.toList.head?=some t) (eX:c.args.toList=[x]):
 Yq E P o (mS E t x):=by
 have XY:c.args= #[x]:=Array.ext' (by simpa using eX);have s9:c.argTypes[0]?=some t:=by rw[<-fO,List.head?_eq_getElem?];simp
 have hex:∀ρ,execOp ρ o=(do pure (.value (<-Builtin.len_ c.argTypes o.type #[ρ x]))):=by
  intro ρ;simp[execOp,ho,resolve,hc,XY,invoke,builtin]
 unfold mS;split
 .next hu=>
  refine Ba (G:=fun v=>Builtin.len_ c.argTypes o.type #[v]) hex ?_;intro C w v y r hv hr;cases hv with
  | @str _ q s hs=>
   cases hr;refine⟨goInt s.size,by simp[Builtin.len_,s9,Ad he hu],?_⟩;rw[<-hs];have:((WL s.data.toList:Nat):Int)=(s.size:Int):=by simp
   rw[this];exact .int _ _
  |_=>simp[mR]at hr
 .next e hu=>
  refine Ba (G:=fun v=>Builtin.len_ c.argTypes o.type #[v]) hex ?_;intro C w v y r hv hr;cases hv<;>simp only[dq]at hr<;>first|(cases hr;done)|skip
  all_goals
   cases hr;exact⟨_,by simp[Builtin.len_,s9,Ad he hu];rfl,.int _ _⟩
 .next n e hu=>
  refine Ba (G:=fun v=>Builtin.len_ c.argTypes o.type #[v]) (f:=fun _=>some (.int .i64 n)) hex ?_;intro C w v y r hv hr;cases hr;exact⟨_,by simp[Builtin.len_,s9,Ad he hu];rfl,.int _ _⟩
 .next k e hu=>
  refine Ft (G:=fun v=>Builtin.len_ c.argTypes o.type #[v]) hex ?_;intro C S w v y r hS hv hr;simp only[aF]at hr;obtain⟨es,yV,hr⟩:=Qa.1 hr;cases hr;cases hv with
  |WI=>cases yV;exact⟨_,by simp[Builtin.len_,s9,Ad he hu];rfl,.int _ _⟩
  |map hd=>
   simp only[dS]at yV;obtain⟨cl,hm⟩:=Jb yV;obtain⟨arr,l,hmr⟩:=hS.map hm;have hx:=hmr.at_;have hp:=hmr.perm;have hents:=hmr.cT;refine⟨goInt arr.size,by simp[Builtin.len_,s9,Ad he hu,AG hx (by intros;simp)],?_⟩;have:((WL es:Nat):Int)=(arr.size:Int):=by
    have h1:=hents.length;have h2:=hp.length_eq;simp only[Array.length_toList]at h2;simp only[Bl];omega
   rw[this];exact .int _ _
  |_=>simp[dS]at yV
 .next a hu=>
  split
  .next n e u5=>
   refine Ba (G:=fun v=>Builtin.len_ c.argTypes o.type #[v]) (f:=fun _=>some (.int .i64 n)) hex ?_;intro C w v y r hv hr;cases hr;exact⟨_,by simp[Builtin.len_,s9,Ad he hu,Ad he u5];rfl,.int _ _⟩
  .exact Ap
 .exact Ap
theorem ok_cap {o:Oper} {c:Call} {t:TypeId} {x:Operand} (ho:o.op= .call c) (hc:c.callee= .builtin .cap) (fO:c.argTypes.toList.head?=some t) (eX:c.args.toList=[x]):
 Yq E P o (tN E t x):=by
 have XY:c.args= #[x]:=Array.ext' (by simpa using eX);have s9:c.argTypes[0]?=some t:=by rw[<-fO,List.head?_eq_getElem?];simp
 have hex:∀ρ,execOp ρ o=(do pure (.value (<-Builtin.cap_ c.argTypes o.type #[ρ x]))):=by
  intro ρ;simp[execOp,ho,resolve,hc,XY,invoke,builtin]
 unfold tN;split
 .next e hu=>
  refine Ba (G:=fun v=>Builtin.cap_ c.argTypes o.type #[v]) hex ?_;intro C w v y r hv hr;cases hv with
  |Ca a hxx=>cases hr;exact⟨_,by simp[Builtin.cap_,s9,Ad he hu];rfl,.int _ _⟩
  | @slice _ b off len sz cap k hd ZK YK=>
   cases cap with
   |none=>simp[su]at hr
   |some n=>
    obtain⟨rfl,h0⟩:=ZK;cases k with
    |zero=>omega
    |succ k=>cases hr;exact⟨_,by simp[Builtin.cap_,s9,Ad he hu];rfl,.int _ _⟩
  |X1 hxx hd ZK=>simp[su]at hr
  |_=>simp[su]at hr
 .exact Ap
end
section
variable {E : Env} {P : Program} (he : CV E P)
theorem DE {C:Cx}:∀(l:List UInt8),Wc C (byteCells l) (l.map fun b=> .int .u8 b.toNat)/\Cells (byteCells l)/\(byteCells l).length=l.length
 | []=>⟨.nil,(fun _ h=>by cases h),rfl⟩
 |c::l=>by
  obtain⟨h1,h2,h3⟩:=DE (C:=C) l;refine⟨.cons (.int _ _) h1,fun v hv=>?_,by simp[byteCells,h3]⟩;rcases Qk.1 hv with rfl|hv
  .rfl
  .exact h2 v hv
theorem D3 {C:Cx}:∀ {cs:List AV} {vs:List Value} {r:List UInt8},Wc C cs vs->Xg cs=some r->
 ∃ns:List Int,vs=ns.map (.int .u8)/\r=ns.map fun n=>UInt8.ofNat n.toNat
 | [],vs,r,h,e=>by cases h;cases e;exact⟨[],rfl,rfl⟩
 |v::cs,vs,r,h,e=>by
  cases h with
  |cons hv ht=>
  cases hv with
  |int k n=>
   cases k<;>simp only[Xg]at e<;>try (cases e;done)
   obtain⟨q,hq,e1⟩:=Qa.1 e;cases e1;obtain⟨ns,h1,h2⟩:=D3 ht hq;exact⟨n::ns,by simp[h1],by simp[h2]⟩
  |_=>simp[Xg]at e
include he
theorem KW {e:TypeId} (h:isByte E e=true):CN E e=some (.int .u8):=by
 unfold isByte at h;split at h
 .next hu=>exact hu
 .cases h
omit he in
theorem Mx {w:World} (a:Addr):lz w a []:=fun j v h=>by simp at h
omit he in
theorem Eu {C:Cx} {S:St} {w:World} (hS:W2 C S w) {v:AV} {x:Value} (hv:VR C v x) {sz:Nat} {p:List AV×Nat} (e:Xl S sz v=some p):
 ∃a c vs,x= .slice a p.2 c/\Wc C p.1 vs/\Cells p.1/\vs.length=p.2*sz/\(∀ad,a=some ad->lz w ad vs)/\(a=none->vs=[]):=by
 cases hv with
 |Ca a hxx=>cases e;exact⟨a,0,[],rfl,.nil,(fun _ h=>by cases h),by simp,fun ad _=>Mx ad,fun _=>rfl⟩
 |W1 a h0 YK=>
  rename_i Zc cl len c
  simp only[Xl]at e;cases hs:Nat.beq Zc sz with
  |false=>rw[hs]at e;cases e
  |true=>
   rw[hs]at e;obtain⟨l,hl,e1⟩:=Qa.1 e;cases e1;have:Zc=sz:=Qb hs;subst this;rw[h0]at hl;cases hl;exact⟨a,c,[],rfl,.nil,(fun _ h=>by cases h),by simp[h0],fun ad _=>Mx ad,fun _=>rfl⟩
 |Cf hl hm ha WQ X7 Wt YK=>
  rename_i Ci off len Zc c cl cs ms vs
  simp only[Xl]at e;cases hs:Nat.beq Zc sz with
  |false=>rw[hs]at e;cases e
  |true=>
   rw[hs]at e;obtain⟨l,mi,e1⟩:=Qa.1 e;cases e1;have:Zc=sz:=Qb hs;subst this;obtain⟨post,rfl,pO⟩:=BK mi;obtain⟨y,z,rfl,h1,h2⟩:=AF WQ;obtain⟨cc,ty,fr,hx,rfl⟩:=hS.kG _ _ hm;exact⟨_,c,y,rfl,h1,Wt.sub.1,h1.length.trans pO,(fun ad o5=>by cases o5;exact Jo hx ha.left),(fun h=>by cases h)⟩
 |slice hd hc YK=>
  rename_i b off len Zc cap c
  simp only[Xl]at e;cases hs:Nat.beq Zc sz with
  |false=>rw[hs]at e;cases e
  |true=>
   rw[hs]at e;obtain⟨cs,Wt,e1⟩:=Qa.1 e;obtain⟨q,hq,e2⟩:=Qa.1 e1;obtain⟨l,mi,e3⟩:=Qa.1 e2;cases e3;have:Zc=sz:=Qb hs;subst this;obtain⟨pre,rfl,hp⟩:=B8 hq;obtain⟨post,rfl,pO⟩:=BK mi;obtain⟨_,cc,ty,fr,vs,hx,WQ,ha,Xn,hcc,_⟩:=hS.cells Wt;obtain⟨y,z,rfl,h1,h2⟩:=AF WQ;obtain⟨z1,z2,rfl,h3,h4⟩:=AF h2;refine⟨_,c,z1,rfl,h3,(hcc.sub.2).sub.1,h3.length.trans pO,(fun ad o5=>?_),(fun h=>by cases h)⟩;cases o5;refine Jo hx ?_;have:=ha.sub (a:=y) (b:=z1) (c:=z2) (by simp);rw[h1.length,hp]at this;exact this
 |X1 hxx hd hc=>
  rename_i b off Zc a c
  simp only[Xl]at e;cases hs:Nat.beq Zc sz with
  |false=>rw[hs]at e;cases e
  |true=>
   rw[hs]at e;obtain⟨cs,Wt,e1⟩:=Qa.1 e;obtain⟨q,hq,e2⟩:=Qa.1 e1;obtain⟨l,mi,e3⟩:=Qa.1 e2;cases e3;rw[Nat.zero_mul]at mi;cases mi;exact⟨_,c,[],rfl,.nil,(fun _ h=>by cases h),by simp,fun ad _=>Mx ad,fun _=>rfl⟩
 |_=>simp[Xl]at e
omit he in
theorem Sy (ns:List Int) (s:ByteArray):(ns.foldl (fun r n=>r.push (UInt8.ofNat n.toNat)) s).data.toList=s.data.toList++ns.map fun n=>UInt8.ofNat n.toNat:=by
 induction ns generalizing s with
 |nil=>simp
 |cons n ns ih=>rw[List.foldl_cons,ih];simp
theorem PF {src dst e:TypeId} (h1:CN E src=some (.slice e)) (h2:CN E dst=some .string) (h3:isByte E e=true) {C:Cx} {S:St} {w:World} (hS:W2 C S w) {v r:AV} {x:Value}
 (hv:VR C v x) (h:dR S v=some r):∃z,(convert src dst x).run P w= .ok z w/\VR C r z:=by
 simp only[dR]at h;obtain⟨p,hp,h⟩:=Qa.1 h;obtain⟨q,hq,h⟩:=Qa.1 h;cases h;obtain⟨a,c,vs,rfl,WQ,_,hlen,jo,oV⟩:=Eu hS hv hp;obtain⟨ns,hns,rfl⟩:=D3 WQ hq;rw[run_convert_bytes_string w src dst e a p.2 c (BU he h1) (BU he (KW he h3)) (BU he h2)];cases a with
 |none=>
  have h0:=oV rfl;rw[hns]at h0;have:ns=[]:=by simpa using h0
  subst this;exact⟨.string .empty,U,.str U⟩
 |some ad=>
  have hl:=G8 (P:=P) (jo ad rfl) p.2 (by simpa using hlen);rw[hns]at hl;exact⟨_,run_bytesToString w ad p.2 c ns hl,.str (by rw[Sy];rfl)⟩
theorem Pc {src dst e:TypeId} (h1:CN E src=some .string) (h2:CN E dst=some (.slice e)) (h3:isByte E e=true) {C:Cx} {S:St} {w:World} (hS:W2 C S w) {v:AV} {x:Value}
 (hv:VR C v x) {ob:Cw} {g:Nat->AV} (h:bS e v=some (.obj ob g)):
 ∃C' z w',(convert src dst x).run P w= .ok z w'/\Cu C S w C' (S.alloc ob) w'/\VR C' (g S.next) z:=by
 cases hv with
 | @str _ l s hs=>
  cases h;obtain⟨b1,b2,b3⟩:=DE (C:=C) l;let q:=Question.appendCap s.size 0 e
  let cap:=q.cut (w.tape w.drawn q)
  have ZK:s.size<=cap:=Nat.le_add_right _ _;let arr:Array Value:=(s.data.map fun b=> .int .u8 b.toNat)++Array.replicate (cap-s.size) (.int .u8 0)
  have hlen:l.length=s.size:=by rw[<-hs];simp
  have hrow:bytesRow s cap=arr:=rfl;have qw:arr.size=cap:=by
   simp only[arr,Array.size_append,Array.size_map,Array.size_replicate];have:s.data.size=s.size:=rfl;omega
  have hlist:arr.toList=(l.map fun b=>Value.int .u8 b.toNat)++(List.replicate (cap-s.size) (.int .u8 0)):=by
   simp[arr,<-hs]
  have yW:=Cu.drew hS (w.drawn+1);have uB:=Cu.alloc (yW.st) (.cells (byteCells l) e true) (.cells arr e (cap,cap+1)) cap (by
   refine .cells (b1.mono (Fg yW.st _)) ?_ ?_ b2 (.inl (by rw[qw];exact Qj _)) (fun h=>by cases h)
   .rw[AQ,hlist];exact⟨[],List.replicate (cap-s.size) (.int .u8 0),by simp,rfl⟩
   .rw[AQ];exact qw)
  refine⟨_,.slice (some ⟨w.heap.size,0,none⟩) s.size cap,_,?_,yW.trans uB,?_⟩
  .rw[run_bytes_of_string w src dst e s (BU he h1) (BU he h2) (BU he (KW he h3))];show Result.ok (Value.slice _ s.size cap) (w.drew.alloc (.cells (bytesRow s cap) e ((bytesRow s cap).size,(bytesRow s cap).size+1)))=_;rw[hrow,qw];rfl
  .have:=Dx (C:=C) (S:=S) (w:= {w with drawn:=w.drawn+1}) (n:=cap) (len:=s.size) (sz:=1) (cap:=none) (c:=cap) ⟨by simp,Nat.one_pos⟩ ZK;show VR _ (.slice S.next 0 (WL l) 1 none) _;rw[Bl,hlen];exact this
 |_=>simp[bS]at h
omit he in
theorem Ef {o:Oper} {src dst:TypeId} {x:Operand} (ho:o.op= .convert src dst x):∀ρ,execOp ρ o=(do pure (.value (<-convert src dst (ρ x)))):=by
 intro ρ;simp[execOp,ho]
theorem RQ {o:Oper} {src dst:TypeId} {x:Operand} (ho:o.op= .convert src dst x) {j k:IntKind} (h1:CN E src=some (.int j)) (h2:CN E dst=some (.int k)):
 Yq E P o (.pure fun T=>(Cg E x T).bind (kh k)):=by
 refine Ba (Ef ho) ?_;intro C w v y r hv hr;cases hv with
 |int q n=>cases hr;exact⟨_,by simp[convert,Ad he h1,Ad he h2,Conv.intToInt],.int _ _⟩
 |_=>simp[kh]at hr
theorem RO {o:Oper} {src dst:TypeId} {x:Operand} (ho:o.op= .convert src dst x) (h1:CN E src=some .string) (h2:CN E dst=some .string):
 Yq E P o (.pure fun T=>(Cg E x T).bind qb):=by
 refine Ba (Ef ho) ?_;intro C w v y r hv hr;cases hv with
 |str hs=>cases hr;exact⟨_,by simp[convert,Ad he h1,Ad he h2],.str hs⟩
 |_=>simp[qb]at hr
theorem Pb {src dst t:TypeId} {n:Nat} (h1:CN E src=some (.pointer t)) (h2:CN E dst=some .unsafePointer) (hs:Am.sizeOf E t=some (n+1)) {C:Cx} {S:St} {w:World} (hS:W2 C S w)
 {v r:AV} {x:Value} (hv:VR C v x) (h:bU S v=some r):∃z,(convert src dst x).run P w= .ok z w/\VR C r z:=by
 cases hv with
 |CU=>
  cases h;exact⟨_,by simp[convert,Ad he h1,Ad he h2,Conv.unsafePointer],.CU⟩
 | @ptr _ b off hd=>
  simp only[bU]at h;obtain⟨cs,Wt,h⟩:=Qa.1 h;cases hb:Nat.blt off (WL cs)with
  |false=>rw[hb]at h;cases h
  |true=>
   rw[hb]at h;cases h;have Co:off<cs.length:=by simpa[Nat.blt_eq]using hb
   obtain⟨_,c,ty,fr,vs,hx,WQ,ha,Xn,_,_⟩:=hS.cells Wt;have hle:=ha.le;have e1:=WQ.length;simp only[Array.length_toList]at hle;have yX:¬(c.size<=(C.pl b).base+off):=by omega
   have hsh:w.shape? (C.pl b).Ci=some (ty,c.size):=by simp[World.shape?,hx]
   refine⟨_,?_,.ptr hd⟩;simp[convert,Ad he h1,Ad he h2,Conv.unsafePointer,Conv.seenAt,viewAt,cellsIn,hsh,A6 he hs,yX]
 |_=>simp[bU]at h
omit he in
theorem GY {u off:Nat}:∀ {fs:List Field},eH u off fs=true->∃f∈fs,f.offset=off/\f.type=u
 | [],h=>by cases h
 |f::l,h=>by
  simp only[eH,Bool.or_eq_true,Qf]at h;rcases h with⟨h1,h2⟩|h
  .exact⟨f,Qh ..,Qb h1,Qb h2⟩
  .obtain⟨g,hg,h⟩:=GY h;exact⟨g,Qg _ hg,h⟩
theorem HH {t:TypeId} {n:Nat} (h:Am.sizeOf E t=some n):P.cellsOf t=n:=by
 unfold Am.sizeOf at h;cases hi:E.tys.get t with
 |none=>rw[hi]at h;cases h
 |some i=>rw[hi]at h;simp[Program.cellsOf,he.ty t i hi,Option.some.inj h]
theorem yY {e u off n m k:Nat} (hn:Am.sizeOf E e=some n) (hm:Am.sizeOf E u=some (m+1)) (h:mP E e u off=true) (hk:n<=k) (ho:off<n):
 liesAt P P.depth e (k/P.cellsOf e) off u 1=true:=by
 have uy:∃q,P.depth=q+2:=⟨_,rfl⟩
 obtain⟨q,hq⟩:=uy;have hc:=HH (P:=P) he hn;have hcu:=HH (P:=P) he hm;have rh:∀t d,sameLayout P (d+1) t t=true:=fun t d=>by simp[sameLayout]
 have hcount:0<k/n:=Nat.div_pos hk (by omega);rw[hc];rw[hq,liesAt];refine Bool.or_eq_true_iff.2 (.inl ?_);rw[hq,rowAt,hc];have nL:n≠0:=by omega
 have hmod:off % n=off:=Nat.mod_eq_of_lt ho;have hdiv:off/n=0:=Nat.div_eq_of_lt ho;simp only[nL,if_false,hmod,hdiv];unfold mP at h;rcases Bool.or_eq_true_iff.1 h with h|h
 .simp only[Qf]at h;have e1:e=u:=Qb h.1;have e2:off=0:=Qb h.2;subst e1;subst e2;simp[rh];left;omega
 .rw[Qf]at h;obtain⟨hnest,h⟩:=h;split at h
  .next fs hu=>
   obtain⟨f,hf,h1,h2⟩:=GY h;refine Bool.or_eq_true_iff.2 (.inr ?_);simp only[BU he hu,he.flat e hnest];simp only[Qf,decide_eq_true_eq,Bool.not_false,true_and];refine⟨hcount,?_⟩;rw[<-Array.any_toList,List.any_eq_true];refine⟨f,hf,?_⟩;subst h1;subst h2;simp[rowAt,hcu,rh]
  .cases h
theorem My {src dst u:TypeId} {m:Nat} (h1:CN E src=some .unsafePointer) (h2:CN E dst=some (.pointer u)) (hs:Am.sizeOf E u=some (m+1)) {C:Cx} {S:St} {w:World} (hS:W2 C S w)
 {v r:AV} {x:Value} (hv:VR C v x) (h:Z2 E S u v=some r):∃z,(convert src dst x).run P w= .ok z w/\VR C r z:=by
 cases hv with
 |CU=>
  cases h;exact⟨_,by simp[convert,Ad he h1,Ad he h2,Conv.unsafePointer],.CU⟩
 | @ptr _ b off hd=>
  simp only[Z2]at h;unfold cL at h;split at h
  .next cs e tq=>
   obtain⟨n,hn,h⟩:=Qa.1 h;cases hb:(mP E e u off&&Nat.ble n (WL cs)&&Nat.blt off n)with
   |false=>rw[hb]at h;cases h
   |true=>
    rw[hb]at h;cases h;simp only[Qf]at hb;obtain⟨⟨b1,b2⟩,b3⟩:=hb;obtain⟨_,xo,hx,hr⟩:=hS.live b _ tq;cases hr with
    |cells WQ ha Xn Wt hf hp=>
    rename_i c fr vs
    obtain⟨p1,p2,p3⟩:=hp rfl;have uC:=yY (P:=P) (k:=c.size) he hn hs b1 (by have:=Qc b2;simp only[Bl]at this;omega) (by simpa[Nat.blt_eq]using b3);have hsh:w.shape? (C.pl b).Ci=some (e,c.size):=by simp[World.shape?,hx]
    refine⟨_,?_,.ptr hd⟩;rw[p1,Nat.zero_add];simp[convert,Ad he h1,Ad he h2,Conv.unsafePointer,Conv.seenAt,viewAt,variablesAt,hsh,A6 he hs,uC]
  .cases h
 |_=>simp[Z2]at h
theorem yZ {o:Oper} {src dst:TypeId} {x:Operand} (ho:o.op= .convert src dst x):Yq E P o (bV E src dst x):=by
 unfold bV;split
 .next j k h1 h2=>exact RQ he ho h1 h2
 .next t h1 h2=>
  split
  .next n hs=>exact Ft (Ef ho) fun C S w v y r hS hv hr=>Pb he h1 h2 hs hS hv hr
  .exact Ap
 .next u h1 h2=>
  split
  .next n hs=>exact Ft (Ef ho) fun C S w v y r hS hv hr=>My he h1 h2 hs hS hv hr
  .exact Ap
 .next h1 h2=>exact RO he ho h1 h2
 .next e h1 h2=>
  cases hb:isByte E e with
  |false=>exact Ap
  |true=>
   intro C T a S w hg hT hS;refine⟨fun v h=>?_,fun ob g h=>?_⟩
   .obtain⟨u,hu,h⟩:=Qa.1 h;unfold bS at h;split at h<;>cases h
   .obtain⟨u,hu,h⟩:=Qa.1 h;obtain⟨C',z,w',hz,ht,hr⟩:=Pc (P:=P) he h1 h2 hb hS (Ak hg hT hu) h;exact⟨C',z,w',by rw[Ef ho];simp[hz],ht,hr⟩
 .next e h1 h2=>
  cases hb:isByte E e with
  |false=>exact Ap
  |true=>exact Ft (Ef ho) fun C S w v y r hS hv hr=>PF he h1 h2 hb hS hv hr
 .exact Ap
end
theorem NU (iU:Nat):∀(r c:Nat),Builtin.growBy iU r c<=Nat.max c (2*iU+192)
 |0,c=>Nat.le_max_left _ _
 |r+1,c=>by
  unfold Builtin.growBy;split
  .exact Nat.le_max_left _ _
  .refine Nat.le_trans (NU iU r _) ?_;refine Nat.max_le.2 ⟨?_,Nat.le_max_right _ _⟩;exact Nat.le_trans (by omega) (Nat.le_max_right _ _)
theorem IW {iU cap:Nat} (h:cap<iU):Builtin.nextslicecap iU cap<=2*iU+512:=by
 unfold Builtin.nextslicecap;split
 .omega
 .split
  .omega
  .refine Nat.le_trans (NU iU 4 cap) (Nat.max_le.2 ⟨by omega,by omega⟩)
theorem T8 {iU cap b:Nat} (h:cap<iU) (hs:small iU b=true):¬(Builtin.nextslicecap iU cap*b>2^48):=by
 obtain⟨h1,h2,h3,h4⟩:=BW hs;have:=Nat.mul_le_mul_right b (IW h);rw[Nat.add_mul,Nat.mul_assoc]at this;omega
section
variable {E : Env} {P : Program}
theorem lz.heap {w w':World} (h:w'.heap=w.heap) {a:Addr} {vs:List Value} (hh:lz w a vs):lz w' a vs:=by
 intro j v hv;have:=hh j v hv;unfold World.cell? at this|-;rw[h];exact this
theorem GV {C:Cx} {S:St} {w:World} (hS:W2 C S w) {v:AV} {x:Value} (hv:VR C v x) {sz:Nat} {p:List AV×Nat} (e:Xl S sz v=some p):
 ∃xs,(Builtin.lenOf x).run P w= .ok p.2 w/\Wc C p.1 xs/\Cells p.1/\xs.length=p.2*sz/\∀w',w'.heap=w.heap->(Builtin.firstCells sz p.2 x).run P w'= .ok xs.toArray w':=by
 obtain⟨a,c,vs,rfl,WQ,Wt,hlen,jo,oV⟩:=Eu hS hv e;refine⟨vs,rfl,WQ,Wt,hlen,fun w' hw=>?_⟩;cases a with
 |none=>rw[oV rfl];rfl
 |some ad=>exact G8 ((jo ad rfl).heap hw) _ hlen
theorem OA {C:Cx} {S:St} {w:World} (hS:W2 C S w) {v:AV} {x:Value} (hv:VR C v x) {sz:Nat} {p:List AV×Nat} (e:WJ S sz v=some p):
 ∃xs,(Builtin.lenOf x).run P w= .ok p.2 w/\Wc C p.1 xs/\Cells p.1/\xs.length=p.2*sz/\∀w',w'.heap=w.heap->(Builtin.firstCells sz p.2 x).run P w'= .ok xs.toArray w':=by
 unfold WJ at e;split at e
 .next b=>
  cases hb:Nat.beq sz 1 with
  |false=>rw[hb]at e;cases e
  |true=>
   rw[hb]at e;cases e;have:sz=1:=Qb hb;subst this;cases hv with
   | @str _ l s hs=>
   obtain⟨b1,b2,b3⟩:=DE (C:=C) b;refine⟨_,?_,b1,b2,by simp,fun w' _=>?_⟩
   .simp[Builtin.lenOf,<-hs]
   .subst hs;simp[Builtin.firstCells];apply Array.ext';simp
 .exact GV hS hv e
variable (he : CV E P)
include he
def bw (P:Program) (a:Option Addr) (off:Nat) (xs:List Value) (w w':World):Prop:=match a with
 |some a=>(storeCells (a.add off) xs).run P w= .ok () w'
 |none=>w'=w
theorem JX {ts:Array TypeId} {ty t e:TypeId} {sz n len cap:Nat} {x:Value} {xs:List Value} {a:Option Addr} {w w':World} (ht:ts[0]?=some t) (hu:CN E t=some (.slice e))
 (Xn:Am.sizeOf E e=some sz) (hz:X5 E (ts.toList.tail.head?)=false) (hl:(Builtin.lenOf x).run P w= .ok n w) (hf:(Builtin.firstCells sz n x).run P w= .ok xs.toArray w)
 (YY:len+n<=cap) (hzs:∀u,ts[1]?=some u->∃d,CN E u=some d) (hw:bw P a (len*sz) xs w w'):
 (Builtin.append_ ts ty #[.slice a len cap,x]).run P w= .ok (.slice a (len+n) cap) w':=by
 have h1:ts[1]?=ts.toList.tail.head?:=by simp[List.head?_eq_getElem?]
 unfold bw at hw;cases h:ts[1]? with
 |none=>
  cases a with
  |none=>subst hw;simp[Builtin.append_,ht,h,Ad he hu,A6 he Xn,hl,YY,hf]
  |some a=>simp[Builtin.append_,ht,h,Ad he hu,A6 he Xn,hl,YY,hf,hw]
 |some u=>
  obtain⟨d,hd⟩:=hzs u h;rw[<-h1,h]at hz;simp only[X5,hd]at hz;have hm:Builtin.append_.match_1 (fun _=>Bool) d (fun _=>true) (fun _=>false)=false:=by cases d<;>first|rfl|(simp at hz)
  cases a with
  |none=>subst hw;simp[Builtin.append_,ht,h,Ad he hu,Ad he hd,hm,A6 he Xn,hl,YY,hf]
  |some a=>simp[Builtin.append_,ht,h,Ad he hu,Ad he hd,hm,A6 he Xn,hl,YY,hf,hw]
theorem II {ts:Array TypeId} {ty t e:TypeId} {sz VY n len cap:Nat} {x z:Value} {xs Zw:List Value} {a:Option Addr} {w:World} (ht:ts[0]?=some t) (hu:CN E t=some (.slice e))
 (Xn:Am.sizeOf E e=some sz) (ei:bytesOf E e=some VY) (hz:X5 E (ts.toList.tail.head?)=false) (hl:(Builtin.lenOf x).run P w= .ok n w)
 (hf:(Builtin.firstCells sz n x).run P w.drew= .ok xs.toArray w.drew) (ho:(Builtin.firstCells sz len (.slice a len cap)).run P w.drew= .ok Zw.toArray w.drew)
 (tr:∀w,(zeroValue e).run P w= .ok z w) (YY:cap<len+n) (hs:small (len+n) VY=true) (hzs:∀u,ts[1]?=some u->∃d,CN E u=some d):
 (Builtin.append_ ts ty #[.slice a len cap,x]).run P w= .ok (.slice (some ⟨w.heap.size,0,none⟩) (len+n) (grownCap w (len+n) cap e))
  (w.drew.alloc (.cells (Zw.toArray++(xs.toArray++Builtin.zeroCells z.cells (grownCap w (len+n) cap e-(len+n)))) e)):=by
 have h1:ts[1]?=ts.toList.tail.head?:=by simp[List.head?_eq_getElem?]
 obtain⟨i,hi,yH⟩:=Nt he ei w;have mn:=T8 YY hs;obtain⟨b1,b2,b3,b4⟩:=BW hs;have hn:¬(len+n<=cap):=by omega
 have au:i.bytes≠0:=by omega
 have nM:¬(281474976710656<Builtin.nextslicecap (len+n) cap*i.bytes):=by rw[yH];exact mn
 have hi':∀w',(typeInfo e).run P w'= .ok i w':=by
  intro w';unfold bytesOf at ei;cases hj:E.tys.get e with
  |none=>rw[hj]at ei;cases ei
  |some j=>
   have:=B6 he hj w;rw[hi]at this;cases this;exact B6 he hj w'
 cases h:ts[1]? with
 |none=>
  simp[Builtin.append_,ht,h,Ad he hu,A6 he Xn,hl,hn,hi',au,nM,Question.forced,hf,ho,tr,newRow,grownCap]
 |some u=>
  obtain⟨d,hd⟩:=hzs u h;rw[<-h1,h]at hz;simp only[X5,hd]at hz;have hm:Builtin.append_.match_1 (fun _=>Bool) d (fun _=>true) (fun _=>false)=false:=by cases d<;>first|rfl|(simp at hz)
  simp[Builtin.append_,ht,h,Ad he hu,Ad he hd,hm,A6 he Xn,hl,hn,hi',au,nM,Question.forced,hf,ho,tr,newRow,grownCap]
theorem PR {e:TypeId} {VY n:Nat} (ei:bytesOf E e=some VY) (hn:n<=1048576) (hb:n=0\/VY<=1048576):
 ∃i,(∀w',(typeInfo e).run P w'= .ok i w')/\i.bytes=VY/\IntKind.i64.wrap (n:Int)=n/\¬(281474976710656:Int)<(n:Int)*(i.bytes:Int):=by
 have hw:IntKind.i64.wrap (n:Int)=n:=EJ (by omega);unfold bytesOf at ei;cases hj:E.tys.get e with
 |none=>rw[hj]at ei;cases ei
 |some j=>
  rw[hj]at ei;have yH:j.bytes=VY:=Option.some.inj ei;refine⟨j,B6 he hj,yH,hw,?_⟩;rw[yH];rcases hb with rfl|hb
  .simp
  .have h1:n*VY<=1048576*1048576:=Nat.mul_le_mul hn hb;have h2:((n*VY:Nat):Int)<=((1048576*1048576:Nat):Int):=Int.ofNat_le.2 h1;rw[Int.natCast_mul]at h2;omega
theorem IJ {ts:Array TypeId} {ty t e:TypeId} {sz VY n len cap:Nat} {k:IntKind} {z:Value} {a:Option Addr} {w w':World} (ht:ts[0]?=some t) (hu:CN E t=some (.slice e))
 (Xn:Am.sizeOf E e=some sz) (ei:bytesOf E e=some VY) (hz:X5 E (ts.toList.tail.head?)=true) (hn:n<=1048576) (hb:n=0\/VY<=1048576) (tr:∀w,(zeroValue e).run P w= .ok z w)
 (YY:len+n<=cap) (l8:n≠0->sz≠0) (hw:bw P a (len*sz) (Builtin.zeroCells z.cells n).toList w w'):
 (Builtin.append_ ts ty #[.slice a len cap,.int k n]).run P w= .ok (.slice a (len+n) cap) w':=by
 have h1:ts[1]?=ts.toList.tail.head?:=by simp[List.head?_eq_getElem?]
 unfold bw at hw;cases h:ts[1]? with
 |none=>rw[<-h1,h]at hz;cases hz
 |some u=>
  rw[<-h1,h]at hz;simp only[X5]at hz;split at hz
  .next j hd=>
   obtain⟨i,hi,yH,o7,Co⟩:=PR he ei hn hb;have nG:¬((n:Int)<0):=by omega
   by_cases h0:n=0
   .subst h0;have hwr':IntKind.i64.wrap 0=0:=o7;have hfit':len<=cap:=YY;have hzc:Builtin.zeroCells z.cells 0= #[]:=by simp[Builtin.zeroCells]
    rw[hzc]at hw;cases a with
    |none=>subst hw;simp[Builtin.append_,ht,h,Ad he hu,Ad he hd,A6 he Xn,asInt,asIntOf,hwr',hi,hfit']
    |some a=>simp at hw;simp[Builtin.append_,ht,h,Ad he hu,Ad he hd,A6 he Xn,asInt,asIntOf,hwr',hi,hfit',hw]
   .have h00:¬(n*sz=0):=by have:=l8 h0;simp only[Nat.mul_eq_zero];omega
    cases a with
    |none=>subst hw;simp[Builtin.append_,ht,h,Ad he hu,Ad he hd,A6 he Xn,asInt,asIntOf,o7,hi,Co,nG,tr,YY]
    |some a=>simp only at hw;simp[Builtin.append_,ht,h,Ad he hu,Ad he hd,A6 he Xn,asInt,asIntOf,o7,hi,Co,nG,h00,tr,YY,hw]
  .cases hz
theorem Im {ts:Array TypeId} {ty t e:TypeId} {sz VY n len cap:Nat} {k:IntKind} {z:Value} {Zw:List Value} {a:Option Addr} {w:World} (ht:ts[0]?=some t) (hu:CN E t=some (.slice e))
 (Xn:Am.sizeOf E e=some sz) (ei:bytesOf E e=some VY) (hz:X5 E (ts.toList.tail.head?)=true) (hn:n<=1048576) (tr:∀w,(zeroValue e).run P w= .ok z w)
 (ho:(Builtin.firstCells sz len (.slice a len cap)).run P w.drew= .ok Zw.toArray w.drew)
 (YY:cap<len+n) (hs:small (len+n) VY=true) (l8:sz≠0) (nL:n≠0):
 (Builtin.append_ ts ty #[.slice a len cap,.int k n]).run P w= .ok (.slice (some ⟨w.heap.size,0,none⟩) (len+n) (grownCap w (len+n) cap e))
  (w.drew.alloc (.cells (Zw.toArray++(Builtin.zeroCells z.cells n++Builtin.zeroCells z.cells (grownCap w (len+n) cap e-(len+n)))) e)):=by
 have h1:ts[1]?=ts.toList.tail.head?:=by simp[List.head?_eq_getElem?]
 have mn:=T8 YY hs;obtain⟨b1,b2,b3,b4⟩:=BW hs;obtain⟨i,hi,yH,o7,Co⟩:=PR he ei hn (.inr b4);have nG:¬((n:Int)<0):=by omega
 have h00:¬(n*sz=0):=by simp only[Nat.mul_eq_zero];omega
 have hnf:¬(len+n<=cap):=by omega
 have au:i.bytes≠0:=by omega
 have hmx:¬(9223372036854775807<(len:Int)+(n:Int)):=by omega
 have nM:¬(281474976710656<Builtin.nextslicecap (len+n) cap*i.bytes):=by rw[yH];exact mn
 cases h:ts[1]? with
 |none=>rw[<-h1,h]at hz;cases hz
 |some u=>
  rw[<-h1,h]at hz;simp only[X5]at hz;split at hz
  .next j hd=>
   simp[Builtin.append_,ht,h,Ad he hu,Ad he hd,A6 he Xn,asInt,asIntOf,o7,hi,Co,nG,h00,tr,hnf,hmx,nM,Question.forced,ho,newRow,grownCap]
  .cases hz
end
end Am
