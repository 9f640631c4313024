/- Code: reading, as the document has it: a text; the law of readings. -/
import Derived.Test.YtpihdbhocgcbpaaGreatDoorCdE
set_option linter.unusedSectionVars false
set_option linter.unusedVariables false
set_option linter.unusedSimpArgs false
open Go Am
namespace Go.Proofs.YtpihdbhocgcbpaaGreatDoor.Rd
abbrev LineT:= {p:List UInt8×List (List UInt8)//p.2.length≤50000∧∀v∈p.1::p.2,v.length≤50000}
noncomputable def R17:=addC R16 103 (fun p:LineT=>[strsV (p.1.1::p.1.2)]) (fun p=>insW (insF (opS p.1.1) p.1.2))
theorem hit_103 {w:List UInt8} {ws:List (List UInt8)} (hl:ws.length≤50000) (hw:∀v∈w::ws,v.length≤50000):R17 103 [strsV (w::ws)]=some (insW (insF (opS w) ws)):=
 A2 (f:=103) (enc:=fun p:LineT=>[strsV (p.1.1::p.1.2)]) (res:=fun p=>insW (insF (opS p.1.1) p.1.2)) (by
  rintro⟨⟨a,b⟩,_⟩ ⟨⟨c,d⟩,_⟩ h
  have:=strsR_inj (List.cons.inj h).1
  cases this
  rfl) ⟨(w,ws),hl,hw⟩
inductive LinesR:Int→CodeT→List (List UInt8)→CodeT→Prop
 |nil {last:Int} {c:CodeT}:LinesR last c [] c
 |cons {last last':Int} {c c1 c2:CodeT} {t:List UInt8} {ts:List (List UInt8)}:LineR last c t c1 last'→LinesR last' c1 ts c2→LinesR last c (t::ts) c2
theorem LinesR.step {last last':Int} {c c1 c2:CodeT} {t:List UInt8} {ts:List (List UInt8)} (hl:LineR last c t c1 last'):LinesR last c (t::ts) c2↔LinesR last' c1 ts c2:=by
 refine⟨fun h=>?_,.cons hl⟩
 cases h with
 |cons hl2 h=>
  obtain⟨rfl,rfl⟩:=hl.eq hl2
  exact h
theorem all_lines:∀ {n:Nat} {t:List UInt8},t.length≤n→∀ {last:Int} {c c2:CodeT},AllR last c t c2↔∃ts,pcs 10 t=ts++[[]]∧LinesR last c ts c2:=by
 intro n
 induction n with
 |zero=>
  intro t ht last c c2
  obtain rfl:t=[]:=List.eq_nil_of_length_eq_zero (by omega)
  refine⟨fun h=>?_,fun⟨ts,h1,h2⟩=>?_⟩
  ·cases h with
   |nil=>exact⟨[],rfl,.nil⟩
   |cons hi _ _=>cases hi
  ·cases ts with
   |nil=>cases h2;exact .nil
   |cons a ts=>
    have:=congrArg List.length h1
    rw[Qm,List.length_cons]at this
    exact absurd this (by show¬1=_;simp)
 |succ n ih=>
  intro t ht last c c2
  cases hi:idxS 10 t with
  |none=>
   rw[Ey hi]
   refine⟨fun h=>?_,fun⟨ts,h1,h2⟩=>?_⟩
   ·cases h with
    |nil=>exact⟨[],rfl,.nil⟩
    |cons hi2 _ _=>rw[hi]at hi2;cases hi2
   ·cases ts with
    |nil=>cases h1;cases h2;exact .nil
    |cons a ts=>
     have:=congrArg List.length h1
     simp at this
  |some m=>
   have hm:=F8 hi
   rw[ER hi]
   have ih2:=fun {last:Int} {c c2:CodeT}=>ih (t:=t.drop (m+1)) (by rw[List.length_drop];omega) (last:=last) (c:=c) (c2:=c2)
   refine⟨fun h=>?_,fun⟨ts,h1,h2⟩=>?_⟩
   ·cases h with
    |nil=>cases hi
    |cons hi2 hl h=>
     rw[hi]at hi2
     cases hi2
     obtain⟨ts,h1,h2⟩:=ih2.1 h
     exact⟨_::ts,by rw[h1];rfl,.cons hl h2⟩
   ·cases ts with
    |nil=>
     have:=congrArg List.length h1
     have hne:=pcs_ne 10 (t.drop (m+1))
     rw[List.length_cons]at this
     exact absurd (List.eq_nil_of_length_eq_zero (by simpa using this)) hne
    |cons a ts=>
     rw[List.cons_append]at h1
     obtain⟨rfl,h3⟩:=List.cons.inj h1
     cases h2 with
     |cons hl h2=>exact .cons hi hl (ih2.2 ⟨ts,h3,h2⟩)
def ParsF (t:List UInt8) (v:AV):Prop:=(∃c,AllR 0 ⟨[],[],[],[]⟩ t c∧v= .tuple [.agg (encF c),.bool true])∨((¬∃c,AllR 0 ⟨[],[],[],[]⟩ t c)∧∃c,v= .tuple [.agg (encF c),.bool false])
theorem slice_init {s:St} {ts:List (List UInt8)} {z:List UInt8}:sliceSlV s 1 none (some (.int .i64 (ts.length:Nat))) none (strsV (ts++[z]))=some (strsV ts):=by
 have hb:boundsA (ts.length+1) (ts.length+1) (some (.int .i64 ((ts.length:Nat):Int)))=some ts.length:=AL (by omega)
 have hc:cut ((ts++[z]).map AV.str) (0*1) ((ts.length-0)*1)=some (ts.map .str):=by
  rw[cut_eq (by simp)]
  simp
 have hl:(ts++[z]).length=ts.length+1:=by rw[Qm];rfl
 unfold strsV
 rw[hl]
 show((boundsA (ts.length+1) (ts.length+1) (some (.int .i64 (ts.length:Nat)))).bind fun h=>(cut ((ts++[z]).map AV.str) (0*1) ((h-0)*1)).bind fun q=>some (AV.islice q (h-0) 1 true))=_
 rw[hb]
 show((cut ((ts++[z]).map AV.str) (0*1) ((ts.length-0)*1)).bind _)=_
 rw[hc];rfl
theorem chg_none {s s':St} {k:Nat} (h:Chg s s' (fun c=>k≤c)) (hl:s.log=[]) (hk:s.bound≤k:=by exact Qj _):s'.log=[]:=by
 cases hh:s'.log with
 |nil=>rfl
 |cons c r=>
  rcases h.log c (by rw[hh];exact Qh ..)with h2|⟨h2,h3⟩
  ·rw[hl]at h2;cases h2
  ·omega
theorem if_closed:∀l:List InsT,(l.flatMap encIF).all (closedV 40)=true
 | []=>rfl
 |x::l=>by
  rw[List.flatMap_cons,List.all_append,if_closed l,Bool.and_true]
  unfold encIF
  have e4:closedV 40 (if x.op=5 then recs encZ 1 x.args else lst encZ 1 x.args)=true:=by
   split
   ·rfl
   ·rcases A3 encZ 1 x.args with e|⟨_,_,e⟩<;>rw[e]<;>rfl
  rcases A3 encA 2 x.alts with e1|⟨_,_,e1⟩<;>rcases A3 encZ 1 x.to with e2|⟨_,_,e2⟩<;>rw[e1,e2]<;>simp only[List.all_cons,e4]<;>rfl
theorem frz_if {s:St} {m n:Nat} (l:List InsT) (ks:List Nat):frzV.many (frzV s m (n+1)) (l.flatMap encIF) ks=some (l.flatMap encIF,ks):=frz_all (fun v hv ks=>by
 obtain⟨x,_,hx⟩:=List.mem_flatMap.1 hv
 exact(fix_I x true v (by rw[if_pos rfl];exact hx)).1 s m n ks) ks
theorem DA {K:FuncId→List AV→Option AV} {s st:St} {c:CodeT} {b:Bool} {rb:Nat} {vc vf vi vs:AV} (h:ListsE encIF st rb c vc vf vi vs) (hrb:s.next≤rb) (hb:st.bound=s.next) (hl:st.log=[]):
 leave (EK K) 58 s (oneA [.agg [vc,vf,vi,vs],.bool b]) st=some (.same (.tuple [.agg (encF c),.bool b])):=by
 obtain⟨b1,m1,z1⟩:=D4 (j:=37) (m:=s.next) h.cons (fun b hb=>by have:=(h.dc b hb).1;omega) (frz_ns _) (ns_closed _)
 obtain⟨b2,m2,z2⟩:=D4 (j:=37) (m:=s.next) h.funs (fun b hb=>by have:=(h.df b hb).1;omega) (frz_ns _) (ns_closed _)
 obtain⟨b3,m3,z3⟩:=D4 (j:=37) (m:=s.next) h.ins (fun b hb=>by have:=(h.di b hb).1;omega) (frz_if _) (if_closed _)
 obtain⟨b4,m4,z4⟩:=D4 (j:=37) (m:=s.next) h.starts (fun b hb=>by have:=h.ds b hb;omega) (frz_zs _) (zs_closed _)
 refine leave_one U hl (ks:=b4++(b3++(b2++(b1++[])))) ?_ ?_ ?_
 ·have h1:frzV.many (frzV st s.next 38) [vc,vf,vi,vs] []=some (encF c,b4++(b3++(b2++(b1++[])))):=by
   simp only[frzV.many,z1,z2,z3,z4,Qe];rfl
  have h2:frzV st s.next 39 (.agg [vc,vf,vi,vs]) []=some (.agg (encF c),b4++(b3++(b2++(b1++[])))):=by
   show((frzV.many (frzV st s.next 38) [vc,vf,vi,vs] []).bind _)=_
   rw[h1];rfl
  show((((frzV st s.next 39 (.agg [vc,vf,vi,vs]) []).bind _)).bind _)=_
  rw[h2];rfl
 ·intro b hbm
  rw[hb]
  simp only[List.mem_append,List.not_mem_nil,or_false]at hbm
  rcases hbm with h|h|h|h
  ·exact m4 b h
  ·exact m3 b h
  ·exact m2 b h
  ·exact m1 b h
 ·unfold encF
  rcases A3 encN 2 c.cons with e1|⟨_,_,e1⟩<;>rcases A3 encN 2 c.funs with e2|⟨_,_,e2⟩<;>rcases A3 encIF 7 c.ins with e3|⟨_,_,e3⟩<;>rcases A3 encZ 1 c.starts with e4|⟨_,_,e4⟩<;>rw[e1,e2,e3,e4]<;>rfl
structure PI (s0 s:St) (ts:List (List UInt8)) (i:Nat) (last:Int) (c:CodeT) (vc vf vi vs:AV):Prop where
 all:∀c2,LinesR 0 ⟨[],[],[],[]⟩ ts c2↔LinesR last c (ts.drop i) c2
 chg:Chg s0 s (fun c=>s0.next≤c)
 g0:s.heap.get s0.next=some (.cells [.nilslice,.nilslice,.nilslice,.nilslice] 28 false)
 g1:s.heap.get (s0.next+1)=some (.cells [vc,vf,vi,vs] 28 false)
 ls:ListsE encIF s (s0.next+1) c vc vf vi vs
 nx:s0.next+2≤s.next
 la:0≤last∧last≤2
 sz:c.cons.length≤i∧c.funs.length≤i∧c.ins.length≤i∧c.starts.length≤i
theorem ListsE.keepL {E:InsT→List AV} {s s':St} {rb:Nat} {c:CodeT} {vc vf vi vs:AV} (h:ListsE E s rb c vc vf vi vs) (hc:Chg s s' (fun c=>c≤rb)):ListsE E s' rb c vc vf vi vs:=
 ⟨h.cons.keep hc.next fun b hb=>hc.heap b (h.cons.own hb) fun e=>by have:=(h.dc b hb).1;omega,h.funs.keep hc.next fun b hb=>hc.heap b (h.funs.own hb) fun e=>by have:=(h.df b hb).1;omega,h.ins.keep hc.next fun b hb=>hc.heap b (h.ins.own hb) fun e=>by have:=(h.di b hb).1;omega,h.starts.keep hc.next fun b hb=>hc.heap b (h.starts.own hb) fun e=>by have:=h.ds b hb;omega,h.dc,h.df,h.di,h.ds⟩
theorem PI.out {s st:St} {ts:List (List UInt8)} {i:Nat} {last:Int} {c:CodeT} {vc vf vi vs:AV} (hI:PI s.enter st ts i last c vc vf vi vs):
 (st.put s.next (some (.cells [vc,vf,vi,vs] 28 false))).heap.get s.next=some (.cells [vc,vf,vi,vs] 28 false)∧
 ListsE encIF (st.put s.next (some (.cells [vc,vf,vi,vs] 28 false))) (s.next+1) c vc vf vi vs∧(st.put s.next (some (.cells [vc,vf,vi,vs] 28 false))).bound=s.next∧(st.put s.next (some (.cells [vc,vf,vi,vs] 28 false))).log=[]:=by
 have hc:Chg s.enter (st.put s.next (some (.cells [vc,vf,vi,vs] 28 false))) (fun c=>s.next≤c):=hI.chg.trans Chg.put (fun _ h=>h) (fun c h=> .inl (by rw[h];exact Qj _)) (Qj _)
 exact⟨Bl.trans (if_pos U),hI.ls.keepL (Bd Chg.put fun c h=>by have hen:s.enter.next=s.next:=rfl;omega),hc.bound,chg_none hc U⟩
theorem PI.step {s0 st s2:St} {ts:List (List UInt8)} {i:Nat} {last k:Int} {c c2:CodeT} {vc vf vi vs wc wf wi ws:AV} (hI:PI s0 st ts i last c vc vf vi vs) (h:i<ts.length) (hL:LineR last c ts[i] c2 k) (hc:Chg st s2 (fun c=>s0.next+1≤c))
 (hg:s2.heap.get (s0.next+1)=some (.cells [wc,wf,wi,ws] 28 false)) (hl:ListsE encIF s2 (s0.next+1) c2 wc wf wi ws) (hb:s0.bound≤s0.next) (hsz:c2.cons.length≤c.cons.length+1∧c2.funs.length≤c.funs.length+1∧c2.ins.length≤c.ins.length+1∧c2.starts.length≤c.starts.length+1) (hk:0≤k∧k≤2):PI s0 s2 ts (i+1) k c2 wc wf wi ws:=by
 have hdr:ts.drop i=ts[i]::ts.drop (i+1):=List.drop_eq_getElem_cons h
 have hs:=hI.sz
 have hn:=hI.nx
 have hn2:=hc.next
 exact⟨fun c'=>(hI.all c').trans (by rw[hdr];exact LinesR.step hL),hI.chg.trans hc (fun _ h=>h) (fun c h=> .inl (by omega)) hb,(hc.heap _ (by omega) (by omega)).trans hI.g0,hg,hl,by omega,hk,by omega⟩
theorem PI.no {s0 st:St} {t:List UInt8} {ts:List (List UInt8)} {i:Nat} {last:Int} {c:CodeT} {vc vf vi vs:AV} (hI:PI s0 st ts i last c vc vf vi vs) (hp:pcs 10 t=ts++[[]]) (h:i<ts.length) (hno:¬∃c1 l1,LineR last c ts[i] c1 l1):¬∃c,AllR 0 ⟨[],[],[],[]⟩ t c:=fun⟨c2,hc⟩=>by
 obtain⟨ts2,h1,h2⟩:=(all_lines (Qj _)).1 hc
 rw[hp]at h1
 obtain rfl:=List.append_cancel_right h1
 have h3:=(hI.all c2).1 h2
 rw[List.drop_eq_getElem_cons h]at h3
 cases h3 with
 |cons hl _=>exact hno ⟨_,_,hl⟩
theorem PI.yes {s0 st:St} {t:List UInt8} {ts:List (List UInt8)} {last:Int} {c:CodeT} {vc vf vi vs:AV} (hI:PI s0 st ts ts.length last c vc vf vi vs) (hp:pcs 10 t=ts++[[]]):AllR 0 ⟨[],[],[],[]⟩ t c:=
 (all_lines (Qj _)).2 ⟨ts,hp,(hI.all c).2 (by rw[List.drop_length];exact .nil)⟩
theorem kind0 {w:List UInt8} (h:kindS w=some 0):w=[99,111,110]:=by
 unfold kindS at h
 split at h
 ·assumption
 ·split at h
  ·cases h
  ·split at h<;>cases h
theorem kind1 {w:List UInt8} (h:kindS w=some 1):w=[102,117,110]:=by
 unfold kindS at h
 split at h
 ·cases h
 ·split at h
  ·assumption
  ·split at h<;>cases h
theorem kind2 {w:List UInt8} (h:kindS w=some 2):1≤opS w∧opS w≤6:=by
 unfold kindS at h
 split at h
 ·cases h
 ·split at h
  ·cases h
  ·split at h
   ·cases h
   ·rename_i hne
    revert hne
    unfold opS
    (repeat' split)<;>intro hne<;>omega
theorem PI.more {s0 st s2:St} {ts:List (List UInt8)} {i:Nat} {last:Int} {c:CodeT} {vc vf vi vs:AV} (hI:PI s0 st ts i last c vc vf vi vs) (hc:Chg st s2 (fun _=>False)) (hb:s0.bound≤s0.next):PI s0 s2 ts i last c vc vf vi vs:=by
 have hn:=hI.nx
 exact⟨hI.all,hI.chg.trans hc (fun _ h=>h) (fun _ h=>h.elim) hb,(hc.heap _ (by omega) id).trans hI.g0,(hc.heap _ (by omega) id).trans hI.g1,hI.ls.keepL (Bd hc fun _ h=>h.elim),Nat.le_trans hn hc.next,hI.la,hI.sz⟩
theorem parse_run {s:St} {t:List UInt8} (ht:t.length≤3000):RunsX (EK R17) 58 [.str t] s (fun v s'=>ParsF t v∧s'=s) (fun _ _=>False):=by
 refine RunsX.gen (fn:=Tryz.f58) U (by kernel_rfl) U U U U ?_
 obtain⟨ts,z,hp⟩:∃ts z,pcs 10 t=ts++[z]:=⟨_,_,(List.dropLast_concat_getLast (pcs_ne 10 t)).symm⟩
 have hit_99:R17 99 [.str t,.int .u8 10]=some (strsV (ts++[z])):=by
  rw[←hp];exact hit_99 (c:=10) (by omega)
 have hll:(ts++[z]).length=ts.length+1:=by rw[Qm];rfl
 have hl1:(ts++[z]).length-1=ts.length:=by rw[hll];rfl
 have hlast:idxSliceV (0+1) ((ts++[z]).length-1) (strsV (ts++[z]))=some (.iptr ([.str z]++[])):=by
  have:=Eu (l:=ts++[z]) (i:=ts.length) (by simp)
  rw[hl1,this]
  simp
 have hsl:∀s,sliceSlV s 1 none (some (.int .i64 (((ts++[z]).length-1:Nat):Int))) none (strsV (ts++[z]))=some (strsV ts):=fun s=>by rw[hl1];exact slice_init
 have hpl:=Eo 10 t
 have hcl:=cnt_le (10:UInt8).toNat t
 rw[hp,Qm,List.length_singleton]at hpl
 have hsl1:=hsl (s.enter.alloc (.cells [.nilslice,.nilslice,.nilslice,.nilslice] 28 false))
 obtain⟨sA,hA⟩:∃x,x=s.enter.alloc (.cells [.nilslice,.nilslice,.nilslice,.nilslice] 28 false):=⟨_,rfl⟩
 have nA:sA.next=s.next+1:=by rw[hA];rfl
 have bA:sA.bound=s.next:=by rw[hA];rfl
 have lA:sA.log=[]:=by rw[hA];rfl
 have gA:sA.heap.get s.next=some (.cells [.nilslice,.nilslice,.nilslice,.nilslice] 28 false):=by rw[hA];exact Dg
 have cA:Chg s.enter sA (fun _=>False):=by rw[hA];exact Chg.alloc
 refine Es<|Lo (BI U z_28) rfl<|qa rfl<|Ld<|Es<|qm U ?_
 refine Lo (Ad U U (by kernel_rfl) U (Ac (hit_99))) rfl<|qa rfl<|Ld<|Ab ?_
 show EvtL _ _ _ _ (s.enter.alloc (.cells [.nilslice,.nilslice,.nilslice,.nilslice] 28 false)) _
 rw[←hA]
 clear hA
 by_cases hz:z=[]
 ·subst hz
  refine Es ?_
  iterate 2 refine qm U ?_
  refine Lq (ol AI U) rfl<|Lq (DV (b:=1) U u_3 U U (by omega)) rfl<|Lq (Ag U AI Bt U U ‹_›) rfl<|Lq (As U U Fg Bt) rfl<|Lq (AX U u_9 U U U U) rfl<|Ld<|Ap U rfl<|Ae ?_
  refine Es ?_
  iterate 2 refine qm U ?_
  refine Lq (ol AI U) rfl<|Lq (DV (b:=1) U u_3 U U (by omega)) rfl<|Lo (Bv U AI Bt U U U ‹_›) rfl<|qa rfl<|Ld<|Es<|Lq (AJ U pl_28 U U) rfl<|Lo (BI U z_28) U ?_
  skip
  have gB0:(sA.alloc (.cells [.nilslice,.nilslice,.nilslice,.nilslice] 28 false)).heap.get s.next=some (.cells [.nilslice,.nilslice,.nilslice,.nilslice] 28 false):=(Bw (by omega)).trans gA
  have gB1:(sA.alloc (.cells [.nilslice,.nilslice,.nilslice,.nilslice] 28 false)).heap.get (s.next+1)=some (.cells [.nilslice,.nilslice,.nilslice,.nilslice] 28 false):=by rw[←nA];exact Dg
  have nB:(sA.alloc (.cells [.nilslice,.nilslice,.nilslice,.nilslice] 28 false)).next=s.next+2:=by show sA.next+1=_;omega
  have cB:Chg s.enter (sA.alloc (.cells [.nilslice,.nilslice,.nilslice,.nilslice] 28 false)) (fun _=>False):=cA.trans Chg.alloc (fun _ h=>h) (fun _ h=> .inl h) (Qj _)
  show RegL _ _ _ _ _ _ (sA.alloc (.cells [.nilslice,.nilslice,.nilslice,.nilslice] 28 false)) _
  rw[nA]
  generalize sA.alloc (.cells [.nilslice,.nilslice,.nilslice,.nilslice] 28 false)=sB at*
  refine Ak (Ar U Bg U U (Aq ‹_› U U U)) U rfl<|Ld<|Es<|qa rfl<|Ld<|Ab<|Es<|qa U ?_
  refine Ld<|Af ?_
  have iB:PI s.enter (sB.put (s.next+1) (some (.cells [.nilslice,.nilslice,.nilslice,.nilslice] 28 false))) ts 0 0 ⟨[],[],[],[]⟩ .nilslice .nilslice .nilslice .nilslice:=
   ⟨fun _=>Iff.rfl,cB.trans Chg.put (own:=fun c=>s.next≤c) (fun _ h=>h.elim) (fun c h=> .inl (by omega)) (Qj _),(Bl.trans (if_neg (by show¬s.next=s.next+1;omega))).trans gB0,Bl.trans (if_pos rfl),
    ⟨Grown.nil _ _ _,Grown.nil _ _ _,Grown.nil _ _ _,Grown.nil _ _ _,(fun _ h=>by cases h),(fun _ h=>by cases h),(fun _ h=>by cases h),fun _ h=>by cases h⟩,Nat.le_of_eq nB.symm,⟨Int.le_refl _,by decide⟩,Qj _,Qj _,Qj _,Qj _⟩
  refine A5 (fun y:Nat×Int×CodeT×(AV×AV×AV×AV)×St=>([(7,.int .i64 (y.1:Nat)),(6,.int .i64 y.2.1),(5,.ptr (s.next+1) 0),(4,strsV ts),(3,.bool false),(2,.ptr s.next 0),(0,.str t)],y.2.2.2.2)) (fun y=>ts.length-y.1)
   (fun y=>y.1≤ts.length∧PI s.enter y.2.2.2.2 ts y.1 y.2.1 y.2.2.1 y.2.2.2.1.1 y.2.2.2.1.2.1 y.2.2.2.1.2.2.1 y.2.2.2.1.2.2.2) (0,0,⟨[],[],[],[]⟩,(.nilslice,.nilslice,.nilslice,.nilslice),_) ⟨Qn _,iB⟩ rfl (by(refine Am.Av ?_;repeat (first|exact trivial|refine⟨rfl,?_⟩))) ?_
  rintro⟨i,last,c,⟨vc,vf,vi,vs⟩,st⟩ ⟨hi,hI⟩
  dsimp only at hi hI⊢
  have hlt:=Dq (ws:=ts)
  have hg1:=hI.g1
  have hg0:=hI.g0
  have hrb:s.next+1<st.next:=hI.nx
  have hen:s.enter.next=s.next:=rfl
  have hb1:st.bound≤st.next:=by rw[hI.chg.bound];exact hI.chg.next
  have hsz:=hI.sz
  by_cases h:i<ts.length
  ·have hid:=Eu h
   have hti:ts[i].length≤3000:=pcs_mem ht _ (by rw[hp];exact List.mem_append_left _ (Ql h))
   obtain⟨w,ws,hp2⟩:∃w ws,pcs 32 ts[i]=w::ws:=by
    cases h:pcs 32 ts[i]with
    |nil=>exact absurd h (pcs_ne _ _)
    |cons w ws=>exact⟨w,ws,rfl⟩
   have hpl2:=Eo 32 ts[i]
   have hcl2:=cnt_le (32:UInt8).toNat ts[i]
   rw[hp2,List.length_cons]at hpl2
   have hmem:∀v∈w::ws,v.length≤50000:=fun v hv=>Nat.le_trans (pcs_mem hti v (by rw[hp2];exact hv)) (by decide)
   have hit_99:R17 99 [.str ts[i],.int .u8 32]=some (strsV (w::ws)):=by
    rw[←hp2];exact Go.Proofs.YtpihdbhocgcbpaaGreatDoor.Rd.hit_99 (c:=32) (by omega)
   have hdr:ts.drop i=ts[i]::ts.drop (i+1):=List.drop_eq_getElem_cons h
   have hix0:=idx_strs (w:=w) (ws:=ws)
   have hlw:=Dq (ws:=w::ws)
   have hll2:(w::ws).length=ws.length+1:=rfl
   have hbad:=fun(hn:¬∃c1 l1,LineR last c ts[i] c1 l1)=>hI.no hp h hn
   focus
    refine Ab<|Es ?_
    iterate 2 refine qm U ?_
    refine Lq (ol AI U) rfl<|Lq (o2 u_3 U U) rfl<|Ld ?_
    refine Ec U (fun g1=>?_) (fun g1=>?_)
    have h1:=dT g1
    refine Ae<|Ab<|Af<|Es ?_
    iterate 2 refine qm U ?_
    refine Lq (Ag U AI Bt U U ‹_›) rfl<|Lq (As U U Fg Bt) U ?_
    refine Lo (Ad U U (by kernel_rfl) U (Ac (hit_99))) rfl<|qa rfl<|Ld<|Af ?_
    rotate_left
    have h1:=dF g1
    exact absurd h1 (by omega)
   refine Ab (Fz (fun b:Bool=>([(56,.bool b),(8,strsV (w::ws)),(7,.int .i64 (i:Nat)),(6,.int .i64 last),(5,.ptr (s.next+1) 0),(4,strsV ts),(3,.bool false),(2,.ptr s.next 0),(0,.str t)],st)) (fun b=>b=true↔(w=[99,111,110]∧last=0∧ws.length=2)) ?_ ?_)
   ·focus
     refine Ao<|qm rfl<|Lq (Ag (k:=0) U AI Bt U U ‹_›) rfl<|Lq (As U U Fg Bt) rfl<|Lq (AX U u_9 U U U U) rfl<|qm U ?_
     refine Lb U (fun g2=>?_) (fun g2=>?_)
     have h2:=bT g2
     refine Lh U ‹_› (om U)<|Lh U ‹_› (o2 u_3 U U)<|Lq (oT U ‹_› U) rfl<|qm U ?_
     refine Lb U (fun g3=>?_) (fun g3=>?_)
     have h3:=dT g3
     refine Lh U ‹_› (om U)<|Lh U ‹_› (ol AI U)<|Lh U ‹_› (o2 u_3 U U)<|Lq (oT U ‹_› U) rfl<|qa rfl<|Ld ?_
     rotate_left
     have h3:=dF g3
     iterate 3 refine Lk U ‹_› ?_
     refine Lq (oF U ‹_› U) rfl<|qa rfl<|Ld ?_
     rotate_left
     have h2:=bF g2
     iterate 2 refine Lk U ‹_› ?_
     refine Lq (oF U ‹_› U) rfl<|qm U ?_
     iterate 3 refine Lk U U ?_
     refine Lq (oF U U U) rfl<|qa rfl<|Ld ?_
     rotate_left
    ·exact⟨rfl,decide (((w::ws).length:Int)=3),⟨fun h=>⟨bT g2,dT g3,by have:=dT h;omega⟩,fun h=>decide_eq_true (by omega)⟩,rfl,by(refine Am.Av ?_;repeat (first|exact trivial|refine⟨rfl,?_⟩))⟩
    ·exact⟨rfl,false,⟨(fun h=>by cases h),fun h=>absurd h.2.1 (dF g3)⟩,rfl,by(refine Am.Av ?_;repeat (first|exact trivial|refine⟨rfl,?_⟩))⟩
    ·exact⟨rfl,false,⟨(fun h=>by cases h),fun h=>absurd h.1 (bF g2)⟩,rfl,by(refine Am.Av ?_;repeat (first|exact trivial|refine⟨rfl,?_⟩))⟩
   rintro bA hbA
   dsimp only
   cases bA with
   |true=>
    have hA:=hbA.1 rfl
    obtain⟨rfl,rfl,hl2⟩:=hA
    obtain⟨w1,w2,rfl⟩:∃w1 w2,ws=[w1,w2]:=by
     match ws,hl2 with
     | [a,b],_=>exact⟨a,b,rfl⟩
    have hw1:=hmem w1 (by simp)
    have hw2:=hmem w2 (by simp)
    have hi1:=Eu (l:=[[99,111,110],w1,w2]) (i:=1) (by show 1<3;decide)
    have hi2:=Eu (l:=[[99,111,110],w1,w2]) (i:=2) (by show 2<3;decide)
    have hit_100:R17 100 [.str w2]=some (.tuple [.int .i64 (intR w2).1,.bool (intR w2).2]):=hit_100 hw2
    have hit_101:R17 101 [.str w1]=some (.bool (nameB w1)):=hit_101 hw1
    have hno:((intR w2).2=false∨nameB w1=false)→¬∃c1 l1,LineR 0 c ts[i] c1 l1:=by
     rintro h ⟨c1,l1,w',ws',e1,e2,_,h3⟩
     rw[hp2]at e1;cases e1
     have e2:some (0:Int)=some l1:=e2
     cases e2
     rcases h3 with⟨_,v1,v2,e4,n1,n2,_⟩|⟨h5,_⟩|⟨h5,_⟩
     ·cases e4
      rcases h with h|h
      ·rw[(De w2).1.2 n2]at h;cases h
      ·rw[nameB_ok.2 n1]at h;cases h
     ·cases h5
     ·cases h5
    focus
     refine Ai U rfl<|Es<|qm U ?_
     refine Lq (Bh (k:=2) U AI Bt U U (by first|assumption|omega|(simp only[LL];omega)) U) U ?_
     refine Lq (As U U Fg Bt) U ?_
     refine Lo (Ad U U (by kernel_rfl) U (Ac (hit_100))) rfl<|qm U ?_
     iterate 2 refine Lq (oe U) U ?_
     iterate 2 refine qa U ?_
     refine Ld<|Ab<|Es<|qm rfl<|Lq (on U) rfl<|qm U ?_
     refine Lb U (fun g2=>?_) (fun g2=>?_)
     have h2:=Fo g2
     iterate 5 refine Lk U ‹_› ?_
     refine Lq (oT U ‹_› U) rfl<|Ld<|Ai U rfl<|Es<|Lo (At U U (A8 DU Bg ‹_› (Qc U))) rfl<|Ak (Ar U Bg U U (Aq ‹_› U U U)) U rfl<|qa rfl<|Ld ?_
     rotate_left
     have h2:=Fp g2
     refine Lh U ‹_› (om U) ?_
     refine Lh U ‹_› (Bh (k:=1) U AI Bt U U (by first|assumption|omega|(simp only[LL];omega)) U) ?_
     refine Lh U ‹_› (As U U Fg Bt) ?_
     refine Lg U ‹_› (Ad U U (by kernel_rfl) U (Ac (hit_101)))<|Lh U ‹_› (on U)<|Lq (oF U ‹_› U) rfl<|Ld ?_
     refine Ec U (fun g3=>?_) (fun g3=>?_)
     have h3:=Fo g3
     refine Es<|Lo (At U U (A8 DU Bg ‹_› (Qc U))) rfl<|Ak (Ar U Bg U U (Aq ‹_› U U U)) U rfl<|qa rfl<|Ld ?_
     rotate_left
     have h3:=Fp g3
     refine Ae<|Dw (by kernel_rfl)<|Nq (of DI U) rfl<|Nq (of BU U) rfl<|Bz U U (An B4 B2 ‹_› U) U (.inl U) U rfl<|Nq (om U) U ?_
     refine Nq (Bh (k:=1) U AI Bt U U (by first|assumption|omega|(simp only[LL];omega)) U) U ?_
     refine Nq (As U U Fg Bt) rfl<|Nq (om U) rfl<|Nq (AJ U pl_54 U U) rfl<|Bi U DY BS z_54 U U U (.inl U) U U ?_
     rotate_left
    ·exact Aa (BP ⟨.inl U,_,rfl,[.agg [vc,vf,vi,vs],.bool false],D0 U U U hI.out.1 (Qj 4) (Aj U U),_,DA hI.out.2.1 (Nat.le_succ _) hI.out.2.2.1 hI.out.2.2.2,.inr ⟨hbad (hno (.inl h2)),_,rfl⟩,rfl⟩)
    ·exact Aa (BP ⟨.inl U,_,rfl,[.agg [vc,vf,vi,vs],.bool false],D0 U U U hI.out.1 (Qj 4) (Aj U U),_,DA hI.out.2.1 (Nat.le_succ _) hI.out.2.2.1 hI.out.2.2.2,.inr ⟨hbad (hno (.inr h3)),_,rfl⟩,rfl⟩)
    have hN:=(De w2).1.1 h2
    refine DJ (new:=[.str w1,.int .i64 (intR w2).1]) hI.ls.cons hb1 U (by decide) (AR (by omega) (by decide)) (AR (by omega) (by decide)) U U U U DY BS by_54 z_54 (by kernel_rfl) (by kernel_rfl) U U (by kernel_rfl) (by kernel_rfl) (.inl U) U U fun v2 s4 nl4 g4 o4 c4 l4 hcl=>?_
    refine Nq (of DI U) rfl<|Nq (of BU U) U ?_
    have gr4:s4.heap.get (s.next+1)=some (.cells [vc,vf,vi,vs] 28 false):=(c4.heap _ hrb fun h=>by have:=(hI.ls.dc _ h).1;omega).trans hg1
    have hcv:=Df g4
    refine By (Nat.lt_of_lt_of_le hrb c4.next) U (by kernel_rfl) U U gr4 (by rw[hcv.1]) hcv.2 (by rw[hcv.1];rfl) (hcl _ hrb (by
     cases h:ownB (s.next+1) vc with
     |false=>rfl
     |true=>have:=(hI.ls.dc _ h).1;omega) _ (Dj (by kernel_rfl))) (by kernel_rfl) (.inl rfl) rfl rfl ?_
    refine AG<|Ao<|qm U ?_
    refine Lq (A0 (b:=1) U u_3 U U (by first|assumption|omega|(simp only[LL];omega))) U ?_
    refine qa rfl<|Ld ?_
    refine⟨(i+1,0,_,(v2,vf,vi,vs),_),⟨h,hI.step h ⟨_,[w1,w2],hp2,rfl,Int.le_refl _,.inl ⟨rfl,w1,w2,rfl,nameB_ok.1 h3,hN,rfl⟩⟩ ((Bd c4 fun c h=>Nat.le_of_lt (hI.ls.dc c h).1).trans Da (fun _ h=>h) (fun c h=> .inl (by rw[h];exact Qj _)) hb1) (get_putB.trans (if_pos U)) ((hI.ls.cons' (a:=(w1,numV w2)) c4 (by rw[←(De w2).2 hN];exact g4) o4 hrb).keep Da) (Qj _) ⟨by rw[Qm];exact Qj _,Nat.le_succ _,Nat.le_succ _,Nat.le_succ _⟩ ⟨Int.le_refl 0,(show(0:Int)≤2 by decide)⟩⟩,by show ts.length-(i+1)<ts.length-i;omega,rfl,rfl,by(refine Am.Av ?_;repeat (first|exact trivial|refine⟨rfl,?_⟩))⟩
   |false=>
    have hA:¬(w=[99,111,110]∧last=0∧ws.length=2):=fun h=>by cases hbA.2 h
    refine Ap U U ?_
    refine Ab (Fz (fun b:Bool=>([(99,.bool b),(8,strsV (w::ws)),(7,.int .i64 (i:Nat)),(6,.int .i64 last),(5,.ptr (s.next+1) 0),(4,strsV ts),(3,.bool false),(2,.ptr s.next 0),(0,.str t)],st)) (fun b=>b=true↔(w=[102,117,110]∧last≤1∧ws.length=3)) ?_ ?_)
    ·focus
      refine Ao<|qm rfl<|Lq (Ag (k:=0) U AI Bt U U ‹_›) rfl<|Lq (As U U Fg Bt) rfl<|Lq (AX U u_9 U U U U) rfl<|qm U ?_
      refine Lb U (fun g2=>?_) (fun g2=>?_)
      have h2:=bT g2
      refine Lh U ‹_› (om U)<|Lh U ‹_› (o2 u_3 U U)<|Lq (oT U ‹_› U) rfl<|qm U ?_
      refine Lb U (fun g3=>?_) (fun g3=>?_)
      have h3:=dT g3
      refine Lh U ‹_› (om U)<|Lh U ‹_› (ol AI U)<|Lh U ‹_› (o2 u_3 U U)<|Lq (oT U ‹_› U) rfl<|qa rfl<|Ld ?_
      rotate_left
      have h3:=dF g3
      iterate 3 refine Lk U ‹_› ?_
      refine Lq (oF U ‹_› U) rfl<|qa rfl<|Ld ?_
      rotate_left
      have h2:=bF g2
      iterate 2 refine Lk U ‹_› ?_
      refine Lq (oF U ‹_› U) rfl<|qm U ?_
      iterate 3 refine Lk U U ?_
      refine Lq (oF U U U) rfl<|qa rfl<|Ld ?_
      rotate_left
     ·exact⟨rfl,decide (((w::ws).length:Int)=4),⟨fun h=>⟨bT g2,dT g3,by have:=dT h;omega⟩,fun h=>decide_eq_true (by omega)⟩,rfl,by(refine Am.Av ?_;repeat (first|exact trivial|refine⟨rfl,?_⟩))⟩
     ·exact⟨rfl,false,⟨(fun h=>by cases h),fun h=>absurd h.2.1 (dF g3)⟩,rfl,by(refine Am.Av ?_;repeat (first|exact trivial|refine⟨rfl,?_⟩))⟩
     ·exact⟨rfl,false,⟨(fun h=>by cases h),fun h=>absurd h.1 (bF g2)⟩,rfl,by(refine Am.Av ?_;repeat (first|exact trivial|refine⟨rfl,?_⟩))⟩
    rintro bB hbB
    dsimp only
    cases bB with
    |true=>
     obtain⟨rfl,hla,hl3⟩:=hbB.1 rfl
     obtain⟨w1,w2,w3,rfl⟩:∃w1 w2 w3,ws=[w1,w2,w3]:=by
      match ws,hl3 with
      | [a,b,c],_=>exact⟨a,b,c,rfl⟩
     have hw1:=hmem w1 (by simp)
     have hw2:=hmem w2 (by simp)
     have hw3:=hmem w3 (by simp)
     have hi1:=Eu (l:=[[102,117,110],w1,w2,w3]) (i:=1) (by show 1<4;decide)
     have hit_101:R17 101 [.str w1]=some (.bool (nameB w1)):=hit_101 hw1
     have hno:(intsB [w2,w3]=false∨nameB w1=false)→¬∃c1 l1,LineR last c ts[i] c1 l1:=by
      rintro h ⟨c1,l1,w',ws',e1,e2,_,h3⟩
      rw[hp2]at e1;cases e1
      have e2:some (1:Int)=some l1:=e2
      cases e2
      rcases h3 with⟨h5,_⟩|⟨_,v1,v2,v3,e4,n1,n2,n3,_⟩|⟨h5,_⟩
      ·cases h5
      ·cases e4
       rcases h with h|h
       ·rw[ints_ok.2 (fun w hw=>by
         rcases Qk.1 hw with rfl|hw
         ·exact n2
         ·rw[Qo.1 hw];exact n3)]at h
        cases h
       ·rw[nameB_ok.2 n1]at h;cases h
      ·cases h5
     have hintl:R17 102 [strsV [w2,w3]]=some (intsV [w2,w3]):=AT (by show 2≤50001;decide) (fun v hv=>hmem v (by simp at hv⊢;rcases hv with rfl|rfl<;>simp))
     cases hB:intsB [w2,w3]with
     |false=>
      have AT:R17 102 [strsV [w2,w3]]=some (.tuple [.nilslice,.bool false]):=by
       refine Eq.trans hintl ?_;unfold intsV;rw[hB];rfl
      refine Ai U rfl<|Es<|qm rfl<|Lq (Ef U AI Bt U U U U (AL (n:=2) (by omega)) (Qc U)) U ?_
      refine Lo (Ad U U (by kernel_rfl) U (Ac (AT))) rfl<|qm U ?_
      iterate 2 refine Lq (oe U) U ?_
      iterate 2 refine qa U ?_
      refine Ld<|Ab<|Es<|qm rfl<|Lq (on U) rfl<|qm U ?_
      iterate 5 refine Lk U U ?_
      refine Lq (oT U U U) rfl<|Ld<|Ai U rfl<|Es<|Lo (At U U (A8 DU Bg ‹_› (Qc U))) rfl<|Ak (Ar U Bg U U (Aq ‹_› U U U)) U rfl<|qa rfl<|Ld ?_
      exact Aa (BP ⟨.inl U,_,rfl,[.agg [vc,vf,vi,vs],.bool false],D0 U U U hI.out.1 (Qj 4) (Aj U U),_,DA hI.out.2.1 (Nat.le_succ _) hI.out.2.2.1 hI.out.2.2.2,.inr ⟨hbad (hno (.inl hB)),_,rfl⟩,rfl⟩)
     |true=>
      have AT:R17 102 [strsV [w2,w3]]=some (.tuple [.islice [.int .i64 (intR w2).1,.int .i64 (intR w3).1] 2 1 true,.bool true]):=by
       refine Eq.trans hintl ?_;unfold intsV;rw[hB];rfl
      focus
       refine Ai U rfl<|Es<|qm rfl<|Lq (Ef U AI Bt U U U U (AL (n:=2) (by omega)) (Qc U)) U ?_
       refine Lo (Ad U U (by kernel_rfl) U (Ac (AT))) rfl<|qm U ?_
       iterate 2 refine Lq (oe U) U ?_
       iterate 2 refine qa U ?_
       refine Ld<|Ab<|Es<|qm rfl<|Lq (on U) rfl<|qm rfl<|Lh U U (om U) ?_
       refine Lh U U (Bh (k:=1) U AI Bt U U (by first|assumption|omega|(simp only[LL];omega)) U) ?_
       refine Lh U U (As U U Fg Bt) ?_
       refine Lg U U (Ad U U (by kernel_rfl) U (Ac (hit_101)))<|Lh U U (on U)<|Lq (oF U U U) rfl<|Ld ?_
       refine Ec U (fun g2=>?_) (fun g2=>?_)
       have h2:=Fo g2
       refine Es<|Lo (At U U (A8 DU Bg ‹_› (Qc U))) rfl<|Ak (Ar U Bg U U (Aq ‹_› U U U)) U rfl<|qa rfl<|Ld ?_
       rotate_left
       have h2:=Fp g2
       refine Ae<|AK (by kernel_rfl)<|Nq (of DI U) rfl<|Nq (of BT U) rfl<|Bz U U (An B4 B2 ‹_› U) U (.inl U) U rfl<|Nq (om U) U ?_
       refine Nq (Bh (k:=1) U AI Bt U U (by first|assumption|omega|(simp only[LL];omega)) U) U ?_
       refine Nq (As U U Fg Bt) rfl<|Nq (om U) U ?_
       refine Nq (Bh (k:=0) U D6 Bf U U (by first|assumption|omega|(simp only[LL];omega)) U) U ?_
       refine Nq (As U U B3 Bf) rfl<|Nq (AJ U pl_54 U U) rfl<|Bi U DY BS z_54 U U U (.inl U) U U ?_
       rotate_left
      ·exact Aa (BP ⟨.inl U,_,rfl,[.agg [vc,vf,vi,vs],.bool false],D0 U U U hI.out.1 (Qj 4) (Aj U U),_,DA hI.out.2.1 (Nat.le_succ _) hI.out.2.2.1 hI.out.2.2.2,.inr ⟨hbad (hno (.inr h2)),_,rfl⟩,rfl⟩)
      have hN:=ints_ok.1 hB
      have hN2:=hN w2 (by simp)
      have hN3:=hN w3 (by simp)
      refine DJ (new:=[.str w1,.int .i64 (intR w2).1]) hI.ls.funs hb1 U (by decide) (AR (by omega) (by decide)) (AR (by omega) (by decide)) U U U U DY BS by_54 z_54 (by kernel_rfl) (by kernel_rfl) U U (by kernel_rfl) (by kernel_rfl) (.inl U) U U fun v2 s4 nl4 g4 o4 c4 l4 hcl=>?_
      refine Nq (of DI U) rfl<|Nq (of BT U) U ?_
      have gr4:s4.heap.get (s.next+1)=some (.cells [vc,vf,vi,vs] 28 false):=(c4.heap _ hrb fun h=>by have:=(hI.ls.df _ h).1;omega).trans hg1
      have hcv:=Df g4
      refine By (Nat.lt_of_lt_of_le hrb c4.next) U (by kernel_rfl) U U gr4 (by rw[hcv.1]) hcv.2 (by rw[hcv.1];rfl) (hcl _ hrb (by
       cases h:ownB (s.next+1) vf with
       |false=>rfl
       |true=>have:=(hI.ls.df _ h).1;omega) _ (Dj (by kernel_rfl))) (by kernel_rfl) (.inl rfl) rfl rfl ?_
      have hl5:=(hI.ls.funs' (a:=(w1,numV w2)) c4 (by rw[←(De w2).2 hN2];exact g4) o4 hrb).keep (Da (b:=s.next+1) (o:=some (.cells [vc,v2,vi,vs] 28 false)))
      have g5:(putB s4 (s.next+1) (some (.cells [vc,v2,vi,vs] 28 false))).heap.get (s.next+1)=some (.cells [vc,v2,vi,vs] 28 false):=get_putB.trans (if_pos rfl)
      have c5:Chg st (putB s4 (s.next+1) (some (.cells [vc,v2,vi,vs] 28 false))) (fun c=>s.next+1≤c):=(Bd c4 fun c h=>Nat.le_of_lt (hI.ls.df c h).1).trans Da (fun _ h=>h) (fun c h=> .inl (by rw[h];exact Qj _)) hb1
      show RegN _ _ _ _ _ _ _ (putB s4 (s.next+1) (some (.cells [vc,v2,vi,vs] 28 false))) _ _ _
      generalize putB s4 (s.next+1) (some (.cells [vc,v2,vi,vs] 28 false))=s5 at*
      have hb5:s5.bound≤s5.next:=by rw[c5.bound];exact Nat.le_trans hb1 c5.next
      have hrb5:s.next+1<s5.next:=Nat.lt_of_lt_of_le hrb c5.next
      refine AG<|AK (by kernel_rfl)<|Nq (of ES U) rfl<|Bz U U (An Dn BC ‹_› U) U (.inl U) U rfl<|Nq (om U) U ?_
      refine Nq (Bh (k:=1) U D6 Bf U U (by first|assumption|omega|(simp only[LL];omega)) U) U ?_
      refine Nq (As U U B3 Bf) rfl<|Bi U D6 Bf z_3 U U U (.inl U) U U ?_
      refine DJ (new:=[.int .i64 (intR w3).1]) hl5.starts hb5 U (by decide) (AR (by omega) (by decide)) (AR (by dsimp only;omega) (by decide)) U U U U D6 Bf by_3 z_3 (by kernel_rfl) (by kernel_rfl) U U (by kernel_rfl) (by kernel_rfl) (.inl U) U U fun u2 s7 nl6 g7 o7 c9 l9 hcl7=>?_
      refine Nq (of ES U) U ?_
      have gr7:s7.heap.get (s.next+1)=some (.cells [vc,v2,vi,vs] 28 false):=(c9.heap _ hrb5 fun h=>by have:=hl5.ds _ h;omega).trans g5
      have hcu:=Df g7
      refine By (Nat.lt_of_lt_of_le hrb5 c9.next) U (by kernel_rfl) U U gr7 (by rw[hcu.1]) hcu.2 (by rw[hcu.1];rfl) (hcl7 _ hrb5 (by
       cases h:ownB (s.next+1) vs with
       |false=>rfl
       |true=>have:=hl5.ds _ h;omega) _ (Dj (by kernel_rfl))) (by kernel_rfl) (.inl rfl) rfl rfl ?_
      refine AG<|Ao<|qa rfl<|Ld<|Ao<|qm U ?_
      refine Lq (A0 (b:=1) U u_3 U U (by first|assumption|omega|(simp only[LL];omega))) U ?_
      refine qa rfl<|Ld ?_
      refine⟨(i+1,1,_,(vc,v2,vi,u2),_),⟨h,hI.step h ⟨_,[w1,w2,w3],hp2,rfl,hla,.inr (.inl ⟨rfl,w1,w2,w3,rfl,nameB_ok.1 h2,hN2,hN3,rfl⟩)⟩ (c5.trans ((Bd c9 fun c h=>Nat.le_of_lt (hl5.ds c h)).trans Da (own:=fun c=>s.next+1≤c) (fun _ h=>h) (fun c h=> .inl (by rw[h];exact Qj _)) hb5) (fun _ h=>h) (fun c h=> .inl h) hb1) (get_putB.trans (if_pos U)) ((hl5.starts' (a:=numV w3) c9 (by rw[←(De w3).2 hN3];exact g7) o7 hrb5).keep Da) (Qj _) ⟨Nat.le_succ _,by rw[Qm];exact Qj _,Nat.le_succ _,by rw[Qm];exact Qj _⟩ ⟨(show(0:Int)≤1 by decide),(show(1:Int)≤2 by decide)⟩⟩,by show ts.length-(i+1)<ts.length-i;omega,rfl,rfl,by(refine Am.Av ?_;repeat (first|exact trivial|refine⟨rfl,?_⟩))⟩
    |false=>
     have hB:¬(w=[102,117,110]∧last≤1∧ws.length=3):=fun h=>by cases hbB.2 h
     have hins:R17 103 [strsV (w::ws)]=some (insW (insF (opS w) ws)):=hit_103 (by omega) hmem
     obtain⟨x,b,hx⟩:∃x b,insF (opS w) ws=(x,b):=⟨_,_,rfl⟩
     rw[hx]at hins
     cases b with
     |false=>
      have hno:¬∃c1 l1,LineR last c ts[i] c1 l1:=by
       rintro⟨c1,l1,w',ws',e1,e2,e3,h3⟩
       rw[hp2]at e1;cases e1
       rcases h3 with⟨rfl,v1,v2,rfl,_⟩|⟨rfl,v1,v2,v3,rfl,_⟩|⟨rfl,y,hy,_⟩
       ·exact hA ⟨kind0 e2,by have:=hI.la.1;omega,rfl⟩
       ·exact hB ⟨kind1 e2,e3,rfl⟩
       ·have:=insF_of (kind2 e2) hy
        rw[hx]at this;cases this
      have hit_103:R17 103 [strsV (w::ws)]=some (.tuple [.agg [.int .i64 x.op,.int .i64 x.a,lst encA 2 x.alts,lst encZ 1 x.to,.int .i64 x.term,.int .i64 x.n,lst encZ 1 x.args],.bool false]):=hins
      refine Ap U rfl<|Es<|qm U ?_
      refine Lo (Ad U U (by kernel_rfl) U (Ac (hit_103))) rfl<|qm U ?_
      iterate 2 refine Lq (oe U) U ?_
      refine Lo (BI U z_58) U ?_
      have gN:(st.alloc (.cells [.int .i64 0,.int .i64 0,.nilslice,.nilslice,.int .i64 0,.int .i64 0,.nilslice] 58 false)).heap.get st.next=some (.cells [.int .i64 0,.int .i64 0,.nilslice,.nilslice,.int .i64 0,.int .i64 0,.nilslice] 58 false):=Dg
      have cN:Chg st (st.alloc (.cells [.int .i64 0,.int .i64 0,.nilslice,.nilslice,.int .i64 0,.int .i64 0,.nilslice] 58 false)) (fun _=>False):=Chg.alloc
      show RegL _ _ _ _ _ _ (st.alloc (.cells [.int .i64 0,.int .i64 0,.nilslice,.nilslice,.int .i64 0,.int .i64 0,.nilslice] 58 false)) _
      generalize st.alloc (.cells [.int .i64 0,.int .i64 0,.nilslice,.nilslice,.int .i64 0,.int .i64 0,.nilslice] 58 false)=sN at*
      refine Ak (Ar U AP U U (Aq ‹_› U U U)) U rfl<|qa rfl<|Ld<|Ab ?_
      have gM:(sN.put st.next (some (.cells [.int .i64 x.op,.int .i64 x.a,lst encA 2 x.alts,lst encZ 1 x.to,.int .i64 x.term,.int .i64 x.n,lst encZ 1 x.args] 58 false))).heap.get st.next=some (.cells [.int .i64 x.op,.int .i64 x.a,lst encA 2 x.alts,lst encZ 1 x.to,.int .i64 x.term,.int .i64 x.n,lst encZ 1 x.args] 58 false):=Bl.trans (if_pos rfl)
      have cM:Chg st (sN.put st.next (some (.cells [.int .i64 x.op,.int .i64 x.a,lst encA 2 x.alts,lst encZ 1 x.to,.int .i64 x.term,.int .i64 x.n,lst encZ 1 x.args] 58 false))) (fun _=>False):=cN.trans Chg.put (fun _ h=>h) (fun c h=> .inr (by rw[h];exact Qj _)) hb1
      show EvtL _ _ _ _ (sN.put st.next (some (.cells [.int .i64 x.op,.int .i64 x.a,lst encA 2 x.alts,lst encZ 1 x.to,.int .i64 x.term,.int .i64 x.n,lst encZ 1 x.args] 58 false))) _
      generalize sN.put st.next (some (.cells [.int .i64 x.op,.int .i64 x.a,lst encA 2 x.alts,lst encZ 1 x.to,.int .i64 x.term,.int .i64 x.n,lst encZ 1 x.args] 58 false))=sM at*
      have hJ:=hI.more cM (Qj _)
      have hj1:=hJ.g1
      have hj0:=hJ.g0
      refine Es<|qm rfl<|Lq (on U) rfl<|Ld<|Ai U rfl<|Es<|Lo (At U U (A8 DU Bg ‹_› (Qc U))) rfl<|Ak (Ar U Bg U U (Aq ‹_› U U U)) U U ?_
      refine qa rfl<|Ld ?_
      exact Aa (BP ⟨.inl U,_,rfl,[.agg [vc,vf,vi,vs],.bool false],D0 U U U hJ.out.1 (Qj 4) (Aj U U),_,DA hJ.out.2.1 (Nat.le_succ _) hJ.out.2.2.1 hJ.out.2.2.2,.inr ⟨hbad (hno),_,rfl⟩,rfl⟩)
     |true=>
      obtain⟨z,hz⟩:∃z,(if x.op=5 then recs encZ 1 x.args else lst encZ 1 x.args)=z:=⟨_,rfl⟩
      have hE:encIF x=[.int .i64 x.op,.int .i64 x.a,lst encA 2 x.alts,lst encZ 1 x.to,.int .i64 x.term,.int .i64 x.n,z]:=by unfold encIF;rw[hz]
      have hit_103:R17 103 [strsV (w::ws)]=some (.tuple [.agg [.int .i64 x.op,.int .i64 x.a,lst encA 2 x.alts,lst encZ 1 x.to,.int .i64 x.term,.int .i64 x.n,z],.bool true]):=by
       rw[←hE];exact hins
      have hL:LineR last c ts[i] {c with ins:=c.ins++[x]} 2:=by
       have:=insF_ok (op:=opS w) (ws:=ws) (by rw[hx])
       rw[hx]at this
       have hne:opS w≠0:=fun e=>by
        rw[e]at hx
        exact absurd (Prod.mk.inj hx).2 (by decide)
       refine⟨w,ws,hp2,?_,hI.la.2,.inr (.inr ⟨rfl,x,this,rfl⟩)⟩
       unfold kindS
       rw[if_neg (fun e=>hne (by rw[e];rfl)),if_neg (fun e=>hne (by rw[e];rfl)),if_neg hne]
      refine Ap U rfl<|Es<|qm U ?_
      refine Lo (Ad U U (by kernel_rfl) U (Ac (hit_103))) rfl<|qm U ?_
      iterate 2 refine Lq (oe U) U ?_
      refine Lo (BI U z_58) U ?_
      have gN:(st.alloc (.cells [.int .i64 0,.int .i64 0,.nilslice,.nilslice,.int .i64 0,.int .i64 0,.nilslice] 58 false)).heap.get st.next=some (.cells [.int .i64 0,.int .i64 0,.nilslice,.nilslice,.int .i64 0,.int .i64 0,.nilslice] 58 false):=Dg
      have cN:Chg st (st.alloc (.cells [.int .i64 0,.int .i64 0,.nilslice,.nilslice,.int .i64 0,.int .i64 0,.nilslice] 58 false)) (fun _=>False):=Chg.alloc
      show RegL _ _ _ _ _ _ (st.alloc (.cells [.int .i64 0,.int .i64 0,.nilslice,.nilslice,.int .i64 0,.int .i64 0,.nilslice] 58 false)) _
      generalize st.alloc (.cells [.int .i64 0,.int .i64 0,.nilslice,.nilslice,.int .i64 0,.int .i64 0,.nilslice] 58 false)=sN at*
      refine Ak (Ar U AP U U (Aq ‹_› U U U)) U rfl<|qa rfl<|Ld<|Ab ?_
      have gM:(sN.put st.next (some (.cells [.int .i64 x.op,.int .i64 x.a,lst encA 2 x.alts,lst encZ 1 x.to,.int .i64 x.term,.int .i64 x.n,z] 58 false))).heap.get st.next=some (.cells [.int .i64 x.op,.int .i64 x.a,lst encA 2 x.alts,lst encZ 1 x.to,.int .i64 x.term,.int .i64 x.n,z] 58 false):=Bl.trans (if_pos rfl)
      have cM:Chg st (sN.put st.next (some (.cells [.int .i64 x.op,.int .i64 x.a,lst encA 2 x.alts,lst encZ 1 x.to,.int .i64 x.term,.int .i64 x.n,z] 58 false))) (fun _=>False):=cN.trans Chg.put (fun _ h=>h) (fun c h=> .inr (by rw[h];exact Qj _)) hb1
      show EvtL _ _ _ _ (sN.put st.next (some (.cells [.int .i64 x.op,.int .i64 x.a,lst encA 2 x.alts,lst encZ 1 x.to,.int .i64 x.term,.int .i64 x.n,z] 58 false))) _
      generalize sN.put st.next (some (.cells [.int .i64 x.op,.int .i64 x.a,lst encA 2 x.alts,lst encZ 1 x.to,.int .i64 x.term,.int .i64 x.n,z] 58 false))=sM at*
      have hJ:=hI.more cM (Qj _)
      have hj1:=hJ.g1
      have hj0:=hJ.g0
      refine Es<|qm rfl<|Lq (on U) rfl<|Ld<|Ap U rfl<|Ae<|Es<|Lq (of Bp U) U ?_
      refine Lo (At U U (An Du Dc ‹_› U)) rfl<|Lo (At U U (A8 Dy AP ‹_› (Qc U))) rfl<|Lo (BA U u_25 AP z_58 U U U) U ?_
      have nM:=cM.next
      refine RegL.growG (new:=[.int .i64 x.op,.int .i64 x.a,lst encA 2 x.alts,lst encZ 1 x.to,.int .i64 x.term,.int .i64 x.n,z]) hJ.ls.ins U (by decide) (AR (by omega) (by decide)) (AR (by omega) (by decide)) U U U U u_25 AP by_58 z_58 (by kernel_rfl) (by kernel_rfl) U U U U U fun v2 s2 g2 o2 c2 l2=>?_
      have hb2:sM.bound≤sM.next:=by rw[cM.bound];exact Nat.le_trans hb1 nM
      have gr2:s2.heap.get (s.next+1)=some (.cells [vc,vf,vi,vs] 28 false):=(c2.heap _ (by omega) fun h=>by have:=(hJ.ls.di _ h).1;omega).trans hj1
      have hcv:=Df g2
      refine Lq (of Bp U) U ?_
      refine Ak (Ar (s':=s2.put (s.next+1) (some (.cells [vc,vf,v2,vs] 28 false))) U Dc U U (Aq (off:=2) gr2 (by rw[hcv.1];rfl) hcv.2 (by rw[hcv.1];rfl))) U U ?_
      refine Ld<|Ao<|qa rfl<|Ld<|Ao<|qm U ?_
      refine Lq (A0 (b:=1) U u_3 U U (by first|assumption|omega|(simp only[LL];omega))) U ?_
      refine qa rfl<|Ld ?_
      refine⟨(i+1,2,_,(vc,vf,v2,vs),_),⟨h,hJ.step h hL ((Bd c2 fun c h=>Nat.le_of_lt (hJ.ls.di c h).1).trans Chg.put (own:=fun c=>s.next+1≤c) (fun _ h=>h) (fun c h=> .inl (by rw[h];exact Qj _)) hb2) (Bl.trans (if_pos U)) ((hJ.ls.ins' (a:=x) c2 (by rw[hE];exact g2) o2 (by omega)).keep Chg.put) (Qj _) ⟨Nat.le_succ _,Nat.le_succ _,by rw[Qm];exact Qj _,Nat.le_succ _⟩ ⟨(show(0:Int)≤2 by decide),(show(2:Int)≤2 by decide)⟩⟩,by show ts.length-(i+1)<ts.length-i;omega,rfl,rfl,by(refine Am.Av ?_;repeat (first|exact trivial|refine⟨rfl,?_⟩))⟩
  ·obtain rfl:i=ts.length:=by omega
   focus
    refine Ab<|Es ?_
    iterate 2 refine qm U ?_
    refine Lq (ol AI U) rfl<|Lq (o2 u_3 U U) rfl<|Ld ?_
    refine Ec U (fun g1=>?_) (fun g1=>?_)
    have h1:=dT g1
    exact absurd h1 (by omega)
    have h1:=dF g1
    refine A9<|Bq rfl<|Es<|Lo (At U U (A8 DU Bg ‹_› (Qc U))) rfl<|Ak (Ar U Bg U U (Aq ‹_› U U U)) U rfl<|qa rfl<|Ld ?_
    rotate_left
   exact Aa (BP ⟨.inl U,_,rfl,[.agg [vc,vf,vi,vs],.bool true],D0 U U U hI.out.1 (Qj 4) (Aj U U),_,DA hI.out.2.1 (Nat.le_succ _) hI.out.2.2.1 hI.out.2.2.2,.inl ⟨c,hI.yes hp,rfl⟩,rfl⟩)
 ·focus
   refine Es ?_
   iterate 2 refine qm U ?_
   refine Lq (ol AI U) rfl<|Lq (DV (b:=1) U u_3 U U (by omega)) rfl<|Lq (Ag U AI Bt U U ‹_›) rfl<|Lq (As U U Fg Bt) rfl<|Lq (AX U u_9 U U U U) rfl<|Ld ?_
   refine Ec U (fun g1=>?_) (fun g1=>?_)
   have h1:=bnT g1
   refine Es<|Lq (AJ U pl_28 U U) rfl<|Ak (Ar U Bg U U (Aq ‹_› U U U)) U rfl<|qa rfl<|Ld ?_
   rotate_left
   have h1:=bnF g1
   exact absurd h1 (by omega)
  ·have e0:(sA.put s.next (some (.cells [.nilslice,.nilslice,.nilslice,.nilslice] 28 false))).heap.get s.next=some (.cells [.nilslice,.nilslice,.nilslice,.nilslice] 28 false):=Bl.trans (if_pos rfl)
   have lB:(sA.put s.next (some (.cells [.nilslice,.nilslice,.nilslice,.nilslice] 28 false))).log=[]:=chg_none (s:=s.enter) (cA.trans Chg.put (own:=fun c=>s.next≤c) (fun _ h=>h.elim) (fun c h=> .inl (by omega)) (Qj _)) rfl
   have hE:ListsE encIF (sA.put s.next (some (.cells [.nilslice,.nilslice,.nilslice,.nilslice] 28 false))) (s.next+1) ⟨[],[],[],[]⟩ .nilslice .nilslice .nilslice .nilslice:=⟨Grown.nil _ _ _,Grown.nil _ _ _,Grown.nil _ _ _,Grown.nil _ _ _,(fun _ h=>by cases h),(fun _ h=>by cases h),(fun _ h=>by cases h),fun _ h=>by cases h⟩
   refine Aa (BP ⟨.inl U,_,rfl,[.agg [.nilslice,.nilslice,.nilslice,.nilslice],.bool false],D0 U U U e0 (Qj 4) (Aj U U),_,DA hE (by omega) bA lB,.inr ⟨fun⟨c,hc⟩=>?_,_,rfl⟩,rfl⟩)
   obtain⟨ts2,h1,_⟩:=(all_lines (Qj _)).1 hc
   rw[hp]at h1
   exact hz (List.cons.inj (List.append_inj h1 (by have:=congrArg List.length h1;simpa using this)).2).1
theorem frz_F {s:St} {m:Nat} {c:CodeT} {v:AV} (hv:frzV s m 39 v []=some (v,[])):frzV s m 40 (.tuple [.agg (encF c),v]) []=some (.tuple [.agg (encF c),v],[]):=by
 have h1:∀ks,frzV.many (frzV s m 38) (encF c) ks=some (encF c,ks):=frz_all fun v hv ks=>by
  unfold encF at hv
  simp only[Qk,List.not_mem_nil,or_false]at hv
  rcases hv with rfl|rfl|rfl|rfl<;>exact frz_lst
 have h2:frzV s m 39 (.agg (encF c)) []=some (.agg (encF c),[]):=by
  show((frzV.many (frzV s m 38) (encF c) []).bind _)=_
  rw[h1];rfl
 show((((frzV s m 39 (.agg (encF c)) []).bind _)).bind _)=_
 rw[h2]
 show((((frzV s m 39 v []).bind _).bind _).bind _)=_
 rw[hv];rfl
theorem under_F {m:Nat} {c:CodeT} {v:AV} (hv:underV m 39 v=true):underV m 40 (.tuple [.agg (encF c),v])=true:=by
 show(underV m 39 (.agg (encF c))&&(underV m 39 v&&true))=true
 rw[hv,Bool.and_true,Bool.and_true]
 unfold encF
 rcases A3 encN 2 c.cons with e1|⟨_,_,e1⟩<;>rcases A3 encN 2 c.funs with e2|⟨_,_,e2⟩<;>rcases A3 encIF 7 c.ins with e3|⟨_,_,e3⟩<;>rcases A3 encZ 1 c.starts with e4|⟨_,_,e4⟩<;>rw[e1,e2,e3,e4]<;>rfl
theorem rread_to (t:List UInt8) (ht:t.length≤3000∨40000<t.length):CallTo (EK R17) 23 [.str t] S0 (readV encF t):=by
 refine Ax (fn:=Tryz.f23) U U (by kernel_rfl) U U U U ?_
 focus
  refine Es<|Lo (AE 1 U z_28 U) rfl<|qa rfl<|Ld<|Ab<|Es<|qm rfl<|Lq (Aw U U U U u_9 U) U ?_
  refine Lq (o2 u_3 U U) rfl<|Ld ?_
  refine Ec U (fun g1=>?_) (fun g1=>?_)
  have h1:=dT g1
  refine Es<|Lq (AJ U pl_28 U U) rfl<|Ak (A4 U Bg U U U U U U) U rfl<|qa rfl<|Ld ?_
  refine Aa ⟨.inl U,rfl,rfl,rfl,_,_,_,(Ej U DU Bg U (Qc U) (Aj U U)),rfl,rfl,?_⟩
  rotate_left
  have h1:=dF g1
  refine Ae<|Es<|qm U ?_
  rotate_left
 ·unfold readV
  rw[if_pos (by omega)];rfl
 have ht2:t.length≤3000:=by omega
 refine Ay U U (by kernel_rfl) U U U U ((parse_run (by omega)).mono (fun v s' ⟨hv,hs⟩=>?_) fun _ _ h=>h.elim)
 subst hs
 rcases hv with⟨c,hA,rfl⟩|⟨hn,c,rfl⟩
 ·have hf:=hA.fit ht2
  have hit_24:R17 24 [.agg (encF c)]=some (.bool (codeV c)):=hit_24 hf
  rw[readV_ok (by omega) hA]
  cases hc:codeV c with
  |true=>
   rw[hc]at hit_24
   refine qm U ?_
   iterate 2 refine Lq (oe U) U ?_
   refine Lo (AE 2 U z_28 U) rfl<|Ak (A4 U Bg U U U U U U) U rfl<|qa rfl<|Ld<|Ab<|Es<|qm rfl<|Lq (on U) U ?_
   refine Ld<|Ap U rfl<|Ae<|Ab<|Es<|Lo (AM U DU Bg U U (Qc U)) U ?_
   refine Lo (Ad U U (by kernel_rfl) U (Ac (hit_24))) rfl<|Lq (on U) rfl<|Ld<|Ap U rfl<|Ae<|Es<|Lo (AM U DU Bg U U (Qc U)) rfl<|Ak (A4 U Bg U U U U U U) U U ?_
   refine qa rfl<|Ld ?_
   exact Aa ⟨.inl U,rfl,rfl,rfl,[.agg (encF c),.int .i64 0],.tuple [.agg (encF c),.int .i64 0],[],Ej (k:=4) (cs:=encF c) U U U U (Qj 4) (Aj U U),frz_F U,under_F U,rfl⟩
  |false=>
   rw[hc]at hit_24
   refine qm U ?_
   iterate 2 refine Lq (oe U) U ?_
   refine Lo (AE 2 U z_28 U) rfl<|Ak (A4 U Bg U U U U U U) U rfl<|qa rfl<|Ld<|Ab<|Es<|qm rfl<|Lq (on U) U ?_
   refine Ld<|Ap U rfl<|Ae<|Ab<|Es<|Lo (AM U DU Bg U U (Qc U)) U ?_
   refine Lo (Ad U U (by kernel_rfl) U (Ac (hit_24))) rfl<|Lq (on U) rfl<|Ld<|Ai U rfl<|Es<|Lq (AJ U pl_28 U U) rfl<|Ak (A4 U Bg U U U U U U) U rfl<|qa U ?_
   refine Ld ?_
   refine Aa ⟨.inl U,rfl,rfl,rfl,_,_,_,(Ej U DU Bg U (Qc U) (Aj U U)),rfl,rfl,?_⟩
   rfl
 ·rw[readV_no (by omega) hn]
  refine qm U ?_
  iterate 2 refine Lq (oe U) U ?_
  refine Lo (AE 2 U z_28 U) rfl<|Ak (A4 U Bg U U U U U U) U rfl<|qa rfl<|Ld<|Ab<|Es<|qm rfl<|Lq (on U) U ?_
  refine Ld<|Ai U rfl<|Es<|Lq (AJ U pl_28 U U) rfl<|Ak (A4 U Bg U U U U U U) U rfl<|qa rfl<|Ld ?_
  refine Aa ⟨.inl U,rfl,rfl,rfl,_,_,_,(Ej U DU Bg U (Qc U) (Aj U U)),rfl,rfl,?_⟩
  rfl
noncomputable def R18:=addC R17 23 (fun t:TxtT=>[.str t.1]) (fun t=>readV encF t.1)
theorem hit_23 {t:List UInt8} (ht:t.length≤3000∨40000<t.length):R18 23 [.str t]=some (readV encF t):=
 A2 (f:=23) (enc:=fun t:TxtT=>[.str t.1]) (res:=fun t=>readV encF t.1) (by rintro⟨a,_⟩ ⟨b,_⟩ h;cases h;rfl) ⟨t,ht⟩
theorem sints_to (a:List Int) (ha:a.length≤4000):CallTo (EK R18) 15 [recs encZ 1 a,recs encZ 1 a] S0 (.bool true):=by
 refine Ax (fn:=Tryz.f15) U U (by kernel_rfl) U U U U ?_
 focus
  refine Es<|qa rfl<|Ld<|Ab<|Es<|qm rfl<|Lq (ol D6 U) rfl<|qm U ?_
  refine Lq (ol D6 U) rfl<|Lq (o2 u_3 U U) rfl<|Ld ?_
  refine Ec U (fun g1=>?_) (fun g1=>?_)
  have h1:=nT g1
  exact absurd h1 (by omega)
  have h1:=nF g1
  refine Ae<|Ab<|Es<|qa rfl<|Ld<|Af ?_
  rotate_left
 refine A5 (fun i:Nat=>([(5,.int .i64 (i:Nat)),(1,recs encZ 1 a),(0,recs encZ 1 a)],mkS 0 0 [] [])) (fun i=>a.length-i) (fun i=>i≤a.length) 0 (Qn _) U (by(refine Am.Av ?_;repeat (first|exact trivial|refine⟨rfl,?_⟩))) ?_
 rintro i hi
 dsimp only at hi⊢
 by_cases h:i<a.length
 ·have hp:=AC Be h
  focus
   refine Ab<|Es ?_
   iterate 2 refine qm U ?_
   refine Lq (ol D6 U) rfl<|Lq (o2 u_3 U U) rfl<|Ld ?_
   refine Ec U (fun g2=>?_) (fun g2=>?_)
   have h2:=dT g2
   refine Ae<|Ab<|Af<|AK (by kernel_rfl) ?_
   iterate 2 refine Nq (om U) U ?_
   refine Nq (Ag U D6 Bf U U ‹_›) rfl<|Nq (As U U B3 Bf) U ?_
   iterate 2 refine Nq (om U) U ?_
   refine Nq (Ag U D6 Bf U U ‹_›) rfl<|Nq (As U U B3 Bf) rfl<|Nq (o2 u_3 U U) rfl<|AG ?_
   refine Ec U (fun g3=>?_) (fun g3=>?_)
   have h3:=nT g3
   exact absurd h3 (by omega)
   have h3:=nF g3
   refine Ae<|Ao<|qm U ?_
   refine Lq (A0 (b:=1) U u_3 U U (by first|assumption|omega|(simp only[LL];omega))) U ?_
   refine qa rfl<|Ld ?_
   rotate_left
   have h2:=dF g2
   exact absurd h2 (by omega)
  exact⟨i+1,h,by show a.length-(i+1)<a.length-i;omega,rfl,rfl,by(refine Am.Av ?_;repeat (first|exact trivial|refine⟨rfl,?_⟩))⟩
 ·focus
   refine Ab<|Es ?_
   iterate 2 refine qm U ?_
   refine Lq (ol D6 U) rfl<|Lq (o2 u_3 U U) rfl<|Ld ?_
   refine Ec U (fun g2=>?_) (fun g2=>?_)
   have h2:=dT g2
   exact absurd h2 (by omega)
   have h2:=dF g2
   refine A9<|Bq rfl<|Es<|qa rfl<|Ld ?_
   refine Aa (Er U ?_)
   exact Ah U
abbrev ListZ:= {l:List Int//l.length≤4000}
noncomputable def R19:=addC R18 15 (fun p:ListZ=>[recs encZ 1 p.1,recs encZ 1 p.1]) (fun _=> .bool true)
theorem hit_15 {a:List Int} (ha:a.length≤4000):R19 15 [recs encZ 1 a,recs encZ 1 a]=some (.bool true):=
 A2 (f:=15) (enc:=fun p:ListZ=>[recs encZ 1 p.1,recs encZ 1 p.1]) (res:=fun _=> .bool true) (fun _ _ _=>rfl) ⟨a,ha⟩
theorem eqN_self (a:NameT):boolV true (eqKd (.flat [.string,.int .i64]) (.agg (encN a)) (.agg (encN a)))=some (.bool false):=by
 obtain⟨a1,a2⟩:=a
 show boolV true ((some (bytesEq a1 a1)).bind fun r=>bif r then(some (decide (a2=a2))).bind (fun r=>bif r then some true else some false)else some false)=_
 rw[Bn,decide_eq_true rfl]
 simp[boolV]
theorem snames_to (a:List NameT) (ha:a.length≤4000):CallTo (EK R19) 98 [recs encN 2 a,recs encN 2 a] S0 (.bool true):=by
 refine Ax (fn:=Tryz.f98) U U (by kernel_rfl) U U U U ?_
 focus
  refine Es<|qa rfl<|Ld<|Ab<|Es<|qm rfl<|Lq (ol DY U) rfl<|qm U ?_
  refine Lq (ol DY U) rfl<|Lq (o2 u_3 U U) rfl<|Ld ?_
  refine Ec U (fun g1=>?_) (fun g1=>?_)
  have h1:=nT g1
  exact absurd h1 (by omega)
  have h1:=nF g1
  refine Ae<|Ab<|Es<|qa rfl<|Ld<|Af ?_
  rotate_left
 refine A5 (fun i:Nat=>([(5,.int .i64 (i:Nat)),(1,recs encN 2 a),(0,recs encN 2 a)],mkS 0 0 [] [])) (fun i=>a.length-i) (fun i=>i≤a.length) 0 (Qn _) U (by(refine Am.Av ?_;repeat (first|exact trivial|refine⟨rfl,?_⟩))) ?_
 rintro i hi
 dsimp only at hi⊢
 by_cases h:i<a.length
 ·have hp:=AC AU h
  have he:=eqN_self a[i]
  focus
   refine Ab<|Es ?_
   iterate 2 refine qm U ?_
   refine Lq (ol DY U) rfl<|Lq (o2 u_3 U U) rfl<|Ld ?_
   refine Ec U (fun g2=>?_) (fun g2=>?_)
   have h2:=dT g2
   refine Ae<|Ab<|Af<|AK (by kernel_rfl) ?_
   iterate 2 refine Nq (om U) U ?_
   refine Nq (Ag U DY BS U U ‹_›) rfl<|Nq (Bb U U ag_54 BS (Qc U)) U ?_
   iterate 2 refine Nq (om U) U ?_
   refine Nq (Ag U DY BS U U ‹_›) rfl<|Nq (Bb U U ag_54 BS (Qc U)) rfl<|Nq (DM (neg:=true) U st_54 kd_54 U U ‹_›) rfl<|AG<|Ap U rfl<|Ae<|Ao<|qm U ?_
   refine Lq (A0 (b:=1) U u_3 U U (by first|assumption|omega|(simp only[LL];omega))) U ?_
   refine qa rfl<|Ld ?_
   rotate_left
   have h2:=dF g2
   exact absurd h2 (by omega)
  exact⟨i+1,h,by show a.length-(i+1)<a.length-i;omega,rfl,rfl,by(refine Am.Av ?_;repeat (first|exact trivial|refine⟨rfl,?_⟩))⟩
 ·focus
   refine Ab<|Es ?_
   iterate 2 refine qm U ?_
   refine Lq (ol DY U) rfl<|Lq (o2 u_3 U U) rfl<|Ld ?_
   refine Ec U (fun g2=>?_) (fun g2=>?_)
   have h2:=dT g2
   exact absurd h2 (by omega)
   have h2:=dF g2
   refine A9<|Bq rfl<|Es<|qa rfl<|Ld ?_
   refine Aa (Er U ?_)
   exact Ah U
abbrev ListN:= {l:List NameT//l.length≤4000}
noncomputable def R20:=addC R19 98 (fun p:ListN=>[recs encN 2 p.1,recs encN 2 p.1]) (fun _=> .bool true)
theorem hit_98 {a:List NameT} (ha:a.length≤4000):R20 98 [recs encN 2 a,recs encN 2 a]=some (.bool true):=
 A2 (f:=98) (enc:=fun p:ListN=>[recs encN 2 p.1,recs encN 2 p.1]) (res:=fun _=> .bool true) (fun _ _ _=>rfl) ⟨a,ha⟩
theorem ssig_to (a b:List NameT) (ha:a.length≤4000) (hb:b.length≤4000):CallTo (EK R20) 56 [.agg [recs encN 2 a,recs encN 2 b],.agg [recs encN 2 a,recs encN 2 b]] S0 (.bool true):=by
 refine Ax (fn:=Tryz.f56) U U (by kernel_rfl) U U U rfl<|Es<|Lo (AD 1 U U U U) rfl<|Lo (AD 2 U U U U) rfl<|qa rfl<|Ld<|Es<|Lq (of BU U) U ?_
 refine Lo (l1 B4 B2 U) rfl<|Lq (of BU U) rfl<|Lo (l1 B4 B2 U) U ?_
 refine Lo (Ad U U (by kernel_rfl) U (Ac (hit_98 (by first|assumption|omega|(simp only[LL];omega))))) U ?_
 refine qm rfl<|Lh U U (of BT U)<|Lg U U (l1 B4 B2 U)<|Lh U U (of BT U)<|Lg U U (l1 B4 B2 U) ?_
 refine Lg U U (Ad U U (by kernel_rfl) U (Ac (hit_98 (by first|assumption|omega|(simp only[LL];omega))))) ?_
 refine Lq (oT U U U) rfl<|qa rfl<|Ld ?_
 refine Aa (Er U ?_)
 exact Ah U
abbrev List2:= {p:List NameT×List NameT//p.1.length≤4000∧p.2.length≤4000}
noncomputable def R21:=addC R20 56 (fun p:List2=>[.agg [recs encN 2 p.1.1,recs encN 2 p.1.2],.agg [recs encN 2 p.1.1,recs encN 2 p.1.2]]) (fun _=> .bool true)
theorem hit_56 {a b:List NameT} (ha:a.length≤4000) (hb:b.length≤4000):R21 56 [.agg [recs encN 2 a,recs encN 2 b],.agg [recs encN 2 a,recs encN 2 b]]=some (.bool true):=
 A2 (f:=56) (enc:=fun p:List2=>[.agg [recs encN 2 p.1.1,recs encN 2 p.1.2],.agg [recs encN 2 p.1.1,recs encN 2 p.1.2]]) (res:=fun _=> .bool true) (fun _ _ _=>rfl) ⟨(a,b),ha,hb⟩
theorem eqA_self (a:AltT):boolV true (eqKd (.flat [.int .i64,.int .i64]) (.agg (encA a)) (.agg (encA a)))=some (.bool false):=by
 obtain⟨a1,a2⟩:=a
 show boolV true ((some (decide (a1=a1))).bind fun r=>bif r then(some (decide (a2=a2))).bind (fun r=>bif r then some true else some false)else some false)=_
 simp[boolV]
theorem sins_to (x:InsT) (w1:x.alts.length≤4000) (w2:x.to.length≤4000) (w3:x.args.length≤4000):CallTo (EK R21) 57 [.agg (encI x),.agg (encI x)] S0 (.bool true):=by
 refine Ax (fn:=Tryz.f57) U U (by kernel_rfl) U U U U ?_
 focus
  refine Es<|Lo (AD 1 U U U U) rfl<|Lo (AD 2 U U U U) rfl<|qa rfl<|Ld<|Ab<|Es<|Lq (of B1 U) U ?_
  refine Lo (l1 DT DN U) rfl<|Lq (of B1 U) rfl<|Lo (l1 DT DN U) rfl<|Lq (o2 BB U U) rfl<|qm U ?_
  refine Lb U (fun g1=>?_) (fun g1=>?_)
  have h1:=nT g1
  exact absurd h1 (by omega)
  have h1:=nF g1
  refine Lh U ‹_› (of DZ U)<|Lg U ‹_› (l1 B3 Bf U)<|Lh U ‹_› (of DZ U)<|Lg U ‹_› (l1 B3 Bf U)<|Lh U ‹_› (o2 u_3 U U)<|Lq (oF U ‹_› U) rfl<|qm U ?_
  refine Lb U (fun g2=>?_) (fun g2=>?_)
  have h2:=nT g2
  exact absurd h2 (by omega)
  have h2:=nF g2
  refine Lh U ‹_› (of f_58_4 U)<|Lg U ‹_› (l1 ag_37 sz_37 U)<|Lh U ‹_› (of f_58_4 U)<|Lg U ‹_› (l1 ag_37 sz_37 U)<|Lh U ‹_› (o2 u_37 U U)<|Lq (oF U ‹_› U) rfl<|qm U ?_
  refine Lb U (fun g3=>?_) (fun g3=>?_)
  have h3:=nT g3
  exact absurd h3 (by omega)
  have h3:=nF g3
  refine Lh U ‹_› (of BY U)<|Lg U ‹_› (l1 B3 Bf U)<|Lh U ‹_› (of BY U)<|Lg U ‹_› (l1 B3 Bf U)<|Lh U ‹_› (o2 u_3 U U)<|Lq (oF U ‹_› U) rfl<|qm U ?_
  refine Lb U (fun g4=>?_) (fun g4=>?_)
  have h4:=nT g4
  exact absurd h4 (by omega)
  have h4:=nF g4
  refine Lh U ‹_› (of D5 U)<|Lg U ‹_› (l1 ag_56 E7 U)<|Lh U ‹_› (ol u_56 U)<|Lh U ‹_› (of D5 U)<|Lg U ‹_› (l1 ag_56 E7 U)<|Lh U ‹_› (ol u_56 U)<|Lh U ‹_› (o2 u_3 U U)<|Lq (oF U ‹_› U) U ?_
  refine Ld ?_
  refine Ec U (fun g5=>?_) (fun g5=>?_)
  have h5:=nT g5
  exact absurd h5 (by omega)
  have h5:=nF g5
  refine Ae<|Ab<|Es<|qa rfl<|Ld<|Af ?_
  rotate_left
 refine A5 (fun i:Nat=>([(5,.int .i64 (i:Nat)),(3,.ptr 1 0),(2,.ptr 0 0)],mkS 2 0 [] [(1,some (.cells (encI x) 58 false)),(0,some (.cells (encI x) 58 false))])) (fun i=>x.alts.length-i) (fun i=>i≤x.alts.length) 0 (Qn _) U (by(refine Am.Av ?_;repeat (first|exact trivial|refine⟨rfl,?_⟩))) ?_
 rintro i hi
 dsimp only at hi⊢
 by_cases h:i<x.alts.length
 ·have hp:=AC EU h
  have he:=eqA_self x.alts[i]
  focus
   refine Ab<|Es<|qm rfl<|Lq (of D5 U) rfl<|Lo (l1 ag_56 E7 U) rfl<|Lq (ol u_56 U) rfl<|Lq (o2 u_3 U U) rfl<|Ld ?_
   refine Ec U (fun g6=>?_) (fun g6=>?_)
   have h6:=dT g6
   refine Ae<|Ab<|Af<|AK (by kernel_rfl)<|Nq (of D5 U) rfl<|AZ U ag_56 E7 U U U (by kernel_rfl) (.inl U) U rfl<|Nq (om U) rfl<|Nq (Ag U u_56 sz_60 U U ‹_›) U ?_
   refine Nq (Bb U U ag_60 sz_60 (Qc U)) rfl<|Nq (of D5 U) rfl<|AZ U ag_56 E7 U U U (by kernel_rfl) (.inl U) U rfl<|Nq (om U) rfl<|Nq (Ag U u_56 sz_60 U U ‹_›) rfl<|Nq (Bb U U ag_60 sz_60 (Qc U)) rfl<|Nq (DM (neg:=true) U st_60 kd_60 U U ‹_›) rfl<|AG ?_
   refine Ap U rfl<|Ae<|Ao<|qm U ?_
   refine Lq (A0 (b:=1) U u_3 U U (by first|assumption|omega|(simp only[LL];omega))) U ?_
   refine qa rfl<|Ld ?_
   rotate_left
   have h6:=dF g6
   exact absurd h6 (by omega)
  exact⟨i+1,h,by show x.alts.length-(i+1)<x.alts.length-i;omega,rfl,rfl,by(refine Am.Av ?_;repeat (first|exact trivial|refine⟨rfl,?_⟩))⟩
 ·focus
   refine Ab<|Es<|qm rfl<|Lq (of D5 U) rfl<|Lo (l1 ag_56 E7 U) rfl<|Lq (ol u_56 U) rfl<|Lq (o2 u_3 U U) rfl<|Ld ?_
   refine Ec U (fun g6=>?_) (fun g6=>?_)
   have h6:=dT g6
   exact absurd h6 (by omega)
   have h6:=dF g6
   refine A9<|Bq rfl<|Es<|Lq (of Em U) rfl<|Lo (l1 Dn BC U) rfl<|Lq (of Em U) rfl<|Lo (l1 Dn BC U) U ?_
   refine Lo (Ad U U (by kernel_rfl) U (Ac (hit_15 (by first|assumption|omega|(simp only[LL];omega))))) U ?_
   refine qm rfl<|Lh U U (of f_58_6 U)<|Lg U U (l1 Dn BC U)<|Lh U U (of f_58_6 U)<|Lg U U (l1 Dn BC U) ?_
   refine Lg U U (Ad U U (by kernel_rfl) U (Ac (hit_15 (by first|assumption|omega|(simp only[LL];omega))))) ?_
   refine Lq (oT U U U) rfl<|qa rfl<|Ld ?_
   refine Aa (Er U ?_)
   exact Ah U
structure InsL (x:InsT):Prop where
 alts:x.alts.length≤4000
 to:x.to.length≤4000
 args:x.args.length≤4000
abbrev InsSelf:= {x:InsT//InsL x}
noncomputable def R22:=addC R21 57 (fun p:InsSelf=>[.agg (encI p.1),.agg (encI p.1)]) (fun _=> .bool true)
theorem hit_57 {x:InsT} (h:InsL x):R22 57 [.agg (encI x),.agg (encI x)]=some (.bool true):=
 A2 (f:=57) (enc:=fun p:InsSelf=>[.agg (encI p.1),.agg (encI p.1)]) (res:=fun _=> .bool true) (fun _ _ _=>rfl) ⟨x,h⟩
theorem ssame_to (a:CodeT) (ha:Fits a):CallTo (EK R22) 22 [.agg (encC a),.agg (encC a)] S0 (.bool true):=by
 refine Ax (fn:=Tryz.f22) U U (by kernel_rfl) U U U U ?_
 have w1:=ha.cons
 have w2:=ha.funs
 have w3:=ha.ins
 have w4:=ha.starts
 focus
  refine Es<|Lo (AD 1 U U U U) rfl<|Lo (AD 2 U U U U) rfl<|qa rfl<|Ld<|Ab<|Es<|Lq (of DI U) U ?_
  refine Lo (AM U ag_24 sz_24 U U (Qc U)) rfl<|Lq (of DI U) rfl<|Lo (AM U ag_24 sz_24 U U (Qc U)) U ?_
  refine Lo (Ad U U (by kernel_rfl) U (Ac (hit_56 (by first|assumption|omega|(simp only[LL];omega)) (by first|assumption|omega|(simp only[LL];omega))))) U ?_
  refine Lq (on U) rfl<|qm rfl<|Lh U U (of ES U)<|Lg U U (l1 Dn BC U)<|Lh U U (of ES U)<|Lg U U (l1 Dn BC U) ?_
  refine Lg U U (Ad U U (by kernel_rfl) U (Ac (hit_15 (by first|assumption|omega|(simp only[LL];omega))))) ?_
  refine Lh U U (on U)<|Lq (oF U U U) rfl<|qm rfl<|Lh U U (of Bp U)<|Lg U U (l1 Du Dc U)<|Lh U U (ol u_25 U)<|Lh U U (of Bp U)<|Lg U U (l1 Du Dc U) ?_
  refine Lh U U (ol u_25 U)<|Lh U U (o2 u_3 U U)<|Lq (oF U U U) rfl<|Ld ?_
  refine Ec U (fun g1=>?_) (fun g1=>?_)
  have h1:=nT g1
  exact absurd h1 (by omega)
  have h1:=nF g1
  refine Ae<|Ab<|Es<|qa rfl<|Ld<|Af ?_
  rotate_left
 refine A5 (fun i:Nat=>([(5,.int .i64 (i:Nat)),(3,.ptr 1 0),(2,.ptr 0 0)],mkS 2 0 [] [(1,some (.cells (encC a) 28 false)),(0,some (.cells (encC a) 28 false))])) (fun i=>a.ins.length-i) (fun i=>i≤a.ins.length) 0 (Qn _) U (by(refine Am.Av ?_;repeat (first|exact trivial|refine⟨rfl,?_⟩))) ?_
 rintro i hi
 dsimp only at hi⊢
 by_cases h:i<a.ins.length
 ·have hp:=AC Ds h
  have q1:InsL a.ins[i]:=⟨ha.alts _ (Ql _),ha.to _ (Ql _),ha.args _ (Ql _)⟩
  focus
   refine Ab<|Es<|qm rfl<|Lq (of Bp U) rfl<|Lo (l1 Du Dc U) rfl<|Lq (ol u_25 U) rfl<|Lq (o2 u_3 U U) rfl<|Ld ?_
   refine Ec U (fun g2=>?_) (fun g2=>?_)
   have h2:=dT g2
   refine Ae<|Ab<|Af<|AK (by kernel_rfl)<|Nq (of Bp U) rfl<|AZ U Du Dc U U U (by kernel_rfl) (.inl U) U rfl<|Nq (om U) rfl<|Nq (Ag U u_25 AP U U ‹_›) U ?_
   refine Nq (Bb U U Dy AP (Qc U)) rfl<|Nq (of Bp U) rfl<|AZ U Du Dc U U U (by kernel_rfl) (.inl U) U rfl<|Nq (om U) rfl<|Nq (Ag U u_25 AP U U ‹_›) rfl<|Nq (Bb U U Dy AP (Qc U)) U ?_
   refine Et (B6 U U (by kernel_rfl) U (hit_57 (by first|assumption|omega|(simp only[LL];omega)))) (.inl U) U U ?_
   refine Nq (on U) rfl<|AG<|Ap U rfl<|Ae<|Ao<|qm U ?_
   refine Lq (A0 (b:=1) U u_3 U U (by first|assumption|omega|(simp only[LL];omega))) U ?_
   refine qa rfl<|Ld ?_
   rotate_left
   have h2:=dF g2
   exact absurd h2 (by omega)
  exact⟨i+1,h,by show a.ins.length-(i+1)<a.ins.length-i;omega,rfl,rfl,by(refine Am.Av ?_;repeat (first|exact trivial|refine⟨rfl,?_⟩))⟩
 ·focus
   refine Ab<|Es<|qm rfl<|Lq (of Bp U) rfl<|Lo (l1 Du Dc U) rfl<|Lq (ol u_25 U) rfl<|Lq (o2 u_3 U U) rfl<|Ld ?_
   refine Ec U (fun g2=>?_) (fun g2=>?_)
   have h2:=dT g2
   exact absurd h2 (by omega)
   have h2:=dF g2
   refine A9<|Bq rfl<|Es<|qa rfl<|Ld ?_
   refine Aa (Er U ?_)
   exact Ah U
noncomputable def R23:=addC R22 22 (fun p:FitT=>[.agg (encC p.1),.agg (encC p.1)]) (fun _=> .bool true)
theorem hit_C_22 {x:CodeT} (h:Fits x):R23 22 [.agg (encC x),.agg (encC x)]=some (.bool true):=
 A2 (f:=22) (enc:=fun p:FitT=>[.agg (encC p.1),.agg (encC p.1)]) (res:=fun _=> .bool true) (fun _ _ _=>rfl) ⟨x,h⟩
noncomputable def R24:=addC R23 22 (fun p:FitT=>[.agg (encR p.1),.agg (encF p.1)]) (fun _=> .bool true)
theorem hit_22 {x:CodeT} (h:Fits x):R24 22 [.agg (encR x),.agg (encF x)]=some (.bool true):=
 A2 (f:=22) (enc:=fun p:FitT=>[.agg (encR p.1),.agg (encF p.1)]) (res:=fun _=> .bool true) (fun _ _ _=>rfl) ⟨x,h⟩
theorem hit_10:K0 10 []=some (.bool true):=rfl
theorem readV_two {t:List UInt8} (ht:t.length≤3000∨40000<t.length):(∃c,Fits c∧readV encR t= .tuple [.agg (encR c),.int .i64 0]∧readV encF t= .tuple [.agg (encF c),.int .i64 0])∨∃e:Int,readV encR t= .tuple [zeroC,.int .i64 e]∧readV encF t= .tuple [zeroC,.int .i64 e]:=by
 by_cases hl:40000<t.length
 ·refine .inr ⟨3,?_,?_⟩<;>(unfold readV;rw[if_pos hl])
 ·by_cases h:∃c,AllR 0 ⟨[],[],[],[]⟩ t c
  ·obtain⟨c,hc⟩:=h
   rw[readV_ok hl hc,readV_ok hl hc]
   cases hv:codeV c with
   |true=>exact .inl ⟨c,hc.fit (by omega),rfl,rfl⟩
   |false=>exact .inr ⟨2,rfl,rfl⟩
  ·rw[readV_no hl h,readV_no hl h]
   exact .inr ⟨4,rfl,rfl⟩
theorem fits0:Fits ⟨[],[],[],[]⟩:=⟨Qn _,Qn _,Qn _,Qn _,(fun _ h=>by cases h),(fun _ h=>by cases h),(fun _ h=>by cases h),(fun _ h=>by cases h),fun _ h=>by cases h⟩
theorem reads_to (t:List UInt8):CallTo (EK R24) 6 [.str t] S0 (.bool true):=by
 refine Ax (fn:=Tryz.f6) U U (by kernel_rfl) U U U U ?_
 by_cases ht:t.length≤3000∨40000<t.length
 ·have h1:=hit_21 ht
  have h2:=hit_23 ht
  rcases readV_two ht with⟨c,hf,e1,e2⟩|⟨e,e1,e2⟩
  ·rw[e1]at h1
   rw[e2]at h2
   have hit_21:R24 21 [.str t]=some (.tuple [.agg (encR c),.int .i64 0]):=h1
   have hit_23:R24 23 [.str t]=some (.tuple [.agg (encF c),.int .i64 0]):=h2
   have hit_22:=hit_22 hf
   focus
    refine Es<|qa rfl<|Ld<|Ab<|Es<|qm rfl<|Lq (Aw U U U U u_9 U) rfl<|Lq (o2 u_3 U U) U ?_
    refine qm U ?_
    refine Lb U (fun g1=>?_) (fun g1=>?_)
    have h1:=dT g1
    refine Lh U ‹_› (om U)<|Lh U ‹_› (Aw U U U U u_9 U)<|Lh U ‹_› (o2 u_3 U U)<|Lq (oT U ‹_› U) rfl<|qm U ?_
    refine Lb U (fun g2=>?_) (fun g2=>?_)
    have h2:=dT g2
    exact absurd h2 (by omega)
    have h2:=dF g2
    refine Lh U ‹_› (om U)<|Lh U ‹_› (Aw U U U U u_9 U)<|Lh U ‹_› (o2 u_3 U U)<|Lq (oF U ‹_› U) rfl<|Ld ?_
    refine Ec U (fun g3=>?_) (fun g3=>?_)
    have h3:=dT g3
    refine Es ?_
    refine Lo (Ad U U (by kernel_rfl) U (Ac (hit_10))) rfl<|qa rfl<|Ld ?_
    refine Aa (Er U ?_)
    exact Ah U
    have h3:=dF g3
    refine Ae<|Es<|qm U ?_
    refine Lo (Ad U U (by kernel_rfl) U (Ac (hit_21))) rfl<|qm U ?_
    iterate 2 refine Lq (oe U) U ?_
    refine Lo (AE 1 U z_28 U) rfl<|Ak (A4 U Bg U U U U U U) U rfl<|qa rfl<|Ld<|Es<|qm U ?_
    refine Lo (Ad U U (by kernel_rfl) U (Ac (hit_23))) rfl<|qm U ?_
    iterate 2 refine Lq (oe U) U ?_
    refine Lo (AE 2 U z_28 U) rfl<|Ak (A4 U Bg U U U U U U) U rfl<|qa rfl<|Ld<|Es ?_
    iterate 2 refine qm U ?_
    refine Lq (o2 u_31 U U) rfl<|qm U ?_
    iterate 2 refine Lg U U (AM U DU Bg U U (Qc U)) ?_
    refine Lg U U (Ad U U (by kernel_rfl) U (Ac (hit_22)))<|Lq (oT U U U) rfl<|qm U ?_
    refine Lg U U (Ad U U (by kernel_rfl) U (Ac (hit_10)))<|Lq (oT U U U) rfl<|qa rfl<|Ld ?_
    refine Aa (Er U ?_)
    exact Ah U
    have h1:=dF g1
    iterate 3 refine Lk U ‹_› ?_
    refine Lq (oF U ‹_› U) rfl<|qm rfl<|Lh U U (om U)<|Lh U U (Aw U U U U u_9 U)<|Lh U U (o2 u_3 U U)<|Lq (oF U U U) rfl<|Ld ?_
    refine Ec U (fun g4=>?_) (fun g4=>?_)
    have h4:=dT g4
    exact absurd h4 (by omega)
    have h4:=dF g4
    refine Ae<|Es<|qm U ?_
    refine Lo (Ad U U (by kernel_rfl) U (Ac (hit_21))) rfl<|qm U ?_
    iterate 2 refine Lq (oe U) U ?_
    refine Lo (AE 1 U z_28 U) rfl<|Ak (A4 U Bg U U U U U U) U rfl<|qa rfl<|Ld<|Es<|qm U ?_
    refine Lo (Ad U U (by kernel_rfl) U (Ac (hit_23))) rfl<|qm U ?_
    iterate 2 refine Lq (oe U) U ?_
    refine Lo (AE 2 U z_28 U) rfl<|Ak (A4 U Bg U U U U U U) U rfl<|qa rfl<|Ld<|Es ?_
    iterate 2 refine qm U ?_
    refine Lq (o2 u_31 U U) rfl<|qm U ?_
    iterate 2 refine Lg U U (AM U DU Bg U U (Qc U)) ?_
    refine Lg U U (Ad U U (by kernel_rfl) U (Ac (hit_22)))<|Lq (oT U U U) rfl<|qm U ?_
    refine Lg U U (Ad U U (by kernel_rfl) U (Ac (hit_10)))<|Lq (oT U U U) rfl<|qa rfl<|Ld ?_
    refine Aa (Er U ?_)
    exact Ah U
  ·rw[e1]at h1
   rw[e2]at h2
   have hit_21:R24 21 [.str t]=some (.tuple [.agg (encR ⟨[],[],[],[]⟩),.int .i64 e]):=h1
   have hit_23:R24 23 [.str t]=some (.tuple [.agg (encF ⟨[],[],[],[]⟩),.int .i64 e]):=h2
   have hit_22:=hit_22 fits0
   focus
    refine Es<|qa rfl<|Ld<|Ab<|Es<|qm rfl<|Lq (Aw U U U U u_9 U) rfl<|Lq (o2 u_3 U U) U ?_
    refine qm U ?_
    refine Lb U (fun g1=>?_) (fun g1=>?_)
    have h1:=dT g1
    refine Lh U ‹_› (om U)<|Lh U ‹_› (Aw U U U U u_9 U)<|Lh U ‹_› (o2 u_3 U U)<|Lq (oT U ‹_› U) rfl<|qm U ?_
    refine Lb U (fun g2=>?_) (fun g2=>?_)
    have h2:=dT g2
    exact absurd h2 (by omega)
    have h2:=dF g2
    refine Lh U ‹_› (om U)<|Lh U ‹_› (Aw U U U U u_9 U)<|Lh U ‹_› (o2 u_3 U U)<|Lq (oF U ‹_› U) rfl<|Ld ?_
    refine Ec U (fun g3=>?_) (fun g3=>?_)
    have h3:=dT g3
    refine Es ?_
    refine Lo (Ad U U (by kernel_rfl) U (Ac (hit_10))) rfl<|qa rfl<|Ld ?_
    refine Aa (Er U ?_)
    exact Ah U
    have h3:=dF g3
    refine Ae<|Es<|qm U ?_
    refine Lo (Ad U U (by kernel_rfl) U (Ac (hit_21))) rfl<|qm U ?_
    iterate 2 refine Lq (oe U) U ?_
    refine Lo (AE 1 U z_28 U) rfl<|Ak (A4 U Bg U U U U U U) U rfl<|qa rfl<|Ld<|Es<|qm U ?_
    refine Lo (Ad U U (by kernel_rfl) U (Ac (hit_23))) rfl<|qm U ?_
    iterate 2 refine Lq (oe U) U ?_
    refine Lo (AE 2 U z_28 U) rfl<|Ak (A4 U Bg U U U U U U) U rfl<|qa rfl<|Ld<|Es ?_
    iterate 2 refine qm U ?_
    refine Lq (o2 u_31 U U) rfl<|qm U ?_
    refine Lb U (fun g4=>?_) (fun g4=>?_)
    have h4:=dT g4
    iterate 2 refine Lg U ‹_› (AM U DU Bg U U (Qc U)) ?_
    refine Lg U ‹_› (Ad U U (by kernel_rfl) U (Ac (hit_22)))<|Lq (oT U ‹_› U) rfl<|qm U ?_
    refine Lg U U (Ad U U (by kernel_rfl) U (Ac (hit_10)))<|Lq (oT U U U) rfl<|qa rfl<|Ld ?_
    refine Aa (Er U ?_)
    exact Ah U
    have h4:=dF g4
    exact absurd h4 (by omega)
    have h1:=dF g1
    iterate 3 refine Lk U ‹_› ?_
    refine Lq (oF U ‹_› U) rfl<|qm rfl<|Lh U U (om U)<|Lh U U (Aw U U U U u_9 U)<|Lh U U (o2 u_3 U U)<|Lq (oF U U U) rfl<|Ld ?_
    refine Ec U (fun g5=>?_) (fun g5=>?_)
    have h5:=dT g5
    exact absurd h5 (by omega)
    have h5:=dF g5
    refine Ae<|Es<|qm U ?_
    refine Lo (Ad U U (by kernel_rfl) U (Ac (hit_21))) rfl<|qm U ?_
    iterate 2 refine Lq (oe U) U ?_
    refine Lo (AE 1 U z_28 U) rfl<|Ak (A4 U Bg U U U U U U) U rfl<|qa rfl<|Ld<|Es<|qm U ?_
    refine Lo (Ad U U (by kernel_rfl) U (Ac (hit_23))) rfl<|qm U ?_
    iterate 2 refine Lq (oe U) U ?_
    refine Lo (AE 2 U z_28 U) rfl<|Ak (A4 U Bg U U U U U U) U rfl<|qa rfl<|Ld<|Es ?_
    iterate 2 refine qm U ?_
    refine Lq (o2 u_31 U U) rfl<|qm U ?_
    refine Lb U (fun g6=>?_) (fun g6=>?_)
    have h6:=dT g6
    iterate 2 refine Lg U ‹_› (AM U DU Bg U U (Qc U)) ?_
    refine Lg U ‹_› (Ad U U (by kernel_rfl) U (Ac (hit_22)))<|Lq (oT U ‹_› U) rfl<|qm U ?_
    refine Lg U U (Ad U U (by kernel_rfl) U (Ac (hit_10)))<|Lq (oT U U U) rfl<|qa rfl<|Ld ?_
    refine Aa (Er U ?_)
    exact Ah U
    have h6:=dF g6
    exact absurd h6 (by omega)
 ·focus
   refine Es<|qa rfl<|Ld<|Ab<|Es<|qm rfl<|Lq (Aw U U U U u_9 U) rfl<|Lq (o2 u_3 U U) U ?_
   refine qm U ?_
   refine Lb U (fun g1=>?_) (fun g1=>?_)
   have h1:=dT g1
   refine Lh U ‹_› (om U)<|Lh U ‹_› (Aw U U U U u_9 U)<|Lh U ‹_› (o2 u_3 U U)<|Lq (oT U ‹_› U) rfl<|qm U ?_
   refine Lb U (fun g2=>?_) (fun g2=>?_)
   have h2:=dT g2
   iterate 3 refine Lk U ‹_› ?_
   refine Lq (oT U ‹_› U) rfl<|Ld<|Ai U rfl<|Es ?_
   refine Lo (Ad U U (by kernel_rfl) U (Ac (hit_10))) rfl<|qa rfl<|Ld ?_
   refine Aa (Er U ?_)
   exact Ah U
   have h2:=dF g2
   exact absurd h2 (by omega)
   have h1:=dF g1
   exact absurd h1 (by omega)
end Go.Proofs.YtpihdbhocgcbpaaGreatDoor.Rd
open Go Am
namespace Am
theorem callsF_of {P:Program} {nt nf:Nat} {F:FuncId→Nat} {K:FuncId→List AV→Option AV} {gl:Glob} (hp:ProgOk P nt nf) (hK:KnownGs P gl K) {f:FuncId} {args:List AV} {b:Bool} (hmf:K f args=none) (h:CallTo (envF P nt nf F K gl) f args S0 (.bool b))
 {w:World} {xs:Array Value} (hg:GlobS gl (Cx.memory w)) (ha:VRs (Cx.memory w) args xs.toList):Calls P f xs w fun e w'=>e= .returned (.bool b)∧Go.RowKit.Below w.heap.size w w':=by
 have hno:∀b o,¬S0.heap.get b=some o:=fun b o hb=>by rw[show S0.heap= .nil from rfl,Br]at hb;cases hb
 obtain⟨N,h⟩:=h
 have hc:=callF_calls (envF_ok (F:=F) (K:=K) (gl:=gl) hp) (envF_ext hp) (envF_memo hK) (n:=N) (f:=f) (args:=args) (v:= .bool b) hmf (h N (Qj _)) (C:=Cx.memory w) (w:=w) (xs:=xs) hg ha (memory_st w)
 intro cs
 obtain⟨e,w',fr,⟨C2,x,he',t,hv⟩,h2,h3,h4⟩:=hc cs
 refine⟨e,w',fr,⟨?_,⟨t.misc.2.1,t.misc.1,t.misc.2.2,t.size,fun k hk=>t.frame k hk fun b o hb=>absurd hb (hno b o)⟩⟩,h2,h3,h4⟩
 cases hv
 exact he'
end Am
namespace Go.Proofs.YtpihdbhocgcbpaaGreatDoor.Rd
abbrev gn:Glob:=fun _=>none
theorem AS:∀g cs,gn g=some cs→cs.all (closedV 40)=true:=fun _ _ h=>by cases h
theorem readV_closed (enc:CodeT→List AV) (h:∀c,(enc c).all (closedV 38)=true) (t:List UInt8):closedV 40 (readV enc t)=true:=by
 unfold readV
 split
 ·rfl
 ·split
  ·split
   ·show(((enc _).all (closedV 38))&&(true&&true))=true
    rw[h];rfl
   ·rfl
  ·rfl
theorem encR_closed (c:CodeT):(encR c).all (closedV 38)=true:=by
 unfold encR
 rcases A3 encN 2 c.cons with e1|⟨_,_,e1⟩<;>rcases A3 encN 2 c.funs with e2|⟨_,_,e2⟩<;>rcases A3 encIR 7 c.ins with e3|⟨_,_,e3⟩<;>rcases A3 encZ 1 c.starts with e4|⟨_,_,e4⟩<;>rw[e1,e2,e3,e4]<;>rfl
theorem encF_closed (c:CodeT):(encF c).all (closedV 38)=true:=by
 unfold encF
 rcases A3 encN 2 c.cons with e1|⟨_,_,e1⟩<;>rcases A3 encN 2 c.funs with e2|⟨_,_,e2⟩<;>rcases A3 encIF 7 c.ins with e3|⟨_,_,e3⟩<;>rcases A3 encZ 1 c.starts with e4|⟨_,_,e4⟩<;>rw[e1,e2,e3,e4]<;>rfl
theorem insW_closed (p:InsT×Bool):closedV 40 (insW p)=true:=by
 obtain⟨x,b⟩:=p
 unfold insW
 rcases A3 encA 2 x.alts with e1|⟨_,_,e1⟩<;>rcases A3 encZ 1 x.to with e2|⟨_,_,e2⟩<;>rcases A3 encZ 1 x.args with e3|⟨_,_,e3⟩<;>cases b<;>(try unfold encIF)<;>(try unfold encIR)<;>dsimp only<;>rw[e1,e2,e3]<;>(repeat' split)<;>rfl
theorem rall9 (h:KnownF Tryz.prog 10 [] (.bool true)):KnownGs Tryz.prog gn R9:=by
 have a0:=rall0 h
 have a1:KnownGs Tryz.prog gn R1:=AY AB AS a0 (fun p:List UInt8×UInt8=>index_to p.1 p.2) (fun _=>rfl) (fun _=>rfl)
 have a1s:KnownGs Tryz.prog gn R1s:=AY AB AS a1 (fun p:List UInt8×UInt8=>sindex_to p.1 p.2) (fun _=>rfl) (fun _=>rfl)
 have a2:KnownGs Tryz.prog gn R2:=AY AB AS a1s (fun p:Str5×UInt8=>cut_to p.1.1 p.2 p.1.2) (fun _=>rfl) (fun p=>by unfold cutV;split<;>rfl)
 have a3:KnownGs Tryz.prog gn R3:=AY AB AS a2 (fun p:SplitT=>genSplit_to p.1.1 p.2 p.1.2) (fun _=>rfl) (fun _=>rfl)
 have a4:KnownGs Tryz.prog gn R4:=AY AB AS a3 (fun p:SplitT=>split_to p.1.1 p.2 p.1.2) (fun _=>rfl) (fun _=>rfl)
 have a5a:KnownGs Tryz.prog gn R5a:=AY AB AS a4 (fun _:Unit=>must_to) (fun _=>rfl) (fun _=>rfl)
 have a5:KnownGs Tryz.prog gn R5:=DB a5a fun w:Str5=>knownF_of AB AS a4 (trim_to w.1 w.2) rfl rfl
 have a6:KnownGs Tryz.prog gn R6:=AY AB AS a5 (fun w:NumT=>number_to w.1 w.2.1 w.2.2) (fun _=>rfl) (fun _=>rfl)
 have a7:KnownGs Tryz.prog gn R7:=DB a6 fun _=>word_known.g
 have a8:KnownGs Tryz.prog gn R8:=DB a7 fun w=>by
  by_cases h:w∈wordsL
  ·exact(opOf_known h).g
  ·exact knownF_of AB AS a7 (opOf_to w h) U U
 exact AY AB AS a8 kindOf_to (fun _=>rfl) (fun _=>rfl)
theorem rall18 (h:KnownF Tryz.prog 10 [] (.bool true)):KnownGs Tryz.prog gn R18:=by
 have a10:KnownGs Tryz.prog gn R10:=AY AB AS (rall9 h) (fun t:TxtT=>read_to t.1 t.2) (fun _=>rfl) (fun t=>readV_closed _ encR_closed t.1)
 have a11:KnownGs Tryz.prog gn R11:=AY AB AS a10 (fun p:SplitT=>rsplit_to p.1.1 p.2 p.1.2) (fun _=>rfl) (fun _=>rfl)
 have a12:KnownGs Tryz.prog gn R12:=AY AB AS a11 (fun w:Str5=>integer_to _ w.1 (Qj _) w.2) (fun _=>rfl) (fun _=>rfl)
 have a13:KnownGs Tryz.prog gn R13:=AY AB AS a12 (fun w:Str5=>letters_to w.1 w.2) (fun _=>rfl) (fun _=>rfl)
 have a14:KnownGs Tryz.prog gn R14:=AY AB AS a13 (fun l:WordsT=>integers_to l.1 l.2.1 l.2.2) (fun _=>rfl) (fun l=>by
  unfold intsV
  split
  ·rcases A3 encZ 1 (l.1.map fun w=>(intR w).1)with e|⟨_,_,e⟩<;>rw[e]<;>rfl
  ·rfl)
 have a15:KnownGs Tryz.prog gn R15:=AY AB AS a14 (fun l:WordsT=>alternatives_to l.1 l.2.1 l.2.2) (fun _=>rfl) (fun l=>by
  unfold altsV
  split
  ·rcases A3 encA 2 (l.1.map altF)with e|⟨_,_,e⟩<;>rw[e]<;>rfl
  ·rfl)
 have a16:KnownGs Tryz.prog gn R16:=AY AB AS a15 (fun _:Unit=>words_to) (fun _=>rfl) (fun _=>rfl)
 have a17:KnownGs Tryz.prog gn R17:=AY AB AS a16 (fun p:LineT=>Fc p.1.1 p.1.2 p.2.1 p.2.2) (fun _=>rfl) (fun p=>insW_closed _)
 exact AY AB AS a17 (fun t:TxtT=>rread_to t.1 t.2) (fun _=>rfl) (fun t=>readV_closed _ encF_closed t.1)
theorem rall24 (h:KnownF Tryz.prog 10 [] (.bool true)):KnownGs Tryz.prog gn R24:=by
 have a19:KnownGs Tryz.prog gn R19:=AY AB AS (rall18 h) (fun p:ListZ=>sints_to p.1 p.2) (fun _=>rfl) (fun _=>rfl)
 have a20:KnownGs Tryz.prog gn R20:=AY AB AS a19 (fun p:ListN=>snames_to p.1 p.2) (fun _=>rfl) (fun _=>rfl)
 have a21:KnownGs Tryz.prog gn R21:=AY AB AS a20 (fun p:List2=>ssig_to p.1.1 p.1.2 p.2.1 p.2.2) (fun _=>rfl) (fun _=>rfl)
 have a22:KnownGs Tryz.prog gn R22:=AY AB AS a21 (fun p:InsSelf=>sins_to p.1 p.2.alts p.2.to p.2.args) (fun _=>rfl) (fun _=>rfl)
 have a23:KnownGs Tryz.prog gn R23:=AY AB AS a22 (fun p:FitT=>ssame_to p.1 p.2) (fun _=>rfl) (fun _=>rfl)
 exact DB a23 fun p=>(a23 22 [.agg (encC p.1),.agg (encC p.1)] _ (hit_C_22 p.2)).weak (.cons (wk_r _) (.cons (wk_f _) .nil))
theorem reads_calls (h:KnownF Tryz.prog 10 [] (.bool true)) (w:World) (t:List UInt8) {x:Value} (hx:VR (Cx.memory w) (.str t) x):
 Calls Tryz.prog 6 #[x] w fun e w'=>e= .returned (.bool true)∧Go.RowKit.Below w.heap.size w w':=
 callsF_of AB (rall24 h) (args:=[.str t]) (by rfl) (reads_to t) (fun _ _ h=>by cases h) (.cons hx .nil)
end Go.Proofs.YtpihdbhocgcbpaaGreatDoor.Rd
