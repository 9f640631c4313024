/- Code: reading: lines, all of them. -/
import Derived.Test.YtpihdbhocgcbpaaGreatDoorCdC
set_option linter.unusedSectionVars false
set_option linter.unusedVariables false
set_option linter.unusedSimpArgs false
open Go Am
namespace Go.Proofs.YtpihdbhocgcbpaaGreatDoor.Rd
structure ListsE (E:InsT→List AV) (s:St) (rb:Nat) (c:CodeT) (vc vf vi vs:AV):Prop where
 cons:Grown s 54 2 vc (c.cons.flatMap encN) c.cons.length
 funs:Grown s 54 2 vf (c.funs.flatMap encN) c.funs.length
 ins:Grown s 58 7 vi (c.ins.flatMap E) c.ins.length
 starts:Grown s 3 1 vs (c.starts.flatMap encZ) c.starts.length
 dc:∀b,ownB b vc=true→rb<b∧ownB b vf=false∧ownB b vi=false∧ownB b vs=false
 df:∀b,ownB b vf=true→rb<b∧ownB b vi=false∧ownB b vs=false
 di:∀b,ownB b vi=true→rb<b∧ownB b vs=false
 ds:∀b,ownB b vs=true→rb<b
abbrev Lists:=ListsE encIR
theorem ListsE.keep {E:InsT→List AV} {s s':St} {rb:Nat} {c:CodeT} {vc vf vi vs:AV} (h:ListsE E s rb c vc vf vi vs) (hc:Chg s s' (fun c=>c=rb)):ListsE E s' rb c vc vf vi vs:=
 ⟨h.cons.keep hc.next fun b hb=>hc.heap b (h.cons.own hb) fun e=>by have:=(h.dc b hb).1;omega,h.funs.keep hc.next fun b hb=>hc.heap b (h.funs.own hb) fun e=>by have:=(h.df b hb).1;omega,h.ins.keep hc.next fun b hb=>hc.heap b (h.ins.own hb) fun e=>by have:=(h.di b hb).1;omega,h.starts.keep hc.next fun b hb=>hc.heap b (h.starts.own hb) fun e=>by have:=h.ds b hb;omega,h.dc,h.df,h.di,h.ds⟩
theorem grown_eq {s:St} {e:TypeId} {k n:Nat} {v:AV} {cs:List AV} (h:Grown s e k v cs n):eqU v v=true:=by
 rcases h with⟨rfl,_,_⟩|⟨b,rfl,_⟩
 ·rfl
 ·exact eqU_refl_slice
theorem FA {s:St} {e:TypeId} {k n m:Nat} {v:AV} {cs:List AV} (h:Grown s e k v cs n) (hm:s.next≤m:=by exact Qj _):underV m 40 v=true:=by
 rcases h with⟨rfl,_,_⟩|⟨b,rfl,hb,_⟩
 ·rfl
 ·exact Qd (show b+1≤m by omega)
theorem js_ok {js:List Nat} {a:Nat} {KN:PN} (h:(js.all fun j=>Nat.testBit a j||KN.rl.any fun e=>Nat.beq e.1 j)=true):∀j∈js,Nat.testBit a j=true∨∃e∈KN.rl,e.1=j:=fun j hj=>by
 have:=List.all_eq_true.1 h j hj
 rw[Bool.or_eq_true]at this
 refine this.imp id fun h=>?_
 obtain⟨e,he,h2⟩:=List.any_eq_true.1 h
 exact⟨(e),(he),(Qb h2)⟩
theorem reg_val {S s2:St} {rb:Nat} {q:List AV} {r:List (List UInt8)} (c1:Chg (S.sub S.heap) s2 (fun c=>c=rb)) (r1:RdAt s2 rb q r) (l1:Loggd (S.sub S.heap) s2) (hb:S.bound≤S.next) (hrb:rb<S.next):S.next≤s2.next∧(∀b∈s2.log,b<S.next)∧Chg S (S.merged s2) (fun c=>c=rb)∧RdAt (S.merged s2) rb q r∧Loggd S (S.merged s2):=
 have hn:S.next≤s2.next:=c1.next
 ⟨hn,fun b hb=>by
  rcases c1.log b hb with h|⟨h,_⟩
  ·cases h
  ·exact h,c1.merged,⟨(Loggd.heapM hn l1 U rb (by omega)).trans r1.1,r1.2.1,r1.2.2⟩,Loggd.region hn l1 hb⟩
theorem Bd {s s':St} {o o':Nat→Prop} (h:Chg s s' o) (e:∀c,o c→o' c):Chg s s' o':=⟨h.next,h.bound,fun c hc=>(h.log c hc).imp id fun⟨a,b⟩=>⟨a,e c b⟩,fun c hc ho=>h.heap c hc fun h=>ho (e c h)⟩
attribute [local irreducible] RestN
theorem D7 {S:St} {rb:Nat} {q:List AV} {r:List (List UInt8)} (r1:RdAt S rb q r) (hb:S.bound≤S.next):Chg S (S.merged (S.sub S.heap)) (fun c=>c=rb)∧Loggd S (S.merged (S.sub S.heap)):=
 have⟨_,_,c,_,l⟩:=reg_val (S:=S) (s2:=S.sub S.heap) Chg.refl r1 Loggd.refl hb r1.2.2
 ⟨c,l⟩
theorem Df {s:St} {e:TypeId} {k n:Nat} {v:AV} {cs:List AV} (h:Grown s e k v cs n):v.cells=[v]∧v.isTuple=false:=by
 rcases h with⟨rfl,_,_⟩|⟨b,rfl,_⟩<;>exact⟨rfl,rfl⟩
theorem no_own {s:St} {e:TypeId} {k n b:Nat} {v:AV} {cs:List AV} (h:Grown s e k v cs n) (hb:s.next≤b):ownB b v=false:=by
 cases ho:ownB b v with
 |false=>rfl
 |true=>have:=h.own ho;omega
theorem ListsE.cons' {E:InsT→List AV} {s s4:St} {rb:Nat} {c:CodeT} {vc vf vi vs v2:AV} {a:(List UInt8×Int)} (hl:ListsE E s rb c vc vf vi vs) (c4:Chg s s4 (fun c=>ownB c vc=true)) (g4:Grown s4 54 2 v2 (c.cons.flatMap encN++encN a) (c.cons.length+1)) (o4:∀c,ownB c v2=true→s.next≤c) (hrb:rb<s.next):ListsE E s4 rb {c with cons:=c.cons++[a]} v2 vf vi vs:=by
 have e1:(c.cons++[a]).flatMap encN=c.cons.flatMap encN++encN a:=by rw[List.flatMap_append];show _++(encN a++[])=_;rw[List.append_nil]
 have e2:(c.cons++[a]).length=c.cons.length+1:=by rw[Qm];rfl
 have no:∀b,ownB b v2=true→∀ {e:TypeId} {k n:Nat} {v:AV} {cs:List AV},Grown s e k v cs n→ownB b v=false:=fun b hb _ _ _ _ _ h=>no_own h (o4 b hb)
 have dc:=hl.dc
 have df:=hl.df
 have di:=hl.di
 have ds:=hl.ds
 have no2:∀b {e:TypeId} {k n:Nat} {v:AV} {cs:List AV},Grown s e k v cs n→ownB b v=true→ownB b v2=false:=fun b _ _ _ _ _ h hb=>by
  cases h2:ownB b v2 with
  |false=>rfl
  |true=>rw[no b h2 h]at hb;cases hb
 have lo:∀b,ownB b v2=true→rb<b:=fun b hb=>Nat.lt_of_lt_of_le hrb (o4 b hb)
 exact⟨(by rw[e1,e2];exact g4),(hl.funs.keep c4.next fun b hb=>c4.heap b (hl.funs.own hb) fun e=>by rw[(dc b e).2.1]at hb;cases hb),(hl.ins.keep c4.next fun b hb=>c4.heap b (hl.ins.own hb) fun e=>by rw[(dc b e).2.2.1]at hb;cases hb),(hl.starts.keep c4.next fun b hb=>c4.heap b (hl.starts.own hb) fun e=>by rw[(dc b e).2.2.2]at hb;cases hb),(fun b hb=>⟨lo b hb,no b hb hl.funs,no b hb hl.ins,no b hb hl.starts⟩),(df),(di),(ds)⟩
theorem ListsE.funs' {E:InsT→List AV} {s s4:St} {rb:Nat} {c:CodeT} {vc vf vi vs v2:AV} {a:(List UInt8×Int)} (hl:ListsE E s rb c vc vf vi vs) (c4:Chg s s4 (fun c=>ownB c vf=true)) (g4:Grown s4 54 2 v2 (c.funs.flatMap encN++encN a) (c.funs.length+1)) (o4:∀c,ownB c v2=true→s.next≤c) (hrb:rb<s.next):ListsE E s4 rb {c with funs:=c.funs++[a]} vc v2 vi vs:=by
 have e1:(c.funs++[a]).flatMap encN=c.funs.flatMap encN++encN a:=by rw[List.flatMap_append];show _++(encN a++[])=_;rw[List.append_nil]
 have e2:(c.funs++[a]).length=c.funs.length+1:=by rw[Qm];rfl
 have no:∀b,ownB b v2=true→∀ {e:TypeId} {k n:Nat} {v:AV} {cs:List AV},Grown s e k v cs n→ownB b v=false:=fun b hb _ _ _ _ _ h=>no_own h (o4 b hb)
 have dc:=hl.dc
 have df:=hl.df
 have di:=hl.di
 have ds:=hl.ds
 have no2:∀b {e:TypeId} {k n:Nat} {v:AV} {cs:List AV},Grown s e k v cs n→ownB b v=true→ownB b v2=false:=fun b _ _ _ _ _ h hb=>by
  cases h2:ownB b v2 with
  |false=>rfl
  |true=>rw[no b h2 h]at hb;cases hb
 have lo:∀b,ownB b v2=true→rb<b:=fun b hb=>Nat.lt_of_lt_of_le hrb (o4 b hb)
 exact⟨(hl.cons.keep c4.next fun b hb=>c4.heap b (hl.cons.own hb) fun e=>by rw[(dc b hb).2.1]at e;cases e),(by rw[e1,e2];exact g4),(hl.ins.keep c4.next fun b hb=>c4.heap b (hl.ins.own hb) fun e=>by rw[(df b e).2.1]at hb;cases hb),(hl.starts.keep c4.next fun b hb=>c4.heap b (hl.starts.own hb) fun e=>by rw[(df b e).2.2]at hb;cases hb),(fun b hb=>⟨(dc b hb).1,no2 b hl.cons hb,(dc b hb).2.2.1,(dc b hb).2.2.2⟩),(fun b hb=>⟨lo b hb,no b hb hl.ins,no b hb hl.starts⟩),(di),(ds)⟩
theorem ListsE.ins' {E:InsT→List AV} {s s4:St} {rb:Nat} {c:CodeT} {vc vf vi vs v2:AV} {a:InsT} (hl:ListsE E s rb c vc vf vi vs) (c4:Chg s s4 (fun c=>ownB c vi=true)) (g4:Grown s4 58 7 v2 (c.ins.flatMap E++E a) (c.ins.length+1)) (o4:∀c,ownB c v2=true→s.next≤c) (hrb:rb<s.next):ListsE E s4 rb {c with ins:=c.ins++[a]} vc vf v2 vs:=by
 have e1:(c.ins++[a]).flatMap E=c.ins.flatMap E++E a:=by rw[List.flatMap_append];show _++(E a++[])=_;rw[List.append_nil]
 have e2:(c.ins++[a]).length=c.ins.length+1:=by rw[Qm];rfl
 have no:∀b,ownB b v2=true→∀ {e:TypeId} {k n:Nat} {v:AV} {cs:List AV},Grown s e k v cs n→ownB b v=false:=fun b hb _ _ _ _ _ h=>no_own h (o4 b hb)
 have dc:=hl.dc
 have df:=hl.df
 have di:=hl.di
 have ds:=hl.ds
 have no2:∀b {e:TypeId} {k n:Nat} {v:AV} {cs:List AV},Grown s e k v cs n→ownB b v=true→ownB b v2=false:=fun b _ _ _ _ _ h hb=>by
  cases h2:ownB b v2 with
  |false=>rfl
  |true=>rw[no b h2 h]at hb;cases hb
 have lo:∀b,ownB b v2=true→rb<b:=fun b hb=>Nat.lt_of_lt_of_le hrb (o4 b hb)
 exact⟨(hl.cons.keep c4.next fun b hb=>c4.heap b (hl.cons.own hb) fun e=>by rw[(dc b hb).2.2.1]at e;cases e),(hl.funs.keep c4.next fun b hb=>c4.heap b (hl.funs.own hb) fun e=>by rw[(df b hb).2.1]at e;cases e),(by rw[e1,e2];exact g4),(hl.starts.keep c4.next fun b hb=>c4.heap b (hl.starts.own hb) fun e=>by rw[(di b e).2]at hb;cases hb),(fun b hb=>⟨(dc b hb).1,(dc b hb).2.1,no2 b hl.cons hb,(dc b hb).2.2.2⟩),(fun b hb=>⟨(df b hb).1,no2 b hl.funs hb,(df b hb).2.2⟩),(fun b hb=>⟨lo b hb,no b hb hl.starts⟩),(ds)⟩
theorem ListsE.starts' {E:InsT→List AV} {s s4:St} {rb:Nat} {c:CodeT} {vc vf vi vs v2:AV} {a:Int} (hl:ListsE E s rb c vc vf vi vs) (c4:Chg s s4 (fun c=>ownB c vs=true)) (g4:Grown s4 3 1 v2 (c.starts.flatMap encZ++encZ a) (c.starts.length+1)) (o4:∀c,ownB c v2=true→s.next≤c) (hrb:rb<s.next):ListsE E s4 rb {c with starts:=c.starts++[a]} vc vf vi v2:=by
 have e1:(c.starts++[a]).flatMap encZ=c.starts.flatMap encZ++encZ a:=by rw[List.flatMap_append];show _++(encZ a++[])=_;rw[List.append_nil]
 have e2:(c.starts++[a]).length=c.starts.length+1:=by rw[Qm];rfl
 have no:∀b,ownB b v2=true→∀ {e:TypeId} {k n:Nat} {v:AV} {cs:List AV},Grown s e k v cs n→ownB b v=false:=fun b hb _ _ _ _ _ h=>no_own h (o4 b hb)
 have dc:=hl.dc
 have df:=hl.df
 have di:=hl.di
 have ds:=hl.ds
 have no2:∀b {e:TypeId} {k n:Nat} {v:AV} {cs:List AV},Grown s e k v cs n→ownB b v=true→ownB b v2=false:=fun b _ _ _ _ _ h hb=>by
  cases h2:ownB b v2 with
  |false=>rfl
  |true=>rw[no b h2 h]at hb;cases hb
 have lo:∀b,ownB b v2=true→rb<b:=fun b hb=>Nat.lt_of_lt_of_le hrb (o4 b hb)
 exact⟨(hl.cons.keep c4.next fun b hb=>c4.heap b (hl.cons.own hb) fun e=>by rw[(dc b hb).2.2.2]at e;cases e),(hl.funs.keep c4.next fun b hb=>c4.heap b (hl.funs.own hb) fun e=>by rw[(df b hb).2.2]at e;cases e),(hl.ins.keep c4.next fun b hb=>c4.heap b (hl.ins.own hb) fun e=>by rw[(di b hb).2]at e;cases e),(by rw[e1,e2];exact g4),(fun b hb=>⟨(dc b hb).1,(dc b hb).2.1,(dc b hb).2.2.1,no2 b hl.cons hb⟩),(fun b hb=>⟨(df b hb).1,(df b hb).2.1,no2 b hl.funs hb⟩),(fun b hb=>⟨(di b hb).1,no2 b hl.ins hb⟩),(lo)⟩
noncomputable def putB (s:St) (b:Nat) (o:Option AObj):St:= {s with log:=bif Nat.blt b s.bound then b::s.log else s.log,heap:=s.heap.set b o}
theorem get_putB {s:St} {b c:Nat} {o:Option AObj}:(putB s b o).heap.get c=if c=b then o else s.heap.get c:=AW ..
theorem log_putB {s:St} {b c:Nat} {o:Option AObj}:c∈(putB s b o).log↔(c=b∧c<s.bound)∨c∈s.log:=by
 show c∈(bif Nat.blt b s.bound then b::s.log else s.log)↔_
 cases h:Nat.blt b s.bound with
 |true=>
  have h:b<s.bound:=Qc h
  rw[cond_true,Qk]
  exact or_congr ⟨fun e=>⟨e,by omega⟩,fun e=>e.1⟩ Iff.rfl
 |false=>
  rw[cond_false]
  refine⟨.inr,fun h2=>h2.elim (fun⟨e,h3⟩=>?_) id⟩
  have:=Qd (show c+1≤s.bound from h3)
  rw[e]at this
  rw[show Nat.blt b s.bound=Nat.ble (b+1) s.bound from rfl,this]at h;cases h
theorem Da {s:St} {b:Nat} {o:Option AObj}:Chg s (putB s b o) (fun c=>c=b):=⟨Qj _,rfl,fun c hc=>by
 rcases log_putB.1 hc with h|h
 ·exact .inr ⟨h.2,h.1⟩
 ·exact .inl h,fun c _ h=>get_putB.trans (if_neg h)⟩
theorem lg_putB {s:St} {b:Nat} {o:Option AObj}:Loggd s (putB s b o):=⟨rfl,fun c hc=>log_putB.2 (.inr hc),fun c hc hn=>get_putB.trans (if_neg fun e=>hn (log_putB.2 (.inl ⟨e,hc⟩)))⟩
theorem rd_put {s:St} {rb:Nat} {q':List AV} {ws:List (List UInt8)} {o:AObj} (hrb:rb<s.next) (ho:o= .cells (q'++[strsV ws]) 184 false) (hq:q'.length=4):RdAt (putB s rb (some o)) rb q' ws:=⟨by rw[get_putB,if_pos rfl,ho],hq,hrb⟩
theorem ListsE.back {E:InsT→List AV} {s st:St} {rb:Nat} {c:CodeT} {vc vf vi vs:AV} (h:ListsE E st rb c vc vf vi vs):ListsE E (s.back st) rb c vc vf vi vs:=⟨h.cons,h.funs,h.ins,h.starts,h.dc,h.df,h.di,h.ds⟩
theorem con_run {s:St} {rb:Nat} {c:CodeT} {vc vf vi vs:AV} {ws:List (List UInt8)} {w0:List UInt8} (h:RdAt s rb [vc,vf,vi,vs] ws) (hl:Lists s rb c vc vf vi vs) (hn:ws.length≤50001) (hw:∀w∈ws,w.length≤50000) (hcn:c.cons.length≤50000) {R RP:AV→St→Prop}
 (hR:∀w1 w2 r,ws=w1::w2::r→NameP w1→NumP w2→∀s' v',Chg s s' (fun c=>c=rb∨ownB c vc=true)→(∀b,ownB b v'=true→s.next≤b)→RdAt s' rb [v',vf,vi,vs] r→Lists s' rb {c with cons:=c.cons++[(w1,numV w2)]} v' vf vi vs→(s.bound≤s.next→Loggd s s')→R (.tuple []) s')
 (hP:(¬∃w1 w2 r,ws=w1::w2::r∧NameP w1∧NumP w2)→∀s',Chg s s' (fun c=>rb≤c)→(s.bound≤s.next→Loggd s s')→RP bad s'):RunsX (EK R9) 131 [.ptr rb 0,.str w0] s R RP:=by
 refine RunsX.unit (fn:=Tryz.f131) U (by kernel_rfl) U U U U ?_
 have h0:RdAt s.enter rb [vc,vf,vi,vs] ws:=h
 have hl0:Lists s.enter rb c vc vf vi vs:=⟨hl.cons,hl.funs,hl.ins,hl.starts,hl.dc,hl.df,hl.di,hl.ds⟩
 have hb:=h.2.2
 refine Dw (by kernel_rfl) ?_
 iterate 2 refine Nq (om U) U ?_
 refine Nq (AF U U U) rfl<|Nq (of Fe U) rfl<|Nq (of DI U) rfl<|Nq (of BU U) rfl<|RegN.loadR U B4 B2 U h0.1 U (grown_eq hl0.cons) (FA hl0.cons) U (.inl U) U rfl<|Nq (om U) U ?_
 refine DK (by kernel_rfl) U U U (name_any (s:=s.enter.sub s.enter.heap) h0 hn hw (R:=fun v s2=>∃w r,ws=w::r∧NameP w∧v= .str w∧Chg (s.enter.sub s.enter.heap) s2 (fun c=>c=rb)∧RdAt s2 rb [vc,vf,vi,vs] r∧Loggd (s.enter.sub s.enter.heap) s2)
  (RP:=fun v s2=>(¬∃w r,ws=w::r∧NameP w)∧v=bad∧Chg (s.enter.sub s.enter.heap) s2 (fun c=>c=rb)∧(∃ws',RdAt s2 rb [vc,vf,vi,vs] ws')∧Loggd (s.enter.sub s.enter.heap) s2)
  (fun w r e hN s2 c1 r1 l1=>⟨w,r,e,hN,rfl,c1,r1,l1 (Qj _)⟩) (fun hx s2 c1 l1 r1=>⟨hx,rfl,c1,r1,l1 (Qj _)⟩)) ?_ rfl (.inl rfl) rfl rfl ?_ ?_
 ·exact js_ok (by kernel_rfl)
 ·rintro v s2 ⟨w,r,e,hN,rfl,c1,r1,l1⟩
  obtain⟨a1,a2,c1,r2,l1⟩:=reg_val c1 r1 l1 (Qj _) h0.2.2
  refine⟨a1,a2,fun e he=>?_,fun nl2 hnl=>?_⟩
  ·rw[Qo.1 he]
   exact .inr (.inr ⟨_,_,_,r1.1,rfl⟩)
  generalize s.enter.merged s2=s1 at*
  have hb1:s1.bound≤s1.next:=by rw[c1.bound];exact c1.next
  refine Nq (om U) U ?_
  refine DK (by kernel_rfl) U U U (F4 (s:=s1.sub s1.heap) r2 (by rw[e]at hn;exact Nat.le_trans (Nat.le_succ _) hn) (R:=fun v s2=>∃w2 r2,r=w2::r2∧v= .str w2∧Chg (s1.sub s1.heap) s2 (fun c=>c=rb)∧RdAt s2 rb [vc,vf,vi,vs] r2∧Loggd (s1.sub s1.heap) s2)
   (RP:=fun v s2=>r=[]∧v=bad∧s2=s1.sub s1.heap)
   (fun w r e s2 c1 r1 l1=>⟨w,r,e,rfl,c1,r1,l1 (Qj _)⟩) (fun hx=>⟨hx,rfl,rfl⟩)) ?_ (hnl.all rfl (by kernel_rfl)) (.inl rfl) rfl rfl ?_ ?_
  ·exact js_ok (by kernel_rfl)
  ·rintro v s2 ⟨w2,r3,rfl,rfl,c2,r4,l2⟩
   obtain⟨a1,a2,c2,r5,l2⟩:=reg_val c2 r4 l2 hb1 r2.2.2
   refine⟨a1,a2,fun e he=>?_,fun nl3 hnl2=>?_⟩
   ·rw[Qo.1 he]
    exact .inr (.inr ⟨_,_,_,r4.1,rfl⟩)
   generalize s1.merged s2=s3 at*
   have hb3:s3.bound≤s3.next:=by rw[c2.bound];exact Nat.le_trans hb1 c2.next
   have hw2:w2.length≤50000:=hw _ (by rw[e];exact Qg _ (Qh ..))
   by_cases hN2:NumP w2
   ·refine Et (B6 U U (by kernel_rfl) U (EC (by first|assumption|omega|(simp only[LL];omega)) (by first|assumption|omega|(simp only[LL];omega)))) (.inl U) U U ?_
    refine Nq (AJ U pl_54 U U) rfl<|Bi U DY BS z_54 U U U (.inl U) U U ?_
    have hl3:=(hl0.keep c1).keep c2
    refine DJ (new:=[.str w,.int .i64 (numV w2)]) hl3.cons hb3 U (by decide) (AR (by omega) (by decide)) (AR (by omega) (by decide)) U U U U DY BS by_54 z_54 (by kernel_rfl) (by kernel_rfl) U U (by kernel_rfl) (by rw[List.all_cons,hnl2.all (hnl.all U (by kernel_rfl)) (by kernel_rfl)];kernel_rfl) (.inl U) U U fun v2 s4 nl4 g4 o4 c4 l4 hcl=>?_
    refine Nq (AF U U U) rfl<|Nq (of Fe U) rfl<|Nq (of DI U) rfl<|Nq (of BU U) U ?_
    have o2:∀b,ownB b v2=true→rb<b:=fun b hb=>Nat.lt_of_lt_of_le r5.2.2 (o4 b hb)
    have gr4:s4.heap.get rb=some (.cells ([vc,vf,vi,vs]++[strsV r3]) 184 false):=(c4.heap rb r5.2.2 fun h=>by have:=(hl0.dc rb h).1;omega).trans r5.1
    have hrb4:rb<s4.next:=Nat.lt_of_lt_of_le r5.2.2 c4.next
    have hcv:=Df g4
    refine By hrb4 U (by kernel_rfl) U U gr4 (by rw[hcv.1]) hcv.2 (by rw[hcv.1];rfl) (hcl rb r5.2.2 (by
     cases h:ownB rb vc with
     |false=>rfl
     |true=>have:=(hl0.dc rb h).1;omega) _ ?_) (by kernel_rfl) (.inl rfl) rfl rfl ?_
    ·exact Dj (by rw[List.all_cons,hnl2.all (hnl.all U (by kernel_rfl)) (by kernel_rfl)];kernel_rfl)
    refine AG ?_
    have hl5:=(hl3.cons' (a:=(w,numV w2)) c4 g4 o4 r5.2.2).keep (Da (b:=rb) (o:=some (.cells [v2,vf,vi,vs,strsV r3] 184 false)))
    have r6:RdAt (putB s4 rb (some (.cells [v2,vf,vi,vs,strsV r3] 184 false))) rb [v2,vf,vi,vs] r3:=rd_put hrb4 rfl rfl
    have c6:Chg s.enter (putB s4 rb (some (.cells [v2,vf,vi,vs,strsV r3] 184 false))) (fun c=>c=rb∨ownB c vc=true):=(((c1.trans c2 (fun _ h=>h) (fun _ h=> .inl h) (Qj _)).trans c4 (own:=fun c=>c=rb∨ownB c vc=true) (fun c hc=> .inl hc) (fun c hc=> .inl (.inr hc)) (Qj _))).trans Da (fun _ h=>h) (fun c hc=> .inl (.inl hc)) (Qj _)
    have l6:Loggd s.enter (putB s4 rb (some (.cells [v2,vf,vi,vs,strsV r3] 184 false))):=((l1.trans l2).trans l4).trans lg_putB
    have r7:=hR w w2 r3 e hN hN2 _ _ (Chg.back c6) (fun b hb=>Nat.le_trans (Nat.le_trans c1.next c2.next) (o4 b hb)) r6 hl5.back (fun hb=>Loggd.back l6 hb)
    exact⟨.inr U,rfl,fun h=>absurd h (logged_of (fun _=>l6) h0 r6 (by rw[e,List.length_cons,List.length_cons];omega)),r7⟩
   ·refine DK (by kernel_rfl) U U U (Fb (s:=s3.sub s3.heap) (R:=fun _ _=>False) (RP:=fun v s2=>v=bad∧s2=s3.sub s3.heap) hN2 hw2 ⟨rfl,rfl⟩) (js_ok (by kernel_rfl)) (hnl2.all (hnl.all U (by kernel_rfl)) (by kernel_rfl)) (.inl U) U U (fun _ _ h=>h.elim) ?_
    rintro v s2 ⟨rfl,rfl⟩
    refine⟨Qj _,(fun b hb=>by cases hb),(fun e he=>?_),⟨rfl,hP (fun⟨w1,w2,r,e2,h1,h2⟩=>by rw[e]at e2;cases e2;exact hN2 h2) _ ?_ ?_⟩,?_⟩
    ·rw[Qo.1 he]
     exact .inr (.inr ⟨_,_,_,r5.1,rfl⟩)
    ·exact Chg.back (Bd ((c1.trans c2 (fun _ h=>h) (fun _ h=> .inl h) (Qj _)).trans (D7 r5 hb3).1 (fun _ h=>h) (fun _ h=> .inl h) (Qj _)) fun c hc=>by omega)
    ·exact fun hb=>Loggd.back ((l1.trans l2).trans (D7 r5 hb3).2) hb
    ·(repeat (first|exact RestN.done|refine RestN.desc (by decide+kernel) rfl rfl ?_|refine RestN.q (by kernel_rfl) (om rfl) (.inl rfl) rfl rfl ?_))
  ·rintro v s2 ⟨rfl,rfl,rfl⟩
   refine⟨Qj _,(fun b hb=>by cases hb),(fun e he=>?_),⟨rfl,hP (fun⟨w1,w2,r,e2,h1,_⟩=>by rw[e]at e2;cases e2) _ ?_ ?_⟩,?_⟩
   ·rw[Qo.1 he]
    exact .inr (.inr ⟨_,_,_,r2.1,rfl⟩)
   ·exact Chg.back (Bd (c1.trans (D7 r2 hb1).1 (fun _ h=>h) (fun _ h=> .inl h) (Qj _)) fun c hc=>by omega)
   ·exact fun hb=>Loggd.back (l1.trans (D7 r2 hb1).2) hb
   ·(repeat (first|exact RestN.done|refine RestN.desc (by decide+kernel) rfl rfl ?_|refine RestN.q (by kernel_rfl) (om rfl) (.inl rfl) rfl rfl ?_))
 ·rintro v s2 ⟨hx,rfl,c1,⟨ws',r1⟩,l1⟩
  obtain⟨a1,a2,c1,r2,l1⟩:=reg_val c1 r1 l1 (Qj _) h0.2.2
  refine⟨a1,a2,fun e he=>?_,⟨rfl,hP (fun⟨w1,w2,r,e,h1,_⟩=>hx ⟨w1,_,e,h1⟩) _ ?_ ?_⟩,?_⟩
  ·rw[Qo.1 he]
   exact .inr (.inr ⟨_,_,_,r1.1,rfl⟩)
  ·exact Chg.back (Bd c1 fun c hc=>by omega)
  ·exact fun hb=>Loggd.back l1 hb
  ·(repeat (first|exact RestN.done|refine RestN.desc (by decide+kernel) rfl rfl ?_|refine RestN.q (by kernel_rfl) (om rfl) (.inl rfl) rfl rfl ?_))
theorem fun_run {s:St} {rb:Nat} {c:CodeT} {vc vf vi vs:AV} {ws:List (List UInt8)} {w0:List UInt8} (h:RdAt s rb [vc,vf,vi,vs] ws) (hl:Lists s rb c vc vf vi vs) (hn:ws.length≤50001) (hw:∀w∈ws,w.length≤50000) (hcn:c.funs.length≤50000∧c.starts.length≤50000) {R RP:AV→St→Prop}
 (hR:∀w1 w2 w3 r,ws=w1::w2::w3::r→NameP w1→NumP w2→NumP w3→∀s' v' u',Chg s s' (fun c=>c=rb∨ownB c vf=true∨ownB c vs=true)→(∀b,ownB b v'=true∨ownB b u'=true→s.next≤b)→RdAt s' rb [vc,v',vi,u'] r→Lists s' rb {c with funs:=c.funs++[(w1,numV w2)],starts:=c.starts++[numV w3]} vc v' vi u'→(s.bound≤s.next→Loggd s s')→R (.tuple []) s')
 (hP:(¬∃w1 w2 w3 r,ws=w1::w2::w3::r∧NameP w1∧NumP w2∧NumP w3)→∀s',Chg s s' (fun c=>rb≤c)→(s.bound≤s.next→Loggd s s')→RP bad s'):RunsX (EK R9) 132 [.ptr rb 0,.str w0] s R RP:=by
 refine RunsX.unit (fn:=Tryz.f132) U (by kernel_rfl) U U U U ?_
 have h0:RdAt s.enter rb [vc,vf,vi,vs] ws:=h
 have hl0:Lists s.enter rb c vc vf vi vs:=⟨hl.cons,hl.funs,hl.ins,hl.starts,hl.dc,hl.df,hl.di,hl.ds⟩
 have hb:=h.2.2
 refine AK (by kernel_rfl) ?_
 iterate 2 refine Nq (om U) U ?_
 refine Nq (AF U U U) rfl<|Nq (of Fe U) rfl<|Nq (of DI U) rfl<|Nq (of BT U) rfl<|RegN.loadR U B4 B2 U h0.1 U (grown_eq hl0.funs) (FA hl0.funs) U (.inl U) U rfl<|Nq (om U) U ?_
 refine DK (by kernel_rfl) U U U (name_any (s:=s.enter.sub s.enter.heap) h0 hn hw (R:=fun v s2=>∃w r,ws=w::r∧NameP w∧v= .str w∧Chg (s.enter.sub s.enter.heap) s2 (fun c=>c=rb)∧RdAt s2 rb [vc,vf,vi,vs] r∧Loggd (s.enter.sub s.enter.heap) s2)
  (RP:=fun v s2=>(¬∃w r,ws=w::r∧NameP w)∧v=bad∧Chg (s.enter.sub s.enter.heap) s2 (fun c=>c=rb)∧(∃ws',RdAt s2 rb [vc,vf,vi,vs] ws')∧Loggd (s.enter.sub s.enter.heap) s2)
  (fun w r e hN s2 c1 r1 l1=>⟨w,r,e,hN,rfl,c1,r1,l1 (Qj _)⟩) (fun hx s2 c1 l1 r1=>⟨hx,rfl,c1,r1,l1 (Qj _)⟩)) ?_ rfl (.inl rfl) rfl rfl ?_ ?_
 ·exact js_ok (by kernel_rfl)
 ·rintro v s2 ⟨w,r,e,hN,rfl,c1,r1,l1⟩
  obtain⟨a1,a2,c1,r2,l1⟩:=reg_val c1 r1 l1 (Qj _) h0.2.2
  refine⟨a1,a2,fun e he=>?_,fun nl2 hnl=>?_⟩
  ·rw[Qo.1 he]
   exact .inr (.inr ⟨_,_,_,r1.1,rfl⟩)
  generalize s.enter.merged s2=s1 at*
  have hb1:s1.bound≤s1.next:=by rw[c1.bound];exact c1.next
  refine Nq (om U) U ?_
  refine DK (by kernel_rfl) U U U (F4 (s:=s1.sub s1.heap) r2 (by rw[e]at hn;exact Nat.le_trans (Nat.le_succ _) hn) (R:=fun v s2=>∃w2 r2,r=w2::r2∧v= .str w2∧Chg (s1.sub s1.heap) s2 (fun c=>c=rb)∧RdAt s2 rb [vc,vf,vi,vs] r2∧Loggd (s1.sub s1.heap) s2)
   (RP:=fun v s2=>r=[]∧v=bad∧s2=s1.sub s1.heap)
   (fun w r e s2 c1 r1 l1=>⟨w,r,e,rfl,c1,r1,l1 (Qj _)⟩) (fun hx=>⟨hx,rfl,rfl⟩)) ?_ (hnl.all rfl (by kernel_rfl)) (.inl rfl) rfl rfl ?_ ?_
  ·exact js_ok (by kernel_rfl)
  ·rintro v s2 ⟨w2,r3,rfl,rfl,c2,r4,l2⟩
   obtain⟨a1,a2,c2,r5,l2⟩:=reg_val c2 r4 l2 hb1 r2.2.2
   refine⟨a1,a2,fun e he=>?_,fun nl3 hnl2=>?_⟩
   ·rw[Qo.1 he]
    exact .inr (.inr ⟨_,_,_,r4.1,rfl⟩)
   generalize s1.merged s2=s3 at*
   have hb3:s3.bound≤s3.next:=by rw[c2.bound];exact Nat.le_trans hb1 c2.next
   have hw2:w2.length≤50000:=hw _ (by rw[e];exact Qg _ (Qh ..))
   by_cases hN2:NumP w2
   ·refine Et (B6 U U (by kernel_rfl) U (EC (by first|assumption|omega|(simp only[LL];omega)) (by first|assumption|omega|(simp only[LL];omega)))) (.inl U) U U ?_
    refine Nq (AJ U pl_54 U U) rfl<|Bi U DY BS z_54 U U U (.inl U) U U ?_
    have hl3:=(hl0.keep c1).keep c2
    refine DJ (new:=[.str w,.int .i64 (numV w2)]) hl3.funs hb3 U (by decide) (AR (by omega) (by decide)) (AR (by omega) (by decide)) U U U U DY BS by_54 z_54 (by kernel_rfl) (by kernel_rfl) U U (by kernel_rfl) (by rw[List.all_cons,hnl2.all (hnl.all U (by kernel_rfl)) (by kernel_rfl)];kernel_rfl) (.inl U) U U fun v2 s4 nl4 g4 o4 c4 l4 hcl=>?_
    refine Nq (AF U U U) rfl<|Nq (of Fe U) rfl<|Nq (of DI U) rfl<|Nq (of BT U) U ?_
    have o2:∀b,ownB b v2=true→rb<b:=fun b hb=>Nat.lt_of_lt_of_le r5.2.2 (o4 b hb)
    have gr4:s4.heap.get rb=some (.cells ([vc,vf,vi,vs]++[strsV r3]) 184 false):=(c4.heap rb r5.2.2 fun h=>by have:=(hl0.df rb h).1;omega).trans r5.1
    have hrb4:rb<s4.next:=Nat.lt_of_lt_of_le r5.2.2 c4.next
    have hcv:=Df g4
    refine By hrb4 U (by kernel_rfl) U U gr4 (by rw[hcv.1]) hcv.2 (by rw[hcv.1];rfl) (hcl rb r5.2.2 (by
     cases h:ownB rb vf with
     |false=>rfl
     |true=>have:=(hl0.df rb h).1;omega) _ ?_) (by kernel_rfl) (.inl rfl) rfl rfl ?_
    ·exact Dj (by rw[List.all_cons,hnl2.all (hnl.all U (by kernel_rfl)) (by kernel_rfl)];kernel_rfl)
    show RegN _ _ _ _ _ _ _ (putB s4 rb (some (.cells [vc,v2,vi,vs,strsV r3] 184 false))) _ _ _
    have hl5:=(hl3.funs' (a:=(w,numV w2)) c4 g4 o4 r5.2.2).keep (Da (b:=rb) (o:=some (.cells [vc,v2,vi,vs,strsV r3] 184 false)))
    have r6:RdAt (putB s4 rb (some (.cells [vc,v2,vi,vs,strsV r3] 184 false))) rb [vc,v2,vi,vs] r3:=rd_put hrb4 rfl rfl
    have c6:Chg s.enter (putB s4 rb (some (.cells [vc,v2,vi,vs,strsV r3] 184 false))) (fun c=>c=rb∨ownB c vf=true∨ownB c vs=true):=(((c1.trans c2 (fun _ h=>h) (fun _ h=> .inl h) (Qj _)).trans c4 (own:=fun c=>c=rb∨ownB c vf=true∨ownB c vs=true) (fun c hc=> .inl hc) (fun c hc=> .inl (.inr (.inl hc))) (Qj _))).trans Da (fun _ h=>h) (fun c hc=> .inl (.inl hc)) (Qj _)
    have l6:Loggd s.enter (putB s4 rb (some (.cells [vc,v2,vi,vs,strsV r3] 184 false))):=((l1.trans l2).trans l4).trans lg_putB
    generalize putB s4 rb (some (.cells [vc,v2,vi,vs,strsV r3] 184 false))=s5 at*
    have hb5:s5.bound≤s5.next:=by rw[c6.bound];exact c6.next
    refine AG<|Dw (by kernel_rfl) ?_
    iterate 2 refine Nq (om U) U ?_
    refine Nq (AF U U U) rfl<|Nq (of Fe U) rfl<|Nq (of ES U) rfl<|RegN.loadR U Dn BC U r6.1 U (grown_eq hl5.starts) (FA hl5.starts) U (.inl U) U rfl<|Nq (om U) U ?_
    refine DK (by kernel_rfl) U U U (F4 (s:=s5.sub s5.heap) r6 (by rw[e,List.length_cons,List.length_cons]at hn;omega) (R:=fun v s2=>∃w3 r7,r3=w3::r7∧v= .str w3∧Chg (s5.sub s5.heap) s2 (fun c=>c=rb)∧RdAt s2 rb [vc,v2,vi,vs] r7∧Loggd (s5.sub s5.heap) s2)
     (RP:=fun v s2=>r3=[]∧v=bad∧s2=s5.sub s5.heap)
     (fun w r e s2 c1 r1 l1=>⟨w,r,e,rfl,c1,r1,l1 (Qj _)⟩) (fun hx=>⟨hx,rfl,rfl⟩)) (js_ok (by kernel_rfl)) rfl (.inl rfl) rfl rfl ?_ ?_
    ·rintro v s2 ⟨w3,r7,rfl,rfl,c7,r8,l7⟩
     obtain⟨a1,a2,c7,r9,l7⟩:=reg_val c7 r8 l7 hb5 r6.2.2
     refine⟨a1,a2,fun e he=>?_,fun nl5 hnl5=>?_⟩
     ·rw[Qo.1 he]
      exact .inr (.inr ⟨_,_,_,r8.1,rfl⟩)
     generalize s5.merged s2=s6 at*
     have hb6:s6.bound≤s6.next:=by rw[c7.bound];exact Nat.le_trans hb5 c7.next
     have hw3:w3.length≤50000:=hw _ (by rw[e];exact Qg _ (Qg _ (Qh ..)))
     have c8:Chg s.enter s6 (fun c=>c=rb∨ownB c vf=true∨ownB c vs=true):=c6.trans c7 (fun _ h=>h) (fun c hc=> .inl (.inl hc)) (Qj _)
     have up:∀c,c=rb∨ownB c vf=true∨ownB c vs=true→rb≤c:=fun c hc=>by
      rcases hc with h|h|h
      ·omega
      ·exact Nat.le_of_lt (hl0.df c h).1
      ·exact Nat.le_of_lt (hl0.ds c h)
     by_cases hN3:NumP w3
     ·refine Et (B6 U U (by kernel_rfl) U (EC (by first|assumption|omega|(simp only[LL];omega)) (by first|assumption|omega|(simp only[LL];omega)))) (.inl U) U U ?_
      refine Bi U D6 Bf z_3 U U U (.inl U) U U ?_
      have hl6:=hl5.keep c7
      refine DJ (new:=[.int .i64 (numV w3)]) hl6.starts hb6 U (by decide) (AR (by omega) (by decide)) (AR (by have:=hcn.2;dsimp only;omega) (by decide)) U U U U D6 Bf by_3 z_3 (by kernel_rfl) (by kernel_rfl) U U (by kernel_rfl) (by rw[List.all_cons,hnl5.all U (by kernel_rfl)];kernel_rfl) (.inl U) U U fun u2 s7 nl6 g7 o7 c9 l9 hcl7=>?_
      refine Nq (AF U U U) rfl<|Nq (of Fe U) rfl<|Nq (of ES U) U ?_
      have gr7:s7.heap.get rb=some (.cells ([vc,v2,vi,vs]++[strsV r7]) 184 false):=(c9.heap rb r9.2.2 fun h=>by have:=hl0.ds rb h;omega).trans r9.1
      have hrb7:rb<s7.next:=Nat.lt_of_lt_of_le r9.2.2 c9.next
      have hcu:=Df g7
      refine By hrb7 U (by kernel_rfl) U U gr7 (by rw[hcu.1]) hcu.2 (by rw[hcu.1];rfl) (hcl7 rb r9.2.2 (by
       cases h:ownB rb vs with
       |false=>rfl
       |true=>have:=hl0.ds rb h;omega) _ ?_) (by kernel_rfl) (.inl rfl) rfl rfl ?_
      ·exact Dj (by rw[List.all_cons,hnl5.all U (by kernel_rfl)];kernel_rfl)
      refine AG ?_
      have hl8:=(hl6.starts' (a:=numV w3) c9 g7 o7 r9.2.2).keep (Da (b:=rb) (o:=some (.cells [vc,v2,vi,u2,strsV r7] 184 false)))
      have r10:RdAt (putB s7 rb (some (.cells [vc,v2,vi,u2,strsV r7] 184 false))) rb [vc,v2,vi,u2] r7:=rd_put hrb7 rfl rfl
      have c10:Chg s.enter (putB s7 rb (some (.cells [vc,v2,vi,u2,strsV r7] 184 false))) (fun c=>c=rb∨ownB c vf=true∨ownB c vs=true):=(c8.trans c9 (own:=fun c=>c=rb∨ownB c vf=true∨ownB c vs=true) (fun c hc=>hc) (fun c hc=> .inl (.inr (.inr hc))) (Qj _)).trans Da (fun _ h=>h) (fun c hc=> .inl (.inl hc)) (Qj _)
      have l10:Loggd s.enter (putB s7 rb (some (.cells [vc,v2,vi,u2,strsV r7] 184 false))):=((l6.trans l7).trans l9).trans lg_putB
      have r11:=hR w w2 w3 r7 e hN hN2 hN3 _ _ _ (Chg.back c10) (fun b hb=>hb.elim (fun h=>Nat.le_trans (Nat.le_trans c1.next c2.next) (o4 b h)) fun h=>Nat.le_trans c8.next (o7 b h)) r10 hl8.back (fun hb=>Loggd.back l10 hb)
      exact⟨.inr U,rfl,fun h=>absurd h (logged_of (fun _=>l10) h0 r10 (by rw[e,List.length_cons,List.length_cons,List.length_cons];omega)),r11⟩
     ·refine DK (by kernel_rfl) U U U (Fb (s:=s6.sub s6.heap) (R:=fun _ _=>False) (RP:=fun v s2=>v=bad∧s2=s6.sub s6.heap) hN3 hw3 ⟨rfl,rfl⟩) (js_ok (by kernel_rfl)) (hnl5.all U (by kernel_rfl)) (.inl U) U U (fun _ _ h=>h.elim) ?_
      rintro v s2 ⟨rfl,rfl⟩
      refine⟨Qj _,(fun b hb=>by cases hb),(fun e he=>?_),⟨rfl,hP (fun⟨w1,w2,w3,r,e2,h1,h2,h3⟩=>by rw[e]at e2;cases e2;exact hN3 h3) _ ?_ ?_⟩,?_⟩
      ·rw[Qo.1 he]
       exact .inr (.inr ⟨_,_,_,r9.1,rfl⟩)
      ·exact Chg.back (Bd (c8.trans (D7 r9 hb6).1 (fun _ h=>h) (fun c h=> .inl (.inl h)) (Qj _)) up)
      ·exact fun hb=>Loggd.back ((l6.trans l7).trans (D7 r9 hb6).2) hb
      ·(repeat (first|exact RestN.done|refine RestN.desc (by decide+kernel) rfl rfl ?_|refine RestN.q (by kernel_rfl) (om rfl) (.inl rfl) rfl rfl ?_))
    ·rintro v s2 ⟨rfl,rfl,rfl⟩
     refine⟨Qj _,(fun b hb=>by cases hb),(fun e he=>?_),⟨rfl,hP (fun⟨w1,w2,w3,r,e2,h1,_⟩=>by rw[e]at e2;cases e2) _ ?_ ?_⟩,?_⟩
     ·rw[Qo.1 he]
      exact .inr (.inr ⟨_,_,_,r6.1,rfl⟩)
     ·exact Chg.back (Bd (c6.trans (D7 r6 hb5).1 (fun _ h=>h) (fun c h=> .inl (.inl h)) (Qj _)) fun c hc=>by
      rcases hc with h|h|h
      ·omega
      ·exact Nat.le_of_lt (hl0.df c h).1
      ·exact Nat.le_of_lt (hl0.ds c h))
     ·exact fun hb=>Loggd.back (l6.trans (D7 r6 hb5).2) hb
     ·(repeat (first|exact RestN.done|refine RestN.desc (by decide+kernel) rfl rfl ?_|refine RestN.q (by kernel_rfl) (om rfl) (.inl rfl) rfl rfl ?_))
   ·refine DK (by kernel_rfl) U U U (Fb (s:=s3.sub s3.heap) (R:=fun _ _=>False) (RP:=fun v s2=>v=bad∧s2=s3.sub s3.heap) hN2 hw2 ⟨rfl,rfl⟩) (js_ok (by kernel_rfl)) (hnl2.all (hnl.all U (by kernel_rfl)) (by kernel_rfl)) (.inl U) U U (fun _ _ h=>h.elim) ?_
    rintro v s2 ⟨rfl,rfl⟩
    refine⟨Qj _,(fun b hb=>by cases hb),(fun e he=>?_),⟨rfl,hP (fun⟨w1,w2,w3,r,e2,h1,h2,_⟩=>by rw[e]at e2;cases e2;exact hN2 h2) _ ?_ ?_⟩,?_⟩
    ·rw[Qo.1 he]
     exact .inr (.inr ⟨_,_,_,r5.1,rfl⟩)
    ·exact Chg.back (Bd ((c1.trans c2 (fun _ h=>h) (fun _ h=> .inl h) (Qj _)).trans (D7 r5 hb3).1 (fun _ h=>h) (fun _ h=> .inl h) (Qj _)) fun c hc=>by omega)
    ·exact fun hb=>Loggd.back ((l1.trans l2).trans (D7 r5 hb3).2) hb
    ·(repeat (first|exact RestN.done|refine RestN.desc (by decide+kernel) rfl rfl ?_|refine RestN.q (by kernel_rfl) (om rfl) (.inl rfl) rfl rfl ?_))
  ·rintro v s2 ⟨rfl,rfl,rfl⟩
   refine⟨Qj _,(fun b hb=>by cases hb),(fun e he=>?_),⟨rfl,hP (fun⟨w1,w2,w3,r,e2,h1,_⟩=>by rw[e]at e2;cases e2) _ ?_ ?_⟩,?_⟩
   ·rw[Qo.1 he]
    exact .inr (.inr ⟨_,_,_,r2.1,rfl⟩)
   ·exact Chg.back (Bd (c1.trans (D7 r2 hb1).1 (fun _ h=>h) (fun _ h=> .inl h) (Qj _)) fun c hc=>by omega)
   ·exact fun hb=>Loggd.back (l1.trans (D7 r2 hb1).2) hb
   ·(repeat (first|exact RestN.done|refine RestN.desc (by decide+kernel) rfl rfl ?_|refine RestN.q (by kernel_rfl) (om rfl) (.inl rfl) rfl rfl ?_))
 ·rintro v s2 ⟨hx,rfl,c1,⟨ws',r1⟩,l1⟩
  obtain⟨a1,a2,c1,r2,l1⟩:=reg_val c1 r1 l1 (Qj _) h0.2.2
  refine⟨a1,a2,fun e he=>?_,⟨rfl,hP (fun⟨w1,w2,w3,r,e,h1,_⟩=>hx ⟨w1,_,e,h1⟩) _ ?_ ?_⟩,?_⟩
  ·rw[Qo.1 he]
   exact .inr (.inr ⟨_,_,_,r1.1,rfl⟩)
  ·exact Chg.back (Bd c1 fun c hc=>by omega)
  ·exact fun hb=>Loggd.back l1 hb
  ·(repeat (first|exact RestN.done|refine RestN.desc (by decide+kernel) rfl rfl ?_|refine RestN.q (by kernel_rfl) (om rfl) (.inl rfl) rfl rfl ?_))
end Go.Proofs.YtpihdbhocgcbpaaGreatDoor.Rd
open Go Am
namespace Am
theorem Fz {E:Env} {fr:Fr} {l:Sl} {s:St} {Q:Ex→Fr→Sl→St→Prop} {a b:Code} {α:Type} (I:α→Sl×St) (G:α→Prop) (h1:EvtL E a fr l s fun ex fr' l' s'=>match ex with
 | .normal=>fr'=fr∧∃x,G x∧s'=(I x).2∧∀p∈(I x).1,look p.1 l'=some p.2
 |ex=>Q ex fr' l' s') (h2:∀x,G x→EvtL E b fr (I x).1 (I x).2 Q):EvtL E a fr l s (SeqL E b Q):=
 (h1.mono fun ex fr' l' s' h=>by
  cases ex with
  |normal=>
   obtain⟨e2,x,g,e3,e4⟩:=h
   subst e2 e3
   exact EvtL.sub (h2 x g) e4
  |_=>exact h)
end Am
namespace Go.Proofs.YtpihdbhocgcbpaaGreatDoor.Rd
def InsR (op:Int) (ws:List (List UInt8)) (x:InsT) (r:List (List UInt8)):Prop:=
 if op=1 then∃w,(∃u,ws=w::u∧NumP w∧(∀w∈u,AltP w)∧x= {op:=op,a:=numV w,alts:=u.map altV,to:=[],term:=0,n:=0,args:=[]})∧r=[]
 else if op=2 then(∀w∈ws,NumP w)∧x= {op:=op,a:=0,alts:=[],to:=ws.map numV,term:=0,n:=0,args:=[]}∧r=[]
 else if op=5 then∃w1 w2 u,ws=w1::w2::u∧NumP w1∧NumP w2∧(∀w∈u,NumP w)∧x= {op:=op,a:=0,alts:=[],to:=[],term:=numV w1,n:=numV w2,args:=u.map numV}∧r=[]
 else if op=6 then∃w,ws=w::r∧NumP w∧x= {op:=op,a:=numV w,alts:=[],to:=[],term:=0,n:=0,args:=[]}
 else x= {op:=op,a:=0,alts:=[],to:=[],term:=0,n:=0,args:=[]}∧r=ws
structure InsAt (s0 s:St) (rb:Nat) (q x:List AV) (r:List (List UInt8)):Prop where
 chg:Chg s0 s (fun c=>c=rb)
 lg:Loggd s0 s
 nx:s0.next<s.next
 rd:RdAt s rb q r
 at_:s.heap.get s0.next=some (.cells x 58 false)
theorem InsAt.call {s0 s s1:St} {rb:Nat} {q x:List AV} {r r':List (List UInt8)} (h:InsAt s0 s rb q x r) (hb:s0.bound≤s0.next) (hr:rb<s0.next) (c1:Chg s s1 (fun c=>c=rb)) (r1:RdAt s1 rb q r') (l1:s.bound≤s.next→Loggd s s1):InsAt s0 s1 rb q x r':=
 have:=h.nx
 ⟨h.chg.trans c1 (fun _ h=>h) (fun _ h=> .inl h) hb,h.lg.trans (l1 (by rw[h.chg.bound];omega)),Nat.lt_of_lt_of_le h.nx c1.next,r1,(c1.heap _ h.nx (by omega)).trans h.at_⟩
theorem InsAt.store {s0 s:St} {rb:Nat} {q x x':List AV} {r:List (List UInt8)} {o:AObj} (h:InsAt s0 s rb q x r) (hb:s0.bound≤s0.next) (hr:rb<s0.next) (ho:o= .cells x' 58 false):InsAt s0 (s.put s0.next (some o)) rb q x' r:=
 ⟨h.chg.trans Chg.put (fun _ h=>h) (fun c h=> .inr (by omega)) hb,h.lg.trans Loggd.put,h.nx,⟨(Bl.trans (if_neg (by omega))).trans h.rd.1,h.rd.2.1,h.rd.2.2⟩,by rw[Bl,if_pos rfl,ho]⟩
theorem ins_run {s:St} {rb:Nat} {c:CodeT} {vc vf vi vs:AV} {ws:List (List UInt8)} {w0:List UInt8} (h:RdAt s rb [vc,vf,vi,vs] ws) (hl:Lists s rb c vc vf vi vs) (hn:ws.length≤50001) (hw:∀w∈ws,w.length≤50000) (hcn:c.ins.length≤50000) {R RP:AV→St→Prop}
 (hR:∀x r,InsR (opS w0) ws x r→∀s' v',Chg s s' (fun c=>c=rb∨ownB c vi=true)→(∀b,ownB b v'=true→s.next≤b)→RdAt s' rb [vc,vf,v',vs] r→Lists s' rb {c with ins:=c.ins++[x]} vc vf v' vs→(s.bound≤s.next→Loggd s s')→R (.tuple []) s')
 (hP:(¬∃x r,InsR (opS w0) ws x r)→∀s',Chg s s' (fun c=>rb≤c)→(s.bound≤s.next→Loggd s s')→RP bad s'):RunsX (EK R9) 133 [.ptr rb 0,.str w0] s R RP:=by
 refine RunsX.unit (fn:=Tryz.f133) U (by kernel_rfl) U U U U ?_
 have h0:RdAt s.enter rb [vc,vf,vi,vs] ws:=h
 have hl0:Lists s.enter rb c vc vf vi vs:=⟨hl.cons,hl.funs,hl.ins,hl.starts,hl.dc,hl.df,hl.di,hl.ds⟩
 have hb:=h.2.2
 refine Es<|qm U ?_
 refine Lo (Ad U U (by kernel_rfl) U (Ac (hit_170))) rfl<|Lq (AJ U pl_58 U U) rfl<|Lo (BI U z_58) U ?_
 have iA:InsAt s.enter (s.enter.alloc (.cells [.int .i64 0,.int .i64 0,.nilslice,.nilslice,.int .i64 0,.int .i64 0,.nilslice] 58 false)) rb [vc,vf,vi,vs] [.int .i64 0,.int .i64 0,.nilslice,.nilslice,.int .i64 0,.int .i64 0,.nilslice] ws:=
  ⟨Chg.alloc,Loggd.alloc (Qj _),Nat.lt_succ_self _,⟨(Bw h0.2.2).trans h0.1,rfl,Nat.lt_succ_of_lt h0.2.2⟩,Dg⟩
 show RegL _ _ _ _ _ _ (s.enter.alloc (.cells [.int .i64 0,.int .i64 0,.nilslice,.nilslice,.int .i64 0,.int .i64 0,.nilslice] 58 false)) _
 generalize s.enter.alloc (.cells [.int .i64 0,.int .i64 0,.nilslice,.nilslice,.int .i64 0,.int .i64 0,.nilslice] 58 false)=sA at*
 have gA:=iA.at_
 refine Ak (Ar U AP U U (Aq ‹_› U U U)) U rfl<|Ld<|Ab ?_
 have iB:=iA.store (x':=[.int .i64 (opS w0),.int .i64 0,.nilslice,.nilslice,.int .i64 0,.int .i64 0,.nilslice]) (Qj _) h0.2.2 rfl
 show EvtL _ _ _ _ (sA.put s.enter.next (some (.cells [.int .i64 (opS w0),.int .i64 0,.nilslice,.nilslice,.int .i64 0,.int .i64 0,.nilslice] 58 false))) _
 generalize sA.put s.enter.next (some (.cells [.int .i64 (opS w0),.int .i64 0,.nilslice,.nilslice,.int .i64 0,.int .i64 0,.nilslice] 58 false))=sB at*
 have gB:=iB.at_
 refine E3 [(9,.int .i64 (opS w0)),(4,.ptr s.enter.next 0),(0,.ptr rb 0)] sB ?_ ?_
 ·refine Ao ?_
  refine Lq (of B1 U) rfl<|Lo (At U U (An DT DN ‹_› U)) rfl<|Ld ?_
  exact⟨rfl,rfl,rfl,by(refine Am.Av ?_;repeat (first|exact trivial|refine⟨rfl,?_⟩))⟩
 refine Fz (fun y:InsT×List (List UInt8)×St=>([(4,.ptr s.enter.next 0),(0,.ptr rb 0)],y.2.2)) (fun y=>InsR (opS w0) ws y.1 y.2.1∧InsAt s.enter y.2.2 rb [vc,vf,vi,vs] (encIR y.1) y.2.1) ?_ ?_
 rotate_left
 ·rintro⟨x,r,s1⟩ ⟨hx,iA⟩
  dsimp only at hx iA⊢
  have gA:=iA.at_
  have hl1:=hl0.keep iA.chg
  have r1:=iA.rd
  have hb1:s1.bound≤s1.next:=by rw[iA.chg.bound];exact iA.chg.next
  refine Dw (by kernel_rfl) ?_
  iterate 2 refine Nq (om U) U ?_
  refine Nq (AF U U U) rfl<|Nq (of Fe U) rfl<|Nq (of Bp U) rfl<|RegN.loadR U Du Dc U r1.1 U (grown_eq hl1.ins) (FA hl1.ins) U (.inl U) U rfl<|Bz U U (A8 Dy AP ‹_› (Qc U)) U (.inl U) U rfl<|Bi U u_25 AP z_58 U U U (.inl U) U U ?_
  refine DJ (new:=encIR x) hl1.ins hb1 U (by decide) (AR (by omega) (by decide)) (AR (by omega) (by decide)) U U U U u_25 AP by_58 z_58 (by kernel_rfl) (by kernel_rfl) U U (by kernel_rfl) (by kernel_rfl) (.inl U) U U fun v2 s4 nl4 g4 o4 c4 l4 hcl=>?_
  refine Nq (AF U U U) rfl<|Nq (of Fe U) rfl<|Nq (of Bp U) U ?_
  have gr4:s4.heap.get rb=some (.cells ([vc,vf,vi,vs]++[strsV r]) 184 false):=(c4.heap rb r1.2.2 fun h=>by have:=(hl0.di rb h).1;omega).trans r1.1
  have hrb4:rb<s4.next:=Nat.lt_of_lt_of_le r1.2.2 c4.next
  have hcv:=Df g4
  refine By hrb4 U (by kernel_rfl) U U gr4 (by rw[hcv.1]) hcv.2 (by rw[hcv.1];rfl) (hcl rb r1.2.2 (by
   cases h:ownB rb vi with
   |false=>rfl
   |true=>have:=(hl0.di rb h).1;omega) _ (Dj (by kernel_rfl))) (by kernel_rfl) (.inl rfl) rfl rfl ?_
  refine AG ?_
  have hl5:=(hl1.ins' (a:=x) c4 g4 o4 r1.2.2).keep (Da (b:=rb) (o:=some (.cells [vc,vf,v2,vs,strsV r] 184 false)))
  have r6:RdAt (putB s4 rb (some (.cells [vc,vf,v2,vs,strsV r] 184 false))) rb [vc,vf,v2,vs] r:=rd_put hrb4 rfl rfl
  have c6:Chg s.enter (putB s4 rb (some (.cells [vc,vf,v2,vs,strsV r] 184 false))) (fun c=>c=rb∨ownB c vi=true):=(iA.chg.trans c4 (own:=fun c=>c=rb∨ownB c vi=true) (fun c hc=> .inl hc) (fun c hc=> .inl (.inr hc)) (Qj _)).trans Da (fun _ h=>h) (fun c hc=> .inl (.inl hc)) (Qj _)
  have l6:Loggd s.enter (putB s4 rb (some (.cells [vc,vf,v2,vs,strsV r] 184 false))):=(iA.lg.trans l4).trans lg_putB
  have r7:=hR x r hx _ _ (Chg.back c6) (fun b hb=>Nat.le_trans iA.chg.next (o4 b hb)) r6 hl5.back (fun hb=>Loggd.back l6 hb)
  refine⟨.inr U,rfl,fun h=>?_,r7⟩
  have hm:rb∈(putB s4 rb (some (.cells [vc,vf,v2,vs,strsV r] 184 false))).log:=log_putB.2 (.inl ⟨rfl,by rw[c4.bound,iA.chg.bound];exact h0.2.2⟩)
  rw[show(putB s4 rb (some (.cells [vc,vf,v2,vs,strsV r] 184 false))).log=[]from h]at hm
  cases hm
 ·have no:(¬∃x r,InsR (opS w0) ws x r)→∀s1,Chg s.enter s1 (fun c=>c=rb)→Loggd s.enter s1→RP bad (s.back s1):=fun h s1 c1 l1=>hP h _ (Chg.back (Bd c1 fun c hc=>by omega)) (fun hb=>Loggd.back l1 hb)
  focus
   refine Af<|Es<|Lq (o2 BB U U) rfl<|qa rfl<|Ld ?_
   refine Ec U (fun g1=>?_) (fun g1=>?_)
   have h1:=dT g1
   refine Es<|qm U ?_
   rotate_left
   have h1:=dF g1
   refine Es<|Lq (o2 BB U U) rfl<|qa rfl<|Ld ?_
   refine Ec U (fun g2=>?_) (fun g2=>?_)
   have h2:=dT g2
   refine Ao<|qm U ?_
   rotate_left
   have h2:=dF g2
   refine Es<|Lq (o2 BB U U) rfl<|qa rfl<|Ld ?_
   refine Ec U (fun g3=>?_) (fun g3=>?_)
   have h3:=dT g3
   refine Es<|qm U ?_
   rotate_left
   have h3:=dF g3
   refine Es<|Lq (o2 BB U U) rfl<|qa rfl<|Ld ?_
   refine Ec U (fun g4=>?_) (fun g4=>?_)
   have h4:=dT g4
   refine Ao<|qm U ?_
   rotate_left
   have h4:=dF g4
   refine Ae ?_
   rotate_left
  ·have hI:∀ {x r},InsR (opS w0) ws x r↔∃w,(∃u,ws=w::u∧NumP w∧(∀w∈u,AltP w)∧x= {op:=opS w0,a:=numV w,alts:=u.map altV,to:=[],term:=0,n:=0,args:=[]})∧r=[]:=by
    intro x r;unfold InsR;rw[if_pos h1]
   refine Ay U U (by kernel_rfl) U U U U (F4 iB.rd hn (fun w r e s1 c1 r1 l1=>?_) fun e=>⟨rfl,no (fun⟨x,r,hx⟩=>by obtain⟨w,⟨u,h2,_⟩,_⟩:=hI.1 hx;rw[e]at h2;cases h2) _ iB.chg iB.lg⟩)
   have i1:=iB.call (Qj _) h0.2.2 c1 r1 l1
   have gC:=i1.at_
   have hwl:=hw w (by rw[e];exact Qh ..)
   by_cases hN:NumP w
   ·refine Lo (Ad U U (by kernel_rfl) U (Ac (EC (by first|assumption|omega|(simp only[LL];omega)) (by first|assumption|omega|(simp only[LL];omega))))) U ?_
    refine Lq (of DZ U) rfl<|Ak (Ar U Bf U U (Aq ‹_› U U U)) U rfl<|Ld<|Ao<|qm U ?_
    have i2:=i1.store (x':=[.int .i64 (opS w0),.int .i64 (numV w),.nilslice,.nilslice,.int .i64 0,.int .i64 0,.nilslice]) (Qj _) h0.2.2 rfl
    refine Ay U U (by kernel_rfl) U U U U (alts_run i2.rd (by rw[e,List.length_cons]at hn;omega) (fun w h=>hw w (by rw[e];exact Qg _ h)) (fun hA s2 c2 r2 l2=>?_) fun hx s2 c2 l2=>⟨rfl,no (fun⟨x,r,hx2⟩=>by obtain⟨w,⟨u,h2,_,h3,_⟩,_⟩:=hI.1 hx2;rw[e]at h2;cases h2;exact hx h3) _ (i2.chg.trans c2 (fun _ h=>h) (fun _ h=> .inl h) (Qj _)) (i2.lg.trans (l2 (by rw[i2.chg.bound];exact i2.chg.next)))⟩)
    have i3:=i2.call (Qj _) h0.2.2 c2 r2 l2
    have gD:=i3.at_
    have fin:InsR (opS w0) ws {op:=opS w0,a:=numV w,alts:=r.map altV,to:=[],term:=0,n:=0,args:=[]} []:=hI.2 ⟨w,⟨r,e,hN,hA,rfl⟩,rfl⟩
    cases r with
    |nil=>
     refine Lq (of D5 U) rfl<|Ak (Ar U E7 U U (Aq ‹_› U U U)) U rfl<|Ld ?_
     exact⟨rfl,(_,[],_),⟨fin,i3.store (Qj _) h0.2.2 U⟩,rfl,by(refine Am.Av ?_;repeat (first|exact trivial|refine⟨rfl,?_⟩))⟩
    |cons w2 r=>
     refine Lq (of D5 U) rfl<|Ak (Ar U E7 U U (Aq ‹_› U U U)) U rfl<|Ld ?_
     exact⟨rfl,(_,[],_),⟨fin,i3.store (Qj _) h0.2.2 U⟩,rfl,by(refine Am.Av ?_;repeat (first|exact trivial|refine⟨rfl,?_⟩))⟩
   ·refine Ay U U (by kernel_rfl) U U U U (Fb (by first|assumption|omega|(simp only[LL];omega)) (by first|assumption|omega|(simp only[LL];omega)) ?_)
    exact⟨rfl,no (fun⟨x,r,hx⟩=>by obtain⟨w,⟨u,h2,h3,_⟩,_⟩:=hI.1 hx;rw[e]at h2;cases h2;exact hN h3) _ i1.chg i1.lg⟩
  ·have hI:∀ {x r},InsR (opS w0) ws x r↔(∀w∈ws,NumP w)∧x= {op:=opS w0,a:=0,alts:=[],to:=ws.map numV,term:=0,n:=0,args:=[]}∧r=[]:=by
    intro x r;unfold InsR;rw[if_neg h1,if_pos h2]
   refine Ay U U (by kernel_rfl) U U U U (rest_run iB.rd hn hw (fun hA s2 c2 r2 l2=>?_) fun hx s2 c2 l2=>⟨rfl,no (fun⟨x,r,hx2⟩=>hx (hI.1 hx2).1) _ (iB.chg.trans c2 (fun _ h=>h) (fun _ h=> .inl h) (Qj _)) (iB.lg.trans (l2 (by rw[iB.chg.bound];exact iB.chg.next)))⟩)
   have i3:=iB.call (Qj _) h0.2.2 c2 r2 l2
   have gD:=i3.at_
   have fin:InsR (opS w0) ws _ []:=hI.2 ⟨hA,rfl,rfl⟩
   cases ws with
   |nil=>
    refine Lq (of Em U) rfl<|Ak (Ar U BC U U (Aq ‹_› U U U)) U rfl<|Ld ?_
    exact⟨rfl,(_,[],_),⟨fin,i3.store (Qj _) h0.2.2 U⟩,rfl,by(refine Am.Av ?_;repeat (first|exact trivial|refine⟨rfl,?_⟩))⟩
   |cons w2 r=>
    refine Lq (of Em U) rfl<|Ak (Ar U BC U U (Aq ‹_› U U U)) U rfl<|Ld ?_
    exact⟨rfl,(_,[],_),⟨fin,i3.store (Qj _) h0.2.2 U⟩,rfl,by(refine Am.Av ?_;repeat (first|exact trivial|refine⟨rfl,?_⟩))⟩
  ·have hI:∀ {x r},InsR (opS w0) ws x r↔∃w1 w2 u,ws=w1::w2::u∧NumP w1∧NumP w2∧(∀w∈u,NumP w)∧x= {op:=opS w0,a:=0,alts:=[],to:=[],term:=numV w1,n:=numV w2,args:=u.map numV}∧r=[]:=by
    intro x r;unfold InsR;rw[if_neg h1,if_neg h2,if_pos h3]
   refine Ay U U (by kernel_rfl) U U U U (F4 iB.rd hn (fun w r e s1 c1 r1 l1=>?_) fun e=>⟨rfl,no (fun⟨x,r,hx⟩=>by obtain⟨w1,w2,u,h2,_⟩:=hI.1 hx;rw[e]at h2;cases h2) _ iB.chg iB.lg⟩)
   have i1:=iB.call (Qj _) h0.2.2 c1 r1 l1
   have gC:=i1.at_
   have hwl:=hw w (by rw[e];exact Qh ..)
   by_cases hN:NumP w
   rotate_left
   ·refine Ay U U (by kernel_rfl) U U U U (Fb (by first|assumption|omega|(simp only[LL];omega)) (by first|assumption|omega|(simp only[LL];omega)) ?_)
    exact⟨rfl,no (fun⟨x,r,hx⟩=>by obtain⟨w1,w2,u,h2,h3,_⟩:=hI.1 hx;rw[e]at h2;cases h2;exact hN h3) _ i1.chg i1.lg⟩
   refine Lo (Ad U U (by kernel_rfl) U (Ac (EC (by first|assumption|omega|(simp only[LL];omega)) (by first|assumption|omega|(simp only[LL];omega))))) U ?_
   refine Lq (of f_58_4 U) rfl<|Ak (Ar U sz_37 U U (Aq ‹_› U U U)) U rfl<|Ld<|Es<|qm U ?_
   have i2:=i1.store (x':=[.int .i64 (opS w0),.int .i64 0,.nilslice,.nilslice,.int .i64 (numV w),.int .i64 0,.nilslice]) (Qj _) h0.2.2 rfl
   refine Ay U U (by kernel_rfl) U U U U (F4 i2.rd (by rw[e,List.length_cons]at hn;omega) (fun w2 r2 e2 s2 c2 rd2 l2=>?_) fun e2=>⟨rfl,no (fun⟨x,r,hx⟩=>by obtain⟨w1,w2,u,h2,_⟩:=hI.1 hx;rw[e,e2]at h2;cases h2) _ i2.chg i2.lg⟩)
   have i3:=i2.call (Qj _) h0.2.2 c2 rd2 l2
   have gD:=i3.at_
   have hwl2:=hw w2 (by rw[e,e2];exact Qg _ (Qh ..))
   by_cases hN2:NumP w2
   rotate_left
   ·refine Ay U U (by kernel_rfl) U U U U (Fb (by first|assumption|omega|(simp only[LL];omega)) (by first|assumption|omega|(simp only[LL];omega)) ?_)
    exact⟨rfl,no (fun⟨x,r,hx⟩=>by obtain⟨w1,w2,u,h2,h3,h4,_⟩:=hI.1 hx;rw[e,e2]at h2;cases h2;exact hN2 h4) _ i3.chg i3.lg⟩
   refine Lo (Ad U U (by kernel_rfl) U (Ac (EC (by first|assumption|omega|(simp only[LL];omega)) (by first|assumption|omega|(simp only[LL];omega))))) U ?_
   refine Lq (of BY U) rfl<|Ak (Ar U Bf U U (Aq ‹_› U U U)) U rfl<|Ld<|Ao<|qm U ?_
   have i4:=i3.store (x':=[.int .i64 (opS w0),.int .i64 0,.nilslice,.nilslice,.int .i64 (numV w),.int .i64 (numV w2),.nilslice]) (Qj _) h0.2.2 rfl
   refine Ay U U (by kernel_rfl) U U U U (rest_run i4.rd (by rw[e,e2,List.length_cons,List.length_cons]at hn;omega) (fun w h=>hw w (by rw[e,e2];exact Qg _ (Qg _ h))) (fun hA s2 c2 rd3 l2=>?_) fun hx s2 c2 l2=>⟨rfl,no (fun⟨x,r,hx2⟩=>by obtain⟨w1,w2,u,h2,_,_,h3,_⟩:=hI.1 hx2;rw[e,e2]at h2;cases h2;exact hx h3) _ (i4.chg.trans c2 (fun _ h=>h) (fun _ h=> .inl h) (Qj _)) (i4.lg.trans (l2 (by rw[i4.chg.bound];exact i4.chg.next)))⟩)
   have i5:=i4.call (Qj _) h0.2.2 c2 rd3 l2
   have gE:=i5.at_
   have fin:InsR (opS w0) ws _ []:=hI.2 ⟨w,w2,_,by rw[e,e2],hN,hN2,hA,rfl,rfl⟩
   clear e2
   cases r2 with
   |nil=>
    refine Lq (of f_58_6 U) rfl<|Ak (Ar U BC U U (Aq ‹_› U U U)) U rfl<|Ld ?_
    exact⟨rfl,(_,[],_),⟨fin,i5.store (Qj _) h0.2.2 U⟩,rfl,by(refine Am.Av ?_;repeat (first|exact trivial|refine⟨rfl,?_⟩))⟩
   |cons w2 r=>
    refine Lq (of f_58_6 U) rfl<|Ak (Ar U BC U U (Aq ‹_› U U U)) U rfl<|Ld ?_
    exact⟨rfl,(_,[],_),⟨fin,i5.store (Qj _) h0.2.2 U⟩,rfl,by(refine Am.Av ?_;repeat (first|exact trivial|refine⟨rfl,?_⟩))⟩
  ·have hI:∀ {x r},InsR (opS w0) ws x r↔∃w,ws=w::r∧NumP w∧x= {op:=opS w0,a:=numV w,alts:=[],to:=[],term:=0,n:=0,args:=[]}:=by
    intro x r;unfold InsR;rw[if_neg h1,if_neg h2,if_neg h3,if_pos h4]
   refine Ay U U (by kernel_rfl) U U U U (F4 iB.rd hn (fun w r e s1 c1 r1 l1=>?_) fun e=>⟨rfl,no (fun⟨x,r,hx⟩=>by obtain⟨w,h2,_⟩:=hI.1 hx;rw[e]at h2;cases h2) _ iB.chg iB.lg⟩)
   have i1:=iB.call (Qj _) h0.2.2 c1 r1 l1
   have gC:=i1.at_
   have hwl:=hw w (by rw[e];exact Qh ..)
   by_cases hN:NumP w
   ·have fin:InsR (opS w0) ws _ r:=hI.2 ⟨w,e,hN,rfl⟩
    refine Lo (Ad U U (by kernel_rfl) U (Ac (EC (by first|assumption|omega|(simp only[LL];omega)) (by first|assumption|omega|(simp only[LL];omega))))) U ?_
    refine Lq (of DZ U) rfl<|Ak (Ar U Bf U U (Aq ‹_› U U U)) U rfl<|Ld ?_
    exact⟨rfl,(_,r,_),⟨fin,i1.store (Qj _) h0.2.2 U⟩,rfl,by(refine Am.Av ?_;repeat (first|exact trivial|refine⟨rfl,?_⟩))⟩
   ·refine Ay U U (by kernel_rfl) U U U U (Fb (by first|assumption|omega|(simp only[LL];omega)) (by first|assumption|omega|(simp only[LL];omega)) ?_)
    exact⟨rfl,no (fun⟨x,r,hx⟩=>by obtain⟨w,h2,h3,_⟩:=hI.1 hx;rw[e]at h2;cases h2;exact hN h3) _ i1.chg i1.lg⟩
  ·have fin:InsR (opS w0) ws {op:=opS w0,a:=0,alts:=[],to:=[],term:=0,n:=0,args:=[]} ws:=by
    unfold InsR;rw[if_neg h1,if_neg h2,if_neg h3,if_neg h4];exact⟨rfl,rfl⟩
   exact⟨rfl,(_,ws,_),⟨fin,iB⟩,rfl,by(refine Am.Av ?_;repeat (first|exact trivial|refine⟨rfl,?_⟩))⟩
def LineR (last:Int) (c:CodeT) (line:List UInt8) (c':CodeT) (last':Int):Prop:=
 ∃w ws,pcs 32 line=w::ws∧kindS w=some last'∧last≤last'∧
  ((last'=0∧∃w1 w2,ws=[w1,w2]∧NameP w1∧NumP w2∧c'= {c with cons:=c.cons++[(w1,numV w2)]})∨(last'=1∧∃w1 w2 w3,ws=[w1,w2,w3]∧NameP w1∧NumP w2∧NumP w3∧c'= {c with funs:=c.funs++[(w1,numV w2)],starts:=c.starts++[numV w3]})∨(last'=2∧∃x,InsR (opS w) ws x []∧c'= {c with ins:=c.ins++[x]}))
theorem InsR.eq {op:Int} {ws:List (List UInt8)} {x y:InsT} {r t:List (List UInt8)} (h:InsR op ws x r) (h2:InsR op ws y t):x=y∧r=t:=by
 unfold InsR at h h2
 split at h
 ·next e=>
  rw[if_pos e]at h2
  obtain⟨w,⟨u,rfl,_,_,rfl⟩,rfl⟩:=h
  obtain⟨w,⟨u,e2,_,_,rfl⟩,rfl⟩:=h2
  cases e2;exact⟨rfl,rfl⟩
 ·next e1=>
  rw[if_neg e1]at h2
  split at h
  ·next e=>
   rw[if_pos e]at h2
   obtain⟨_,rfl,rfl⟩:=h
   obtain⟨_,rfl,rfl⟩:=h2
   exact⟨rfl,rfl⟩
  ·next e2=>
   rw[if_neg e2]at h2
   split at h
   ·next e=>
    rw[if_pos e]at h2
    obtain⟨w1,w2,u,rfl,_,_,_,rfl,rfl⟩:=h
    obtain⟨w1,w2,u,e3,_,_,_,rfl,rfl⟩:=h2
    cases e3;exact⟨rfl,rfl⟩
   ·next e3=>
    rw[if_neg e3]at h2
    split at h
    ·next e=>
     rw[if_pos e]at h2
     obtain⟨w1,rfl,_,rfl⟩:=h
     obtain⟨w1,e3,_,rfl⟩:=h2
     cases e3;exact⟨rfl,rfl⟩
    ·next e=>
     rw[if_neg e]at h2
     obtain⟨rfl,rfl⟩:=h
     obtain⟨rfl,rfl⟩:=h2
     exact⟨rfl,rfl⟩
theorem LineR.eq {last:Int} {c c1 c2:CodeT} {line:List UInt8} {l1 l2:Int} (h:LineR last c line c1 l1) (h2:LineR last c line c2 l2):c1=c2∧l1=l2:=by
 obtain⟨w,ws,e,k,_,h⟩:=h
 obtain⟨w',ws',e',k',_,h2⟩:=h2
 rw[e]at e'
 cases e'
 rw[k]at k'
 cases k'
 refine⟨?_,rfl⟩
 rcases h with⟨h0,w1,w2,rfl,_,_,rfl⟩|⟨h0,w1,w2,w3,rfl,_,_,_,rfl⟩|⟨h0,x,hx,rfl⟩
 ·rcases h2 with⟨_,v1,v2,e,_,_,rfl⟩|⟨h1,_⟩|⟨h1,_⟩
  ·cases e;rfl
  ·omega
  ·omega
 ·rcases h2 with⟨h1,_⟩|⟨_,v1,v2,v3,e,_,_,_,rfl⟩|⟨h1,_⟩
  ·omega
  ·cases e;rfl
  ·omega
 ·rcases h2 with⟨h1,_⟩|⟨h1,_⟩|⟨_,y,hy,rfl⟩
  ·omega
  ·omega
  ·rw[(hx.eq hy).1]
inductive AllR:Int→CodeT→List UInt8→CodeT→Prop
 |nil {last:Int} {c:CodeT}:AllR last c [] c
 |cons {last last':Int} {c c1 c2:CodeT} {t:List UInt8} {n:Nat}:idxS 10 t=some n→LineR last c (t.take n) c1 last'→AllR last' c1 (t.drop (n+1)) c2→AllR last c t c2
theorem AllR.step {last last':Int} {c c1 c2:CodeT} {t:List UInt8} {n:Nat} (hi:idxS 10 t=some n) (hl:LineR last c (t.take n) c1 last'):AllR last c t c2↔AllR last' c1 (t.drop (n+1)) c2:=by
 refine⟨fun h=>?_,.cons hi hl⟩
 cases h with
 |nil=>cases hi
 |cons hi2 hl2 h=>
  rw[hi]at hi2
  cases hi2
  obtain⟨rfl,rfl⟩:=hl.eq hl2
  exact h
theorem AllR.none {last:Int} {c c2:CodeT} {t:List UInt8} (ht:t≠ []) (h:∀n,idxS 10 t=some n→¬∃c1 l1,LineR last c (t.take n) c1 l1):¬AllR last c t c2:=fun hh=>by
 cases hh with
 |nil=>exact ht rfl
 |cons hi hl _=>exact h _ hi ⟨_,_,hl⟩
theorem AllR.eq {last:Int} {c c1 c2:CodeT} {t:List UInt8} (h:AllR last c t c1):AllR last c t c2→c1=c2:=by
 induction h with
 |nil=>intro h2;cases h2 with
  |nil=>rfl
  |cons hi _ _=>cases hi
 |cons hi hl _ ih=>exact fun h2=>ih ((AllR.step hi hl).1 h2)
def RdIn (s:St) (rb:Nat) (q:List AV) (x:AV):Prop:=s.heap.get rb=some (.cells (q++[x]) 184 false)∧q.length=4∧rb<s.next
def fnsL (rb:Nat):List AV:=[.func (.func 131) [.ptr rb 0] [],.func (.func 132) [.ptr rb 0] [],.func (.func 133) [.ptr rb 0] []]
structure AllI (s0 s:St) (rb:Nat) (c0:CodeT) (t0:List UInt8) (t:List UInt8) (last:Int) (c:CodeT) (vc vf vi vs x:AV):Prop where
 all:∀c2,AllR 0 c0 t0 c2↔AllR last c t c2
 chg:Chg s0 s (fun c=>rb≤c)
 lg:Loggd s0 s
 nx:s0.next<s.next
 at_:∃e,s.heap.get s0.next=some (.cells (fnsL rb) e false)
 rd:RdIn s rb [vc,vf,vi,vs] x
 ls:Lists s rb c vc vf vi vs
 own:∀v∈[vc,vf,vi,vs],ownB s0.next v=false
 sz:c.cons.length+c.funs.length+c.ins.length+t.length≤50000
 st:c.starts.length=c.funs.length
 lo:s.log=[]→t=t0∧c=c0
theorem kind_le {w:List UInt8} {k:Int} (h:kindS w=some k):k=0∨k=1∨k=2:=by
 unfold kindS at h
 split at h
 ·cases h;exact .inl rfl
 ·split at h
  ·cases h;exact .inr (.inl rfl)
  ·split at h
   ·cases h
   ·cases h;exact .inr (.inr rfl)
theorem pcs_mem {c:UInt8}:∀ {n:Nat} {w:List UInt8},w.length≤n→∀v∈pcs c w,v.length≤n:=by
 intro n
 induction n with
 |zero=>
  intro w hw v hv
  obtain rfl:w=[]:=List.eq_nil_of_length_eq_zero (by omega)
  rw[Ey rfl]at hv
  rw[Qo.1 hv];exact Qj _
 |succ n ih=>
  intro w hw v hv
  cases h:idxS c w with
  |none=>
   rw[Ey h]at hv
   rw[Qo.1 hv];exact hw
  |some i=>
   rw[ER h]at hv
   have:=F8 h
   rcases Qk.1 hv with rfl|hv
   ·exact Nat.le_trans (List.length_take_le _ _) (by omega)
   ·exact Nat.le_succ_of_le (ih (by rw[List.length_drop];omega) v hv)
theorem AllI.step {s0 st s2 s3:St} {rb:Nat} {c0 c1 c2:CodeT} {t0 t1:List UInt8} {last k:Int} {n:Nat} {vc vf vi vs x wc wf wi ws:AV} (hI:AllI s0 st rb c0 t0 t1 last c1 vc vf vi vs x) (hb:s0.bound≤s0.next) (hrb:rb<s0.next) (hx:idxS 10 t1=some n)
 (hL:LineR last c1 (t1.take n) c2 k) (c3:Chg st s2 (fun c=>c=rb)) (l3:Loggd st s2) (m3:rb∈s2.log) (c4:Chg s2 s3 (fun c=>c=rb∨ownB c vc=true∨ownB c vf=true∨ownB c vi=true∨ownB c vs=true)) (l4:s2.bound≤s2.next→Loggd s2 s3) (r4:RdAt s3 rb [wc,wf,wi,ws] []) (hl4:Lists s3 rb c2 wc wf wi ws)
 (ho:∀v∈[wc,wf,wi,ws],v∈[vc,vf,vi,vs]∨∀b,ownB b v=true→s2.next≤b) (hsz:c2.cons.length+c2.funs.length+c2.ins.length≤c1.cons.length+c1.funs.length+c1.ins.length+1) (hst:c2.starts.length=c2.funs.length):
 AllI s0 s3 rb c0 t0 (t1.drop (n+1)) k c2 wc wf wi ws (strsV []):=by
 have hnx:=hI.nx
 have hn3:=c3.next
 have hb2:s2.bound≤s2.next:=by rw[c3.bound,hI.chg.bound];omega
 have hbs:st.bound≤st.next:=by rw[hI.chg.bound];omega
 have up:∀c,(c=rb∨ownB c vc=true∨ownB c vf=true∨ownB c vi=true∨ownB c vs=true)→rb≤c:=fun c h=>by
  rcases h with h|h|h|h|h
  ·omega
  ·exact Nat.le_of_lt (hI.ls.dc c h).1
  ·exact Nat.le_of_lt (hI.ls.df c h).1
  ·exact Nat.le_of_lt (hI.ls.di c h).1
  ·exact Nat.le_of_lt (hI.ls.ds c h)
 have hil:=F8 hx
 have hs1:=hI.sz
 refine⟨fun c=>(hI.all c).trans (AllR.step hx hL),(hI.chg.trans c3 (fun _ h=>h) (fun c h=> .inl (by omega)) hb).trans c4 (fun _ h=>h) (fun c h=> .inl (up c h)) hb,(hI.lg.trans l3).trans (l4 hb2),by have:=c4.next;omega,hI.at_.imp fun e he=>?_,r4,hl4,fun v hv=>?_,by rw[List.length_drop];omega,hst,fun h=>?_⟩
 ·refine(c4.heap _ (by omega) fun h=>?_).trans ((c3.heap _ hnx (by omega)).trans he)
  have hno:=hI.own
  rcases h with h|h|h|h|h
  ·omega
  ·rw[hno vc (by simp)]at h;cases h
  ·rw[hno vf (by simp)]at h;cases h
  ·rw[hno vi (by simp)]at h;cases h
  ·rw[hno vs (by simp)]at h;cases h
 ·rcases ho v hv with h|h
  ·exact hI.own v h
  ·cases hh:ownB s0.next v with
   |false=>rfl
   |true=>have:=h _ hh;omega
 ·have:=(l4 hb2).more _ m3
  rw[h]at this;cases this
theorem all_run {s:St} {rb:Nat} {c:CodeT} {vc vf vi vs x:AV} {t:List UInt8} (h:RdIn s rb [vc,vf,vi,vs] x) (hl:Lists s rb c vc vf vi vs) (hn:c.cons.length+c.funs.length+c.ins.length+t.length≤50000) (hs:c.starts.length=c.funs.length) {R RP:AV→St→Prop}
 (hR:∀c',AllR 0 c t c'→∀s' vc vf vi vs x,Chg s s' (fun c=>rb≤c)→RdIn s' rb [vc,vf,vi,vs] x→Lists s' rb c' vc vf vi vs→(s.bound≤s.next→Loggd s s')→R (.tuple []) s')
 (hP:(¬∃c',AllR 0 c t c')→∀s',Chg s s' (fun c=>rb≤c)→(s.bound≤s.next→Loggd s s')→RP bad s'):RunsX (EK R9) 97 [.ptr rb 0,.str t] s R RP:=by
 refine RunsX.unit (fn:=Tryz.f97) U (by kernel_rfl) U U U U ?_
 have h0:RdIn s.enter rb [vc,vf,vi,vs] x:=h
 have hl0:Lists s.enter rb c vc vf vi vs:=⟨hl.cons,hl.funs,hl.ins,hl.starts,hl.dc,hl.df,hl.di,hl.ds⟩
 have hb:=h.2.2
 refine Es<|qm rfl<|Lq (Bk U U U) rfl<|qm rfl<|Lq (Bk U U U) rfl<|qm rfl<|Lq (Bk U U U) rfl<|Lq (AJ U pl_222 U U) U ?_
 refine Lo (BI U z_222) U ?_
 have iA:AllI s.enter ((s.enter.alloc (.cells [.nilfunc,.nilfunc,.nilfunc] 222 false)).put s.next (some (.cells (fnsL rb) 222 false))) rb c t t 0 c vc vf vi vs x:=by
  have c1:Chg s.enter (s.enter.alloc (.cells [.nilfunc,.nilfunc,.nilfunc] 222 false)) (fun c=>c=rb):=Chg.alloc
  have c2:Chg s.enter ((s.enter.alloc (.cells [.nilfunc,.nilfunc,.nilfunc] 222 false)).put s.next (some (.cells (fnsL rb) 222 false))) (fun c=>c=rb):=c1.trans Chg.put (fun _ h=>h) (fun c h=> .inr (by rw[h];exact Qj _)) (Qj _)
  exact⟨fun _=>Iff.rfl,Bd c2 fun c h=>by omega,(Loggd.alloc (Qj _)).trans Loggd.put,Nat.lt_succ_self _,⟨_,by rw[Bl];exact if_pos U⟩,
   ⟨(Bl.trans (if_neg (by omega))).trans ((Bw h0.2.2).trans h0.1),rfl,Nat.lt_succ_of_lt h0.2.2⟩,hl0.keep c2,fun v hv=>by
    have:∀ {e:TypeId} {k n:Nat} {v:AV} {cs:List AV},Grown s.enter e k v cs n→ownB s.enter.next v=false:=fun h=>no_own h (Qj _)
    rcases Qk.1 hv with rfl|hv
    ·exact this hl0.cons
    rcases Qk.1 hv with rfl|hv
    ·exact this hl0.funs
    rcases Qk.1 hv with rfl|hv
    ·exact this hl0.ins
    rw[Qo.1 hv]
    exact this hl0.starts,hn,hs,fun _=>⟨rfl,rfl⟩⟩
 have gA:(s.enter.alloc (.cells [.nilfunc,.nilfunc,.nilfunc] 222 false)).heap.get s.next=some (.cells [.nilfunc,.nilfunc,.nilfunc] 222 false):=Dg
 show RegL _ _ _ _ _ _ (s.enter.alloc (.cells [.nilfunc,.nilfunc,.nilfunc] 222 false)) _
 generalize s.enter.alloc (.cells [.nilfunc,.nilfunc,.nilfunc] 222 false)=sA at*
 refine Ak (Ar U sz_222 U U (Aq ‹_› U U U)) U rfl<|Ld ?_
 show EvtL _ _ _ _ (sA.put s.next (some (.cells (fnsL rb) 222 false))) _
 generalize sA.put s.next (some (.cells (fnsL rb) 222 false))=s0 at*
 refine Es<|qa rfl<|Ld<|Af ?_
 refine A5 (fun y:List UInt8×Int×CodeT×(AV×AV×AV×AV×AV)×St=>([(5,.int .i64 y.2.1),(4,.ptr s.next 0),(1,.str y.1),(0,.ptr rb 0)],y.2.2.2.2)) (fun y=>y.1.length)
  (fun y=>AllI s.enter y.2.2.2.2 rb c t y.1 y.2.1 y.2.2.1 y.2.2.2.1.1 y.2.2.2.1.2.1 y.2.2.2.1.2.2.1 y.2.2.2.1.2.2.2.1 y.2.2.2.1.2.2.2.2) (t,0,c,(vc,vf,vi,vs,x),s0) iA rfl (by(refine Am.Av ?_;repeat (first|exact trivial|refine⟨rfl,?_⟩))) ?_
 rintro⟨t1,last,c1,⟨vc,vf,vi,vs,x⟩,st⟩ hI
 dsimp only at hI⊢
 have up:∀ {s1:St},Chg st s1 (fun c=>rb≤c)→(st.bound≤st.next→Loggd st s1)→Chg s.enter s1 (fun c=>rb≤c)∧Loggd s.enter s1:=fun c1 l1=>
  ⟨hI.chg.trans c1 (fun _ h=>h) (fun _ h=> .inl h) (Qj _),hI.lg.trans (l1 (by rw[hI.chg.bound];exact hI.chg.next))⟩
 by_cases ht:t1=[]
 ·subst ht
  refine Ab<|Es<|qm rfl<|Lq (AX U u_9 U U U U) rfl<|Ld<|Ap U rfl<|A9<|Bq U ?_
  refine⟨.inr U,rfl,fun h2=>?_,hR c1 ((hI.all c1).2 .nil) (s.back st) vc vf vi vs x (Chg.back hI.chg) hI.rd hI.ls.back (fun hb=>Loggd.back hI.lg hb)⟩
  obtain⟨h3,h4⟩:=hI.lo h2
  subst h3 h4
  exact hR _ .nil s _ _ _ _ _ Chg.refl h hl fun _=>Loggd.refl
 have no:(∀n,idxS 10 t1=some n→¬∃c2 l2,LineR last c1 (t1.take n) c2 l2)→∀ {s1:St},Chg s.enter s1 (fun c=>rb≤c)∧Loggd s.enter s1→RP bad (s.back s1):=fun h s1 cl=>
  hP (fun⟨c2,h2⟩=>AllR.none ht h ((hI.all c2).1 h2)) _ (Chg.back cl.1) fun hb=>Loggd.back cl.2 hb
 have hsz:=hI.sz
 have hwi:t1.length≤50000:=by omega
 cases hx:idxS 10 t1 with
 |none=>
  have DR:R9 134 [.str t1,.str [10]]=some (.tuple [.str t1,.str [],.bool false]):=by
   have:=DR (c:=10) hwi
   unfold cutV at this
   rw[hx]at this
   exact this
  focus
   refine Ab<|Es<|qm rfl<|Lq (AX U u_9 U U U U) rfl<|Ld ?_
   refine Ec U (fun g1=>?_) (fun g1=>?_)
   have h1:=bnT g1
   refine Ae<|Af<|Es<|qm U ?_
   refine Lo (Ad U U (by kernel_rfl) U (Ac (DR))) rfl<|qm U ?_
   iterate 3 refine Lq (oe U) U ?_
   iterate 3 refine qa U ?_
   refine Ld<|Es<|qm U ?_
   refine Ay U U (by kernel_rfl) U U U U (BQ Bc ?_)
   rotate_left
   have h1:=bnF g1
   exact absurd h1 (by omega)
  ·exact⟨rfl,no (fun n h=>by rw[hx]at h;cases h) ⟨hI.chg,hI.lg⟩⟩
 |some n=>
  have hnl:=F8 hx
  have DR:R9 134 [.str t1,.str [10]]=some (.tuple [.str (t1.take n),.str (t1.drop (n+1)),.bool true]):=by
   have:=DR (c:=10) hwi
   unfold cutV at this
   rw[hx]at this
   exact this
  have hw1:(t1.take n).length≤50000:=Nat.le_trans (List.length_take_le _ _) (by omega)
  have hrd:=hI.rd.1
  have hbst:st.bound=s.next:=hI.chg.bound
  have hnst:=hI.chg.next
  have hen:s.enter.next=s.next:=rfl
  have hnx:=hI.nx
  obtain⟨w,ws,hp⟩:∃w ws,pcs 32 (t1.take n)=w::ws:=by
   cases h:pcs 32 (t1.take n)with
   |nil=>exact absurd h (pcs_ne _ _)
   |cons w ws=>exact⟨w,ws,rfl⟩
  have hpl:=Eo 32 (t1.take n)
  have hcl:=cnt_le (32:UInt8).toNat (t1.take n)
  rw[hp,List.length_cons]at hpl
  have hws:ws.length≤50001:=by omega
  have hmem:∀v∈w::ws,v.length≤50000:=fun v hv=>pcs_mem hw1 v (by rw[hp];exact hv)
  have hit_136:R9 136 [.str (t1.take n),.str [32]]=some (strsV (w::ws)):=by
   rw[←hp];exact hit_136 (c:=32) hw1
  focus
   refine Ab<|Es<|qm rfl<|Lq (AX U u_9 U U U U) rfl<|Ld ?_
   refine Ec U (fun g1=>?_) (fun g1=>?_)
   have h1:=bnT g1
   refine Ae<|Af<|Es<|qm U ?_
   refine Lo (Ad U U (by kernel_rfl) U (Ac (DR))) rfl<|qm U ?_
   iterate 3 refine Lq (oe U) U ?_
   iterate 3 refine qa U ?_
   refine Ld<|Es<|qm U ?_
   refine Lo (Ad U U (by kernel_rfl) U (Ac (Bu))) rfl<|Ld<|Es<|qm rfl<|qa rfl<|Ld<|Es ?_
   iterate 2 refine qm U ?_
   refine Lo (Ad U U (by kernel_rfl) U (Ac (hit_136))) rfl<|Lq (AF U U U) rfl<|Lq (of DS U) rfl<|Ak (Ar U EN U U (Aq ‹_› U U U)) U rfl<|Ld<|Es<|qm U ?_
   rotate_left
   have h1:=bnF g1
   exact absurd h1 (by omega)
  have c1:Chg st (st.put rb (some (.cells [vc,vf,vi,vs,strsV (w::ws)] 184 false))) (fun c=>c=rb):=Chg.put
  have l1:Loggd st (st.put rb (some (.cells [vc,vf,vi,vs,strsV (w::ws)] 184 false))):=Loggd.put
  have r1:RdAt (st.put rb (some (.cells [vc,vf,vi,vs,strsV (w::ws)] 184 false))) rb [vc,vf,vi,vs] (w::ws):=⟨by rw[Bl,if_pos rfl];rfl,rfl,hI.rd.2.2⟩
  have m1:rb∈(st.put rb (some (.cells [vc,vf,vi,vs,strsV (w::ws)] 184 false))).log:=mem_put_self (by rw[hbst];exact hb)
  show RegL _ _ _ _ _ _ (st.put rb (some (.cells [vc,vf,vi,vs,strsV (w::ws)] 184 false))) _
  generalize st.put rb (some (.cells [vc,vf,vi,vs,strsV (w::ws)] 184 false))=sB at*
  refine Ay U U (by kernel_rfl) U U U U (next_run r1 (by omega) fun s2 c2 r2 l2=>?_)
  have c3:Chg st s2 (fun c=>c=rb):=c1.trans c2 (fun _ h=>h) (fun _ h=> .inl h) (by omega)
  have l3:Loggd st s2:=l1.trans (l2 (by rw[c1.bound];have:=c1.next;omega))
  have m3:rb∈s2.log:=(l2 (by rw[c1.bound];have:=c1.next;omega)).more _ m1
  clear c1 l1 r1 m1 c2 l2
  have u3:=up (Bd c3 fun c h=>by omega) fun _=>l3
  have hl2:=hI.ls.keep c3
  have at2:∃e,s2.heap.get s.next=some (.cells (fnsL rb) e false):=hI.at_.imp fun e he=>(c3.heap _ hI.nx (by show¬s.next=rb;omega)).trans he
  have no2:(¬∃c2 l2,LineR last c1 (t1.take n) c2 l2)→∀ {s1:St},Chg s.enter s1 (fun c=>rb≤c)∧Loggd s.enter s1→RP bad (s.back s1):=fun h s1 cl=>no (fun m hm=>by rw[hx]at hm;cases hm;exact h) cl
  have up2:∀ {s3:St},Chg s2 s3 (fun c=>rb≤c)→(s2.bound≤s2.next→Loggd s2 s3)→Chg s.enter s3 (fun c=>rb≤c)∧Loggd s.enter s3:=fun c4 l4=>
   ⟨u3.1.trans c4 (fun _ h=>h) (fun _ h=> .inl h) (Qj _),u3.2.trans (l4 (by rw[u3.1.bound];exact u3.1.next))⟩
  cases hk:kindS w with
  |none=>
   refine qa rfl<|Ld<|Es<|qm U ?_
   refine Ay U U (by kernel_rfl) U U U U (pan_138 (by first|assumption|omega|(simp only[LL];omega)) ?_)
   exact⟨rfl,no2 (fun⟨c2,l2,w',ws',e1,e2,_⟩=>by rw[hp]at e1;cases e1;rw[hk]at e2;cases e2) u3⟩
  |some k=>
   obtain⟨e,ga⟩:=at2
   rcases kind_le hk with rfl|rfl|rfl
   ·focus
     refine qa rfl<|Ld<|Es<|qm U ?_
     refine Lo (Ad U U (by kernel_rfl) U (Ac (hit_138 (by first|assumption|omega|(simp only[LL];omega))))) U ?_
     refine qa rfl<|Ld<|Es ?_
     iterate 2 refine qm U ?_
     refine Lq (o2 u_3 U U) U ?_
     refine Bo (k:=40) U (fun g2=>?_) (fun g2=>?_)
     have h2:=dT g2
     refine Lo (Ad U U (by kernel_rfl) U (Ac (Bu))) rfl<|Ld<|Es<|qm rfl<|qa rfl<|Ld<|Es<|qm U ?_
     refine Lq (Ff (m:=0) U u_222 sz_185 U U (by omega) U) rfl<|Lo (At U U (An ag_185 sz_185 ‹_› U)) rfl<|qm U ?_
     rotate_left
     have h2:=dF g2
     refine Ay U U (by kernel_rfl) U U U U (BQ Bc ?_)
     rotate_left
    rotate_left
    ·exact⟨rfl,no2 (fun⟨c2,l2,w',ws',e1,e2,e3,_⟩=>by rw[hp]at e1;cases e1;rw[hk]at e2;cases e2;omega) u3⟩
    refine RegL.callXV (f:=131) (by kernel_rfl) U U U U U U U U (con_run r2 hl2 hws (fun v hv=>hmem v (Qg _ hv)) (by omega) (fun w1 w2 r e hN hN2 s3 v3 c4 o4 r4 hl4 l4=>?_) fun hn s3 c4 l4=>⟨rfl,no2 (fun⟨c2,l2,w',ws',e1,e2,e3,h⟩=>by
     rw[hp]at e1;cases e1;rw[hk]at e2;cases e2
     rcases h with⟨_,w1,w2,e,h1,h2,_⟩|⟨h,_⟩|⟨h,_⟩
     ·exact hn ⟨w1,w2,[],e,h1,h2⟩
     ·cases h
     ·cases h) (up2 c4 l4)⟩)
    have rc:=r4.1
    have hlr:=Dq (ws:=r)
    focus
     refine Ld<|Ao<|qm rfl<|Lq (AF U U U) rfl<|Lq (of DS U) rfl<|Lo (At U U (An ag_106 EN ‹_› U)) rfl<|Lq (ol AI U) rfl<|Lq (o2 u_3 U U) U ?_
     refine Bo (k:=53) U (fun g3=>?_) (fun g3=>?_)
     have h3:=dT g3
     refine Lo (Ad U U (by kernel_rfl) U (Ac (Bu))) rfl<|Ld ?_
     rotate_left
     have h3:=dF g3
     refine Ay U U (by kernel_rfl) U U U U (BQ Bc ?_)
     rotate_left
    ·obtain rfl:r=[]:=List.eq_nil_of_length_eq_zero (by omega)
     exact⟨(t1.drop (n+1),0,_,(v3,vf,vi,vs,strsV []),s3),hI.step (Qj _) hb hx ⟨w,[w1,w2],by rw[hp,e],hk,by omega,.inl ⟨rfl,w1,w2,rfl,hN,hN2,rfl⟩⟩ c3 l3 m3 (Bd c4 fun c h=>by rcases h with h|h<;>simp[h]) l4 r4 hl4 (fun v hv=>by
      rcases Qk.1 hv with rfl|hv
      ·exact .inr o4
      ·exact .inl (Qg _ hv)) (by simp only[Qm,List.length_singleton];omega) hI.st,by show(t1.drop (n+1)).length<_;rw[List.length_drop];omega,rfl,rfl,by(refine Am.Av ?_;repeat (first|exact trivial|refine⟨rfl,?_⟩))⟩
    ·have hne:¬r.length=0:=by omega
     refine⟨rfl,no2 (fun⟨c2,l2,w',ws',e1,e2,e3,h⟩=>?_) (up2 (Bd c4 fun c h=>?_) l4)⟩
     ·rw[hp]at e1;cases e1;rw[hk]at e2;cases e2
      rcases h with⟨_,v1,v2,e4,h1,h2,_⟩|⟨h,_⟩|⟨h,_⟩
      ·rw[e]at e4;cases e4
       exact hne U
      ·cases h
      ·cases h
     ·rcases h with h|h
      ·omega
      ·exact Nat.le_of_lt (hl2.dc c h).1
   ·focus
     refine qa rfl<|Ld<|Es<|qm U ?_
     refine Lo (Ad U U (by kernel_rfl) U (Ac (hit_138 (by first|assumption|omega|(simp only[LL];omega))))) U ?_
     refine qa rfl<|Ld<|Es ?_
     iterate 2 refine qm U ?_
     refine Lq (o2 u_3 U U) U ?_
     refine Bo (k:=40) U (fun g2=>?_) (fun g2=>?_)
     have h2:=dT g2
     refine Lo (Ad U U (by kernel_rfl) U (Ac (Bu))) rfl<|Ld<|Es<|qm rfl<|qa rfl<|Ld<|Es<|qm U ?_
     refine Lq (Ff (m:=1) U u_222 sz_185 U U (by omega) U) rfl<|Lo (At U U (An ag_185 sz_185 ‹_› U)) rfl<|qm U ?_
     rotate_left
     have h2:=dF g2
     refine Ay U U (by kernel_rfl) U U U U (BQ Bc ?_)
     rotate_left
    rotate_left
    ·exact⟨rfl,no2 (fun⟨c2,l2,w',ws',e1,e2,e3,_⟩=>by rw[hp]at e1;cases e1;rw[hk]at e2;cases e2;omega) u3⟩
    refine RegL.callXV (f:=132) (by kernel_rfl) U U U U U U U U (fun_run r2 hl2 hws (fun v hv=>hmem v (Qg _ hv)) ⟨by omega,by rw[hI.st];omega⟩ (fun w1 w2 w3 r e hN hN2 hN3 s3 v3 u4 c4 o4 r4 hl4 l4=>?_) fun hn s3 c4 l4=>⟨rfl,no2 (fun⟨c2,l2,w',ws',e1,e2,e3,h⟩=>by
     rw[hp]at e1;cases e1;rw[hk]at e2;cases e2
     rcases h with⟨h,_⟩|⟨_,w1,w2,w3,e,h1,h2,h3,_⟩|⟨h,_⟩
     ·cases h
     ·exact hn ⟨w1,w2,w3,[],e,h1,h2,h3⟩
     ·cases h) (up2 c4 l4)⟩)
    have rc:=r4.1
    have hlr:=Dq (ws:=r)
    focus
     refine Ld<|Ao<|qm rfl<|Lq (AF U U U) rfl<|Lq (of DS U) rfl<|Lo (At U U (An ag_106 EN ‹_› U)) rfl<|Lq (ol AI U) rfl<|Lq (o2 u_3 U U) U ?_
     refine Bo (k:=53) U (fun g3=>?_) (fun g3=>?_)
     have h3:=dT g3
     refine Lo (Ad U U (by kernel_rfl) U (Ac (Bu))) rfl<|Ld ?_
     rotate_left
     have h3:=dF g3
     refine Ay U U (by kernel_rfl) U U U U (BQ Bc ?_)
     rotate_left
    ·obtain rfl:r=[]:=List.eq_nil_of_length_eq_zero (by omega)
     exact⟨(t1.drop (n+1),1,_,(vc,v3,vi,u4,strsV []),s3),hI.step (Qj _) hb hx ⟨w,[w1,w2,w3],by rw[hp,e],hk,by omega,.inr (.inl ⟨rfl,w1,w2,w3,rfl,hN,hN2,hN3,rfl⟩)⟩ c3 l3 m3 (Bd c4 fun c h=>by rcases h with h|h|h<;>simp[h]) l4 r4 hl4 (fun v hv=>by
      rcases Qk.1 hv with rfl|hv
      ·exact .inl (Qh ..)
      rcases Qk.1 hv with rfl|hv
      ·exact .inr fun b h=>o4 b (.inl h)
      rcases Qk.1 hv with rfl|hv
      ·exact .inl (by simp)
      ·rw[Qo.1 hv];exact .inr fun b h=>o4 b (.inr h)) (by simp only[Qm,List.length_singleton];omega) (by simp only[Qm,List.length_singleton];rw[hI.st]),by show(t1.drop (n+1)).length<_;rw[List.length_drop];omega,rfl,rfl,by(refine Am.Av ?_;repeat (first|exact trivial|refine⟨rfl,?_⟩))⟩
    ·have hne:¬r.length=0:=by omega
     refine⟨rfl,no2 (fun⟨c2,l2,w',ws',e1,e2,e3,h⟩=>?_) (up2 (Bd c4 fun c h=>?_) l4)⟩
     ·rw[hp]at e1;cases e1;rw[hk]at e2;cases e2
      rcases h with⟨h,_⟩|⟨_,v1,v2,v3,e4,h1,h2,_⟩|⟨h,_⟩
      ·cases h
      ·rw[e]at e4;cases e4
       exact hne U
      ·cases h
     ·rcases h with h|h|h
      ·omega
      ·exact Nat.le_of_lt (hl2.df c h).1
      ·exact Nat.le_of_lt (hl2.ds c h)
   ·focus
     refine qa rfl<|Ld<|Es<|qm U ?_
     refine Lo (Ad U U (by kernel_rfl) U (Ac (hit_138 (by first|assumption|omega|(simp only[LL];omega))))) U ?_
     refine qa rfl<|Ld<|Es ?_
     iterate 2 refine qm U ?_
     refine Lq (o2 u_3 U U) U ?_
     refine Bo (k:=40) U (fun g2=>?_) (fun g2=>?_)
     have h2:=dT g2
     refine Lo (Ad U U (by kernel_rfl) U (Ac (Bu))) rfl<|Ld<|Es<|qm rfl<|qa rfl<|Ld<|Es<|qm U ?_
     refine Lq (Ff (m:=2) U u_222 sz_185 U U (by omega) U) rfl<|Lo (At U U (An ag_185 sz_185 ‹_› U)) rfl<|qm U ?_
     rotate_left
     have h2:=dF g2
     refine Ay U U (by kernel_rfl) U U U U (BQ Bc ?_)
     rotate_left
    rotate_left
    ·exact⟨rfl,no2 (fun⟨c2,l2,w',ws',e1,e2,e3,_⟩=>by rw[hp]at e1;cases e1;rw[hk]at e2;cases e2;omega) u3⟩
    refine RegL.callXV (f:=133) (by kernel_rfl) U U U U U U U U (ins_run r2 hl2 hws (fun v hv=>hmem v (Qg _ hv)) (by omega) (fun y r hy s3 v3 c4 o4 r4 hl4 l4=>?_) fun hn s3 c4 l4=>⟨rfl,no2 (fun⟨c2,l2,w',ws',e1,e2,e3,h⟩=>by
     rw[hp]at e1;cases e1;rw[hk]at e2;cases e2
     rcases h with⟨h,_⟩|⟨h,_⟩|⟨_,y,hy,_⟩
     ·cases h
     ·cases h
     ·exact hn ⟨y,[],hy⟩) (up2 c4 l4)⟩)
    have rc:=r4.1
    have hlr:=Dq (ws:=r)
    focus
     refine Ld<|Ao<|qm rfl<|Lq (AF U U U) rfl<|Lq (of DS U) rfl<|Lo (At U U (An ag_106 EN ‹_› U)) rfl<|Lq (ol AI U) rfl<|Lq (o2 u_3 U U) U ?_
     refine Bo (k:=53) U (fun g3=>?_) (fun g3=>?_)
     have h3:=dT g3
     refine Lo (Ad U U (by kernel_rfl) U (Ac (Bu))) rfl<|Ld ?_
     rotate_left
     have h3:=dF g3
     refine Ay U U (by kernel_rfl) U U U U (BQ Bc ?_)
     rotate_left
    ·obtain rfl:r=[]:=List.eq_nil_of_length_eq_zero (by omega)
     exact⟨(t1.drop (n+1),2,_,(vc,vf,v3,vs,strsV []),s3),hI.step (Qj _) hb hx ⟨w,ws,hp,hk,by omega,.inr (.inr ⟨rfl,y,hy,rfl⟩)⟩ c3 l3 m3 (Bd c4 fun c h=>by rcases h with h|h<;>simp[h]) l4 r4 hl4 (fun v hv=>by
      rcases Qk.1 hv with rfl|hv
      ·exact .inl (Qh ..)
      rcases Qk.1 hv with rfl|hv
      ·exact .inl (by simp)
      rcases Qk.1 hv with rfl|hv
      ·exact .inr o4
      ·rw[Qo.1 hv];exact .inl (by simp)) (by simp only[Qm,List.length_singleton];omega) hI.st,by show(t1.drop (n+1)).length<_;rw[List.length_drop];omega,rfl,rfl,by(refine Am.Av ?_;repeat (first|exact trivial|refine⟨rfl,?_⟩))⟩
    ·have hne:¬r.length=0:=by omega
     refine⟨rfl,no2 (fun⟨c2,l2,w',ws',e1,e2,e3,h⟩=>?_) (up2 (Bd c4 fun c h=>?_) l4)⟩
     ·rw[hp]at e1;cases e1;rw[hk]at e2;cases e2
      rcases h with⟨h,_⟩|⟨h,_⟩|⟨_,z,hz,_⟩
      ·cases h
      ·cases h
      ·rw[(hy.eq hz).2]at hne
       exact hne U
     ·rcases h with h|h
      ·omega
      ·exact Nat.le_of_lt (hl2.di c h).1
end Go.Proofs.YtpihdbhocgcbpaaGreatDoor.Rd
open Go Am
namespace Am
theorem leave_one {E:Env} {f:FuncId} {v w:AV} {s st:St} {ks:List Nat} (hf:E.frz f=1) (hl:st.log=[]) (hz:frzV st s.next 40 v []=some (w,ks)) (hk:∀b∈ks,st.bound≤b) (hu:underV s.next 40 w=true):leave E f s v st=some (.same w):=by
 unfold leave frozen
 rw[hf]
 simp only
 rw[hl]
 show((frozenFrom s.next v st).bind _)=_
 unfold frozenFrom
 rw[hz]
 simp only[Qe]
 have hlk:(kill st ks).log=[]:=by
  rw[←hl]
  clear hz hl
  revert st
  induction ks with
  |nil=>intro st _;rfl
  |cons b ks ih=>
   intro st hk
   have hb:(st.put b none).log=st.log:=by
    show(bif Nat.blt b st.bound then _ else st.log)=_
    have:Nat.blt b st.bound=false:=by
     cases h:Nat.blt b st.bound with
     |false=>rfl
     |true=>
      have h2:b<st.bound:=Qc h
      have:=hk b (Qh ..)
      omega
    rw[this];rfl
   show(kill (st.put b none) ks).log=_
   rw[ih (st:=st.put b none) fun c hc=>hk c (Qg _ hc)]
   exact hb
 rw[hlk]
 show some (bif underV s.next 40 w then _ else _)=_
 rw[hu];rfl
end Am
namespace Go.Proofs.YtpihdbhocgcbpaaGreatDoor.Rd
theorem ns_closed:∀l:List (List UInt8×Int),(l.flatMap encN).all (closedV 40)=true
 | []=>rfl
 |_::l=>ns_closed l
theorem frz_ns {s:St} {m n:Nat}:∀(l:List (List UInt8×Int)) (ks:List Nat),frzV.many (frzV s m (n+1)) (l.flatMap encN) ks=some (l.flatMap encN,ks)
 | [],_=>rfl
 |a::l,ks=>by
  show((((frzV.many (frzV s m (n+1)) (l.flatMap encN) ks).bind _)).bind _)=_
  rw[frz_ns l ks];rfl
theorem A3 {α:Type} (enc:α→List AV) (k:Nat) (l:List α):lst enc k l= .nilslice∨∃cs n,lst enc k l= .islice cs n k true:=by
 cases l with
 |nil=>exact .inl rfl
 |cons a l=>exact .inr ⟨_,_,rfl⟩
theorem is_closed:∀l:List InsT,(l.flatMap encIR).all (closedV 40)=true
 | []=>rfl
 |x::l=>by
  have h:=is_closed l
  rw[List.flatMap_cons,List.all_append,h,Bool.and_true]
  unfold encIR
  rcases A3 encA 2 x.alts with e1|⟨_,_,e1⟩<;>rcases A3 encZ 1 x.to with e2|⟨_,_,e2⟩<;>rcases A3 encZ 1 x.args with e3|⟨_,_,e3⟩<;>rw[e1,e2,e3]<;>rfl
theorem frz_all {f:AV→List Nat→Option (AV×List Nat)}:∀ {L:List AV},(∀v∈L,∀ks,f v ks=some (v,ks))→∀ks,frzV.many f L ks=some (L,ks)
 | [],_,_=>rfl
 |v::L,h,ks=>by
  show((f v ks).bind _)=_
  rw[h v (Qh ..)]
  show((frzV.many f L ks).bind _)=_
  rw[frz_all fun u hu=>h u (Qg _ hu)];rfl
theorem frz_lst {s:St} {m n k:Nat} {α:Type} {enc:α→List AV} {l:List α} {ks:List Nat}:frzV s m (n+1) (lst enc k l) ks=some (lst enc k l,ks):=by
 rcases A3 enc k l with e|⟨_,_,e⟩<;>rw[e]<;>rfl
theorem frz_is {s:St} {m n:Nat} (l:List InsT) (ks:List Nat):frzV.many (frzV s m (n+1)) (l.flatMap encIR) ks=some (l.flatMap encIR,ks):=frz_all (fun v hv ks=>by
 obtain⟨x,_,hx⟩:=List.mem_flatMap.1 hv
 unfold encIR at hx
 simp only[Qk,List.not_mem_nil,or_false]at hx
 rcases hx with rfl|rfl|rfl|rfl|rfl|rfl|rfl<;>first|rfl|exact frz_lst) ks
theorem D4 {s:St} {e:TypeId} {α:Type} {enc:α→List AV} {k m j:Nat} {v:AV} {l:List α} (h:Grown s e k v (l.flatMap enc) l.length) (hm:∀b,ownB b v=true→m≤b) (hz:∀ks,frzV.many (frzV s m j) (l.flatMap enc) ks=some (l.flatMap enc,ks)) (hc:(l.flatMap enc).all (closedV 40)=true):
 ∃bs:List Nat,(∀b∈bs,m≤b)∧∀ks,frzV s m (j+1) v ks=some (lst enc k l,bs++ks):=by
 cases l with
 |nil=>
  obtain⟨rfl,_⟩:=h.zero
  exact⟨[],(fun b hb=>by cases hb),fun ks=>rfl⟩
 |cons a l=>
  rcases h with⟨_,h0,_⟩|⟨b,rfl,hb,hg,hl,_⟩
  ·cases h0
  ·refine⟨[b],fun c hc=>by rw[Qo.1 hc];exact hm b (Nat.beq_refl b),fun ks=>?_⟩
   rw[frz_slice (hm b (Nat.beq_refl b)) hg hl (hz ks),hc];rfl
def ParsV (t:List UInt8) (v:AV):Prop:=(∃c,AllR 0 ⟨[],[],[],[]⟩ t c∧v= .tuple [.agg (encR c),.bool true])∨((¬∃c,AllR 0 ⟨[],[],[],[]⟩ t c)∧v= .tuple [.agg [.nilslice,.nilslice,.nilslice,.nilslice],.bool false])
theorem parsed_run {s:St} {t:List UInt8} (ht:t.length≤50000):RunsX (EK R9) 55 [.str t] s (fun v s'=>ParsV t v∧s'=s) (fun _ _=>False):=by
 refine RunsX.putOff (fn:=Tryz.f55) U (by kernel_rfl) U U U rfl<|Es<|Lo (BI U z_28) rfl<|Lo (BI U z_4) rfl<|Ld<|EvtL.seqPutOff U (Bk U U U) U U U U U U U U U rfl<|Es<|Lq (AJ U pl_184 U U) U ?_
 refine Lo (OpL.box U U U) rfl<|qa rfl<|Ld<|Es ?_
 iterate 2 refine qm U ?_
 obtain⟨sC,hC⟩:∃x,x=((s.enter.alloc (.cells [.nilslice,.nilslice,.nilslice,.nilslice] 28 false)).alloc (.cells [.bool false] 4 false)).alloc (.cells [.nilslice,.nilslice,.nilslice,.nilslice,.nilslice] 184 false):=⟨_,rfl⟩
 have nC:sC.next=s.next+3:=by rw[hC];rfl
 have bC:sC.bound=s.next:=by rw[hC];rfl
 have lC:sC.log=[]:=by rw[hC];rfl
 have g0:sC.heap.get s.next=some (.cells [.nilslice,.nilslice,.nilslice,.nilslice] 28 false):=by
  rw[hC];exact(Bw (show s.next<s.next+2 by omega)).trans ((Bw (show s.next<s.next+1 by omega)).trans Dg)
 have g1:sC.heap.get (s.next+1)=some (.cells [.bool false] 4 false):=by
  rw[hC];exact(Bw (show s.next+1<s.next+2 by omega)).trans Dg
 have rC:RdIn sC (s.next+2) [.nilslice,.nilslice,.nilslice,.nilslice] .nilslice:=⟨by rw[hC];exact Dg,rfl,by omega⟩
 have hlC:Lists sC (s.next+2) ⟨[],[],[],[]⟩ .nilslice .nilslice .nilslice .nilslice:=⟨Grown.nil _ _ _,Grown.nil _ _ _,Grown.nil _ _ _,Grown.nil _ _ _,(fun _ h=>by cases h),(fun _ h=>by cases h),(fun _ h=>by cases h),fun _ h=>by cases h⟩
 have oC:∀c,c<s.next→sC.heap.get c=s.heap.get c:=fun c hc=>by
  rw[hC];exact(Bw (show c<s.next+2 by omega)).trans ((Bw (show c<s.next+1 by omega)).trans (Bw hc))
 show RegL _ _ _ _ _ _ (((s.enter.alloc (.cells [.nilslice,.nilslice,.nilslice,.nilslice] 28 false)).alloc (.cells [.bool false] 4 false)).alloc (.cells [.nilslice,.nilslice,.nilslice,.nilslice,.nilslice] 184 false)) _
 rw[←hC]
 clear hC
 refine Ay U U (by kernel_rfl) U U U U (all_run (rb:=s.next+2) rC hlC (by show 0+0+0+t.length≤50000;omega) U (fun c hA s4 vc vf vi vs x c4 r4 hl4 l4=>?_) fun hn s4 c4 l4=>?_)
 ·have h0:s4.heap.get s.next=some (.cells [.nilslice,.nilslice,.nilslice,.nilslice] 28 false):=(c4.heap _ (by omega) (by omega)).trans g0
  have h1:s4.heap.get (s.next+1)=some (.cells [.bool false] 4 false):=(c4.heap _ (by omega) (by omega)).trans g1
  have h2:=r4.1
  refine Ld<|Es<|qm rfl<|Lq (AF U U U) rfl<|Lq (of Fe U) rfl<|Lo (At U U (A8 DU Bg ‹_› (Qc U))) rfl<|Ak (Ar U Bg U U (Aq ‹_› U U U)) U U ?_
  have g5:(s4.put s.next (some (.cells [vc,vf,vi,vs] 28 false))).heap.get (s.next+1)=some (.cells [.bool false] 4 false):=(Bl.trans (if_neg (by omega))).trans h1
  show RegL _ _ _ _ _ _ (s4.put s.next (some (.cells [vc,vf,vi,vs] 28 false))) _
  obtain⟨sD,hD⟩:∃x,x=s4.put s.next (some (.cells [vc,vf,vi,vs] 28 false)):=⟨_,rfl⟩
  rw[←hD]at g5⊢
  refine Ak (Ar U sz_4 U U (Aq ‹_› U U U)) U rfl<|Ld ?_
  refine Aa ⟨none,96,_,_,Tryz.f96,_,rfl,rfl,by kernel_rfl,rfl,rfl,?_⟩
  refine EvtL.seqRecover U U U U U U U rfl<|Af<|Es<|Lq (E2 (neg:=false) U if_20 U U U) rfl<|Ld<|Ai U rfl<|Ao<|qa U ?_
  refine Ld ?_
  have gD:sD.heap.get s.next=some (.cells [vc,vf,vi,vs] 28 false):=by rw[hD,Bl,if_pos rfl]
  have cE:Chg sC (sD.put (s.next+1) (some (.cells [.bool true] 4 false))) (fun c=>s.next≤c):=by
   rw[hD]
   exact((Bd c4 (fun c h=>(by omega:s.next≤c))).trans Chg.put (fun _ h=>h) (fun c h=> .inl (by omega)) (by omega)).trans Chg.put (fun _ h=>h) (fun c h=> .inl (by omega)) (by omega)
  have kE:∀b,s.next+2<b→(sD.put (s.next+1) (some (.cells [.bool true] 4 false))).heap.get b=s4.heap.get b:=fun b hb=>by
   rw[Bl,if_neg (by omega),hD,Bl,if_neg (by omega)]
  have e0:(sD.put (s.next+1) (some (.cells [.bool true] 4 false))).heap.get s.next=some (.cells [vc,vf,vi,vs] 28 false):=(Bl.trans (if_neg (by omega))).trans gD
  have e1:(sD.put (s.next+1) (some (.cells [.bool true] 4 false))).heap.get (s.next+1)=some (.cells [.bool true] 4 false):=Bl.trans (if_pos rfl)
  have nE:s4.next=(sD.put (s.next+1) (some (.cells [.bool true] 4 false))).next:=by rw[hD];rfl
  refine⟨.inl U,rfl,?_⟩
  show∃vs,resultsL _ (sD.put (s.next+1) (some (.cells [.bool true] 4 false))) _ _=some vs∧∃cr,leave _ _ _ _ (sD.put (s.next+1) (some (.cells [.bool true] 4 false)))=some cr∧_
  generalize sD.put (s.next+1) (some (.cells [.bool true] 4 false))=sE at*
  refine⟨[.agg [vc,vf,vi,vs],.bool true],D0 U U U e0 (Qj _) (res_cellG1 U U U e1 U U),?_⟩
  have lE:sE.log=[]:=by
   cases h:sE.log with
   |nil=>rfl
   |cons b l=>
    rcases cE.log b (by rw[h];exact Qh ..)with h2|⟨h2,h3⟩
    ·rw[lC]at h2;cases h2
    ·omega
  have bE:sE.bound=s.next:=cE.bound.trans bC
  obtain⟨b1,m1,z1⟩:=D4 (j:=37) (m:=s.next) (hl4.cons.keep (Nat.le_of_eq nE) fun b hb=>kE b (hl4.dc b hb).1) (fun b hb=>by have:=(hl4.dc b hb).1;omega) (frz_ns _) (ns_closed _)
  obtain⟨b2,m2,z2⟩:=D4 (j:=37) (m:=s.next) (hl4.funs.keep (Nat.le_of_eq nE) fun b hb=>kE b (hl4.df b hb).1) (fun b hb=>by have:=(hl4.df b hb).1;omega) (frz_ns _) (ns_closed _)
  obtain⟨b3,m3,z3⟩:=D4 (j:=37) (m:=s.next) (hl4.ins.keep (Nat.le_of_eq nE) fun b hb=>kE b (hl4.di b hb).1) (fun b hb=>by have:=(hl4.di b hb).1;omega) (frz_is _) (is_closed _)
  obtain⟨b4,m4,z4⟩:=D4 (j:=37) (m:=s.next) (hl4.starts.keep (Nat.le_of_eq nE) fun b hb=>kE b (hl4.ds b hb)) (fun b hb=>by have:=hl4.ds b hb;omega) (frz_zs _) (zs_closed _)
  refine⟨.same (.tuple [.agg (encR c),.bool true]),leave_one U lE (ks:=b4++(b3++(b2++(b1++[])))) ?_ ?_ ?_,.inl ⟨c,hA,rfl⟩,rfl⟩
  ·have h1:frzV.many (frzV sE s.next 38) [vc,vf,vi,vs] []=some (encR c,b4++(b3++(b2++(b1++[])))):=by
    simp only[frzV.many,z1,z2,z3,z4,Qe];rfl
   have h2:frzV sE s.next 39 (.agg [vc,vf,vi,vs]) []=some (.agg (encR c),b4++(b3++(b2++(b1++[])))):=by
    show((frzV.many (frzV sE s.next 38) [vc,vf,vi,vs] []).bind _)=_
    rw[h1];rfl
   show((((frzV sE s.next 39 (.agg [vc,vf,vi,vs]) []).bind _)).bind _)=_
   rw[h2];rfl
  ·intro b hb
   rw[bE]
   simp only[List.mem_append,List.not_mem_nil,or_false]at hb
   rcases hb with h|h|h|h
   ·exact m4 b h
   ·exact m3 b h
   ·exact m2 b h
   ·exact m1 b h
  ·unfold encR
   rcases A3 encN 2 c.cons with e1|⟨_,_,e1⟩<;>rcases A3 encN 2 c.funs with e2|⟨_,_,e2⟩<;>rcases A3 encIR 7 c.ins with e3|⟨_,_,e3⟩<;>rcases A3 encZ 1 c.starts with e4|⟨_,_,e4⟩<;>rw[e1,e2,e3,e4]<;>rfl
 ·refine⟨some bad,96,_,_,Tryz.f96,_,rfl,rfl,by kernel_rfl,rfl,rfl,?_⟩
  refine EvtL.seqRecover U U U U U U U rfl<|Af<|Es<|Lq (E2 (neg:=false) U if_20 U U U) rfl<|Ld<|Ap U rfl<|Es<|Lq (Bj U if_181 z_181 U U) U ?_
  iterate 2 refine Lq (oe U) U ?_
  refine Ld<|Ai U rfl<|Es<|Lo (BI U z_181) U ?_
  have hn4:=c4.next
  have gF:(s4.alloc (.cells [] 181 false)).heap.get s4.next=some (.cells [] 181 false):=Dg
  have gF0:(s4.alloc (.cells [] 181 false)).heap.get s.next=some (.cells [.nilslice,.nilslice,.nilslice,.nilslice] 28 false):=(Bw (by omega)).trans ((c4.heap _ (by omega) (by omega)).trans g0)
  have gF1:(s4.alloc (.cells [] 181 false)).heap.get (s.next+1)=some (.cells [.bool false] 4 false):=(Bw (by omega)).trans ((c4.heap _ (by omega) (by omega)).trans g1)
  have cF:Chg sC (s4.alloc (.cells [] 181 false)) (fun c=>s.next≤c):=(Bd c4 (fun c h=>(by omega:s.next≤c))).trans Chg.alloc (own:=fun c=>s.next≤c) (fun _ h=>h) (fun c h=> .inl h) (by omega)
  show RegL _ _ _ _ _ _ (s4.alloc (.cells [] 181 false)) _
  generalize s4.alloc (.cells [] 181 false)=sF at*
  refine Ak (Ar U sz_181 U U (Aq ‹_› U U U)) U rfl<|Ld<|Ao<|Lq (AJ U pl_28 U U) U ?_
  have gG0:(sF.put s4.next (some (.cells [] 181 false))).heap.get s.next=some (.cells [.nilslice,.nilslice,.nilslice,.nilslice] 28 false):=(Bl.trans (if_neg (by omega))).trans gF0
  have gG1:(sF.put s4.next (some (.cells [] 181 false))).heap.get (s.next+1)=some (.cells [.bool false] 4 false):=(Bl.trans (if_neg (by omega))).trans gF1
  have cG:Chg sC (sF.put s4.next (some (.cells [] 181 false))) (fun c=>s.next≤c):=cF.trans Chg.put (fun _ h=>h) (fun c h=> .inl (by omega)) (by omega)
  show RegL _ _ _ _ _ _ (sF.put s4.next (some (.cells [] 181 false))) _
  generalize sF.put s4.next (some (.cells [] 181 false))=sG at*
  refine Ak (Ar U Bg U U (Aq ‹_› U U U)) U U ?_
  have gH0:(sG.put s.next (some (.cells [.nilslice,.nilslice,.nilslice,.nilslice] 28 false))).heap.get s.next=some (.cells [.nilslice,.nilslice,.nilslice,.nilslice] 28 false):=Bl.trans (if_pos rfl)
  have gH1:(sG.put s.next (some (.cells [.nilslice,.nilslice,.nilslice,.nilslice] 28 false))).heap.get (s.next+1)=some (.cells [.bool false] 4 false):=(Bl.trans (if_neg (by omega))).trans gG1
  have cH:Chg sC (sG.put s.next (some (.cells [.nilslice,.nilslice,.nilslice,.nilslice] 28 false))) (fun c=>s.next≤c):=cG.trans Chg.put (fun _ h=>h) (fun c h=> .inl (by omega)) (by omega)
  show RegL _ _ _ _ _ _ (sG.put s.next (some (.cells [.nilslice,.nilslice,.nilslice,.nilslice] 28 false))) _
  generalize sG.put s.next (some (.cells [.nilslice,.nilslice,.nilslice,.nilslice] 28 false))=sH at*
  refine Ak (Ar U sz_4 U U (Aq ‹_› U U U)) U rfl<|Ld ?_
  have e0:(sH.put (s.next+1) (some (.cells [.bool false] 4 false))).heap.get s.next=some (.cells [.nilslice,.nilslice,.nilslice,.nilslice] 28 false):=(Bl.trans (if_neg (by omega))).trans gH0
  have e1:(sH.put (s.next+1) (some (.cells [.bool false] 4 false))).heap.get (s.next+1)=some (.cells [.bool false] 4 false):=Bl.trans (if_pos rfl)
  have cE:Chg sC (sH.put (s.next+1) (some (.cells [.bool false] 4 false))) (fun c=>s.next≤c):=cH.trans Chg.put (fun _ h=>h) (fun c h=> .inl (by omega)) (by omega)
  refine⟨.inl U,rfl,?_⟩
  show∃vs,resultsL _ (sH.put (s.next+1) (some (.cells [.bool false] 4 false))) _ _=some vs∧∃cr,leave _ _ _ _ (sH.put (s.next+1) (some (.cells [.bool false] 4 false)))=some cr∧_
  generalize sH.put (s.next+1) (some (.cells [.bool false] 4 false))=sE at*
  refine⟨[.agg [.nilslice,.nilslice,.nilslice,.nilslice],.bool false],D0 U U U e0 (Qj _) (res_cellG1 U U U e1 U U),?_⟩
  have lE:sE.log=[]:=by
   cases h:sE.log with
   |nil=>rfl
   |cons b l=>
    rcases cE.log b (by rw[h];exact Qh ..)with h2|⟨h2,h3⟩
    ·rw[lC]at h2;cases h2
    ·omega
  exact⟨.same (.tuple [.agg [.nilslice,.nilslice,.nilslice,.nilslice],.bool false]),leave_one U lE (ks:=[]) U (fun b hb=>by cases hb) U,.inr ⟨hn,rfl⟩,rfl⟩
def zeroC:AV:= .agg [.nilslice,.nilslice,.nilslice,.nilslice]
noncomputable def readV (enc:CodeT→List AV) (t:List UInt8):AV:=
 if 40000<t.length then .tuple [zeroC,.int .i64 3]else
 @dite _ (∃c,AllR 0 ⟨[],[],[],[]⟩ t c) (Classical.propDecidable _) (fun h=>if codeV h.choose then .tuple [.agg (enc h.choose),.int .i64 0]else .tuple [zeroC,.int .i64 2]) (fun _=> .tuple [zeroC,.int .i64 4])
theorem readV_ok {enc:CodeT→List AV} {t:List UInt8} {c:CodeT} (hl:¬40000<t.length) (h:AllR 0 ⟨[],[],[],[]⟩ t c):readV enc t=if codeV c then .tuple [.agg (enc c),.int .i64 0]else .tuple [zeroC,.int .i64 2]:=by
 unfold readV
 have hx:∃c,AllR 0 ⟨[],[],[],[]⟩ t c:=⟨c,h⟩
 rw[if_neg hl,dif_pos hx,hx.choose_spec.eq h]
theorem readV_no {enc:CodeT→List AV} {t:List UInt8} (hl:¬40000<t.length) (h:¬∃c,AllR 0 ⟨[],[],[],[]⟩ t c):readV enc t= .tuple [zeroC,.int .i64 4]:=by
 unfold readV
 rw[if_neg hl,dif_neg h]
structure FitN (m:Nat) (c:CodeT):Prop where
 cons:c.cons.length≤m
 funs:c.funs.length≤m
 ins:c.ins.length≤m
 starts:c.starts.length≤m
 lists:∀x∈c.ins,x.alts.length≤4000∧x.to.length≤4000∧x.args.length≤4000
 cnames:∀p∈c.cons,p.1.length≤4000
 fnames:∀p∈c.funs,p.1.length≤4000
theorem InsR.fits {op:Int} {ws r:List (List UInt8)} {x:InsT} (h:InsR op ws x r) (hw:ws.length≤4000):x.alts.length≤4000∧x.to.length≤4000∧x.args.length≤4000:=by
 unfold InsR at h
 split at h
 ·obtain⟨w,⟨u,rfl,_,_,rfl⟩,rfl⟩:=h
  rw[List.length_cons]at hw
  exact⟨by rw[List.length_map];omega,Qn _,Qn _⟩
 ·split at h
  ·obtain⟨_,rfl,rfl⟩:=h
   exact⟨Qn _,by rw[List.length_map];omega,Qn _⟩
  ·split at h
   ·obtain⟨w1,w2,u,rfl,_,_,_,rfl,rfl⟩:=h
    rw[List.length_cons,List.length_cons]at hw
    exact⟨Qn _,Qn _,by rw[List.length_map];omega⟩
   ·split at h
    ·obtain⟨w1,rfl,_,rfl⟩:=h
     exact⟨Qn _,Qn _,Qn _⟩
    ·obtain⟨rfl,rfl⟩:=h
     exact⟨Qn _,Qn _,Qn _⟩
theorem LineR.fits {last l2:Int} {c c2:CodeT} {t:List UInt8} {m:Nat} (h:LineR last c t c2 l2) (ht:t.length≤3000) (hf:FitN m c):FitN (m+1) c2:=by
 obtain⟨w,ws,e,_,_,h⟩:=h
 have hl:=Eo 32 t
 have hc:=cnt_le (32:UInt8).toNat t
 rw[e,List.length_cons]at hl
 have hm:∀v∈ws,v.length≤3000:=fun v hv=>pcs_mem ht v (by rw[e];exact Qg _ hv)
 obtain⟨f1,f2,f3,f4,f5,f6,f7⟩:=hf
 rcases h with⟨_,w1,w2,rfl,_,_,rfl⟩|⟨_,w1,w2,w3,rfl,_,_,_,rfl⟩|⟨_,x,hx,rfl⟩
 ·exact⟨by simp only[Qm,List.length_singleton];omega,by dsimp only;omega,by dsimp only;omega,by dsimp only;omega,f5,fun p hp=>by
   rcases List.mem_append.1 hp with hp|hp
   ·exact f6 p hp
   ·rw[Qo.1 hp];exact Nat.le_trans (hm w1 (by simp)) (by decide),f7⟩
 ·exact⟨by dsimp only;omega,by simp only[Qm,List.length_singleton];omega,by dsimp only;omega,by simp only[Qm,List.length_singleton];omega,f5,f6,fun p hp=>by
   rcases List.mem_append.1 hp with hp|hp
   ·exact f7 p hp
   ·rw[Qo.1 hp];exact Nat.le_trans (hm w1 (by simp)) (by decide)⟩
 ·exact⟨by dsimp only;omega,by dsimp only;omega,by simp only[Qm,List.length_singleton];omega,by dsimp only;omega,fun y hy=>by
   rcases List.mem_append.1 hy with hy|hy
   ·exact f5 y hy
   ·rw[Qo.1 hy];exact hx.fits (by omega),f6,f7⟩
theorem AllR.fits {last:Int} {c c2:CodeT} {t:List UInt8} (h:AllR last c t c2):∀ {m:Nat},FitN m c→m+t.length≤4000→t.length≤3000→Fits c2:=by
 induction h with
 |nil=>exact fun hf hm _=>⟨Nat.le_trans hf.cons (by omega),Nat.le_trans hf.funs (by omega),Nat.le_trans hf.ins (by omega),Nat.le_trans hf.starts (by omega),fun x hx=>(hf.lists x hx).1,fun x hx=>(hf.lists x hx).2.1,fun x hx=>(hf.lists x hx).2.2,hf.cnames,hf.fnames⟩
 | @cons last last' c c1 c2 t n hi hl _ ih=>
  intro m hf hm ht
  have:=F8 hi
  exact ih (hl.fits (Nat.le_trans (List.length_take_le _ _) (by omega)) hf) (by rw[List.length_drop];omega) (by rw[List.length_drop];omega)
theorem AllR.fit {t:List UInt8} {c:CodeT} (h:AllR 0 ⟨[],[],[],[]⟩ t c) (ht:t.length≤3000):Fits c:=
 h.fits (m:=0) ⟨Qj _,Qj _,Qj _,Qj _,(fun x hx=>by cases hx),(fun x hx=>by cases hx),fun x hx=>by cases hx⟩ (by omega) ht
theorem frz_R {s:St} {m:Nat} {c:CodeT} {v:AV} (hv:frzV s m 39 v []=some (v,[])):frzV s m 40 (.tuple [.agg (encR c),v]) []=some (.tuple [.agg (encR c),v],[]):=by
 have h1:∀ks,frzV.many (frzV s m 38) (encR c) ks=some (encR c,ks):=frz_all fun v hv ks=>by
  unfold encR at hv
  simp only[Qk,List.not_mem_nil,or_false]at hv
  rcases hv with rfl|rfl|rfl|rfl<;>exact frz_lst
 have h2:frzV s m 39 (.agg (encR c)) []=some (.agg (encR c),[]):=by
  show((frzV.many (frzV s m 38) (encR c) []).bind _)=_
  rw[h1];rfl
 show((((frzV s m 39 (.agg (encR c)) []).bind _)).bind _)=_
 rw[h2]
 show((((frzV s m 39 v []).bind _).bind _).bind _)=_
 rw[hv];rfl
theorem under_R {m:Nat} {c:CodeT} {v:AV} (hv:underV m 39 v=true):underV m 40 (.tuple [.agg (encR c),v])=true:=by
 show(underV m 39 (.agg (encR c))&&(underV m 39 v&&true))=true
 rw[hv,Bool.and_true,Bool.and_true]
 unfold encR
 rcases A3 encN 2 c.cons with e1|⟨_,_,e1⟩<;>rcases A3 encN 2 c.funs with e2|⟨_,_,e2⟩<;>rcases A3 encIR 7 c.ins with e3|⟨_,_,e3⟩<;>rcases A3 encZ 1 c.starts with e4|⟨_,_,e4⟩<;>rw[e1,e2,e3,e4]<;>rfl
theorem read_to (t:List UInt8) (ht:t.length≤3000∨40000<t.length):CallTo (EK R9) 21 [.str t] S0 (readV encR t):=by
 refine Ax (fn:=Tryz.f21) U U (by kernel_rfl) U U U U ?_
 focus
  refine Es<|Lo (AE 1 U z_28 U) rfl<|qa rfl<|Ld<|Ab<|Es<|qm rfl<|Lq (Aw U U U U u_9 U) U ?_
  refine Lq (o2 u_3 U U) rfl<|Ld ?_
  refine Ec U (fun g1=>?_) (fun g1=>?_)
  have h1:=dT g1
  refine Es<|Lq (AJ U pl_28 U U) rfl<|Ak (A4 U Bg U U U U U U) U rfl<|qa rfl<|Ld ?_
  refine Aa ⟨.inl U,rfl,rfl,rfl,_,_,_,(Ej U DU Bg U (Qc U) (Aj U U)),rfl,rfl,?_⟩
  rotate_left
  have h1:=dF g1
  refine Ae<|Es<|qm U ?_
  rotate_left
 ·unfold readV
  rw[if_pos (by omega)];rfl
 have ht2:t.length≤3000:=by omega
 refine Ay U U (by kernel_rfl) U U U U ((parsed_run (by omega)).mono (fun v s' ⟨hv,hs⟩=>?_) fun _ _ h=>h.elim)
 subst hs
 rcases hv with⟨c,hA,rfl⟩|⟨hn,rfl⟩
 ·have hf:=hA.fit ht2
  have hit_13:=hit_13 hf
  rw[readV_ok (by omega) hA]
  cases hc:codeV c with
  |true=>
   rw[hc]at hit_13
   refine qm U ?_
   iterate 2 refine Lq (oe U) U ?_
   refine Lo (AE 2 U z_28 U) rfl<|Ak (A4 U Bg U U U U U U) U rfl<|qa rfl<|Ld<|Ab<|Es<|qm rfl<|Lq (on U) U ?_
   refine Ld<|Ap U rfl<|Ae<|Ab<|Es<|Lo (AM U DU Bg U U (Qc U)) U ?_
   refine Lo (Ad U U (by kernel_rfl) U (Ac (hit_13))) rfl<|Lq (o2 u_31 U U) rfl<|Ld<|Ap U rfl<|Ae<|Es<|Lo (AM U DU Bg U U (Qc U)) rfl<|Ak (A4 U Bg U U U U U U) U U ?_
   refine qa rfl<|Ld ?_
   exact Aa ⟨.inl U,rfl,rfl,rfl,[.agg (encR c),.int .i64 0],.tuple [.agg (encR c),.int .i64 0],[],Ej (k:=4) (cs:=encR c) U U U U (Qj 4) (Aj U U),frz_R U,under_R U,rfl⟩
  |false=>
   rw[hc]at hit_13
   refine qm U ?_
   iterate 2 refine Lq (oe U) U ?_
   refine Lo (AE 2 U z_28 U) rfl<|Ak (A4 U Bg U U U U U U) U rfl<|qa rfl<|Ld<|Ab<|Es<|qm rfl<|Lq (on U) U ?_
   refine Ld<|Ap U rfl<|Ae<|Ab<|Es<|Lo (AM U DU Bg U U (Qc U)) U ?_
   refine Lo (Ad U U (by kernel_rfl) U (Ac (hit_13))) rfl<|Lq (o2 u_31 U U) rfl<|Ld<|Ai U rfl<|Es<|Lq (AJ U pl_28 U U) rfl<|Ak (A4 U Bg U U U U U U) U rfl<|qa U ?_
   refine Ld ?_
   refine Aa ⟨.inl U,rfl,rfl,rfl,_,_,_,(Ej U DU Bg U (Qc U) (Aj U U)),rfl,rfl,?_⟩
   rfl
 ·rw[readV_no (by omega) hn]
  refine qm U ?_
  iterate 2 refine Lq (oe U) U ?_
  refine Lo (AE 2 U z_28 U) rfl<|Ak (A4 U Bg U U U U U U) U rfl<|qa rfl<|Ld<|Ab<|Es<|qm rfl<|Lq (on U) U ?_
  refine Ld<|Ai U rfl<|Es<|Lq (AJ U pl_28 U U) rfl<|Ak (A4 U Bg U U U U U U) U rfl<|qa rfl<|Ld ?_
  refine Aa ⟨.inl U,rfl,rfl,rfl,_,_,_,(Ej U DU Bg U (Qc U) (Aj U U)),rfl,rfl,?_⟩
  rfl
end Go.Proofs.YtpihdbhocgcbpaaGreatDoor.Rd
