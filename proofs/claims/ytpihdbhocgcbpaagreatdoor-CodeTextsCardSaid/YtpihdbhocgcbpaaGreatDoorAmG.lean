/- The abstract machine: more rules; contracts; heaps as lists; strings and builders; lists that grow; short names; tables that are laid; what is logged. -/
import Derived.Test.YtpihdbhocgcbpaaGreatDoorAmF
import Derived.ChangeReads
import Derived.ChangeArms
set_option linter.unusedSectionVars false
set_option linter.unusedVariables false
set_option linter.unusedSimpArgs false
namespace Am
open Go
section
variable (E : Env)
def RegN (all rest : List Oper) (i : Nat) (fr : Fr) (l : Sl) (st : St) (js : List Nat) (nl : News) (K : Sl → St → Prop) : Prop :=
 ∀ (T : Tr AV) (news : News) (looked : Looked),Has l T → (∀ p ∈ news,p ∈ nl) → (∀ p ∈ looked,p.1 ∈ js ∨ p.2.1 = .nothing) →
  ∃ N l' q',K l' q'.st ∧ Has l' q'.T ∧ ∀ n,N ≤ n → drawAll E all (ev E n) fr (planD E (befores all) rest i) ⟨T,st,news,looked⟩ = some q'
end
def putL (d : Option Nat) (v : AV) (l : Sl) : Sl := match d with
 | some d=>(d,v) :: l
 | none=>l
noncomputable def ancOf (all : List Oper) (i : Nat) : Nat := (nth (befores all) i).getD 0
section
variable {E : Env} {fr : Fr} {l : Sl} {st : St} {o : Oper} {all rest : List Oper} {i : Nat} {js : List Nat} {nl : News} {K : Sl → St → Prop} {od : Option Nat}
theorem Has.putL {T : Tr AV} (h : Has l T) (d : Option Nat) (v : AV) : Has (Am.putL d v l) (putT d v T) := by
 cases d with
 | none=>exact h
 | some d=>exact h.put d v
theorem putC_ok {nt : Nat} {v : AV} {T : Tr AV} (hlt : dstOk nt od = true) : putC od nt v T = some (putT od v T) := by
 cases od with
 | none=>rfl
 | some d =>
  show (bif Nat.blt d nt then some (Tr.setP (some v) (pathOf d) T) else none) = _
  have : Nat.blt d nt = true := hlt
  rw [this]; rfl
theorem put_quietN {nt : Nat} {d : DOp} {q : DSt} {tch : Touch} {v : AV} {H : Tr AObj} (hd : d.o.dst = od) (hlt : dstOk nt od = true) :
    drawPut nt d q (tch, v, q.st.sub H) = some ⟨putT od v q.T, q.st, q.news, (d.i, tch, reOf d q (tch, v, q.st.sub H)) :: q.looked⟩ := by
  unfold drawPut
  have h1 : Nat.ble q.st.next (q.st.sub H).next = true := ble_self _
  have h2 : (q.st.sub H).next - q.st.next = 0 := Nat.sub_self _
  have h3 : (q.st.sub H).log = [] := rfl
  simp only [h1, h2, h3, hd, putC_ok hlt, mayWrite, Bool.and_self, cond_true, Qe, newL, copyAll, tagL, below]
  rfl
theorem Ay (h : K l st) : RegN E all [] i fr l st js nl K := fun T news looked hT _ _=>⟨0,l,⟨T,st,news,looked⟩,h,hT,fun _ _=>rfl⟩
theorem RegN.toD (h : RegN E all rest i fr l st js [] K) : RegD E all rest i fr l st js true K := fun T news looked hT hn hl =>
 h T news looked hT (fun p hp=>by rw [hn rfl] at hp; cases hp) hl
theorem EN {Q : Ex → Fr → Sl → St → Prop} {k : Nat} {ops : Array Oper} (hok : drawOk ops.toList = true) (h : RegN E ops.toList ops.toList 0 fr l st [] [] (Q .normal fr)) : EvtL E (.region k ops true) fr l st Q := EvtL.draw hok h.toD
theorem Av {Q : Ex → Fr → Sl → St → Prop} {k : Nat} {ops : Array Oper} {b : Code} (hok : drawOk ops.toList = true) (h : RegN E ops.toList ops.toList 0 fr l st [] [] fun l s=>EvtL E b fr l s Q) : EvtL E (.seq (.region k ops true) b) fr l st Q :=
 EvtL.seqDraw hok h.toD
theorem runN {n : Nat} {T : Tr AV} {news : News} {looked : Looked} {r : Touch × AV × St} (hT : Has l T) (hg : GuardOn all l o) (h : drawGo E (ev E n) fr (dop E all i o) ⟨T, st, news, looked⟩ (pickT T (tmpsOf o.op.operands.toList) .nil) = some r) :
    drawRun E all (ev E n) fr (dop E all i o) ⟨T, st, news, looked⟩ = some r := by
  unfold drawRun
  rcases hg with hg | ⟨g, hg, hw⟩
  · have : (dop E all i o).o.guard = none := hg
    rw [this]; exact h
  · have : (dop E all i o).o.guard = some g := hg
    rw [this]
    show (wantedC all g T).bind _ = _
    rw [hw T hT]
    exact h
theorem RegN.gen {v : AV} {js' : List Nat} (hq : quietSo (opC E o.type o.op) = true)
    (ho : ∀ (T : Tr AV) (news : News), (∀ p ∈ news, p ∈ nl) → Has (restr (tmpsOf o.op.operands.toList) l) T →
      (i ∈ js' ∨ touchOf (opC E o.type o.op) T = .nothing) ∧ Alone E o fr T v (st.sub (subHeap (ancOf all i) news st.heap (touchOf (opC E o.type o.op) T))))
    (hjs : ∀ j ∈ js, j ∈ js') (hg : GuardOn all l o) (hd : o.dst = od) (hlt : dstOk fr.nt od = true) (h : RegN E all rest (i + 1) fr (putL od v l) st js' nl K) : RegN E all (o :: rest) i fr l st js nl K := by
  intro T news looked hT hnw hlk
  obtain ⟨hj, N, hN⟩ := ho _ news hnw (hT.restr (tmpsOf o.op.operands.toList))
  let dd : DOp := dop E all i o
  let q : DSt := ⟨T, st, news, looked⟩
  let T' := pickT T (tmpsOf o.op.operands.toList) .nil
  let tch := touchOf (opC E o.type o.op) T'
  let H := subHeap dd.anc news st.heap tch
  let re := reOf dd q (tch, v, st.sub H)
  obtain ⟨M, l', q', hk, hT', hr⟩ := h (putT od v T) news ((i, tch, re) :: looked) (hT.putL od v) hnw (fun p hp => by
    rcases Qk.1 hp with rfl | hp
    · exact hj
    · exact (hlk p hp).imp (hjs _) id)
  refine ⟨max N M, l', q', hk, hT', fun n hn => ?_⟩
  have hgo : drawGo E (ev E n) fr dd q T' = some (tch, v, st.sub H) := by
    unfold drawGo
    have : quietSo dd.so = true := hq
    rw [this]
    simp only [cond_true]
    show drawGot tch ((stepC E (opC E o.type o.op) K0).run (ev E n) fr T' (st.sub H)) = _
    have h1 : (stepC E (opC E o.type o.op) K0).run (ev E n) fr T' (st.sub H) = .one ⟨.normal, fr, oneT v, st.sub H⟩ := hN n (by omega)
    rw [h1]; rfl
  show ((drawRun E all (ev E n) fr dd q).bind fun r => (drawPut fr.nt dd q r).bind fun q' => drawAll E all (ev E n) fr (planD E (befores all) rest (i + 1)) q') = _
  rw [runN hT hg hgo]
  simp only [Qe]
  have hp := put_quietN (nt := fr.nt) (d := dd) (q := q) (tch := tch) (v := v) (H := H) (od := od) hd hlt
  have hsub : q.st.sub H = st.sub H := rfl
  rw [hsub] at hp
  rw [hp]
  simp only [Qe]
  exact hr n (by omega)
theorem RegN.off {g : Nat × Bool} (hg : o.guard = some g) (hw : ∀ T, Has l T → wantedC all g T = some false) (hd : o.dst = od) (hlt : dstOk fr.nt od = true)
    (h : RegN E all rest (i + 1) fr (putL od (.tuple []) l) st js nl K) : RegN E all (o :: rest) i fr l st js nl K := by
  intro T news looked hT hnw hlk
  let dd : DOp := dop E all i o
  let q : DSt := ⟨T, st, news, looked⟩
  let re := reOf dd q (.nothing, .tuple [], st.sub .nil)
  obtain ⟨M, l', q', hk, hT', hr⟩ := h (putT od (.tuple []) T) news ((i, .nothing, re) :: looked) (hT.putL od _) hnw (fun p hp => by
    rcases Qk.1 hp with rfl | hp
    · exact .inr rfl
    · exact hlk p hp)
  refine ⟨M, l', q', hk, hT', fun n hn => ?_⟩
  have hrun : drawRun E all (ev E n) fr dd q = some (.nothing, .tuple [], st.sub .nil) := by
    unfold drawRun
    have : dd.o.guard = some g := hg
    rw [this]
    show (wantedC all g T).bind _ = _
    rw [hw T hT]; rfl
  show ((drawRun E all (ev E n) fr dd q).bind fun r => (drawPut fr.nt dd q r).bind fun q' => drawAll E all (ev E n) fr (planD E (befores all) rest (i + 1)) q') = _
  rw [hrun]
  simp only [Qe]
  have hp := put_quietN (nt := fr.nt) (d := dd) (q := q) (tch := .nothing) (v := .tuple []) (H := .nil) (od := od) hd hlt
  have hsub : q.st.sub .nil = st.sub .nil := rfl
  rw [hsub] at hp
  rw [hp]
  simp only [Qe]
  exact hr n (by omega)
theorem RegN.skip {j e : Nat} {w b : Bool} {oj : Oper} (hg : o.guard = some (j, w)) (hj : nth all j = some oj) (he : oj.dst = some e) (hl : look e l = some (.bool b)) (hb : b = !w)
    (hd : o.dst = od) (hlt : dstOk fr.nt od = true) (h : RegN E all rest (i + 1) fr (putL od (.tuple []) l) st js nl K) : RegN E all (o :: rest) i fr l st js nl K :=
  RegN.off hg (fun T hT => by rw [wanted_go (g := (j, w)) hj he (hT e _ hl), hb]; cases w <;> rfl) hd hlt h
theorem RegN.skipT {j e : Nat} {w : Bool} {oj : Oper} (hg : o.guard = some (j, w)) (hj : nth all j = some oj) (he : oj.dst = some e) (hl : look e l = some (.tuple []))
    (hd : o.dst = od) (hlt : dstOk fr.nt od = true) (h : RegN E all rest (i + 1) fr (putL od (.tuple []) l) st js nl K) : RegN E all (o :: rest) i fr l st js nl K :=
  RegN.off hg (fun T hT => by
    unfold wantedC yieldedP
    simp only [hj, Qe, he]
    show wantedV w (T.get e) = _
    rw [hT e _ hl]; rfl) hd hlt h
theorem DC {j e : Nat} {w b : Bool} {oj : Oper} (_hg : o.guard = some (j, w)) (_hj : nth all j = some oj) (_he : oj.dst = some e) (_hl : look e l = some (.bool b))
    (h1 : b = true → RegN E all (o :: rest) i fr l st js nl K) (h0 : b = false → RegN E all (o :: rest) i fr l st js nl K) : RegN E all (o :: rest) i fr l st js nl K := by
  cases b
  · exact h0 rfl
  · exact h1 rfl
theorem RegN.qG {v : AV} (ho : OpQ E o (restr (tmpsOf o.op.operands.toList) l) v) (hg : GuardOn all l o) (hd : o.dst = od) (hlt : dstOk fr.nt od = true) (h : RegN E all rest (i + 1) fr (putL od v l) st js nl K) : RegN E all (o :: rest) i fr l st js nl K :=
 RegN.gen ho.1 (fun T _ _ hT=>⟨.inr (ho.2 T hT).1,alone_of ⟨0,fun n _ k=>(ho.2 T hT).2 (ev E n) fr _ k⟩⟩) (fun _ h=>h) hg hd hlt h
theorem E6 {v : AV} (ho : OpA E o fr (restr (tmpsOf o.op.operands.toList) l) v) (hg : GuardOn all l o) (hd : o.dst = od) (hlt : dstOk fr.nt od = true) (h : RegN E all rest (i + 1) fr (putL od v l) st (i :: js) nl K) : RegN E all (o :: rest) i fr l st js nl K :=
 RegN.gen ho.1 (fun T _ _ hT=>⟨.inl (Qh ..),alone_of (by
  obtain ⟨N,hN⟩ := ho.2 T hT
  exact ⟨N,fun n hn k=>hN n hn _ k⟩)⟩) (fun _ h=>Qg _ h) hg hd hlt h
def clearB (anc b : Nat) (nl : News) : Bool := nl.all fun p=>!(Nat.beq p.2 b) || Nat.testBit anc p.1
theorem Dk {anc b : Nat} (h : clearB anc b nl = true) : ∀ {news : News},(∀ p ∈ news,p ∈ nl) → hiddenB anc b news = false
 | [],_=>rfl
 | p :: news,hn=>by
  unfold hiddenB
  have h1 := List.all_eq_true.1 h p (hn p (Qh ..))
  rw [Dk h (fun q hq=>hn q (Qg _ hq))]
  cases hb : Nat.beq p.2 b with
  | false=>rfl
  | true =>
   rw [hb] at h1
   have h2 : Nat.testBit anc p.1 = true := h1
   rw [h2]; rfl
theorem RegN.rd {x : Tr AV → Option AV} {f : Tr AV → St → Option AV} {v p : AV} {b : Nat} (hop : opC E o.type o.op = .read x f) (hx : ∀ T, Has (restr (tmpsOf o.op.operands.toList) l) T → x T = some p) (hp : blockOf (some p) = some b)
    (hv : ∀ T, Has (restr (tmpsOf o.op.operands.toList) l) T → f T (st.sub (Tr.set .nil b (st.heap.get b))) = some v) (hc : clearB (ancOf all i) b nl = true) (hg : GuardOn all l o) (hd : o.dst = od) (hlt : dstOk fr.nt od = true)
    (h : RegN E all rest (i + 1) fr (putL od v l) st (i :: js) nl K) : RegN E all (o :: rest) i fr l st js nl K := by
  refine RegN.gen (by rw [hop]; rfl) (fun T news hnw hT => ⟨.inl (Qh ..), ?_⟩) (fun _ h => Qg _ h) hg hd hlt h
  rw [hop]
  have : touchOf (.read x f) T = .block b := by
    show touchB (blockOf (x T)) = _
    rw [hx T hT, hp]; rfl
  rw [this]
  have hs : subHeap (ancOf all i) news st.heap (.block b) = Tr.set .nil b (st.heap.get b) := by
    show (bif hiddenB (ancOf all i) b news then _ else _) = _
    rw [Dk hc hnw]; rfl
  rw [hs]
  exact alone_of ⟨0, fun n _ k => by
    rw [hop]
    show valOut (fun v => k.run (ev E n) fr T v _) (f T _) = _
    rw [hv T hT]; rfl⟩
theorem readAt_block {n b off : Nat} {s s' : St} (hs : s'.heap.get b = s.heap.get b) : readAt s' n (.ptr b off) = readAt s n (.ptr b off) := by
 unfold readAt
 simp only [hs]
theorem loadC_block {t : TypeId} {b off : Nat} {s s' : St} (hs : s'.heap.get b = s.heap.get b) : loadC E t s' (.ptr b off) = loadC E t s (.ptr b off) := by
 unfold loadC
 cases isAgg E t with
 | none=>rfl
 | some g =>
  cases sizeOf E t with
  | none=>cases g <;> rfl
  | some n =>
   cases g
   ·show (readAt s' 1 _).bind _ = (readAt s 1 _).bind _
    rw [readAt_block hs]
   ·show (readAt s' n _).bind _ = (readAt s n _).bind _
    rw [readAt_block hs]
theorem AL {t : TypeId} {a : Operand} {v : AV} {b off : Nat} (ho : o.op = .load t a) (ha : opndL a (restr (tmpsOf o.op.operands.toList) l) = some (.ptr b off))
    (hv : loadC E t st (.ptr b off) = some v) (hc : clearB (ancOf all i) b nl = true) (hg : GuardOn all l o) (hd : o.dst = od) (hlt : dstOk fr.nt od = true) (h : RegN E all rest (i + 1) fr (putL od v l) st (i :: js) nl K) : RegN E all (o :: rest) i fr l st js nl K :=
  RegN.rd (x := opnd E a) (f := fun T s => (opnd E a T).bind (loadC E t s)) (b := b) (by rw [ho]; rfl) (fun T hT => Ak hT ha) rfl (fun T hT => by
    rw [Ak hT ha]
    exact (loadC_block (by show (Tr.set .nil b (st.heap.get b)).get b = _; rw [AC, if_pos rfl])).trans hv) hc hg hd hlt h
theorem RegN.make {f : Tr AV → Option Mk} {ob : AObj} {g : Nat → AV} (hop : opC E o.type o.op = .make f) (hv : ∀ T, Has (restr (tmpsOf o.op.operands.toList) l) T → f T = some (.obj ob g)) (hg : GuardOn all l o) (hd : o.dst = od) (hlt : dstOk fr.nt od = true)
    (h : RegN E all rest (i + 1) fr (putL od (g st.next) l) (st.alloc ob) js ((i, st.next) :: nl) K) : RegN E all (o :: rest) i fr l st js nl K := by
  intro T news looked hT hnw hlk
  let dd : DOp := dop E all i o
  let q : DSt := ⟨T, st, news, looked⟩
  let T' := pickT T (tmpsOf o.op.operands.toList) .nil
  let s2 : St := (st.sub .nil).alloc ob
  let re := reOf dd q (.nothing, g st.next, s2)
  obtain ⟨M, l', q', hk, hT', hr⟩ := h (putT od (g st.next) T) ((i, st.next) :: news) ((i, .nothing, re) :: looked) (hT.putL od _) (fun p hp => by
    rcases Qk.1 hp with rfl | hp
    · exact Qh ..
    · exact Qg _ (hnw p hp)) (fun p hp => by
    rcases Qk.1 hp with rfl | hp
    · exact .inr rfl
    · exact hlk p hp)
  refine ⟨M, l', q', hk, hT', fun n hn => ?_⟩
  have hgo : drawGo E (ev E n) fr dd q T' = some (.nothing, g st.next, s2) := by
    unfold drawGo
    have hso : dd.so = .make f := hop
    have hqs : quietSo dd.so = true := by rw [hso]; rfl
    rw [hqs]
    simp only [cond_true]
    have htch : touchOf dd.so T' = .nothing := by rw [hso]; rfl
    rw [htch]
    have hst : (stepC E (opC E o.type o.op) K0).run (ev E n) fr T' (st.sub .nil) = K0.run (ev E n) fr T' (g (st.sub .nil).next) ((st.sub .nil).alloc ob) := by
      rw [hop]
      show mkOut _ _ (f T') = _
      rw [hv T' (hT.restr (tmpsOf o.op.operands.toList))]; rfl
    show drawGot .nothing ((stepC E (opC E o.type o.op) K0).run (ev E n) fr T' (st.sub .nil)) = _
    rw [hst]; rfl
  show ((drawRun E all (ev E n) fr dd q).bind fun r => (drawPut fr.nt dd q r).bind fun q' => drawAll E all (ev E n) fr (planD E (befores all) rest (i + 1)) q') = _
  rw [runN hT hg hgo]
  simp only [Qe]
  have hput : drawPut fr.nt dd q (.nothing, g st.next, s2) = some ⟨putT od (g st.next) T, st.alloc ob, (i, st.next) :: news, (i, .nothing, re) :: looked⟩ := by
    unfold drawPut
    have h1 : Nat.ble q.st.next s2.next = true := Qd (Nat.le_succ _)
    have h3 : dd.o.dst = od := hd
    have h4 : newL q.st.next (s2.next - q.st.next) = [st.next] := by
      show newL st.next (st.next + 1 - st.next) = _
      rw [Nat.add_sub_cancel_left]; rfl
    have h5 : s2.heap.get st.next = some ob := by
      show (Tr.set .nil st.next (some ob)).get st.next = _
      rw [AC, if_pos rfl]
    have h6 : s2.log = [] := rfl
    simp only [h1, h6, mayWrite, h3, Bool.and_self, cond_true, putC_ok hlt, Qe, h4, tagL, copyAll, h5, below]
    rfl
  rw [hput]
  simp only [Qe]
  exact hr n (by omega)
theorem DS {i : Nat} {p : Nat × Nat} : ∀ {L : List Nat} {news : News},(∀ p ∈ news,p ∈ nl) → p ∈ tagL i news L → p ∈ tagL i nl L
 | [],_,hn,h=>hn _ h
 | b :: L,news,hn,h=>by
  rcases Qk.1 h with rfl | h
  ·exact Qh ..
  ·exact Qg _ (DS hn h)
def seenB (anc : Nat) (js : List Nat) : Bool := js.all fun j=>Nat.testBit anc j
theorem free_seen {anc b n : Nat} {ob : Option AObj} (hjs : seenB anc js = true) : ∀ {L : Looked},(∀ p ∈ L,p.1 ∈ js ∨ p.2.1 = .nothing) → freeOf anc b n ob L = true
 | [],_=>rfl
 | p :: L,hL=>by
  unfold freeOf
  have ih := free_seen (b := b) (n := n) (ob := ob) hjs fun q hq=>hL q (Qg _ hq)
  rcases hL p (Qh ..) with h1 | h1
  ·have : Nat.testBit anc p.1 = true := List.all_eq_true.1 hjs _ h1
   rw [this]; exact ih
  ·rw [h1]
   simp only [hitB,cond_false]
   cases Nat.testBit anc p.1 <;> exact ih
theorem RegN.acts {x : Tr AV → Option AV} {f : Tr AV → St → Option (AV × St)} {v : AV} {s2 : St} {one : Bool} {tch : Touch} {H : Tr AObj} (hop : opC E o.type o.op = .act one x f)
    (htch : ∀ T, Has (restr (tmpsOf o.op.operands.toList) l) T → touchOf (.act one x f) T = tch) (hH : ∀ news : News, (∀ p ∈ news, p ∈ nl) → subHeap (ancOf all i) news st.heap tch = H)
    (ho : OpL E o fr (restr (tmpsOf o.op.operands.toList) l) (st.sub H) v s2)
    (hnx : st.next ≤ s2.next) (hlog : ∀ b ∈ s2.log, b < st.next ∧ clearB (ancOf all i) b nl = true) (hjs : seenB (ancOf all i) js = true)
    (hg : GuardOn all l o) (hd : o.dst = od) (hlt : dstOk fr.nt od = true)
    (h : RegN E all rest (i + 1) fr (putL od v l) (st.merged s2) (i :: js) (tagL i (tagL i nl (newL st.next (s2.next - st.next))) s2.log) K) : RegN E all (o :: rest) i fr l st js nl K := by
  intro T news looked hT hnw hlk
  obtain ⟨N, hN⟩ := ho _ (hT.restr (tmpsOf o.op.operands.toList))
  let dd : DOp := dop E all i o
  let q : DSt := ⟨T, st, news, looked⟩
  let T' := pickT T (tmpsOf o.op.operands.toList) .nil
  let re := reOf dd q (tch, v, s2)
  have hanc : dd.anc = ancOf all i := rfl
  obtain ⟨M, l', q', hk, hT', hr⟩ := h (putT od v T) (tagL i (tagL i news (newL st.next (s2.next - st.next))) s2.log) ((i, tch, re) :: looked) (hT.putL od v)
    (fun p hp => DS (fun p hp => DS hnw hp) hp) (fun p hp => by
    rcases Qk.1 hp with rfl | hp
    · exact .inl (Qh ..)
    · exact (hlk p hp).imp (Qg _) id)
  refine ⟨max N M, l', q', hk, hT', fun n hn => ?_⟩
  have hgo : drawGo E (ev E n) fr dd q T' = some (tch, v, s2) := by
    unfold drawGo
    have hso : dd.so = .act one x f := hop
    have hqs : quietSo dd.so = true := by rw [hso]; rfl
    rw [hqs]
    simp only [cond_true]
    have ht : touchOf dd.so T' = tch := by rw [hso]; exact htch _ (hT.restr _)
    rw [ht]
    have hst := hN n (by omega) K0
    show drawGot tch ((stepC E (opC E o.type o.op) K0).run (ev E n) fr T' (st.sub (subHeap dd.anc news st.heap tch))) = _
    rw [hanc, hH news hnw, hst]; rfl
  have hmay : ∀ L : List Nat, (∀ b ∈ L, b < st.next ∧ clearB (ancOf all i) b nl = true) → mayWrite dd.anc st.next s2.next s2.heap q L = true := by
    intro L
    induction L with
    | nil => intro _; rfl
    | cons b L ih =>
      intro hL
      unfold mayWrite
      have h1 : Nat.blt b st.next = true := by simpa [Nat.blt_eq] using (hL b (Qh ..)).1
      have h2 : hiddenB dd.anc b q.news = false := Dk (hL b (Qh ..)).2 hnw
      have h3 : freeOf dd.anc b s2.next (s2.heap.get b) q.looked = true := free_seen hjs hlk
      rw [h1, h2, h3, ih fun c hc => hL c (Qg _ hc)]
      rfl
  show ((drawRun E all (ev E n) fr dd q).bind fun r => (drawPut fr.nt dd q r).bind fun q' => drawAll E all (ev E n) fr (planD E (befores all) rest (i + 1)) q') = _
  rw [runN hT hg hgo]
  simp only [Qe]
  have hput : drawPut fr.nt dd q (tch, v, s2) = some ⟨putT od v T, st.merged s2, tagL i (tagL i news (newL st.next (s2.next - st.next))) s2.log, (i, tch, re) :: looked⟩ := by
    unfold drawPut
    have h1 : Nat.ble q.st.next s2.next = true := Qd hnx
    have h2 : mayWrite dd.anc q.st.next s2.next s2.heap q s2.log = true := hmay s2.log hlog
    have h3 : dd.o.dst = od := hd
    simp only [h1, h2, h3, Bool.and_self, cond_true, putC_ok hlt, Qe]
    rfl
  rw [hput]
  simp only [Qe]
  exact hr n (by omega)
theorem hide_clear {anc : Nat} (h : (nl.all fun p=>Nat.testBit anc p.1) = true) {news : News} {hp : Tr AObj} (hn : ∀ p ∈ news,p ∈ nl) : hideAll anc news hp = hp :=
 hide_none fun p hp=>List.all_eq_true.1 h p (hn p hp)
theorem RegN.act {x : Tr AV → Option AV} {f : Tr AV → St → Option (AV × St)} {v : AV} {s2 : St} (hop : opC E o.type o.op = .act false x f) (ho : OpL E o fr (restr (tmpsOf o.op.operands.toList) l) (st.sub st.heap) v s2)
    (hnx : st.next ≤ s2.next) (hlog : ∀ b ∈ s2.log, b < st.next ∧ clearB (ancOf all i) b nl = true) (hjs : seenB (ancOf all i) js = true) (hnl : (nl.all fun p => Nat.testBit (ancOf all i) p.1) = true)
    (hg : GuardOn all l o) (hd : o.dst = od) (hlt : dstOk fr.nt od = true)
    (h : RegN E all rest (i + 1) fr (putL od v l) (st.merged s2) (i :: js) (tagL i (tagL i nl (newL st.next (s2.next - st.next))) s2.log) K) : RegN E all (o :: rest) i fr l st js nl K :=
  RegN.acts (tch := .all) hop (fun _ _ => rfl) (fun _ hn => hide_clear hnl hn) ho hnx hlog hjs hg hd hlt h
end
section
variable {E : Env} {fr : Fr} {l : Sl} {s : St} {o : Oper}
theorem D1 {t : TypeId} {x : Operand} {v : AV} (ho : o.op = .makeInterface t x) (hi : isIfaceT E t = some false) (hx : opndL x l = some v) : OpQ E o l (.iface t v) :=
 AI (f := fun T=>(opnd E x T).bind fun v=>some (.iface t v)) (by
  rw [ho]
  show makeIfaceC E t x = _
  unfold makeIfaceC
  rw [hi]) fun T hT=>by simp only [Ak hT hx,Qe]
noncomputable def isStructT (E : Env) (t : TypeId) : Bool := match und E t with
 | some (.struct _)=>true
 | _=>false
def eqOp (neg : Bool) : BinOp := bif neg then .neq else .eql
theorem binC_eq {neg : Bool} {t : TypeId} {x y : Operand} (h1 : ∀ k,und E t ≠ some (.int k)) (h2 : und E t ≠ some .string) : binC E (eqOp neg) t x y = eqC E neg t x y := by
 unfold binC
 split
 ·next k h=>exact absurd h (h1 k)
 ·next h=>exact absurd h h2
 ·cases neg <;> rfl
theorem iface_of {t : TypeId} (h : isIfaceT E t = some true) : ∃ ms,und E t = some (.interface ms) := by
 unfold isIfaceT at h
 split at h
 ·next ms hm=>exact ⟨ms,hm⟩
 ·cases h
 ·cases h
theorem struct_of {t : TypeId} (h : isStructT E t = true) : ∃ fs,und E t = some (.struct fs) := by
 unfold isStructT at h
 split at h
 ·next fs hm=>exact ⟨fs,hm⟩
 ·cases h
theorem Fl {neg : Bool} {t yt : TypeId} {x y : Operand} {a b v : AV} (ho : o.op = .binOp (eqOp neg) t x y yt) (hu : isIfaceT E t = some true) (hx : opndL x l = some a) (hy : opndL y l = some b)
    (hv : boolV neg (eqIface E (isConst x || isConst y) a b) = some v) : OpQ E o l v := by
  obtain ⟨ms, hu⟩ := iface_of hu
  exact AI (f := fun T => (opnd E x T).bind fun a => (opnd E y T).bind fun b => boolV neg (eqIface E (isConst x || isConst y) a b)) (by
    rw [ho]
    show binC E (eqOp neg) t x y = _
    rw [binC_eq (by rw [hu]; intro k h; cases h) (by rw [hu]; intro h; cases h)]
    unfold eqC
    rw [hu]; rfl) fun T hT => by simp only [Ak hT hx, Ak hT hy, Qe, hv]
theorem OpQ.eqBool {neg : Bool} {t yt : TypeId} {x y : Operand} {a b : Bool} (ho : o.op = .binOp (eqOp neg) t x y yt) (hu : und E t = some .bool) (hx : opndL x l = some (.bool a)) (hy : opndL y l = some (.bool b)) :
    OpQ E o l (.bool (bif neg then !(a == b) else (a == b))) :=
  AI (f := fun T => (opnd E x T).bind fun a => (opnd E y T).bind fun b => boolV neg (eqD .bool a b)) (by
    rw [ho]
    show binC E (eqOp neg) t x y = _
    rw [binC_eq (by rw [hu]; intro k h; cases h) (by rw [hu]; intro h; cases h)]
    unfold eqC
    rw [hu]; rfl) fun T hT => by
    simp only [Ak hT hx, Ak hT hy, Qe]
    cases a <;> cases b <;> cases neg <;> rfl
theorem Dn {neg : Bool} {t yt : TypeId} {x y : Operand} {kd : Kd} {a b v : AV} (ho : o.op = .binOp (eqOp neg) t x y yt) (hu : isStructT E t = true) (hk : kdOf E t = some kd) (hx : opndL x l = some a) (hy : opndL y l = some b)
    (hv : boolV neg (eqKd kd a b) = some v) : OpQ E o l v := by
  obtain ⟨fs, hu⟩ := struct_of hu
  exact AI (f := fun T => (opnd E x T).bind fun a => (opnd E y T).bind fun b => boolV neg (eqKd kd a b)) (by
    rw [ho]
    show binC E (eqOp neg) t x y = _
    rw [binC_eq (by rw [hu]; intro k h; cases h) (by rw [hu]; intro h; cases h)]
    unfold eqC
    rw [hu]
    simp only [hk]; rfl) fun T hT => by simp only [Ak hT hx, Ak hT hy, Qe, hv]
theorem Ef {t yt : TypeId} {x y : Operand} {a b : Int} (ho : o.op = .binOp .sub t x y yt) (hu : und E t = some (.int .i64)) (hx : opndL x l = some (.int .i64 a)) (hy : opndL y l = some (.int .i64 b))
    (h : -9223372036854775808 ≤ a - b ∧ a - b < 9223372036854775808) : OpQ E o l (.int .i64 (a - b)) := DN ho hu rfl hx hy (by rw [wrapI_in h.1 h.2])
theorem A6 {t yt : TypeId} {x y : Operand} {a b : Nat} (ho : o.op = .binOp .sub t x y yt) (hu : und E t = some (.int .i64)) (hx : opndL x l = some (.int .i64 (a : Nat))) (hy : opndL y l = some (.int .i64 (b : Nat)))
    (h : b ≤ a ∧ a < 9223372036854775808) : OpQ E o l (.int .i64 ((a - b : Nat) : Int)) := by
  have := Ef (o := o) (E := E) (l := l) ho hu hx hy (by omega)
  rwa [show (a : Int) - (b : Int) = ((a - b : Nat) : Int) by omega] at this
theorem OpQ.mul {t yt : TypeId} {x y : Operand} {a b : Int} (ho : o.op = .binOp .mul t x y yt) (hu : und E t = some (.int .i64)) (hx : opndL x l = some (.int .i64 a)) (hy : opndL y l = some (.int .i64 b))
    (h : -9223372036854775808 ≤ a * b ∧ a * b < 9223372036854775808) : OpQ E o l (.int .i64 (a * b)) := DN ho hu rfl hx hy (by rw [wrapI_in h.1 h.2])
theorem dropN_ok {α : Type} : ∀ {a : Nat} {l : List α},a ≤ l.length → dropN a l = some (l.drop a)
 | 0,_,_=>rfl
 | _ + 1,[],h=>by simp at h
 | a + 1,_ :: l,h=>dropN_ok (a := a) (l := l) (by simpa using h)
theorem takeN_ok {α : Type} : ∀ {n : Nat} {l : List α},n ≤ l.length → takeN n l = some (l.take n)
 | 0,l,_=>by simp; rfl
 | _ + 1,[],h=>by simp at h
 | n + 1,b :: l,h=>by
  show consO b (takeN n l) = _
  rw [takeN_ok (n := n) (l := l) (by simpa using h)]; rfl
theorem OpQ.indexArr {t e : TypeId} {x i : Operand} {n sz k : Nat} {ik : IntKind} {cs : List AV} {v : AV} (ho : o.op = .index t x i) (hu : und E t = some (.array n e)) (ha : isAgg E e = some false) (hs : sizeOf E e = some sz)
    (hx : opndL x l = some (.agg cs)) (hi : opndL i l = some (.int ik (k : Nat))) (hk : k < n) (hv : cs[k * sz]? = some v) : OpQ E o l v :=
  AI (f := fun T => (opnd E i T).bind fun iv => (natOf iv).bind fun k => bif Nat.blt k n then (opnd E x T).bind (idxOneV sz k) else none) (by
    rw [ho]
    show indexC E t x i = _
    unfold indexC
    rw [hu]
    simp only [ha, hs]) fun T hT => by
    have h1 : natOf (.int ik (k : Nat)) = some k := rfl
    have h2 : Nat.blt k n = true := by simpa [Nat.blt_eq] using hk
    simp only [Ak hT hx, Ak hT hi, Qe, h1, h2, cond_true, idxOneV, DV, hv]
theorem A0 {t : TypeId} {x : Operand} {i off n : Nat} {agg : Bool} {cs : List AV} (ho : o.op = .fieldAddr t x i) (hf : fieldOf E t i = some (off,n + 1,agg)) (hx : opndL x l = some (.iptr cs)) (hn : off ≤ cs.length) : OpQ E o l (.iptr (cs.drop off)) :=
 AI (f := fun T=>(opnd E x T).bind (addrAdd off)) (by
  rw [ho]
  show fieldAddrC E t x i = _
  unfold fieldAddrC
  rw [hf]) fun T hT=>by simp only [Ak hT hx,Qe,addrAdd,dropN_ok hn]
theorem Fm {src dst : TypeId} {x : Operand} {j k kx : IntKind} {n : Int} (ho : o.op = .convert src dst x) (hs : und E src = some (.int j)) (hd : und E dst = some (.int k)) (hx : opndL x l = some (.int kx n)) : OpQ E o l (wrapI k n) :=
 AI (f := fun T=>(opnd E x T).bind (intToV k)) (by
  rw [ho]
  show convC E src dst x = _
  unfold convC
  rw [hs,hd]) fun T hT=>by simp only [Ak hT hx,Qe,intToV]
theorem A2 {x : Operand} {t ty : TypeId} {ok : Bool} {z a v : AV} (ho : o.op = .typeAssert x ty t ok) (hi : isIfaceT E t = some false) (hz : zeroOf E t = some z) (hx : opndL x l = some a) (hv : assertT t ok z a = some v) : OpQ E o l v :=
 AI (f := fun T=>(opnd E x T).bind (assertT t ok z)) (by
  rw [ho]
  show assertC E x t ok = _
  unfold assertC
  unfold isIfaceT at hi
  rw [hz]
  cases hu : und E t with
  | none=>rw [hu] at hi; cases hi
  | some d =>
   rw [hu] at hi
   cases d <;> first | rfl | cases hi) fun T hT=>by simp only [Ak hT hx,Qe,hv]
theorem OpL.invoke {c : Call} {r : Operand} {name : String} {t : TypeId} {v w : AV} {f : FuncId} {rc : Recv} {args : List AV} {rv : AV} (ho : o.op = .call c) (hc : c.callee = .invoke r name) (ha : opndsL c.args.toList l = some args) (hr : opndL r l = some (.iface t v))
    (hm : methodOf E t name = some (f, rc)) (hb : hasBody E f = true) (hv : recvV E s v rc = some rv) (h : CallTo E f (rv :: args) s w) : OpL E o fr l s w s := fun T hT =>
  OpTo.call (F := fun T s => (opndsC E c.args.toList T).bind fun args => (opnd E r T).bind (invokeV E s name args)) (by
    rw [ho]
    show callC E o.type c = _
    unfold callC
    rw [hc]) (by simp only [BM hT ha, Ak hT hr, Qe, invokeV, hm, hb, cond_true, hv]) h
theorem OpL.makeMap {t k e : TypeId} (ho : o.op = .makeMap t none) (hu : und E t = some (.map k e)) : OpL E o fr l s (.map s.next) (s.alloc (.map [] 0)) := fun T _ =>
 OpTo.make (f := fun _=>some (.obj (.map [] 0) .map)) (by
  rw [ho]
  show makeMapC E t none = _
  unfold makeMapC
  rw [hu]) rfl
theorem OpL.mapSet {t k e : TypeId} {kd : Kd} {m x y : Operand} {p a b : AV} {s' : St} (ho : o.op = .mapUpdate t m x y ∨ o.op = .insert t m x y) (hu : und E t = some (.map k e)) (hk : kdOf E k = some kd) (hm : opndL m l = some p) (hx : opndL x l = some a) (hy : opndL y l = some b)
    (hs : mapSetV kd s a b p = some s') : OpL E o fr l s (.tuple []) s' := fun T hT =>
  OpTo.act (b := true) (x := opnd E m) (f := fun T s => (opnd E m T).bind fun a => (opnd E x T).bind fun b => (opnd E y T).bind fun c => withU (mapSetV kd s b c a)) (by
    have : opC E o.type o.op = mapSetC E t m x y := by rcases ho with ho | ho <;> rw [ho] <;> rfl
    rw [this]
    unfold mapSetC
    rw [hu]
    simp only [hk]) (by simp only [Ak hT hm, Ak hT hx, Ak hT hy, Qe, hs, withU])
theorem OpL.lookup {t k e : TypeId} {kd : Kd} {x i : Operand} {ok : Bool} {z p a v : AV} (ho : o.op = .lookup t x i ok) (hu : und E t = some (.map k e)) (hz : zeroOf E e = some z) (hk : kdOf E k = some kd) (hx : opndL x l = some p) (hi : opndL i l = some a)
    (hv : lookupV kd s ok z p a = some v) : OpL E o fr l s v s := fun T hT =>
  OpTo.read (x := opnd E x) (f := fun T s => (opnd E x T).bind fun a => (opnd E i T).bind fun b => lookupV kd s ok z a b) (by
    rw [ho]
    show lookupC E t x i ok = _
    unfold lookupC
    rw [hu]
    simp only [hz, hk]) (by simp only [Ak hT hx, Ak hT hi, Qe, hv])
variable {st : St} {all rest : List Oper} {i : Nat} {js : List Nat} {nl : News} {K : Sl → St → Prop} {od : Option Nat}
end
noncomputable def specOf {α : Type} (enc : α → List AV) (res : α → AV) (args : List AV) : Option AV := by
 classical exact if h : ∃ a,enc a = args then some (res h.choose) else none
theorem specOf_hit {α : Type} {enc : α → List AV} {res : α → AV} (hw : ∀ a b,enc a = enc b → res a = res b) (a : α) : specOf enc res (enc a) = some (res a) := by
 have h : ∃ b,enc b = enc a := ⟨a,rfl⟩
 unfold specOf
 rw [dif_pos h,hw _ _ h.choose_spec]
theorem specOf_some {α : Type} {enc : α → List AV} {res : α → AV} {args : List AV} {v : AV} (h : specOf enc res args = some v) : ∃ a,enc a = args ∧ res a = v := by
 unfold specOf at h
 split at h
 ·next he=>cases h; exact ⟨_,he.choose_spec,rfl⟩
 ·cases h
noncomputable def addC {α : Type} (K : FuncId → List AV → Option AV) (f : FuncId) (enc : α → List AV) (res : α → AV) : FuncId → List AV → Option AV := fun g args=>bif Nat.beq g f then specOf enc res args else K g args
theorem AD {α : Type} {K : FuncId → List AV → Option AV} {f : FuncId} {enc : α → List AV} {res : α → AV} (hw : ∀ a b,enc a = enc b → res a = res b) (a : α) : addC K f enc res f (enc a) = some (res a) := by
 unfold addC
 rw [Nat.beq_refl]
 exact specOf_hit hw a
theorem Bw {α : Type} {P : Program} {K : FuncId → List AV → Option AV} {f : FuncId} {enc : α → List AV} {res : α → AV} (hK : KnownAll P K) (h : ∀ a,KnownF P f (enc a) (res a)) : KnownAll P (addC K f enc res) := by
 intro g args v hv
 unfold addC at hv
 cases hb : Nat.beq g f with
 | false=>rw [hb] at hv; exact hK g args v hv
 | true =>
  rw [hb] at hv
  have := Qb hb
  subst this
  obtain ⟨a,rfl,rfl⟩ := specOf_some hv
  exact h a
theorem BH {α : Type} {P : Program} {nt nf mask : Nat} {K : FuncId → List AV → Option AV} {f : FuncId} {enc : α → List AV} {res : α → AV} (hp : ProgOk P nt nf) (hK : KnownAll P K) (h : ∀ a, CallTo (envK P nt nf mask K) f (enc a) S0 (res a))
    (ha : ∀ a, (enc a).all (closedV 40) = true) (hv : ∀ a, closedV 40 (res a) = true) : KnownAll P (addC K f enc res) :=
  Bw hK fun a => Dp hp hK (h a) (ha a) (hv a)
abbrev Hl := List (Nat × Option AObj)
def lookH : Nat → Hl → Option AObj
 | _,[]=>none
 | k,p :: l=>bif Nat.beq k p.1 then p.2 else lookH k l
noncomputable def mkH : Hl → Tr AObj
 | []=>.nil
 | p :: l=>(mkH l).set p.1 p.2
noncomputable def mkS (n bd : Nat) (lg : List Nat) (hl : Hl) : St := { next := n,bound := bd,log := lg,heap := mkH hl }
theorem get_mkH (k : Nat) : ∀ hl : Hl,(mkH hl).get k = lookH k hl
 | []=>Bb k
 | p :: l=>by
  show ((mkH l).set p.1 p.2).get k = bif Nat.beq k p.1 then p.2 else lookH k l
  rw [AC,get_mkH k l]
  cases hb : Nat.beq k p.1 with
  | true=>rw [if_pos (Qb hb)]; rfl
  | false=>rw [if_neg (Nat.ne_of_beq_eq_false hb)]; rfl
theorem Dq {n bd : Nat} {lg : List Nat} {hl : Hl} (k : Nat) : (mkS n bd lg hl).heap.get k = lookH k hl := get_mkH k hl
def logB (b bd : Nat) (lg : List Nat) : List Nat := bif Nat.blt b bd then logged b lg else lg
section
variable {E : Env} {fr : Fr} {l : Sl} {o : Oper} {n m bd : Nat} {lg : List Nat} {hl : Hl}
theorem Bf {t : TypeId} {z : AV} (m : Nat) (ho : o.op = .alloc t) (hz : zeroOf E t = some z) (hm : n + 1 = m) : OpL E o fr l (mkS n bd lg hl) (.ptr n 0) (mkS m bd lg ((n,some (.cells z.cells t false)) :: hl)) := by
 subst hm
 exact Bz ho hz
theorem Az {t : TypeId} {x : Operand} {v : AV} (m : Nat) (ho : o.op = .box t x) (hx : opndL x l = some v) (hv : v.isTuple = false) (hm : n + 1 = m) : OpL E o fr l (mkS n bd lg hl) (.ptr n 0) (mkS m bd lg ((n,some (.cells v.cells t false)) :: hl)) := by
 subst hm
 exact OpL.box ho hx hv
theorem AK {t : TypeId} {a x : Operand} {k b off : Nat} {v : AV} {cs cs' : List AV} {e : TypeId} {part : Bool} (ho : o.op = .store t a x) (hn : sizeOf E t = some k) (ha : opndL a l = some (.ptr b off)) (hx : opndL x l = some v)
    (hg : lookH b hl = some (.cells cs e part)) (hk : v.cells.length = k) (ht : v.isTuple = false) (hc : over v.cells off cs = some cs') : OpL E o fr l (mkS n bd lg hl) (.tuple []) (mkS n bd (logB b bd lg) ((b, some (.cells cs' e part)) :: hl)) :=
  Ba ho hn ha hx (AZ ((Dq b).trans hg) hk ht hc)
theorem OpL.loadS1 {t : TypeId} {a : Operand} {k b off : Nat} {v : AV} {cs : List AV} {e : TypeId} {part : Bool} (ho : o.op = .load t a) (h1 : isAgg E t = some false) (h2 : sizeOf E t = some k) (ha : opndL a l = some (.ptr b off))
    (hg : lookH b hl = some (.cells cs e part)) (hv : cs[off]? = some v) : OpL E o fr l (mkS n bd lg hl) v (mkS n bd lg hl) :=
  A8 ho ha (Al h1 h2 ((Dq b).trans hg) hv)
theorem A7 {t : TypeId} {a : Operand} {k b off : Nat} {cs : List AV} {e : TypeId} {part : Bool} (ho : o.op = .load t a) (h1 : isAgg E t = some true) (h2 : sizeOf E t = some k) (ha : opndL a l = some (.ptr b off))
    (hg : lookH b hl = some (.cells cs e part)) (hk : off + k ≤ cs.length) : OpL E o fr l (mkS n bd lg hl) (.agg ((cs.drop off).take k)) (mkS n bd lg hl) :=
  A8 ho ha (loadAgg_at h1 h2 ((Dq b).trans hg) hk)
theorem OpL.buildSliceS {t e : TypeId} {len sz : Nat} {parts : Array (Nat × Operand)} {z : AV} {ps : List (Nat × AV)} {cs : List AV} (m : Nat) (ho : o.op = .buildSlice t (len + 1) parts) (hu : und E t = some (.slice e)) (hs : sizeOf E e = some sz) (hz : zeroOf E e = some z)
    (hk : (Nat.beq (len' z.cells) sz && Nat.ble ((len + 1) * sz) 16777216 && !(Nat.beq sz 0)) = true) (hq : partsL parts.toList l = some ps) (hf : fillA (fun i => some (i * sz, sz)) ps (repeatA z.cells (len + 1)) = some cs) (hm : n + 1 = m) :
    OpL E o fr l (mkS n bd lg hl) (.slice n 0 (len + 1) sz (some (len + 1))) (mkS m bd lg ((n, some (.cells cs e false)) :: hl)) := by
  subst hm
  exact Br ho hu hs hz hk hq hf
theorem OpL.makeMapS {t k e : TypeId} (m : Nat) (ho : o.op = .makeMap t none) (hu : und E t = some (.map k e)) (hm : n + 1 = m) : OpL E o fr l (mkS n bd lg hl) (.map n) (mkS m bd lg ((n,some (.map [] 0)) :: hl)) := by
 subst hm
 exact OpL.makeMap ho hu
theorem OpQ.strAdd {t yt : TypeId} {x y : Operand} {a b : List UInt8} (ho : o.op = .binOp .add t x y yt) (hu : und E t = some .string) (hx : opndL x l = some (.str a)) (hy : opndL y l = some (.str b)) (h : a.length + b.length ≤ 4294967296) : OpQ E o l (.str (a ++ b)) :=
 OpQ.str2 ho hu rfl hx hy (by
  simp only [Dg]
  rw [Qd h]; rfl)
theorem leave_s0 {f : FuncId} {v w : AV} {ks : List Nat} {st : St} (hf : E.frz f = 1) (hlog : st.log = []) (hb : st.bound = 0) (h : frzV st 0 40 v [] = some (w,ks)) (hu : underV 0 40 w = true) : leave E f S0 v st = some (.same w) := by
 unfold leave frozen
 rw [hf,hlog]
 simp only
 show ((frozenFrom 0 v st).bind _) = _
 unfold frozenFrom
 rw [h]
 simp only [Qe,leaveQ]
 have hk : (kill st ks).log = [] := (kill_log (s := st) (ks := ks) fun b _=>by rw [hb]; exact Qo _).trans hlog
 rw [hk]
 show some (bif underV 0 40 w then _ else _) = _
 rw [hu]; rfl
theorem Ax {f : FuncId} {fn : Func} {c : Code} {args : List AV} {v : AV} {rs : List ResultVar} {fr : Fr} {l0 : Sl} (hz : E.frz f = 1) (hm : E.memo f args = none) (hf : E.fns.get f = some fn) (hc : fn.body = some c) (hr : fn.results.toList = rs)
    (hfr : frame fn.ntmps args none = fr) (hl : argsL 0 args [] = l0)
    (h : EvtL E c fr l0 (mkS 0 0 [] []) fun ex fr l st => (ex = .ret ∨ ex = .normal) ∧ fr.defers = [] ∧ st.log = [] ∧ st.bound = 0 ∧ ∃ vs w ks, resultsL E st l rs = some vs ∧ frzV st 0 40 (oneA vs) [] = some (w, ks) ∧ underV 0 40 w = true ∧ w = v) : CallTo E f args S0 v :=
  CallTo.gen hm hf hc hr hfr hl (EvtL.mono (s := S0.enter) h fun ex fr l st ⟨h1, h2, h3, h4, vs, w, ks, h5, h6, h7, h8⟩ => ⟨h1, st, by rw [h2]; rfl, vs, h5, by rw [← h8]; exact leave_s0 hz h3 h4 h6 h7⟩)
variable {all rest : List Oper} {i : Nat} {js : List Nat} {nl : News} {K : Sl → St → Prop} {od : Option Nat}
theorem AP {t : TypeId} {a : Operand} {k b off : Nat} {v : AV} {cs : List AV} {e : TypeId} {part : Bool} (ho : o.op = .load t a) (h1 : isAgg E t = some false) (h2 : sizeOf E t = some k) (ha : opndL a (restr (tmpsOf o.op.operands.toList) l) = some (.ptr b off))
    (hg : lookH b hl = some (.cells cs e part)) (hv : cs[off]? = some v) (hc : clearB (ancOf all i) b nl = true) (hgd : GuardOn all l o) (hd : o.dst = od) (hlt : dstOk fr.nt od = true)
    (h : RegN E all rest (i + 1) fr (putL od v l) (mkS n bd lg hl) (i :: js) nl K) : RegN E all (o :: rest) i fr l (mkS n bd lg hl) js nl K :=
  AL ho ha (Al h1 h2 ((Dq b).trans hg) hv) hc hgd hd hlt h
end
theorem OpQ.convI {E : Env} {o : Oper} {l : Sl} {src dst : TypeId} {x : Operand} {j kx : IntKind} {n : Int} (ho : o.op = .convert src dst x) (hs : und E src = some (.int j)) (hd : und E dst = some (.int .i64)) (hx : opndL x l = some (.int kx n)) (h : -9223372036854775808 ≤ n ∧ n < 9223372036854775808) : OpQ E o l (.int .i64 n) := by
 have := Fm (E := E) (l := l) ho hs hd hx
 rwa [wrapI_in h.1 h.2] at this
theorem Ah {E : Env} {fr : Fr} {l : Sl} {s : St} {Q : Ex → Fr → Sl → St → Prop} {x : Operand} {a b : Code} {t : Bool} (hx : opndL x l = some (.bool t)) (ht : t = true) (h : EvtL E a fr l s Q) : EvtL E (.cond x a b) fr l s Q :=
 EvtL.cond hx (fun _=>h) fun h0=>by rw [ht] at h0; cases h0
theorem An {E : Env} {fr : Fr} {l : Sl} {s : St} {Q : Ex → Fr → Sl → St → Prop} {x : Operand} {a b : Code} {t : Bool} (hx : opndL x l = some (.bool t)) (ht : t = false) (h : EvtL E b fr l s Q) : EvtL E (.cond x a b) fr l s Q :=
 EvtL.cond hx (fun h0=>by rw [ht] at h0; cases h0) fun _=>h
theorem AX {b : Bool} {x y : Prop} (hb : b = true) (h : x) : cond b x y := by subst hb; exact h
theorem nT {p : Prop} [Decidable p] (h : (!decide p) = true) : ¬ p := by simpa using h
theorem nF {p : Prop} [Decidable p] (h : (!decide p) = false) : p := by simpa using h
theorem bT {a b : List UInt8} (h : bytesEq a b = true) : a = b := of_decide_eq_true (Bc.symm.trans h)
theorem bF {a b : List UInt8} (h : bytesEq a b = false) : a ≠ b := of_decide_eq_false (Bc.symm.trans h)
theorem DK {b : Bool} (h : (!b) = true) : b = false := by simpa using h
theorem DL {b : Bool} (h : (!b) = false) : b = true := by simpa using h
section
variable (E : Env)
def InlQ (f : FuncId) (rs : List ResultVar) (s0 : St) (R : AV → St → Prop) (ex : Ex) (fr : Fr) (l : Sl) (st : St) : Prop :=
 (ex = .ret ∨ ex = .normal) ∧ ∃ st',unwinds fr.defers st = some st' ∧ ∃ vs,resultsL E st' l rs = some vs ∧ ∃ cr,leave E f s0 (oneA vs) st' = some cr ∧ match cr with
  | .same v=>R v s0
  | .val v s'=>R v s'
  | .pan _ _=>False
end
section
variable {E : Env} {fr fr' : Fr} {l l' : Sl} {o : Oper} {n m bd : Nat} {lg lg' : List Nat} {hl hl' : Hl} {all rest : List Oper} {K : Sl → St → Prop} {f : FuncId} {rs : List ResultVar} {R : AV → St → Prop} {ex : Ex}
theorem RunsV.inl {fn : Func} {cb : Code} {args : List AV} {fr0 : Fr} {l0 : Sl} (hm : E.memo f args = none) (hf : E.fns.get f = some fn) (hcb : fn.body = some cb) (hr : fn.results.toList = rs) (hfr : frame fn.ntmps args none = fr0) (hl0 : argsL 0 args [] = l0)
    (h : EvtL E cb fr0 l0 (mkS n n [] hl) (InlQ E f rs (mkS n bd lg hl) R)) : RunsV E f args (mkS n bd lg hl) R :=
  RunsV.gen hm hf hcb hr hfr hl0 (EvtL.mono (s := (mkS n bd lg hl).enter) h fun _ _ _ _ hq => hq)
theorem D4 {c : Call} {args : List AV} {d : Nat} {fn : Func} {cb : Code} {fr0 : Fr} {l0 : Sl} (hf : E.fns.get f = some fn) (hb : hasBody E f = true) (ho : o.op = .call c) (hc : c.callee = .value (.func f)) (ha : opndsL c.args.toList l = some args) (hg : o.guard = none) (hd : o.dst = some d) (hlt : Nat.blt d fr.nt = true)
    (hm : E.memo f args = none) (hcb : fn.body = some cb) (hr : fn.results.toList = rs) (hfr : frame fn.ntmps args none = fr0) (hl0 : argsL 0 args [] = l0)
    (h : EvtL E cb fr0 l0 (mkS n n [] hl) (InlQ E f rs (mkS n bd lg hl) fun v s' => RegL E all rest fr ((d, v) :: l) s' K)) : RegL E all (o :: rest) fr l (mkS n bd lg hl) K :=
  AJ ho hc hb ha hg hd hlt (RunsV.inl hm hf hcb hr hfr hl0 h)
theorem RegL.runV {s : St} {d : Nat} {F : Tr AV → St → Option (FuncId × List AV)} {g : FuncId} {args : List AV} (hop : opC E o.type o.op = .call F) (hF : ∀ T, Has l T → F T s = some (g, args)) (hg : o.guard = none) (hd : o.dst = some d) (hlt : Nat.blt d fr.nt = true)
    (h : RunsV E g args s fun v s' => RegL E all rest fr ((d, v) :: l) s' K) : RegL E all (o :: rest) fr l s K := by
  obtain ⟨N, cr, hr, hm⟩ := h
  refine RegL.opK (fun T hT => ?_) hg hd hlt
  cases cr with
  | same v => exact ⟨v, s, ⟨N, fun n hn k => by
      rw [hop]
      show crOut fr T s (k.run (ev E n) fr T) ((F T s).bind fun p => callF E (ev E n) p.1 p.2 s) = _
      rw [hF T hT]
      simp only [Qe]
      rw [hr n hn]; rfl⟩, hm⟩
  | val v s' => exact ⟨v, s', ⟨N, fun n hn k => by
      rw [hop]
      show crOut fr T s (k.run (ev E n) fr T) ((F T s).bind fun p => callF E (ev E n) p.1 p.2 s) = _
      rw [hF T hT]
      simp only [Qe]
      rw [hr n hn]; rfl⟩, hm⟩
  | pan _ _ => exact hm.elim
theorem RegL.runW {s : St} {d : Nat} {F : Tr AV → Option AV} {A : Tr AV → Option (List AV)} {g : FuncId} {first captured args : List AV} (hop : opC E o.type o.op = .callV F A) (hF : ∀ T, Has l T → F T = some (.func (.func g) first captured)) (hA : ∀ T, Has l T → A T = some args) (hb : hasBody E g = true)
    (hg : o.guard = none) (hd : o.dst = some d) (hlt : Nat.blt d fr.nt = true) (h : RunsV E g (first ++ args ++ captured) s fun v s' => RegL E all rest fr ((d, v) :: l) s' K) : RegL E all (o :: rest) fr l s K := by
  obtain ⟨N, cr, hr, hm⟩ := h
  refine RegL.opK (fun T hT => ?_) hg hd hlt
  have key : ∀ n, N ≤ n → ((F T).bind fun g => (A T).bind fun args => callVF E (ev E n) args s g) = some cr := fun n hn => by
    rw [hF T hT, hA T hT]
    simp only [Qe, callVF, hb, cond_true]
    exact hr n hn
  cases cr with
  | same v => exact ⟨v, s, ⟨N, fun n hn k => by
      rw [hop]
      show crOut fr T s (k.run (ev E n) fr T) ((F T).bind fun g => (A T).bind fun args => callVF E (ev E n) args s g) = _
      rw [key n hn]; rfl⟩, hm⟩
  | val v s' => exact ⟨v, s', ⟨N, fun n hn k => by
      rw [hop]
      show crOut fr T s (k.run (ev E n) fr T) ((F T).bind fun g => (A T).bind fun args => callVF E (ev E n) args s g) = _
      rw [key n hn]; rfl⟩, hm⟩
  | pan _ _ => exact hm.elim
theorem Fk {c : Call} {r : Operand} {name : String} {t : TypeId} {v rv : AV} {rc : Recv} {args : List AV} {d : Nat} {fn : Func} {cb : Code} {fr0 : Fr} {l0 : Sl} (hf : E.fns.get f = some fn) (hme : methodOf E t name = some (f, rc)) (hb : hasBody E f = true) (ho : o.op = .call c) (hc : c.callee = .invoke r name) (ha : opndsL c.args.toList l = some args) (hr0 : opndL r l = some (.iface t v))
    (hv : recvV E (mkS n bd lg hl) v rc = some rv) (hg : o.guard = none) (hd : o.dst = some d) (hlt : Nat.blt d fr.nt = true) (hm : E.memo f (rv :: args) = none) (hcb : fn.body = some cb) (hr : fn.results.toList = rs) (hfr : frame fn.ntmps (rv :: args) none = fr0) (hl0 : argsL 0 (rv :: args) [] = l0)
    (h : EvtL E cb fr0 l0 (mkS n n [] hl) (InlQ E f rs (mkS n bd lg hl) fun v s' => RegL E all rest fr ((d, v) :: l) s' K)) : RegL E all (o :: rest) fr l (mkS n bd lg hl) K := by
  refine RegL.runV (F := fun T s => (opndsC E c.args.toList T).bind fun args => (opnd E r T).bind (invokeV E s name args)) (g := f) (args := rv :: args) ?_ (fun T hT => ?_) hg hd hlt (RunsV.inl hm hf hcb hr hfr hl0 h)
  · rw [ho]
    show callC E o.type c = _
    unfold callC
    rw [hc]
  · simp only [BM hT ha, Ak hT hr0, Qe, invokeV, hme, hb, cond_true, hv]
theorem Fp {vs : List AV} {b : Nat} {lg1 lg2 : List Nat} (hd : fr'.defers = []) (hr : resultsL E (mkS m n (b :: lg1) hl') l' rs = some vs) (hz : E.frz f = 1) (hlg : below bd (b :: lg1) lg = lg2) (h : R (oneA vs) (mkS m bd lg2 hl')) : InlQ E f rs (mkS n bd lg hl) R .ret fr' l' (mkS m n (b :: lg1) hl') := by
 subst hlg
 refine ⟨.inl rfl,mkS m n (b :: lg1) hl',by rw [hd]; rfl,vs,hr,.val (oneA vs) (mkS m bd (below bd (b :: lg1) lg) hl'),?_,h⟩
 unfold leave frozen
 rw [hz]
 rfl
theorem DE {vs : List AV} {w : AV} {ks : List Nat} (hd : fr'.defers = []) (hr : resultsL E (mkS m n [] hl') l' rs = some vs) (hz : E.frz f = 1) (hf : frzV (mkS m n [] hl') n 40 (oneA vs) [] = some (w, ks)) (hks : ks.all (fun b => Nat.ble n b) = true) (hu : underV n 40 w = true)
    (h : R w (mkS n bd lg hl)) : InlQ E f rs (mkS n bd lg hl) R .ret fr' l' (mkS m n [] hl') := by
  refine ⟨.inl rfl, mkS m n [] hl', by rw [hd]; rfl, vs, hr, .same w, ?_, h⟩
  unfold leave frozen
  rw [hz]
  show ((frozenFrom n (oneA vs) (mkS m n [] hl')).bind _) = _
  unfold frozenFrom
  rw [hf]
  simp only [Qe, leaveQ]
  have hk : (kill (mkS m n [] hl') ks).log = [] := kill_log (s := mkS m n [] hl') (ks := ks) fun b hb => Qc (List.all_eq_true.1 hks b hb)
  rw [hk]
  show some (bif underV n 40 w then _ else _) = _
  rw [hu]; rfl
def killH : List Nat → Hl → Hl
 | [],hl=>hl
 | b :: ks,hl=>killH ks ((b,none) :: hl)
theorem Ei {st : St} (h : InlQ E f rs (mkS n bd lg hl) R .ret fr' l' st) : InlQ E f rs (mkS n bd lg hl) R .normal fr' l' st := ⟨.inr rfl,h.2⟩
theorem Ad {a b : Bool} (h : a = b) : oneA [AV.bool a] = AV.bool b := by rw [h]; rfl
end
section
variable {E : Env} {fr : Fr} {l : Sl} {s : St} {o : Oper}
theorem OpL.look {f : Tr AV → St → Option AV} {v : AV} (hop : opC E o.type o.op = .look f) (hv : ∀ T,Has l T → f T s = some v) : OpL E o fr l s v s := fun T hT=>⟨0,fun n _ k=>by
 rw [hop]
 show valOut (fun v=>k.run (ev E n) fr T v s) (f T s) = _
 rw [hv T hT]; rfl⟩
theorem OpQ.same {x : Operand} {v : AV} (hop : opC E o.type o.op = .pure (opnd E x)) (hx : opndL x l = some v) : OpQ E o l v := AI hop fun _ hT=>Ak hT hx
theorem OpQ.pure1 {x : Operand} {g : AV → Option AV} {a v : AV} (hop : opC E o.type o.op = .pure fun T=>(opnd E x T).bind g) (hx : opndL x l = some a) (hv : g a = some v) : OpQ E o l v := AI hop fun T hT=>by rw [Ak hT hx]; exact hv
theorem OpL.read1 {x : Operand} {g : St → AV → Option AV} {a v : AV} (hop : opC E o.type o.op = .read (opnd E x) fun T s=>(opnd E x T).bind (g s)) (hx : opndL x l = some a) (hv : g s a = some v) : OpL E o fr l s v s := fun T hT =>
 OpTo.read hop (by rw [Ak hT hx]; exact hv)
theorem OpQ.makeV {f : Tr AV → Option Mk} {v : AV} (hop : opC E o.type o.op = .make f) (hv : ∀ T,Has l T → f T = some (.val v)) : OpQ E o l v := by
 refine ⟨by rw [hop]; rfl,fun T hT=>⟨by rw [hop]; rfl,fun ev fr s k=>?_⟩⟩
 rw [hop]
 show mkOut s (k.run ev fr T) (f T) = _
 rw [hv T hT]; rfl
theorem AF {x : Operand} {a v : AV} (ho : o.op = .nilCheck x) (hx : opndL x l = some a) (hv : okPtr E a = some v) : OpQ E o l v := OpQ.pure1 (g := okPtr E) (by rw [ho]; rfl) hx hv
theorem OpQ.cap {c : Call} {t e : TypeId} {ts : List TypeId} {x : Operand} {a v : AV} (ho : o.op = .call c) (hc : c.callee = .builtin .cap) (ht : c.argTypes.toList = t :: ts) (ha : c.args.toList = [x]) (hu : und E t = some (.slice e)) (hx : opndL x l = some a) (hv : capV a = some v) : OpQ E o l v :=
 OpQ.pure1 (g := capV) (by
  rw [ho]
  show callC E o.type c = _
  unfold callC
  rw [hc]
  simp only
  rw [ht,ha]
  show capC E t x = _
  unfold capC
  rw [hu]) hx hv
theorem OpL.eqPtr {neg : Bool} {t yt e : TypeId} {k : Nat} {x y : Operand} {a b v : AV} (ho : o.op = .binOp (eqOp neg) t x y yt) (hu : und E t = some (.pointer e)) (hs : sizeOf E e = some (k + 1)) (hx : opndL x l = some a) (hy : opndL y l = some b)
    (hv : boolV neg (eqPtrs s a b) = some v) : OpL E o fr l s v s :=
  OpL.look (f := fun T s => (opnd E x T).bind fun a => (opnd E y T).bind fun b => boolV neg (eqPtrs s a b)) (by
    rw [ho]
    show binC E (eqOp neg) t x y = _
    rw [binC_eq (by rw [hu]; intro k h; cases h) (by rw [hu]; intro h; cases h)]
    unfold eqC
    rw [hu]
    simp only [hs]) fun T hT => by simp only [Ak hT hx, Ak hT hy, Qe, hv]
theorem OpL.toUnsafe {src dst t : TypeId} {k : Nat} {x : Operand} {a v : AV} (ho : o.op = .convert src dst x) (hs : und E src = some (.pointer t)) (hd : und E dst = some .unsafePointer) (hz : sizeOf E t = some (k + 1)) (hx : opndL x l = some a) (hv : Am.toUnsafe s a = some v) : OpL E o fr l s v s :=
 OpL.read1 (g := fun s=>Am.toUnsafe s) (by
  rw [ho]
  show convC E src dst x = _
  unfold convC
  rw [hs,hd]
  simp only [hz]) hx hv
theorem OpL.fromUnsafe {src dst u : TypeId} {k : Nat} {x : Operand} {a v : AV} (ho : o.op = .convert src dst x) (hs : und E src = some .unsafePointer) (hd : und E dst = some (.pointer u)) (hz : sizeOf E u = some (k + 1)) (hx : opndL x l = some a) (hv : Am.fromUnsafe E s u a = some v) : OpL E o fr l s v s :=
 OpL.read1 (g := fun s=>Am.fromUnsafe E s u) (by
  rw [ho]
  show convC E src dst x = _
  unfold convC
  rw [hs,hd]
  simp only [hz]) hx hv
theorem OpL.copy {c : Call} {t e : TypeId} {sz : Nat} {ts : List TypeId} {x y : Operand} {a b v : AV} {p : List AV × Nat} {s' : St} (ho : o.op = .call c) (hc : c.callee = .builtin .copy) (ht : c.argTypes.toList = t :: ts) (ha : c.args.toList = [x, y]) (hu : und E t = some (.slice e)) (hs : sizeOf E e = some sz)
    (hx : opndL x l = some a) (hy : opndL y l = some b) (hp : appendedV s sz b = some p) (hv : copyV s sz p a = some (v, s')) : OpL E o fr l s v s' := fun T hT =>
  OpTo.act (b := false) (x := opnd E x) (f := fun T s => (opnd E x T).bind fun a => (opnd E y T).bind fun b => (appendedV s sz b).bind fun p => copyV s sz p a) (by
    rw [ho]
    show callC E o.type c = _
    unfold callC
    rw [hc]
    simp only
    rw [ht, ha]
    show copyC E t x y = _
    unfold copyC
    rw [hu]
    simp only [hs]) (by simp only [Ak hT hx, Ak hT hy, Qe, hp, hv])
theorem OpL.sliceM {t e : TypeId} {x : Operand} {lo hi : Option Operand} {sz : Nat} {vlo vhi : Option AV} {a v : AV} (ho : o.op = .slice t x lo hi none) (hu : und E t = some (.slice e)) (hs : sizeOf E e = some sz) (hx : opndL x l = some a) (hlo : opndOL lo l = some vlo) (hhi : opndOL hi l = some vhi)
    (hv : sliceSlV s sz vlo vhi none a = some v) : OpL E o fr l s v s := fun T hT =>
  OpTo.read (x := opnd E x) (f := fun T s => (opnd E x T).bind fun a => (opndOC E lo T).bind fun l => (opndOC E hi T).bind fun h => (opndOC E none T).bind fun m => sliceSlV s sz l h m a) (by
    rw [ho]
    show sliceC E t x lo hi none = _
    unfold sliceC
    rw [hu]
    simp only [hs]) (by
    have hm : opndOC E none T = some none := rfl
    simp only [Ak hT hx, opndOL_ok hT hlo, opndOL_ok hT hhi, hm, Qe, hv])
end
theorem Dr : ∀ w : List UInt8,(byteCells w).length = w.length
 | []=>rfl
 | _ :: w=>by show (byteCells w).length + 1 = _; rw [Dr w]; rfl
theorem byteCells_app : ∀ a b : List UInt8,byteCells (a ++ b) = byteCells a ++ byteCells b
 | [],_=>rfl
 | c :: a,b=>by show _ :: byteCells (a ++ b) = _ :: (byteCells a ++ byteCells b); rw [byteCells_app a b]
theorem EJ : ∀ w : List UInt8,bytesOfCells (byteCells w) = some w
 | []=>rfl
 | c :: w=>by
  show (bytesOfCells (byteCells w)).bind _ = _
  rw [EJ w]
  show some (UInt8.ofNat (c.toNat : Int).toNat :: w) = _
  rw [Int.toNat_natCast,UInt8.ofNat_toNat]
theorem mem_logged {b c : Nat} : ∀ {lg : List Nat},c ∈ logged b lg → c ∈ lg ∨ c = b
 | [],h=>.inr (Qp.1 h)
 | d :: lg,h=>by
  change c ∈ (bif Nat.beq b d then d :: lg else b :: d :: lg) at h
  cases hb : Nat.beq b d with
  | true=>rw [hb] at h; exact .inl h
  | false =>
   rw [hb] at h
   rcases Qk.1 h with h | h
   ·exact .inr h
   ·exact .inl h
theorem mem_put {s : St} {b c : Nat} {o : Option AObj} (h : c ∈ (s.put b o).log) : c ∈ s.log ∨ (c = b ∧ c < s.bound) := by
 have h' : c ∈ (bif Nat.blt b s.bound then logged b s.log else s.log) := h
 cases hb : Nat.blt b s.bound with
 | false=>rw [hb] at h'; exact .inl h'
 | true =>
  rw [hb] at h'
  rcases mem_logged h' with h | h
  ·exact .inl h
  ·exact .inr ⟨h,by rw [h]; exact Qc hb⟩
theorem mem_below {n c : Nat} : ∀ {L l : List Nat},c ∈ below n L l → c ∈ l ∨ (c ∈ L ∧ c < n)
 | [],_,h=>.inl h
 | b :: L,l,h=>by
  unfold below at h
  cases hb : Nat.blt b n with
  | true =>
   rw [hb] at h
   rcases Qk.1 h with h | h
   ·exact .inr ⟨by rw [h]; exact Qh ..,by rw [h]; exact Qc hb⟩
   ·exact (mem_below h).imp id fun ⟨h1,h2⟩=>⟨Qg _ h1,h2⟩
  | false =>
   rw [hb] at h
   exact (mem_below h).imp id fun ⟨h1,h2⟩=>⟨Qg _ h1,h2⟩
theorem logged_ne {b : Nat} {lg : List Nat} : logged b lg ≠ [] := by
 cases lg with
 | nil=>exact fun h=>by cases h
 | cons c lg =>
  show (bif Nat.beq b c then c :: lg else b :: c :: lg) ≠ []
  cases Nat.beq b c <;> simp
theorem EA {s : St} {b : Nat} {o : Option AObj} (h : b < s.bound) : (s.put b o).log ≠ [] := by
 show (bif Nat.blt b s.bound then logged b s.log else s.log) ≠ []
 rw [show Nat.blt b s.bound = true from Qd h]
 exact logged_ne
def BufR (s : St) (e : TypeId) (v : AV) (w : List UInt8) : Prop :=
 (v = .nilslice ∧ w = []) ∨ (∃ b,v = .slice b 0 0 1 (some 0) ∧ w = [] ∧ b < s.next ∧ s.heap.get b = some (.cells [] e true)) ∨
  ∃ b,v = .slice b 0 w.length 1 none ∧ w ≠ [] ∧ b < s.next ∧ s.heap.get b = some (.cells (byteCells w) e true)
theorem BufR.keep {s s' : St} {e : TypeId} {v : AV} {w : List UInt8} (h : BufR s e v w) (hn : s.next ≤ s'.next) (hh : ∀ c,ownB c v = true → s'.heap.get c = s.heap.get c) : BufR s' e v w := by
 rcases h with h | ⟨b,rfl,hw,hb,hg⟩ | ⟨b,rfl,hw,hb,hg⟩
 ·exact .inl h
 ·exact .inr (.inl ⟨b,rfl,hw,by omega,(hh b (Nat.beq_refl b)).trans hg⟩)
 ·exact .inr (.inr ⟨b,rfl,hw,by omega,(hh b (Nat.beq_refl b)).trans hg⟩)
theorem BufR.own {s : St} {e : TypeId} {v : AV} {w : List UInt8} (h : BufR s e v w) {c : Nat} (hc : ownB c v = true) : c < s.next := by
 rcases h with ⟨rfl,_⟩ | ⟨b,rfl,_,hb,_⟩ | ⟨b,rfl,_,hb,_⟩
 ·cases hc
 ·have := Qb (show Nat.beq b c = true from hc); omega
 ·have := Qb (show Nat.beq b c = true from hc); omega
theorem BufR.append {s : St} {e : TypeId} {v : AV} {w x : List UInt8} (h : BufR s e v w) (hsm : w.length + x.length ≤ 1099511627776) :
    ∃ v' s', appendTo s e 1 1 (byteCells x) x.length v = some (v', s') ∧ BufR s' e v' (w ++ x) ∧ s.next ≤ s'.next ∧ s'.bound = s.bound ∧ (∀ c, ownB c v' = true → ownB c v = true ∨ c = s.next) ∧
      (∀ c ∈ s'.log, c ∈ s.log ∨ (c < s.bound ∧ ownB c v = true)) ∧ ∀ c, c < s.next → ownB c v = false → s'.heap.get c = s.heap.get c := by
  cases x with
  | nil =>
    refine ⟨v, s, ?_, ?_, Qj _, rfl, fun c hc => .inl hc, fun _ h => .inl h, fun _ _ _ => rfl⟩
    · rcases h with ⟨rfl, _⟩ | ⟨b, rfl, _⟩ | ⟨b, rfl, _⟩ <;> rfl
    · rw [List.append_nil]; exact h
  | cons x0 x =>
    have hk : Nat.beq (x0 :: x).length 0 = false := rfl
    have hle : (x0 :: x).length = x.length + 1 := rfl
    have hsmall : ∀ n : Nat, n ≤ 1099511627776 → small n 1 = true := fun n hn => by
      unfold small
      rw [Nat.mul_one, Qd hn]; rfl
    have hlen : (byteCells (x0 :: x)).length = (x0 :: x).length := Dr _
    rcases h with ⟨rfl, rfl⟩ | ⟨b, rfl, rfl, hb, hg⟩ | ⟨b, rfl, hw, hb, hg⟩
    · refine ⟨.slice s.next 0 (x0 :: x).length 1 none, s.alloc (.cells (byteCells (x0 :: x)) e true), ?_, .inr (.inr ⟨s.next, rfl, by simp, Nat.lt_succ_self _, by show (s.heap.set s.next _).get s.next = _; rw [AC, if_pos rfl]; rfl⟩), Nat.le_succ _, rfl,
        fun c hc => .inr (Qb (show Nat.beq s.next c = true from hc)).symm, fun _ h => .inl h, fun c hc _ => by show (s.heap.set s.next _).get c = _; rw [AC, if_neg (by omega)]⟩
      unfold appendTo
      simp only [hk, hsmall _ (show (x0 :: x).length ≤ _ by simpa using hsm), cond_false, cond_true]
    · have hfit : fitsA 1 0 (x0 :: x).length (some 0) ([] : List AV) = false := by
        show Nat.ble (0 + (x.length + 1)) 0 = false
        rw [Nat.zero_add]; rfl
      refine ⟨.slice s.next 0 (x0 :: x).length 1 none, (s.put b none).alloc (.cells (byteCells (x0 :: x)) e true), ?_, .inr (.inr ⟨s.next, rfl, by simp, Nat.lt_succ_self _, by show ((s.heap.set b none).set s.next _).get s.next = _; rw [AC, if_pos rfl]; rfl⟩), Nat.le_succ _, rfl,
        fun c hc => .inr (Qb (show Nat.beq s.next c = true from hc)).symm, fun c hc => (mem_put (s := s) (b := b) (o := none) hc).imp id fun ⟨h1, h2⟩ => ⟨h2, by rw [h1]; exact Nat.beq_refl b⟩, fun c hc hn => ?_⟩
      · have hd : dropN 0 ([] : List AV) = some [] := rfl
        have ht : takeN (0 * 1) ([] : List AV) = some [] := rfl
        unfold appendTo
        simp only [hk, Nat.beq_refl, hsmall _ (show (x0 :: x).length ≤ _ by simpa using hsm), hg, cond_false, cond_true, Bool.and_self, appendOb, appendIn, hd, hfit, Qe, Bool.true_or, ht, freed, tailO, List.nil_append, Nat.zero_add]
      · have hcb : c ≠ b := fun h => by
          rw [h, show ownB b (.slice b 0 0 1 (some 0)) = true from Nat.beq_refl b] at hn
          cases hn
        show ((s.heap.set b none).set s.next _).get c = _
        rw [AC, if_neg (by omega), AC, if_neg hcb]
    · have hwl : 0 < w.length := by cases w with | nil => exact absurd rfl hw | cons _ _ => simp
      have hbl := Dr w
      have hfit : fitsA 1 w.length (x0 :: x).length none (byteCells w) = false := by
        show Nat.ble ((w.length + (x.length + 1)) * 1) (len' (byteCells w)) = false
        rw [Dg, hbl, Nat.mul_one]
        cases hc : Nat.ble (w.length + (x.length + 1)) w.length with
        | false => rfl
        | true => have := Qc hc; omega
      refine ⟨.slice s.next 0 (w.length + (x0 :: x).length) 1 none, (s.put b none).alloc (.cells (byteCells w ++ byteCells (x0 :: x)) e true), ?_,
        .inr (.inr ⟨s.next, by rw [Qm], by simp, Nat.lt_succ_self _, by show ((s.heap.set b none).set s.next _).get s.next = _; rw [AC, if_pos rfl, byteCells_app]⟩), Nat.le_succ _, rfl,
        fun c hc => .inr (Qb (show Nat.beq s.next c = true from hc)).symm, fun c hc => (mem_put (s := s) (b := b) (o := none) hc).imp id fun ⟨h1, h2⟩ => ⟨h2, by rw [h1]; exact Nat.beq_refl b⟩, fun c hc hn => ?_⟩
      · have hd : dropN 0 (byteCells w) = some (byteCells w) := rfl
        have ht : takeN (w.length * 1) (byteCells w) = some (byteCells w) := by rw [Nat.mul_one, takeN_ok (by omega), List.take_of_length_le (by omega)]
        unfold appendTo
        simp only [hk, Nat.beq_refl, hsmall _ hsm, hg, cond_false, cond_true, Bool.and_self, appendOb, appendIn, hd, hfit, Qe, Bool.true_or, ht, freed, tailO]
      · have hcb : c ≠ b := fun h => by
          rw [h, show ownB b (.slice b 0 w.length 1 none) = true from Nat.beq_refl b] at hn
          cases hn
        show ((s.heap.set b none).set s.next _).get c = _
        rw [AC, if_neg (by omega), AC, if_neg hcb]
theorem BufR.text {E : Env} {s : St} {e : TypeId} {v : AV} {w : List UInt8} (h : BufR s e v w) (hb : isByte E e = true) : ∃ d s', dataV v = some d ∧ rawStrV s E e w.length d = some (.str w, s') ∧ s'.next = s.next ∧ s'.bound = s.bound ∧ (∀ c ∈ s'.log, c ∈ s.log ∨ (c < s.bound ∧ ownB c v = true)) ∧
    (∀ c, ownB c v = false → s'.heap.get c = s.heap.get c) ∧ lenSl v = some (.int .i64 (w.length : Nat)) := by
  rcases h with ⟨rfl, rfl⟩ | ⟨b, rfl, rfl, hbn, hg⟩ | ⟨b, rfl, hw, hbn, hg⟩
  · exact ⟨.junk, s, rfl, rfl, rfl, rfl, fun _ h => .inl h, fun _ _ => rfl, rfl⟩
  · exact ⟨.junk, s, rfl, rfl, rfl, rfl, fun _ h => .inl h, fun _ _ => rfl, rfl⟩
  · obtain ⟨k, hk⟩ : ∃ k, w.length = k + 1 := by cases w with | nil => exact absurd rfl hw | cons _ t => exact ⟨t.length, rfl⟩
    refine ⟨.ptr b 0, s.put b none, by rw [hk]; rfl, ?_, rfl, rfl, fun c hc => (mem_put (s := s) (b := b) (o := none) hc).imp id fun ⟨h1, h2⟩ => ⟨h2, by rw [h1]; exact Nat.beq_refl b⟩, fun c hc => ?_, rfl⟩
    · have hz : Nat.beq w.length 0 = false := by rw [hk]; rfl
      show (bif Nat.beq w.length 0 then _ else rawStrIn s E e b 0 w.length (s.heap.get b)) = _
      rw [hz, hg]
      show (bif Nat.beq e e && isByte E e then (cut (byteCells w) 0 w.length).bind _ else _) = _
      rw [Nat.beq_refl, hb, cut_eq (by rw [Dr]; omega), List.drop_zero, List.take_of_length_le (by rw [Dr]; exact Qj _)]
      simp only [Bool.and_self, cond_true, Qe, EJ]
    · have hcb : c ≠ b := fun h => by
        rw [h, show ownB b (.slice b 0 w.length 1 none) = true from Nat.beq_refl b] at hc
        cases hc
      show (s.heap.set b none).get c = _
      rw [AC, if_neg hcb]
theorem EC {E : Env} {f : FuncId} {v : AV} {s st : St} (hf : E.frz f = 1) (hl : st.log ≠ []) : leave E f s v st = some (.val v (s.back st)) := by
 cases hlog : st.log with
 | nil=>exact absurd hlog hl
 | cons b lg =>
  unfold leave frozen
  rw [hf,hlog]
  simp only [Qe,leaveQ,hlog]
theorem AS {s : St} {b c : Nat} {o : Option AObj} : (s.put b o).heap.get c = if c = b then o else s.heap.get c := AC ..
structure Chg (s s' : St) (own : Nat → Prop) : Prop where
 next : s.next ≤ s'.next
 bound : s'.bound = s.bound
 log : ∀ c ∈ s'.log,c ∈ s.log ∨ (c < s.bound ∧ own c)
 heap : ∀ c,c < s.next → ¬ own c → s'.heap.get c = s.heap.get c
theorem Chg.trans {s s1 s2 : St} {o1 o2 own : Nat → Prop} (h : Chg s s1 o1) (h2 : Chg s1 s2 o2) (e1 : ∀ c,o1 c → own c) (e2 : ∀ c,o2 c → own c ∨ s.next ≤ c) (hb : s.bound ≤ s.next) : Chg s s2 own :=
 ⟨Nat.le_trans h.next h2.next,h2.bound.trans h.bound,fun c hc=>by
  rcases h2.log c hc with hc | ⟨hc,ho⟩
  ·exact (h.log c hc).imp id fun ⟨a,b⟩=>⟨a,e1 _ b⟩
  ·rw [h.bound] at hc
   rcases e2 c ho with ho | ho
   ·exact .inr ⟨hc,ho⟩
   ·omega,fun c hc ho=>by
  have h1 : ¬ o2 c := fun h=>by
   rcases e2 c h with h | h
   ·exact ho h
   ·omega
  exact (h2.heap c (Nat.lt_of_lt_of_le hc h.next) h1).trans (h.heap c hc fun h=>ho (e1 c h))⟩
theorem Chg.back {s st : St} {own : Nat → Prop} (h : Chg s.enter st own) : Chg s (s.back st) own :=
 ⟨h.next,rfl,fun c hc=>by
  rcases mem_below (show c ∈ below s.bound st.log s.log from hc) with hc | ⟨hc,hlt⟩
  ·exact .inl hc
  ·rcases h.log c hc with h | ⟨_,ho⟩
   ·cases h
   ·exact .inr ⟨hlt,ho⟩,h.heap⟩
theorem Chg.put {s : St} {b : Nat} {o : Option AObj} : Chg s (s.put b o) (fun c=>c = b) :=
 ⟨Qj _,rfl,fun c hc=>(mem_put hc).imp id fun ⟨h1,h2⟩=>⟨h2,h1⟩,fun c _ ho=>by rw [AS,if_neg ho]⟩
theorem mem_newL {c : Nat} : ∀ {n b : Nat},c ∈ newL b n → b ≤ c
 | 0,_,h=>by cases h
 | n + 1,b,h=>by
  rcases Qk.1 h with rfl | h
  ·exact Qj _
  ·have := mem_newL h; omega
theorem Chg.merged {st s2 : St} {own : Nat → Prop} (h : Chg (st.sub st.heap) s2 own) : Chg st (st.merged s2) own :=
 ⟨h.next,rfl,fun c hc=>by
  rcases mem_below (show c ∈ below st.bound s2.log st.log from hc) with hc | ⟨hc,hlt⟩
  ·exact .inl hc
  ·rcases h.log c hc with h1 | ⟨_,h1⟩
   ·cases h1
   ·exact .inr ⟨hlt,h1⟩,fun c hc ho=>by
  show (copyAll s2.heap (newL st.next (s2.next - st.next)) (copyAll s2.heap s2.log st.heap)).get c = _
  rw [B8,if_neg (fun hm=>by have := mem_newL hm; omega),B8]
  have := h.heap c hc ho
  by_cases hl : c ∈ s2.log
  ·rw [if_pos hl]; exact this
  ·rw [if_neg hl]⟩
theorem D5 {E : Env} {l : Sl} {o : Oper} {c : Call} {t e : TypeId} {ts : List TypeId} {x : Operand} {a v : AV} (ho : o.op = .call c) (hc : c.callee = .builtin .len) (ht : c.argTypes.toList = t :: ts) (ha : c.args.toList = [x]) (hu : und E t = some (.slice e)) (hx : opndL x l = some a) (hv : Am.lenSl a = some v) : OpQ E o l v :=
 OpQ.pure1 (g := Am.lenSl) (by
  rw [ho]
  show callC E o.type c = _
  unfold callC
  rw [hc]
  simp only
  rw [ht,ha]
  show lenC E t x = _
  unfold lenC
  rw [hu]) hx hv
theorem Chg.refl {s : St} {own : Nat → Prop} : Chg s s own := ⟨Qj _,rfl,fun _ h=>.inl h,fun _ _ _=>rfl⟩
theorem Do {E : Env} {f : FuncId} {v : AV} {s st : St} {R : AV → St → Prop} (hf : E.frz f = 1) (hk : ∀ n w, frzV w n 40 v [] = some (v, [])) (hu : ∀ m, underV m 40 v = true) (h1 : st.log = [] → R v s) (h2 : st.log ≠ [] → R v (s.back st)) :
    ∃ cr, leave E f s v st = some cr ∧ match cr with
      | .same v => R v s
      | .val v s' => R v s'
      | .pan _ _ => False := by
  by_cases hl : st.log = []
  · exact ⟨_, leave_flat hk hu hl, h1 hl⟩
  · exact ⟨_, EC hf hl, h2 hl⟩
theorem clear_ne {anc b c j : Nat} {nl : News} (h : b ≠ c) (hn : clearB anc b nl = true) : clearB anc b ((j,c) :: nl) = true := by
 unfold clearB at hn ⊢
 rw [List.all_cons,hn,Bool.and_true]
 cases hb : Nat.beq c b with
 | false=>rfl
 | true=>exact absurd (Qb hb).symm h
theorem clear_anc {anc b c j : Nat} {nl : News} (h : Nat.testBit anc j = true) (hn : clearB anc b nl = true) : clearB anc b ((j,c) :: nl) = true := by
 unfold clearB at hn ⊢
 rw [List.all_cons,hn,Bool.and_true]
 show (_ || Nat.testBit anc j) = true
 rw [h,Bool.or_true]
theorem mem_logged_self {b : Nat} : ∀ {lg : List Nat},b ∈ logged b lg
 | []=>Qp.2 rfl
 | c :: lg=>by
  show b ∈ (bif Nat.beq b c then c :: lg else b :: c :: lg)
  cases hb : Nat.beq b c with
  | true=>rw [Qb hb]; exact Qh ..
  | false=>exact Qh ..
theorem DA {s : St} {b : Nat} {o : Option AObj} (h : b < s.bound) : b ∈ (s.put b o).log := by
 show b ∈ (bif Nat.blt b s.bound then logged b s.log else s.log)
 rw [show Nat.blt b s.bound = true from Qd h]
 exact mem_logged_self
theorem below_ne {n c : Nat} : ∀ {L l : List Nat},c ∈ L → c < n → below n L l ≠ []
 | b :: L,l,hc,h=>by
  unfold below
  cases hb : Nat.blt b n with
  | true=>simp
  | false =>
   rcases Qk.1 hc with rfl | hc
   ·rw [show Nat.blt c n = true from Qd h] at hb; cases hb
   ·exact below_ne hc h
theorem back_ne {s st : St} {b : Nat} (hb : b ∈ st.log) (h : b < s.bound) : (s.back st).log ≠ [] := below_ne hb h
theorem Af {E : Env} {l : Sl} {o : Oper} {t e : TypeId} {x i : Operand} {sz k : Nat} {ik : IntKind} {a p : AV} (ho : o.op = .indexAddr t x i) (hu : und E t = some (.slice e)) (hs : sizeOf E e = some (sz + 1)) (hx : opndL x l = some a) (hi : opndL i l = some (.int ik (k : Nat))) (hv : idxSliceV (sz + 1) k a = some p) : OpQ E o l p :=
 AI (f := fun T=>(opnd E i T).bind fun iv=>(natOf iv).bind fun k=>(opnd E x T).bind (idxSliceV (sz + 1) k)) (by
  rw [ho]
  show indexAddrC E t x i = _
  unfold indexAddrC
  rw [hu]
  simp only [hs]) fun T hT=>by
  have h1 : natOf (.int ik (k : Nat)) = some k := rfl
  simp only [Ak hT hx,Ak hT hi,Qe,h1,hv]
def StrsR (s : St) (v : AV) (l : List (List UInt8)) : Prop :=
 (v = .nilslice ∧ l = []) ∨ (∃ cl,v = .islice (l.map .str) l.length 1 cl) ∨
  ∃ b off cap cs e part,v = .slice b off l.length 1 cap ∧ b < s.next ∧ s.heap.get b = some (.cells cs e part) ∧ off + l.length ≤ cs.length ∧ (cs.drop off).take l.length = l.map .str ∧ (∀ c,cap = some c → l.length ≤ c)
theorem StrsR.keep {s s' : St} {v : AV} {l : List (List UInt8)} (h : StrsR s v l) (hn : s.next ≤ s'.next) (hh : ∀ c,ownB c v = true → s'.heap.get c = s.heap.get c) : StrsR s' v l := by
 rcases h with h | h | ⟨b,off,cap,cs,e,part,rfl,hb,hg,h1,h2,h3⟩
 ·exact .inl h
 ·exact .inr (.inl h)
 ·exact .inr (.inr ⟨b,off,cap,cs,e,part,rfl,by omega,(hh b (Nat.beq_refl b)).trans hg,h1,h2,h3⟩)
theorem StrsR.own {s : St} {v : AV} {l : List (List UInt8)} (h : StrsR s v l) {c : Nat} (hc : ownB c v = true) : c < s.next := by
 rcases h with ⟨rfl,_⟩ | ⟨_,rfl⟩ | ⟨b,off,cap,cs,e,part,rfl,hb,_⟩
 ·cases hc
 ·cases hc
 ·have := Qb (show Nat.beq b c = true from hc); omega
theorem StrsR.len {s : St} {v : AV} {l : List (List UInt8)} (h : StrsR s v l) : lenSl v = some (.int .i64 (l.length : Nat)) := by
 rcases h with ⟨rfl,rfl⟩ | ⟨_,rfl⟩ | ⟨b,off,cap,cs,e,part,rfl,_⟩ <;> rfl
theorem StrsR.at {E : Env} {s : St} {v : AV} {l : List (List UInt8)} (h : StrsR s v l) {i : Nat} (hi : i < l.length) {t : TypeId} (h1 : isAgg E t = some false) (h2 : sizeOf E t = some 1) : ∃ p,idxSliceV (0 + 1) i v = some p ∧ loadC E t s p = some (.str l[i]) := by
 have hlt : Nat.blt i l.length = true := Qd hi
 have hdrop : (l.map AV.str).drop i = .str l[i] :: (l.map AV.str).drop (i + 1) := by
  rw [List.drop_eq_getElem_cons (by rw [Qn]; exact hi),List.getElem_map]
 rcases h with ⟨rfl,rfl⟩ | ⟨_,rfl⟩ | ⟨b,off,cap,cs,e,part,rfl,hb,hg,hl1,hl2,_⟩
 ·simp at hi
 ·refine ⟨.iptr (.str l[i] :: (l.map AV.str).drop (i + 1)),?_,?_⟩
  ·show (bif Nat.blt i l.length then (dropN (i * (0 + 1)) (l.map AV.str)).bind iptrO else none) = _
   rw [hlt,Nat.zero_add,Nat.mul_one,dropN_ok (by rw [Qn]; omega),hdrop]; rfl
  ·unfold loadC
   simp only [h1,h2]
   rfl
 ·refine ⟨.ptr b (off + i * (0 + 1)),?_,?_⟩
  ·show (bif Nat.blt i l.length then some (AV.ptr b (off + i * (0 + 1))) else none) = _
   rw [hlt]; rfl
  ·refine Al h1 h2 hg ?_
   have : ((cs.drop off).take l.length)[i]? = some (.str l[i]) := by rw [hl2,List.getElem?_map,Qi hi]; rfl
   rw [List.getElem?_take_of_lt hi,List.getElem?_drop] at this
   rw [Nat.zero_add,Nat.mul_one]; exact this
theorem StrsR.tail {s : St} {v : AV} {a b : List UInt8} {l : List (List UInt8)} (h : StrsR s v (a :: b :: l)) : ∃ v',sliceSlV s 1 (some (.int .i64 ((1 : Nat) : Int))) none none v = some v' ∧ StrsR s v' (b :: l) ∧ (∀ c,ownB c v' = true → ownB c v = true) := by
 rcases h with ⟨_,h⟩ | ⟨cl,rfl⟩ | ⟨bk,off,cap,cs,e,part,rfl,hb,hg,hl1,hl2,hcap⟩
 ·cases h
 ·refine ⟨.islice ((b :: l).map .str) (b :: l).length 1 cl,?_,.inr (.inl ⟨cl,rfl⟩),fun c hc=>by cases hc⟩
  have hb1 : boundsA (a :: b :: l).length (a :: b :: l).length none = some (l.length + 2) := rfl
  have hb2 : boundsA 0 (l.length + 2) (some (.int .i64 ((1 : Nat) : Int))) = some 1 := bounds_some (by omega)
  unfold sliceSlV
  simp only [Nat.beq_refl,cond_true,isliceV3,isliceV,hb1,hb2,Qe]
  rw [cut_eq (by simp only [Qn,List.length_cons]; omega)]
  simp only [Qe,List.map_cons]
  rw [show ((AV.str a :: AV.str b :: l.map AV.str).drop (1 * 1)) = AV.str b :: l.map AV.str from rfl,List.take_of_length_le (by simp)]
  rfl
 ·have hlen : (a :: b :: l).length = l.length + 2 := rfl
  have htl : (cs.drop (off + 1)).take (b :: l).length = (b :: l).map .str := by
   have h2 : (cs.drop off).take ((b :: l).length + 1) = .str a :: (b :: l).map .str := hl2
   have h3 := congrArg (List.drop 1) h2
   rw [List.drop_take,List.drop_drop] at h3
   simpa [Nat.add_comm] using h3
  refine ⟨.slice bk (off + 1 * 1) (b :: l).length 1 (cap.map (· - 1)),?_,.inr (.inr ⟨bk,off + 1,cap.map (· - 1),cs,e,part,rfl,hb,hg,by rw [hlen] at hl1; show off + 1 + (l.length + 1) ≤ _; omega,htl,?_⟩),fun c hc=>hc⟩
  ·unfold sliceSlV
   have hcs : cellsOf? (s.heap.get bk) = some cs := by rw [hg]; rfl
   simp only [Nat.beq_refl,cond_true,hcs,Qe,sliceV3]
   have hm : (a :: b :: l).length ≤ mostOf 1 off (a :: b :: l).length cap cs := by
    cases cap with
    | some c=>exact hcap c rfl
    | none =>
     rw [show mostOf 1 off (a :: b :: l).length none cs = (len' cs - off) / 1 from rfl,Dg,Nat.div_one]; omega
   have hb1 : boundsA (a :: b :: l).length (mostOf 1 off (a :: b :: l).length cap cs) none = some (l.length + 2) := rfl
   have hb2 : boundsA 0 (l.length + 2) (some (.int .i64 ((1 : Nat) : Int))) = some 1 := bounds_some (by omega)
   simp only [hb1,hb2,Qe]
   unfold sliceFrom
   cases cap with
   | some c =>
    have hc := hcap c rfl
    have : Nat.beq c 1 = false := by
     cases hb : Nat.beq c 1 with
     | false=>rfl
     | true=>have := Qb hb; rw [hlen] at hc; omega
    simp only [this,cond_false]; rfl
   | none =>
    have : Nat.blt 1 (mostOf 1 off (a :: b :: l).length none cs) = true := Qd (by rw [hlen] at hm ⊢; omega)
    simp only [this,cond_true]; rfl
  ·intro c hc
   cases cap with
   | none=>cases hc
   | some d =>
    have := hcap d rfl
    rw [hlen] at this
    simp only [Option.map_some,Option.some.injEq] at hc
    show l.length + 1 ≤ c
    omega
def joinS (sep : List UInt8) : List (List UInt8) → List UInt8
 | []=>[]
 | a :: l=>a ++ l.flatMap (sep ++ ·)
theorem Ds {E : Env} {fr : Fr} {l : Sl} {s : St} {Q : Ex → Fr → Sl → St → Prop} {a b : Code} (l2 : Sl) (s2 : St) (h1 : EvtL E a fr l s fun ex fr' l' s'=>ex = .normal ∧ fr' = fr ∧ s' = s2 ∧ ∀ p ∈ l2,look p.1 l' = some p.2) (h2 : EvtL E b fr l2 s2 Q) : EvtL E (.seq a b) fr l s Q :=
 Ab (h1.mono fun ex fr' l' s' ⟨e1,e2,e3,e4⟩=>by
  subst e1 e2 e3
  exact EvtL.sub h2 e4)
def SubL : Sl → Sl → Prop
 | [],_=>True
 | p :: r,l=>look p.1 l = some p.2 ∧ SubL r l
theorem Ap {l : Sl} : ∀ {l' : Sl},SubL l' l → ∀ p ∈ l',look p.1 l = some p.2
 | [],_,_,h=>by cases h
 | q :: r,h,p,hp=>by
  rcases Qk.1 hp with rfl | hp
  ·exact h.1
  ·exact Ap h.2 p hp
theorem OpQ.mulN {E : Env} {l : Sl} {o : Oper} {t yt : TypeId} {x y : Operand} {a b : Nat} (ho : o.op = .binOp .mul t x y yt) (hu : und E t = some (.int .i64)) (hx : opndL x l = some (.int .i64 (a : Nat))) (hy : opndL y l = some (.int .i64 (b : Nat)))
    (h : a * b < 9223372036854775808) : OpQ E o l (.int .i64 ((a * b : Nat) : Int)) := by
  have := OpQ.mul (E := E) (l := l) ho hu hx hy (by rw [← Int.natCast_mul]; omega)
  rwa [← Int.natCast_mul] at this
theorem OpQ.quoN {E : Env} {l : Sl} {o : Oper} {t yt : TypeId} {x y : Operand} {a b : Nat} (ho : o.op = .binOp .quo t x y yt) (hu : und E t = some (.int .i64)) (hx : opndL x l = some (.int .i64 (a : Nat))) (hy : opndL y l = some (.int .i64 (b : Nat)))
    (h : 0 < b ∧ a < 9223372036854775808) : OpQ E o l (.int .i64 ((a / b : Nat) : Int)) :=
  DN ho hu rfl hx hy (by
    show quoA .i64 _ _ = _
    have hle : a / b ≤ a := Nat.div_le_self a b
    unfold quoA
    rw [if_neg (by omega), ← Int.ofNat_tdiv]
    generalize a / b = q at hle ⊢
    rw [wrapI_in (by omega) (by omega)])
def idxS (c : UInt8) : List UInt8 → Option Nat
 | []=>none
 | b :: l=>if b = c then some 0 else (idxS c l).map (· + 1)
def idxI (c : UInt8) (w : List UInt8) : Int := match idxS c w with
 | some n=>(n : Int)
 | none=>-1
def tw (p : Int → Bool) (w : List UInt8) : Nat := (w.takeWhile fun b=>p b.toNat).length
theorem tw_le (p : Int → Bool) (w : List UInt8) : tw p w ≤ w.length := (List.takeWhile_sublist _).length_le
theorem tw_step {p : Int → Bool} : ∀ {w : List UInt8} {k : Nat},k ≤ tw p w → k < w.length → (p (w.getD k 0).toNat = true ↔ k < tw p w)
 | b :: w,0,_,_=>by
  cases h : p b.toNat <;> simp [tw,List.takeWhile_cons,h]
 | b :: w,k + 1,hk,hw=>by
  cases h : p b.toNat with
  | false=>simp [tw,List.takeWhile_cons,h] at hk
  | true =>
   have e : tw p (b :: w) = tw p w + 1 := by simp [tw,List.takeWhile_cons,h]
   rw [e] at hk ⊢
   have := tw_step (p := p) (w := w) (k := k) (by omega) (by simpa using hw)
   rw [List.getD_cons_succ,this]; omega
structure Fresh (e : TypeId) (st st1 : St) (cells : List AV) : Prop where
 next : st1.next = st.next + 1
 bound : st1.bound = st.bound
 log : st1.log = st.log
 low : ∀ c,c < st.next → st1.heap.get c = st.heap.get c
 cell : st1.heap.get st.next = some (.cells cells e false)
theorem put_low {s : St} {c : Nat} {o : Option AObj} (h : s.bound = 0) : (s.put c o).log = s.log := by
 show (bif Nat.blt c s.bound then _ else s.log) = _
 rw [h]; rfl
inductive Data (P : Program) : TypeId → List AV → Prop
 | bool {t : TypeId} (h : P.underlying t = some .bool) (b : Bool) : Data P t [.bool b]
 | int {t : TypeId} {k : IntKind} {n : Int} (h : P.underlying t = some (.int k)) (hw : (Lit.int k n).wf = true) : Data P t [.int k n]
 | str {t : TypeId} (h : P.underlying t = some .string) {w : List UInt8} (hw : w.length ≤ maxLen) : Data P t [.str w]
 | sl {t e : TypeId} (h : P.underlying t = some (.slice e)) {ls : List (List AV)} (hn : ls.length ≤ maxLen) (hl : ∀ l ∈ ls,l.length = P.cellsOf e) (hd : ∀ l ∈ ls,Data P e l) : Data P t [.islice ls.flatten ls.length (P.cellsOf e) true]
 | st {t : TypeId} {fs : Array Field} (h : P.underlying t = some (.struct fs)) {ls : List (List AV)} (hl : ls.length = fs.toList.length) (hd : ∀ (i : Nat) f l,fs.toList[i]? = some f → ls[i]? = some l → Data P f.type l) : Data P t ls.flatten
def okLay (P : Program) : Nat → List Field → Option Nat
 | off,[]=>some off
 | off,f :: fs=>bif Nat.beq f.offset off then okLay P (off + P.cellsOf f.type) fs else none
def dataT (P : Program) (ts : List TypeId) (t : TypeId) : Bool :=
 match P.underlying t with
 | some .bool | some (.int _) | some .string=>true
 | some (.slice e)=>ts.contains e
 | some (.struct fs)=>(fs.toList.all fun f=>ts.contains f.type) && (match okLay P 0 fs.toList with | some n=>Nat.beq n (P.cellsOf t) | none=>false)
 | _=>false
def dataB (P : Program) (ts : List TypeId) : Bool := ts.all (dataT P ts)
theorem mapM_all {α β γ : Type} {f : α → Option β} {Q : α → γ → Prop} : ∀ {l : List α} {r : List β},l.mapM f = some r → (∀ x y,x ∈ l → f x = some y → ∃ z,Q x z) → ∃ zs : List γ,zs.length = l.length ∧ ∀ (i : Nat) x z,l[i]? = some x → zs[i]? = some z → Q x z
 | [],_,_,_=>⟨[],rfl,fun i x z h=>by simp at h⟩
 | a :: l,r,h,hq=>by
  simp only [List.mapM_cons] at h
  obtain ⟨y,hy,h⟩ := Qa.1 h
  obtain ⟨ys,hys,h⟩ := Qa.1 h
  obtain ⟨z,hz⟩ := hq a y (Qh ..) hy
  obtain ⟨zs,hl,hzs⟩ := mapM_all hys fun x y hx=>hq x y (Qg _ hx)
  refine ⟨z :: zs,by simp [hl],fun i x z' h1 h2=>?_⟩
  cases i with
  | zero=>simp at h1 h2; subst h1 h2; exact hz
  | succ i=>exact hzs i x z' (by simpa using h1) (by simpa using h2)
theorem choose_list {α γ : Type} {Q : α → γ → Prop} : ∀ {l : List α},(∀ x ∈ l,∃ z,Q x z) → ∃ zs : List γ,zs.length = l.length ∧ ∀ (i : Nat) x z,l[i]? = some x → zs[i]? = some z → Q x z
 | [],_=>⟨[],rfl,fun i x z h=>by simp at h⟩
 | a :: l,hq=>by
  obtain ⟨z,hz⟩ := hq a (Qh ..)
  obtain ⟨zs,hl,hzs⟩ := choose_list fun x hx=>hq x (Qg _ hx)
  refine ⟨z :: zs,by simp [hl],fun i x z' h1 h2=>?_⟩
  cases i with
  | zero=>simp at h1 h2; subst h1 h2; exact hz
  | succ i=>exact hzs i x z' (by simpa using h1) (by simpa using h2)
theorem isAt_app {α : Type} {ms a b : List α} {off : Nat} (h1 : IsAt ms off a) (h2 : IsAt ms (off + a.length) b) : IsAt ms off (a ++ b) := by
 obtain ⟨p,q,e,hp⟩ := h1
 obtain ⟨p2,q2,e2,hp2⟩ := h2
 refine ⟨p,q2,?_,hp⟩
 have : p2 = p ++ a := by
  have h3 : p2.length = (p ++ a).length := by rw [Qm]; omega
  have h4 : p2 ++ (b ++ q2) = (p ++ a) ++ q := by rw [← List.append_assoc,← e2,e]
  exact (List.append_inj h4 h3).1
 rw [e2,this]
 simp [List.append_assoc]
theorem isAt_nil {α : Type} {ms : List α} {off : Nat} (h : off ≤ ms.length) : IsAt ms off ([] : List α) := ⟨ms.take off,ms.drop off,by simp,by simp [h]⟩
section
variable {H : Type} {enc : TypeId × Value → H} {P : Program} {W : World}
theorem chunk_at {a : Addr} {k : Nat} {cs : List Value} (h : W.cells? 0 a k = some cs) (hk : 0 < k) : ∃ ms,(Cx.memory W).M a.block = some ms ∧ a.spot = none ∧ IsAt ms a.off cs ∧ cs.length = k := by
 unfold World.cells? at h
 rw [if_pos (Qo _)] at h
 have hall : ∀ (l : List Nat) (r : List Value),l.mapM (fun i=>W.cell? (a.add i)) = some r → r.length = l.length ∧ ∀ (i x : Nat),l[i]? = some x → W.cell? (a.add x) = r[i]? := by
  intro l
  induction l with
  | nil=>intro r h; simp at h; subst h; exact ⟨rfl,fun i x h=>by simp at h⟩
  | cons b l ih =>
   intro r h
   simp only [List.mapM_cons] at h
   obtain ⟨y,hy,h⟩ := Qa.1 h
   obtain ⟨ys,hys,h⟩ := Qa.1 h
   cases h
   obtain ⟨i1,i2⟩ := ih ys hys
   refine ⟨by simp [i1],fun i x hx=>?_⟩
   cases i with
   | zero=>simp at hx; subst hx; simpa using hy
   | succ i=>simpa using i2 i x (by simpa using hx)
 obtain ⟨hl,hc⟩ := hall _ _ h
 rw [List.length_range] at hl
 have hc' : ∀ i,i < k → W.cell? (a.add i) = cs[i]? := fun i hi=>hc i i (by simp [hi])
 have h0 := hc' 0 hk
 rw [Qi (by omega)] at h0
 unfold World.cell? at h0
 cases hb : W.heap[(a.add 0).block]? with
 | none=>rw [hb] at h0; cases h0
 | some o =>
  rw [hb] at h0
  cases o with
  | cells c e fr =>
   simp only at h0
   have hsp : a.spot = none := by
    cases hs : a.spot with
    | none=>rfl
    | some s =>
     rw [show (a.add 0).spot = a.spot from rfl,hs] at h0
     simp at h0
   obtain ⟨blk,off,sp⟩ := a
   obtain rfl : sp = none := hsp
   have hb' : W.heap[blk]? = some (.cells c e fr) := hb
   refine ⟨c.toList,by simp only [Cx.memory]; rw [hb'],rfl,?_,hl⟩
   have hcell : ∀ i,i < k → c.toList[off + i]? = cs[i]? := fun i hi=>by
    rw [← hc' i hi,Bi]
    unfold World.cell?
    rw [hb']
    simp
   have hlen : off + k ≤ c.toList.length := by
    have h1 := hcell (k - 1) (by omega)
    rw [Qi (l := cs) (by omega)] at h1
    have := (List.getElem?_eq_some_iff.1 h1).1
    omega
   refine ⟨c.toList.take off,c.toList.drop (off + k),?_,by show _ = off; rw [List.length_take]; omega⟩
   have : cs = (c.toList.drop off).take k := by
    apply List.ext_getElem?
    intro i
    rcases Nat.lt_or_ge i k with hi | hi
    ·rw [← hcell i hi,List.getElem?_take,if_pos hi,List.getElem?_drop]
    ·rw [List.getElem?_eq_none (by omega),List.getElem?_eq_none (by rw [List.length_take]; omega)]
   rw [this,List.append_assoc,← List.drop_drop,List.take_append_drop,List.take_append_drop]
  | _=>simp at h0
theorem isAt_flatten {ms : List Value} {k : Nat} : ∀ (css : List (List Value)) (off : Nat),(∀ l ∈ css,l.length = k) → (∀ (i : Nat) l,css[i]? = some l → IsAt ms (off + i * k) l) → off ≤ ms.length → IsAt ms off css.flatten
 | [],off,_,_,h=>isAt_nil h
 | l :: css,off,hl,h,ho=>by
  have h0 := h 0 l rfl
  rw [Nat.zero_mul,Nat.add_zero] at h0
  have hlk := hl l (Qh ..)
  rw [List.flatten_cons]
  refine isAt_app h0 (isAt_flatten css _ (fun x hx=>hl x (Qg _ hx)) (fun i x hx=>?_) ?_)
  ·have := h (i + 1) x (by simpa using hx)
   rwa [hlk,show off + k + i * k = off + (i + 1) * k by rw [Nat.succ_mul]; omega]
  ·obtain ⟨p,q,e,hp⟩ := h0
   rw [e,Qm,Qm]; omega
theorem VRs.flatten {C : Cx} : ∀ {as : List (List AV)} {xs : List (List Value)},as.length = xs.length → (∀ (i : Nat) a x,as[i]? = some a → xs[i]? = some x → VRs C a x) → VRs C as.flatten xs.flatten
 | [],[],_,_=>.nil
 | a :: as,x :: xs,hl,h=>by
  rw [List.flatten_cons,List.flatten_cons]
  exact (h 0 a x rfl rfl).append (VRs.flatten (by simpa using hl) fun i b y h1 h2=>h (i + 1) b y (by simpa using h1) (by simpa using h2))
theorem cells_flatten {as : List (List AV)} (h : ∀ a ∈ as,Cells a) : Cells as.flatten := fun v hv=>by
 obtain ⟨a,ha,hva⟩ := List.mem_flatten.1 hv
 exact h a ha v hva
theorem lay_parts {cs : List Value} : ∀ {fs : List Field} {off n : Nat},okLay P off fs = some n → n = cs.length → off ≤ cs.length → (fs.map fun f=>(cs.drop f.offset).take (P.cellsOf f.type)).flatten = cs.drop off
 | [],off,n,h,hn,_=>by
  cases h
  rw [List.map_nil,List.flatten_nil,hn,List.drop_length]
 | f :: fs,off,n,h,hn,ho=>by
  unfold okLay at h
  cases hb : Nat.beq f.offset off with
  | false=>rw [hb] at h; cases h
  | true =>
   rw [hb,cond_true] at h
   have he : f.offset = off := Qb hb
   have hle : ∀ (fs : List Field) (o n : Nat),okLay P o fs = some n → o ≤ n := by
    intro fs
    induction fs with
    | nil=>intro o n h; cases h; exact Qj _
    | cons g fs ih =>
     intro o n h
     unfold okLay at h
     cases hb : Nat.beq g.offset o with
     | false=>rw [hb] at h; cases h
     | true=>rw [hb,cond_true] at h; have := ih _ _ h; omega
   have := hle _ _ _ h
   rw [List.map_cons,List.flatten_cons,lay_parts h hn (by omega),he,← List.drop_drop,List.take_append_drop]
variable {sp : Nat → Bool} {held : Bool} {ts : List TypeId}
theorem data_of (hts : dataB P ts = true) : ∀ (n : Nat) (t : TypeId) (cs : List Value) (x : DataW H × List MemPlace), t ∈ ts → DataW.trod enc P W 0 sp held n t cs = some x →
    ∃ avs, VRs (Cx.memory W).bare avs cs ∧ Cells avs ∧ Data P t avs
  | 0, _, _, _, _, h => by cases h
  | n + 1, t, cs, x, ht, h => by
    have hd : dataT P ts t = true := List.all_eq_true.1 hts t ht
    unfold dataT at hd
    split at hd
    · next hu =>
      obtain ⟨b, rfl, -⟩ := DataW.trod_bool hu h
      exact ⟨[.bool b], .cons (.bool _) .nil, by intro v hv; simp at hv; subst hv; rfl, .bool hu b⟩
    · next k hu =>
      obtain ⟨z, rfl, -, hw⟩ := DataW.trod_int hu h
      exact ⟨[.int k z], .cons (.int _ _) .nil, by intro v hv; simp at hv; subst hv; rfl, .int hu hw⟩
    · next hu =>
      obtain ⟨s, rfl, -, hs⟩ := DataW.trod_string hu h
      exact ⟨[.str s.data.toList], .cons (.str rfl) .nil, by intro v hv; simp at hv; subst hv; rfl, .str hu (by simpa using hs)⟩
    · next e hu =>
      have he : e ∈ ts := by simpa using hd
      rw [DataW.trod_step] at h
      unfold DataW.trodStep at h
      rw [hu] at h
      split at h <;> first | (cases h; done) | (next heq => cases heq; done) | (next heq _ => cases heq; done) | skip
      · exact ⟨[.islice [] 0 (P.cellsOf e) true], .cons (.islice0 none (Nat.zero_mul _) (Qo _)) .nil, by intro v hv; simp at hv; subst hv; rfl, Data.sl (ls := []) hu (Qo _) (by intro l hl; cases hl) (by intro l hl; cases hl)⟩
      · next e' a len cap heq =>
        cases heq
        simp only at h
        split at h
        · next hg =>
          obtain ⟨elems, hel, -⟩ := Qa.1 h
          obtain ⟨zs, hzl, hz⟩ := mapM_all (γ := List Value × List AV) (Q := fun i z => W.cells? 0 (a.add (i * P.cellsOf e)) (P.cellsOf e) = some z.1 ∧ VRs (Cx.memory W).bare z.2 z.1 ∧ Cells z.2 ∧ Data P e z.2) hel fun i y _ hy => by
            obtain ⟨c0, hc0, hr⟩ := Qa.1 hy
            obtain ⟨avs, h1, h2, h3⟩ := data_of hts n e c0 y he hr
            exact ⟨(c0, avs), hc0, h1, h2, h3⟩
          rw [List.length_range] at hzl
          have hzi : ∀ (i : Nat) z, zs[i]? = some z → i < len ∧ W.cells? 0 (a.add (i * P.cellsOf e)) (P.cellsOf e) = some z.1 ∧ VRs (Cx.memory W).bare z.2 z.1 ∧ Cells z.2 ∧ Data P e z.2 := fun i z hi => by
            have hlt := (List.getElem?_eq_some_iff.1 hi).1
            exact ⟨by omega, hz i i z (by rw [List.getElem?_range (by omega)]) hi⟩
          have hcl : ∀ (i : Nat) z, zs[i]? = some z → z.1.length = P.cellsOf e := fun i z hi => by
            have hc := (hzi i z hi).2.1
            by_cases hk : 0 < P.cellsOf e
            · exact (chunk_at hc hk).choose_spec.2.2.2
            · have h0 : P.cellsOf e = 0 := by omega
              rw [h0] at hc ⊢
              unfold World.cells? at hc
              rw [if_pos (Qo _)] at hc
              simp at hc
              rw [hc]; rfl
          have hvl : ∀ (i : Nat) z, zs[i]? = some z → z.2.length = P.cellsOf e := fun i z hi => by rw [← hcl i z hi, (hzi i z hi).2.2.1.length]
          have hd2 : Data P t [.islice (zs.map (·.2)).flatten (zs.map (·.2)).length (P.cellsOf e) true] := .sl hu (by rw [Qn]; omega) (fun l hl => by
              obtain ⟨z, hz1, rfl⟩ := List.mem_map.1 hl
              obtain ⟨i, hi⟩ := List.mem_iff_getElem?.1 hz1
              exact hvl i z hi) (fun l hl => by
              obtain ⟨z, hz1, rfl⟩ := List.mem_map.1 hl
              obtain ⟨i, hi⟩ := List.mem_iff_getElem?.1 hz1
              exact (hzi i z hi).2.2.2.2)
          have hc2 : Cells (zs.map (·.2)).flatten := cells_flatten fun l hl => by
            obtain ⟨z, hz1, rfl⟩ := List.mem_map.1 hl
            obtain ⟨i, hi⟩ := List.mem_iff_getElem?.1 hz1
            exact (hzi i z hi).2.2.2.1
          refine ⟨_, .cons ?_ .nil, by intro v hv; simp at hv; subst hv; rfl, hd2⟩
          rw [Qn, hzl]
          have hlen : (zs.map (·.2)).flatten.length = len * P.cellsOf e := by
            have : ∀ (l : List (List Value × List AV)), (∀ z ∈ l, z.2.length = P.cellsOf e) → (l.map (·.2)).flatten.length = l.length * P.cellsOf e := by
              intro l
              induction l with
              | nil => intro _; simp
              | cons b l ih =>
                intro hb
                rw [List.map_cons, List.flatten_cons, Qm, ih fun z hz => hb z (Qg _ hz), hb b (Qh ..), List.length_cons, Nat.succ_mul, Nat.add_comm]
            rw [this zs fun z hz1 => by
              obtain ⟨i, hi⟩ := List.mem_iff_getElem?.1 hz1
              exact hvl i z hi, hzl]
          by_cases h0 : len * P.cellsOf e = 0
          · rw [List.eq_nil_of_length_eq_zero (hlen.trans h0)]
            exact .islice0 _ h0 hg.2.1
          · have hk : 0 < P.cellsOf e := Nat.pos_of_ne_zero fun h => h0 (by rw [h, Nat.mul_zero])
            have hl0 : 0 < len := Nat.pos_of_ne_zero fun h => h0 (by rw [h, Nat.zero_mul])
            obtain ⟨z0, hz0⟩ : ∃ z, zs[0]? = some z := ⟨_, Qi (by omega)⟩
            have hc0 := (hzi 0 z0 hz0).2.1
            rw [Nat.zero_mul, show a.add 0 = a from rfl] at hc0
            obtain ⟨ms, hM, hsp, hat0, _⟩ := chunk_at hc0 hk
            obtain ⟨blk, off, spot⟩ := a
            obtain rfl : spot = none := hsp
            have hats : ∀ (i : Nat) l, (zs.map (·.1))[i]? = some l → IsAt ms (off + i * P.cellsOf e) l := fun i l hi => by
              rw [List.getElem?_map] at hi
              obtain ⟨z, hz1, rfl⟩ := Option.map_eq_some_iff.1 hi
              have hc := (hzi i z hz1).2.1
              rw [Bi] at hc
              obtain ⟨ms', hM', _, hat, _⟩ := chunk_at hc hk
              rw [show (⟨blk, off + i * P.cellsOf e, none⟩ : Addr).block = blk from rfl, hM] at hM'
              cases hM'
              exact hat
            refine .islice (vs := (zs.map (·.1)).flatten) (ms := ms) hlen hM ?_ ?_ ?_ hc2 hg.2.1
            · refine isAt_flatten _ _ (fun l hl => ?_) hats ?_
              · obtain ⟨z, hz1, rfl⟩ := List.mem_map.1 hl
                obtain ⟨i, hi⟩ := List.mem_iff_getElem?.1 hz1
                exact hcl i z hi
              · obtain ⟨p, q, e1, hp⟩ := hat0
                rw [e1, Qm, Qm]
                have : p.length = off := hp
                omega
            · refine VRs.flatten (by simp) fun i b y h1 h2 => ?_
              rw [List.getElem?_map] at h1 h2
              obtain ⟨z, hz1, rfl⟩ := Option.map_eq_some_iff.1 h1
              rw [hz1] at h2
              cases h2
              exact (hzi i z hz1).2.2.1
            · intro _
              refine VRs.flatten (by simp) fun i b y h1 h2 => ?_
              rw [List.getElem?_map] at h1 h2
              obtain ⟨z, hz1, rfl⟩ := Option.map_eq_some_iff.1 h1
              rw [hz1] at h2
              cases h2
              exact (hzi i z hz1).2.2.1
        · cases h
    · next fs hu =>
      obtain ⟨xs, m, hm, -, hlen, hxl, hx⟩ := DataW.trod_struct hu h
      obtain rfl : n = m := by omega
      rw [Qf] at hd
      obtain ⟨zs, hzl, hz⟩ := choose_list (γ := List AV) (Q := fun (f : Field) z => VRs (Cx.memory W).bare z ((cs.drop f.offset).take (P.cellsOf f.type)) ∧ Cells z ∧ Data P f.type z) (l := fs.toList) fun f hf => by
        have hft : f.type ∈ ts := by simpa using List.all_eq_true.1 hd.1 f hf
        obtain ⟨i, hi⟩ := List.mem_iff_getElem?.1 hf
        have hi' : fs[i]? = some f := by simpa using hi
        have hlt : i < xs.length := by
          have := (Array.getElem?_eq_some_iff.1 hi').1
          omega
        have := hx i f hi'
        rw [Qi hlt] at this
        exact data_of hts n f.type _ _ hft this
      cases hl : okLay P 0 fs.toList with
      | none => rw [hl] at hd; cases hd.2
      | some m =>
        rw [hl] at hd
        have hm : m = P.cellsOf t := Qb hd.2
        have hp := lay_parts (cs := cs) hl (by omega) (Qo _)
        rw [List.drop_zero] at hp
        refine ⟨zs.flatten, ?_, cells_flatten fun z hz1 => ?_, .st hu hzl fun i f l hf hl2 => (hz i f l hf hl2).2.2⟩
        · rw [← hp]
          refine VRs.flatten (by simpa using hzl) fun i b y h1 h2 => ?_
          rw [List.getElem?_map] at h2
          obtain ⟨f, hf, rfl⟩ := Option.map_eq_some_iff.1 h2
          exact (hz i f b hf h1).1
        · obtain ⟨i, hi⟩ := List.mem_iff_getElem?.1 hz1
          have hlt := (List.getElem?_eq_some_iff.1 hi).1
          exact (hz i _ z (Qi (by omega)) hi).2.1
    · cases hd
theorem arg_struct (hts : dataB P ts = true) {t : TypeId} {fs : Array Field} {v : Value} {d : DataW H} {ps : List MemPlace} {r : Reach} {b0 : Nat} (ht : ts.contains t = true) (hu : P.underlying t = some (.struct fs)) (hv : Value.okWide P W r b0 t v) (h : DataW.Trod enc P W 0 sp held t v d ps) :
    ∃ avs, VR (Cx.memory W) (.agg avs) v ∧ Data P t avs := by
  unfold Value.okWide at hv
  rw [hu] at hv
  obtain ⟨cs, rfl, -, -⟩ := hv
  obtain ⟨n, hn⟩ := h
  obtain ⟨avs, h1, h2, h3⟩ := data_of hts n t _ _ (by simpa using ht) hn
  exact ⟨avs, .agg (h1.mono (Ext.of_bare _)) h2, h3⟩
end
section
variable {E : Env} {fr : Fr} {l : Sl} {s : St} {o : Oper}
theorem OpL.rangeStr {t : TypeId} {x : Operand} {w : List UInt8} (ho : o.op = .range t x) (hu : und E t = some .string) (hx : opndL x l = some (.str w)) : OpL E o fr l s (.ptr s.next 0) (s.alloc (.siter w 0)) := fun T hT =>
 OpTo.make (f := fun T=>(opnd E x T).bind Am.rangeStr) (by
  rw [ho]
  show rangeC E t x = _
  unfold rangeC
  rw [hu]) (by rw [Ak hT hx]; rfl)
theorem nextStr_at {b pos : Nat} {w : List UInt8} (hg : s.heap.get b = some (.siter w pos)) : nextStr s (.ptr b 0) = nextStrIn s b (some (.siter w pos)) := by
 show nextStrIn s b (s.heap.get b) = _
 rw [hg]
theorem OpL.next {it : Operand} {v : AV} {p : AV × St} (ho : o.op = .next it true) (hx : opndL it l = some v) (h : nextStr s v = some p) : OpL E o fr l s p.1 p.2 := fun T hT =>
 OpTo.act (b := true) (x := opnd E it) (f := fun T s=>(opnd E it T).bind (nextStr s)) (by rw [ho]; rfl) (by rw [Ak hT hx,Qe,h])
theorem OpL.nextEnd {it : Operand} {b pos : Nat} {w : List UInt8} (ho : o.op = .next it true) (hx : opndL it l = some (.ptr b 0)) (hg : s.heap.get b = some (.siter w pos)) (hp : pos = w.length) : OpL E o fr l s (.tuple [.bool false]) s := by
 subst hp
 refine OpL.next (p := (.tuple [.bool false],s)) ho hx ?_
 rw [nextStr_at hg]
 show (dropN w.length w).bind _ = _
 rw [show dropN w.length w = some [] by
  have := Eu w ([] : List UInt8)
  rwa [List.append_nil] at this]; rfl
theorem dropN_at {α : Type} {l : List α} {k : Nat} {d : α} (h : k < l.length) : dropN k l = some (l.getD k d :: l.drop (k + 1)) := by
 have h1 : l = l.take k ++ (l.getD k d :: l.drop (k + 1)) := by
  rw [List.getD,Qi h,Option.getD_some,← List.drop_eq_getElem_cons h,List.take_append_drop]
 have h2 : (l.take k).length = k := by rw [List.length_take]; omega
 have := Eu (l.take k) (l.getD k d :: l.drop (k + 1))
 rwa [h2,← h1] at this
theorem OpL.nextOne {it : Operand} {b pos : Nat} {w : List UInt8} (ho : o.op = .next it true) (hx : opndL it l = some (.ptr b 0)) (hg : s.heap.get b = some (.siter w pos)) (hp : pos < w.length) (hc : (w.getD pos 0).toNat < 128) :
    OpL E o fr l s (.tuple [.bool true, .int .i64 (pos : Nat), .int .i32 ((w.getD pos 0).toNat : Nat)]) (s.put b (some (.siter w (pos + 1)))) := by
  refine OpL.next (p := (.tuple [.bool true, .int .i64 (pos : Nat), .int .i32 ((w.getD pos 0).toNat : Nat)], s.put b (some (.siter w (pos + 1))))) ho hx ?_
  rw [nextStr_at hg]
  show (dropN pos w).bind _ = _
  rw [dropN_at (d := 0) hp]
  show (bif Nat.blt (w.getD pos 0).toNat 128 then _ else _) = _
  rw [show Nat.blt (w.getD pos 0).toNat 128 = true from Qd hc]; rfl
theorem decode_wide {s : ByteArray} {i : Nat} (h : 128 ≤ (s.get! (i + 0)).toNat) : 128 ≤ (Utf8.decode s i).1 := by
 unfold Utf8.decode
 simp only
 rw [if_neg (by omega)]
 have hr : 128 ≤ Utf8.runeError := by decide
 split
 ·split
  ·next h=>exact h
  ·exact hr
 ·split
  ·split
   ·next h=>rw [Qf,decide_eq_true_eq] at h; have := h.1; show 128 ≤ _; omega
   ·exact hr
  ·split
   ·split
    ·next h=>rw [Qf,decide_eq_true_eq] at h; have := h.1; show 128 ≤ _; omega
    ·exact hr
   ·exact hr
theorem OpL.nextWide {b pos : Nat} {w : List UInt8} (hg : s.heap.get b = some (.siter w pos)) (hp : pos < w.length) (hc : ¬ (w.getD pos 0).toNat < 128) :
    ∃ r d : Nat, 128 ≤ r ∧ ∀ {E : Env} {fr : Fr} {l : Sl} {o : Oper} {it : Operand}, o.op = .next it true → opndL it l = some (.ptr b 0) → OpL E o fr l s (.tuple [.bool true, .int .i64 (pos : Nat), .int .i32 (r : Nat)]) (s.put b (some (.siter w (pos + d)))) := by
  refine ⟨(Utf8.decode ⟨w.toArray⟩ pos).1, (Utf8.decode ⟨w.toArray⟩ pos).2, decode_wide ?_, fun ho hx => ?_⟩
  · have : (ByteArray.mk w.toArray).get! (pos + 0) = w.getD pos 0 := by
      show (w.toArray)[pos + 0]! = _
      simp [List.getD, hp]
    rw [this]; omega
  refine OpL.next (p := (.tuple [.bool true, .int .i64 (pos : Nat), .int .i32 ((Utf8.decode ⟨w.toArray⟩ pos).1 : Nat)], s.put b (some (.siter w (pos + (Utf8.decode ⟨w.toArray⟩ pos).2))))) ho hx ?_
  rw [nextStr_at hg]
  show (dropN pos w).bind _ = _
  rw [dropN_at (d := 0) hp]
  show (bif Nat.blt (w.getD pos 0).toNat 128 then _ else _) = _
  rw [show Nat.blt (w.getD pos 0).toNat 128 = false by
    cases hb : Nat.blt (w.getD pos 0).toNat 128 with
    | false => rfl
    | true => exact absurd (Qc hb) (by omega)]; rfl
theorem OpL.rangeStrS {n bd : Nat} {lg : List Nat} {hl : Hl} {t : TypeId} {x : Operand} {w : List UInt8} (m : Nat) (ho : o.op = .range t x) (hu : und E t = some .string) (hx : opndL x l = some (.str w)) (hm : n + 1 = m) : OpL E o fr l (mkS n bd lg hl) (.ptr n 0) (mkS m bd lg ((n,some (.siter w 0)) :: hl)) := by
 subst hm
 exact OpL.rangeStr ho hu hx
end
def recs {α : Type} (enc : α → List AV) (k : Nat) (l : List α) : AV := .islice (l.flatMap enc) l.length k true
theorem Fa {α : Type} {enc : α → List AV} {k : Nat} (h : ∀ a,(enc a).length = k) : ∀ l : List α,(l.flatMap enc).length = l.length * k
 | []=>(Nat.zero_mul k).symm
 | a :: l=>by rw [List.flatMap_cons,Qm,Fa h l,h a,List.length_cons,Nat.succ_mul,Nat.add_comm]
theorem flat_drop {α : Type} {enc : α → List AV} {k : Nat} (h : ∀ a,(enc a).length = k) : ∀ {l : List α} {i : Nat} (hi : i < l.length),(l.flatMap enc).drop (i * k) = enc l[i] ++ (l.drop (i + 1)).flatMap enc
 | a :: l,0,_=>by rw [Nat.zero_mul,List.drop_zero]; rfl
 | a :: l,i + 1,hi=>by
  have ih := flat_drop h (l := l) (i := i) (by simpa using hi)
  rw [List.flatMap_cons,show (i + 1) * k = (enc a).length + i * k by rw [h a,Nat.succ_mul,Nat.add_comm],List.drop_length_add_append,ih]
  rfl
theorem A1 {α : Type} {enc : α → List AV} {k : Nat} (h : ∀ a,(enc a).length = k + 1) {l : List α} {i : Nat} (hi : i < l.length) : idxSliceV (k + 1) i (recs enc (k + 1) l) = some (.iptr (enc l[i] ++ (l.drop (i + 1)).flatMap enc)) := by
 unfold recs idxSliceV
 simp only [show Nat.blt i l.length = true from Qd hi,cond_true]
 have hlt : i * (k + 1) < (l.flatMap enc).length := by rw [Fa h]; exact Nat.mul_lt_mul_of_pos_right hi (Nat.succ_pos k)
 have hd := flat_drop h hi
 have h1 : dropN (i * (k + 1)) (l.flatMap enc) = some ((l.flatMap enc).drop (i * (k + 1))) := by
  have := Eu ((l.flatMap enc).take (i * (k + 1))) ((l.flatMap enc).drop (i * (k + 1)))
  rwa [List.take_append_drop,List.length_take,Nat.min_eq_left (by omega)] at this
 rw [h1,hd,Qe]
 cases he : enc l[i] with
 | nil=>have := h l[i]; rw [he] at this; cases this
 | cons c cs=>rfl
theorem StrsR.at2 {E : Env} {s : St} {v : AV} {l : List (List UInt8)} (h : StrsR s v l) {i : Nat} (hi : i < l.length) {t : TypeId} (h1 : isAgg E t = some false) (h2 : sizeOf E t = some 1) :
    (∃ rest, idxSliceV (0 + 1) i v = some (.iptr (.str l[i] :: rest))) ∨ ∃ b off, idxSliceV (0 + 1) i v = some (.ptr b off) ∧ loadC E t s (.ptr b off) = some (.str l[i]) := by
  obtain ⟨p, hp, hl⟩ := h.at hi h1 h2
  rcases h with ⟨rfl, rfl⟩ | ⟨cl, rfl⟩ | ⟨b, off, cap, cs, e, part, rfl, hb, hg, hc⟩
  · simp at hi
  · refine .inl ⟨(l.map AV.str).drop (i + 1), ?_⟩
    unfold idxSliceV
    simp only [show Nat.blt i l.length = true from Qd hi, cond_true]
    rw [show i * (0 + 1) = i by omega]
    have h' : i < (l.map AV.str).length := by rw [Qn]; exact hi
    have h1 := dropN_at (d := AV.junk) h'
    rw [h1, List.getD, Qi h', Option.getD_some, List.getElem_map]
    rfl
  · unfold idxSliceV at hp
    simp only [show Nat.blt i l.length = true from Qd hi, cond_true] at hp
    cases hp
    refine .inr ⟨b, off + i * (0 + 1), ?_, hl⟩
    unfold idxSliceV
    simp only [show Nat.blt i l.length = true from Qd hi, cond_true]
section
variable {E : Env} {fr : Fr} {l : Sl} {o : Oper} {all rest : List Oper} {i : Nat} {js : List Nat} {nl : News} {K : Sl → St → Prop} {st : St} {od : Option Nat}
theorem RegN.append {c : Call} {t e : TypeId} {ts : List TypeId} {x y : Operand} {sz by_ n : Nat} {z a b v : AV} {new : List AV} {s2 : St} (ho : o.op = .call c) (hc : c.callee = .builtin .append) (ht : c.argTypes.toList = t :: ts) (ha : c.args.toList = [x, y])
    (hu : und E t = some (.slice e)) (hsz : sizeOf E e = some sz) (hby : bytesOf E e = some by_) (hz : zeroOf E e = some z) (hk : (!(Nat.beq (len' z.cells) sz) || Nat.beq sz 0 || !(knownT E ts.head?)) = false) (h0 : isZeros E ts.head? = false)
    (hx : opndL x (restr (tmpsOf o.op.operands.toList) l) = some a) (hy : opndL y (restr (tmpsOf o.op.operands.toList) l) = some b) (hn : appendedV (st.sub st.heap) sz b = some (new, n)) (hr : appendTo (st.sub st.heap) e sz by_ new n a = some (v, s2))
    (hnx : st.next ≤ s2.next) (hlog : ∀ b ∈ s2.log, b < st.next ∧ clearB (ancOf all i) b nl = true) (hjs : seenB (ancOf all i) js = true) (hnl : (nl.all fun p => Nat.testBit (ancOf all i) p.1) = true)
    (hg : GuardOn all l o) (hd : o.dst = od) (hlt : dstOk fr.nt od = true)
    (h : RegN E all rest (i + 1) fr (putL od v l) (st.merged s2) (i :: js) (tagL i (tagL i nl (newL st.next (s2.next - st.next))) s2.log) K) : RegN E all (o :: rest) i fr l st js nl K :=
  RegN.act (x := opnd E x) (f := fun T s => (opnd E x T).bind fun a => (opnd E y T).bind fun b => (appendedV s sz b).bind fun p => appendTo s e sz by_ p.1 p.2 a) (by
    rw [ho]
    show callC E o.type c = _
    unfold callC
    rw [hc]
    simp only
    rw [ht, ha]
    show appendC E t ts.head? x y = _
    unfold appendC
    rw [hu]
    simp only [hsz, hby, hz, hk, h0, cond_false]) (OpL.append ho hc ht ha hu hsz hby hz hk h0 hx hy hn hr) hnx hlog hjs hnl hg hd hlt h
end
theorem fresh_append {st : St} {e : TypeId} {by_ : Nat} {new : List AV} (hs : small new.length by_ = true) (hb : st.bound = 0) :
    ∃ v' s2, appendTo (st.sub st.heap) e 1 by_ new new.length .nilslice = some (v', s2) ∧ st.next ≤ s2.next ∧ s2.next ≤ st.next + 1 ∧ s2.log = [] ∧ Grown (st.merged s2) e 1 v' new new.length ∧ (∀ c, ownB c v' = true → c = st.next) ∧
      (∀ c, c < st.next → (st.merged s2).heap.get c = st.heap.get c) ∧ (st.merged s2).log = st.log ∧ (st.merged s2).bound = 0 := by
  cases hn : new with
  | nil =>
    refine ⟨.nilslice, st.sub st.heap, rfl, Qj _, Nat.le_succ _, rfl, .inl ⟨rfl, rfl, rfl⟩, (fun c hc => by cases hc), fun c hc => ?_, ?_, hb⟩
    · show (copyAll _ (newL st.next (st.next - st.next)) st.heap).get c = _
      rw [Nat.sub_self]; rfl
    · show below st.bound [] st.log = _
      rfl
  | cons a l =>
    rw [hn] at hs
    have hm : ((st.sub st.heap).alloc (.cells (a :: l) e true)).next = st.next + 1 := rfl
    refine ⟨.slice st.next 0 (a :: l).length 1 none, (st.sub st.heap).alloc (.cells (a :: l) e true), ?_, Nat.le_succ _, Qj _, rfl, .inr ⟨st.next, rfl, Nat.lt_succ_self _, ?_, by omega, by simp⟩, fun c hc => (Qb hc).symm, fun c hc => ?_, rfl, hb⟩
    · unfold appendTo
      rw [hs]; rfl
    · rw [merged_get hm, if_pos (.inl rfl)]
      show (st.heap.set st.next _).get st.next = _
      rw [AC, if_pos rfl]
    · rw [merged_get hm, if_neg (by
        rintro (h | h)
        · omega
        · cases h)]
theorem StrsR.appended {s : St} {v : AV} {l : List (List UInt8)} (h : StrsR s v l) : appendedV s 1 v = some (l.map .str,l.length) := by
 rcases h with ⟨rfl,rfl⟩ | ⟨cl,rfl⟩ | ⟨b,off,cap,cs,e,part,rfl,hb,hg,hl1,hl2,_⟩
 ·rfl
 ·show (takeN (l.length * 1) (l.map AV.str)).bind _ = _
  have h1 := takeN_all (l.map AV.str)
  rw [Qn] at h1
  rw [Nat.mul_one,h1]; rfl
 ·show (cellsOf? (s.heap.get b)).bind _ = _
  rw [hg]
  show (dropN off cs).bind _ = _
  rw [dropN_ok (by omega),Qe]
  have h1 := takeN_append ((cs.drop off).take l.length) ((cs.drop off).drop l.length)
  rw [List.take_append_drop,hl2,Qn] at h1
  rw [Nat.mul_one,h1]; rfl
section
variable {E : Env} {fr : Fr} {l : Sl} {o : Oper} {all rest : List Oper} {i : Nat} {js : List Nat} {nl : News} {K : Sl → St → Prop} {st : St} {od : Option Nat}
theorem Bx {t e : TypeId} {len sz : Nat} {parts : Array (Nat × Operand)} {z : AV} {ps : List (Nat × AV)} {cs : List AV} (ho : o.op = .buildSlice t (len + 1) parts) (hu : und E t = some (.slice e)) (hs : sizeOf E e = some sz) (hz : zeroOf E e = some z)
    (hk : (Nat.beq (len' z.cells) sz && Nat.ble ((len + 1) * sz) 16777216 && !(Nat.beq sz 0)) = true) (hq : partsL parts.toList (restr (tmpsOf o.op.operands.toList) l) = some ps) (hf : fillA (fun i => some (i * sz, sz)) ps (repeatA z.cells (len + 1)) = some cs)
    (hg : GuardOn all l o) (hd : o.dst = od) (hlt : dstOk fr.nt od = true)
    (h : RegN E all rest (i + 1) fr (putL od (.slice st.next 0 (len + 1) sz (some (len + 1))) l) (st.alloc (.cells cs e false)) js ((i, st.next) :: nl) K) : RegN E all (o :: rest) i fr l st js nl K :=
  RegN.make (f := fun T => (partsC E parts.toList T).bind fun ps => buildSliceV e sz (len + 1) (fillA (fun i => some (i * sz, sz)) ps (repeatA z.cells (len + 1)))) (g := fun b => .slice b 0 (len + 1) sz (some (len + 1))) (by
    rw [ho]
    show buildSliceC E t (len + 1) parts.toList = _
    unfold buildSliceC
    rw [hu]
    simp only [hs, hz, hk, cond_true]) (fun T hT => by
    simp only [partsL_ok hT hq, Qe, hf]
    rfl) hg hd hlt h
end
theorem clear_all {anc b : Nat} : ∀ {nl : News},(nl.all fun p=>Nat.testBit anc p.1) = true → clearB anc b nl = true
 | [],_=>rfl
 | (j,c) :: nl,h=>by
  rw [List.all_cons,Qf] at h
  exact clear_anc h.1 (clear_all h.2)
theorem small_ok {n k : Nat} (h : n * (k + 1) ≤ 1099511627776) (hk : k + 1 ≤ 1048576) : small n (k + 1) = true := by
 have : n ≤ n * (k + 1) := Nat.le_mul_of_pos_right _ (Nat.succ_pos k)
 unfold small
 rw [Qd h,Qd (show n ≤ 1099511627776 by omega),Qd hk]
 rfl
theorem Grown.strs {s : St} {e : TypeId} {v : AV} {l : List (List UInt8)} {n : Nat} (h : Grown s e 1 v (l.map .str) n) (hn : n = l.length) : StrsR s v l := by
 subst hn
 rcases h with ⟨rfl,h0,hc⟩ | ⟨b,rfl,hb,hg,hl,h0⟩
 ·exact .inl ⟨rfl,by simpa using hc⟩
 ·exact .inr (.inr ⟨b,0,none,_,_,_,rfl,hb,hg,by rw [Qn]; omega,by rw [List.drop_zero,List.take_of_length_le (by rw [Qn]; exact Qj _)],fun c hc=>by cases hc⟩)
theorem tag_all {anc i : Nat} {nl : News} (hi : Nat.testBit anc i = true) (h : (nl.all fun p=>Nat.testBit anc p.1) = true) : ∀ L : List Nat,((tagL i nl L).all fun p=>Nat.testBit anc p.1) = true
 | []=>h
 | b :: L=>by
  show (Nat.testBit anc i && _) = true
  rw [hi,tag_all hi h L]; rfl
theorem cons_all {anc i b : Nat} {nl : News} (hi : Nat.testBit anc i = true) (h : (nl.all fun p=>Nat.testBit anc p.1) = true) : (((i,b) :: nl).all fun p=>Nat.testBit anc p.1) = true := by
 rw [List.all_cons,h,hi]; rfl
section
variable {E : Env} {fr : Fr} {l : Sl} {s : St} {all rest : List Oper} {o : Oper}
theorem Fj {K : Sl → St → Prop} {j e : Nat} {w b : Bool} {oj : Oper} (hg : o.guard = some (j, w)) (hj : nth all j = some oj) (he : oj.dst = some e) (hl : look e l = some (.bool b)) (hb : b = w)
    (h : RegL E all ({ o with guard := none } :: rest) fr l s K) : RegL E all (o :: rest) fr l s K := by
  intro T hT
  obtain ⟨M, l', T', s2, hk, hT', hr⟩ := h T hT
  refine ⟨M, l', T', s2, hk, hT', fun n hn => ?_⟩
  have hr := hr n hn
  have hr' : (oneC E all { o with guard := none } (thenK o.dst (runC E all rest))).run (ev E n) fr T s = _ := hr
  show (oneC E all o (thenK o.dst (runC E all rest))).run (ev E n) fr T s = _
  unfold oneC guarded at hr' ⊢
  rw [hg]
  simp only at hr' ⊢
  rw [wanted_go (g := (j, w)) hj he (hT e _ hl)]
  have : (bif w then b else !b) = true := by rw [hb]; cases w <;> rfl
  rw [this]
  simp only [guardOut, cond_true]
  exact hr'
theorem get_allocS {st : St} {ob : AObj} {c : Nat} : (st.alloc ob).heap.get c = if c = st.next then some ob else st.heap.get c := AC ..
theorem DX {st : St} {ob : AObj} : (st.alloc ob).heap.get st.next = some ob := by rw [get_allocS,if_pos rfl]
theorem Bk {st : St} {ob : AObj} {c : Nat} (h : c < st.next) : (st.alloc ob).heap.get c = st.heap.get c := by rw [get_allocS,if_neg (Nat.ne_of_lt h)]
theorem Chg.alloc {st : St} {ob : AObj} {own : Nat → Prop} : Chg st (st.alloc ob) own :=
 ⟨Nat.le_succ _,rfl,fun _ h=>.inl h,fun _ hc _=>Bk hc⟩
def entsN : Nat → List (List UInt8) → List Ent
 | _,[]=>[]
 | k,w :: l=>(.str w,.bool true,k) :: entsN (k + 1) l
theorem entsN_app : ∀ (k : Nat) (l : List (List UInt8)) (w : List UInt8),entsN k (l ++ [w]) = entsN k l ++ [(.str w,.bool true,k + l.length)]
 | _,[],_=>rfl
 | k,a :: l,w=>by
  show (AV.str a,AV.bool true,k) :: entsN (k + 1) (l ++ [w]) = _
  rw [entsN_app (k + 1) l w]
  show _ = (AV.str a,AV.bool true,k) :: (entsN (k + 1) l ++ [(.str w,.bool true,k + (l.length + 1))])
  rw [show k + 1 + l.length = k + (l.length + 1) by omega]
theorem entsN_find (w : List UInt8) : ∀ (k : Nat) (l : List (List UInt8)),∃ r,findT (.one .string) (.str w) (entsN k l) = some r ∧ (r = none ↔ l.contains w = false) ∧ foundV false (.bool false) r = .bool (l.contains w)
 | _,[]=>⟨none,rfl,⟨fun _=>rfl,fun _=>rfl⟩,rfl⟩
 | k,a :: l=>by
  obtain ⟨r,h1,h2,h3⟩ := entsN_find w (k + 1) l
  by_cases ha : w = a
  ·subst ha
   refine ⟨some (.str w,.bool true,k),?_,?_,?_⟩
   ·show (some (bytesEq w w)).bind _ = _
    rw [Bc,decide_eq_true rfl,Qe,h1]; rfl
   ·simp
   ·simp [foundV]
  ·refine ⟨r,?_,?_,?_⟩
   ·show (some (bytesEq w a)).bind _ = _
    rw [Bc,decide_eq_false ha,Qe,h1]; rfl
   ·rw [h2]; simp [ha]
   ·rw [h3]; simp [ha]
theorem entsN_lookup {st : St} {b : Nat} {l : List (List UInt8)} {w : List UInt8} {clock : Nat} (hg : st.heap.get b = some (.map (entsN 0 l) clock)) : lookupV (.one .string) st false (.bool false) (.map b) (.str w) = some (.bool (l.contains w)) := by
 obtain ⟨r,h1,_,h3⟩ := entsN_find w 0 l
 show ((mapOf? (st.heap.get b)).bind fun es=>(findT _ _ es).bind fun r=>some (foundV false (.bool false) r)) = _
 rw [hg]
 show (findT _ _ (entsN 0 l)).bind _ = _
 rw [h1,Qe,h3]
theorem entsN_put {st : St} {b : Nat} {l : List (List UInt8)} {w : List UInt8} (hg : st.heap.get b = some (.map (entsN 0 l) l.length)) :
    ∃ ob, mapSetV (.one .string) st (.str w) (.bool true) (.map b) = some (st.put b (some ob)) ∧ (l.contains w = false → ob = .map (entsN 0 (l ++ [w])) (l ++ [w]).length) := by
  obtain ⟨r, h1, h2, h3⟩ := entsN_find w 0 l
  cases r with
  | none =>
    refine ⟨_, ?_, fun _ => rfl⟩
    show mapSetIn (.one .string) st b (.str w) (.bool true) (st.heap.get b) = _
    rw [hg]
    show (findT _ _ (entsN 0 l)).bind _ = _
    rw [h1, Qe]
    show some (st.put b (some (.map (entsN 0 l ++ [(.str w, .bool true, l.length)]) (l.length + 1)))) = _
    rw [entsN_app, Nat.zero_add, Qm]; rfl
  | some e =>
    refine ⟨.map (updA (.one .string) (.str w) (.bool true) (entsN 0 l)) l.length, ?_, fun h => ?_⟩
    · show mapSetIn (.one .string) st b (.str w) (.bool true) (st.heap.get b) = _
      rw [hg]
      show (findT _ _ (entsN 0 l)).bind _ = _
      rw [h1]; rfl
    · exact absurd (h2.2 h) (by simp)
end
section
variable {E : Env} {fr : Fr} {l : Sl} {s : St} {all rest : List Oper} {o : Oper} {K : Sl → St → Prop}
theorem RegL.callVal {c : Call} {t f : Nat} {first captured args xs : List AV} {d : Nat} (hb : hasBody E f = true) (ho : o.op = .call c) (hc : c.callee = .value (.tmp t)) (hv : look t l = some (.func (.func f) first captured)) (ha : opndsL c.args.toList l = some args) (hg : o.guard = none) (hd : o.dst = some d)
    (hlt : Nat.blt d fr.nt = true) (hx : first ++ args ++ captured = xs) (h : RunsV E f xs s fun v s' => RegL E all rest fr ((d, v) :: l) s' K) : RegL E all (o :: rest) fr l s K := by
  subst hx
  refine RegL.runW (F := opnd E (.tmp t)) (A := opndsC E c.args.toList) ?_ (fun T hT => hT t _ hv) (fun T hT => BM hT ha) hb hg hd hlt h
  rw [ho]
  show callC E o.type c = _
  unfold callC
  rw [hc]
end
theorem BB {E : Env} {l : Sl} {o : Oper} {t e : TypeId} {x i : Operand} {sz : Nat} {z : Int} {ik : IntKind} {a p : AV} (ho : o.op = .indexAddr t x i) (hu : und E t = some (.slice e)) (hs : sizeOf E e = some (sz + 1)) (hx : opndL x l = some a) (hi : opndL i l = some (.int ik z)) (hz : 0 ≤ z) (hp : idxSliceV (sz + 1) z.toNat a = some p) : OpQ E o l p :=
 Af (k := z.toNat) ho hu hs hx (by rw [hi,Int.toNat_of_nonneg hz]) hp
section
variable {E : Env} {fr : Fr} {l : Sl} {st : St} {o : Oper} {all rest : List Oper} {i : Nat} {js : List Nat} {nl : News} {K : Sl → St → Prop} {od : Option Nat}
theorem RegN.look {v : AV} (hq : quietSo (opC E o.type o.op) = true) (htch : ∀ T, Has (restr (tmpsOf o.op.operands.toList) l) T → touchOf (opC E o.type o.op) T = .all)
    (ho : OpL E o fr (restr (tmpsOf o.op.operands.toList) l) (st.sub st.heap) v (st.sub st.heap)) (hnl : (nl.all fun p => Nat.testBit (ancOf all i) p.1) = true) (hg : GuardOn all l o) (hd : o.dst = od) (hlt : dstOk fr.nt od = true)
    (h : RegN E all rest (i + 1) fr (putL od v l) st (i :: js) nl K) : RegN E all (o :: rest) i fr l st js nl K := by
  refine RegN.gen hq (fun T news hn hT => ⟨.inl (Qh ..), ?_⟩) (fun j hj => Qg _ hj) hg hd hlt h
  rw [htch T hT]
  have : subHeap (ancOf all i) news st.heap .all = st.heap := hide_clear hnl hn
  rw [this]
  exact alone_of (ho T hT)
end
theorem appended_new {s : St} {b sz : Nat} {new : List AV} {e : TypeId} {part : Bool} {cap : Option Nat} (hg : s.heap.get b = some (.cells new e part)) (hnew : new.length = sz) : appendedV s sz (.slice b 0 1 sz cap) = some (new,1) := by
 show (bif Nat.beq sz sz then (cellsOf? (s.heap.get b)).bind fun cs=>(dropN 0 cs).bind fun l=>(takeN (1 * sz) l).bind fun l=>some (l,1) else none) = _
 rw [Nat.beq_refl,hg]
 show (takeN (1 * sz) new).bind _ = _
 rw [Nat.one_mul,← hnew,takeN_all]; rfl
section
variable {E : Env} {fr : Fr} {l : Sl} {st : St} {o : Oper} {all rest : List Oper} {i : Nat} {js : List Nat} {nl : News} {K : Sl → St → Prop} {od : Option Nat}
end
section
variable {E : Env} {fr : Fr} {l : Sl} {st s : St} {o : Oper} {all rest : List Oper} {i : Nat} {js : List Nat} {nl : News} {K : Sl → St → Prop} {od : Option Nat}
end
section
variable {E : Env} {l : Sl} {o : Oper}
theorem OpQ.shr {t yt : TypeId} {x y : Operand} {k j : IntKind} {a b : Int} {v : AV} (ho : o.op = .binOp .shr t x y yt) (hu : und E t = some (.int k)) (hx : opndL x l = some (.int k a)) (hy : opndL y l = some (.int j b)) (hv : shrA k a b = some v) : OpQ E o l v :=
 AI (f := fun T=>(opnd E x T).bind fun a=>(opnd E y T).bind fun b=>intSh shrA a b) (by
  rw [ho]
  show binC E .shr t x y = _
  unfold binC
  rw [hu]; rfl) fun _ hT=>by simp only [Ak hT hx,Ak hT hy,Qe,intSh,hv]
end
section
variable {E : Env} {fr : Fr} {l : Sl} {s st : St} {o : Oper} {all rest : List Oper} {i : Nat} {js : List Nat} {nl : News} {K : Sl → St → Prop} {od : Option Nat}
theorem RegN.actK (hq : quietSo (opC E o.type o.op) = true) (htch : ∀ T, touchOf (opC E o.type o.op) T = .all) (hjs : seenB (ancOf all i) js = true) (hnl : (nl.all fun p => Nat.testBit (ancOf all i) p.1) = true) (hg : GuardOn all l o) (hd : o.dst = od) (hlt : dstOk fr.nt od = true)
    (h : ∀ T, Has (restr (tmpsOf o.op.operands.toList) l) T → ∃ v s2, OpTo E o fr T (st.sub st.heap) v s2 ∧ st.next ≤ s2.next ∧ (∀ b ∈ s2.log, b < st.next) ∧ ∀ nl2, RegN E all rest (i + 1) fr (putL od v l) (st.merged s2) (i :: js) nl2 K) : RegN E all (o :: rest) i fr l st js nl K := by
  intro T news looked hT hnw hlk
  obtain ⟨v, s2, ⟨N, hN⟩, hnx, hlog, h⟩ := h _ (hT.restr (tmpsOf o.op.operands.toList))
  let dd : DOp := dop E all i o
  let q : DSt := ⟨T, st, news, looked⟩
  let T' := pickT T (tmpsOf o.op.operands.toList) .nil
  let re := reOf dd q (.all, v, s2)
  have hanc : dd.anc = ancOf all i := rfl
  obtain ⟨M, l', q', hk, hT', hr⟩ := h (tagL i (tagL i nl (newL st.next (s2.next - st.next))) s2.log) (putT od v T) (tagL i (tagL i news (newL st.next (s2.next - st.next))) s2.log) ((i, .all, re) :: looked) (hT.putL od v)
    (fun p hp => DS (fun p hp => DS hnw hp) hp) (fun p hp => by
    rcases Qk.1 hp with rfl | hp
    · exact .inl (Qh ..)
    · exact (hlk p hp).imp (Qg _) id)
  refine ⟨max N M, l', q', hk, hT', fun n hn => ?_⟩
  have hgo : drawGo E (ev E n) fr dd q T' = some (.all, v, s2) := by
    unfold drawGo
    have hqs : quietSo dd.so = true := hq
    rw [hqs]
    simp only [cond_true]
    have ht : touchOf dd.so T' = .all := htch T'
    rw [ht]
    have hst := hN n (by omega) K0
    have hH : subHeap (ancOf all i) news st.heap .all = st.heap := hide_clear hnl hnw
    show drawGot .all ((stepC E (opC E o.type o.op) K0).run (ev E n) fr T' (st.sub (subHeap dd.anc news st.heap .all))) = _
    rw [hanc, hH, hst]; rfl
  have hmay : ∀ L : List Nat, (∀ b ∈ L, b < st.next) → mayWrite dd.anc st.next s2.next s2.heap q L = true := by
    intro L
    induction L with
    | nil => intro _; rfl
    | cons b L ih =>
      intro hL
      unfold mayWrite
      have h1 : Nat.blt b st.next = true := Qd (hL b (Qh ..))
      have h2 : hiddenB dd.anc b q.news = false := Dk (clear_all hnl) hnw
      have h3 : freeOf dd.anc b s2.next (s2.heap.get b) q.looked = true := free_seen hjs hlk
      rw [h1, h2, h3, ih fun c hc => hL c (Qg _ hc)]
      rfl
  show ((drawRun E all (ev E n) fr dd q).bind fun r => (drawPut fr.nt dd q r).bind fun q' => drawAll E all (ev E n) fr (planD E (befores all) rest (i + 1)) q') = _
  rw [runN hT hg hgo]
  simp only [Qe]
  have hput : drawPut fr.nt dd q (.all, v, s2) = some ⟨putT od v T, st.merged s2, tagL i (tagL i news (newL st.next (s2.next - st.next))) s2.log, (i, .all, re) :: looked⟩ := by
    unfold drawPut
    have h1 : Nat.ble q.st.next s2.next = true := Qd hnx
    have h2 : mayWrite dd.anc q.st.next s2.next s2.heap q s2.log = true := hmay s2.log hlog
    have h3 : dd.o.dst = od := hd
    simp only [h1, h2, h3, Bool.and_self, cond_true, putC_ok hlt, Qe]
    rfl
  rw [hput]
  simp only [Qe]
  exact hr n (by omega)
end
theorem merged_eq {st s2 : St} (hn : st.next ≤ s2.next) (hlg : ∀ c,c < st.next → c ∉ s2.log → s2.heap.get c = st.heap.get c) : ∀ c,c < s2.next → (st.merged s2).heap.get c = s2.heap.get c := by
 intro c hc
 show (copyAll s2.heap (newL st.next (s2.next - st.next)) (copyAll s2.heap s2.log st.heap)).get c = _
 rw [B8,B8]
 by_cases h1 : c ∈ newL st.next (s2.next - st.next)
 ·rw [if_pos h1]
 ·rw [if_neg h1]
  by_cases h2 : c ∈ s2.log
  ·rw [if_pos h2]
  ·rw [if_neg h2]
   by_cases h3 : c < st.next
   ·exact (hlg c h3 h2).symm
   ·exact absurd (newL_mem.2 ⟨by omega,by omega⟩) h1
theorem mem_put_old {s : St} {b c : Nat} {o : Option AObj} (h : c ∈ s.log) : c ∈ (s.put b o).log := by
 show c ∈ (bif Nat.blt b s.bound then logged b s.log else s.log)
 cases Nat.blt b s.bound with
 | false=>exact h
 | true =>
  rw [cond_true]
  cases hl : s.log with
  | nil=>rw [hl] at h; cases h
  | cons d l =>
   rw [hl] at h
   show c ∈ (bif Nat.beq b d then d :: l else b :: d :: l)
   cases Nat.beq b d with
   | true=>exact h
   | false=>exact Qg _ h
def Told (s s' : St) : Prop := ∀ d,d < s.bound → d ∉ s'.log → s'.heap.get d = s.heap.get d
theorem dT {p : Prop} [Decidable p] (h : decide p = true) : p := of_decide_eq_true h
theorem dF {p : Prop} [Decidable p] (h : decide p = false) : ¬p := of_decide_eq_false h
theorem LL {α : Type} : (∀ a b : List α,(a ++ b).length = a.length + b.length) ∧ (∀ (a : α) (b : List α),(a :: b).length = b.length + 1) ∧ ([] : List α).length = 0 ∧ (∀ (i : Nat) (b : List α),(b.take i).length = min i b.length) ∧ ∀ (i : Nat) (b : List α),(b.drop i).length = b.length - i :=
 ⟨fun _ _=>Qm,fun _ _=>rfl,rfl,fun _ _=>List.length_take,fun _ _=>List.length_drop⟩
theorem t2 {α β : Type} {a a' : α} {b b' : β} (h : (a,b) = (a',b')) : a = a' ∧ b = b' := by cases h; exact ⟨rfl,rfl⟩
section
variable {E : Env} {fr : Fr} {l : Sl} {s : St} {all rest : List Oper} {o : Oper} {K : Sl → St → Prop} {Q : Ex → Fr → Sl → St → Prop} {v : AV} {s' : St} {d : Nat}
theorem Ld (h : K l s) : RegL E all [] fr l s K := RegL.done h
theorem Lo (ho : OpL E o fr l s v s') (hg : (o.guard,o.dst,Nat.blt d fr.nt) = (none,some d,true)) (h : RegL E all rest fr ((d,v) :: l) s' K) : RegL E all (o :: rest) fr l s K :=
 RegL.op ho (t2 hg).1 (t2 (t2 hg).2).1 (t2 (t2 hg).2).2 h
theorem Lq (ho : OpQ E o l v) (hg : (o.guard,o.dst,Nat.blt d fr.nt) = (none,some d,true)) (h : RegL E all rest fr ((d,v) :: l) s K) : RegL E all (o :: rest) fr l s K :=
 Lo (OpL.q ho) hg h
theorem qa {x : Operand} (hg : (o.op,opndL x l,o.guard,o.dst,Nat.blt d fr.nt) = (.assign x,some v,none,some d,true)) (h : RegL E all rest fr ((d,v) :: l) s K) : RegL E all (o :: rest) fr l s K :=
 Lq (OpQ.assign (t2 hg).1 (t2 (t2 hg).2).1) (t2 (t2 hg).2).2 h
theorem qm {x : Operand} (hg : (o.op,opndL x l,o.guard,o.dst,Nat.blt d fr.nt) = (.move x,some v,none,some d,true)) (h : RegL E all rest fr ((d,v) :: l) s K) : RegL E all (o :: rest) fr l s K :=
 Lq (OpQ.move (t2 hg).1 (t2 (t2 hg).2).1) (t2 (t2 hg).2).2 h
theorem o2 {op : BinOp} {t yt : TypeId} {x y : Operand} {k : IntKind} {a b : Int} {f : IntKind → Int → Int → Option AV} (hu : und E t = some (.int k)) (ho : (o.op, intF op) = (.binOp op t x y yt, some f))
    (hx : (opndL x l, opndL y l, f k a b) = (some (.int k a), some (.int k b), some v)) : OpQ E o l v :=
  DN (t2 ho).1 hu (t2 ho).2 (t2 hx).1 (t2 (t2 hx).2).1 (t2 (t2 hx).2).2
theorem of {t : TypeId} {x : Operand} {i off n : Nat} {agg : Bool} {b k : Nat} (hf : fieldOf E t i = some (off,n + 1,agg)) (ho : (o.op,opndL x l) = (.fieldAddr t x i,some (.ptr b k))) : OpQ E o l (.ptr b (k + off)) :=
 OpQ.fieldAddr (t2 ho).1 hf (t2 ho).2
theorem oT {c x y : Operand} {b : Bool} (ho : (o.op,opndL c l) = (.pick c x y,some (.bool b))) (hb : b = true) (hx : opndL x l = some v) : OpQ E o l v := OpQ.pickT (t2 ho).1 (t2 ho).2 hb hx
theorem oF {c x y : Operand} {b : Bool} (ho : (o.op,opndL c l) = (.pick c x y,some (.bool b))) (hb : b = false) (hx : opndL y l = some v) : OpQ E o l v := OpQ.pickF (t2 ho).1 (t2 ho).2 hb hx
theorem oe {x : Operand} {i : Nat} {vs : List AV} (ho : (o.op,opndL x l,nth vs i) = (.extract x i,some (.tuple vs),some v)) : OpQ E o l v := OpQ.extract (t2 ho).1 (t2 (t2 ho).2).1 (t2 (t2 ho).2).2
theorem on {t : TypeId} {x : Operand} {b : Bool} (ho : (o.op,opndL x l) = (.unOp .not t x,some (.bool b))) : OpQ E o l (.bool (!b)) := OpQ.not (t2 ho).1 (t2 ho).2
theorem om {x : Operand} (ho : (o.op,opndL x l) = (.move x,some v)) : OpQ E o l v := OpQ.move (t2 ho).1 (t2 ho).2
theorem oa {x : Operand} (ho : (o.op,opndL x l) = (.assign x,some v)) : OpQ E o l v := OpQ.assign (t2 ho).1 (t2 ho).2
theorem ol {c : Call} {t e : TypeId} {ts : List TypeId} {x : Operand} {cs : List AV} {n sz : Nat} {cl : Bool} (hu : und E t = some (.slice e)) (ho : (o.op, c.callee, c.argTypes.toList, c.args.toList, opndL x l) = (.call c, .builtin .len, t :: ts, [x], some (.islice cs n sz cl))) :
    OpQ E o l (.int .i64 (n : Nat)) := OpQ.lenSl (t2 ho).1 (t2 (t2 ho).2).1 (t2 (t2 (t2 ho).2).2).1 (t2 (t2 (t2 (t2 ho).2).2).2).1 hu (t2 (t2 (t2 (t2 ho).2).2).2).2
variable {j e : Nat} {w b : Bool} {oj : Oper}
theorem Lk (hg : (o.guard,nth all j,oj.dst,look e l,o.dst,Nat.blt d fr.nt) = (some (j,w),some oj,some e,some (.bool b),some d,true)) (hb : b = !w) (h : RegL E all rest fr ((d,.tuple []) :: l) s K) : RegL E all (o :: rest) fr l s K :=
 have h1 := t2 hg; have h2 := t2 h1.2; have h3 := t2 h2.2; have h4 := t2 h3.2; have h5 := t2 h4.2
 RegL.skip h1.1 h2.1 h3.1 h4.1 hb h5.1 h5.2 h
theorem Lg (hg : (o.guard,nth all j,oj.dst,look e l,o.dst,Nat.blt d fr.nt) = (some (j,w),some oj,some e,some (.bool b),some d,true)) (hb : b = w) (ho : OpL E o fr l s v s') (h : RegL E all rest fr ((d,v) :: l) s' K) : RegL E all (o :: rest) fr l s K :=
 have h1 := t2 hg; have h2 := t2 h1.2; have h3 := t2 h2.2; have h4 := t2 h3.2; have h5 := t2 h4.2
 RegL.go h1.1 h2.1 h3.1 h4.1 hb ho h5.1 h5.2 h
theorem Lh (hg : (o.guard,nth all j,oj.dst,look e l,o.dst,Nat.blt d fr.nt) = (some (j,w),some oj,some e,some (.bool b),some d,true)) (hb : b = w) (ho : OpQ E o l v) (h : RegL E all rest fr ((d,v) :: l) s K) : RegL E all (o :: rest) fr l s K :=
 Lg hg hb (OpL.q ho) h
theorem Lb (hg : (o.guard,nth all j,oj.dst,look e l) = (some (j,w),some oj,some e,some (.bool b))) (h1 : b = true → RegL E all (o :: rest) fr l s K) (h0 : b = false → RegL E all (o :: rest) fr l s K) : RegL E all (o :: rest) fr l s K :=
 have h2 := t2 hg; have h3 := t2 h2.2; have h4 := t2 h3.2
 RegL.both h2.1 h3.1 h4.1 h4.2 h1 h0
theorem Es {k : Nat} {ops : Array Oper} {b : Code} (h : RegL E ops.toList ops.toList fr l s fun l s=>EvtL E b fr l s Q) : EvtL E (.seq (.region k ops false) b) fr l s Q := EvtL.seqReg h
theorem Ec {x : Operand} {a b : Code} {t : Bool} (hx : opndL x l = some (.bool t)) (h1 : t = true → EvtL E a fr l s Q) (h0 : t = false → EvtL E b fr l s Q) : EvtL E (.cond x a b) fr l s Q := EvtL.cond hx h1 h0
theorem Er {t : Nat} {rs : List ResultVar} {w v v' : AV} {ks : List Nat} (hg : (fr.defers, s.log, s.bound, rs, look t l, frzV s 0 40 v [], underV 0 40 w) = ([], [], 0, [.tmp t], some v, some (w, ks), true)) (hw : w = v') :
    (Ex.ret = .ret ∨ Ex.ret = .normal) ∧ fr.defers = [] ∧ s.log = [] ∧ s.bound = 0 ∧ ∃ vs w ks, resultsL E s l rs = some vs ∧ frzV s 0 40 (oneA vs) [] = some (w, ks) ∧ underV 0 40 w = true ∧ w = v' := by
  have h1 := t2 hg; have h2 := t2 h1.2; have h3 := t2 h2.2; have h4 := t2 h3.2; have h5 := t2 h4.2; have h6 := t2 h5.2
  refine ⟨.inl rfl, h1.1, h2.1, h3.1, [v], w, ks, ?_, h6.1, h6.2, hw⟩
  rw [h4.1]; exact As h5.1 rfl
end
section
variable {E : Env} {fr : Fr} {l : Sl} {o : Oper} {n m bd : Nat} {lg : List Nat} {hl : Hl}
theorem l1 {t : TypeId} {a : Operand} {k b off : Nat} {v : AV} {cs : List AV} {e : TypeId} {part : Bool} (h1 : isAgg E t = some false) (h2 : sizeOf E t = some k)
    (ho : (o.op, opndL a l, lookH b hl, cs[off]?) = (.load t a, some (.ptr b off), some (.cells cs e part), some v)) : OpL E o fr l (mkS n bd lg hl) v (mkS n bd lg hl) :=
  have h := t2 ho; have h' := t2 h.2; have h'' := t2 h'.2
  OpL.loadS1 h.1 h1 h2 h'.1 h''.1 h''.2
end
section
variable {E : Env} {fr : Fr} {l : Sl} {st : St} {o : Oper} {all rest : List Oper} {i : Nat} {js : List Nat} {nl : News} {K : Sl → St → Prop} {od : Option Nat} {v : AV} {j e : Nat} {w b : Bool} {oj : Oper}
theorem Nq (ho : OpQ E o (restr (tmpsOf o.op.operands.toList) l) v) (hg : (o.guard,o.dst,dstOk fr.nt od) = (none,od,true)) (h : RegN E all rest (i + 1) fr (putL od v l) st js nl K) : RegN E all (o :: rest) i fr l st js nl K :=
 RegN.qG ho (.inl (t2 hg).1) (t2 (t2 hg).2).1 (t2 (t2 hg).2).2 h
theorem Ng (hg : (o.guard,nth all j,oj.dst,look e l,o.dst,dstOk fr.nt od) = (some (j,w),some oj,some e,some (.bool b),od,true)) (hb : b = w) (ho : OpQ E o (restr (tmpsOf o.op.operands.toList) l) v) (h : RegN E all rest (i + 1) fr (putL od v l) st js nl K) : RegN E all (o :: rest) i fr l st js nl K :=
 have h1 := t2 hg; have h2 := t2 h1.2; have h3 := t2 h2.2; have h4 := t2 h3.2; have h5 := t2 h4.2
 RegN.qG ho (AW h1.1 h2.1 h3.1 h4.1 hb) h5.1 h5.2 h
theorem Nk (hg : (o.guard,nth all j,oj.dst,look e l,o.dst,dstOk fr.nt od) = (some (j,w),some oj,some e,some (.bool b),od,true)) (hb : b = !w) (h : RegN E all rest (i + 1) fr (putL od (.tuple []) l) st js nl K) : RegN E all (o :: rest) i fr l st js nl K :=
 have h1 := t2 hg; have h2 := t2 h1.2; have h3 := t2 h2.2; have h4 := t2 h3.2; have h5 := t2 h4.2
 RegN.skip h1.1 h2.1 h3.1 h4.1 hb h5.1 h5.2 h
theorem Nt (hg : (o.guard,nth all j,oj.dst,look e l,o.dst,dstOk fr.nt od) = (some (j,w),some oj,some e,some (.tuple []),od,true)) (h : RegN E all rest (i + 1) fr (putL od (.tuple []) l) st js nl K) : RegN E all (o :: rest) i fr l st js nl K :=
 have h1 := t2 hg; have h2 := t2 h1.2; have h3 := t2 h2.2; have h4 := t2 h3.2; have h5 := t2 h4.2
 RegN.skipT h1.1 h2.1 h3.1 h4.1 h5.1 h5.2 h
end
section
variable {E : Env} {fr : Fr} {l : Sl} {st : St} {o : Oper} {all rest : List Oper} {i : Nat} {js : List Nat} {nl : News} {K : Sl → St → Prop} {od : Option Nat}
end
abbrev Glob := Nat → Option (List AV)
noncomputable def envG (P : Program) (nt nf mask : Nat) (K : FuncId → List AV → Option AV) (gl : Glob) : Env := { envK P nt nf mask K with glob := gl }
def GlobS (gl : Glob) (C : Cx) : Prop := ∀ g cs,gl g = some cs → ∃ ms,C.M g = some ms ∧ VRs C cs ms ∧ Cells cs
def KnownG (P : Program) (gl : Glob) (f : FuncId) (args : List AV) (v : AV) : Prop :=
 ∀ (C : Cx) (S : St) (w : World) (xs : Array Value) (c : Frame) (cs : List Frame),GlobS gl C → VRs C args xs.toList → StR C S w → Returns P (lone (Frame.enter P f xs .normal) (c :: cs) w) c cs C S w (.same v)
def KnownGs (P : Program) (gl : Glob) (K : FuncId → List AV → Option AV) : Prop := ∀ f args v,K f args = some v → KnownG P gl f args v
theorem KnownF.g {P : Program} {gl : Glob} {f : FuncId} {args : List AV} {v : AV} (h : KnownF P f args v) : KnownG P gl f args v := fun C S w xs c cs _ hv hS=>h C S w xs c cs hv hS
theorem KnownAll.g {P : Program} {gl : Glob} {K : FuncId → List AV → Option AV} (h : KnownAll P K) : KnownGs P gl K := fun f args v hv=>(h f args v hv).g
section
variable {P : Program} {nt nf mask : Nat} {K : FuncId → List AV → Option AV} {gl : Glob}
theorem envG_ok (h : ProgOk P nt nf) : EnvOk (envG P nt nf mask K gl) P := by
 have := envOf_ok h mask []
 exact ⟨this.ty,this.fn,this.flat,this.lone⟩
theorem envG_ext (h : ProgOk P nt nf) : ExtOk (envG P nt nf mask K gl) P :=
 ext_ok (envG_ok h) fun f fn hf=>by
  have : P.funcs.toList[f]? = some fn := by rw [← E8 nf P.funcs.toList f (by simpa using h.funcs)]; exact hf
  exact (List.all_eq_true.1 h.outer) fn (List.mem_of_getElem? this)
theorem envG_memo (hK : KnownGs P gl K) : MemoOk (envG P nt nf mask K gl) P :=
 fun f args v h C S w xs c cs hg hv hS=>hK f args v h C S w xs c cs hg hv hS
theorem knownG_of (hp : ProgOk P nt nf) (hgl : ∀ g cs, gl g = some cs → cs.all (closedV 40) = true) (hK : KnownGs P gl K) {f : FuncId} {args : List AV} {v : AV} (h : CallTo (envG P nt nf mask K gl) f args S0 v)
    (ha : args.all (closedV 40) = true) (hv : closedV 40 v = true) : KnownG P gl f args v := by
  intro C S w xs c cs hg hvs hS
  obtain ⟨N, h⟩ := h
  have hx : ExtOk (envG P nt nf mask K gl) P := envG_ext hp
  have he : EnvOk (envG P nt nf mask K gl) P := envG_ok hp
  have hcall := call_ok he hx (draw_ok he hx) (envG_memo hK) (fun _ ev _ => merge_ok ev) N
  have hgb : GlobR (envG P nt nf mask K gl) C.bare := by
    intro g cs' hgl'
    obtain ⟨ms, h1, h2, h3⟩ := hg g cs' hgl'
    exact ⟨ms, h1, B3 40 h2 (hgl g cs' hgl'), h3⟩
  have := hcall f args (.same v) C.bare S0 w xs c cs (h N (Qj _)) hgb (B3 40 hvs ha) (s0_st C hS)
  obtain ⟨C1, x, w', hs, t, hvx⟩ := this
  have eb : Ext C1.bare (C.withM C1) := ⟨fun _ x => x.elim, fun _ x => x.elim, fun _ _ h => h, fun _ _ x => x.elim, fun _ _ x => x.elim, fun _ h => h⟩
  exact ⟨_, x, w', hs, frame_s0 hS t, (DZ 40 hvx hv).mono eb⟩
theorem addC_knownG {α : Type} {f : FuncId} {enc : α → List AV} {res : α → AV} (hK : KnownGs P gl K) (h : ∀ a,KnownG P gl f (enc a) (res a)) : KnownGs P gl (addC K f enc res) := by
 intro g args v hv
 unfold addC at hv
 cases hb : Nat.beq g f with
 | false=>rw [hb] at hv; exact hK g args v hv
 | true =>
  rw [hb] at hv
  have := Qb hb
  subst this
  obtain ⟨a,rfl,rfl⟩ := specOf_some hv
  exact h a
theorem Db {α : Type} {f : FuncId} {enc : α → List AV} {res : α → AV} (hp : ProgOk P nt nf) (hgl : ∀ g cs, gl g = some cs → cs.all (closedV 40) = true) (hK : KnownGs P gl K) (h : ∀ a, CallTo (envG P nt nf mask K gl) f (enc a) S0 (res a))
    (ha : ∀ a, (enc a).all (closedV 40) = true) (hv : ∀ a, closedV 40 (res a) = true) : KnownGs P gl (addC K f enc res) :=
  addC_knownG hK fun a => knownG_of hp hgl hK (h a) (ha a) (hv a)
theorem callsG_of (hp : ProgOk P nt nf) (hK : KnownGs P gl K) {f : FuncId} {args : List AV} {b : Bool} (hmf : K f args = none) (h : CallTo (envG P nt nf mask K gl) f args S0 (.bool b))
    {w : World} {xs : Array Value} (hg : GlobS gl (Cx.memory w)) (ha : VRs (Cx.memory w) args xs.toList) : Calls P f xs w fun e w' => e = .returned (.bool b) ∧ Go.RowKit.Below w.heap.size w w' := by
  have hno : ∀ b o, ¬ S0.heap.get b = some o := fun b o hb => by rw [show S0.heap = .nil from rfl, Bb] at hb; cases hb
  obtain ⟨N, h⟩ := h
  have hc := callF_calls (envG_ok (mask := mask) (K := K) (gl := gl) hp) (envG_ext hp) (envG_memo hK) (n := N) (f := f) (args := args) (v := .bool b) hmf (h N (Qj _)) (C := Cx.memory w) (w := w) (xs := xs) hg ha (memory_st w)
  intro cs
  obtain ⟨e, w', fr, ⟨C2, x, he', t, hv⟩, h2, h3, h4⟩ := hc cs
  refine ⟨e, w', fr, ⟨?_, ⟨t.misc.2.1, t.misc.1, t.misc.2.2, t.size, fun k hk => t.frame k hk fun b o hb => absurd hb (hno b o)⟩⟩, h2, h3, h4⟩
  cases hv
  exact he'
end
def kU : IntKind → Bool
 | .u32 | .u64=>true
 | _=>false
theorem wrapK {k : IntKind} (hk : kU k = true) {n : Int} (h0 : 0 ≤ n) (h : n < 4294967296) : wrapI k n = .int k n := by
 unfold wrapI
 cases k with
 | u32=>rw [Go.IntWalk.u32_in n ⟨h0,by omega⟩]
 | u64=>rw [Go.IntWalk.u64_in n ⟨h0,by omega⟩]
 | _=>cases hk
section
variable {E : Env} {l : Sl} {o : Oper} {k : IntKind} {t yt : TypeId} {x y : Operand} {a b : Nat}
theorem Bs (ho : o.op = .binOp .add t x y yt) (hu : und E t = some (.int k)) (hx : opndL x l = some (.int k (a : Nat))) (hy : opndL y l = some (.int k (b : Nat))) (hk : kU k = true) (h : a + b < 4294967296) : OpQ E o l (.int k ((a + b : Nat) : Int)) :=
 DN ho hu rfl hx hy (by rw [wrapK hk (by omega) (by omega)]; rfl)
theorem Df (ho : o.op = .binOp .mul t x y yt) (hu : und E t = some (.int k)) (hx : opndL x l = some (.int k (a : Nat))) (hy : opndL y l = some (.int k (b : Nat))) (hk : kU k = true) (h : a * b < 4294967296) : OpQ E o l (.int k ((a * b : Nat) : Int)) :=
 DN ho hu rfl hx hy (by rw [← Int.natCast_mul,wrapK hk (by omega) (by omega)])
theorem De (ho : o.op = .binOp .quo t x y yt) (hu : und E t = some (.int k)) (hx : opndL x l = some (.int k (a : Nat))) (hy : opndL y l = some (.int k (b : Nat))) (hk : kU k = true) (h : 0 < b ∧ a < 4294967296) : OpQ E o l (.int k ((a / b : Nat) : Int)) :=
 DN ho hu rfl hx hy (by
  show quoA k _ _ = _
  have hle : a / b ≤ a := Nat.div_le_self a b
  unfold quoA
  rw [if_neg (by omega),← Int.ofNat_tdiv]
  generalize a / b = q at hle ⊢
  rw [wrapK hk (by omega) (by omega)])
theorem Dd (ho : o.op = .binOp .rem t x y yt) (hu : und E t = some (.int k)) (hx : opndL x l = some (.int k (a : Nat))) (hy : opndL y l = some (.int k (b : Nat))) (h : 0 < b) : OpQ E o l (.int k ((a % b : Nat) : Int)) :=
 DN ho hu rfl hx hy (by
  show remA k _ _ = _
  unfold remA
  rw [if_neg (by omega),← Int.ofNat_tmod])
theorem Eg {src dst : TypeId} {j kx : IntKind} (ho : o.op = .convert src dst x) (hs : und E src = some (.int j)) (hd : und E dst = some (.int k)) (hx : opndL x l = some (.int kx (a : Nat))) (hk : kU k = true) (h : a < 4294967296) : OpQ E o l (.int k (a : Nat)) := by
 have := Fm (E := E) (l := l) ho hs hd hx
 rwa [wrapK hk (by omega) (by omega)] at this
theorem OpQ.shrK {j : IntKind} (ho : o.op = .binOp .shr t x y yt) (hu : und E t = some (.int k)) (hx : opndL x l = some (.int k (a : Nat))) (hy : opndL y l = some (.int j (b : Nat))) (h : b ≤ k.bits) : OpQ E o l (.int k ((a / 2 ^ b : Nat) : Int)) :=
 OpQ.shr ho hu hx hy (by
  unfold shrA
  rw [if_neg (by omega),show ((b : Nat) : Int).toNat = b from rfl,Nat.min_eq_left h]
  rw [Int.fdiv_eq_ediv_of_nonneg _ (by exact Int.le_of_lt (Int.pow_pos (by decide)))]
  rw [show ((a : Nat) : Int) / 2 ^ b = ((a / 2 ^ b : Nat) : Int) from by rw [Int.natCast_ediv,Int.natCast_pow]; rfl])
theorem OpQ.negE {v : AV} (ho : o.op = .unOp .neg t x) {z : Int} (hx : opndL x l = some (.int k z)) (hv : wrapI k (0 - z) = v) : OpQ E o l v :=
 AI (f := fun T=>(opnd E x T).bind (unV .neg)) (by rw [ho]; rfl) fun T hT=>by
  simp only [Ak hT hx,Qe,unV,hv]
theorem Bq {e : TypeId} {i : Operand} {n sz m : Nat} {ik : IntKind} {p q : AV} (ho : o.op = .indexAddr t x i) (hu : und E t = some (.array n e)) (hs : sizeOf E e = some (sz + 1)) (hx : opndL x l = some p) (hi : opndL i l = some (.int ik (m : Nat))) (hm : m < n) (hq : addrAdd (m * (sz + 1)) p = some q) : OpQ E o l q :=
 AI (f := fun T=>(opnd E i T).bind fun iv=>(natOf iv).bind fun k=>bif Nat.blt k n then (opnd E x T).bind (addrAdd (k * (sz + 1))) else none) (by
  rw [ho]
  show indexAddrC E t x i = _
  unfold indexAddrC
  rw [hu]
  simp only [hs]) fun T hT=>by
  simp only [Ak hT hx,Ak hT hi,Qe]
  show (natOf (.int ik (m : Nat))).bind _ = _
  rw [show natOf (.int ik (m : Nat)) = some m from by unfold natOf; simp]
  simp only [Qe,show Nat.blt m n = true from Qd hm,cond_true,hq]
theorem OpQ.indexAddrG {e : TypeId} {i : Operand} {g n sz m : Nat} {ik : IntKind} {cs : List AV} (ho : o.op = .indexAddr t (.global g) i) (hu : und E t = some (.array n e)) (hs : sizeOf E e = some (sz + 1)) (hx : E.glob g = some cs) (hi : opndL i l = some (.int ik (m : Nat))) (hm : m < n) (hl : m * (sz + 1) ≤ cs.length) : OpQ E o l (.iptr (cs.drop (m * (sz + 1)))) :=
 AI (f := fun T=>(opnd E i T).bind fun iv=>(natOf iv).bind fun k=>bif Nat.blt k n then (opnd E (.global g) T).bind (addrAdd (k * (sz + 1))) else none) (by
  rw [ho]
  show indexAddrC E t (.global g) i = _
  unfold indexAddrC
  rw [hu]
  simp only [hs]) fun T hT=>by
  have hgl : opnd E (.global g) T = some (.iptr cs) := by
   simp only [opnd,hx]; rfl
  simp only [hgl,Ak hT hi,Qe]
  show (natOf (.int ik (m : Nat))).bind _ = _
  rw [show natOf (.int ik (m : Nat)) = some m from by unfold natOf; simp]
  simp only [Qe,show Nat.blt m n = true from Qd hm,cond_true,addrAdd,dropN_ok hl]
theorem AO {e : TypeId} {lo hi : Option Operand} {n sz : Nat} {p v : AV} {vlo vhi : Option AV} (ho : o.op = .slice t x lo hi none) (hu : und E t = some (.array n e)) (hs : sizeOf E e = some sz) (hx : opndL x l = some p)
    (hlo : opndOL lo l = some vlo) (hhi : opndOL hi l = some vhi) (hv : sliceArV sz n vlo vhi p = some v) : OpQ E o l v :=
  AI (f := fun T => (opnd E x T).bind fun a => (opndOC E lo T).bind fun l => (opndOC E hi T).bind fun h => sliceArV sz n l h a) (by
    rw [ho]
    show sliceC E t x lo hi none = _
    unfold sliceC
    rw [hu]
    simp only [hs]) fun _ hT => by
    simp only [Ak hT hx, opndOL_ok hT hlo, opndOL_ok hT hhi, Qe, hv]
end
section
variable {E : Env} {fr : Fr} {l : Sl} {st : St} {o : Oper} {all rest : List Oper} {i : Nat} {js : List Nat} {nl : News} {K : Sl → St → Prop} {od : Option Nat}
theorem RegN.storeL {t : TypeId} {a x : Operand} {k b off : Nat} {v : AV} {cs cs' : List AV} {e : TypeId} {part : Bool} (hbn : b < st.next) (ho : o.op = .store t a x) (hn : sizeOf E t = some k)
    (ha : opndL a (restr (tmpsOf o.op.operands.toList) l) = some (.ptr b off)) (hx : opndL x (restr (tmpsOf o.op.operands.toList) l) = some v) (hg0 : st.heap.get b = some (.cells cs e part)) (hlen : v.cells.length = k) (htup : v.isTuple = false) (hov : over v.cells off cs = some cs')
    (hc : clearB (ancOf all i) b nl = true) (hjs : seenB (ancOf all i) js = true) (hg : GuardOn all l o) (hd : o.dst = od) (hlt : dstOk fr.nt od = true)
    (h : RegN E all rest (i + 1) fr (putL od (.tuple []) l) { st with log := bif Nat.blt b st.bound then b :: st.log else st.log, heap := st.heap.set b (some (.cells cs' e part)) } (i :: js) ((i, b) :: nl) K) : RegN E all (o :: rest) i fr l st js nl K := by
  have hsub : (st.sub (Tr.set .nil b (st.heap.get b))).heap.get b = some (.cells cs e part) := by
    show (Tr.set .nil b (st.heap.get b)).get b = _
    rw [AC, if_pos rfl, hg0]
  have hlog : ((st.sub (Tr.set .nil b (st.heap.get b))).put b (some (.cells cs' e part))).log = [b] := by
    show (bif Nat.blt b st.next then [b] else []) = _
    rw [show Nat.blt b st.next = true from Qd hbn]; rfl
  have hm : st.merged ((st.sub (Tr.set .nil b (st.heap.get b))).put b (some (.cells cs' e part))) = { st with log := bif Nat.blt b st.bound then b :: st.log else st.log, heap := st.heap.set b (some (.cells cs' e part)) } := by
    have hh : copyAll ((st.sub (Tr.set .nil b (st.heap.get b))).put b (some (.cells cs' e part))).heap (newL st.next (st.next - st.next)) (copyAll ((st.sub (Tr.set .nil b (st.heap.get b))).put b (some (.cells cs' e part))).heap [b] st.heap) = st.heap.set b (some (.cells cs' e part)) := by
      rw [Nat.sub_self]
      show st.heap.set b _ = _
      rw [show ((st.sub (Tr.set .nil b (st.heap.get b))).put b (some (.cells cs' e part))).heap.get b = some (.cells cs' e part) from by
        show ((Tr.set .nil b (st.heap.get b)).set b (some (.cells cs' e part))).get b = _
        rw [AC, if_pos rfl]]
    unfold St.merged
    rw [hlog]
    show St.mk st.next st.bound _ _ = _
    congr 1
  have := RegN.acts (E := E) (all := all) (rest := rest) (fr := fr) (K := K) (od := od) (nl := nl) (js := js) (i := i) (o := o) (l := l) (st := st) (x := opnd E a) (one := true) (tch := .block b) (H := Tr.set .nil b (st.heap.get b)) (v := .tuple []) (s2 := (st.sub (Tr.set .nil b (st.heap.get b))).put b (some (.cells cs' e part)))
    (f := fun T s => (opnd E a T).bind fun p => (opnd E x T).bind fun v => withU (storeN k s v p)) (by
      rw [ho]
      show storeC E t a x = _
      unfold storeC
      rw [hn]) (fun T hT => by
      show touchB (blockOf (opnd E a T)) = _
      rw [Ak hT ha]; rfl) (fun news hnw => by
      show (bif hiddenB (ancOf all i) b news then _ else _) = _
      rw [Dk hc hnw]; rfl) (Ba ho hn ha hx (AZ hsub hlen htup hov)) (Qj _) (fun c hc' => by
      rw [hlog, Qp] at hc'
      subst hc'
      exact ⟨hbn, hc⟩) hjs hg hd hlt
  rw [hm, hlog] at this
  apply this
  show RegN E all rest (i + 1) fr _ _ _ (tagL i (tagL i nl (newL st.next (st.next - st.next))) [b]) K
  rw [Nat.sub_self]
  exact h
theorem A9 {n bd : Nat} {lg : List Nat} {hl : Hl} {t : TypeId} {a x : Operand} {k b off : Nat} {v : AV} {cs cs' : List AV} {e : TypeId} {part : Bool} (ho : o.op = .store t a x) (hn : sizeOf E t = some k)
    (ha : opndL a (restr (tmpsOf o.op.operands.toList) l) = some (.ptr b off)) (hx : opndL x (restr (tmpsOf o.op.operands.toList) l) = some v) (hbn : Nat.blt b n = true) (hg0 : lookH b hl = some (.cells cs e part)) (hlen : v.cells.length = k) (htup : v.isTuple = false) (hov : over v.cells off cs = some cs')
    (hc : clearB (ancOf all i) b nl = true) (hjs : seenB (ancOf all i) js = true) (hg : GuardOn all l o) (hd : o.dst = od) (hlt : dstOk fr.nt od = true)
    (h : RegN E all rest (i + 1) fr (putL od (.tuple []) l) (mkS n bd (bif Nat.blt b bd then b :: lg else lg) ((b, some (.cells cs' e part)) :: hl)) (i :: js) ((i, b) :: nl) K) : RegN E all (o :: rest) i fr l (mkS n bd lg hl) js nl K :=
  RegN.storeL (Qc hbn) ho hn ha hx ((Dq b).trans hg0) hlen htup hov hc hjs hg hd hlt h
end
theorem DD {E : Env} {l : Sl} {o : Oper} {src dst : TypeId} {x : Operand} {j kx : IntKind} {a : Nat} (ho : o.op = .convert src dst x) (hs : und E src = some (.int j)) (hd : und E dst = some (.int .u8)) (hx : opndL x l = some (.int kx (a : Nat))) (h : a < 256) : OpQ E o l (.int .u8 (a : Nat)) := by
 have := Fm (E := E) (l := l) ho hs hd hx
 unfold wrapI at this
 rwa [show IntKind.u8.wrap (a : Int) = (a : Int) from by rw [IntKind.wrap_u8]; omega] at this
theorem B9 {E : Env} {fr : Fr} {l : Sl} {s : St} {o : Oper} {src dst e : TypeId} {x : Operand} {a v : AV} (ho : o.op = .convert src dst x) (hs : und E src = some (.slice e)) (hd : und E dst = some .string) (hb : isByte E e = true) (hx : opndL x l = some a) (hv : bytesStr s a = some v) : OpL E o fr l s v s := fun T hT =>
 OpTo.read (x := opnd E x) (f := fun T s=>(opnd E x T).bind (bytesStr s)) (by
  rw [ho]
  show convC E src dst x = _
  unfold convC
  rw [hs,hd]
  simp only [hb,cond_true]) (by simp only [Ak hT hx,Qe,hv])
section
variable {E : Env} {fr : Fr} {l : Sl} {st s : St} {o : Oper} {all rest : List Oper} {i : Nat} {js : List Nat} {nl : News} {K : Sl → St → Prop} {od : Option Nat}
theorem runsF_to {c : Call} {f : Nat} {args : List AV} {R : AV → St → Prop} (hb : hasBody E f = true) (ho : o.op = .call c) (hc : c.callee = .value (.func f)) (ha : opndsL c.args.toList l = some args) (h : RunsV E f args s R) : ∀ T, Has l T → ∃ v s', OpTo E o fr T s v s' ∧ R v s' := by
  intro T hT
  have hop : opC E o.type o.op = .call (fun T _ => (opndsC E c.args.toList T).bind fun args => some (f, args)) := by
    rw [ho]
    show callC E o.type c = _
    unfold callC
    rw [hc]
    simp only [hb, cond_true]
  obtain ⟨N, cr, hr, hm⟩ := h
  have key : ∀ n, N ≤ n → (((opndsC E c.args.toList T).bind fun args => some (f, args)).bind fun p => callF E (ev E n) p.1 p.2 s) = some cr := fun n hn => by
    rw [BM hT ha]
    simp only [Qe]
    exact hr n hn
  cases cr with
  | same v => exact ⟨v, s, ⟨N, fun n hn k => by
      rw [hop]
      show crOut fr T s (k.run (ev E n) fr T) (((opndsC E c.args.toList T).bind fun args => some (f, args)).bind fun p => callF E (ev E n) p.1 p.2 s) = _
      rw [key n hn]; rfl⟩, hm⟩
  | val v s' => exact ⟨v, s', ⟨N, fun n hn k => by
      rw [hop]
      show crOut fr T s (k.run (ev E n) fr T) (((opndsC E c.args.toList T).bind fun args => some (f, args)).bind fun p => callF E (ev E n) p.1 p.2 s) = _
      rw [key n hn]; rfl⟩, hm⟩
  | pan _ _ => exact hm.elim
theorem EI {c : Call} {f : Nat} (hb : hasBody E f = true) (ho : o.op = .call c) (hc : c.callee = .value (.func f)) : quietSo (opC E o.type o.op) = true ∧ ∀ T,touchOf (opC E o.type o.op) T = .all := by
 have hop : opC E o.type o.op = .call (fun T _=>(opndsC E c.args.toList T).bind fun args=>some (f,args)) := by
  rw [ho]
  show callC E o.type c = _
  unfold callC
  rw [hc]
  simp only [hb,cond_true]
 rw [hop]
 exact ⟨rfl,fun _=>rfl⟩
theorem RegN.runsF {c : Call} {f : Nat} {args : List AV} {R : AV → St → Prop} (hb : hasBody E f = true) (ho : o.op = .call c) (hc : c.callee = .value (.func f)) (ha : opndsL c.args.toList (restr (tmpsOf o.op.operands.toList) l) = some args)
    (h : RunsV E f args (st.sub st.heap) R) (hjs : seenB (ancOf all i) js = true) (hnl : (nl.all fun p => Nat.testBit (ancOf all i) p.1) = true) (hg : GuardOn all l o) (hd : o.dst = od) (hlt : dstOk fr.nt od = true)
    (hk : ∀ v s2, R v s2 → st.next ≤ s2.next ∧ (∀ b ∈ s2.log, b < st.next) ∧ ∀ nl2, RegN E all rest (i + 1) fr (putL od v l) (st.merged s2) (i :: js) nl2 K) : RegN E all (o :: rest) i fr l st js nl K :=
  RegN.actK (EI hb ho hc).1 (EI hb ho hc).2 hjs hnl hg hd hlt fun T hT =>
    let ⟨v, s2, h1, h2⟩ := runsF_to hb ho hc ha h T hT
    ⟨v, s2, h1, hk v s2 h2⟩
end
theorem RegN.lookF {E : Env} {fr : Fr} {l : Sl} {st : St} {o : Oper} {all rest : List Oper} {i : Nat} {js : List Nat} {nl : News} {K : Sl → St → Prop} {od : Option Nat} {c : Call} {f : Nat} {args : List AV} {v : AV} (hb : hasBody E f = true) (ho : o.op = .call c) (hc : c.callee = .value (.func f))
    (ha : opndsL c.args.toList (restr (tmpsOf o.op.operands.toList) l) = some args) (h : RunsV E f args (st.sub st.heap) fun x s2 => x = v ∧ s2 = st.sub st.heap) (hnl : (nl.all fun p => Nat.testBit (ancOf all i) p.1) = true) (hg : GuardOn all l o) (hd : o.dst = od) (hlt : dstOk fr.nt od = true)
    (hk : RegN E all rest (i + 1) fr (putL od v l) st (i :: js) nl K) : RegN E all (o :: rest) i fr l st js nl K :=
  RegN.look (EI hb ho hc).1 (fun T _ => (EI hb ho hc).2 T) (fun T hT => by
    obtain ⟨x, s2, h1, rfl, rfl⟩ := runsF_to hb ho hc ha h T hT
    exact h1) hnl hg hd hlt hk
structure Loggd (s s' : St) : Prop where
 bound : s'.bound = s.bound
 more : ∀ c ∈ s.log,c ∈ s'.log
 same : ∀ c,c < s.bound → c ∉ s'.log → s'.heap.get c = s.heap.get c
theorem Loggd.refl {s : St} : Loggd s s := ⟨rfl,fun _ h=>h,fun _ _ _=>rfl⟩
theorem Loggd.trans {s s1 s2 : St} (h : Loggd s s1) (h2 : Loggd s1 s2) : Loggd s s2 :=
 ⟨h2.bound.trans h.bound,fun c hc=>h2.more c (h.more c hc),fun c hc hn=>(h2.same c (by rw [h.bound]; exact hc) hn).trans (h.same c hc fun hm=>hn (h2.more c hm))⟩
theorem Loggd.put {s : St} {b : Nat} {o : Option AObj} : Loggd s (s.put b o) :=
 ⟨rfl,fun _ hc=>mem_put_old hc,fun c hc hn=>by
  rw [AS]
  split
  ·next e=>subst e; exact absurd (DA hc) hn
  ·rfl⟩
theorem Loggd.alloc {s : St} {o : AObj} (hb : s.bound ≤ s.next) : Loggd s (s.alloc o) :=
 ⟨rfl,fun _ hc=>hc,fun c hc _=>by
  show (s.heap.set s.next _).get c = _
  rw [AC,if_neg (by omega)]⟩
theorem B2 {n c : Nat} : ∀ {L l : List Nat}, (c ∈ L ∧ c < n) ∨ c ∈ l → c ∈ below n L l
  | [], l, h => by
      rcases h with ⟨h, _⟩ | h
      · cases h
      · exact h
  | b :: r, l, h => by
      show c ∈ (bif Nat.blt b n then b :: below n r l else below n r l)
      cases hb : Nat.blt b n with
      | true =>
        show c ∈ b :: below n r l
        rcases h with ⟨h, hl⟩ | h
        · cases h with
          | head => exact Qh
          | tail _ h => exact Qg _ (B2 (.inl ⟨h, hl⟩))
        · exact Qg _ (B2 (.inr h))
      | false =>
        show c ∈ below n r l
        rcases h with ⟨h, hl⟩ | h
        · cases h with
          | head => have := Qd (show c + 1 ≤ n from hl); rw [show Nat.blt c n = Nat.ble (c + 1) n from rfl, this] at hb; cases hb
          | tail _ h => exact B2 (.inl ⟨h, hl⟩)
        · exact B2 (.inr h)
theorem Loggd.back {s st : St} (h : Loggd s.enter st) (hb : s.bound ≤ s.next) : Loggd s (s.back st) :=
 ⟨rfl,fun c hc=>B2 (.inr hc),fun c hc hn=>h.same c (Nat.lt_of_lt_of_le hc hb) fun hm=>hn (B2 (.inl ⟨hm,hc⟩))⟩
theorem Loggd.freed {s : St} {b : Nat} {cap : Option Nat} : Loggd s (freed s b cap) := by
 unfold Am.freed
 cases tailO cap with
 | true=>exact Loggd.put
 | false=>exact Loggd.refl
theorem freed_next {s : St} {b : Nat} {cap : Option Nat} : (freed s b cap).next = s.next ∧ (freed s b cap).bound = s.bound := by
 unfold Am.freed
 cases tailO cap <;> exact ⟨rfl,rfl⟩
theorem Fg {s s' : St} {e : TypeId} {sz by_ n : Nat} {new : List AV} {v v' : AV} (hb : s.bound ≤ s.next) (h : appendTo s e sz by_ new n v = some (v',s')) : Loggd s s' := by
 cases v with
 | nilslice =>
  unfold appendTo at h
  cases hn : Nat.beq n 0 with
  | true=>rw [hn] at h; cases h; exact Loggd.refl
  | false =>
   cases hs : small n by_ with
   | true=>rw [hn,hs] at h; cases h; exact Loggd.alloc hb
   | false=>rw [hn,hs] at h; cases h
 | islice cs len sz' cl =>
  unfold appendTo at h
  cases hn : Nat.beq n 0 with
  | true=>rw [hn] at h; cases h; exact Loggd.refl
  | false=>rw [hn] at h; cases h
 | slice b off len sz' cap =>
  unfold appendTo at h
  cases hn : Nat.beq n 0 with
  | true=>rw [hn] at h; cases h; exact Loggd.refl
  | false =>
   rw [hn] at h
   cases hs : (Nat.beq sz' sz && small (len + n) by_) with
   | false=>simp only [cond_false,hs] at h; cases h
   | true =>
    simp only [cond_false,hs,cond_true] at h
    unfold appendOb at h
    split at h
    ·next cs e0 sl _ =>
     unfold appendIn at h
     cases hd : dropN off cs with
     | none=>rw [hd] at h; cases h
     | some l =>
      rw [hd] at h
      simp only [Qe] at h
      cases hf : fitsA sz len n cap l with
      | true =>
       rw [hf] at h
       simp only [cond_true] at h
       cases ho : over new (off + len * sz) cs with
       | none=>rw [ho] at h; cases h
       | some cs'=>rw [ho] at h; cases h; exact Loggd.put
      | false =>
       rw [hf] at h
       simp only [cond_false] at h
       cases hq : (Nat.beq e e0 || !(tailO cap)) with
       | false=>rw [hq] at h; cases h
       | true =>
        rw [hq] at h
        simp only [cond_true] at h
        cases ht : takeN (len * sz) l with
        | none=>rw [ht] at h; cases h
        | some old =>
         rw [ht] at h
         cases h
         exact Loggd.freed.trans (Loggd.alloc (by rw [freed_next.1,freed_next.2]; exact hb))
    ·cases h
 | _=>cases h
theorem Eh {st s2 : St} {h : Tr AObj} (hn : st.next ≤ s2.next) (hl : Loggd (st.sub h) s2) (hh : h = st.heap) : ∀ c,c < s2.next → (st.merged s2).heap.get c = s2.heap.get c :=
 merged_eq hn fun c hc hno=>by subst hh; exact hl.same c hc hno
theorem Loggd.region {st s2 : St} (hn : st.next ≤ s2.next) (hl : Loggd (st.sub st.heap) s2) (hb : st.bound ≤ st.next) : Loggd st (st.merged s2) :=
 ⟨rfl,fun c hc=>B2 (.inr hc),fun c hc hno=>(Eh hn hl rfl c (by omega)).trans (hl.same c (show c < st.next by omega) fun hm=>hno (B2 (.inl ⟨hm,hc⟩)))⟩
def ListR (s : St) (v : AV) (cs : List AV) : Prop :=
 (v = .nilslice ∧ cs = []) ∨ (∃ cl,v = .islice cs cs.length 1 cl) ∨
  ∃ b off cap bc e part,v = .slice b off cs.length 1 cap ∧ b < s.next ∧ s.heap.get b = some (.cells bc e part) ∧ off + cs.length ≤ bc.length ∧ (bc.drop off).take cs.length = cs
theorem ListR.keep {s s' : St} {v : AV} {cs : List AV} (h : ListR s v cs) (hn : s.next ≤ s'.next) (hh : ∀ c,ownB c v = true → s'.heap.get c = s.heap.get c) : ListR s' v cs := by
 rcases h with h | h | ⟨b,off,cap,bc,e,part,rfl,hb,hg,h1,h2⟩
 ·exact .inl h
 ·exact .inr (.inl h)
 ·exact .inr (.inr ⟨b,off,cap,bc,e,part,rfl,by omega,(hh b (Nat.beq_refl b)).trans hg,h1,h2⟩)
theorem ListR.own {s : St} {v : AV} {cs : List AV} (h : ListR s v cs) {c : Nat} (hc : ownB c v = true) : c < s.next := by
 rcases h with ⟨rfl,_⟩ | ⟨_,rfl⟩ | ⟨b,off,cap,bc,e,part,rfl,hb,_⟩
 ·cases hc
 ·cases hc
 ·have := Qb (show Nat.beq b c = true from hc); omega
theorem ListR.len {s : St} {v : AV} {cs : List AV} (h : ListR s v cs) : lenSl v = some (.int .i64 (cs.length : Nat)) := by
 rcases h with ⟨rfl,rfl⟩ | ⟨_,rfl⟩ | ⟨b,off,cap,bc,e,part,rfl,_⟩ <;> rfl
theorem ListR.at {E : Env} {s : St} {v : AV} {cs : List AV} (h : ListR s v cs) {i : Nat} (hi : i < cs.length) {t : TypeId} (h1 : isAgg E t = some false) (h2 : sizeOf E t = some 1) : ∃ p,idxSliceV (0 + 1) i v = some p ∧ loadC E t s p = some cs[i] := by
 have hlt : Nat.blt i cs.length = true := Qd hi
 have hdrop : cs.drop i = cs[i] :: cs.drop (i + 1) := List.drop_eq_getElem_cons hi
 rcases h with ⟨rfl,rfl⟩ | ⟨_,rfl⟩ | ⟨b,off,cap,bc,e,part,rfl,hb,hg,hl1,hl2⟩
 ·simp at hi
 ·refine ⟨.iptr (cs[i] :: cs.drop (i + 1)),?_,?_⟩
  ·show (bif Nat.blt i cs.length then (dropN (i * (0 + 1)) cs).bind iptrO else none) = _
   rw [hlt,Nat.zero_add,Nat.mul_one,dropN_ok (by omega),hdrop]; rfl
  ·unfold loadC
   simp only [h1,h2]
   rfl
 ·refine ⟨.ptr b (off + i * (0 + 1)),?_,?_⟩
  ·show (bif Nat.blt i cs.length then some (AV.ptr b (off + i * (0 + 1))) else none) = _
   rw [hlt]; rfl
  ·refine Al h1 h2 hg ?_
   have : ((bc.drop off).take cs.length)[i]? = some cs[i] := by rw [hl2,Qi hi]
   rw [List.getElem?_take_of_lt hi,List.getElem?_drop] at this
   rw [Nat.zero_add,Nat.mul_one]; exact this
theorem ListR.recs {s : St} {α : Type} {enc : α → AV} (l : List α) : ListR s (recs (fun a=>[enc a]) 1 l) (l.map enc) := by
 have e : l.flatMap (fun a=>[enc a]) = l.map enc := by induction l with
  | nil=>rfl
  | cons a l ih=>rw [List.flatMap_cons,ih]; rfl
 refine .inr (.inl ⟨true,?_⟩)
 unfold Am.recs
 rw [e,Qn]
theorem ListR.new {s : St} {b : Nat} {cs : List AV} {e : TypeId} {part : Bool} {cap : Option Nat} (hg : s.heap.get b = some (.cells cs e part)) (hb : b < s.next) {n : Nat} (hn : n = cs.length) : ListR s (.slice b 0 n 1 cap) cs := by
 subst hn
 exact .inr (.inr ⟨b,0,cap,cs,e,part,rfl,hb,hg,by omega,by rw [List.drop_zero,List.take_length]⟩)
def FullR (s : St) (e : TypeId) (v : AV) (cs : List AV) : Prop :=
 ∃ b cap part,v = .slice b 0 cs.length 1 cap ∧ cs ≠ [] ∧ b < s.next ∧ s.heap.get b = some (.cells cs e part) ∧ (cap = none ∨ cap = some cs.length)
theorem FullR.keep {s s' : St} {e : TypeId} {v : AV} {cs : List AV} (h : FullR s e v cs) (hn : s.next ≤ s'.next) (hh : ∀ c,ownB c v = true → s'.heap.get c = s.heap.get c) : FullR s' e v cs := by
 obtain ⟨b,cap,part,rfl,h0,hb,hg,hc⟩ := h
 exact ⟨b,cap,part,rfl,h0,by omega,(hh b (Nat.beq_refl b)).trans hg,hc⟩
theorem FullR.list {s : St} {e : TypeId} {v : AV} {cs : List AV} (h : FullR s e v cs) : ListR s v cs := by
 obtain ⟨b,cap,part,rfl,h0,hb,hg,hc⟩ := h
 exact ListR.new hg hb rfl
theorem FullR.strs {s : St} {e : TypeId} {v : AV} {l : List (List UInt8)} (h : FullR s e v (l.map .str)) : StrsR s v l := by
 obtain ⟨b,cap,part,rfl,h0,hb,hg,hc⟩ := h
 refine .inr (.inr ⟨b,0,cap,l.map .str,e,part,by rw [Qn],hb,hg,by rw [Qn]; omega,by rw [List.drop_zero,← Qn (f := AV.str),List.take_length],fun c hcc=>?_⟩)
 rcases hc with rfl | rfl
 ·cases hcc
 ·cases hcc; rw [Qn]; exact Qj _
theorem FullR.own {s : St} {e : TypeId} {v : AV} {cs : List AV} (h : FullR s e v cs) {c : Nat} (hc : ownB c v = true) : c < s.next := h.list.own hc
theorem FullR.under {s : St} {e : TypeId} {v : AV} {cs : List AV} (h : FullR s e v cs) {m : Nat} (hm : ∀ c,ownB c v = true → m ≤ c) (k : Nat) : underV m (k + 1) v = false := by
 obtain ⟨b,cap,part,rfl,h0,hb,hg,hc⟩ := h
 have := hm b (Nat.beq_refl b)
 show Nat.blt b m = false
 cases hh : Nat.blt b m with
 | false=>rfl
 | true=>have := Qc hh; omega
theorem FullR.new {s : St} {e : TypeId} {cs : List AV} {part : Bool} {b n : Nat} (hg : s.heap.get b = some (.cells cs e part)) (hb : b < s.next) (h0 : cs ≠ []) (hn : n = cs.length) : FullR s e (.slice b 0 n 1 (some n)) cs := by
 subst hn
 exact ⟨b,_,part,rfl,h0,hb,hg,.inr rfl⟩
theorem FullR.append {s : St} {e : TypeId} {by_ : Nat} {v x : AV} {cs : List AV} (h : FullR s e v cs) (hsm : small (cs.length + 1) by_ = true) :
    ∃ v' s', appendTo s e 1 by_ [x] 1 v = some (v', s') ∧ FullR s' e v' (cs ++ [x]) ∧ (∀ c, ownB c v' = true → c = s.next) ∧ s'.next = s.next + 1 ∧ s'.bound = s.bound ∧ (∀ c ∈ s'.log, c ∈ s.log ∨ (c < s.bound ∧ ownB c v = true)) ∧
      ∀ c, c < s.next → ownB c v = false → s'.heap.get c = s.heap.get c := by
  obtain ⟨b, cap, part, rfl, h0, hb, hg, hc⟩ := h
  obtain ⟨k, hk⟩ : ∃ k, cs.length = k + 1 := by cases cs with | nil => exact absurd rfl h0 | cons _ t => exact ⟨t.length, rfl⟩
  have hfit : fitsA 1 cs.length 1 cap cs = false := by
    rcases hc with rfl | rfl
    · show Nat.ble ((cs.length + 1) * 1) (len' cs) = false
      rw [Dg, Nat.mul_one]
      cases hb : Nat.ble (cs.length + 1) cs.length with
      | false => rfl
      | true => have := Qc hb; omega
    · show Nat.ble (cs.length + 1) cs.length = false
      cases hb : Nat.ble (cs.length + 1) cs.length with
      | false => rfl
      | true => have := Qc hb; omega
  have hap : appendTo s e 1 by_ [x] 1 (.slice b 0 cs.length 1 cap) = some (.slice s.next 0 (cs.length + 1) 1 none, (freed s b cap).alloc (.cells (cs ++ [x]) e true)) := by
    unfold appendTo
    simp only [show Nat.beq 1 0 = false from rfl, cond_false, Nat.beq_refl, hsm, Bool.and_self, cond_true, hg, appendOb, appendIn]
    rw [show dropN 0 cs = some cs from rfl]
    simp only [Qe, hfit, cond_false, Bool.true_or, cond_true]
    rw [Nat.mul_one, takeN_all]
    rfl
  have hfr : (freed s b cap).next = s.next ∧ (freed s b cap).bound = s.bound := freed_next
  have hget : ∀ c, ownB c (.slice b 0 cs.length 1 cap) = false → (freed s b cap).heap.get c = s.heap.get c := fun c ho => by
    have hcb : c ≠ b := fun h => by subst h; rw [show ownB c (.slice c 0 cs.length 1 cap) = true from Nat.beq_refl c] at ho; cases ho
    unfold freed
    cases tailO cap with
    | true => show (s.put b none).heap.get c = _; rw [AS, if_neg hcb]
    | false => rfl
  have hlog : ∀ c ∈ (freed s b cap).log, c ∈ s.log ∨ (c < s.bound ∧ ownB c (.slice b 0 cs.length 1 cap) = true) := fun c hc => by
    unfold freed at hc
    cases ht : tailO cap with
    | true =>
      rw [ht] at hc
      rcases mem_put (show c ∈ (s.put b none).log from hc) with h | ⟨rfl, h⟩
      · exact .inl h
      · exact .inr ⟨h, Nat.beq_refl _⟩
    | false => rw [ht] at hc; exact .inl hc
  refine ⟨_, _, hap, ⟨s.next, none, true, by rw [Qm]; rfl, by simp, by show s.next < (freed s b cap).next + 1; omega, ?_, .inl rfl⟩, fun c hc => (Qb (show Nat.beq s.next c = true from hc)).symm, by show (freed s b cap).next + 1 = _; omega, hfr.2, hlog, fun c hc ho => ?_⟩
  · show ((freed s b cap).heap.set (freed s b cap).next _).get s.next = _
    rw [hfr.1, AC, if_pos rfl]
  · show ((freed s b cap).heap.set (freed s b cap).next _).get c = _
    rw [hfr.1, AC, if_neg (by omega), hget c ho]
theorem leave_raw {E : Env} {f : FuncId} {v : AV} {s st : St} {R : AV → St → Prop} (hf : E.frz f = 0) (h1 : st.log = [] → underV s.next 40 v = true → R v s) (h2 : R v (s.back st)) :
    ∃ cr, leave E f s v st = some cr ∧ match cr with
      | .same v => R v s
      | .val v s' => R v s'
      | .pan _ _ => False := by
  have e : leave E f s v st = some (leaveQ s v st st.log) := by
    unfold leave frozen
    rw [hf]
    rfl
  rw [e]
  refine ⟨_, rfl, ?_⟩
  cases hl : st.log with
  | nil =>
    show match (bif underV s.next 40 v then CR.same v else CR.val v (s.back st)) with
      | .same v => R v s
      | .val v s' => R v s'
      | .pan _ _ => False
    cases hu : underV s.next 40 v with
    | true => exact h1 hl hu
    | false => exact h2
  | cons _ _ => exact h2
def NewsOf (nl : News) (i n : Nat) (lg : List Nat) (nl2 : News) : Prop := ∀ p ∈ nl2,p ∈ nl ∨ (p.1 = i ∧ (n ≤ p.2 ∨ p.2 ∈ lg))
theorem newsOf_tag {nl : News} {i n k : Nat} {lg : List Nat} : NewsOf nl i n lg (tagL i (tagL i nl (newL n k)) lg) := fun p hp=>by
 rcases tagL_mem.1 hp with ⟨h1,h2⟩ | hp
 ·exact .inr ⟨h1,.inr h2⟩
 ·rcases tagL_mem.1 hp with ⟨h1,h2⟩ | hp
  ·exact .inr ⟨h1,.inl (newL_mem.1 h2).1⟩
  ·exact .inl hp
theorem NewsOf.all {nl nl2 : News} {i n a : Nat} {lg : List Nat} (h : NewsOf nl i n lg nl2) (h1 : (nl.all fun p=>Nat.testBit a p.1) = true) (h2 : Nat.testBit a i = true) : (nl2.all fun p=>Nat.testBit a p.1) = true :=
 List.all_eq_true.2 fun p hp=>by
  rcases h p hp with hp | ⟨rfl,_⟩
  ·exact List.all_eq_true.1 h1 p hp
  ·exact h2
theorem NewsOf.clear {nl nl2 : News} {i n a b : Nat} {lg : List Nat} (h : NewsOf nl i n lg nl2) (h1 : clearB a b nl = true) (hb : b < n) (hl : b ∉ lg) : clearB a b nl2 = true :=
 List.all_eq_true.2 fun p hp=>by
  rcases h p hp with hp | ⟨_,h2⟩
  ·exact List.all_eq_true.1 h1 p hp
  ·have hne : p.2 ≠ b := fun e=>by
    rcases h2 with h2 | h2
    ·omega
    ·exact hl (e ▸ h2)
   cases hh : Nat.beq p.2 b with
   | false=>rfl
   | true=>exact absurd (Qb hh) hne
section
variable {E : Env} {fr : Fr} {l : Sl} {st : St} {o : Oper} {all rest : List Oper} {i : Nat} {js : List Nat} {nl : News} {K : Sl → St → Prop} {od : Option Nat}
theorem RegN.actK2 (hq : quietSo (opC E o.type o.op) = true) (htch : ∀ T, touchOf (opC E o.type o.op) T = .all) (hjs : seenB (ancOf all i) js = true) (hnl : (nl.all fun p => Nat.testBit (ancOf all i) p.1) = true) (hg : GuardOn all l o) (hd : o.dst = od) (hlt : dstOk fr.nt od = true)
    (h : ∀ T, Has (restr (tmpsOf o.op.operands.toList) l) T → ∃ v s2, OpTo E o fr T (st.sub st.heap) v s2 ∧ st.next ≤ s2.next ∧ (∀ b ∈ s2.log, b < st.next) ∧ ∀ nl2, NewsOf nl i st.next s2.log nl2 → RegN E all rest (i + 1) fr (putL od v l) (st.merged s2) (i :: js) nl2 K) : RegN E all (o :: rest) i fr l st js nl K := by
  intro T news looked hT hnw hlk
  obtain ⟨v, s2, ⟨N, hN⟩, hnx, hlog, h⟩ := h _ (hT.restr (tmpsOf o.op.operands.toList))
  let dd : DOp := dop E all i o
  let q : DSt := ⟨T, st, news, looked⟩
  let T' := pickT T (tmpsOf o.op.operands.toList) .nil
  let re := reOf dd q (.all, v, s2)
  have hanc : dd.anc = ancOf all i := rfl
  obtain ⟨M, l', q', hk, hT', hr⟩ := h (tagL i (tagL i nl (newL st.next (s2.next - st.next))) s2.log) (newsOf_tag (n := st.next) (lg := s2.log)) (putT od v T) (tagL i (tagL i news (newL st.next (s2.next - st.next))) s2.log) ((i, .all, re) :: looked) (hT.putL od v)
    (fun p hp => DS (fun p hp => DS hnw hp) hp) (fun p hp => by
    rcases Qk.1 hp with rfl | hp
    · exact .inl (Qh ..)
    · exact (hlk p hp).imp (Qg _) id)
  refine ⟨max N M, l', q', hk, hT', fun n hn => ?_⟩
  have hgo : drawGo E (ev E n) fr dd q T' = some (.all, v, s2) := by
    unfold drawGo
    have hqs : quietSo dd.so = true := hq
    rw [hqs]
    simp only [cond_true]
    have ht : touchOf dd.so T' = .all := htch T'
    rw [ht]
    have hst := hN n (by omega) K0
    have hH : subHeap (ancOf all i) news st.heap .all = st.heap := hide_clear hnl hnw
    show drawGot .all ((stepC E (opC E o.type o.op) K0).run (ev E n) fr T' (st.sub (subHeap dd.anc news st.heap .all))) = _
    rw [hanc, hH, hst]; rfl
  have hmay : ∀ L : List Nat, (∀ b ∈ L, b < st.next) → mayWrite dd.anc st.next s2.next s2.heap q L = true := by
    intro L
    induction L with
    | nil => intro _; rfl
    | cons b L ih =>
      intro hL
      unfold mayWrite
      have h1 : Nat.blt b st.next = true := Qd (hL b (Qh ..))
      have h2 : hiddenB dd.anc b q.news = false := Dk (clear_all hnl) hnw
      have h3 : freeOf dd.anc b s2.next (s2.heap.get b) q.looked = true := free_seen hjs hlk
      rw [h1, h2, h3, ih fun c hc => hL c (Qg _ hc)]
      rfl
  show ((drawRun E all (ev E n) fr dd q).bind fun r => (drawPut fr.nt dd q r).bind fun q' => drawAll E all (ev E n) fr (planD E (befores all) rest (i + 1)) q') = _
  rw [runN hT hg hgo]
  simp only [Qe]
  have hput : drawPut fr.nt dd q (.all, v, s2) = some ⟨putT od v T, st.merged s2, tagL i (tagL i news (newL st.next (s2.next - st.next))) s2.log, (i, .all, re) :: looked⟩ := by
    unfold drawPut
    have h1 : Nat.ble q.st.next s2.next = true := Qd hnx
    have h2 : mayWrite dd.anc q.st.next s2.next s2.heap q s2.log = true := hmay s2.log hlog
    have h3 : dd.o.dst = od := hd
    simp only [h1, h2, h3, Bool.and_self, cond_true, putC_ok hlt, Qe]
    rfl
  rw [hput]
  simp only [Qe]
  exact hr n (by omega)
theorem Fi {c : Call} {f : Nat} {args : List AV} {R : AV → St → Prop} (hb : hasBody E f = true) (ho : o.op = .call c) (hc : c.callee = .value (.func f)) (ha : opndsL c.args.toList (restr (tmpsOf o.op.operands.toList) l) = some args)
    (h : RunsV E f args (st.sub st.heap) R) (hjs : seenB (ancOf all i) js = true) (hnl : (nl.all fun p => Nat.testBit (ancOf all i) p.1) = true) (hg : GuardOn all l o) (hd : o.dst = od) (hlt : dstOk fr.nt od = true)
    (hk : ∀ v s2, R v s2 → st.next ≤ s2.next ∧ (∀ b ∈ s2.log, b < st.next) ∧ ∀ nl2, NewsOf nl i st.next s2.log nl2 → RegN E all rest (i + 1) fr (putL od v l) (st.merged s2) (i :: js) nl2 K) : RegN E all (o :: rest) i fr l st js nl K :=
  RegN.actK2 (EI hb ho hc).1 (EI hb ho hc).2 hjs hnl hg hd hlt fun T hT =>
    let ⟨v, s2, h1, h2⟩ := runsF_to hb ho hc ha h T hT
    ⟨v, s2, h1, hk v s2 h2⟩
end
theorem EvtL.cutM {E : Env} {fr : Fr} {l : Sl} {s : St} {Q : Ex → Fr → Sl → St → Prop} {c : Code} {α : Type} (I : α → Sl × St) (G : α → Prop) (h1 : EvtL E c fr l s fun ex fr' l' s' => ex = .normal ∧ fr' = fr ∧ ∃ x, G x ∧ s' = (I x).2 ∧ ∀ p ∈ (I x).1, look p.1 l' = some p.2)
    (h2 : ∀ x l', G x → (∀ p ∈ (I x).1, look p.1 l' = some p.2) → Q .normal fr l' (I x).2) : EvtL E c fr l s Q :=
  h1.mono fun ex fr' l' s' ⟨e1, e2, x, hx, e3, e4⟩ => by
    subst e1 e2 e3
    exact h2 x l' hx e4
theorem EvtL.at {E : Env} {fr : Fr} {l l' : Sl} {s s' : St} {Q : Ex → Fr → Sl → St → Prop} {c : Code} (hs : s = s') (hl : ∀ p ∈ l',look p.1 l = some p.2) (h : EvtL E c fr l' s' Q) : EvtL E c fr l s Q := by
 subst hs
 exact EvtL.sub h hl
theorem FullR.one {C : St} {e : TypeId} {by_ : Nat} {v x : AV} {cs : List AV} (h : FullR C e v cs) (hsm : small (cs.length + 1) by_ = true) :
    ∃ v' s2, appendTo ((C.alloc (.cells [x] e false)).sub (C.alloc (.cells [x] e false)).heap) e 1 by_ [x] 1 v = some (v', s2) ∧ C.next + 1 ≤ s2.next ∧ (∀ b ∈ s2.log, b < C.next + 1) ∧ FullR ((C.alloc (.cells [x] e false)).merged s2) e v' (cs ++ [x]) ∧ (∀ k, ownB k v' = true → C.next ≤ k) ∧
      Chg (C.alloc (.cells [x] e false)) ((C.alloc (.cells [x] e false)).merged s2) (fun k => ownB k v = true) := by
  have hA : FullR ((C.alloc (.cells [x] e false)).sub (C.alloc (.cells [x] e false)).heap) e v cs := h.keep (Nat.le_succ _) fun c hc => Bk (h.own hc)
  obtain ⟨v', s2, ha, hf, ho, hn, hb, hlg, hhp⟩ := hA.append (x := x) hsm
  have hL : Loggd ((C.alloc (.cells [x] e false)).sub (C.alloc (.cells [x] e false)).heap) s2 := Fg (Qj _) ha
  have hn' : s2.next = C.next + 1 + 1 := hn
  have hmg := Eh (st := C.alloc (.cells [x] e false)) (show C.next + 1 ≤ s2.next by omega) hL rfl
  refine ⟨v', s2, ha, by omega, fun b hb => ?_, hf.keep (Qj _) fun k hk => hmg k (hf.own hk), fun k hk => ?_, Chg.merged ⟨by show C.next + 1 ≤ _; omega, hb, hlg, fun c hc ho => hhp c hc (by simpa using ho)⟩⟩
  · rcases hlg b hb with h | ⟨h, _⟩
    · cases h
    · exact h
  · have := ho k hk
    have e : ((C.alloc (.cells [x] e false)).sub (C.alloc (.cells [x] e false)).heap).next = C.next + 1 := rfl
    omega
end Am
