/- The abstract machine: more rules; contracts; heaps as lists; strings and builders; lists that grow; short names. -/
import Derived.Test.YtlclpmbeaofohaaGreatAmF
import Derived.ChangeReads
import Derived.ChangeArms
set_option linter.unusedSectionVars false
set_option linter.unusedVariables false
set_option linter.unusedSimpArgs false

/- The abstract machine: regions that draw their order, with what was made or written known block by block. -/
namespace Am
open Go
section
variable (E : Env)
/-- An operation that looked at a block, and what the block might be as well. -/
abbrev Rd := Nat × Nat × (Nat → Option AObj → Prop)
/-- Behind a panic in a drawn region; what is known of operations that looked at blocks. -/
structure PN where
  pan : AV → St → Prop
  rl : List Rd
def RdOk (KN : PN) (i : Nat) (looked : Looked) : Prop := (∀ e ∈ KN.rl, e.1 < i) ∧ (∀ p ∈ looked, p.1 < i) ∧ ∀ p ∈ looked, ∀ e ∈ KN.rl, p.1 = e.1 → p.2.1 = .block e.2.1 ∧ ∀ n o, e.2.2 n o → p.2.2 n o = true
theorem RdOk.cons {KN : PN} {i : Nat} {looked : Looked} {tch : Touch} {re : Nat → Option AObj → Bool} (h : RdOk KN i looked) : RdOk KN (i + 1) ((i, tch, re) :: looked) :=
  ⟨fun e he => Nat.lt_succ_of_lt (h.1 e he), fun p hp => by
    rcases List.mem_cons.1 hp with rfl | hp
    · exact Nat.lt_succ_self _
    · exact Nat.lt_succ_of_lt (h.2.1 p hp), fun p hp e he x => by
    rcases List.mem_cons.1 hp with rfl | hp
    · have := h.1 e he
      have x : i = e.1 := x
      omega
    · exact h.2.2 p hp e he x⟩
/-- What is to be so behind a drawn region, or behind a panic in it: then the slots that it fills are forgotten. -/
def AtN (KN : PN) (K : Sl → St → Prop) (all : List Oper) (T0 : Tr AV) (ex : Ex) (l : Sl) (T : Tr AV) (s : St) : Prop := match ex with
  | .normal => K l s ∧ Has l T
  | .panic v => KN.pan v s ∧ T = clearT all T0
  | _ => False
/-- As RegM; 'nl': which blocks may have been made or written, and by which operations. -/
def RegN (KN : PN) (all rest : List Oper) (i : Nat) (fr : Fr) (l : Sl) (st : St) (js : List Nat) (nl : News) (K : Sl → St → Prop) : Prop :=
  ∀ (T0 T : Tr AV) (news : News) (looked : Looked), Has l T → (∀ p ∈ news, p ∈ nl) → (∀ p ∈ looked, p.1 ∈ js ∨ p.2.1 = .nothing) → RdOk KN i looked →
    ∃ N ex l' T' s', AtN KN K all T0 ex l' T' s' ∧ ∀ n, N ≤ n → drawRest E all (ev E n) fr T0 (planD E (befores all) rest i) ⟨T, st, news, looked⟩ = .one ⟨ex, fr, T', s'⟩
end
/-- What is known of the slots behind an operation. -/
def putL (d : Option Nat) (v : AV) (l : Sl) : Sl := match d with
  | some d => (d, v) :: l
  | none => l
/-- What is before an operation. -/
noncomputable def ancOf (all : List Oper) (i : Nat) : Nat := (nth (befores all) i).getD 0
section
variable {E : Env} {fr : Fr} {l : Sl} {st : St} {o : Oper} {all rest : List Oper} {i : Nat} {js : List Nat} {nl : News} {K : Sl → St → Prop} {od : Option Nat}

theorem Has.putL {T : Tr AV} (h : Has l T) (d : Option Nat) (v : AV) : Has (Am.putL d v l) (putT d v T) := by
  cases d with
  | none => exact h
  | some d => exact h.put d v
theorem putC_ok {nt : Nat} {v : AV} {T : Tr AV} (hlt : dstOk nt od = true) : putC od nt v T = some (putT od v T) := by
  cases od with
  | none => rfl
  | some d =>
    show (bif Nat.blt d nt then some (Tr.setP (some v) (pathOf d) T) else none) = _
    have : Nat.blt d nt = true := hlt
    rw [this]; rfl
theorem put_quietN {nt : Nat} {d : DOp} {q : DSt} {tch : Touch} {v : AV} {H : Tr AObj} (hd : d.o.dst = od) (hlt : dstOk nt od = true) :
    drawPut nt d q (tch, v, q.st.sub H) = some ⟨putT od v q.T, q.st, q.news, (d.i, tch, reOf d q (tch, v, q.st.sub H)) :: q.looked⟩ := by
  unfold drawPut
  have h1 : Nat.ble q.st.next (q.st.sub H).next = true := ble_self _
  have h2 : (q.st.sub H).next - q.st.next = 0 := Nat.sub_self _
  have h3 : (q.st.sub H).log = [] := rfl
  simp only [h1, h2, h3, hd, putC_ok hlt, mayWrite, Bool.and_self, cond_true, Option.bind_some, newL, copyAll, tagL, below]
  rfl

theorem RegN.done {KN : PN} (h : K l st) : RegN E KN all [] i fr l st js nl K := fun T0 T news looked hT _ _ _ => ⟨0, .normal, l, T, st, ⟨h, hT⟩, fun _ _ => rfl⟩
/-- The slots that no operation fills. -/
def clearL (ops : List Oper) (l : Sl) : Sl := l.filter fun p => ops.all fun o => !dstIs p.1 o
theorem clear_none : ∀ {ops : List Oper} {T : Tr AV} {k : Nat}, (ops.all fun o => !dstIs k o) = true → (clearT ops T).get k = T.get k
  | [], _, _, _ => rfl
  | o :: ops, T, k, h => by
    rw [List.all_cons, Bool.and_eq_true] at h
    unfold clearT
    unfold dstIs at h
    cases hd : o.dst with
    | none => exact clear_none h.2
    | some d =>
      rw [hd] at h
      show (clearT ops (T.set d none)).get k = _
      rw [clear_none h.2, get_set, if_neg]
      intro e
      subst e
      simp at h
theorem Has.clear {ops : List Oper} {T : Tr AV} (h : Has l T) : Has (clearL ops l) (clearT ops T) := by
  intro k v hk
  have key : ∀ {l : Sl}, look k (clearL ops l) = some v → (ops.all fun o => !dstIs k o) = true ∧ look k l = some v := by
    intro l
    induction l with
    | nil => intro h; cases h
    | cons p l ih =>
      intro h
      unfold clearL at h
      rw [List.filter_cons] at h
      split at h
      · next hp =>
        unfold look at h ⊢
        cases hb : Nat.beq k p.1 with
        | true =>
          rw [hb] at h
          have := Nat.eq_of_beq_eq_true hb
          subst this
          exact ⟨hp, h⟩
        | false => rw [hb] at h; exact ih h
      · next hp =>
        obtain ⟨h1, h2⟩ := ih h
        refine ⟨h1, ?_⟩
        unfold look
        cases hb : Nat.beq k p.1 with
        | true =>
          have := Nat.eq_of_beq_eq_true hb
          subst this
          exact absurd h1 hp
        | false => exact h2
  obtain ⟨h1, h2⟩ := key hk
  rw [clear_none h1]
  exact h k v h2
theorem EvtL.drawN {Q : Ex → Fr → Sl → St → Prop} {k : Nat} {ops : Array Oper} (hok : drawOk ops.toList = true) (h : RegN E ⟨fun v s => Q (.panic v) fr (clearL ops.toList l) s, []⟩ ops.toList ops.toList 0 fr l st [] [] (Q .normal fr)) : EvtL E (.region k ops true) fr l st Q := by
  intro T hT
  obtain ⟨N, ex, l', T', s', hk, hr⟩ := h T T [] [] hT (fun p hp => by cases hp) (fun p hp => by cases hp) ⟨fun e he => (by cases he), fun p hp => (by cases hp), fun p hp => by cases hp⟩
  have hrun : ∀ n, N ≤ n → (codeC E (.region k ops true)).run (ev E n) fr T st = .one ⟨ex, fr, T', s'⟩ := by
    intro n hn
    show (regionC E ops.toList true).run (ev E n) fr T st = _
    unfold regionC drawnC
    simp only [cond_true, hok]
    exact hr n hn
  cases ex with
  | normal => exact ⟨N, .normal, fr, l', T', s', hk.1, hk.2, hrun⟩
  | panic v => exact ⟨N, .panic v, fr, _, T', s', hk.1, by rw [hk.2]; exact hT.clear, hrun⟩
  | exit _ => exact hk.elim
  | ret => exact hk.elim
theorem EvtL.seqDrawN {Q : Ex → Fr → Sl → St → Prop} {k : Nat} {ops : Array Oper} {b : Code} (hok : drawOk ops.toList = true) (h : RegN E ⟨fun v s => Q (.panic v) fr (clearL ops.toList l) s, []⟩ ops.toList ops.toList 0 fr l st [] [] fun l s => EvtL E b fr l s Q) : EvtL E (.seq (.region k ops true) b) fr l st Q :=
  EvtL.seq (EvtL.drawN hok h)
theorem rest_cons {ev : Ev} {T0 : Tr AV} {q q' : DSt} {r : Touch × AV × St} {out : Out} (h1 : drawRun E all ev fr (dop E all i o) q = some r) (h2 : drawPut fr.nt (dop E all i o) q r = some q')
    (h : drawRest E all ev fr T0 (planD E (befores all) rest (i + 1)) q' = out) : drawRest E all ev fr T0 (planD E (befores all) (o :: rest) i) q = out := by
  show (match drawRun E all ev fr (dop E all i o) q with
    | some r => match drawPut fr.nt (dop E all i o) q r with
      | some q' => drawRest E all ev fr T0 (planD E (befores all) rest (i + 1)) q'
      | none => .stuck
    | none => panEnd E all ev fr T0 (dop E all i o) (planD E (befores all) rest (i + 1)) q (panRun E all ev fr (dop E all i o) q)) = _
  rw [h1]
  simp only [h2]
  exact h

theorem runN {n : Nat} {T : Tr AV} {news : News} {looked : Looked} {r : Touch × AV × St} (hT : Has l T) (hg : GuardOn all l o) (h : drawGo E (ev E n) fr (dop E all i o) ⟨T, st, news, looked⟩ (pickT T (tmpsOf o.op.operands.toList) .nil) = some r) :
    drawRun E all (ev E n) fr (dop E all i o) ⟨T, st, news, looked⟩ = some r := by
  unfold drawRun
  rcases hg with hg | ⟨g, hg, hw⟩
  · have : (dop E all i o).o.guard = none := hg
    rw [this]; exact h
  · have : (dop E all i o).o.guard = some g := hg
    rw [this]
    show (wantedC all g T).bind _ = _
    rw [hw T hT]
    exact h

theorem RegN.gen {KN : PN} {v : AV} {js' : List Nat} (hq : quietSo (opC E o.type o.op) = true)
    (ho : ∀ (T : Tr AV) (news : News), (∀ p ∈ news, p ∈ nl) → Has (restr (tmpsOf o.op.operands.toList) l) T →
      (i ∈ js' ∨ touchOf (opC E o.type o.op) T = .nothing) ∧ Alone E o fr T v (st.sub (subHeap (ancOf all i) news st.heap (touchOf (opC E o.type o.op) T))))
    (hjs : ∀ j ∈ js, j ∈ js') (hg : GuardOn all l o) (hd : o.dst = od) (hlt : dstOk fr.nt od = true) (h : RegN E KN all rest (i + 1) fr (putL od v l) st js' nl K) : RegN E KN all (o :: rest) i fr l st js nl K := by
  intro T0 T news looked hT hnw hlk hrd
  obtain ⟨hj, N, hN⟩ := ho _ news hnw (hT.restr (tmpsOf o.op.operands.toList))
  let dd : DOp := dop E all i o
  let q : DSt := ⟨T, st, news, looked⟩
  let TP := pickT T (tmpsOf o.op.operands.toList) .nil
  let tch := touchOf (opC E o.type o.op) TP
  let H := subHeap dd.anc news st.heap tch
  let re := reOf dd q (tch, v, st.sub H)
  obtain ⟨M, ex, l', T', s', hk, hr⟩ := h T0 (putT od v T) news ((i, tch, re) :: looked) (hT.putL od v) hnw (fun p hp => by
    rcases List.mem_cons.1 hp with rfl | hp
    · exact hj
    · exact (hlk p hp).imp (hjs _) id) hrd.cons
  refine ⟨max N M, ex, l', T', s', hk, fun n hn => ?_⟩
  have hgo : drawGo E (ev E n) fr dd q TP = some (tch, v, st.sub H) := by
    unfold drawGo
    have : quietSo dd.so = true := hq
    rw [this]
    simp only [cond_true]
    show drawGot tch ((stepC E (opC E o.type o.op) K0).run (ev E n) fr TP (st.sub H)) = _
    have h1 : (stepC E (opC E o.type o.op) K0).run (ev E n) fr TP (st.sub H) = .one ⟨.normal, fr, oneT v, st.sub H⟩ := hN n (by omega)
    rw [h1]; rfl
  have hp := put_quietN (nt := fr.nt) (d := dd) (q := q) (tch := tch) (v := v) (H := H) (od := od) hd hlt
  exact rest_cons (runN hT hg hgo) hp (hr n (by omega))

/-- A guard keeps an operation back. -/
theorem RegN.off {KN : PN} {g : Nat × Bool} (hg : o.guard = some g) (hw : ∀ T, Has l T → wantedC all g T = some false) (hd : o.dst = od) (hlt : dstOk fr.nt od = true)
    (h : RegN E KN all rest (i + 1) fr (putL od (.tuple []) l) st js nl K) : RegN E KN all (o :: rest) i fr l st js nl K := by
  intro T0 T news looked hT hnw hlk hrd
  let dd : DOp := dop E all i o
  let q : DSt := ⟨T, st, news, looked⟩
  let re := reOf dd q (.nothing, .tuple [], st.sub .nil)
  obtain ⟨M, ex, l', T', s', hk, hr⟩ := h T0 (putT od (.tuple []) T) news ((i, .nothing, re) :: looked) (hT.putL od _) hnw (fun p hp => by
    rcases List.mem_cons.1 hp with rfl | hp
    · exact .inr rfl
    · exact hlk p hp) hrd.cons
  refine ⟨M, ex, l', T', s', hk, fun n hn => ?_⟩
  have hrun : drawRun E all (ev E n) fr dd q = some (.nothing, .tuple [], st.sub .nil) := by
    unfold drawRun
    have : dd.o.guard = some g := hg
    rw [this]
    show (wantedC all g T).bind _ = _
    rw [hw T hT]; rfl
  have hp := put_quietN (nt := fr.nt) (d := dd) (q := q) (tch := .nothing) (v := .tuple []) (H := .nil) (od := od) hd hlt
  exact rest_cons hrun hp (hr n (by omega))

theorem RegN.skip {KN : PN} {j e : Nat} {w b : Bool} {oj : Oper} (hg : o.guard = some (j, w)) (hj : nth all j = some oj) (he : oj.dst = some e) (hl : look e l = some (.bool b)) (hb : b = !w)
    (hd : o.dst = od) (hlt : dstOk fr.nt od = true) (h : RegN E KN all rest (i + 1) fr (putL od (.tuple []) l) st js nl K) : RegN E KN all (o :: rest) i fr l st js nl K :=
  RegN.off hg (fun T hT => by rw [wanted_go (g := (j, w)) hj he (hT e _ hl), hb]; cases w <;> rfl) hd hlt h
theorem RegN.both {KN : PN} {j e : Nat} {w b : Bool} {oj : Oper} (_hg : o.guard = some (j, w)) (_hj : nth all j = some oj) (_he : oj.dst = some e) (_hl : look e l = some (.bool b))
    (h1 : b = true → RegN E KN all (o :: rest) i fr l st js nl K) (h0 : b = false → RegN E KN all (o :: rest) i fr l st js nl K) : RegN E KN all (o :: rest) i fr l st js nl K := by
  cases b
  · exact h0 rfl
  · exact h1 rfl

/-- An operation that looks at no block. -/
theorem RegN.qG {KN : PN} {v : AV} (ho : OpQ E o (restr (tmpsOf o.op.operands.toList) l) v) (hg : GuardOn all l o) (hd : o.dst = od) (hlt : dstOk fr.nt od = true) (h : RegN E KN all rest (i + 1) fr (putL od v l) st js nl K) : RegN E KN all (o :: rest) i fr l st js nl K :=
  RegN.gen ho.1 (fun T _ _ hT => ⟨.inr (ho.2 T hT).1, alone_of ⟨0, fun n _ k => (ho.2 T hT).2 (ev E n) fr _ k⟩⟩) (fun _ h => h) hg hd hlt h
/-- An operation that leaves the heap alone. -/
theorem RegN.aG {KN : PN} {v : AV} (ho : OpA E o fr (restr (tmpsOf o.op.operands.toList) l) v) (hg : GuardOn all l o) (hd : o.dst = od) (hlt : dstOk fr.nt od = true) (h : RegN E KN all rest (i + 1) fr (putL od v l) st (i :: js) nl K) : RegN E KN all (o :: rest) i fr l st js nl K :=
  RegN.gen ho.1 (fun T _ _ hT => ⟨.inl (List.mem_cons_self ..), alone_of (by
    obtain ⟨N, hN⟩ := ho.2 T hT
    exact ⟨N, fun n hn k => hN n hn _ k⟩)⟩) (fun _ h => List.mem_cons_of_mem _ h) hg hd hlt h
/-- Was a block made or written by what is not before? -/
def clearB (anc b : Nat) (nl : News) : Bool := nl.all fun p => !(Nat.beq p.2 b) || Nat.testBit anc p.1
theorem hidden_clear {anc b : Nat} (h : clearB anc b nl = true) : ∀ {news : News}, (∀ p ∈ news, p ∈ nl) → hiddenB anc b news = false
  | [], _ => rfl
  | p :: news, hn => by
    unfold hiddenB
    have h1 := List.all_eq_true.1 h p (hn p (List.mem_cons_self ..))
    rw [hidden_clear h (fun q hq => hn q (List.mem_cons_of_mem _ hq))]
    cases hb : Nat.beq p.2 b with
    | false => rfl
    | true =>
      rw [hb] at h1
      have h2 : Nat.testBit anc p.1 = true := h1
      rw [h2]; rfl

/-- An operation that reads a block. -/
theorem RegN.rd {KN : PN} {x : Tr AV → Option AV} {f : Tr AV → St → Option AV} {v p : AV} {b : Nat} (hop : opC E o.type o.op = .read x f) (hx : ∀ T, Has (restr (tmpsOf o.op.operands.toList) l) T → x T = some p) (hp : blockOf (some p) = some b)
    (hv : ∀ T, Has (restr (tmpsOf o.op.operands.toList) l) T → f T (st.sub (Tr.set .nil b (st.heap.get b))) = some v) (hc : clearB (ancOf all i) b nl = true) (hg : GuardOn all l o) (hd : o.dst = od) (hlt : dstOk fr.nt od = true)
    (h : RegN E KN all rest (i + 1) fr (putL od v l) st (i :: js) nl K) : RegN E KN all (o :: rest) i fr l st js nl K := by
  refine RegN.gen (by rw [hop]; rfl) (fun T news hnw hT => ⟨.inl (List.mem_cons_self ..), ?_⟩) (fun _ h => List.mem_cons_of_mem _ h) hg hd hlt h
  rw [hop]
  have : touchOf (.read x f) T = .block b := by
    show touchB (blockOf (x T)) = _
    rw [hx T hT, hp]; rfl
  rw [this]
  have hs : subHeap (ancOf all i) news st.heap (.block b) = Tr.set .nil b (st.heap.get b) := by
    show (bif hiddenB (ancOf all i) b news then _ else _) = _
    rw [hidden_clear hc hnw]; rfl
  rw [hs]
  exact alone_of ⟨0, fun n _ k => by
    rw [hop]
    show valOut (fun v => k.run (ev E n) fr T v _) (f T _) = _
    rw [hv T hT]; rfl⟩

theorem readAt_block {n b off : Nat} {s s' : St} (hs : s'.heap.get b = s.heap.get b) : readAt s' n (.ptr b off) = readAt s n (.ptr b off) := by
  unfold readAt
  simp only [hs]
theorem loadC_block {t : TypeId} {b off : Nat} {s s' : St} (hs : s'.heap.get b = s.heap.get b) : loadC E t s' (.ptr b off) = loadC E t s (.ptr b off) := by
  unfold loadC
  cases isAgg E t with
  | none => rfl
  | some g =>
    cases sizeOf E t with
    | none => cases g <;> rfl
    | some n =>
      cases g
      · show (readAt s' 1 _).bind _ = (readAt s 1 _).bind _
        rw [readAt_block hs]
      · show (readAt s' n _).bind _ = (readAt s n _).bind _
        rw [readAt_block hs]

/-- A load from a block. -/
theorem RegN.load {KN : PN} {t : TypeId} {a : Operand} {v : AV} {b off : Nat} (ho : o.op = .load t a) (ha : opndL a (restr (tmpsOf o.op.operands.toList) l) = some (.ptr b off))
    (hv : loadC E t st (.ptr b off) = some v) (hc : clearB (ancOf all i) b nl = true) (hg : GuardOn all l o) (hd : o.dst = od) (hlt : dstOk fr.nt od = true) (h : RegN E KN all rest (i + 1) fr (putL od v l) st (i :: js) nl K) : RegN E KN all (o :: rest) i fr l st js nl K :=
  RegN.rd (x := opnd E a) (f := fun T s => (opnd E a T).bind (loadC E t s)) (b := b) (by rw [ho]; rfl) (fun T hT => opndL_ok hT ha) rfl (fun T hT => by
    rw [opndL_ok hT ha]
    exact (loadC_block (by show (Tr.set .nil b (st.heap.get b)).get b = _; rw [get_set, if_pos rfl])).trans hv) hc hg hd hlt h

/-- An operation that makes a block. -/
theorem RegN.make {KN : PN} {f : Tr AV → Option Mk} {ob : AObj} {g : Nat → AV} (hop : opC E o.type o.op = .make f) (hv : ∀ T, Has (restr (tmpsOf o.op.operands.toList) l) T → f T = some (.obj ob g)) (hg : GuardOn all l o) (hd : o.dst = od) (hlt : dstOk fr.nt od = true)
    (h : RegN E KN all rest (i + 1) fr (putL od (g st.next) l) (st.alloc ob) js ((i, st.next) :: nl) K) : RegN E KN all (o :: rest) i fr l st js nl K := by
  intro T0 T news looked hT hnw hlk hrd
  let dd : DOp := dop E all i o
  let q : DSt := ⟨T, st, news, looked⟩
  let TP := pickT T (tmpsOf o.op.operands.toList) .nil
  let s2 : St := (st.sub .nil).alloc ob
  let re := reOf dd q (.nothing, g st.next, s2)
  obtain ⟨M, ex, l', T', s', hk, hr⟩ := h T0 (putT od (g st.next) T) ((i, st.next) :: news) ((i, .nothing, re) :: looked) (hT.putL od _) (fun p hp => by
    rcases List.mem_cons.1 hp with rfl | hp
    · exact List.mem_cons_self ..
    · exact List.mem_cons_of_mem _ (hnw p hp)) (fun p hp => by
    rcases List.mem_cons.1 hp with rfl | hp
    · exact .inr rfl
    · exact hlk p hp) hrd.cons
  refine ⟨M, ex, l', T', s', hk, fun n hn => ?_⟩
  have hgo : drawGo E (ev E n) fr dd q TP = some (.nothing, g st.next, s2) := by
    unfold drawGo
    have hso : dd.so = .make f := hop
    have hqs : quietSo dd.so = true := by rw [hso]; rfl
    rw [hqs]
    simp only [cond_true]
    have htch : touchOf dd.so TP = .nothing := by rw [hso]; rfl
    rw [htch]
    have hst : (stepC E (opC E o.type o.op) K0).run (ev E n) fr TP (st.sub .nil) = K0.run (ev E n) fr TP (g (st.sub .nil).next) ((st.sub .nil).alloc ob) := by
      rw [hop]
      show mkOut _ _ (f TP) = _
      rw [hv TP (hT.restr (tmpsOf o.op.operands.toList))]; rfl
    show drawGot .nothing ((stepC E (opC E o.type o.op) K0).run (ev E n) fr TP (st.sub .nil)) = _
    rw [hst]; rfl
  have hput : drawPut fr.nt dd q (.nothing, g st.next, s2) = some ⟨putT od (g st.next) T, st.alloc ob, (i, st.next) :: news, (i, .nothing, re) :: looked⟩ := by
    unfold drawPut
    have h1 : Nat.ble q.st.next s2.next = true := Nat.ble_eq_true_of_le (Nat.le_succ _)
    have h3 : dd.o.dst = od := hd
    have h4 : newL q.st.next (s2.next - q.st.next) = [st.next] := by
      show newL st.next (st.next + 1 - st.next) = _
      rw [Nat.add_sub_cancel_left]; rfl
    have h5 : s2.heap.get st.next = some ob := by
      show (Tr.set .nil st.next (some ob)).get st.next = _
      rw [get_set, if_pos rfl]
    have h6 : s2.log = [] := rfl
    simp only [h1, h6, mayWrite, h3, Bool.and_self, cond_true, putC_ok hlt, Option.bind_some, h4, tagL, copyAll, h5, below]
    rfl
  exact rest_cons (runN hT hg hgo) hput (hr n (by omega))

theorem tagL_mono {i : Nat} {p : Nat × Nat} : ∀ {L : List Nat} {news : News}, (∀ p ∈ news, p ∈ nl) → p ∈ tagL i news L → p ∈ tagL i nl L
  | [], _, hn, h => hn _ h
  | b :: L, news, hn, h => by
    rcases List.mem_cons.1 h with rfl | h
    · exact List.mem_cons_self ..
    · exact List.mem_cons_of_mem _ (tagL_mono hn h)

/-- What was looked at by others was looked at before. -/
def seenB (anc : Nat) (js : List Nat) : Bool := js.all fun j => Nat.testBit anc j
theorem free_seen {anc b n : Nat} {ob : Option AObj} (hjs : seenB anc js = true) : ∀ {L : Looked}, (∀ p ∈ L, p.1 ∈ js ∨ p.2.1 = .nothing) → freeOf anc b n ob L = true
  | [], _ => rfl
  | p :: L, hL => by
    unfold freeOf
    have ih := free_seen (b := b) (n := n) (ob := ob) hjs fun q hq => hL q (List.mem_cons_of_mem _ hq)
    rcases hL p (List.mem_cons_self ..) with h1 | h1
    · have : Nat.testBit anc p.1 = true := List.all_eq_true.1 hjs _ h1
      rw [this]; exact ih
    · rw [h1]
      simp only [hitB, cond_false]
      cases Nat.testBit anc p.1 <;> exact ih

/-- An operation that writes, or makes, blocks, behind all that looked at any. 'H': the heap that it sees. -/
theorem RegN.acts {KN : PN} {x : Tr AV → Option AV} {f : Tr AV → St → Option (AV × St)} {v : AV} {s2 : St} {one : Bool} {tch : Touch} {H : Tr AObj} (hop : opC E o.type o.op = .act one x f)
    (htch : ∀ T, Has (restr (tmpsOf o.op.operands.toList) l) T → touchOf (.act one x f) T = tch) (hH : ∀ news : News, (∀ p ∈ news, p ∈ nl) → subHeap (ancOf all i) news st.heap tch = H)
    (ho : OpL E o fr (restr (tmpsOf o.op.operands.toList) l) (st.sub H) v s2)
    (hnx : st.next ≤ s2.next) (hlog : ∀ b ∈ s2.log, b < st.next ∧ clearB (ancOf all i) b nl = true) (hjs : seenB (ancOf all i) js = true)
    (hg : GuardOn all l o) (hd : o.dst = od) (hlt : dstOk fr.nt od = true)
    (h : RegN E KN all rest (i + 1) fr (putL od v l) (st.merged s2) (i :: js) (tagL i (tagL i nl (newL st.next (s2.next - st.next))) s2.log) K) : RegN E KN all (o :: rest) i fr l st js nl K := by
  intro T0 T news looked hT hnw hlk hrd
  obtain ⟨N, hN⟩ := ho _ (hT.restr (tmpsOf o.op.operands.toList))
  let dd : DOp := dop E all i o
  let q : DSt := ⟨T, st, news, looked⟩
  let TP := pickT T (tmpsOf o.op.operands.toList) .nil
  let re := reOf dd q (tch, v, s2)
  have hanc : dd.anc = ancOf all i := rfl
  obtain ⟨M, ex, l', T', s', hk, hr⟩ := h T0 (putT od v T) (tagL i (tagL i news (newL st.next (s2.next - st.next))) s2.log) ((i, tch, re) :: looked) (hT.putL od v)
    (fun p hp => tagL_mono (fun p hp => tagL_mono hnw hp) hp) (fun p hp => by
    rcases List.mem_cons.1 hp with rfl | hp
    · exact .inl (List.mem_cons_self ..)
    · exact (hlk p hp).imp (List.mem_cons_of_mem _) id) hrd.cons
  refine ⟨max N M, ex, l', T', s', hk, fun n hn => ?_⟩
  have hgo : drawGo E (ev E n) fr dd q TP = some (tch, v, s2) := by
    unfold drawGo
    have hso : dd.so = .act one x f := hop
    have hqs : quietSo dd.so = true := by rw [hso]; rfl
    rw [hqs]
    simp only [cond_true]
    have ht : touchOf dd.so TP = tch := by rw [hso]; exact htch _ (hT.restr _)
    rw [ht]
    have hst := hN n (by omega) K0
    show drawGot tch ((stepC E (opC E o.type o.op) K0).run (ev E n) fr TP (st.sub (subHeap dd.anc news st.heap tch))) = _
    rw [hanc, hH news hnw, hst]; rfl
  have hmay : ∀ L : List Nat, (∀ b ∈ L, b < st.next ∧ clearB (ancOf all i) b nl = true) → mayWrite dd.anc st.next s2.next s2.heap q L = true := by
    intro L
    induction L with
    | nil => intro _; rfl
    | cons b L ih =>
      intro hL
      unfold mayWrite
      have h1 : Nat.blt b st.next = true := by simpa [Nat.blt_eq] using (hL b (List.mem_cons_self ..)).1
      have h2 : hiddenB dd.anc b q.news = false := hidden_clear (hL b (List.mem_cons_self ..)).2 hnw
      have h3 : freeOf dd.anc b s2.next (s2.heap.get b) q.looked = true := free_seen hjs hlk
      rw [h1, h2, h3, ih fun c hc => hL c (List.mem_cons_of_mem _ hc)]
      rfl
  have hput : drawPut fr.nt dd q (tch, v, s2) = some ⟨putT od v T, st.merged s2, tagL i (tagL i news (newL st.next (s2.next - st.next))) s2.log, (i, tch, re) :: looked⟩ := by
    unfold drawPut
    have h1 : Nat.ble q.st.next s2.next = true := Nat.ble_eq_true_of_le hnx
    have h2 : mayWrite dd.anc q.st.next s2.next s2.heap q s2.log = true := hmay s2.log hlog
    have h3 : dd.o.dst = od := hd
    simp only [h1, h2, h3, Bool.and_self, cond_true, putC_ok hlt, Option.bind_some]
    rfl
  exact rest_cons (runN hT hg hgo) hput (hr n (by omega))

theorem hide_clear {anc : Nat} (h : (nl.all fun p => Nat.testBit anc p.1) = true) {news : News} {hp : Tr AObj} (hn : ∀ p ∈ news, p ∈ nl) : hideAll anc news hp = hp :=
  hide_none fun p hp => List.all_eq_true.1 h p (hn p hp)

/-- An operation that looks at whatever, behind all that made or wrote anything. -/
theorem RegN.act {KN : PN} {x : Tr AV → Option AV} {f : Tr AV → St → Option (AV × St)} {v : AV} {s2 : St} (hop : opC E o.type o.op = .act false x f) (ho : OpL E o fr (restr (tmpsOf o.op.operands.toList) l) (st.sub st.heap) v s2)
    (hnx : st.next ≤ s2.next) (hlog : ∀ b ∈ s2.log, b < st.next ∧ clearB (ancOf all i) b nl = true) (hjs : seenB (ancOf all i) js = true) (hnl : (nl.all fun p => Nat.testBit (ancOf all i) p.1) = true)
    (hg : GuardOn all l o) (hd : o.dst = od) (hlt : dstOk fr.nt od = true)
    (h : RegN E KN all rest (i + 1) fr (putL od v l) (st.merged s2) (i :: js) (tagL i (tagL i nl (newL st.next (s2.next - st.next))) s2.log) K) : RegN E KN all (o :: rest) i fr l st js nl K :=
  RegN.acts (tch := .all) hop (fun _ _ => rfl) (fun _ hn => hide_clear hnl hn) ho hnx hlog hjs hg hd hlt h
end
end Am

/- The abstract machine: more operations, by rules. -/
namespace Am
open Go
section
variable {E : Env} {fr : Fr} {l : Sl} {s : St} {o : Oper}

/-- Is a type a struct? -/
noncomputable def isStructT (E : Env) (t : TypeId) : Bool := match und E t with
  | some (.struct _) => true
  | _ => false

def eqOp (neg : Bool) : BinOp := bif neg then .neq else .eql
theorem binC_eq {neg : Bool} {t : TypeId} {x y : Operand} (h1 : ∀ k, und E t ≠ some (.int k)) (h2 : und E t ≠ some .string) : binC E (eqOp neg) t x y = eqC E neg t x y := by
  unfold binC
  split
  · next k h => exact absurd h (h1 k)
  · next h => exact absurd h h2
  · cases neg <;> rfl

theorem OpQ.sub {t yt : TypeId} {x y : Operand} {a b : Int} (ho : o.op = .binOp .sub t x y yt) (hu : und E t = some (.int .i64)) (hx : opndL x l = some (.int .i64 a)) (hy : opndL y l = some (.int .i64 b))
    (h : -9223372036854775808 ≤ a - b ∧ a - b < 9223372036854775808) : OpQ E o l (.int .i64 (a - b)) := OpQ.int2 ho hu rfl hx hy (by rw [wrapI_in h.1 h.2])
theorem dropN_ok {α : Type} : ∀ {a : Nat} {l : List α}, a ≤ l.length → dropN a l = some (l.drop a)
  | 0, _, _ => rfl
  | _ + 1, [], h => by simp at h
  | a + 1, _ :: l, h => dropN_ok (a := a) (l := l) (by simpa using h)
theorem takeN_ok {α : Type} : ∀ {n : Nat} {l : List α}, n ≤ l.length → takeN n l = some (l.take n)
  | 0, l, _ => by simp; rfl
  | _ + 1, [], h => by simp at h
  | n + 1, b :: l, h => by
    show consO b (takeN n l) = _
    rw [takeN_ok (n := n) (l := l) (by simpa using h)]; rfl

theorem OpQ.fieldAddrI {t : TypeId} {x : Operand} {i off n : Nat} {agg : Bool} {cs : List AV} (ho : o.op = .fieldAddr t x i) (hf : fieldOf E t i = some (off, n + 1, agg)) (hx : opndL x l = some (.iptr cs)) (hn : off ≤ cs.length) : OpQ E o l (.iptr (cs.drop off)) :=
  OpQ.pure (f := fun T => (opnd E x T).bind (addrAdd off)) (by
    rw [ho]
    show fieldAddrC E t x i = _
    unfold fieldAddrC
    rw [hf]) fun T hT => by simp only [opndL_ok hT hx, Option.bind_some, addrAdd, dropN_ok hn]
theorem OpQ.convInt {src dst : TypeId} {x : Operand} {j k kx : IntKind} {n : Int} (ho : o.op = .convert src dst x) (hs : und E src = some (.int j)) (hd : und E dst = some (.int k)) (hx : opndL x l = some (.int kx n)) : OpQ E o l (wrapI k n) :=
  OpQ.pure (f := fun T => (opnd E x T).bind (intToV k)) (by
    rw [ho]
    show convC E src dst x = _
    unfold convC
    rw [hs, hd]) fun T hT => by simp only [opndL_ok hT hx, Option.bind_some, intToV]
theorem OpA.callVal {c : Call} {t : Nat} {f : FuncId} {first captured args : List AV} {v : AV} (ho : o.op = .call c) (hc : c.callee = .value (.tmp t)) (hf : look t l = some (.func (.func f) first captured)) (hb : hasBody E f = true)
    (ha : opndsL c.args.toList l = some args) (h : E.memo f (first ++ args ++ captured) = some v) : OpA E o fr l v := by
  have hop : opC E o.type o.op = .callV (opnd E (.tmp t)) (opndsC E c.args.toList) := by
    rw [ho]
    show callC E o.type c = _
    unfold callC
    rw [hc]
  refine ⟨by rw [hop]; rfl, fun T hT => ⟨0, fun n _ s k => ?_⟩⟩
  rw [hop]
  show crOut fr T s (k.run (ev E n) fr T) _ = _
  have hg : opnd E (.tmp t) T = some (.func (.func f) first captured) := hT t _ hf
  simp only [opndsL_ok hT ha, hg, Option.bind_some, callVF, hb, cond_true]
  have : callF E (ev E n) f (first ++ args ++ captured) s = some (.same v) := by unfold callF; rw [h]
  rw [this]; rfl

/-! ### Maps -/
/-! ### In drawn regions -/
variable {st : St} {all rest : List Oper} {i : Nat} {js : List Nat} {nl : News} {K : Sl → St → Prop} {od : Option Nat}
end
end Am

/- The abstract machine: contracts of functions, one above the other. -/
namespace Am
open Go
/-- What a function is known to hand back: 'enc': how its arguments are written. -/
noncomputable def specOf {α : Type} (enc : α → List AV) (res : α → AV) (args : List AV) : Option AV := by
  classical exact if h : ∃ a, enc a = args then some (res h.choose) else none
theorem specOf_hit {α : Type} {enc : α → List AV} {res : α → AV} (hw : ∀ a b, enc a = enc b → res a = res b) (a : α) : specOf enc res (enc a) = some (res a) := by
  have h : ∃ b, enc b = enc a := ⟨a, rfl⟩
  unfold specOf
  rw [dif_pos h, hw _ _ h.choose_spec]
theorem specOf_some {α : Type} {enc : α → List AV} {res : α → AV} {args : List AV} {v : AV} (h : specOf enc res args = some v) : ∃ a, enc a = args ∧ res a = v := by
  unfold specOf at h
  split at h
  · next he => cases h; exact ⟨_, he.choose_spec, rfl⟩
  · cases h
theorem specOf_none {α : Type} {enc : α → List AV} {res : α → AV} {args : List AV} (h : ∀ a, enc a ≠ args) : specOf enc res args = none := by
  unfold specOf
  rw [dif_neg]
  rintro ⟨a, ha⟩
  exact h a ha
/-- One contract more. -/
noncomputable def addC {α : Type} (K : FuncId → List AV → Option AV) (f : FuncId) (enc : α → List AV) (res : α → AV) : FuncId → List AV → Option AV := fun g args => bif Nat.beq g f then specOf enc res args else K g args
theorem addC_hit {α : Type} {K : FuncId → List AV → Option AV} {f : FuncId} {enc : α → List AV} {res : α → AV} (hw : ∀ a b, enc a = enc b → res a = res b) (a : α) : addC K f enc res f (enc a) = some (res a) := by
  unfold addC
  rw [Nat.beq_refl]
  exact specOf_hit hw a
theorem addC_none {α : Type} {K : FuncId → List AV → Option AV} {f : FuncId} {enc : α → List AV} {res : α → AV} {args : List AV} (h : ∀ a, enc a ≠ args) : addC K f enc res f args = none := by
  unfold addC
  rw [Nat.beq_refl]
  exact specOf_none h
theorem addC_known {α : Type} {P : Program} {K : FuncId → List AV → Option AV} {f : FuncId} {enc : α → List AV} {res : α → AV} (hK : KnownAll P K) (h : ∀ a, KnownF P f (enc a) (res a)) : KnownAll P (addC K f enc res) := by
  intro g args v hv
  unfold addC at hv
  cases hb : Nat.beq g f with
  | false => rw [hb] at hv; exact hK g args v hv
  | true =>
    rw [hb] at hv
    have := Nat.eq_of_beq_eq_true hb
    subst this
    obtain ⟨a, rfl, rfl⟩ := specOf_some hv
    exact h a
end Am

/- The abstract machine: heaps that are known block by block, as lists. -/
namespace Am
open Go
abbrev Hl := List (Nat × Option AObj)
def lookH : Nat → Hl → Option AObj
  | _, [] => none
  | k, p :: l => bif Nat.beq k p.1 then p.2 else lookH k l
noncomputable def mkH : Hl → Tr AObj
  | [] => .nil
  | p :: l => (mkH l).set p.1 p.2
/-- A heap of blocks that are known. -/
noncomputable def mkS (n bd : Nat) (lg : List Nat) (hl : Hl) : St := { next := n, bound := bd, log := lg, heap := mkH hl }
theorem get_mkH (k : Nat) : ∀ hl : Hl, (mkH hl).get k = lookH k hl
  | [] => nil_get' k
  | p :: l => by
    show ((mkH l).set p.1 p.2).get k = bif Nat.beq k p.1 then p.2 else lookH k l
    rw [get_set, get_mkH k l]
    cases hb : Nat.beq k p.1 with
    | true => rw [if_pos (Nat.eq_of_beq_eq_true hb)]; rfl
    | false => rw [if_neg (Nat.ne_of_beq_eq_false hb)]; rfl
theorem get_mkS {n bd : Nat} {lg : List Nat} {hl : Hl} (k : Nat) : (mkS n bd lg hl).heap.get k = lookH k hl := get_mkH k hl
/-- What is logged by a write. -/
def logB (b bd : Nat) (lg : List Nat) : List Nat := bif Nat.blt b bd then logged b lg else lg
section
variable {E : Env} {fr : Fr} {l : Sl} {o : Oper} {n m bd : Nat} {lg : List Nat} {hl : Hl}
theorem OpL.allocS {t : TypeId} {z : AV} (m : Nat) (ho : o.op = .alloc t) (hz : zeroOf E t = some z) (hm : n + 1 = m) : OpL E o fr l (mkS n bd lg hl) (.ptr n 0) (mkS m bd lg ((n, some (.cells z.cells t false)) :: hl)) := by
  subst hm
  exact OpL.alloc ho hz
theorem OpL.boxS {t : TypeId} {x : Operand} {v : AV} (m : Nat) (ho : o.op = .box t x) (hx : opndL x l = some v) (hv : v.isTuple = false) (hm : n + 1 = m) : OpL E o fr l (mkS n bd lg hl) (.ptr n 0) (mkS m bd lg ((n, some (.cells v.cells t false)) :: hl)) := by
  subst hm
  exact OpL.box ho hx hv
theorem OpL.storeS {t : TypeId} {a x : Operand} {k b off : Nat} {v : AV} {cs cs' : List AV} {e : TypeId} {part : Bool} (ho : o.op = .store t a x) (hn : sizeOf E t = some k) (ha : opndL a l = some (.ptr b off)) (hx : opndL x l = some v)
    (hg : lookH b hl = some (.cells cs e part)) (hk : v.cells.length = k) (ht : v.isTuple = false) (hc : over v.cells off cs = some cs') : OpL E o fr l (mkS n bd lg hl) (.tuple []) (mkS n bd (logB b bd lg) ((b, some (.cells cs' e part)) :: hl)) :=
  OpL.store ho hn ha hx (storeN_at ((get_mkS b).trans hg) hk ht hc)
theorem OpL.loadS1 {t : TypeId} {a : Operand} {k b off : Nat} {v : AV} {cs : List AV} {e : TypeId} {part : Bool} (ho : o.op = .load t a) (h1 : isAgg E t = some false) (h2 : sizeOf E t = some k) (ha : opndL a l = some (.ptr b off))
    (hg : lookH b hl = some (.cells cs e part)) (hv : cs[off]? = some v) : OpL E o fr l (mkS n bd lg hl) v (mkS n bd lg hl) :=
  OpL.load ho ha (loadOne_at h1 h2 ((get_mkS b).trans hg) hv)
theorem OpL.loadSA {t : TypeId} {a : Operand} {k b off : Nat} {cs : List AV} {e : TypeId} {part : Bool} (ho : o.op = .load t a) (h1 : isAgg E t = some true) (h2 : sizeOf E t = some k) (ha : opndL a l = some (.ptr b off))
    (hg : lookH b hl = some (.cells cs e part)) (hk : off + k ≤ cs.length) : OpL E o fr l (mkS n bd lg hl) (.agg ((cs.drop off).take k)) (mkS n bd lg hl) :=
  OpL.load ho ha (loadAgg_at h1 h2 ((get_mkS b).trans hg) hk)
/-! ### The end of a call that begins with no blocks -/
theorem leave_s0 {f : FuncId} {v w : AV} {ks : List Nat} {st : St} (hf : E.frz f = 1) (hlog : st.log = []) (hb : st.bound = 0) (h : frzV st 0 40 v [] = some (w, ks)) (hu : underV 0 40 w = true) : leave E f S0 v st = some (.same w) := by
  unfold leave frozen
  rw [hf, hlog]
  simp only
  show ((frozenFrom 0 v st).bind _) = _
  unfold frozenFrom
  rw [h]
  simp only [Option.bind_some, leaveQ]
  have hk : (kill st ks).log = [] := (kill_log (s := st) (ks := ks) fun b _ => by rw [hb]; exact Nat.zero_le _).trans hlog
  rw [hk]
  show some (bif underV 0 40 w then _ else _) = _
  rw [hu]; rfl
theorem CallTo.s0 {f : FuncId} {fn : Func} {c : Code} {args : List AV} {v : AV} {rs : List ResultVar} {fr : Fr} {l0 : Sl} (hz : E.frz f = 1) (hm : E.memo f args = none) (hf : E.fns.get f = some fn) (hc : fn.body = some c) (hr : fn.results.toList = rs)
    (hfr : frame fn.ntmps args none = fr) (hl : argsL 0 args [] = l0)
    (h : EvtL E c fr l0 (mkS 0 0 [] []) fun ex fr l st => (ex = .ret ∨ ex = .normal) ∧ fr.defers = [] ∧ st.log = [] ∧ st.bound = 0 ∧ ∃ vs w ks, resultsL E st l rs = some vs ∧ frzV st 0 40 (oneA vs) [] = some (w, ks) ∧ underV 0 40 w = true ∧ w = v) : CallTo E f args S0 v :=
  CallTo.gen hm hf hc hr hfr hl (EvtL.mono (s := S0.enter) h fun ex fr l st ⟨h1, h2, h3, h4, vs, w, ks, h5, h6, h7, h8⟩ => ⟨h1, st, by rw [h2]; rfl, vs, h5, by rw [← h8]; exact leave_s0 hz h3 h4 h6 h7⟩)
/-- A result in a cell. -/
theorem res_cellA {a t k b : Nat} {rs : List ResultVar} {vs cs : List AV} {e : TypeId} {part : Bool} (hp : look a l = some (.ptr b 0)) (h1 : isAgg E t = some true) (h2 : sizeOf E t = some k) (hg : lookH b hl = some (.cells cs e part)) (hk : k ≤ cs.length)
    (h : resultsL E (mkS n bd lg hl) l rs = some vs) : resultsL E (mkS n bd lg hl) l (.cell a t :: rs) = some (.agg (cs.take k) :: vs) := by
  have hv : loadC E t (mkS n bd lg hl) (.ptr b 0) = some (.agg ((cs.drop 0).take k)) := loadAgg_at h1 h2 ((get_mkS b).trans hg) (by omega)
  unfold resultsL
  rw [hp]
  simp only [Option.bind_some, hv, h]
  rfl
/-! ### Drawn regions -/
variable {all rest : List Oper} {i : Nat} {js : List Nat} {nl : News} {K : Sl → St → Prop} {od : Option Nat}
theorem RegN.loadS1 {KN : PN} {t : TypeId} {a : Operand} {k b off : Nat} {v : AV} {cs : List AV} {e : TypeId} {part : Bool} (ho : o.op = .load t a) (h1 : isAgg E t = some false) (h2 : sizeOf E t = some k) (ha : opndL a (restr (tmpsOf o.op.operands.toList) l) = some (.ptr b off))
    (hg : lookH b hl = some (.cells cs e part)) (hv : cs[off]? = some v) (hc : clearB (ancOf all i) b nl = true) (hgd : GuardOn all l o) (hd : o.dst = od) (hlt : dstOk fr.nt od = true)
    (h : RegN E KN all rest (i + 1) fr (putL od v l) (mkS n bd lg hl) (i :: js) nl K) : RegN E KN all (o :: rest) i fr l (mkS n bd lg hl) js nl K :=
  RegN.load ho ha (loadOne_at h1 h2 ((get_mkS b).trans hg) hv) hc hgd hd hlt h
theorem RegN.loadSA {KN : PN} {t : TypeId} {a : Operand} {k b off : Nat} {cs : List AV} {e : TypeId} {part : Bool} (ho : o.op = .load t a) (h1 : isAgg E t = some true) (h2 : sizeOf E t = some k) (ha : opndL a (restr (tmpsOf o.op.operands.toList) l) = some (.ptr b off))
    (hg : lookH b hl = some (.cells cs e part)) (hk : off + k ≤ cs.length) (hc : clearB (ancOf all i) b nl = true) (hgd : GuardOn all l o) (hd : o.dst = od) (hlt : dstOk fr.nt od = true)
    (h : RegN E KN all rest (i + 1) fr (putL od (.agg ((cs.drop off).take k)) l) (mkS n bd lg hl) (i :: js) nl K) : RegN E KN all (o :: rest) i fr l (mkS n bd lg hl) js nl K :=
  RegN.load ho ha (loadAgg_at h1 h2 ((get_mkS b).trans hg) hk) hc hgd hd hlt h
end

theorem OpQ.convI {E : Env} {o : Oper} {l : Sl} {src dst : TypeId} {x : Operand} {j kx : IntKind} {n : Int} (ho : o.op = .convert src dst x) (hs : und E src = some (.int j)) (hd : und E dst = some (.int .i64)) (hx : opndL x l = some (.int kx n)) (h : -9223372036854775808 ≤ n ∧ n < 9223372036854775808) : OpQ E o l (.int .i64 n) := by
  have := OpQ.convInt (E := E) (l := l) ho hs hd hx
  rwa [wrapI_in h.1 h.2] at this
theorem EvtL.condT {E : Env} {fr : Fr} {l : Sl} {s : St} {Q : Ex → Fr → Sl → St → Prop} {x : Operand} {a b : Code} {t : Bool} (hx : opndL x l = some (.bool t)) (ht : t = true) (h : EvtL E a fr l s Q) : EvtL E (.cond x a b) fr l s Q :=
  EvtL.cond hx (fun _ => h) fun h0 => by rw [ht] at h0; cases h0
theorem EvtL.condF {E : Env} {fr : Fr} {l : Sl} {s : St} {Q : Ex → Fr → Sl → St → Prop} {x : Operand} {a b : Code} {t : Bool} (hx : opndL x l = some (.bool t)) (ht : t = false) (h : EvtL E b fr l s Q) : EvtL E (.cond x a b) fr l s Q :=
  EvtL.cond hx (fun h0 => by rw [ht] at h0; cases h0) fun _ => h

/-! ### Conditions -/
theorem cond_t {b : Bool} {x y : Prop} (hb : b = true) (h : x) : cond b x y := by subst hb; exact h
theorem nT {p : Prop} [Decidable p] (h : (!decide p) = true) : ¬ p := by simpa using h
theorem nF {p : Prop} [Decidable p] (h : (!decide p) = false) : p := by simpa using h
theorem notT {b : Bool} (h : (!b) = true) : b = false := by simpa using h
theorem notF {b : Bool} (h : (!b) = false) : b = true := by simpa using h
end Am

/- The abstract machine: calls that are walked through where they stand. -/
namespace Am
open Go
section
variable (E : Env)
/-- How the body of a call ends, if its caller is to go on. -/
def InlQ (f : FuncId) (rs : List ResultVar) (s0 : St) (R : AV → St → Prop) (ex : Ex) (fr : Fr) (l : Sl) (st : St) : Prop :=
  (ex = .ret ∨ ex = .normal) ∧ ∃ st', unwinds fr.defers st = some st' ∧ ∃ vs, resultsL E st' l rs = some vs ∧ ∃ cr, leave E f s0 (oneA vs) st' = some cr ∧ match cr with
    | .same v => R v s0
    | .val v s' => R v s'
    | .pan _ _ => False
/-- A call comes to an end, or to a panic: 'R': of its value, and of its caller's heap; 'RP': of the panic, and of that heap. -/
def RunsX (f : FuncId) (args : List AV) (s : St) (R RP : AV → St → Prop) : Prop :=
  ∃ N cr, (∀ n, N ≤ n → callF E (ev E n) f args s = some cr) ∧ match cr with
    | .same v => R v s
    | .val v s' => R v s'
    | .pan v s' => RP v s'
/-- How the body of a call ends, or panics. -/
def InlX (f : FuncId) (rs : List ResultVar) (s0 : St) (R RP : AV → St → Prop) (ex : Ex) (fr : Fr) (l : Sl) (st : St) : Prop := match ex with
  | .panic v => fr.defers = [] ∧ RP v (s0.back st)
  | ex => InlQ E f rs s0 R ex fr l st
end
section
variable {E : Env} {fr fr' : Fr} {l l' : Sl} {o : Oper} {n m bd : Nat} {lg lg' : List Nat} {hl hl' : Hl} {all rest : List Oper} {K : Sl → St → Prop} {f : FuncId} {rs : List ResultVar} {R : AV → St → Prop} {ex : Ex}

theorem RunsV.toX {s : St} {args : List AV} {RP : AV → St → Prop} (h : RunsV E f args s R) : RunsX E f args s R RP := by
  obtain ⟨N, cr, h1, h2⟩ := h
  refine ⟨N, cr, h1, ?_⟩
  cases cr with
  | same v => exact h2
  | val v s' => exact h2
  | pan v s' => exact h2.elim
theorem RunsX.gen {s : St} {fn : Func} {c : Code} {args : List AV} {RP : AV → St → Prop} {fr0 : Fr} {l0 : Sl} (hm : E.memo f args = none) (hf : E.fns.get f = some fn) (hc : fn.body = some c) (hr : fn.results.toList = rs)
    (hfr : frame fn.ntmps args none = fr0) (hl : argsL 0 args [] = l0) (h : EvtL E c fr0 l0 s.enter (InlX E f rs s R RP)) : RunsX E f args s R RP := by
  subst hfr hl hr
  obtain ⟨N, ex, fr', l', T', s', hq, hT', hr'⟩ := h _ (argsL_has args 0 (Has.nil .nil))
  have key : ∀ {m : Option AV} {st' : St} {cr : CR}, modeOf ex = some m → (∀ n, unwind E (ev E n) fr'.defers m s' = some (m, st')) → endWith E f fn s T' m st' = some cr → ∀ n, N + 1 ≤ n → callF E (ev E n) f args s = some cr := by
    intro m st' cr hmo hu he n hn
    obtain ⟨k, rfl⟩ : ∃ k, n = k + 1 := ⟨n - 1, by omega⟩
    unfold callF
    rw [hm]
    simp only [hf, hc, Option.bind_some]
    rw [ev_succ, hr' k (by omega)]
    show endF E (ev E (k + 1)) f fn s ⟨ex, fr', T', s'⟩ = _
    unfold endF
    simp only [hmo, Option.bind_some, hu, he]
  have val : InlQ E f fn.results.toList s R ex fr' l' s' → RunsX E f args s R RP := fun ⟨hex, st', hu, vs, hvs, cr, hlv, hR⟩ =>
    RunsV.toX ⟨N + 1, cr, key (by rcases hex with h | h <;> rw [h] <;> rfl) (fun n => unwinds_ok hu) (by simp only [endWith, resultsL_ok hT' hvs, Option.bind_some, hlv]), hR⟩
  cases ex with
  | panic v =>
    obtain ⟨hd, hp⟩ := hq
    exact ⟨N + 1, .pan v (s.back s'), key rfl (fun n => by rw [hd]; rfl) rfl, hp⟩
  | normal => exact val hq
  | ret => exact val hq
  | exit i => exact val hq
theorem RunsX.inl {fn : Func} {cb : Code} {args : List AV} {fr0 : Fr} {l0 : Sl} {RP : AV → St → Prop} (hm : E.memo f args = none) (hf : E.fns.get f = some fn) (hcb : fn.body = some cb) (hr : fn.results.toList = rs) (hfr : frame fn.ntmps args none = fr0) (hl0 : argsL 0 args [] = l0)
    (h : EvtL E cb fr0 l0 (mkS n n [] hl) (InlX E f rs (mkS n bd lg hl) R RP)) : RunsX E f args (mkS n bd lg hl) R RP :=
  RunsX.gen hm hf hcb hr hfr hl0 h
theorem InlX.r {s0 st : St} {RP : AV → St → Prop} (h : InlQ E f rs s0 R .ret fr l st) : InlX E f rs s0 R RP .ret fr l st := h
/-- An operation of a region that panics, or comes to a value. -/
theorem RegL.opX {KP : AV → Sl → St → Prop} {s : St} {d : Nat} (hg : o.guard = none) (hd : o.dst = some d) (hlt : Nat.blt d fr.nt = true)
    (h : ∀ T, Has l T → (∃ v s', OpTo E o fr T s v s' ∧ RegL E KP all rest fr ((d, v) :: l) s' K) ∨ ∃ v s', KP v l s' ∧ ∃ N, ∀ n, N ≤ n → ∀ k : KCl, (stepC E (opC E o.type o.op) k).run (ev E n) fr T s = .one ⟨.panic v, fr, T, s'⟩) : RegL E KP all (o :: rest) fr l s K := by
  intro T hT
  rcases h T hT with ⟨v, s', ho, h⟩ | ⟨v, s', hk, N, hN⟩
  · obtain ⟨N, ho⟩ := ho
    obtain ⟨M, ex, l', T', s2, hk, hT', hr⟩ := h _ (hT.put d v)
    refine ⟨max N M, ex, l', T', s2, hk, hT', fun n hn => ?_⟩
    show (oneC E all o (thenK o.dst (runC E all rest))).run (ev E n) fr T s = _
    unfold oneC guarded
    rw [hg]
    simp only
    rw [ho n (by omega), thenK_run _ _ (by rw [hd]; exact hlt), hd]
    exact hr n (by omega)
  · refine ⟨N, .panic v, l, T, s', hk, hT, fun n hn => ?_⟩
    show (oneC E all o (thenK o.dst (runC E all rest))).run (ev E n) fr T s = _
    unfold oneC guarded
    rw [hg]
    exact hN n hn _
theorem RegL.runX {KP : AV → Sl → St → Prop} {s : St} {d : Nat} {F : Tr AV → St → Option (FuncId × List AV)} {g : FuncId} {args : List AV} (hop : opC E o.type o.op = .call F) (hF : ∀ T, Has l T → F T s = some (g, args)) (hg : o.guard = none) (hd : o.dst = some d) (hlt : Nat.blt d fr.nt = true)
    (h : RunsX E g args s (fun v s' => RegL E KP all rest fr ((d, v) :: l) s' K) fun v s' => KP v l s') : RegL E KP all (o :: rest) fr l s K := by
  obtain ⟨N, cr, hr, hm⟩ := h
  refine RegL.opX hg hd hlt fun T hT => ?_
  have key : ∀ n, N ≤ n → ∀ k : KCl, (stepC E (opC E o.type o.op) k).run (ev E n) fr T s = crOut fr T s (k.run (ev E n) fr T) (some cr) := fun n hn k => by
    rw [hop]
    show crOut fr T s (k.run (ev E n) fr T) ((F T s).bind fun p => callF E (ev E n) p.1 p.2 s) = _
    rw [hF T hT]
    simp only [Option.bind_some]
    rw [hr n hn]
  cases cr with
  | same v => exact .inl ⟨v, s, ⟨N, key⟩, hm⟩
  | val v s' => exact .inl ⟨v, s', ⟨N, key⟩, hm⟩
  | pan v s' => exact .inr ⟨v, s', hm, N, key⟩
/-- A call that may panic. -/
theorem RegL.callX {KP : AV → Sl → St → Prop} {s : St} {c : Call} {args : List AV} {d : Nat} (ho : o.op = .call c) (hc : c.callee = .value (.func f)) (hb : hasBody E f = true) (ha : opndsL c.args.toList l = some args) (hg : o.guard = none) (hd : o.dst = some d)
    (hlt : Nat.blt d fr.nt = true) (h : RunsX E f args s (fun v s' => RegL E KP all rest fr ((d, v) :: l) s' K) fun v s' => KP v l s') : RegL E KP all (o :: rest) fr l s K :=
  RegL.runX (F := fun T _ => (opndsC E c.args.toList T).bind fun args => some (f, args)) (by
    rw [ho]
    show callC E o.type c = _
    unfold callC
    rw [hc]
    simp only [hb, cond_true]) (fun T hT => by rw [opndsL_ok hT ha]; rfl) hg hd hlt h
/-- A call without a contract. -/
theorem RegL.inl {KP : AV → Sl → St → Prop} {c : Call} {args : List AV} {d : Nat} {fn : Func} {cb : Code} {fr0 : Fr} {l0 : Sl} (hf : E.fns.get f = some fn) (hb : hasBody E f = true) (ho : o.op = .call c) (hc : c.callee = .value (.func f)) (ha : opndsL c.args.toList l = some args) (hg : o.guard = none) (hd : o.dst = some d) (hlt : Nat.blt d fr.nt = true)
    (hm : E.memo f args = none) (hcb : fn.body = some cb) (hr : fn.results.toList = rs) (hfr : frame fn.ntmps args none = fr0) (hl0 : argsL 0 args [] = l0)
    (h : EvtL E cb fr0 l0 (mkS n n [] hl) (InlX E f rs (mkS n bd lg hl) (fun v s' => RegL E KP all rest fr ((d, v) :: l) s' K) fun v s' => KP v l s')) : RegL E KP all (o :: rest) fr l (mkS n bd lg hl) K :=
  RegL.callX ho hc hb ha hg hd hlt (RunsX.inl hm hf hcb hr hfr hl0 h)

/-! ### Ends of such calls -/
/-- Nothing was written of what was there before, and what is handed back leads to nothing new. -/
theorem InlQ.same {vs : List AV} {w : AV} {ks : List Nat} (hd : fr'.defers = []) (hr : resultsL E (mkS m n [] hl') l' rs = some vs) (hz : E.frz f = 1) (hf : frzV (mkS m n [] hl') n 40 (oneA vs) [] = some (w, ks)) (hks : ks.all (fun b => Nat.ble n b) = true) (hu : underV n 40 w = true)
    (h : R w (mkS n bd lg hl)) : InlQ E f rs (mkS n bd lg hl) R .ret fr' l' (mkS m n [] hl') := by
  refine ⟨.inl rfl, mkS m n [] hl', by rw [hd]; rfl, vs, hr, .same w, ?_, h⟩
  unfold leave frozen
  rw [hz]
  show ((frozenFrom n (oneA vs) (mkS m n [] hl')).bind _) = _
  unfold frozenFrom
  rw [hf]
  simp only [Option.bind_some, leaveQ]
  have hk : (kill (mkS m n [] hl') ks).log = [] := kill_log (s := mkS m n [] hl') (ks := ks) fun b hb => Nat.le_of_ble_eq_true (List.all_eq_true.1 hks b hb)
  rw [hk]
  show some (bif underV n 40 w then _ else _) = _
  rw [hu]; rfl
def killH : List Nat → Hl → Hl
  | [], hl => hl
  | b :: ks, hl => killH ks ((b, none) :: hl)
theorem boolRes {a b : Bool} (h : a = b) : oneA [AV.bool a] = AV.bool b := by rw [h]; rfl
end
end Am

/- The abstract machine: operations that texts are built with. -/
namespace Am
open Go
section
variable {E : Env} {fr : Fr} {l : Sl} {s : St} {o : Oper}
theorem OpQ.pure1 {x : Operand} {g : AV → Option AV} {a v : AV} (hop : opC E o.type o.op = .pure fun T => (opnd E x T).bind g) (hx : opndL x l = some a) (hv : g a = some v) : OpQ E o l v := OpQ.pure hop fun T hT => by rw [opndL_ok hT hx]; exact hv
theorem OpQ.makeV {f : Tr AV → Option Mk} {v : AV} (hop : opC E o.type o.op = .make f) (hv : ∀ T, Has l T → f T = some (.val v)) : OpQ E o l v := by
  refine ⟨by rw [hop]; rfl, fun T hT => ⟨by rw [hop]; rfl, fun ev fr s k => ?_⟩⟩
  rw [hop]
  show mkOut s (k.run ev fr T) (f T) = _
  rw [hv T hT]; rfl
end

/-! ### Bytes in cells -/
/-! ### What is logged -/
theorem mem_logged {b c : Nat} : ∀ {lg : List Nat}, c ∈ logged b lg → c ∈ lg ∨ c = b
  | [], h => .inr (List.mem_singleton.1 h)
  | d :: lg, h => by
    change c ∈ (bif Nat.beq b d then d :: lg else b :: d :: lg) at h
    cases hb : Nat.beq b d with
    | true => rw [hb] at h; exact .inl h
    | false =>
      rw [hb] at h
      rcases List.mem_cons.1 h with h | h
      · exact .inr h
      · exact .inl h
theorem mem_put {s : St} {b c : Nat} {o : Option AObj} (h : c ∈ (s.put b o).log) : c ∈ s.log ∨ (c = b ∧ c < s.bound) := by
  have h' : c ∈ (bif Nat.blt b s.bound then logged b s.log else s.log) := h
  cases hb : Nat.blt b s.bound with
  | false => rw [hb] at h'; exact .inl h'
  | true =>
    rw [hb] at h'
    rcases mem_logged h' with h | h
    · exact .inl h
    · exact .inr ⟨h, by rw [h]; exact Nat.le_of_ble_eq_true hb⟩
/-! ### A buffer of bytes that only grows -/
/-- A slice of bytes that holds a text, of which nothing more is known than that it grows by append. -/
def BufR (s : St) (e : TypeId) (v : AV) (w : List UInt8) : Prop :=
  (v = .nilslice ∧ w = []) ∨ (∃ b, v = .slice b 0 0 1 (some 0) ∧ w = [] ∧ b < s.next ∧ s.heap.get b = some (.cells [] e true)) ∨
    ∃ b, v = .slice b 0 w.length 1 none ∧ w ≠ [] ∧ b < s.next ∧ s.heap.get b = some (.cells (byteCells w) e true)
end Am
namespace Am
open Go
end Am
namespace Am
open Go
theorem get_putS {s : St} {b c : Nat} {o : Option AObj} : (s.put b o).heap.get c = if c = b then o else s.heap.get c := get_set ..
/-- What is told of the blocks: all but some are as they were. -/
structure Chg (s s' : St) (own : Nat → Prop) : Prop where
  next : s.next ≤ s'.next
  bound : s'.bound = s.bound
  log : ∀ c ∈ s'.log, c ∈ s.log ∨ (c < s.bound ∧ own c)
  heap : ∀ c, c < s.next → ¬ own c → s'.heap.get c = s.heap.get c
end Am
namespace Am
open Go
theorem OpQ.lenV {E : Env} {l : Sl} {o : Oper} {c : Call} {t e : TypeId} {ts : List TypeId} {x : Operand} {a v : AV} (ho : o.op = .call c) (hc : c.callee = .builtin .len) (ht : c.argTypes.toList = t :: ts) (ha : c.args.toList = [x]) (hu : und E t = some (.slice e)) (hx : opndL x l = some a) (hv : Am.lenSl a = some v) : OpQ E o l v :=
  OpQ.pure1 (g := Am.lenSl) (by
    rw [ho]
    show callC E o.type c = _
    unfold callC
    rw [hc]
    simp only
    rw [ht, ha]
    show lenC E t x = _
    unfold lenC
    rw [hu]) hx hv
end Am
namespace Am
open Go
end Am
namespace Am
open Go
theorem clear_ne {anc b c j : Nat} {nl : News} (h : b ≠ c) (hn : clearB anc b nl = true) : clearB anc b ((j, c) :: nl) = true := by
  unfold clearB at hn ⊢
  rw [List.all_cons, hn, Bool.and_true]
  cases hb : Nat.beq c b with
  | false => rfl
  | true => exact absurd (Nat.eq_of_beq_eq_true hb).symm h
theorem clear_anc {anc b c j : Nat} {nl : News} (h : Nat.testBit anc j = true) (hn : clearB anc b nl = true) : clearB anc b ((j, c) :: nl) = true := by
  unfold clearB at hn ⊢
  rw [List.all_cons, hn, Bool.and_true]
  show (_ || Nat.testBit anc j) = true
  rw [h, Bool.or_true]
end Am
namespace Am
open Go
theorem mem_logged_self {b : Nat} : ∀ {lg : List Nat}, b ∈ logged b lg
  | [] => List.mem_singleton.2 rfl
  | c :: lg => by
    show b ∈ (bif Nat.beq b c then c :: lg else b :: c :: lg)
    cases hb : Nat.beq b c with
    | true => rw [Nat.eq_of_beq_eq_true hb]; exact List.mem_cons_self ..
    | false => exact List.mem_cons_self ..
theorem mem_put_self {s : St} {b : Nat} {o : Option AObj} (h : b < s.bound) : b ∈ (s.put b o).log := by
  show b ∈ (bif Nat.blt b s.bound then logged b s.log else s.log)
  rw [show Nat.blt b s.bound = true from Nat.ble_eq_true_of_le h]
  exact mem_logged_self
end Am
namespace Am
open Go
theorem OpQ.indexAddrV {E : Env} {l : Sl} {o : Oper} {t e : TypeId} {x i : Operand} {sz k : Nat} {ik : IntKind} {a p : AV} (ho : o.op = .indexAddr t x i) (hu : und E t = some (.slice e)) (hs : sizeOf E e = some (sz + 1)) (hx : opndL x l = some a) (hi : opndL i l = some (.int ik (k : Nat))) (hv : idxSliceV (sz + 1) k a = some p) : OpQ E o l p :=
  OpQ.pure (f := fun T => (opnd E i T).bind fun iv => (natOf iv).bind fun k => (opnd E x T).bind (idxSliceV (sz + 1) k)) (by
    rw [ho]
    show indexAddrC E t x i = _
    unfold indexAddrC
    rw [hu]
    simp only [hs]) fun T hT => by
    have h1 : natOf (.int ik (k : Nat)) = some k := rfl
    simp only [opndL_ok hT hx, opndL_ok hT hi, Option.bind_some, h1, hv]
/-! ### Lists of texts, wherever they lie -/
/-- A slice reads as a list of texts. -/
def StrsR (s : St) (v : AV) (l : List (List UInt8)) : Prop :=
  (v = .nilslice ∧ l = []) ∨ (∃ cl, v = .islice (l.map .str) l.length 1 cl) ∨
    ∃ b off cap cs e part, v = .slice b off l.length 1 cap ∧ b < s.next ∧ s.heap.get b = some (.cells cs e part) ∧ off + l.length ≤ cs.length ∧ (cs.drop off).take l.length = l.map .str ∧ (∀ c, cap = some c → l.length ≤ c)
/-- Texts, with another one between them. -/
def joinS (sep : List UInt8) : List (List UInt8) → List UInt8
  | [] => []
  | a :: l => a ++ l.flatMap (sep ++ ·)
end Am
namespace Am
open Go
def SubL : Sl → Sl → Prop
  | [], _ => True
  | p :: r, l => look p.1 l = some p.2 ∧ SubL r l
theorem sub_of {l : Sl} : ∀ {l' : Sl}, SubL l' l → ∀ p ∈ l', look p.1 l = some p.2
  | [], _, _, h => by cases h
  | q :: r, h, p, hp => by
    rcases List.mem_cons.1 hp with rfl | hp
    · exact h.1
    · exact sub_of h.2 p hp
end Am
namespace Am
open Go
end Am
namespace Am
open Go
/-- The place of a byte. -/
def idxS (c : UInt8) : List UInt8 → Option Nat
  | [] => none
  | b :: l => if b = c then some 0 else (idxS c l).map (· + 1)
def idxI (c : UInt8) (w : List UInt8) : Int := match idxS c w with
  | some n => (n : Int)
  | none => -1
end Am
namespace Am
open Go
/-- How many bytes at the beginning are such. -/
def tw (p : Int → Bool) (w : List UInt8) : Nat := (w.takeWhile fun b => p b.toNat).length
end Am
namespace Am
open Go
/-- A heap, and behind it one with one block more. -/
structure Fresh (e : TypeId) (st st1 : St) (cells : List AV) : Prop where
  next : st1.next = st.next + 1
  bound : st1.bound = st.bound
  log : st1.log = st.log
  low : ∀ c, c < st.next → st1.heap.get c = st.heap.get c
  cell : st1.heap.get st.next = some (.cells cells e false)
end Am
namespace Am
open Go
end Am
namespace Am
open Go
end Am
namespace Am
open Go
end Am
namespace Am
open Go
end Am

/- Arguments that are numbers, truths, strings, slices and structs of these: the machine's data for them. -/
namespace Am
open Go
/-- Data of a type, by its cells. -/
inductive Data (P : Program) : TypeId → List AV → Prop
  | bool {t : TypeId} (h : P.underlying t = some .bool) (b : Bool) : Data P t [.bool b]
  | int {t : TypeId} {k : IntKind} {n : Int} (h : P.underlying t = some (.int k)) (hw : (Lit.int k n).wf = true) : Data P t [.int k n]
  | str {t : TypeId} (h : P.underlying t = some .string) {w : List UInt8} (hw : w.length ≤ maxLen) : Data P t [.str w]
  | sl {t e : TypeId} (h : P.underlying t = some (.slice e)) {ls : List (List AV)} (hn : ls.length ≤ maxLen) (hl : ∀ l ∈ ls, l.length = P.cellsOf e) (hd : ∀ l ∈ ls, Data P e l) : Data P t [.islice ls.flatten ls.length (P.cellsOf e) true]
  | st {t : TypeId} {fs : Array Field} (h : P.underlying t = some (.struct fs)) {ls : List (List AV)} (hl : ls.length = fs.toList.length) (hd : ∀ (i : Nat) f l, fs.toList[i]? = some f → ls[i]? = some l → Data P f.type l) : Data P t ls.flatten

/-- Fields one behind the other. -/
def okLay (P : Program) : Nat → List Field → Option Nat
  | off, [] => some off
  | off, f :: fs => bif Nat.beq f.offset off then okLay P (off + P.cellsOf f.type) fs else none
/-- Types of data. -/
def dataT (P : Program) (ts : List TypeId) (t : TypeId) : Bool :=
  match P.underlying t with
  | some .bool | some (.int _) | some .string => true
  | some (.slice e) => ts.contains e
  | some (.struct fs) => (fs.toList.all fun f => ts.contains f.type) && (match okLay P 0 fs.toList with | some n => Nat.beq n (P.cellsOf t) | none => false)
  | _ => false
def dataB (P : Program) (ts : List TypeId) : Bool := ts.all (dataT P ts)

theorem mapM_all {α β γ : Type} {f : α → Option β} {Q : α → γ → Prop} : ∀ {l : List α} {r : List β}, l.mapM f = some r → (∀ x y, x ∈ l → f x = some y → ∃ z, Q x z) → ∃ zs : List γ, zs.length = l.length ∧ ∀ (i : Nat) x z, l[i]? = some x → zs[i]? = some z → Q x z
  | [], _, _, _ => ⟨[], rfl, fun i x z h => by simp at h⟩
  | a :: l, r, h, hq => by
    simp only [List.mapM_cons] at h
    obtain ⟨y, hy, h⟩ := Option.bind_eq_some_iff.1 h
    obtain ⟨ys, hys, h⟩ := Option.bind_eq_some_iff.1 h
    obtain ⟨z, hz⟩ := hq a y (List.mem_cons_self ..) hy
    obtain ⟨zs, hl, hzs⟩ := mapM_all hys fun x y hx => hq x y (List.mem_cons_of_mem _ hx)
    refine ⟨z :: zs, by simp [hl], fun i x z' h1 h2 => ?_⟩
    cases i with
    | zero => simp at h1 h2; subst h1 h2; exact hz
    | succ i => exact hzs i x z' (by simpa using h1) (by simpa using h2)

theorem choose_list {α γ : Type} {Q : α → γ → Prop} : ∀ {l : List α}, (∀ x ∈ l, ∃ z, Q x z) → ∃ zs : List γ, zs.length = l.length ∧ ∀ (i : Nat) x z, l[i]? = some x → zs[i]? = some z → Q x z
  | [], _ => ⟨[], rfl, fun i x z h => by simp at h⟩
  | a :: l, hq => by
    obtain ⟨z, hz⟩ := hq a (List.mem_cons_self ..)
    obtain ⟨zs, hl, hzs⟩ := choose_list fun x hx => hq x (List.mem_cons_of_mem _ hx)
    refine ⟨z :: zs, by simp [hl], fun i x z' h1 h2 => ?_⟩
    cases i with
    | zero => simp at h1 h2; subst h1 h2; exact hz
    | succ i => exact hzs i x z' (by simpa using h1) (by simpa using h2)
theorem isAt_app {α : Type} {ms a b : List α} {off : Nat} (h1 : IsAt ms off a) (h2 : IsAt ms (off + a.length) b) : IsAt ms off (a ++ b) := by
  obtain ⟨p, q, e, hp⟩ := h1
  obtain ⟨p2, q2, e2, hp2⟩ := h2
  refine ⟨p, q2, ?_, hp⟩
  have : p2 = p ++ a := by
    have h3 : p2.length = (p ++ a).length := by rw [List.length_append]; omega
    have h4 : p2 ++ (b ++ q2) = (p ++ a) ++ q := by rw [← List.append_assoc, ← e2, e]
    exact (List.append_inj h4 h3).1
  rw [e2, this]
  simp [List.append_assoc]
theorem isAt_nil {α : Type} {ms : List α} {off : Nat} (h : off ≤ ms.length) : IsAt ms off ([] : List α) := ⟨ms.take off, ms.drop off, by simp, by simp [h]⟩

section
variable {H : Type} {enc : TypeId × Value → H} {P : Program} {W : World}
/-- Cells that are read one behind the other lie so. -/
theorem chunk_at {a : Addr} {k : Nat} {cs : List Value} (h : W.cells? 0 a k = some cs) (hk : 0 < k) : ∃ ms, (Cx.memory W).M a.block = some ms ∧ a.spot = none ∧ IsAt ms a.off cs ∧ cs.length = k := by
  unfold World.cells? at h
  rw [if_pos (Nat.zero_le _)] at h
  have hall : ∀ (l : List Nat) (r : List Value), l.mapM (fun i => W.cell? (a.add i)) = some r → r.length = l.length ∧ ∀ (i x : Nat), l[i]? = some x → W.cell? (a.add x) = r[i]? := by
    intro l
    induction l with
    | nil => intro r h; simp at h; subst h; exact ⟨rfl, fun i x h => by simp at h⟩
    | cons b l ih =>
      intro r h
      simp only [List.mapM_cons] at h
      obtain ⟨y, hy, h⟩ := Option.bind_eq_some_iff.1 h
      obtain ⟨ys, hys, h⟩ := Option.bind_eq_some_iff.1 h
      cases h
      obtain ⟨i1, i2⟩ := ih ys hys
      refine ⟨by simp [i1], fun i x hx => ?_⟩
      cases i with
      | zero => simp at hx; subst hx; simpa using hy
      | succ i => simpa using i2 i x (by simpa using hx)
  obtain ⟨hl, hc⟩ := hall _ _ h
  rw [List.length_range] at hl
  have hc' : ∀ i, i < k → W.cell? (a.add i) = cs[i]? := fun i hi => hc i i (by simp [hi])
  have h0 := hc' 0 hk
  rw [List.getElem?_eq_getElem (by omega)] at h0
  unfold World.cell? at h0
  cases hb : W.heap[(a.add 0).block]? with
  | none => rw [hb] at h0; cases h0
  | some o =>
    rw [hb] at h0
    cases o with
    | cells c e fr =>
      simp only at h0
      have hsp : a.spot = none := by
        cases hs : a.spot with
        | none => rfl
        | some s =>
          rw [show (a.add 0).spot = a.spot from rfl, hs] at h0
          simp at h0
      obtain ⟨blk, off, sp⟩ := a
      obtain rfl : sp = none := hsp
      have hb' : W.heap[blk]? = some (.cells c e fr) := hb
      refine ⟨c.toList, by simp only [Cx.memory]; rw [hb'], rfl, ?_, hl⟩
      have hcell : ∀ i, i < k → c.toList[off + i]? = cs[i]? := fun i hi => by
        rw [← hc' i hi, add_none]
        unfold World.cell?
        rw [hb']
        simp
      have hlen : off + k ≤ c.toList.length := by
        have h1 := hcell (k - 1) (by omega)
        rw [List.getElem?_eq_getElem (l := cs) (by omega)] at h1
        have := (List.getElem?_eq_some_iff.1 h1).1
        omega
      refine ⟨c.toList.take off, c.toList.drop (off + k), ?_, by show _ = off; rw [List.length_take]; omega⟩
      have : cs = (c.toList.drop off).take k := by
        apply List.ext_getElem?
        intro i
        rcases Nat.lt_or_ge i k with hi | hi
        · rw [← hcell i hi, List.getElem?_take, if_pos hi, List.getElem?_drop]
        · rw [List.getElem?_eq_none (by omega), List.getElem?_eq_none (by rw [List.length_take]; omega)]
      rw [this, List.append_assoc, ← List.drop_drop, List.take_append_drop, List.take_append_drop]
    | _ => simp at h0
/-- A list of pieces that lie one behind the other. -/
theorem isAt_flatten {ms : List Value} {k : Nat} : ∀ (css : List (List Value)) (off : Nat), (∀ l ∈ css, l.length = k) → (∀ (i : Nat) l, css[i]? = some l → IsAt ms (off + i * k) l) → off ≤ ms.length → IsAt ms off css.flatten
  | [], off, _, _, h => isAt_nil h
  | l :: css, off, hl, h, ho => by
    have h0 := h 0 l rfl
    rw [Nat.zero_mul, Nat.add_zero] at h0
    have hlk := hl l (List.mem_cons_self ..)
    rw [List.flatten_cons]
    refine isAt_app h0 (isAt_flatten css _ (fun x hx => hl x (List.mem_cons_of_mem _ hx)) (fun i x hx => ?_) ?_)
    · have := h (i + 1) x (by simpa using hx)
      rwa [hlk, show off + k + i * k = off + (i + 1) * k by rw [Nat.succ_mul]; omega]
    · obtain ⟨p, q, e, hp⟩ := h0
      rw [e, List.length_append, List.length_append]; omega
theorem VRs.flatten {C : Cx} : ∀ {as : List (List AV)} {xs : List (List Value)}, as.length = xs.length → (∀ (i : Nat) a x, as[i]? = some a → xs[i]? = some x → VRs C a x) → VRs C as.flatten xs.flatten
  | [], [], _, _ => .nil
  | a :: as, x :: xs, hl, h => by
    rw [List.flatten_cons, List.flatten_cons]
    exact (h 0 a x rfl rfl).append (VRs.flatten (by simpa using hl) fun i b y h1 h2 => h (i + 1) b y (by simpa using h1) (by simpa using h2))
theorem cells_flatten {as : List (List AV)} (h : ∀ a ∈ as, Cells a) : Cells as.flatten := fun v hv => by
  obtain ⟨a, ha, hva⟩ := List.mem_flatten.1 hv
  exact h a ha v hva
/-- Cells of a struct by its fields. -/
theorem lay_parts {cs : List Value} : ∀ {fs : List Field} {off n : Nat}, okLay P off fs = some n → n = cs.length → off ≤ cs.length → (fs.map fun f => (cs.drop f.offset).take (P.cellsOf f.type)).flatten = cs.drop off
  | [], off, n, h, hn, _ => by
    cases h
    rw [List.map_nil, List.flatten_nil, hn, List.drop_length]
  | f :: fs, off, n, h, hn, ho => by
    unfold okLay at h
    cases hb : Nat.beq f.offset off with
    | false => rw [hb] at h; cases h
    | true =>
      rw [hb, cond_true] at h
      have he : f.offset = off := Nat.eq_of_beq_eq_true hb
      have hle : ∀ (fs : List Field) (o n : Nat), okLay P o fs = some n → o ≤ n := by
        intro fs
        induction fs with
        | nil => intro o n h; cases h; exact Nat.le_refl _
        | cons g fs ih =>
          intro o n h
          unfold okLay at h
          cases hb : Nat.beq g.offset o with
          | false => rw [hb] at h; cases h
          | true => rw [hb, cond_true] at h; have := ih _ _ h; omega
      have := hle _ _ _ h
      rw [List.map_cons, List.flatten_cons, lay_parts h hn (by omega), he, ← List.drop_drop, List.take_append_drop]
variable {sp : Nat → Bool} {held : Bool} {ts : List TypeId}
/-- What is read of a type of data is data. -/
theorem data_of (hts : dataB P ts = true) : ∀ (n : Nat) (t : TypeId) (cs : List Value) (x : DataW H × List MemPlace), t ∈ ts → DataW.trod enc P W 0 sp held n t cs = some x →
    ∃ avs, VRs (Cx.memory W).bare avs cs ∧ Cells avs ∧ Data P t avs
  | 0, _, _, _, _, h => by cases h
  | n + 1, t, cs, x, ht, h => by
    have hd : dataT P ts t = true := List.all_eq_true.1 hts t ht
    unfold dataT at hd
    split at hd
    · next hu =>
      obtain ⟨b, rfl, -⟩ := DataW.trod_bool hu h
      exact ⟨[.bool b], .cons (.bool _) .nil, by intro v hv; simp at hv; subst hv; rfl, .bool hu b⟩
    · next k hu =>
      obtain ⟨z, rfl, -, hw⟩ := DataW.trod_int hu h
      exact ⟨[.int k z], .cons (.int _ _) .nil, by intro v hv; simp at hv; subst hv; rfl, .int hu hw⟩
    · next hu =>
      obtain ⟨s, rfl, -, hs⟩ := DataW.trod_string hu h
      exact ⟨[.str s.data.toList], .cons (.str rfl) .nil, by intro v hv; simp at hv; subst hv; rfl, .str hu (by simpa using hs)⟩
    · next e hu =>
      have he : e ∈ ts := by simpa using hd
      rw [DataW.trod_step] at h
      unfold DataW.trodStep at h
      rw [hu] at h
      split at h <;> first | (cases h; done) | (next heq => cases heq; done) | (next heq _ => cases heq; done) | skip
      · exact ⟨[.islice [] 0 (P.cellsOf e) true], .cons (.islice0 none (Nat.zero_mul _) (Nat.zero_le _)) .nil, by intro v hv; simp at hv; subst hv; rfl, Data.sl (ls := []) hu (Nat.zero_le _) (by intro l hl; cases hl) (by intro l hl; cases hl)⟩
      · next e' a len cap heq =>
        cases heq
        simp only at h
        split at h
        · next hg =>
          obtain ⟨elems, hel, -⟩ := Option.bind_eq_some_iff.1 h
          obtain ⟨zs, hzl, hz⟩ := mapM_all (γ := List Value × List AV) (Q := fun i z => W.cells? 0 (a.add (i * P.cellsOf e)) (P.cellsOf e) = some z.1 ∧ VRs (Cx.memory W).bare z.2 z.1 ∧ Cells z.2 ∧ Data P e z.2) hel fun i y _ hy => by
            obtain ⟨c0, hc0, hr⟩ := Option.bind_eq_some_iff.1 hy
            obtain ⟨avs, h1, h2, h3⟩ := data_of hts n e c0 y he hr
            exact ⟨(c0, avs), hc0, h1, h2, h3⟩
          rw [List.length_range] at hzl
          have hzi : ∀ (i : Nat) z, zs[i]? = some z → i < len ∧ W.cells? 0 (a.add (i * P.cellsOf e)) (P.cellsOf e) = some z.1 ∧ VRs (Cx.memory W).bare z.2 z.1 ∧ Cells z.2 ∧ Data P e z.2 := fun i z hi => by
            have hlt := (List.getElem?_eq_some_iff.1 hi).1
            exact ⟨by omega, hz i i z (by rw [List.getElem?_range (by omega)]) hi⟩
          have hcl : ∀ (i : Nat) z, zs[i]? = some z → z.1.length = P.cellsOf e := fun i z hi => by
            have hc := (hzi i z hi).2.1
            by_cases hk : 0 < P.cellsOf e
            · exact (chunk_at hc hk).choose_spec.2.2.2
            · have h0 : P.cellsOf e = 0 := by omega
              rw [h0] at hc ⊢
              unfold World.cells? at hc
              rw [if_pos (Nat.zero_le _)] at hc
              simp at hc
              rw [hc]; rfl
          have hvl : ∀ (i : Nat) z, zs[i]? = some z → z.2.length = P.cellsOf e := fun i z hi => by rw [← hcl i z hi, (hzi i z hi).2.2.1.length]
          have hd2 : Data P t [.islice (zs.map (·.2)).flatten (zs.map (·.2)).length (P.cellsOf e) true] := .sl hu (by rw [List.length_map]; omega) (fun l hl => by
              obtain ⟨z, hz1, rfl⟩ := List.mem_map.1 hl
              obtain ⟨i, hi⟩ := List.mem_iff_getElem?.1 hz1
              exact hvl i z hi) (fun l hl => by
              obtain ⟨z, hz1, rfl⟩ := List.mem_map.1 hl
              obtain ⟨i, hi⟩ := List.mem_iff_getElem?.1 hz1
              exact (hzi i z hi).2.2.2.2)
          have hc2 : Cells (zs.map (·.2)).flatten := cells_flatten fun l hl => by
            obtain ⟨z, hz1, rfl⟩ := List.mem_map.1 hl
            obtain ⟨i, hi⟩ := List.mem_iff_getElem?.1 hz1
            exact (hzi i z hi).2.2.2.1
          refine ⟨_, .cons ?_ .nil, by intro v hv; simp at hv; subst hv; rfl, hd2⟩
          rw [List.length_map, hzl]
          have hlen : (zs.map (·.2)).flatten.length = len * P.cellsOf e := by
            have : ∀ (l : List (List Value × List AV)), (∀ z ∈ l, z.2.length = P.cellsOf e) → (l.map (·.2)).flatten.length = l.length * P.cellsOf e := by
              intro l
              induction l with
              | nil => intro _; simp
              | cons b l ih =>
                intro hb
                rw [List.map_cons, List.flatten_cons, List.length_append, ih fun z hz => hb z (List.mem_cons_of_mem _ hz), hb b (List.mem_cons_self ..), List.length_cons, Nat.succ_mul, Nat.add_comm]
            rw [this zs fun z hz1 => by
              obtain ⟨i, hi⟩ := List.mem_iff_getElem?.1 hz1
              exact hvl i z hi, hzl]
          by_cases h0 : len * P.cellsOf e = 0
          · rw [List.eq_nil_of_length_eq_zero (hlen.trans h0)]
            exact .islice0 _ h0 hg.2.1
          · have hk : 0 < P.cellsOf e := Nat.pos_of_ne_zero fun h => h0 (by rw [h, Nat.mul_zero])
            have hl0 : 0 < len := Nat.pos_of_ne_zero fun h => h0 (by rw [h, Nat.zero_mul])
            obtain ⟨z0, hz0⟩ : ∃ z, zs[0]? = some z := ⟨_, List.getElem?_eq_getElem (by omega)⟩
            have hc0 := (hzi 0 z0 hz0).2.1
            rw [Nat.zero_mul, show a.add 0 = a from rfl] at hc0
            obtain ⟨ms, hM, hsp, hat0, _⟩ := chunk_at hc0 hk
            obtain ⟨blk, off, spot⟩ := a
            obtain rfl : spot = none := hsp
            have hats : ∀ (i : Nat) l, (zs.map (·.1))[i]? = some l → IsAt ms (off + i * P.cellsOf e) l := fun i l hi => by
              rw [List.getElem?_map] at hi
              obtain ⟨z, hz1, rfl⟩ := Option.map_eq_some_iff.1 hi
              have hc := (hzi i z hz1).2.1
              rw [add_none] at hc
              obtain ⟨ms', hM', _, hat, _⟩ := chunk_at hc hk
              rw [show (⟨blk, off + i * P.cellsOf e, none⟩ : Addr).block = blk from rfl, hM] at hM'
              cases hM'
              exact hat
            refine .islice (vs := (zs.map (·.1)).flatten) (ms := ms) hlen hM ?_ ?_ ?_ hc2 hg.2.1
            · refine isAt_flatten _ _ (fun l hl => ?_) hats ?_
              · obtain ⟨z, hz1, rfl⟩ := List.mem_map.1 hl
                obtain ⟨i, hi⟩ := List.mem_iff_getElem?.1 hz1
                exact hcl i z hi
              · obtain ⟨p, q, e1, hp⟩ := hat0
                rw [e1, List.length_append, List.length_append]
                have : p.length = off := hp
                omega
            · refine VRs.flatten (by simp) fun i b y h1 h2 => ?_
              rw [List.getElem?_map] at h1 h2
              obtain ⟨z, hz1, rfl⟩ := Option.map_eq_some_iff.1 h1
              rw [hz1] at h2
              cases h2
              exact (hzi i z hz1).2.2.1
            · intro _
              refine VRs.flatten (by simp) fun i b y h1 h2 => ?_
              rw [List.getElem?_map] at h1 h2
              obtain ⟨z, hz1, rfl⟩ := Option.map_eq_some_iff.1 h1
              rw [hz1] at h2
              cases h2
              exact (hzi i z hz1).2.2.1
        · cases h
    · next fs hu =>
      obtain ⟨xs, m, hm, -, hlen, hxl, hx⟩ := DataW.trod_struct hu h
      obtain rfl : n = m := by omega
      rw [Bool.and_eq_true] at hd
      obtain ⟨zs, hzl, hz⟩ := choose_list (γ := List AV) (Q := fun (f : Field) z => VRs (Cx.memory W).bare z ((cs.drop f.offset).take (P.cellsOf f.type)) ∧ Cells z ∧ Data P f.type z) (l := fs.toList) fun f hf => by
        have hft : f.type ∈ ts := by simpa using List.all_eq_true.1 hd.1 f hf
        obtain ⟨i, hi⟩ := List.mem_iff_getElem?.1 hf
        have hi' : fs[i]? = some f := by simpa using hi
        have hlt : i < xs.length := by
          have := (Array.getElem?_eq_some_iff.1 hi').1
          omega
        have := hx i f hi'
        rw [List.getElem?_eq_getElem hlt] at this
        exact data_of hts n f.type _ _ hft this
      cases hl : okLay P 0 fs.toList with
      | none => rw [hl] at hd; cases hd.2
      | some m =>
        rw [hl] at hd
        have hm : m = P.cellsOf t := Nat.eq_of_beq_eq_true hd.2
        have hp := lay_parts (cs := cs) hl (by omega) (Nat.zero_le _)
        rw [List.drop_zero] at hp
        refine ⟨zs.flatten, ?_, cells_flatten fun z hz1 => ?_, .st hu hzl fun i f l hf hl2 => (hz i f l hf hl2).2.2⟩
        · rw [← hp]
          refine VRs.flatten (by simpa using hzl) fun i b y h1 h2 => ?_
          rw [List.getElem?_map] at h2
          obtain ⟨f, hf, rfl⟩ := Option.map_eq_some_iff.1 h2
          exact (hz i f b hf h1).1
        · obtain ⟨i, hi⟩ := List.mem_iff_getElem?.1 hz1
          have hlt := (List.getElem?_eq_some_iff.1 hi).1
          exact (hz i _ z (List.getElem?_eq_getElem (by omega)) hi).2.1
    · cases hd
/-- A struct as an argument. -/
theorem arg_struct (hts : dataB P ts = true) {t : TypeId} {fs : Array Field} {v : Value} {d : DataW H} {ps : List MemPlace} {r : Reach} {b0 : Nat} (ht : ts.contains t = true) (hu : P.underlying t = some (.struct fs)) (hv : Value.okWide P W r b0 t v) (h : DataW.Trod enc P W 0 sp held t v d ps) :
    ∃ avs, VR (Cx.memory W) (.agg avs) v ∧ Data P t avs := by
  unfold Value.okWide at hv
  rw [hu] at hv
  obtain ⟨cs, rfl, -, -⟩ := hv
  obtain ⟨n, hn⟩ := h
  obtain ⟨avs, h1, h2, h3⟩ := data_of hts n t _ _ (by simpa using ht) hn
  exact ⟨avs, .agg (h1.mono (Ext.of_bare _)) h2, h3⟩
/-- A slice, a number, a truth or a string as an argument. -/
theorem arg_slice (hts : dataB P ts = true) {t e : TypeId} {v : Value} {d : DataW H} {ps : List MemPlace} {r : Reach} {b0 : Nat} (ht : ts.contains t = true) (hu : P.underlying t = some (.slice e)) (hv : Value.okWide P W r b0 t v) (h : DataW.Trod enc P W 0 sp held t v d ps) :
    ∃ av, VR (Cx.memory W) av v ∧ Data P t [av] := by
  unfold Value.okWide Cell.okWide Cell.ok at hv
  rw [hu] at hv
  obtain ⟨n, hn⟩ := h
  obtain ⟨avs, h1, h2, h3⟩ := data_of hts n t _ _ (by simpa using ht) hn
  have hone : v.cells.toList = [v] := by
    cases v <;> first | rfl | (simp at hv)
  rw [hone] at h1
  cases h1 with
  | cons ha hb =>
    cases hb
    exact ⟨_, ha.mono (Ext.of_bare _), h3⟩
end
end Am

/- The abstract machine's rules: ranging over a string; elements of immutable lists of structs. -/
namespace Am
open Go
section
variable {E : Env} {fr : Fr} {l : Sl} {s : St} {o : Oper}
end
/-- A list of records that nobody writes. -/
def recs {α : Type} (enc : α → List AV) (k : Nat) (l : List α) : AV := .islice (l.flatMap enc) l.length k true
theorem flat_len {α : Type} {enc : α → List AV} {k : Nat} (h : ∀ a, (enc a).length = k) : ∀ l : List α, (l.flatMap enc).length = l.length * k
  | [] => (Nat.zero_mul k).symm
  | a :: l => by rw [List.flatMap_cons, List.length_append, flat_len h l, h a, List.length_cons, Nat.succ_mul, Nat.add_comm]
theorem flat_drop {α : Type} {enc : α → List AV} {k : Nat} (h : ∀ a, (enc a).length = k) : ∀ {l : List α} {i : Nat} (hi : i < l.length), (l.flatMap enc).drop (i * k) = enc l[i] ++ (l.drop (i + 1)).flatMap enc
  | a :: l, 0, _ => by rw [Nat.zero_mul, List.drop_zero]; rfl
  | a :: l, i + 1, hi => by
    have ih := flat_drop h (l := l) (i := i) (by simpa using hi)
    rw [List.flatMap_cons, show (i + 1) * k = (enc a).length + i * k by rw [h a, Nat.succ_mul, Nat.add_comm], List.drop_length_add_append, ih]
    rfl
theorem recs_idx {α : Type} {enc : α → List AV} {k : Nat} (h : ∀ a, (enc a).length = k + 1) {l : List α} {i : Nat} (hi : i < l.length) : idxSliceV (k + 1) i (recs enc (k + 1) l) = some (.iptr (enc l[i] ++ (l.drop (i + 1)).flatMap enc)) := by
  unfold recs idxSliceV
  simp only [show Nat.blt i l.length = true from Nat.ble_eq_true_of_le hi, cond_true]
  have hlt : i * (k + 1) < (l.flatMap enc).length := by rw [flat_len h]; exact Nat.mul_lt_mul_of_pos_right hi (Nat.succ_pos k)
  have hd := flat_drop h hi
  have h1 : dropN (i * (k + 1)) (l.flatMap enc) = some ((l.flatMap enc).drop (i * (k + 1))) := by
    have := dropN_append ((l.flatMap enc).take (i * (k + 1))) ((l.flatMap enc).drop (i * (k + 1)))
    rwa [List.take_append_drop, List.length_take, Nat.min_eq_left (by omega)] at this
  rw [h1, hd, Option.bind_some]
  cases he : enc l[i] with
  | nil => have := h l[i]; rw [he] at this; cases this
  | cons c cs => rfl
end Am
namespace Am
open Go
section
variable {E : Env} {fr : Fr} {l : Sl} {o : Oper} {all rest : List Oper} {i : Nat} {js : List Nat} {nl : News} {K : Sl → St → Prop} {st : St} {od : Option Nat}
/-- append in a region that draws its order, behind all that made or wrote anything. -/
theorem RegN.append {KN : PN} {c : Call} {t e : TypeId} {ts : List TypeId} {x y : Operand} {sz by_ n : Nat} {z a b v : AV} {new : List AV} {s2 : St} (ho : o.op = .call c) (hc : c.callee = .builtin .append) (ht : c.argTypes.toList = t :: ts) (ha : c.args.toList = [x, y])
    (hu : und E t = some (.slice e)) (hsz : sizeOf E e = some sz) (hby : bytesOf E e = some by_) (hz : zeroOf E e = some z) (hk : (!(Nat.beq (len' z.cells) sz) || Nat.beq sz 0 || !(knownT E ts.head?)) = false) (h0 : isZeros E ts.head? = false)
    (hx : opndL x (restr (tmpsOf o.op.operands.toList) l) = some a) (hy : opndL y (restr (tmpsOf o.op.operands.toList) l) = some b) (hn : appendedV (st.sub st.heap) sz b = some (new, n)) (hr : appendTo (st.sub st.heap) e sz by_ new n a = some (v, s2))
    (hnx : st.next ≤ s2.next) (hlog : ∀ b ∈ s2.log, b < st.next ∧ clearB (ancOf all i) b nl = true) (hjs : seenB (ancOf all i) js = true) (hnl : (nl.all fun p => Nat.testBit (ancOf all i) p.1) = true)
    (hg : GuardOn all l o) (hd : o.dst = od) (hlt : dstOk fr.nt od = true)
    (h : RegN E KN all rest (i + 1) fr (putL od v l) (st.merged s2) (i :: js) (tagL i (tagL i nl (newL st.next (s2.next - st.next))) s2.log) K) : RegN E KN all (o :: rest) i fr l st js nl K :=
  RegN.act (x := opnd E x) (f := fun T s => (opnd E x T).bind fun a => (opnd E y T).bind fun b => (appendedV s sz b).bind fun p => appendTo s e sz by_ p.1 p.2 a) (by
    rw [ho]
    show callC E o.type c = _
    unfold callC
    rw [hc]
    simp only
    rw [ht, ha]
    show appendC E t ts.head? x y = _
    unfold appendC
    rw [hu]
    simp only [hsz, hby, hz, hk, h0, cond_false]) (OpL.append ho hc ht ha hu hsz hby hz hk h0 hx hy hn hr) hnx hlog hjs hnl hg hd hlt h
end
end Am
namespace Am
open Go
end Am
namespace Am
open Go
end Am
namespace Am
open Go
section
variable {E : Env} {fr : Fr} {l : Sl} {o : Oper} {all rest : List Oper} {i : Nat} {js : List Nat} {nl : News} {K : Sl → St → Prop} {st : St} {od : Option Nat}
theorem RegN.buildSlice {KN : PN} {t e : TypeId} {len sz : Nat} {parts : Array (Nat × Operand)} {z : AV} {ps : List (Nat × AV)} {cs : List AV} (ho : o.op = .buildSlice t (len + 1) parts) (hu : und E t = some (.slice e)) (hs : sizeOf E e = some sz) (hz : zeroOf E e = some z)
    (hk : (Nat.beq (len' z.cells) sz && Nat.ble ((len + 1) * sz) 16777216 && !(Nat.beq sz 0)) = true) (hq : partsL parts.toList (restr (tmpsOf o.op.operands.toList) l) = some ps) (hf : fillA (fun i => some (i * sz, sz)) ps (repeatA z.cells (len + 1)) = some cs)
    (hg : GuardOn all l o) (hd : o.dst = od) (hlt : dstOk fr.nt od = true)
    (h : RegN E KN all rest (i + 1) fr (putL od (.slice st.next 0 (len + 1) sz (some (len + 1))) l) (st.alloc (.cells cs e false)) js ((i, st.next) :: nl) K) : RegN E KN all (o :: rest) i fr l st js nl K :=
  RegN.make (f := fun T => (partsC E parts.toList T).bind fun ps => buildSliceV e sz (len + 1) (fillA (fun i => some (i * sz, sz)) ps (repeatA z.cells (len + 1)))) (g := fun b => .slice b 0 (len + 1) sz (some (len + 1))) (by
    rw [ho]
    show buildSliceC E t (len + 1) parts.toList = _
    unfold buildSliceC
    rw [hu]
    simp only [hs, hz, hk, cond_true]) (fun T hT => by
    simp only [partsL_ok hT hq, Option.bind_some, hf]
    rfl) hg hd hlt h
end
end Am
namespace Am
open Go
theorem clear_all {anc b : Nat} : ∀ {nl : News}, (nl.all fun p => Nat.testBit anc p.1) = true → clearB anc b nl = true
  | [], _ => rfl
  | (j, c) :: nl, h => by
    rw [List.all_cons, Bool.and_eq_true] at h
    exact clear_anc h.1 (clear_all h.2)
theorem small_ok {n k : Nat} (h : n * (k + 1) ≤ 1099511627776) (hk : k + 1 ≤ 1048576) : small n (k + 1) = true := by
  have : n ≤ n * (k + 1) := Nat.le_mul_of_pos_right _ (Nat.succ_pos k)
  unfold small
  rw [Nat.ble_eq_true_of_le h, Nat.ble_eq_true_of_le (show n ≤ 1099511627776 by omega), Nat.ble_eq_true_of_le hk]
  rfl
end Am
namespace Am
open Go
end Am
namespace Am
open Go
section
variable {E : Env} {fr : Fr} {l : Sl} {s : St} {all rest : List Oper} {o : Oper}
theorem get_allocS {st : St} {ob : AObj} {c : Nat} : (st.alloc ob).heap.get c = if c = st.next then some ob else st.heap.get c := get_set ..
theorem get_new {st : St} {ob : AObj} : (st.alloc ob).heap.get st.next = some ob := by rw [get_allocS, if_pos rfl]
theorem get_old {st : St} {ob : AObj} {c : Nat} (h : c < st.next) : (st.alloc ob).heap.get c = st.heap.get c := by rw [get_allocS, if_neg (Nat.ne_of_lt h)]
/-! ### Maps of names -/
/-- The entries of a set of strings. -/
def entsN : Nat → List (List UInt8) → List Ent
  | _, [] => []
  | k, w :: l => (.str w, .bool true, k) :: entsN (k + 1) l
end
end Am
namespace Am
open Go
section
variable {E : Env} {fr : Fr} {l : Sl} {s : St} {all rest : List Oper} {o : Oper} {K : Sl → St → Prop}
end
end Am
namespace Am
open Go
end Am
namespace Am
open Go
section
variable {E : Env} {fr : Fr} {l : Sl} {st : St} {o : Oper} {all rest : List Oper} {i : Nat} {js : List Nat} {nl : News} {K : Sl → St → Prop} {od : Option Nat}
/-- An operation of a drawn region that looks at whatever and writes nothing, behind all that made or wrote anything. -/
theorem RegN.look {KN : PN} {v : AV} (hq : quietSo (opC E o.type o.op) = true) (htch : ∀ T, Has (restr (tmpsOf o.op.operands.toList) l) T → touchOf (opC E o.type o.op) T = .all)
    (ho : OpL E o fr (restr (tmpsOf o.op.operands.toList) l) (st.sub st.heap) v (st.sub st.heap)) (hnl : (nl.all fun p => Nat.testBit (ancOf all i) p.1) = true) (hg : GuardOn all l o) (hd : o.dst = od) (hlt : dstOk fr.nt od = true)
    (h : RegN E KN all rest (i + 1) fr (putL od v l) st (i :: js) nl K) : RegN E KN all (o :: rest) i fr l st js nl K := by
  refine RegN.gen hq (fun T news hn hT => ⟨.inl (List.mem_cons_self ..), ?_⟩) (fun j hj => List.mem_cons_of_mem _ hj) hg hd hlt h
  rw [htch T hT]
  have : subHeap (ancOf all i) news st.heap .all = st.heap := hide_clear hnl hn
  rw [this]
  exact alone_of (ho T hT)
end
end Am

/- The abstract machine: lists that grow by several elements, and are written. -/
namespace Am
open Go
/-- Several elements behind a list that append has made. -/
theorem Grown.appends {s : St} {e : TypeId} {sz by_ n m : Nat} {v : AV} {cs new : List AV} (h : Grown s e sz v cs n) (hnew : new.length = m * sz) (hsz : 0 < sz) (hsm : small (n + m) by_ = true) :
    ∃ v' s', appendTo s e sz by_ new m v = some (v', s') ∧ Grown s' e sz v' (cs ++ new) (n + m) ∧ (∀ c, ownB c v' = true → ownB c v = true ∨ c = s.next) ∧ s.next ≤ s'.next ∧ s'.next ≤ s.next + 1 ∧ s'.bound = s.bound ∧ (∀ c ∈ s'.log, c ∈ s.log ∨ (c < s.bound ∧ ownB c v = true)) ∧
      ∀ c, c < s.next → ownB c v = false → s'.heap.get c = s.heap.get c := by
  by_cases hm : m = 0
  · subst hm
    have : new = [] := List.length_eq_zero_iff.1 (by rw [hnew, Nat.zero_mul])
    subst this
    refine ⟨v, s, ?_, by rw [List.append_nil]; exact h, fun c hc => .inl hc, Nat.le_refl _, Nat.le_succ _, rfl, fun c hc => .inl hc, fun c _ _ => rfl⟩
    rcases h with ⟨rfl, _⟩ | ⟨b, rfl, _⟩ <;> rfl
  have hb0 : Nat.beq m 0 = false := by
    cases hb : Nat.beq m 0 with
    | false => rfl
    | true => exact absurd (Nat.eq_of_beq_eq_true hb) hm
  rcases h with ⟨rfl, rfl, rfl⟩ | ⟨b, rfl, hb, hg, hl, h0⟩
  · rw [Nat.zero_add] at hsm ⊢
    refine ⟨.slice s.next 0 m sz none, s.alloc (.cells new e true), ?_, .inr ⟨s.next, rfl, Nat.lt_succ_self _, ?_, by rw [List.nil_append, hnew], hm⟩, fun c hc => .inr (Nat.eq_of_beq_eq_true hc).symm, Nat.le_succ _, Nat.le_refl _, rfl, fun c hc => .inl hc, fun c hc _ => ?_⟩
    · simp only [appendTo, hsm, hb0, cond_true, cond_false]
    · show (s.heap.set s.next _).get s.next = _
      rw [get_set, if_pos rfl, List.nil_append]
    · show (s.heap.set s.next _).get c = _
      rw [get_set, if_neg (by omega)]
  · have hfit : fitsA sz n m none cs = false := by
      show Nat.ble ((n + m) * sz) (len' cs) = false
      rw [len'_eq, hl]
      have h1 : (n + m) * sz = n * sz + m * sz := Nat.add_mul ..
      have h2 : 0 < m * sz := Nat.mul_pos (Nat.pos_of_ne_zero hm) hsz
      cases hb : Nat.ble ((n + m) * sz) (n * sz) with
      | false => rfl
      | true => have := Nat.le_of_ble_eq_true hb; omega
    refine ⟨.slice s.next 0 (n + m) sz none, (s.put b none).alloc (.cells (cs ++ new) e true), ?_, .inr ⟨s.next, rfl, Nat.lt_succ_self _, ?_, by rw [List.length_append, hl, hnew, Nat.add_mul], by omega⟩, fun c hc => .inr (Nat.eq_of_beq_eq_true hc).symm, Nat.le_succ _, Nat.le_refl _, rfl, fun c hc => ?_, fun c hc ho => ?_⟩
    · unfold appendTo
      simp only [hb0, cond_false, Nat.beq_refl, hsm, Bool.and_self, cond_true, hg, appendOb, appendIn]
      rw [show dropN 0 cs = some cs from rfl]
      simp only [Option.bind_some, hfit, cond_false, Bool.true_or, cond_true]
      rw [← hl, takeN_all]
      rfl
    · show ((s.heap.set b none).set s.next _).get s.next = _
      rw [get_set, if_pos rfl]
    · rcases mem_put (s := s) (b := b) (o := none) hc with h | ⟨rfl, h⟩
      · exact .inl h
      · exact .inr ⟨h, Nat.beq_refl _⟩
    · show ((s.heap.set b none).set s.next _).get c = _
      have hcb : c ≠ b := fun h => by subst h; rw [show ownB c (.slice c 0 n sz none) = true from Nat.beq_refl c] at ho; cases ho
      rw [get_set, if_neg (by omega), get_set, if_neg hcb]
theorem Grown.own {s : St} {e : TypeId} {sz n : Nat} {v : AV} {cs : List AV} (h : Grown s e sz v cs n) {c : Nat} (hc : ownB c v = true) : c < s.next := by
  rcases h with ⟨rfl, _⟩ | ⟨b, rfl, hb, _⟩
  · cases hc
  · have := Nat.eq_of_beq_eq_true (show Nat.beq b c = true from hc); omega
theorem Grown.len {s : St} {e : TypeId} {sz n : Nat} {v : AV} {cs : List AV} (h : Grown s e sz v cs n) : lenSl v = some (.int .i64 (n : Nat)) := by
  rcases h with ⟨rfl, rfl, _⟩ | ⟨b, rfl, _⟩ <;> rfl
/-- An element is written. -/
theorem over_one {v : AV} : ∀ {cs : List AV} {k : Nat}, k < cs.length → over [v] k cs = some (cs.set k v)
  | [], _, h => absurd h (Nat.not_lt_zero _)
  | a :: cs, 0, _ => rfl
  | a :: cs, k + 1, h => by
    have ih := over_one (v := v) (cs := cs) (k := k) (Nat.lt_of_succ_lt_succ h)
    show consO a (over [v] k cs) = _
    rw [ih]; rfl
end Am
namespace Am
open Go
theorem appended_new {s : St} {b sz : Nat} {new : List AV} {e : TypeId} {part : Bool} {cap : Option Nat} (hg : s.heap.get b = some (.cells new e part)) (hnew : new.length = sz) : appendedV s sz (.slice b 0 1 sz cap) = some (new, 1) := by
  show (bif Nat.beq sz sz then (cellsOf? (s.heap.get b)).bind fun cs => (dropN 0 cs).bind fun l => (takeN (1 * sz) l).bind fun l => some (l, 1) else none) = _
  rw [Nat.beq_refl, hg]
  show (takeN (1 * sz) new).bind _ = _
  rw [Nat.one_mul, ← hnew, takeN_all]; rfl
section
variable {E : Env} {fr : Fr} {l : Sl} {st : St} {o : Oper} {all rest : List Oper} {i : Nat} {js : List Nat} {nl : News} {K : Sl → St → Prop} {od : Option Nat}
end
end Am
namespace Am
open Go
end Am
namespace Am
open Go
/-! ### Loops whose frame grows -/
/-! ### Slices of blocks -/
section
variable {E : Env} {fr : Fr} {l : Sl} {st s : St} {o : Oper} {all rest : List Oper} {i : Nat} {js : List Nat} {nl : News} {K : Sl → St → Prop} {od : Option Nat}
theorem RegN.sliceM {KN : PN} {t e : TypeId} {x : Operand} {lo hi : Option Operand} {sz b : Nat} {vlo vhi : Option AV} {a v : AV} (ho : o.op = .slice t x lo hi none) (hu : und E t = some (.slice e)) (hs : sizeOf E e = some sz) (hx : opndL x (restr (tmpsOf o.op.operands.toList) l) = some a) (hlo : opndOL lo (restr (tmpsOf o.op.operands.toList) l) = some vlo)
    (hhi : opndOL hi (restr (tmpsOf o.op.operands.toList) l) = some vhi) (hb : blockOf (some a) = some b) (hv : ∀ s' : St, s'.heap.get b = st.heap.get b → sliceSlV s' sz vlo vhi none a = some v) (hc : clearB (ancOf all i) b nl = true) (hg : GuardOn all l o) (hd : o.dst = od) (hlt : dstOk fr.nt od = true)
    (h : RegN E KN all rest (i + 1) fr (putL od v l) st (i :: js) nl K) : RegN E KN all (o :: rest) i fr l st js nl K :=
  RegN.rd (x := opnd E x) (f := fun T s => (opnd E x T).bind fun a => (opndOC E lo T).bind fun l => (opndOC E hi T).bind fun h => (opndOC E none T).bind fun m => sliceSlV s sz l h m a) (b := b) (by
    rw [ho]
    show sliceC E t x lo hi none = _
    unfold sliceC
    rw [hu]
    simp only [hs]) (fun T hT => opndL_ok hT hx) hb (fun T hT => by
    have hm : opndOC E none T = some none := rfl
    simp only [opndL_ok hT hx, opndOL_ok hT hlo, opndOL_ok hT hhi, hm, Option.bind_some]
    exact hv _ (by show (Tr.set .nil b (st.heap.get b)).get b = _; rw [get_set, if_pos rfl])) hc hg hd hlt h
end
end Am
namespace Am
open Go
section
variable {E : Env} {l : Sl} {o : Oper}
theorem OpQ.shr {t yt : TypeId} {x y : Operand} {k j : IntKind} {a b : Int} {v : AV} (ho : o.op = .binOp .shr t x y yt) (hu : und E t = some (.int k)) (hx : opndL x l = some (.int k a)) (hy : opndL y l = some (.int j b)) (hv : shrA k a b = some v) : OpQ E o l v :=
  OpQ.pure (f := fun T => (opnd E x T).bind fun a => (opnd E y T).bind fun b => intSh shrA a b) (by
    rw [ho]
    show binC E .shr t x y = _
    unfold binC
    rw [hu]; rfl) fun _ hT => by simp only [opndL_ok hT hx, opndL_ok hT hy, Option.bind_some, intSh, hv]
theorem OpQ.convU {src dst : TypeId} {x : Operand} {j kx : IntKind} {n : Int} (ho : o.op = .convert src dst x) (hs : und E src = some (.int j)) (hd : und E dst = some (.int .u64)) (hx : opndL x l = some (.int kx n)) (h : 0 ≤ n ∧ n < 18446744073709551616) : OpQ E o l (.int .u64 n) := by
  have := OpQ.convInt (E := E) (l := l) ho hs hd hx
  unfold wrapI at this
  rwa [Go.IntWalk.u64_in n ⟨h.1, by omega⟩] at this
end
end Am
namespace Am
open Go
end Am
namespace Am
open Go
end Am
namespace Am
open Go
/-! ### Rounds and calls that write, in regions that draw their order -/
section
variable {E : Env} {fr : Fr} {l : Sl} {s st : St} {o : Oper} {all rest : List Oper} {i : Nat} {js : List Nat} {nl : News} {K : Sl → St → Prop} {od : Option Nat}
end
/-- Such an operation's heap is the region's. -/
theorem merged_eq {st s2 : St} (hn : st.next ≤ s2.next) (hlg : ∀ c, c < st.next → c ∉ s2.log → s2.heap.get c = st.heap.get c) : ∀ c, c < s2.next → (st.merged s2).heap.get c = s2.heap.get c := by
  intro c hc
  show (copyAll s2.heap (newL st.next (s2.next - st.next)) (copyAll s2.heap s2.log st.heap)).get c = _
  rw [copyAll_get, copyAll_get]
  by_cases h1 : c ∈ newL st.next (s2.next - st.next)
  · rw [if_pos h1]
  · rw [if_neg h1]
    by_cases h2 : c ∈ s2.log
    · rw [if_pos h2]
    · rw [if_neg h2]
      by_cases h3 : c < st.next
      · exact (hlg c h3 h2).symm
      · exact absurd (newL_mem.2 ⟨by omega, by omega⟩) h1
end Am
namespace Am
open Go
end Am
namespace Am
open Go
end Am
namespace Am
open Go
end Am
namespace Am
open Go
end Am
namespace Am
open Go
theorem mem_put_old {s : St} {b c : Nat} {o : Option AObj} (h : c ∈ s.log) : c ∈ (s.put b o).log := by
  show c ∈ (bif Nat.blt b s.bound then logged b s.log else s.log)
  cases Nat.blt b s.bound with
  | false => exact h
  | true =>
    rw [cond_true]
    cases hl : s.log with
    | nil => rw [hl] at h; cases h
    | cons d l =>
      rw [hl] at h
      show c ∈ (bif Nat.beq b d then d :: l else b :: d :: l)
      cases Nat.beq b d with
      | true => exact h
      | false => exact List.mem_cons_of_mem _ h
/-- What is told of written blocks is told of all: those that are not logged are as they were. -/
def Told (s s' : St) : Prop := ∀ d, d < s.bound → d ∉ s'.log → s'.heap.get d = s.heap.get d
end Am

/- Short names: the walker's commonest steps, each with its equations as one. -/
namespace Am
open Go
theorem t2 {α β : Type} {a a' : α} {b b' : β} (h : (a, b) = (a', b')) : a = a' ∧ b = b' := by cases h; exact ⟨rfl, rfl⟩
section
variable {E : Env} {fr : Fr} {l : Sl} {s : St} {all rest : List Oper} {o : Oper} {K : Sl → St → Prop} {Q : Ex → Fr → Sl → St → Prop} {v : AV} {s' : St} {d : Nat}
theorem o2 {op : BinOp} {t yt : TypeId} {x y : Operand} {k : IntKind} {a b : Int} {f : IntKind → Int → Int → Option AV} (hu : und E t = some (.int k)) (ho : (o.op, intF op) = (.binOp op t x y yt, some f))
    (hx : (opndL x l, opndL y l, f k a b) = (some (.int k a), some (.int k b), some v)) : OpQ E o l v :=
  OpQ.int2 (t2 ho).1 hu (t2 ho).2 (t2 hx).1 (t2 (t2 hx).2).1 (t2 (t2 hx).2).2
theorem of {t : TypeId} {x : Operand} {i off n : Nat} {agg : Bool} {b k : Nat} (hf : fieldOf E t i = some (off, n + 1, agg)) (ho : (o.op, opndL x l) = (.fieldAddr t x i, some (.ptr b k))) : OpQ E o l (.ptr b (k + off)) :=
  OpQ.fieldAddr (t2 ho).1 hf (t2 ho).2
theorem on {t : TypeId} {x : Operand} {b : Bool} (ho : (o.op, opndL x l) = (.unOp .not t x, some (.bool b))) : OpQ E o l (.bool (!b)) := OpQ.not (t2 ho).1 (t2 ho).2
variable {j e : Nat} {w b : Bool} {oj : Oper}
end
section
variable {E : Env} {fr : Fr} {l : Sl} {o : Oper} {n m bd : Nat} {lg : List Nat} {hl : Hl}
theorem l1 {t : TypeId} {a : Operand} {k b off : Nat} {v : AV} {cs : List AV} {e : TypeId} {part : Bool} (h1 : isAgg E t = some false) (h2 : sizeOf E t = some k)
    (ho : (o.op, opndL a l, lookH b hl, cs[off]?) = (.load t a, some (.ptr b off), some (.cells cs e part), some v)) : OpL E o fr l (mkS n bd lg hl) v (mkS n bd lg hl) :=
  have h := t2 ho; have h' := t2 h.2; have h'' := t2 h'.2
  OpL.loadS1 h.1 h1 h2 h'.1 h''.1 h''.2
end
section
variable {E : Env} {fr : Fr} {l : Sl} {st : St} {o : Oper} {all rest : List Oper} {i : Nat} {js : List Nat} {nl : News} {K : Sl → St → Prop} {od : Option Nat} {v : AV} {j e : Nat} {w b : Bool} {oj : Oper}
end
end Am
namespace Am
open Go
section
variable {E : Env} {fr : Fr} {l : Sl} {st : St} {o : Oper} {all rest : List Oper} {i : Nat} {js : List Nat} {nl : News} {K : Sl → St → Prop} {od : Option Nat}
end
end Am
