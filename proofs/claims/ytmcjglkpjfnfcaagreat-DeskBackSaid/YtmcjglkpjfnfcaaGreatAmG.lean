/- The abstract machine: more rules; contracts; heaps as lists; strings and builders. -/
import Derived.Test.YtmcjglkpjfnfcaaGreatAmF
set_option linter.unusedSectionVars false
set_option linter.unusedVariables false
set_option linter.unusedSimpArgs false

/- The abstract machine: regions that draw their order, with what was made or written known block by block. -/
namespace Am
open Go
section
variable (E : Env)
/-- As RegM; 'nl': which blocks may have been made or written, and by which operations. -/
def RegN (all rest : List Oper) (i : Nat) (fr : Fr) (l : Sl) (st : St) (js : List Nat) (nl : News) (K : Sl → St → Prop) : Prop :=
  ∀ (T : Tr AV) (news : News) (looked : Looked), Has l T → (∀ p ∈ news, p ∈ nl) → (∀ p ∈ looked, p.1 ∈ js ∨ p.2.1 = .nothing) →
    ∃ N l' q', K l' q'.st ∧ Has l' q'.T ∧ ∀ n, N ≤ n → drawAll E all (ev E n) fr (planD E (befores all) rest i) ⟨T, st, news, looked⟩ = some q'
end
/-- What is known of the slots behind an operation. -/
def putL (d : Option Nat) (v : AV) (l : Sl) : Sl := match d with
  | some d => (d, v) :: l
  | none => l
/-- What is before an operation. -/
noncomputable def ancOf (all : List Oper) (i : Nat) : Nat := (nth (befores all) i).getD 0
section
variable {E : Env} {fr : Fr} {l : Sl} {st : St} {o : Oper} {all rest : List Oper} {i : Nat} {js : List Nat} {nl : News} {K : Sl → St → Prop} {od : Option Nat}

theorem Has.putL {T : Tr AV} (h : Has l T) (d : Option Nat) (v : AV) : Has (Am.putL d v l) (putT d v T) := by
  cases d with
  | none => exact h
  | some d => exact h.put d v
theorem putC_ok {nt : Nat} {v : AV} {T : Tr AV} (hlt : dstOk nt od = true) : putC od nt v T = some (putT od v T) := by
  cases od with
  | none => rfl
  | some d =>
    show (bif Nat.blt d nt then some (Tr.setP (some v) (pathOf d) T) else none) = _
    have : Nat.blt d nt = true := hlt
    rw [this]; rfl
theorem put_quietN {nt : Nat} {d : DOp} {q : DSt} {tch : Touch} {v : AV} {H : Tr AObj} (hd : d.o.dst = od) (hlt : dstOk nt od = true) :
    drawPut nt d q (tch, v, q.st.sub H) = some ⟨putT od v q.T, q.st, q.news, (d.i, tch, reOf d q (tch, v, q.st.sub H)) :: q.looked⟩ := by
  unfold drawPut
  have h1 : Nat.ble q.st.next (q.st.sub H).next = true := ble_self _
  have h2 : (q.st.sub H).next - q.st.next = 0 := Nat.sub_self _
  have h3 : (q.st.sub H).log = [] := rfl
  simp only [h1, h2, h3, hd, putC_ok hlt, mayWrite, Bool.and_self, cond_true, Option.bind_some, newL, copyAll, tagL, below]
  rfl

theorem RegN.done (h : K l st) : RegN E all [] i fr l st js nl K := fun T news looked hT _ _ => ⟨0, l, ⟨T, st, news, looked⟩, h, hT, fun _ _ => rfl⟩
theorem RegN.toD (h : RegN E all rest i fr l st js [] K) : RegD E all rest i fr l st js true K := fun T news looked hT hn hl =>
  h T news looked hT (fun p hp => by rw [hn rfl] at hp; cases hp) hl
theorem EvtL.seqDrawN {Q : Ex → Fr → Sl → St → Prop} {k : Nat} {ops : Array Oper} {b : Code} (hok : drawOk ops.toList = true) (h : RegN E ops.toList ops.toList 0 fr l st [] [] fun l s => EvtL E b fr l s Q) : EvtL E (.seq (.region k ops true) b) fr l st Q :=
  EvtL.seqDraw hok h.toD

theorem runN {n : Nat} {T : Tr AV} {news : News} {looked : Looked} {r : Touch × AV × St} (hT : Has l T) (hg : GuardOn all l o) (h : drawGo E (ev E n) fr (dop E all i o) ⟨T, st, news, looked⟩ (pickT T (tmpsOf o.op.operands.toList) .nil) = some r) :
    drawRun E all (ev E n) fr (dop E all i o) ⟨T, st, news, looked⟩ = some r := by
  unfold drawRun
  rcases hg with hg | ⟨g, hg, hw⟩
  · have : (dop E all i o).o.guard = none := hg
    rw [this]; exact h
  · have : (dop E all i o).o.guard = some g := hg
    rw [this]
    show (wantedC all g T).bind _ = _
    rw [hw T hT]
    exact h

theorem RegN.gen {v : AV} {js' : List Nat} (hq : quietSo (opC E o.type o.op) = true)
    (ho : ∀ (T : Tr AV) (news : News), (∀ p ∈ news, p ∈ nl) → Has (restr (tmpsOf o.op.operands.toList) l) T →
      (i ∈ js' ∨ touchOf (opC E o.type o.op) T = .nothing) ∧ Alone E o fr T v (st.sub (subHeap (ancOf all i) news st.heap (touchOf (opC E o.type o.op) T))))
    (hjs : ∀ j ∈ js, j ∈ js') (hg : GuardOn all l o) (hd : o.dst = od) (hlt : dstOk fr.nt od = true) (h : RegN E all rest (i + 1) fr (putL od v l) st js' nl K) : RegN E all (o :: rest) i fr l st js nl K := by
  intro T news looked hT hnw hlk
  obtain ⟨hj, N, hN⟩ := ho _ news hnw (hT.restr (tmpsOf o.op.operands.toList))
  let dd : DOp := dop E all i o
  let q : DSt := ⟨T, st, news, looked⟩
  let T' := pickT T (tmpsOf o.op.operands.toList) .nil
  let tch := touchOf (opC E o.type o.op) T'
  let H := subHeap dd.anc news st.heap tch
  let re := reOf dd q (tch, v, st.sub H)
  obtain ⟨M, l', q', hk, hT', hr⟩ := h (putT od v T) news ((i, tch, re) :: looked) (hT.putL od v) hnw (fun p hp => by
    rcases List.mem_cons.1 hp with rfl | hp
    · exact hj
    · exact (hlk p hp).imp (hjs _) id)
  refine ⟨max N M, l', q', hk, hT', fun n hn => ?_⟩
  have hgo : drawGo E (ev E n) fr dd q T' = some (tch, v, st.sub H) := by
    unfold drawGo
    have : quietSo dd.so = true := hq
    rw [this]
    simp only [cond_true]
    show drawGot tch ((stepC E (opC E o.type o.op) K0).run (ev E n) fr T' (st.sub H)) = _
    have h1 : (stepC E (opC E o.type o.op) K0).run (ev E n) fr T' (st.sub H) = .one ⟨.normal, fr, oneT v, st.sub H⟩ := hN n (by omega)
    rw [h1]; rfl
  show ((drawRun E all (ev E n) fr dd q).bind fun r => (drawPut fr.nt dd q r).bind fun q' => drawAll E all (ev E n) fr (planD E (befores all) rest (i + 1)) q') = _
  rw [runN hT hg hgo]
  simp only [Option.bind_some]
  have hp := put_quietN (nt := fr.nt) (d := dd) (q := q) (tch := tch) (v := v) (H := H) (od := od) hd hlt
  have hsub : q.st.sub H = st.sub H := rfl
  rw [hsub] at hp
  rw [hp]
  simp only [Option.bind_some]
  exact hr n (by omega)

/-- A guard keeps an operation back. -/
theorem RegN.off {g : Nat × Bool} (hg : o.guard = some g) (hw : ∀ T, Has l T → wantedC all g T = some false) (hd : o.dst = od) (hlt : dstOk fr.nt od = true)
    (h : RegN E all rest (i + 1) fr (putL od (.tuple []) l) st js nl K) : RegN E all (o :: rest) i fr l st js nl K := by
  intro T news looked hT hnw hlk
  let dd : DOp := dop E all i o
  let q : DSt := ⟨T, st, news, looked⟩
  let re := reOf dd q (.nothing, .tuple [], st.sub .nil)
  obtain ⟨M, l', q', hk, hT', hr⟩ := h (putT od (.tuple []) T) news ((i, .nothing, re) :: looked) (hT.putL od _) hnw (fun p hp => by
    rcases List.mem_cons.1 hp with rfl | hp
    · exact .inr rfl
    · exact hlk p hp)
  refine ⟨M, l', q', hk, hT', fun n hn => ?_⟩
  have hrun : drawRun E all (ev E n) fr dd q = some (.nothing, .tuple [], st.sub .nil) := by
    unfold drawRun
    have : dd.o.guard = some g := hg
    rw [this]
    show (wantedC all g T).bind _ = _
    rw [hw T hT]; rfl
  show ((drawRun E all (ev E n) fr dd q).bind fun r => (drawPut fr.nt dd q r).bind fun q' => drawAll E all (ev E n) fr (planD E (befores all) rest (i + 1)) q') = _
  rw [hrun]
  simp only [Option.bind_some]
  have hp := put_quietN (nt := fr.nt) (d := dd) (q := q) (tch := .nothing) (v := .tuple []) (H := .nil) (od := od) hd hlt
  have hsub : q.st.sub .nil = st.sub .nil := rfl
  rw [hsub] at hp
  rw [hp]
  simp only [Option.bind_some]
  exact hr n (by omega)

theorem RegN.skip {j e : Nat} {w b : Bool} {oj : Oper} (hg : o.guard = some (j, w)) (hj : nth all j = some oj) (he : oj.dst = some e) (hl : look e l = some (.bool b)) (hb : b = !w)
    (hd : o.dst = od) (hlt : dstOk fr.nt od = true) (h : RegN E all rest (i + 1) fr (putL od (.tuple []) l) st js nl K) : RegN E all (o :: rest) i fr l st js nl K :=
  RegN.off hg (fun T hT => by rw [wanted_go (g := (j, w)) hj he (hT e _ hl), hb]; cases w <;> rfl) hd hlt h
theorem RegN.both {j e : Nat} {w b : Bool} {oj : Oper} (_hg : o.guard = some (j, w)) (_hj : nth all j = some oj) (_he : oj.dst = some e) (_hl : look e l = some (.bool b))
    (h1 : b = true → RegN E all (o :: rest) i fr l st js nl K) (h0 : b = false → RegN E all (o :: rest) i fr l st js nl K) : RegN E all (o :: rest) i fr l st js nl K := by
  cases b
  · exact h0 rfl
  · exact h1 rfl

/-- An operation that looks at no block. -/
theorem RegN.qG {v : AV} (ho : OpQ E o (restr (tmpsOf o.op.operands.toList) l) v) (hg : GuardOn all l o) (hd : o.dst = od) (hlt : dstOk fr.nt od = true) (h : RegN E all rest (i + 1) fr (putL od v l) st js nl K) : RegN E all (o :: rest) i fr l st js nl K :=
  RegN.gen ho.1 (fun T _ _ hT => ⟨.inr (ho.2 T hT).1, alone_of ⟨0, fun n _ k => (ho.2 T hT).2 (ev E n) fr _ k⟩⟩) (fun _ h => h) hg hd hlt h
/-- An operation that leaves the heap alone. -/
theorem RegN.aG {v : AV} (ho : OpA E o fr (restr (tmpsOf o.op.operands.toList) l) v) (hg : GuardOn all l o) (hd : o.dst = od) (hlt : dstOk fr.nt od = true) (h : RegN E all rest (i + 1) fr (putL od v l) st (i :: js) nl K) : RegN E all (o :: rest) i fr l st js nl K :=
  RegN.gen ho.1 (fun T _ _ hT => ⟨.inl (List.mem_cons_self ..), alone_of (by
    obtain ⟨N, hN⟩ := ho.2 T hT
    exact ⟨N, fun n hn k => hN n hn _ k⟩)⟩) (fun _ h => List.mem_cons_of_mem _ h) hg hd hlt h
/-- Was a block made or written by what is not before? -/
def clearB (anc b : Nat) (nl : News) : Bool := nl.all fun p => !(Nat.beq p.2 b) || Nat.testBit anc p.1
theorem hidden_clear {anc b : Nat} (h : clearB anc b nl = true) : ∀ {news : News}, (∀ p ∈ news, p ∈ nl) → hiddenB anc b news = false
  | [], _ => rfl
  | p :: news, hn => by
    unfold hiddenB
    have h1 := List.all_eq_true.1 h p (hn p (List.mem_cons_self ..))
    rw [hidden_clear h (fun q hq => hn q (List.mem_cons_of_mem _ hq))]
    cases hb : Nat.beq p.2 b with
    | false => rfl
    | true =>
      rw [hb] at h1
      have h2 : Nat.testBit anc p.1 = true := h1
      rw [h2]; rfl

/-- An operation that reads a block. -/
theorem RegN.rd {x : Tr AV → Option AV} {f : Tr AV → St → Option AV} {v p : AV} {b : Nat} (hop : opC E o.type o.op = .read x f) (hx : ∀ T, Has (restr (tmpsOf o.op.operands.toList) l) T → x T = some p) (hp : blockOf (some p) = some b)
    (hv : ∀ T, Has (restr (tmpsOf o.op.operands.toList) l) T → f T (st.sub (Tr.set .nil b (st.heap.get b))) = some v) (hc : clearB (ancOf all i) b nl = true) (hg : GuardOn all l o) (hd : o.dst = od) (hlt : dstOk fr.nt od = true)
    (h : RegN E all rest (i + 1) fr (putL od v l) st (i :: js) nl K) : RegN E all (o :: rest) i fr l st js nl K := by
  refine RegN.gen (by rw [hop]; rfl) (fun T news hnw hT => ⟨.inl (List.mem_cons_self ..), ?_⟩) (fun _ h => List.mem_cons_of_mem _ h) hg hd hlt h
  rw [hop]
  have : touchOf (.read x f) T = .block b := by
    show touchB (blockOf (x T)) = _
    rw [hx T hT, hp]; rfl
  rw [this]
  have hs : subHeap (ancOf all i) news st.heap (.block b) = Tr.set .nil b (st.heap.get b) := by
    show (bif hiddenB (ancOf all i) b news then _ else _) = _
    rw [hidden_clear hc hnw]; rfl
  rw [hs]
  exact alone_of ⟨0, fun n _ k => by
    rw [hop]
    show valOut (fun v => k.run (ev E n) fr T v _) (f T _) = _
    rw [hv T hT]; rfl⟩

theorem readAt_block {n b off : Nat} {s s' : St} (hs : s'.heap.get b = s.heap.get b) : readAt s' n (.ptr b off) = readAt s n (.ptr b off) := by
  unfold readAt
  simp only [hs]
theorem loadC_block {t : TypeId} {b off : Nat} {s s' : St} (hs : s'.heap.get b = s.heap.get b) : loadC E t s' (.ptr b off) = loadC E t s (.ptr b off) := by
  unfold loadC
  cases isAgg E t with
  | none => rfl
  | some g =>
    cases sizeOf E t with
    | none => cases g <;> rfl
    | some n =>
      cases g
      · show (readAt s' 1 _).bind _ = (readAt s 1 _).bind _
        rw [readAt_block hs]
      · show (readAt s' n _).bind _ = (readAt s n _).bind _
        rw [readAt_block hs]

/-- A load from a block. -/
theorem RegN.load {t : TypeId} {a : Operand} {v : AV} {b off : Nat} (ho : o.op = .load t a) (ha : opndL a (restr (tmpsOf o.op.operands.toList) l) = some (.ptr b off))
    (hv : loadC E t st (.ptr b off) = some v) (hc : clearB (ancOf all i) b nl = true) (hg : GuardOn all l o) (hd : o.dst = od) (hlt : dstOk fr.nt od = true) (h : RegN E all rest (i + 1) fr (putL od v l) st (i :: js) nl K) : RegN E all (o :: rest) i fr l st js nl K :=
  RegN.rd (x := opnd E a) (f := fun T s => (opnd E a T).bind (loadC E t s)) (b := b) (by rw [ho]; rfl) (fun T hT => opndL_ok hT ha) rfl (fun T hT => by
    rw [opndL_ok hT ha]
    exact (loadC_block (by show (Tr.set .nil b (st.heap.get b)).get b = _; rw [get_set, if_pos rfl])).trans hv) hc hg hd hlt h

/-- An operation that makes a block. -/
theorem RegN.make {f : Tr AV → Option Mk} {ob : AObj} {g : Nat → AV} (hop : opC E o.type o.op = .make f) (hv : ∀ T, Has (restr (tmpsOf o.op.operands.toList) l) T → f T = some (.obj ob g)) (hg : GuardOn all l o) (hd : o.dst = od) (hlt : dstOk fr.nt od = true)
    (h : RegN E all rest (i + 1) fr (putL od (g st.next) l) (st.alloc ob) js ((i, st.next) :: nl) K) : RegN E all (o :: rest) i fr l st js nl K := by
  intro T news looked hT hnw hlk
  let dd : DOp := dop E all i o
  let q : DSt := ⟨T, st, news, looked⟩
  let T' := pickT T (tmpsOf o.op.operands.toList) .nil
  let s2 : St := (st.sub .nil).alloc ob
  let re := reOf dd q (.nothing, g st.next, s2)
  obtain ⟨M, l', q', hk, hT', hr⟩ := h (putT od (g st.next) T) ((i, st.next) :: news) ((i, .nothing, re) :: looked) (hT.putL od _) (fun p hp => by
    rcases List.mem_cons.1 hp with rfl | hp
    · exact List.mem_cons_self ..
    · exact List.mem_cons_of_mem _ (hnw p hp)) (fun p hp => by
    rcases List.mem_cons.1 hp with rfl | hp
    · exact .inr rfl
    · exact hlk p hp)
  refine ⟨M, l', q', hk, hT', fun n hn => ?_⟩
  have hgo : drawGo E (ev E n) fr dd q T' = some (.nothing, g st.next, s2) := by
    unfold drawGo
    have hso : dd.so = .make f := hop
    have hqs : quietSo dd.so = true := by rw [hso]; rfl
    rw [hqs]
    simp only [cond_true]
    have htch : touchOf dd.so T' = .nothing := by rw [hso]; rfl
    rw [htch]
    have hst : (stepC E (opC E o.type o.op) K0).run (ev E n) fr T' (st.sub .nil) = K0.run (ev E n) fr T' (g (st.sub .nil).next) ((st.sub .nil).alloc ob) := by
      rw [hop]
      show mkOut _ _ (f T') = _
      rw [hv T' (hT.restr (tmpsOf o.op.operands.toList))]; rfl
    show drawGot .nothing ((stepC E (opC E o.type o.op) K0).run (ev E n) fr T' (st.sub .nil)) = _
    rw [hst]; rfl
  show ((drawRun E all (ev E n) fr dd q).bind fun r => (drawPut fr.nt dd q r).bind fun q' => drawAll E all (ev E n) fr (planD E (befores all) rest (i + 1)) q') = _
  rw [runN hT hg hgo]
  simp only [Option.bind_some]
  have hput : drawPut fr.nt dd q (.nothing, g st.next, s2) = some ⟨putT od (g st.next) T, st.alloc ob, (i, st.next) :: news, (i, .nothing, re) :: looked⟩ := by
    unfold drawPut
    have h1 : Nat.ble q.st.next s2.next = true := Nat.ble_eq_true_of_le (Nat.le_succ _)
    have h3 : dd.o.dst = od := hd
    have h4 : newL q.st.next (s2.next - q.st.next) = [st.next] := by
      show newL st.next (st.next + 1 - st.next) = _
      rw [Nat.add_sub_cancel_left]; rfl
    have h5 : s2.heap.get st.next = some ob := by
      show (Tr.set .nil st.next (some ob)).get st.next = _
      rw [get_set, if_pos rfl]
    have h6 : s2.log = [] := rfl
    simp only [h1, h6, mayWrite, h3, Bool.and_self, cond_true, putC_ok hlt, Option.bind_some, h4, tagL, copyAll, h5, below]
    rfl
  rw [hput]
  simp only [Option.bind_some]
  exact hr n (by omega)

theorem tagL_mono {i : Nat} {p : Nat × Nat} : ∀ {L : List Nat} {news : News}, (∀ p ∈ news, p ∈ nl) → p ∈ tagL i news L → p ∈ tagL i nl L
  | [], _, hn, h => hn _ h
  | b :: L, news, hn, h => by
    rcases List.mem_cons.1 h with rfl | h
    · exact List.mem_cons_self ..
    · exact List.mem_cons_of_mem _ (tagL_mono hn h)

/-- What was looked at by others was looked at before. -/
def seenB (anc : Nat) (js : List Nat) : Bool := js.all fun j => Nat.testBit anc j
theorem free_seen {anc b n : Nat} {ob : Option AObj} (hjs : seenB anc js = true) : ∀ {L : Looked}, (∀ p ∈ L, p.1 ∈ js ∨ p.2.1 = .nothing) → freeOf anc b n ob L = true
  | [], _ => rfl
  | p :: L, hL => by
    unfold freeOf
    have ih := free_seen (b := b) (n := n) (ob := ob) hjs fun q hq => hL q (List.mem_cons_of_mem _ hq)
    rcases hL p (List.mem_cons_self ..) with h1 | h1
    · have : Nat.testBit anc p.1 = true := List.all_eq_true.1 hjs _ h1
      rw [this]; exact ih
    · rw [h1]
      simp only [hitB, cond_false]
      cases Nat.testBit anc p.1 <;> exact ih

/-- An operation that writes, or makes, blocks, behind all that looked at any. 'H': the heap that it sees. -/
theorem RegN.acts {x : Tr AV → Option AV} {f : Tr AV → St → Option (AV × St)} {v : AV} {s2 : St} {one : Bool} {tch : Touch} {H : Tr AObj} (hop : opC E o.type o.op = .act one x f)
    (htch : ∀ T, Has (restr (tmpsOf o.op.operands.toList) l) T → touchOf (.act one x f) T = tch) (hH : ∀ news : News, (∀ p ∈ news, p ∈ nl) → subHeap (ancOf all i) news st.heap tch = H)
    (ho : OpL E o fr (restr (tmpsOf o.op.operands.toList) l) (st.sub H) v s2)
    (hnx : st.next ≤ s2.next) (hlog : ∀ b ∈ s2.log, b < st.next ∧ clearB (ancOf all i) b nl = true) (hjs : seenB (ancOf all i) js = true)
    (hg : GuardOn all l o) (hd : o.dst = od) (hlt : dstOk fr.nt od = true)
    (h : RegN E all rest (i + 1) fr (putL od v l) (st.merged s2) (i :: js) (tagL i (tagL i nl (newL st.next (s2.next - st.next))) s2.log) K) : RegN E all (o :: rest) i fr l st js nl K := by
  intro T news looked hT hnw hlk
  obtain ⟨N, hN⟩ := ho _ (hT.restr (tmpsOf o.op.operands.toList))
  let dd : DOp := dop E all i o
  let q : DSt := ⟨T, st, news, looked⟩
  let T' := pickT T (tmpsOf o.op.operands.toList) .nil
  let re := reOf dd q (tch, v, s2)
  have hanc : dd.anc = ancOf all i := rfl
  obtain ⟨M, l', q', hk, hT', hr⟩ := h (putT od v T) (tagL i (tagL i news (newL st.next (s2.next - st.next))) s2.log) ((i, tch, re) :: looked) (hT.putL od v)
    (fun p hp => tagL_mono (fun p hp => tagL_mono hnw hp) hp) (fun p hp => by
    rcases List.mem_cons.1 hp with rfl | hp
    · exact .inl (List.mem_cons_self ..)
    · exact (hlk p hp).imp (List.mem_cons_of_mem _) id)
  refine ⟨max N M, l', q', hk, hT', fun n hn => ?_⟩
  have hgo : drawGo E (ev E n) fr dd q T' = some (tch, v, s2) := by
    unfold drawGo
    have hso : dd.so = .act one x f := hop
    have hqs : quietSo dd.so = true := by rw [hso]; rfl
    rw [hqs]
    simp only [cond_true]
    have ht : touchOf dd.so T' = tch := by rw [hso]; exact htch _ (hT.restr _)
    rw [ht]
    have hst := hN n (by omega) K0
    show drawGot tch ((stepC E (opC E o.type o.op) K0).run (ev E n) fr T' (st.sub (subHeap dd.anc news st.heap tch))) = _
    rw [hanc, hH news hnw, hst]; rfl
  have hmay : ∀ L : List Nat, (∀ b ∈ L, b < st.next ∧ clearB (ancOf all i) b nl = true) → mayWrite dd.anc st.next s2.next s2.heap q L = true := by
    intro L
    induction L with
    | nil => intro _; rfl
    | cons b L ih =>
      intro hL
      unfold mayWrite
      have h1 : Nat.blt b st.next = true := by simpa [Nat.blt_eq] using (hL b (List.mem_cons_self ..)).1
      have h2 : hiddenB dd.anc b q.news = false := hidden_clear (hL b (List.mem_cons_self ..)).2 hnw
      have h3 : freeOf dd.anc b s2.next (s2.heap.get b) q.looked = true := free_seen hjs hlk
      rw [h1, h2, h3, ih fun c hc => hL c (List.mem_cons_of_mem _ hc)]
      rfl
  show ((drawRun E all (ev E n) fr dd q).bind fun r => (drawPut fr.nt dd q r).bind fun q' => drawAll E all (ev E n) fr (planD E (befores all) rest (i + 1)) q') = _
  rw [runN hT hg hgo]
  simp only [Option.bind_some]
  have hput : drawPut fr.nt dd q (tch, v, s2) = some ⟨putT od v T, st.merged s2, tagL i (tagL i news (newL st.next (s2.next - st.next))) s2.log, (i, tch, re) :: looked⟩ := by
    unfold drawPut
    have h1 : Nat.ble q.st.next s2.next = true := Nat.ble_eq_true_of_le hnx
    have h2 : mayWrite dd.anc q.st.next s2.next s2.heap q s2.log = true := hmay s2.log hlog
    have h3 : dd.o.dst = od := hd
    simp only [h1, h2, h3, Bool.and_self, cond_true, putC_ok hlt, Option.bind_some]
    rfl
  rw [hput]
  simp only [Option.bind_some]
  exact hr n (by omega)

theorem hide_clear {anc : Nat} (h : (nl.all fun p => Nat.testBit anc p.1) = true) {news : News} {hp : Tr AObj} (hn : ∀ p ∈ news, p ∈ nl) : hideAll anc news hp = hp :=
  hide_none fun p hp => List.all_eq_true.1 h p (hn p hp)

/-- An operation that looks at whatever, behind all that made or wrote anything. -/
theorem RegN.act {x : Tr AV → Option AV} {f : Tr AV → St → Option (AV × St)} {v : AV} {s2 : St} (hop : opC E o.type o.op = .act false x f) (ho : OpL E o fr (restr (tmpsOf o.op.operands.toList) l) (st.sub st.heap) v s2)
    (hnx : st.next ≤ s2.next) (hlog : ∀ b ∈ s2.log, b < st.next ∧ clearB (ancOf all i) b nl = true) (hjs : seenB (ancOf all i) js = true) (hnl : (nl.all fun p => Nat.testBit (ancOf all i) p.1) = true)
    (hg : GuardOn all l o) (hd : o.dst = od) (hlt : dstOk fr.nt od = true)
    (h : RegN E all rest (i + 1) fr (putL od v l) (st.merged s2) (i :: js) (tagL i (tagL i nl (newL st.next (s2.next - st.next))) s2.log) K) : RegN E all (o :: rest) i fr l st js nl K :=
  RegN.acts (tch := .all) hop (fun _ _ => rfl) (fun _ hn => hide_clear hnl hn) ho hnx hlog hjs hg hd hlt h
end
end Am

/- The abstract machine: more operations, by rules. -/
namespace Am
open Go
section
variable {E : Env} {fr : Fr} {l : Sl} {s : St} {o : Oper}

theorem OpQ.mkIface {t : TypeId} {x : Operand} {v : AV} (ho : o.op = .makeInterface t x) (hi : isIfaceT E t = some false) (hx : opndL x l = some v) : OpQ E o l (.iface t v) :=
  OpQ.pure (f := fun T => (opnd E x T).bind fun v => some (.iface t v)) (by
    rw [ho]
    show makeIfaceC E t x = _
    unfold makeIfaceC
    rw [hi]) fun T hT => by simp only [opndL_ok hT hx, Option.bind_some]

/-- Is a type a struct? -/
noncomputable def isStructT (E : Env) (t : TypeId) : Bool := match und E t with
  | some (.struct _) => true
  | _ => false

def eqOp (neg : Bool) : BinOp := bif neg then .neq else .eql
theorem binC_eq {neg : Bool} {t : TypeId} {x y : Operand} (h1 : ∀ k, und E t ≠ some (.int k)) (h2 : und E t ≠ some .string) : binC E (eqOp neg) t x y = eqC E neg t x y := by
  unfold binC
  split
  · next k h => exact absurd h (h1 k)
  · next h => exact absurd h h2
  · cases neg <;> rfl

theorem iface_of {t : TypeId} (h : isIfaceT E t = some true) : ∃ ms, und E t = some (.interface ms) := by
  unfold isIfaceT at h
  split at h
  · next ms hm => exact ⟨ms, hm⟩
  · cases h
  · cases h
theorem struct_of {t : TypeId} (h : isStructT E t = true) : ∃ fs, und E t = some (.struct fs) := by
  unfold isStructT at h
  split at h
  · next fs hm => exact ⟨fs, hm⟩
  · cases h
theorem OpQ.eqIf {neg : Bool} {t yt : TypeId} {x y : Operand} {a b v : AV} (ho : o.op = .binOp (eqOp neg) t x y yt) (hu : isIfaceT E t = some true) (hx : opndL x l = some a) (hy : opndL y l = some b)
    (hv : boolV neg (eqIface E (isConst x || isConst y) a b) = some v) : OpQ E o l v := by
  obtain ⟨ms, hu⟩ := iface_of hu
  exact OpQ.pure (f := fun T => (opnd E x T).bind fun a => (opnd E y T).bind fun b => boolV neg (eqIface E (isConst x || isConst y) a b)) (by
    rw [ho]
    show binC E (eqOp neg) t x y = _
    rw [binC_eq (by rw [hu]; intro k h; cases h) (by rw [hu]; intro h; cases h)]
    unfold eqC
    rw [hu]; rfl) fun T hT => by simp only [opndL_ok hT hx, opndL_ok hT hy, Option.bind_some, hv]
theorem OpQ.eqBool {neg : Bool} {t yt : TypeId} {x y : Operand} {a b : Bool} (ho : o.op = .binOp (eqOp neg) t x y yt) (hu : und E t = some .bool) (hx : opndL x l = some (.bool a)) (hy : opndL y l = some (.bool b)) :
    OpQ E o l (.bool (bif neg then !(a == b) else (a == b))) :=
  OpQ.pure (f := fun T => (opnd E x T).bind fun a => (opnd E y T).bind fun b => boolV neg (eqD .bool a b)) (by
    rw [ho]
    show binC E (eqOp neg) t x y = _
    rw [binC_eq (by rw [hu]; intro k h; cases h) (by rw [hu]; intro h; cases h)]
    unfold eqC
    rw [hu]; rfl) fun T hT => by
    simp only [opndL_ok hT hx, opndL_ok hT hy, Option.bind_some]
    cases a <;> cases b <;> cases neg <;> rfl
/-- Structs of scalars. -/
theorem OpQ.eqStruct {neg : Bool} {t yt : TypeId} {x y : Operand} {kd : Kd} {a b v : AV} (ho : o.op = .binOp (eqOp neg) t x y yt) (hu : isStructT E t = true) (hk : kdOf E t = some kd) (hx : opndL x l = some a) (hy : opndL y l = some b)
    (hv : boolV neg (eqKd kd a b) = some v) : OpQ E o l v := by
  obtain ⟨fs, hu⟩ := struct_of hu
  exact OpQ.pure (f := fun T => (opnd E x T).bind fun a => (opnd E y T).bind fun b => boolV neg (eqKd kd a b)) (by
    rw [ho]
    show binC E (eqOp neg) t x y = _
    rw [binC_eq (by rw [hu]; intro k h; cases h) (by rw [hu]; intro h; cases h)]
    unfold eqC
    rw [hu]
    simp only [hk]; rfl) fun T hT => by simp only [opndL_ok hT hx, opndL_ok hT hy, Option.bind_some, hv]

theorem OpQ.sub {t yt : TypeId} {x y : Operand} {a b : Int} (ho : o.op = .binOp .sub t x y yt) (hu : und E t = some (.int .i64)) (hx : opndL x l = some (.int .i64 a)) (hy : opndL y l = some (.int .i64 b))
    (h : -9223372036854775808 ≤ a - b ∧ a - b < 9223372036854775808) : OpQ E o l (.int .i64 (a - b)) := OpQ.int2 ho hu rfl hx hy (by rw [wrapI_in h.1 h.2])
theorem OpQ.subN {t yt : TypeId} {x y : Operand} {a b : Nat} (ho : o.op = .binOp .sub t x y yt) (hu : und E t = some (.int .i64)) (hx : opndL x l = some (.int .i64 (a : Nat))) (hy : opndL y l = some (.int .i64 (b : Nat)))
    (h : b ≤ a ∧ a < 9223372036854775808) : OpQ E o l (.int .i64 ((a - b : Nat) : Int)) := by
  have := OpQ.sub (o := o) (E := E) (l := l) ho hu hx hy (by omega)
  rwa [show (a : Int) - (b : Int) = ((a - b : Nat) : Int) by omega] at this
theorem OpQ.mul {t yt : TypeId} {x y : Operand} {a b : Int} (ho : o.op = .binOp .mul t x y yt) (hu : und E t = some (.int .i64)) (hx : opndL x l = some (.int .i64 a)) (hy : opndL y l = some (.int .i64 b))
    (h : -9223372036854775808 ≤ a * b ∧ a * b < 9223372036854775808) : OpQ E o l (.int .i64 (a * b)) := OpQ.int2 ho hu rfl hx hy (by rw [wrapI_in h.1 h.2])
theorem dropN_ok {α : Type} : ∀ {a : Nat} {l : List α}, a ≤ l.length → dropN a l = some (l.drop a)
  | 0, _, _ => rfl
  | _ + 1, [], h => by simp at h
  | a + 1, _ :: l, h => dropN_ok (a := a) (l := l) (by simpa using h)
theorem takeN_ok {α : Type} : ∀ {n : Nat} {l : List α}, n ≤ l.length → takeN n l = some (l.take n)
  | 0, l, _ => by simp; rfl
  | _ + 1, [], h => by simp at h
  | n + 1, b :: l, h => by
    show consO b (takeN n l) = _
    rw [takeN_ok (n := n) (l := l) (by simpa using h)]; rfl

theorem OpQ.indexArr {t e : TypeId} {x i : Operand} {n sz k : Nat} {ik : IntKind} {cs : List AV} {v : AV} (ho : o.op = .index t x i) (hu : und E t = some (.array n e)) (ha : isAgg E e = some false) (hs : sizeOf E e = some sz)
    (hx : opndL x l = some (.agg cs)) (hi : opndL i l = some (.int ik (k : Nat))) (hk : k < n) (hv : cs[k * sz]? = some v) : OpQ E o l v :=
  OpQ.pure (f := fun T => (opnd E i T).bind fun iv => (natOf iv).bind fun k => bif Nat.blt k n then (opnd E x T).bind (idxOneV sz k) else none) (by
    rw [ho]
    show indexC E t x i = _
    unfold indexC
    rw [hu]
    simp only [ha, hs]) fun T hT => by
    have h1 : natOf (.int ik (k : Nat)) = some k := rfl
    have h2 : Nat.blt k n = true := by simpa [Nat.blt_eq] using hk
    simp only [opndL_ok hT hx, opndL_ok hT hi, Option.bind_some, h1, h2, cond_true, idxOneV, nth_eq, hv]

theorem OpA.invoke {c : Call} {r : Operand} {name : String} {t : TypeId} {v w : AV} {f : FuncId} {rc : Recv} {args : List AV} {rv : AV} (ho : o.op = .call c) (hc : c.callee = .invoke r name) (ha : opndsL c.args.toList l = some args) (hr : opndL r l = some (.iface t v))
    (hm : methodOf E t name = some (f, rc)) (hb : hasBody E f = true) (hv : ∀ s, recvV E s v rc = some rv) (h : E.memo f (rv :: args) = some w) : OpA E o fr l w := by
  have hop : opC E o.type o.op = .call (fun T s => (opndsC E c.args.toList T).bind fun args => (opnd E r T).bind (invokeV E s name args)) := by
    rw [ho]
    show callC E o.type c = _
    unfold callC
    rw [hc]
  refine ⟨by rw [hop]; rfl, fun T hT => ⟨0, fun n _ s k => ?_⟩⟩
  rw [hop]
  show crOut fr T s (k.run (ev E n) fr T) _ = _
  simp only [opndsL_ok hT ha, opndL_ok hT hr, Option.bind_some, invokeV, hm, hb, cond_true, hv]
  have : callF E (ev E n) f (rv :: args) s = some (.same w) := by unfold callF; rw [h]
  rw [this]; rfl
/-! ### Maps -/
theorem OpL.makeMap {t k e : TypeId} (ho : o.op = .makeMap t none) (hu : und E t = some (.map k e)) : OpL E o fr l s (.map s.next) (s.alloc (.map [] 0)) := fun T _ =>
  OpTo.make (f := fun _ => some (.obj (.map [] 0) .map)) (by
    rw [ho]
    show makeMapC E t none = _
    unfold makeMapC
    rw [hu]) rfl
theorem OpL.mapSet {t k e : TypeId} {kd : Kd} {m x y : Operand} {p a b : AV} {s' : St} (ho : o.op = .mapUpdate t m x y ∨ o.op = .insert t m x y) (hu : und E t = some (.map k e)) (hk : kdOf E k = some kd) (hm : opndL m l = some p) (hx : opndL x l = some a) (hy : opndL y l = some b)
    (hs : mapSetV kd s a b p = some s') : OpL E o fr l s (.tuple []) s' := fun T hT =>
  OpTo.act (b := true) (x := opnd E m) (f := fun T s => (opnd E m T).bind fun a => (opnd E x T).bind fun b => (opnd E y T).bind fun c => withU (mapSetV kd s b c a)) (by
    have : opC E o.type o.op = mapSetC E t m x y := by rcases ho with ho | ho <;> rw [ho] <;> rfl
    rw [this]
    unfold mapSetC
    rw [hu]
    simp only [hk]) (by simp only [opndL_ok hT hm, opndL_ok hT hx, opndL_ok hT hy, Option.bind_some, hs, withU])
theorem OpL.lookup {t k e : TypeId} {kd : Kd} {x i : Operand} {ok : Bool} {z p a v : AV} (ho : o.op = .lookup t x i ok) (hu : und E t = some (.map k e)) (hz : zeroOf E e = some z) (hk : kdOf E k = some kd) (hx : opndL x l = some p) (hi : opndL i l = some a)
    (hv : lookupV kd s ok z p a = some v) : OpL E o fr l s v s := fun T hT =>
  OpTo.read (x := opnd E x) (f := fun T s => (opnd E x T).bind fun a => (opnd E i T).bind fun b => lookupV kd s ok z a b) (by
    rw [ho]
    show lookupC E t x i ok = _
    unfold lookupC
    rw [hu]
    simp only [hz, hk]) (by simp only [opndL_ok hT hx, opndL_ok hT hi, Option.bind_some, hv])
theorem OpL.convBytes {src dst e : TypeId} {x : Operand} {w : List UInt8} (ho : o.op = .convert src dst x) (hs : und E src = some .string) (hd : und E dst = some (.slice e)) (hb : isByte E e = true) (hx : opndL x l = some (.str w)) :
    OpL E o fr l s (.slice s.next 0 (len' w) 1 none) (s.alloc (.cells (byteCells w) e true)) := fun T hT =>
  OpTo.make (f := fun T => (opnd E x T).bind (strBytes e)) (g := fun i => .slice i 0 (len' w) 1 none) (by
    rw [ho]
    show convC E src dst x = _
    unfold convC
    rw [hs, hd]
    simp only [hb, cond_true]) (by simp only [opndL_ok hT hx, Option.bind_some, strBytes])

/-! ### In drawn regions -/
variable {st : St} {all rest : List Oper} {i : Nat} {js : List Nat} {nl : News} {K : Sl → St → Prop} {od : Option Nat}
end
end Am

/- The abstract machine: contracts of functions, one above the other. -/
namespace Am
open Go
/-- What a function is known to hand back: 'enc': how its arguments are written. -/
noncomputable def specOf {α : Type} (enc : α → List AV) (res : α → AV) (args : List AV) : Option AV := by
  classical exact if h : ∃ a, enc a = args then some (res h.choose) else none
theorem specOf_hit {α : Type} {enc : α → List AV} {res : α → AV} (hw : ∀ a b, enc a = enc b → res a = res b) (a : α) : specOf enc res (enc a) = some (res a) := by
  have h : ∃ b, enc b = enc a := ⟨a, rfl⟩
  unfold specOf
  rw [dif_pos h, hw _ _ h.choose_spec]
theorem specOf_some {α : Type} {enc : α → List AV} {res : α → AV} {args : List AV} {v : AV} (h : specOf enc res args = some v) : ∃ a, enc a = args ∧ res a = v := by
  unfold specOf at h
  split at h
  · next he => cases h; exact ⟨_, he.choose_spec, rfl⟩
  · cases h
/-- One contract more. -/
noncomputable def addC {α : Type} (K : FuncId → List AV → Option AV) (f : FuncId) (enc : α → List AV) (res : α → AV) : FuncId → List AV → Option AV := fun g args => bif Nat.beq g f then specOf enc res args else K g args
theorem addC_hit {α : Type} {K : FuncId → List AV → Option AV} {f : FuncId} {enc : α → List AV} {res : α → AV} (hw : ∀ a b, enc a = enc b → res a = res b) (a : α) : addC K f enc res f (enc a) = some (res a) := by
  unfold addC
  rw [Nat.beq_refl]
  exact specOf_hit hw a
theorem addC_known {α : Type} {P : Program} {K : FuncId → List AV → Option AV} {f : FuncId} {enc : α → List AV} {res : α → AV} (hK : KnownAll P K) (h : ∀ a, KnownF P f (enc a) (res a)) : KnownAll P (addC K f enc res) := by
  intro g args v hv
  unfold addC at hv
  cases hb : Nat.beq g f with
  | false => rw [hb] at hv; exact hK g args v hv
  | true =>
    rw [hb] at hv
    have := Nat.eq_of_beq_eq_true hb
    subst this
    obtain ⟨a, rfl, rfl⟩ := specOf_some hv
    exact h a
/-- A contract that the machine's run proves. -/
theorem addC_all {α : Type} {P : Program} {nt nf mask : Nat} {K : FuncId → List AV → Option AV} {f : FuncId} {enc : α → List AV} {res : α → AV} (hp : ProgOk P nt nf) (hK : KnownAll P K) (h : ∀ a, CallTo (envK P nt nf mask K) f (enc a) S0 (res a))
    (ha : ∀ a, (enc a).all (closedV 40) = true) (hv : ∀ a, closedV 40 (res a) = true) : KnownAll P (addC K f enc res) :=
  addC_known hK fun a => known_of hp hK (h a) (ha a) (hv a)

end Am

/- The abstract machine: heaps that are known block by block, as lists. -/
namespace Am
open Go
abbrev Hl := List (Nat × Option AObj)
def lookH : Nat → Hl → Option AObj
  | _, [] => none
  | k, p :: l => bif Nat.beq k p.1 then p.2 else lookH k l
noncomputable def mkH : Hl → Tr AObj
  | [] => .nil
  | p :: l => (mkH l).set p.1 p.2
/-- A heap of blocks that are known. -/
noncomputable def mkS (n bd : Nat) (lg : List Nat) (hl : Hl) : St := { next := n, bound := bd, log := lg, heap := mkH hl }
theorem get_mkH (k : Nat) : ∀ hl : Hl, (mkH hl).get k = lookH k hl
  | [] => nil_get' k
  | p :: l => by
    show ((mkH l).set p.1 p.2).get k = bif Nat.beq k p.1 then p.2 else lookH k l
    rw [get_set, get_mkH k l]
    cases hb : Nat.beq k p.1 with
    | true => rw [if_pos (Nat.eq_of_beq_eq_true hb)]; rfl
    | false => rw [if_neg (Nat.ne_of_beq_eq_false hb)]; rfl
theorem get_mkS {n bd : Nat} {lg : List Nat} {hl : Hl} (k : Nat) : (mkS n bd lg hl).heap.get k = lookH k hl := get_mkH k hl
/-- What is logged by a write. -/
def logB (b bd : Nat) (lg : List Nat) : List Nat := bif Nat.blt b bd then logged b lg else lg
section
variable {E : Env} {fr : Fr} {l : Sl} {o : Oper} {n m bd : Nat} {lg : List Nat} {hl : Hl}
theorem OpL.allocS {t : TypeId} {z : AV} (m : Nat) (ho : o.op = .alloc t) (hz : zeroOf E t = some z) (hm : n + 1 = m) : OpL E o fr l (mkS n bd lg hl) (.ptr n 0) (mkS m bd lg ((n, some (.cells z.cells t false)) :: hl)) := by
  subst hm
  exact OpL.alloc ho hz
theorem OpL.boxS {t : TypeId} {x : Operand} {v : AV} (m : Nat) (ho : o.op = .box t x) (hx : opndL x l = some v) (hv : v.isTuple = false) (hm : n + 1 = m) : OpL E o fr l (mkS n bd lg hl) (.ptr n 0) (mkS m bd lg ((n, some (.cells v.cells t false)) :: hl)) := by
  subst hm
  exact OpL.box ho hx hv
theorem OpL.storeS {t : TypeId} {a x : Operand} {k b off : Nat} {v : AV} {cs cs' : List AV} {e : TypeId} {part : Bool} (ho : o.op = .store t a x) (hn : sizeOf E t = some k) (ha : opndL a l = some (.ptr b off)) (hx : opndL x l = some v)
    (hg : lookH b hl = some (.cells cs e part)) (hk : v.cells.length = k) (ht : v.isTuple = false) (hc : over v.cells off cs = some cs') : OpL E o fr l (mkS n bd lg hl) (.tuple []) (mkS n bd (logB b bd lg) ((b, some (.cells cs' e part)) :: hl)) :=
  OpL.store ho hn ha hx (storeN_at ((get_mkS b).trans hg) hk ht hc)
theorem OpL.loadS1 {t : TypeId} {a : Operand} {k b off : Nat} {v : AV} {cs : List AV} {e : TypeId} {part : Bool} (ho : o.op = .load t a) (h1 : isAgg E t = some false) (h2 : sizeOf E t = some k) (ha : opndL a l = some (.ptr b off))
    (hg : lookH b hl = some (.cells cs e part)) (hv : cs[off]? = some v) : OpL E o fr l (mkS n bd lg hl) v (mkS n bd lg hl) :=
  OpL.load ho ha (loadOne_at h1 h2 ((get_mkS b).trans hg) hv)
theorem OpL.loadSA {t : TypeId} {a : Operand} {k b off : Nat} {cs : List AV} {e : TypeId} {part : Bool} (ho : o.op = .load t a) (h1 : isAgg E t = some true) (h2 : sizeOf E t = some k) (ha : opndL a l = some (.ptr b off))
    (hg : lookH b hl = some (.cells cs e part)) (hk : off + k ≤ cs.length) : OpL E o fr l (mkS n bd lg hl) (.agg ((cs.drop off).take k)) (mkS n bd lg hl) :=
  OpL.load ho ha (loadAgg_at h1 h2 ((get_mkS b).trans hg) hk)
theorem OpL.buildSliceS {t e : TypeId} {len sz : Nat} {parts : Array (Nat × Operand)} {z : AV} {ps : List (Nat × AV)} {cs : List AV} (m : Nat) (ho : o.op = .buildSlice t (len + 1) parts) (hu : und E t = some (.slice e)) (hs : sizeOf E e = some sz) (hz : zeroOf E e = some z)
    (hk : (Nat.beq (len' z.cells) sz && Nat.ble ((len + 1) * sz) 16777216 && !(Nat.beq sz 0)) = true) (hq : partsL parts.toList l = some ps) (hf : fillA (fun i => some (i * sz, sz)) ps (repeatA z.cells (len + 1)) = some cs) (hm : n + 1 = m) :
    OpL E o fr l (mkS n bd lg hl) (.slice n 0 (len + 1) sz (some (len + 1))) (mkS m bd lg ((n, some (.cells cs e false)) :: hl)) := by
  subst hm
  exact OpL.buildSlice ho hu hs hz hk hq hf
theorem OpL.makeMapS {t k e : TypeId} (m : Nat) (ho : o.op = .makeMap t none) (hu : und E t = some (.map k e)) (hm : n + 1 = m) : OpL E o fr l (mkS n bd lg hl) (.map n) (mkS m bd lg ((n, some (.map [] 0)) :: hl)) := by
  subst hm
  exact OpL.makeMap ho hu
theorem OpL.mapSetS {t k e : TypeId} {kd : Kd} {mo x y : Operand} {b clock : Nat} {a v : AV} {es es' : List Ent} {c' : Nat} (ho : o.op = .mapUpdate t mo x y ∨ o.op = .insert t mo x y) (hu : und E t = some (.map k e)) (hk : kdOf E k = some kd) (hm : opndL mo l = some (.map b)) (hx : opndL x l = some a) (hy : opndL y l = some v)
    (hg : lookH b hl = some (.map es clock)) (h1 : okKd kd a = true) (h2 : findT kd a es = some none) (h3 : es ++ [(a, v, clock)] = es') (h4 : clock + 1 = c') :
    OpL E o fr l (mkS n bd lg hl) (.tuple []) (mkS n bd (logB b bd lg) ((b, some (.map es' c')) :: hl)) := by
  subst h3 h4
  refine OpL.mapSet ho hu hk hm hx hy ?_
  show (bif okKd kd a then mapSetIn kd _ b a v ((mkS n bd lg hl).heap.get b) else none) = _
  rw [h1, get_mkS, hg]
  show (findT kd a es).bind _ = _
  rw [h2]; rfl
theorem OpL.lookupS {t k e : TypeId} {kd : Kd} {x i : Operand} {ok : Bool} {z a : AV} {b clock : Nat} {es : List Ent} {r : Option Ent} (ho : o.op = .lookup t x i ok) (hu : und E t = some (.map k e)) (hz : zeroOf E e = some z) (hk : kdOf E k = some kd) (hx : opndL x l = some (.map b)) (hi : opndL i l = some a)
    (hg : lookH b hl = some (.map es clock)) (h1 : okKd kd a = true) (h2 : findT kd a es = some r) : OpL E o fr l (mkS n bd lg hl) (foundV ok z r) (mkS n bd lg hl) := by
  refine OpL.lookup ho hu hz hk hx hi ?_
  have h3 : entsOf (mkS n bd lg hl) (.map b) = some es := by
    show mapOf? ((mkS n bd lg hl).heap.get b) = _
    rw [get_mkS, hg]; rfl
  unfold lookupV
  rw [h1, h3]
  show (findT kd a es).bind _ = _
  rw [h2]; rfl
theorem OpL.convBytesS {src dst e : TypeId} {x : Operand} {w : List UInt8} (m : Nat) (ho : o.op = .convert src dst x) (hs : und E src = some .string) (hd : und E dst = some (.slice e)) (hb : isByte E e = true) (hx : opndL x l = some (.str w)) (hm : n + 1 = m) :
    OpL E o fr l (mkS n bd lg hl) (.slice n 0 w.length 1 none) (mkS m bd lg ((n, some (.cells (byteCells w) e true)) :: hl)) := by
  subst hm
  rw [← len'_eq]
  exact OpL.convBytes ho hs hd hb hx
theorem OpQ.strAdd {t yt : TypeId} {x y : Operand} {a b : List UInt8} (ho : o.op = .binOp .add t x y yt) (hu : und E t = some .string) (hx : opndL x l = some (.str a)) (hy : opndL y l = some (.str b)) (h : a.length + b.length ≤ 4294967296) : OpQ E o l (.str (a ++ b)) :=
  OpQ.str2 ho hu rfl hx hy (by
    simp only [len'_eq]
    rw [Nat.ble_eq_true_of_le h]; rfl)

/-! ### The end of a call that begins with no blocks -/
theorem leave_s0 {f : FuncId} {v w : AV} {ks : List Nat} {st : St} (hf : E.frz f = 1) (hlog : st.log = []) (hb : st.bound = 0) (h : frzV st 0 40 v [] = some (w, ks)) (hu : underV 0 40 w = true) : leave E f S0 v st = some (.same w) := by
  unfold leave frozen
  rw [hf, hlog]
  simp only
  show ((frozenFrom 0 v st).bind _) = _
  unfold frozenFrom
  rw [h]
  simp only [Option.bind_some, leaveQ]
  have hk : (kill st ks).log = [] := (kill_log (s := st) (ks := ks) fun b _ => by rw [hb]; exact Nat.zero_le _).trans hlog
  rw [hk]
  show some (bif underV 0 40 w then _ else _) = _
  rw [hu]; rfl
theorem CallTo.s0 {f : FuncId} {fn : Func} {c : Code} {args : List AV} {v : AV} {rs : List ResultVar} {fr : Fr} {l0 : Sl} (hz : E.frz f = 1) (hm : E.memo f args = none) (hf : E.fns.get f = some fn) (hc : fn.body = some c) (hr : fn.results.toList = rs)
    (hfr : frame fn.ntmps args none = fr) (hl : argsL 0 args [] = l0)
    (h : EvtL E c fr l0 (mkS 0 0 [] []) fun ex fr l st => (ex = .ret ∨ ex = .normal) ∧ fr.defers = [] ∧ st.log = [] ∧ st.bound = 0 ∧ ∃ vs w ks, resultsL E st l rs = some vs ∧ frzV st 0 40 (oneA vs) [] = some (w, ks) ∧ underV 0 40 w = true ∧ w = v) : CallTo E f args S0 v :=
  CallTo.gen hm hf hc hr hfr hl (EvtL.mono (s := S0.enter) h fun ex fr l st ⟨h1, h2, h3, h4, vs, w, ks, h5, h6, h7, h8⟩ => ⟨h1, st, by rw [h2]; rfl, vs, h5, by rw [← h8]; exact leave_s0 hz h3 h4 h6 h7⟩)
/-- A result in a cell. -/
theorem res_cellA {a t k b : Nat} {rs : List ResultVar} {vs cs : List AV} {e : TypeId} {part : Bool} (hp : look a l = some (.ptr b 0)) (h1 : isAgg E t = some true) (h2 : sizeOf E t = some k) (hg : lookH b hl = some (.cells cs e part)) (hk : k ≤ cs.length)
    (h : resultsL E (mkS n bd lg hl) l rs = some vs) : resultsL E (mkS n bd lg hl) l (.cell a t :: rs) = some (.agg (cs.take k) :: vs) := by
  have hv : loadC E t (mkS n bd lg hl) (.ptr b 0) = some (.agg ((cs.drop 0).take k)) := loadAgg_at h1 h2 ((get_mkS b).trans hg) (by omega)
  unfold resultsL
  rw [hp]
  simp only [Option.bind_some, hv, h]
  rfl
/-! ### Drawn regions -/
variable {all rest : List Oper} {i : Nat} {js : List Nat} {nl : News} {K : Sl → St → Prop} {od : Option Nat}
theorem RegN.loadS1 {t : TypeId} {a : Operand} {k b off : Nat} {v : AV} {cs : List AV} {e : TypeId} {part : Bool} (ho : o.op = .load t a) (h1 : isAgg E t = some false) (h2 : sizeOf E t = some k) (ha : opndL a (restr (tmpsOf o.op.operands.toList) l) = some (.ptr b off))
    (hg : lookH b hl = some (.cells cs e part)) (hv : cs[off]? = some v) (hc : clearB (ancOf all i) b nl = true) (hgd : GuardOn all l o) (hd : o.dst = od) (hlt : dstOk fr.nt od = true)
    (h : RegN E all rest (i + 1) fr (putL od v l) (mkS n bd lg hl) (i :: js) nl K) : RegN E all (o :: rest) i fr l (mkS n bd lg hl) js nl K :=
  RegN.load ho ha (loadOne_at h1 h2 ((get_mkS b).trans hg) hv) hc hgd hd hlt h
theorem RegN.loadSA {t : TypeId} {a : Operand} {k b off : Nat} {cs : List AV} {e : TypeId} {part : Bool} (ho : o.op = .load t a) (h1 : isAgg E t = some true) (h2 : sizeOf E t = some k) (ha : opndL a (restr (tmpsOf o.op.operands.toList) l) = some (.ptr b off))
    (hg : lookH b hl = some (.cells cs e part)) (hk : off + k ≤ cs.length) (hc : clearB (ancOf all i) b nl = true) (hgd : GuardOn all l o) (hd : o.dst = od) (hlt : dstOk fr.nt od = true)
    (h : RegN E all rest (i + 1) fr (putL od (.agg ((cs.drop off).take k)) l) (mkS n bd lg hl) (i :: js) nl K) : RegN E all (o :: rest) i fr l (mkS n bd lg hl) js nl K :=
  RegN.load ho ha (loadAgg_at h1 h2 ((get_mkS b).trans hg) hk) hc hgd hd hlt h
end

theorem EvtL.condT {E : Env} {fr : Fr} {l : Sl} {s : St} {Q : Ex → Fr → Sl → St → Prop} {x : Operand} {a b : Code} {t : Bool} (hx : opndL x l = some (.bool t)) (ht : t = true) (h : EvtL E a fr l s Q) : EvtL E (.cond x a b) fr l s Q :=
  EvtL.cond hx (fun _ => h) fun h0 => by rw [ht] at h0; cases h0
theorem EvtL.condF {E : Env} {fr : Fr} {l : Sl} {s : St} {Q : Ex → Fr → Sl → St → Prop} {x : Operand} {a b : Code} {t : Bool} (hx : opndL x l = some (.bool t)) (ht : t = false) (h : EvtL E b fr l s Q) : EvtL E (.cond x a b) fr l s Q :=
  EvtL.cond hx (fun h0 => by rw [ht] at h0; cases h0) fun _ => h

/-! ### Conditions -/
theorem cond_t {b : Bool} {x y : Prop} (hb : b = true) (h : x) : cond b x y := by subst hb; exact h
theorem nT {p : Prop} [Decidable p] (h : (!decide p) = true) : ¬ p := by simpa using h
theorem nF {p : Prop} [Decidable p] (h : (!decide p) = false) : p := by simpa using h
theorem bT {a b : List UInt8} (h : bytesEq a b = true) : a = b := of_decide_eq_true (bytesEq_iff.symm.trans h)
theorem bF {a b : List UInt8} (h : bytesEq a b = false) : a ≠ b := of_decide_eq_false (bytesEq_iff.symm.trans h)
theorem bnT {a b : List UInt8} (h : (!bytesEq a b) = true) : a ≠ b := bF (by simpa using h)
theorem bnF {a b : List UInt8} (h : (!bytesEq a b) = false) : a = b := bT (by simpa using h)
theorem notT {b : Bool} (h : (!b) = true) : b = false := by simpa using h
theorem notF {b : Bool} (h : (!b) = false) : b = true := by simpa using h
end Am

/- The abstract machine: calls that are walked through where they stand. -/
namespace Am
open Go
section
variable (E : Env)
/-- How the body of a call ends, if its caller is to go on. -/
def InlQ (f : FuncId) (rs : List ResultVar) (s0 : St) (R : AV → St → Prop) (ex : Ex) (fr : Fr) (l : Sl) (st : St) : Prop :=
  (ex = .ret ∨ ex = .normal) ∧ ∃ st', unwinds fr.defers st = some st' ∧ ∃ vs, resultsL E st' l rs = some vs ∧ ∃ cr, leave E f s0 (oneA vs) st' = some cr ∧ match cr with
    | .same v => R v s0
    | .val v s' => R v s'
    | .pan _ _ => False
end
section
variable {E : Env} {fr fr' : Fr} {l l' : Sl} {o : Oper} {n m bd : Nat} {lg lg' : List Nat} {hl hl' : Hl} {all rest : List Oper} {K : Sl → St → Prop} {f : FuncId} {rs : List ResultVar} {R : AV → St → Prop} {ex : Ex}

theorem RunsV.inl {fn : Func} {cb : Code} {args : List AV} {fr0 : Fr} {l0 : Sl} (hm : E.memo f args = none) (hf : E.fns.get f = some fn) (hcb : fn.body = some cb) (hr : fn.results.toList = rs) (hfr : frame fn.ntmps args none = fr0) (hl0 : argsL 0 args [] = l0)
    (h : EvtL E cb fr0 l0 (mkS n n [] hl) (InlQ E f rs (mkS n bd lg hl) R)) : RunsV E f args (mkS n bd lg hl) R :=
  RunsV.gen hm hf hcb hr hfr hl0 (EvtL.mono (s := (mkS n bd lg hl).enter) h fun _ _ _ _ hq => hq)

/-- A call without a contract. -/
theorem RegL.inl {c : Call} {args : List AV} {d : Nat} {fn : Func} {cb : Code} {fr0 : Fr} {l0 : Sl} (hf : E.fns.get f = some fn) (hb : hasBody E f = true) (ho : o.op = .call c) (hc : c.callee = .value (.func f)) (ha : opndsL c.args.toList l = some args) (hg : o.guard = none) (hd : o.dst = some d) (hlt : Nat.blt d fr.nt = true)
    (hm : E.memo f args = none) (hcb : fn.body = some cb) (hr : fn.results.toList = rs) (hfr : frame fn.ntmps args none = fr0) (hl0 : argsL 0 args [] = l0)
    (h : EvtL E cb fr0 l0 (mkS n n [] hl) (InlQ E f rs (mkS n bd lg hl) fun v s' => RegL E all rest fr ((d, v) :: l) s' K)) : RegL E all (o :: rest) fr l (mkS n bd lg hl) K :=
  RegL.callFn ho hc hb ha hg hd hlt (RunsV.inl hm hf hcb hr hfr hl0 h)

theorem RegL.runV {s : St} {d : Nat} {F : Tr AV → St → Option (FuncId × List AV)} {g : FuncId} {args : List AV} (hop : opC E o.type o.op = .call F) (hF : ∀ T, Has l T → F T s = some (g, args)) (hg : o.guard = none) (hd : o.dst = some d) (hlt : Nat.blt d fr.nt = true)
    (h : RunsV E g args s fun v s' => RegL E all rest fr ((d, v) :: l) s' K) : RegL E all (o :: rest) fr l s K := by
  obtain ⟨N, cr, hr, hm⟩ := h
  refine RegL.opK (fun T hT => ?_) hg hd hlt
  cases cr with
  | same v => exact ⟨v, s, ⟨N, fun n hn k => by
      rw [hop]
      show crOut fr T s (k.run (ev E n) fr T) ((F T s).bind fun p => callF E (ev E n) p.1 p.2 s) = _
      rw [hF T hT]
      simp only [Option.bind_some]
      rw [hr n hn]; rfl⟩, hm⟩
  | val v s' => exact ⟨v, s', ⟨N, fun n hn k => by
      rw [hop]
      show crOut fr T s (k.run (ev E n) fr T) ((F T s).bind fun p => callF E (ev E n) p.1 p.2 s) = _
      rw [hF T hT]
      simp only [Option.bind_some]
      rw [hr n hn]; rfl⟩, hm⟩
  | pan _ _ => exact hm.elim
theorem RegL.runW {s : St} {d : Nat} {F : Tr AV → Option AV} {A : Tr AV → Option (List AV)} {g : FuncId} {first captured args : List AV} (hop : opC E o.type o.op = .callV F A) (hF : ∀ T, Has l T → F T = some (.func (.func g) first captured)) (hA : ∀ T, Has l T → A T = some args) (hb : hasBody E g = true)
    (hg : o.guard = none) (hd : o.dst = some d) (hlt : Nat.blt d fr.nt = true) (h : RunsV E g (first ++ args ++ captured) s fun v s' => RegL E all rest fr ((d, v) :: l) s' K) : RegL E all (o :: rest) fr l s K := by
  obtain ⟨N, cr, hr, hm⟩ := h
  refine RegL.opK (fun T hT => ?_) hg hd hlt
  have key : ∀ n, N ≤ n → ((F T).bind fun g => (A T).bind fun args => callVF E (ev E n) args s g) = some cr := fun n hn => by
    rw [hF T hT, hA T hT]
    simp only [Option.bind_some, callVF, hb, cond_true]
    exact hr n hn
  cases cr with
  | same v => exact ⟨v, s, ⟨N, fun n hn k => by
      rw [hop]
      show crOut fr T s (k.run (ev E n) fr T) ((F T).bind fun g => (A T).bind fun args => callVF E (ev E n) args s g) = _
      rw [key n hn]; rfl⟩, hm⟩
  | val v s' => exact ⟨v, s', ⟨N, fun n hn k => by
      rw [hop]
      show crOut fr T s (k.run (ev E n) fr T) ((F T).bind fun g => (A T).bind fun args => callVF E (ev E n) args s g) = _
      rw [key n hn]; rfl⟩, hm⟩
  | pan _ _ => exact hm.elim
/-- A call of a function's value without a contract. -/
theorem RegL.inlVal {c : Call} {t : Nat} {first captured args xs : List AV} {d : Nat} {fn : Func} {cb : Code} {fr0 : Fr} {l0 : Sl} (hf : E.fns.get f = some fn) (hb : hasBody E f = true) (ho : o.op = .call c) (hc : c.callee = .value (.tmp t)) (hv : look t l = some (.func (.func f) first captured)) (ha : opndsL c.args.toList l = some args) (hg : o.guard = none) (hd : o.dst = some d)
    (hlt : Nat.blt d fr.nt = true) (hx : first ++ args ++ captured = xs) (hm : E.memo f xs = none) (hcb : fn.body = some cb) (hr : fn.results.toList = rs) (hfr : frame fn.ntmps xs none = fr0) (hl0 : argsL 0 xs [] = l0)
    (h : EvtL E cb fr0 l0 (mkS n n [] hl) (InlQ E f rs (mkS n bd lg hl) fun v s' => RegL E all rest fr ((d, v) :: l) s' K)) : RegL E all (o :: rest) fr l (mkS n bd lg hl) K := by
  subst hx
  refine RegL.runW (F := opnd E (.tmp t)) (A := opndsC E c.args.toList) ?_ (fun T hT => hT t _ hv) (fun T hT => opndsL_ok hT ha) hb hg hd hlt (RunsV.inl hm hf hcb hr hfr hl0 h)
  rw [ho]
  show callC E o.type c = _
  unfold callC
  rw [hc]
/-- A call of a method of what an interface holds, without a contract. -/
theorem RegL.inlInv {c : Call} {r : Operand} {name : String} {t : TypeId} {v rv : AV} {rc : Recv} {args : List AV} {d : Nat} {fn : Func} {cb : Code} {fr0 : Fr} {l0 : Sl} (hf : E.fns.get f = some fn) (hme : methodOf E t name = some (f, rc)) (hb : hasBody E f = true) (ho : o.op = .call c) (hc : c.callee = .invoke r name) (ha : opndsL c.args.toList l = some args) (hr0 : opndL r l = some (.iface t v))
    (hv : recvV E (mkS n bd lg hl) v rc = some rv) (hg : o.guard = none) (hd : o.dst = some d) (hlt : Nat.blt d fr.nt = true) (hm : E.memo f (rv :: args) = none) (hcb : fn.body = some cb) (hr : fn.results.toList = rs) (hfr : frame fn.ntmps (rv :: args) none = fr0) (hl0 : argsL 0 (rv :: args) [] = l0)
    (h : EvtL E cb fr0 l0 (mkS n n [] hl) (InlQ E f rs (mkS n bd lg hl) fun v s' => RegL E all rest fr ((d, v) :: l) s' K)) : RegL E all (o :: rest) fr l (mkS n bd lg hl) K := by
  refine RegL.runV (F := fun T s => (opndsC E c.args.toList T).bind fun args => (opnd E r T).bind (invokeV E s name args)) (g := f) (args := rv :: args) ?_ (fun T hT => ?_) hg hd hlt (RunsV.inl hm hf hcb hr hfr hl0 h)
  · rw [ho]
    show callC E o.type c = _
    unfold callC
    rw [hc]
  · simp only [opndsL_ok hT ha, opndL_ok hT hr0, Option.bind_some, invokeV, hme, hb, cond_true, hv]

/-! ### Ends of such calls -/
/-- Nothing was written of what was there before, and what is handed back leads to nothing new. -/
theorem InlQ.same {vs : List AV} {w : AV} {ks : List Nat} (hd : fr'.defers = []) (hr : resultsL E (mkS m n [] hl') l' rs = some vs) (hz : E.frz f = 1) (hf : frzV (mkS m n [] hl') n 40 (oneA vs) [] = some (w, ks)) (hks : ks.all (fun b => Nat.ble n b) = true) (hu : underV n 40 w = true)
    (h : R w (mkS n bd lg hl)) : InlQ E f rs (mkS n bd lg hl) R .ret fr' l' (mkS m n [] hl') := by
  refine ⟨.inl rfl, mkS m n [] hl', by rw [hd]; rfl, vs, hr, .same w, ?_, h⟩
  unfold leave frozen
  rw [hz]
  show ((frozenFrom n (oneA vs) (mkS m n [] hl')).bind _) = _
  unfold frozenFrom
  rw [hf]
  simp only [Option.bind_some, leaveQ]
  have hk : (kill (mkS m n [] hl') ks).log = [] := kill_log (s := mkS m n [] hl') (ks := ks) fun b hb => Nat.le_of_ble_eq_true (List.all_eq_true.1 hks b hb)
  rw [hk]
  show some (bif underV n 40 w then _ else _) = _
  rw [hu]; rfl
def killH : List Nat → Hl → Hl
  | [], hl => hl
  | b :: ks, hl => killH ks ((b, none) :: hl)
theorem kill_mkS : ∀ {ks : List Nat} {hl : Hl}, ks.all (fun b => Nat.ble n b) = true → kill (mkS m n [] hl) ks = mkS m n [] (killH ks hl)
  | [], _, _ => rfl
  | b :: ks, hl, h => by
    rw [List.all_cons, Bool.and_eq_true] at h
    have hb : Nat.blt b n = false := by
      have := Nat.le_of_ble_eq_true h.1
      cases hc : Nat.blt b n with
      | false => rfl
      | true => have h2 : b < n := Nat.le_of_ble_eq_true hc
                omega
    show kill ((mkS m n [] hl).put b none) ks = _
    have : (mkS m n [] hl).put b none = mkS m n [] ((b, none) :: hl) := by
      show St.mk m n (bif Nat.blt b n then _ else _) _ = _
      rw [hb]; rfl
    rw [this, kill_mkS h.2]; rfl
/-- What is handed back leads to something new. -/
theorem InlQ.new {vs : List AV} {w : AV} {ks : List Nat} (hd : fr'.defers = []) (hr : resultsL E (mkS m n [] hl') l' rs = some vs) (hz : E.frz f = 1) (hf : frzV (mkS m n [] hl') n 40 (oneA vs) [] = some (w, ks)) (hks : ks.all (fun b => Nat.ble n b) = true) (hu : underV n 40 w = false)
    (h : R w (mkS m bd lg (killH ks hl'))) : InlQ E f rs (mkS n bd lg hl) R .ret fr' l' (mkS m n [] hl') := by
  refine ⟨.inl rfl, mkS m n [] hl', by rw [hd]; rfl, vs, hr, .val w (mkS m bd lg (killH ks hl')), ?_, h⟩
  unfold leave frozen
  rw [hz]
  show ((frozenFrom n (oneA vs) (mkS m n [] hl')).bind _) = _
  unfold frozenFrom
  rw [hf]
  simp only [Option.bind_some, leaveQ]
  rw [kill_mkS hks]
  show some (bif underV n 40 w then _ else CR.val w ((mkS n bd lg hl).back (mkS m n [] (killH ks hl')))) = _
  rw [hu]; rfl
theorem boolRes {a b : Bool} (h : a = b) : oneA [AV.bool a] = AV.bool b := by rw [h]; rfl
end
end Am

/- The abstract machine: operations that texts are built with. -/
namespace Am
open Go
section
variable {E : Env} {fr : Fr} {l : Sl} {s : St} {o : Oper}
theorem OpL.look {f : Tr AV → St → Option AV} {v : AV} (hop : opC E o.type o.op = .look f) (hv : ∀ T, Has l T → f T s = some v) : OpL E o fr l s v s := fun T hT => ⟨0, fun n _ k => by
  rw [hop]
  show valOut (fun v => k.run (ev E n) fr T v s) (f T s) = _
  rw [hv T hT]; rfl⟩
/-- An operation that hands on what it gets. -/
theorem OpQ.same {x : Operand} {v : AV} (hop : opC E o.type o.op = .pure (opnd E x)) (hx : opndL x l = some v) : OpQ E o l v := OpQ.pure hop fun _ hT => opndL_ok hT hx
theorem OpQ.pure1 {x : Operand} {g : AV → Option AV} {a v : AV} (hop : opC E o.type o.op = .pure fun T => (opnd E x T).bind g) (hx : opndL x l = some a) (hv : g a = some v) : OpQ E o l v := OpQ.pure hop fun T hT => by rw [opndL_ok hT hx]; exact hv
theorem OpL.read1 {x : Operand} {g : St → AV → Option AV} {a v : AV} (hop : opC E o.type o.op = .read (opnd E x) fun T s => (opnd E x T).bind (g s)) (hx : opndL x l = some a) (hv : g s a = some v) : OpL E o fr l s v s := fun T hT =>
  OpTo.read hop (by rw [opndL_ok hT hx]; exact hv)
theorem OpQ.makeV {f : Tr AV → Option Mk} {v : AV} (hop : opC E o.type o.op = .make f) (hv : ∀ T, Has l T → f T = some (.val v)) : OpQ E o l v := by
  refine ⟨by rw [hop]; rfl, fun T hT => ⟨by rw [hop]; rfl, fun ev fr s k => ?_⟩⟩
  rw [hop]
  show mkOut s (k.run ev fr T) (f T) = _
  rw [hv T hT]; rfl
theorem OpQ.nilCheck {x : Operand} {a v : AV} (ho : o.op = .nilCheck x) (hx : opndL x l = some a) (hv : okPtr E a = some v) : OpQ E o l v := OpQ.pure1 (g := okPtr E) (by rw [ho]; rfl) hx hv
theorem OpQ.cap {c : Call} {t e : TypeId} {ts : List TypeId} {x : Operand} {a v : AV} (ho : o.op = .call c) (hc : c.callee = .builtin .cap) (ht : c.argTypes.toList = t :: ts) (ha : c.args.toList = [x]) (hu : und E t = some (.slice e)) (hx : opndL x l = some a) (hv : capV a = some v) : OpQ E o l v :=
  OpQ.pure1 (g := capV) (by
    rw [ho]
    show callC E o.type c = _
    unfold callC
    rw [hc]
    simp only
    rw [ht, ha]
    show capC E t x = _
    unfold capC
    rw [hu]) hx hv
theorem OpL.eqPtr {neg : Bool} {t yt e : TypeId} {k : Nat} {x y : Operand} {a b v : AV} (ho : o.op = .binOp (eqOp neg) t x y yt) (hu : und E t = some (.pointer e)) (hs : sizeOf E e = some (k + 1)) (hx : opndL x l = some a) (hy : opndL y l = some b)
    (hv : boolV neg (eqPtrs s a b) = some v) : OpL E o fr l s v s :=
  OpL.look (f := fun T s => (opnd E x T).bind fun a => (opnd E y T).bind fun b => boolV neg (eqPtrs s a b)) (by
    rw [ho]
    show binC E (eqOp neg) t x y = _
    rw [binC_eq (by rw [hu]; intro k h; cases h) (by rw [hu]; intro h; cases h)]
    unfold eqC
    rw [hu]
    simp only [hs]) fun T hT => by simp only [opndL_ok hT hx, opndL_ok hT hy, Option.bind_some, hv]
theorem OpL.toUnsafe {src dst t : TypeId} {k : Nat} {x : Operand} {a v : AV} (ho : o.op = .convert src dst x) (hs : und E src = some (.pointer t)) (hd : und E dst = some .unsafePointer) (hz : sizeOf E t = some (k + 1)) (hx : opndL x l = some a) (hv : Am.toUnsafe s a = some v) : OpL E o fr l s v s :=
  OpL.read1 (g := fun s => Am.toUnsafe s) (by
    rw [ho]
    show convC E src dst x = _
    unfold convC
    rw [hs, hd]
    simp only [hz]) hx hv
theorem OpL.fromUnsafe {src dst u : TypeId} {k : Nat} {x : Operand} {a v : AV} (ho : o.op = .convert src dst x) (hs : und E src = some .unsafePointer) (hd : und E dst = some (.pointer u)) (hz : sizeOf E u = some (k + 1)) (hx : opndL x l = some a) (hv : Am.fromUnsafe E s u a = some v) : OpL E o fr l s v s :=
  OpL.read1 (g := fun s => Am.fromUnsafe E s u) (by
    rw [ho]
    show convC E src dst x = _
    unfold convC
    rw [hs, hd]
    simp only [hz]) hx hv
theorem OpL.copy {c : Call} {t e : TypeId} {sz : Nat} {ts : List TypeId} {x y : Operand} {a b v : AV} {p : List AV × Nat} {s' : St} (ho : o.op = .call c) (hc : c.callee = .builtin .copy) (ht : c.argTypes.toList = t :: ts) (ha : c.args.toList = [x, y]) (hu : und E t = some (.slice e)) (hs : sizeOf E e = some sz)
    (hx : opndL x l = some a) (hy : opndL y l = some b) (hp : appendedV s sz b = some p) (hv : copyV s sz p a = some (v, s')) : OpL E o fr l s v s' := fun T hT =>
  OpTo.act (b := false) (x := opnd E x) (f := fun T s => (opnd E x T).bind fun a => (opnd E y T).bind fun b => (appendedV s sz b).bind fun p => copyV s sz p a) (by
    rw [ho]
    show callC E o.type c = _
    unfold callC
    rw [hc]
    simp only
    rw [ht, ha]
    show copyC E t x y = _
    unfold copyC
    rw [hu]
    simp only [hs]) (by simp only [opndL_ok hT hx, opndL_ok hT hy, Option.bind_some, hp, hv])
/-- A slice of a block, cut. -/
theorem OpL.sliceM {t e : TypeId} {x : Operand} {lo hi : Option Operand} {sz : Nat} {vlo vhi : Option AV} {a v : AV} (ho : o.op = .slice t x lo hi none) (hu : und E t = some (.slice e)) (hs : sizeOf E e = some sz) (hx : opndL x l = some a) (hlo : opndOL lo l = some vlo) (hhi : opndOL hi l = some vhi)
    (hv : sliceSlV s sz vlo vhi none a = some v) : OpL E o fr l s v s := fun T hT =>
  OpTo.read (x := opnd E x) (f := fun T s => (opnd E x T).bind fun a => (opndOC E lo T).bind fun l => (opndOC E hi T).bind fun h => (opndOC E none T).bind fun m => sliceSlV s sz l h m a) (by
    rw [ho]
    show sliceC E t x lo hi none = _
    unfold sliceC
    rw [hu]
    simp only [hs]) (by
    have hm : opndOC E none T = some none := rfl
    simp only [opndL_ok hT hx, opndOL_ok hT hlo, opndOL_ok hT hhi, hm, Option.bind_some, hv])
end

/-! ### Bytes in cells -/
theorem byteCells_len : ∀ w : List UInt8, (byteCells w).length = w.length
  | [] => rfl
  | _ :: w => by show (byteCells w).length + 1 = _; rw [byteCells_len w]; rfl
theorem byteCells_app : ∀ a b : List UInt8, byteCells (a ++ b) = byteCells a ++ byteCells b
  | [], _ => rfl
  | c :: a, b => by show _ :: byteCells (a ++ b) = _ :: (byteCells a ++ byteCells b); rw [byteCells_app a b]
theorem bytesOf_byteCells : ∀ w : List UInt8, bytesOfCells (byteCells w) = some w
  | [] => rfl
  | c :: w => by
    show (bytesOfCells (byteCells w)).bind _ = _
    rw [bytesOf_byteCells w]
    show some (UInt8.ofNat (c.toNat : Int).toNat :: w) = _
    rw [Int.toNat_natCast, UInt8.ofNat_toNat]

/-! ### What is logged -/
theorem mem_logged {b c : Nat} : ∀ {lg : List Nat}, c ∈ logged b lg → c ∈ lg ∨ c = b
  | [], h => .inr (List.mem_singleton.1 h)
  | d :: lg, h => by
    change c ∈ (bif Nat.beq b d then d :: lg else b :: d :: lg) at h
    cases hb : Nat.beq b d with
    | true => rw [hb] at h; exact .inl h
    | false =>
      rw [hb] at h
      rcases List.mem_cons.1 h with h | h
      · exact .inr h
      · exact .inl h
theorem mem_put {s : St} {b c : Nat} {o : Option AObj} (h : c ∈ (s.put b o).log) : c ∈ s.log ∨ (c = b ∧ c < s.bound) := by
  have h' : c ∈ (bif Nat.blt b s.bound then logged b s.log else s.log) := h
  cases hb : Nat.blt b s.bound with
  | false => rw [hb] at h'; exact .inl h'
  | true =>
    rw [hb] at h'
    rcases mem_logged h' with h | h
    · exact .inl h
    · exact .inr ⟨h, by rw [h]; exact Nat.le_of_ble_eq_true hb⟩
theorem mem_below {n c : Nat} : ∀ {L l : List Nat}, c ∈ below n L l → c ∈ l ∨ (c ∈ L ∧ c < n)
  | [], _, h => .inl h
  | b :: L, l, h => by
    unfold below at h
    cases hb : Nat.blt b n with
    | true =>
      rw [hb] at h
      rcases List.mem_cons.1 h with h | h
      · exact .inr ⟨by rw [h]; exact List.mem_cons_self .., by rw [h]; exact Nat.le_of_ble_eq_true hb⟩
      · exact (mem_below h).imp id fun ⟨h1, h2⟩ => ⟨List.mem_cons_of_mem _ h1, h2⟩
    | false =>
      rw [hb] at h
      exact (mem_below h).imp id fun ⟨h1, h2⟩ => ⟨List.mem_cons_of_mem _ h1, h2⟩
theorem logged_ne {b : Nat} {lg : List Nat} : logged b lg ≠ [] := by
  cases lg with
  | nil => exact fun h => by cases h
  | cons c lg =>
    show (bif Nat.beq b c then c :: lg else b :: c :: lg) ≠ []
    cases Nat.beq b c <;> simp
theorem put_log_ne {s : St} {b : Nat} {o : Option AObj} (h : b < s.bound) : (s.put b o).log ≠ [] := by
  show (bif Nat.blt b s.bound then logged b s.log else s.log) ≠ []
  rw [show Nat.blt b s.bound = true from Nat.ble_eq_true_of_le h]
  exact logged_ne

/-! ### A buffer of bytes that only grows -/
/-- A slice of bytes that holds a text, of which nothing more is known than that it grows by append. -/
def BufR (s : St) (e : TypeId) (v : AV) (w : List UInt8) : Prop :=
  (v = .nilslice ∧ w = []) ∨ (∃ b, v = .slice b 0 0 1 (some 0) ∧ w = [] ∧ b < s.next ∧ s.heap.get b = some (.cells [] e true)) ∨
    ∃ b, v = .slice b 0 w.length 1 none ∧ w ≠ [] ∧ b < s.next ∧ s.heap.get b = some (.cells (byteCells w) e true)
theorem BufR.keep {s s' : St} {e : TypeId} {v : AV} {w : List UInt8} (h : BufR s e v w) (hn : s.next ≤ s'.next) (hh : ∀ c, ownB c v = true → s'.heap.get c = s.heap.get c) : BufR s' e v w := by
  rcases h with h | ⟨b, rfl, hw, hb, hg⟩ | ⟨b, rfl, hw, hb, hg⟩
  · exact .inl h
  · exact .inr (.inl ⟨b, rfl, hw, by omega, (hh b (Nat.beq_refl b)).trans hg⟩)
  · exact .inr (.inr ⟨b, rfl, hw, by omega, (hh b (Nat.beq_refl b)).trans hg⟩)
theorem BufR.own {s : St} {e : TypeId} {v : AV} {w : List UInt8} (h : BufR s e v w) {c : Nat} (hc : ownB c v = true) : c < s.next := by
  rcases h with ⟨rfl, _⟩ | ⟨b, rfl, _, hb, _⟩ | ⟨b, rfl, _, hb, _⟩
  · cases hc
  · have := Nat.eq_of_beq_eq_true (show Nat.beq b c = true from hc); omega
  · have := Nat.eq_of_beq_eq_true (show Nat.beq b c = true from hc); omega
/-- A text behind it. -/
theorem BufR.append {s : St} {e : TypeId} {v : AV} {w x : List UInt8} (h : BufR s e v w) (hsm : w.length + x.length ≤ 1099511627776) :
    ∃ v' s', appendTo s e 1 1 (byteCells x) x.length v = some (v', s') ∧ BufR s' e v' (w ++ x) ∧ s.next ≤ s'.next ∧ s'.bound = s.bound ∧ (∀ c, ownB c v' = true → ownB c v = true ∨ c = s.next) ∧
      (∀ c ∈ s'.log, c ∈ s.log ∨ (c < s.bound ∧ ownB c v = true)) ∧ ∀ c, c < s.next → ownB c v = false → s'.heap.get c = s.heap.get c := by
  cases x with
  | nil =>
    refine ⟨v, s, ?_, ?_, Nat.le_refl _, rfl, fun c hc => .inl hc, fun _ h => .inl h, fun _ _ _ => rfl⟩
    · rcases h with ⟨rfl, _⟩ | ⟨b, rfl, _⟩ | ⟨b, rfl, _⟩ <;> rfl
    · rw [List.append_nil]; exact h
  | cons x0 x =>
    have hk : Nat.beq (x0 :: x).length 0 = false := rfl
    have hle : (x0 :: x).length = x.length + 1 := rfl
    have hsmall : ∀ n : Nat, n ≤ 1099511627776 → small n 1 = true := fun n hn => by
      unfold small
      rw [Nat.mul_one, Nat.ble_eq_true_of_le hn]; rfl
    have hlen : (byteCells (x0 :: x)).length = (x0 :: x).length := byteCells_len _
    rcases h with ⟨rfl, rfl⟩ | ⟨b, rfl, rfl, hb, hg⟩ | ⟨b, rfl, hw, hb, hg⟩
    · refine ⟨.slice s.next 0 (x0 :: x).length 1 none, s.alloc (.cells (byteCells (x0 :: x)) e true), ?_, .inr (.inr ⟨s.next, rfl, by simp, Nat.lt_succ_self _, by show (s.heap.set s.next _).get s.next = _; rw [get_set, if_pos rfl]; rfl⟩), Nat.le_succ _, rfl,
        fun c hc => .inr (Nat.eq_of_beq_eq_true (show Nat.beq s.next c = true from hc)).symm, fun _ h => .inl h, fun c hc _ => by show (s.heap.set s.next _).get c = _; rw [get_set, if_neg (by omega)]⟩
      unfold appendTo
      simp only [hk, hsmall _ (show (x0 :: x).length ≤ _ by simpa using hsm), cond_false, cond_true]
    · have hfit : fitsA 1 0 (x0 :: x).length (some 0) ([] : List AV) = false := by
        show Nat.ble (0 + (x.length + 1)) 0 = false
        rw [Nat.zero_add]; rfl
      refine ⟨.slice s.next 0 (x0 :: x).length 1 none, (s.put b none).alloc (.cells (byteCells (x0 :: x)) e true), ?_, .inr (.inr ⟨s.next, rfl, by simp, Nat.lt_succ_self _, by show ((s.heap.set b none).set s.next _).get s.next = _; rw [get_set, if_pos rfl]; rfl⟩), Nat.le_succ _, rfl,
        fun c hc => .inr (Nat.eq_of_beq_eq_true (show Nat.beq s.next c = true from hc)).symm, fun c hc => (mem_put (s := s) (b := b) (o := none) hc).imp id fun ⟨h1, h2⟩ => ⟨h2, by rw [h1]; exact Nat.beq_refl b⟩, fun c hc hn => ?_⟩
      · have hd : dropN 0 ([] : List AV) = some [] := rfl
        have ht : takeN (0 * 1) ([] : List AV) = some [] := rfl
        unfold appendTo
        simp only [hk, Nat.beq_refl, hsmall _ (show (x0 :: x).length ≤ _ by simpa using hsm), hg, cond_false, cond_true, Bool.and_self, appendOb, appendIn, hd, hfit, Option.bind_some, Bool.true_or, ht, freed, tailO, List.nil_append, Nat.zero_add]
      · have hcb : c ≠ b := fun h => by
          rw [h, show ownB b (.slice b 0 0 1 (some 0)) = true from Nat.beq_refl b] at hn
          cases hn
        show ((s.heap.set b none).set s.next _).get c = _
        rw [get_set, if_neg (by omega), get_set, if_neg hcb]
    · have hwl : 0 < w.length := by cases w with | nil => exact absurd rfl hw | cons _ _ => simp
      have hbl := byteCells_len w
      have hfit : fitsA 1 w.length (x0 :: x).length none (byteCells w) = false := by
        show Nat.ble ((w.length + (x.length + 1)) * 1) (len' (byteCells w)) = false
        rw [len'_eq, hbl, Nat.mul_one]
        cases hc : Nat.ble (w.length + (x.length + 1)) w.length with
        | false => rfl
        | true => have := Nat.le_of_ble_eq_true hc; omega
      refine ⟨.slice s.next 0 (w.length + (x0 :: x).length) 1 none, (s.put b none).alloc (.cells (byteCells w ++ byteCells (x0 :: x)) e true), ?_,
        .inr (.inr ⟨s.next, by rw [List.length_append], by simp, Nat.lt_succ_self _, by show ((s.heap.set b none).set s.next _).get s.next = _; rw [get_set, if_pos rfl, byteCells_app]⟩), Nat.le_succ _, rfl,
        fun c hc => .inr (Nat.eq_of_beq_eq_true (show Nat.beq s.next c = true from hc)).symm, fun c hc => (mem_put (s := s) (b := b) (o := none) hc).imp id fun ⟨h1, h2⟩ => ⟨h2, by rw [h1]; exact Nat.beq_refl b⟩, fun c hc hn => ?_⟩
      · have hd : dropN 0 (byteCells w) = some (byteCells w) := rfl
        have ht : takeN (w.length * 1) (byteCells w) = some (byteCells w) := by rw [Nat.mul_one, takeN_ok (by omega), List.take_of_length_le (by omega)]
        unfold appendTo
        simp only [hk, Nat.beq_refl, hsmall _ hsm, hg, cond_false, cond_true, Bool.and_self, appendOb, appendIn, hd, hfit, Option.bind_some, Bool.true_or, ht, freed, tailO]
      · have hcb : c ≠ b := fun h => by
          rw [h, show ownB b (.slice b 0 w.length 1 none) = true from Nat.beq_refl b] at hn
          cases hn
        show ((s.heap.set b none).set s.next _).get c = _
        rw [get_set, if_neg (by omega), get_set, if_neg hcb]
/-- The text at the end. -/
theorem BufR.text {E : Env} {s : St} {e : TypeId} {v : AV} {w : List UInt8} (h : BufR s e v w) (hb : isByte E e = true) : ∃ d s', dataV v = some d ∧ rawStrV s E e w.length d = some (.str w, s') ∧ s'.next = s.next ∧ s'.bound = s.bound ∧ (∀ c ∈ s'.log, c ∈ s.log ∨ (c < s.bound ∧ ownB c v = true)) ∧
    (∀ c, ownB c v = false → s'.heap.get c = s.heap.get c) ∧ lenSl v = some (.int .i64 (w.length : Nat)) := by
  rcases h with ⟨rfl, rfl⟩ | ⟨b, rfl, rfl, hbn, hg⟩ | ⟨b, rfl, hw, hbn, hg⟩
  · exact ⟨.junk, s, rfl, rfl, rfl, rfl, fun _ h => .inl h, fun _ _ => rfl, rfl⟩
  · exact ⟨.junk, s, rfl, rfl, rfl, rfl, fun _ h => .inl h, fun _ _ => rfl, rfl⟩
  · obtain ⟨k, hk⟩ : ∃ k, w.length = k + 1 := by cases w with | nil => exact absurd rfl hw | cons _ t => exact ⟨t.length, rfl⟩
    refine ⟨.ptr b 0, s.put b none, by rw [hk]; rfl, ?_, rfl, rfl, fun c hc => (mem_put (s := s) (b := b) (o := none) hc).imp id fun ⟨h1, h2⟩ => ⟨h2, by rw [h1]; exact Nat.beq_refl b⟩, fun c hc => ?_, rfl⟩
    · have hz : Nat.beq w.length 0 = false := by rw [hk]; rfl
      show (bif Nat.beq w.length 0 then _ else rawStrIn s E e b 0 w.length (s.heap.get b)) = _
      rw [hz, hg]
      show (bif Nat.beq e e && isByte E e then (cut (byteCells w) 0 w.length).bind _ else _) = _
      rw [Nat.beq_refl, hb, cut_eq (by rw [byteCells_len]; omega), List.drop_zero, List.take_of_length_le (by rw [byteCells_len]; exact Nat.le_refl _)]
      simp only [Bool.and_self, cond_true, Option.bind_some, bytesOf_byteCells]
    · have hcb : c ≠ b := fun h => by
        rw [h, show ownB b (.slice b 0 w.length 1 none) = true from Nat.beq_refl b] at hc
        cases hc
      show (s.heap.set b none).get c = _
      rw [get_set, if_neg hcb]
end Am
namespace Am
open Go
/-- The end of a call that wrote what was there before. -/
theorem leave_val {E : Env} {f : FuncId} {v : AV} {s st : St} (hf : E.frz f = 1) (hl : st.log ≠ []) : leave E f s v st = some (.val v (s.back st)) := by
  cases hlog : st.log with
  | nil => exact absurd hlog hl
  | cons b lg =>
    unfold leave frozen
    rw [hf, hlog]
    simp only [Option.bind_some, leaveQ, hlog]
end Am
namespace Am
open Go
theorem get_putS {s : St} {b c : Nat} {o : Option AObj} : (s.put b o).heap.get c = if c = b then o else s.heap.get c := get_set ..
/-- What is told of the blocks: all but some are as they were. -/
structure Chg (s s' : St) (own : Nat → Prop) : Prop where
  next : s.next ≤ s'.next
  bound : s'.bound = s.bound
  log : ∀ c ∈ s'.log, c ∈ s.log ∨ (c < s.bound ∧ own c)
  heap : ∀ c, c < s.next → ¬ own c → s'.heap.get c = s.heap.get c
theorem Chg.trans {s s1 s2 : St} {o1 o2 own : Nat → Prop} (h : Chg s s1 o1) (h2 : Chg s1 s2 o2) (e1 : ∀ c, o1 c → own c) (e2 : ∀ c, o2 c → own c ∨ s.next ≤ c) (hb : s.bound ≤ s.next) : Chg s s2 own :=
  ⟨Nat.le_trans h.next h2.next, h2.bound.trans h.bound, fun c hc => by
    rcases h2.log c hc with hc | ⟨hc, ho⟩
    · exact (h.log c hc).imp id fun ⟨a, b⟩ => ⟨a, e1 _ b⟩
    · rw [h.bound] at hc
      rcases e2 c ho with ho | ho
      · exact .inr ⟨hc, ho⟩
      · omega, fun c hc ho => by
    have h1 : ¬ o2 c := fun h => by
      rcases e2 c h with h | h
      · exact ho h
      · omega
    exact (h2.heap c (Nat.lt_of_lt_of_le hc h.next) h1).trans (h.heap c hc fun h => ho (e1 c h))⟩
/-- Back in the caller's frame. -/
theorem Chg.back {s st : St} {own : Nat → Prop} (h : Chg s.enter st own) : Chg s (s.back st) own :=
  ⟨h.next, rfl, fun c hc => by
    rcases mem_below (show c ∈ below s.bound st.log s.log from hc) with hc | ⟨hc, hlt⟩
    · exact .inl hc
    · rcases h.log c hc with h | ⟨_, ho⟩
      · cases h
      · exact .inr ⟨hlt, ho⟩, h.heap⟩
theorem Chg.put {s : St} {b : Nat} {o : Option AObj} : Chg s (s.put b o) (fun c => c = b) :=
  ⟨Nat.le_refl _, rfl, fun c hc => (mem_put hc).imp id fun ⟨h1, h2⟩ => ⟨h2, h1⟩, fun c _ ho => by rw [get_putS, if_neg ho]⟩

theorem mem_newL {c : Nat} : ∀ {n b : Nat}, c ∈ newL b n → b ≤ c
  | 0, _, h => by cases h
  | n + 1, b, h => by
    rcases List.mem_cons.1 h with rfl | h
    · exact Nat.le_refl _
    · have := mem_newL h; omega
/-- An operation of a drawn region. -/
theorem Chg.merged {st s2 : St} {own : Nat → Prop} (h : Chg (st.sub st.heap) s2 own) : Chg st (st.merged s2) own :=
  ⟨h.next, rfl, fun c hc => by
    rcases mem_below (show c ∈ below st.bound s2.log st.log from hc) with hc | ⟨hc, hlt⟩
    · exact .inl hc
    · rcases h.log c hc with h1 | ⟨_, h1⟩
      · cases h1
      · exact .inr ⟨hlt, h1⟩, fun c hc ho => by
    show (copyAll s2.heap (newL st.next (s2.next - st.next)) (copyAll s2.heap s2.log st.heap)).get c = _
    rw [copyAll_get, if_neg (fun hm => by have := mem_newL hm; omega), copyAll_get]
    have := h.heap c hc ho
    by_cases hl : c ∈ s2.log
    · rw [if_pos hl]; exact this
    · rw [if_neg hl]⟩
end Am
namespace Am
open Go
theorem OpQ.lenV {E : Env} {l : Sl} {o : Oper} {c : Call} {t e : TypeId} {ts : List TypeId} {x : Operand} {a v : AV} (ho : o.op = .call c) (hc : c.callee = .builtin .len) (ht : c.argTypes.toList = t :: ts) (ha : c.args.toList = [x]) (hu : und E t = some (.slice e)) (hx : opndL x l = some a) (hv : Am.lenSl a = some v) : OpQ E o l v :=
  OpQ.pure1 (g := Am.lenSl) (by
    rw [ho]
    show callC E o.type c = _
    unfold callC
    rw [hc]
    simp only
    rw [ht, ha]
    show lenC E t x = _
    unfold lenC
    rw [hu]) hx hv
end Am
namespace Am
open Go
theorem Chg.refl {s : St} {own : Nat → Prop} : Chg s s own := ⟨Nat.le_refl _, rfl, fun _ h => .inl h, fun _ _ _ => rfl⟩
/-- The end of a call that hands back a flat value, whatever it wrote. -/
theorem leave_any {E : Env} {f : FuncId} {v : AV} {s st : St} {R : AV → St → Prop} (hf : E.frz f = 1) (hk : ∀ n w, frzV w n 40 v [] = some (v, [])) (hu : ∀ m, underV m 40 v = true) (h1 : st.log = [] → R v s) (h2 : st.log ≠ [] → R v (s.back st)) :
    ∃ cr, leave E f s v st = some cr ∧ match cr with
      | .same v => R v s
      | .val v s' => R v s'
      | .pan _ _ => False := by
  by_cases hl : st.log = []
  · exact ⟨_, leave_flat hk hu hl, h1 hl⟩
  · exact ⟨_, leave_val hf hl, h2 hl⟩
end Am
namespace Am
open Go
theorem clear_ne {anc b c j : Nat} {nl : News} (h : b ≠ c) (hn : clearB anc b nl = true) : clearB anc b ((j, c) :: nl) = true := by
  unfold clearB at hn ⊢
  rw [List.all_cons, hn, Bool.and_true]
  cases hb : Nat.beq c b with
  | false => rfl
  | true => exact absurd (Nat.eq_of_beq_eq_true hb).symm h
theorem clear_anc {anc b c j : Nat} {nl : News} (h : Nat.testBit anc j = true) (hn : clearB anc b nl = true) : clearB anc b ((j, c) :: nl) = true := by
  unfold clearB at hn ⊢
  rw [List.all_cons, hn, Bool.and_true]
  show (_ || Nat.testBit anc j) = true
  rw [h, Bool.or_true]
end Am
namespace Am
open Go
theorem mem_logged_self {b : Nat} : ∀ {lg : List Nat}, b ∈ logged b lg
  | [] => List.mem_singleton.2 rfl
  | c :: lg => by
    show b ∈ (bif Nat.beq b c then c :: lg else b :: c :: lg)
    cases hb : Nat.beq b c with
    | true => rw [Nat.eq_of_beq_eq_true hb]; exact List.mem_cons_self ..
    | false => exact List.mem_cons_self ..
theorem mem_put_self {s : St} {b : Nat} {o : Option AObj} (h : b < s.bound) : b ∈ (s.put b o).log := by
  show b ∈ (bif Nat.blt b s.bound then logged b s.log else s.log)
  rw [show Nat.blt b s.bound = true from Nat.ble_eq_true_of_le h]
  exact mem_logged_self
theorem below_ne {n c : Nat} : ∀ {L l : List Nat}, c ∈ L → c < n → below n L l ≠ []
  | b :: L, l, hc, h => by
    unfold below
    cases hb : Nat.blt b n with
    | true => simp
    | false =>
      rcases List.mem_cons.1 hc with rfl | hc
      · rw [show Nat.blt c n = true from Nat.ble_eq_true_of_le h] at hb; cases hb
      · exact below_ne hc h
/-- What was written of what is minded is told. -/
theorem back_ne {s st : St} {b : Nat} (hb : b ∈ st.log) (h : b < s.bound) : (s.back st).log ≠ [] := below_ne hb h
end Am
namespace Am
open Go
theorem OpQ.indexAddrV {E : Env} {l : Sl} {o : Oper} {t e : TypeId} {x i : Operand} {sz k : Nat} {ik : IntKind} {a p : AV} (ho : o.op = .indexAddr t x i) (hu : und E t = some (.slice e)) (hs : sizeOf E e = some (sz + 1)) (hx : opndL x l = some a) (hi : opndL i l = some (.int ik (k : Nat))) (hv : idxSliceV (sz + 1) k a = some p) : OpQ E o l p :=
  OpQ.pure (f := fun T => (opnd E i T).bind fun iv => (natOf iv).bind fun k => (opnd E x T).bind (idxSliceV (sz + 1) k)) (by
    rw [ho]
    show indexAddrC E t x i = _
    unfold indexAddrC
    rw [hu]
    simp only [hs]) fun T hT => by
    have h1 : natOf (.int ik (k : Nat)) = some k := rfl
    simp only [opndL_ok hT hx, opndL_ok hT hi, Option.bind_some, h1, hv]
/-! ### Lists of texts, wherever they lie -/
/-- A slice reads as a list of texts. -/
def StrsR (s : St) (v : AV) (l : List (List UInt8)) : Prop :=
  (v = .nilslice ∧ l = []) ∨ (∃ cl, v = .islice (l.map .str) l.length 1 cl) ∨
    ∃ b off cap cs e part, v = .slice b off l.length 1 cap ∧ b < s.next ∧ s.heap.get b = some (.cells cs e part) ∧ off + l.length ≤ cs.length ∧ (cs.drop off).take l.length = l.map .str ∧ (∀ c, cap = some c → l.length ≤ c)
theorem StrsR.keep {s s' : St} {v : AV} {l : List (List UInt8)} (h : StrsR s v l) (hn : s.next ≤ s'.next) (hh : ∀ c, ownB c v = true → s'.heap.get c = s.heap.get c) : StrsR s' v l := by
  rcases h with h | h | ⟨b, off, cap, cs, e, part, rfl, hb, hg, h1, h2, h3⟩
  · exact .inl h
  · exact .inr (.inl h)
  · exact .inr (.inr ⟨b, off, cap, cs, e, part, rfl, by omega, (hh b (Nat.beq_refl b)).trans hg, h1, h2, h3⟩)
theorem StrsR.own {s : St} {v : AV} {l : List (List UInt8)} (h : StrsR s v l) {c : Nat} (hc : ownB c v = true) : c < s.next := by
  rcases h with ⟨rfl, _⟩ | ⟨_, rfl⟩ | ⟨b, off, cap, cs, e, part, rfl, hb, _⟩
  · cases hc
  · cases hc
  · have := Nat.eq_of_beq_eq_true (show Nat.beq b c = true from hc); omega
theorem StrsR.len {s : St} {v : AV} {l : List (List UInt8)} (h : StrsR s v l) : lenSl v = some (.int .i64 (l.length : Nat)) := by
  rcases h with ⟨rfl, rfl⟩ | ⟨_, rfl⟩ | ⟨b, off, cap, cs, e, part, rfl, _⟩ <;> rfl
theorem StrsR.at {E : Env} {s : St} {v : AV} {l : List (List UInt8)} (h : StrsR s v l) {i : Nat} (hi : i < l.length) {t : TypeId} (h1 : isAgg E t = some false) (h2 : sizeOf E t = some 1) : ∃ p, idxSliceV (0 + 1) i v = some p ∧ loadC E t s p = some (.str l[i]) := by
  have hlt : Nat.blt i l.length = true := Nat.ble_eq_true_of_le hi
  have hdrop : (l.map AV.str).drop i = .str l[i] :: (l.map AV.str).drop (i + 1) := by
    rw [List.drop_eq_getElem_cons (by rw [List.length_map]; exact hi), List.getElem_map]
  rcases h with ⟨rfl, rfl⟩ | ⟨_, rfl⟩ | ⟨b, off, cap, cs, e, part, rfl, hb, hg, hl1, hl2, _⟩
  · simp at hi
  · refine ⟨.iptr (.str l[i] :: (l.map AV.str).drop (i + 1)), ?_, ?_⟩
    · show (bif Nat.blt i l.length then (dropN (i * (0 + 1)) (l.map AV.str)).bind iptrO else none) = _
      rw [hlt, Nat.zero_add, Nat.mul_one, dropN_ok (by rw [List.length_map]; omega), hdrop]; rfl
    · unfold loadC
      simp only [h1, h2]
      rfl
  · refine ⟨.ptr b (off + i * (0 + 1)), ?_, ?_⟩
    · show (bif Nat.blt i l.length then some (AV.ptr b (off + i * (0 + 1))) else none) = _
      rw [hlt]; rfl
    · refine loadOne_at h1 h2 hg ?_
      have : ((cs.drop off).take l.length)[i]? = some (.str l[i]) := by rw [hl2, List.getElem?_map, List.getElem?_eq_getElem hi]; rfl
      rw [List.getElem?_take_of_lt hi, List.getElem?_drop] at this
      rw [Nat.zero_add, Nat.mul_one]; exact this
theorem StrsR.tail {s : St} {v : AV} {a b : List UInt8} {l : List (List UInt8)} (h : StrsR s v (a :: b :: l)) : ∃ v', sliceSlV s 1 (some (.int .i64 ((1 : Nat) : Int))) none none v = some v' ∧ StrsR s v' (b :: l) ∧ (∀ c, ownB c v' = true → ownB c v = true) := by
  rcases h with ⟨_, h⟩ | ⟨cl, rfl⟩ | ⟨bk, off, cap, cs, e, part, rfl, hb, hg, hl1, hl2, hcap⟩
  · cases h
  · refine ⟨.islice ((b :: l).map .str) (b :: l).length 1 cl, ?_, .inr (.inl ⟨cl, rfl⟩), fun c hc => by cases hc⟩
    have hb1 : boundsA (a :: b :: l).length (a :: b :: l).length none = some (l.length + 2) := rfl
    have hb2 : boundsA 0 (l.length + 2) (some (.int .i64 ((1 : Nat) : Int))) = some 1 := bounds_some (by omega)
    unfold sliceSlV
    simp only [Nat.beq_refl, cond_true, isliceV3, isliceV, hb1, hb2, Option.bind_some]
    rw [cut_eq (by simp only [List.length_map, List.length_cons]; omega)]
    simp only [Option.bind_some, List.map_cons]
    rw [show ((AV.str a :: AV.str b :: l.map AV.str).drop (1 * 1)) = AV.str b :: l.map AV.str from rfl, List.take_of_length_le (by simp)]
    rfl
  · have hlen : (a :: b :: l).length = l.length + 2 := rfl
    have htl : (cs.drop (off + 1)).take (b :: l).length = (b :: l).map .str := by
      have h2 : (cs.drop off).take ((b :: l).length + 1) = .str a :: (b :: l).map .str := hl2
      have h3 := congrArg (List.drop 1) h2
      rw [List.drop_take, List.drop_drop] at h3
      simpa [Nat.add_comm] using h3
    refine ⟨.slice bk (off + 1 * 1) (b :: l).length 1 (cap.map (· - 1)), ?_, .inr (.inr ⟨bk, off + 1, cap.map (· - 1), cs, e, part, rfl, hb, hg, by rw [hlen] at hl1; show off + 1 + (l.length + 1) ≤ _; omega, htl, ?_⟩), fun c hc => hc⟩
    · unfold sliceSlV
      have hcs : cellsOf? (s.heap.get bk) = some cs := by rw [hg]; rfl
      simp only [Nat.beq_refl, cond_true, hcs, Option.bind_some, sliceV3]
      have hm : (a :: b :: l).length ≤ mostOf 1 off (a :: b :: l).length cap cs := by
        cases cap with
        | some c => exact hcap c rfl
        | none =>
          rw [show mostOf 1 off (a :: b :: l).length none cs = (len' cs - off) / 1 from rfl, len'_eq, Nat.div_one]; omega
      have hb1 : boundsA (a :: b :: l).length (mostOf 1 off (a :: b :: l).length cap cs) none = some (l.length + 2) := rfl
      have hb2 : boundsA 0 (l.length + 2) (some (.int .i64 ((1 : Nat) : Int))) = some 1 := bounds_some (by omega)
      simp only [hb1, hb2, Option.bind_some]
      unfold sliceFrom
      cases cap with
      | some c =>
        have hc := hcap c rfl
        have : Nat.beq c 1 = false := by
          cases hb : Nat.beq c 1 with
          | false => rfl
          | true => have := Nat.eq_of_beq_eq_true hb; rw [hlen] at hc; omega
        simp only [this, cond_false]; rfl
      | none =>
        have : Nat.blt 1 (mostOf 1 off (a :: b :: l).length none cs) = true := Nat.ble_eq_true_of_le (by rw [hlen] at hm ⊢; omega)
        simp only [this, cond_true]; rfl
    · intro c hc
      cases cap with
      | none => cases hc
      | some d =>
        have := hcap d rfl
        rw [hlen] at this
        simp only [Option.map_some, Option.some.injEq] at hc
        show l.length + 1 ≤ c
        omega
/-- Texts, with another one between them. -/
def joinS (sep : List UInt8) : List (List UInt8) → List UInt8
  | [] => []
  | a :: l => a ++ l.flatMap (sep ++ ·)
end Am
namespace Am
open Go
/-- A place where ways meet: what is known there. -/
theorem EvtL.cut {E : Env} {fr : Fr} {l : Sl} {s : St} {Q : Ex → Fr → Sl → St → Prop} {a b : Code} (l2 : Sl) (s2 : St) (h1 : EvtL E a fr l s fun ex fr' l' s' => ex = .normal ∧ fr' = fr ∧ s' = s2 ∧ ∀ p ∈ l2, look p.1 l' = some p.2) (h2 : EvtL E b fr l2 s2 Q) : EvtL E (.seq a b) fr l s Q :=
  EvtL.seq (h1.mono fun ex fr' l' s' ⟨e1, e2, e3, e4⟩ => by
    subst e1 e2 e3
    exact EvtL.sub h2 e4)
def SubL : Sl → Sl → Prop
  | [], _ => True
  | p :: r, l => look p.1 l = some p.2 ∧ SubL r l
theorem sub_of {l : Sl} : ∀ {l' : Sl}, SubL l' l → ∀ p ∈ l', look p.1 l = some p.2
  | [], _, _, h => by cases h
  | q :: r, h, p, hp => by
    rcases List.mem_cons.1 hp with rfl | hp
    · exact h.1
    · exact sub_of h.2 p hp
end Am
namespace Am
open Go
theorem OpQ.mulN {E : Env} {l : Sl} {o : Oper} {t yt : TypeId} {x y : Operand} {a b : Nat} (ho : o.op = .binOp .mul t x y yt) (hu : und E t = some (.int .i64)) (hx : opndL x l = some (.int .i64 (a : Nat))) (hy : opndL y l = some (.int .i64 (b : Nat)))
    (h : a * b < 9223372036854775808) : OpQ E o l (.int .i64 ((a * b : Nat) : Int)) := by
  have := OpQ.mul (E := E) (l := l) ho hu hx hy (by rw [← Int.natCast_mul]; omega)
  rwa [← Int.natCast_mul] at this
theorem OpQ.quoN {E : Env} {l : Sl} {o : Oper} {t yt : TypeId} {x y : Operand} {a b : Nat} (ho : o.op = .binOp .quo t x y yt) (hu : und E t = some (.int .i64)) (hx : opndL x l = some (.int .i64 (a : Nat))) (hy : opndL y l = some (.int .i64 (b : Nat)))
    (h : 0 < b ∧ a < 9223372036854775808) : OpQ E o l (.int .i64 ((a / b : Nat) : Int)) :=
  OpQ.int2 ho hu rfl hx hy (by
    show quoA .i64 _ _ = _
    have hle : a / b ≤ a := Nat.div_le_self a b
    unfold quoA
    rw [if_neg (by omega), ← Int.ofNat_tdiv]
    generalize a / b = q at hle ⊢
    rw [wrapI_in (by omega) (by omega)])
end Am
namespace Am
open Go
theorem OpQ.pure2 {E : Env} {l : Sl} {o : Oper} {x y : Operand} {f : AV → AV → Option AV} {a b v : AV} (hop : opC E o.type o.op = Am.pure2 E f x y) (hx : opndL x l = some a) (hy : opndL y l = some b) (hv : f a b = some v) : OpQ E o l v :=
  OpQ.pure (f := fun T => (opnd E x T).bind fun a => (opnd E y T).bind fun b => f a b) hop fun T hT => by simp only [opndL_ok hT hx, opndL_ok hT hy, Option.bind_some, hv]
/-- The place of a byte. -/
def idxS (c : UInt8) : List UInt8 → Option Nat
  | [] => none
  | b :: l => if b = c then some 0 else (idxS c l).map (· + 1)
def idxI (c : UInt8) (w : List UInt8) : Int := match idxS c w with
  | some n => (n : Int)
  | none => -1
theorem idxA_S (c : UInt8) : ∀ w : List UInt8, idxA c.toNat w = idxS c w
  | [] => rfl
  | b :: w => by
    show (bif Nat.beq b.toNat c.toNat then some 0 else (idxA c.toNat w).bind fun n => some (n + 1)) = if b = c then some 0 else (idxS c w).map (· + 1)
    rw [idxA_S c w]
    by_cases h : b = c
    · rw [if_pos h, h, Nat.beq_refl]; rfl
    · rw [if_neg h]
      have : Nat.beq b.toNat c.toNat = false := by
        cases hb : Nat.beq b.toNat c.toNat with
        | false => rfl
        | true => exact absurd (UInt8.toNat_inj.1 (Nat.eq_of_beq_eq_true hb)) h
      rw [this]
      cases idxS c w <;> rfl
theorem indexByteV_eq (c : UInt8) (w : List UInt8) : indexByteV (.str w) (.int .u8 (c.toNat : Nat)) = some (.int .i64 (idxI c w)) := by
  have hc : Nat.blt c.toNat 256 = true := Nat.ble_eq_true_of_le (by have := c.toNat_lt; omega)
  show (bif Nat.blt c.toNat 256 then (match idxA c.toNat w with
    | some n => some (AV.int .i64 n)
    | none => some (.int .i64 (-1))) else none) = _
  rw [hc, idxA_S]
  unfold idxI
  cases idxS c w <;> rfl
end Am
namespace Am
open Go
theorem byteCells_get : ∀ {w : List UInt8} {i : Nat}, i < w.length → (byteCells w)[i]? = some (.int .u8 ((w.getD i 0).toNat : Nat))
  | b :: w, 0, _ => rfl
  | b :: w, i + 1, h => by
    have := byteCells_get (w := w) (i := i) (by simpa using h)
    simpa [byteCells, List.getD_cons_succ] using this
/-- How many bytes at the beginning are such. -/
def tw (p : Int → Bool) (w : List UInt8) : Nat := (w.takeWhile fun b => p b.toNat).length
theorem tw_le (p : Int → Bool) (w : List UInt8) : tw p w ≤ w.length := (List.takeWhile_sublist _).length_le
theorem tw_step {p : Int → Bool} : ∀ {w : List UInt8} {k : Nat}, k ≤ tw p w → k < w.length → (p (w.getD k 0).toNat = true ↔ k < tw p w)
  | b :: w, 0, _, _ => by
    cases h : p b.toNat <;> simp [tw, List.takeWhile_cons, h]
  | b :: w, k + 1, hk, hw => by
    cases h : p b.toNat with
    | false => simp [tw, List.takeWhile_cons, h] at hk
    | true =>
      have e : tw p (b :: w) = tw p w + 1 := by simp [tw, List.takeWhile_cons, h]
      rw [e] at hk ⊢
      have := tw_step (p := p) (w := w) (k := k) (by omega) (by simpa using hw)
      rw [List.getD_cons_succ, this]; omega
end Am
namespace Am
open Go
/-- A heap, and behind it one with one block more. -/
structure Fresh (e : TypeId) (st st1 : St) (cells : List AV) : Prop where
  next : st1.next = st.next + 1
  bound : st1.bound = st.bound
  log : st1.log = st.log
  low : ∀ c, c < st.next → st1.heap.get c = st.heap.get c
  cell : st1.heap.get st.next = some (.cells cells e false)
theorem Fresh.alloc {e : TypeId} {st : St} {cells : List AV} : Fresh e st (st.alloc (.cells cells e false)) cells :=
  ⟨rfl, rfl, rfl, fun c hc => by show (st.heap.set st.next _).get c = _; rw [get_set, if_neg (by omega)], by show (st.heap.set st.next _).get st.next = _; rw [get_set, if_pos rfl]⟩
theorem Fresh.put {e : TypeId} {st st1 : St} {cells cells' : List AV} (h : Fresh e st st1 cells) (hb : st.bound ≤ st.next) : Fresh e st (st1.put st.next (some (.cells cells' e false))) cells' := by
  refine ⟨h.next, h.bound, ?_, fun c hc => ?_, by rw [get_putS, if_pos rfl]⟩
  · show (bif Nat.blt st.next st1.bound then _ else st1.log) = _
    have : Nat.blt st.next st1.bound = false := by
      rw [h.bound]
      cases hc : Nat.blt st.next st.bound with
      | false => rfl
      | true => have := Nat.le_of_ble_eq_true hc; omega
    rw [this]; exact h.log
  · rw [get_putS, if_neg (by omega)]; exact h.low c hc
end Am
namespace Am
open Go
theorem RegN.st {E : Env} {fr : Fr} {l : Sl} {all rest : List Oper} {i : Nat} {js : List Nat} {nl : News} {K : Sl → St → Prop} {s s2 : St} (h : s = s2) (hh : RegN E all rest i fr l s2 js nl K) : RegN E all rest i fr l s js nl K := h ▸ hh
end Am
namespace Am
open Go
theorem put_low {s : St} {c : Nat} {o : Option AObj} (h : s.bound = 0) : (s.put c o).log = s.log := by
  show (bif Nat.blt c s.bound then _ else s.log) = _
  rw [h]; rfl
/-- A result in a cell of a heap of which enough is known. -/
theorem res_cellG {E : Env} {s : St} {l : Sl} {a t k b : Nat} {rs : List ResultVar} {vs cs : List AV} {e : TypeId} {part : Bool} (hp : look a l = some (.ptr b 0)) (h1 : isAgg E t = some true) (h2 : sizeOf E t = some k) (hg : s.heap.get b = some (.cells cs e part)) (hk : k ≤ cs.length)
    (h : resultsL E s l rs = some vs) : resultsL E s l (.cell a t :: rs) = some (.agg (cs.take k) :: vs) := by
  have hv : loadC E t s (.ptr b 0) = some (.agg ((cs.drop 0).take k)) := loadAgg_at h1 h2 hg (by omega)
  unfold resultsL
  rw [hp]
  simp only [Option.bind_some, hv, h]
  rfl
end Am
namespace Am
open Go
theorem idxS_tw {c : UInt8} {p : Int → Bool} (hp : ∀ b : UInt8, p b.toNat = !decide (b = c)) : ∀ w : List UInt8, idxS c w = if tw p w < w.length then some (tw p w) else none
  | [] => rfl
  | b :: w => by
    have ih := idxS_tw hp w
    show (if b = c then some 0 else (idxS c w).map (· + 1)) = _
    by_cases h : b = c
    · have : tw p (b :: w) = 0 := by
        unfold tw
        rw [List.takeWhile_cons, if_neg (by rw [hp, decide_eq_true h]; exact Bool.false_ne_true)]; rfl
      rw [if_pos h, this, if_pos (by simp)]
    · have : tw p (b :: w) = tw p w + 1 := by
        unfold tw
        rw [List.takeWhile_cons, if_pos (by rw [hp, decide_eq_false h]; rfl)]; rfl
      rw [if_neg h, this, ih, List.length_cons]
      by_cases h2 : tw p w < w.length
      · rw [if_pos h2, if_pos (by omega)]; rfl
      · rw [if_neg h2, if_neg (by omega)]; rfl
theorem idxI_tw {c : UInt8} {p : Int → Bool} (hp : ∀ b : UInt8, p b.toNat = !decide (b = c)) (w : List UInt8) : idxI c w = if tw p w < w.length then ((tw p w : Nat) : Int) else -1 := by
  unfold idxI
  rw [idxS_tw hp]
  by_cases h : tw p w < w.length
  · rw [if_pos h, if_pos h]
  · rw [if_neg h, if_neg h]
end Am
namespace Am
open Go
end Am
