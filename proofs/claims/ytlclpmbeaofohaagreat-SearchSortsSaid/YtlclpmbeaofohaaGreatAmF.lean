/- The abstract machine: rules for calls with unknown arguments. -/
import Derived.Test.YtlclpmbeaofohaaGreatAmE
set_option linter.unusedSectionVars false
set_option linter.unusedVariables false
set_option linter.unusedSimpArgs false

/- The abstract machine: what a piece of code comes to, by rules: for calls with unknown arguments. -/
namespace Am
open Go

/-! ### Slots -/

section
variable (E : Env)

/-- A piece of code comes to one outcome, as soon as enough fuel is there. -/
def Evt (c : Code) (fr : Fr) (T : Tr AV) (s : St) (Q : Res → Prop) : Prop := ∃ N r, Q r ∧ ∀ n, N ≤ n → (codeC E c).run (ev E n) fr T s = .one r

/-- The same of some operations of a region. -/
def EvtR (all ops : List Oper) (fr : Fr) (T : Tr AV) (s : St) (Q : Res → Prop) : Prop := ∃ N r, Q r ∧ ∀ n, N ≤ n → (runC E all ops).run (ev E n) fr T s = .one r

/-- An operation comes to a value and a heap. -/
def OpTo (o : Oper) (fr : Fr) (T : Tr AV) (s : St) (v : AV) (s' : St) : Prop :=
  ∃ N, ∀ n, N ≤ n → ∀ k : KCl, (stepC E (opC E o.type o.op) k).run (ev E n) fr T s = k.run (ev E n) fr T v s'

/-- A call comes to a value, its caller's heap as it was. -/
def CallTo (f : FuncId) (args : List AV) (s : St) (v : AV) : Prop := ∃ N, ∀ n, N ≤ n → callF E (ev E n) f args s = some (.same v)

end

section
variable {E : Env} {fr : Fr} {T : Tr AV} {s : St} {Q : Res → Prop}

theorem ev_succ (n : Nat) (c : Code) : ev E (n + 1) c = (codeC E c).run (ev E n) := rfl

abbrev SeqQ (E : Env) (b : Code) (Q : Res → Prop) (r : Res) : Prop := match r.ex with
  | .normal => Evt E b r.fr r.T r.st Q
  | _ => Q r

abbrev BlockQ (id : Nat) (Q : Res → Prop) (r : Res) : Prop := match r.ex with
  | .exit i => bif Nat.beq i id then Q ⟨.normal, r.fr, r.T, r.st⟩ else Q r
  | _ => Q r

/-- A value is put into a slot, if there is one for it. -/
noncomputable def putT (d : Option Nat) (v : AV) (T : Tr AV) : Tr AV := match d with
  | some d => T.set d (some v)
  | none => T

def dstOk (nt : Nat) : Option Nat → Bool
  | some d => Nat.blt d nt
  | none => true

theorem thenK_run {dst : Option Nat} {k : Cl} (ev : Ev) (v : AV) (hd : dstOk fr.nt dst = true) : (thenK dst k).run ev fr T v s = k.run ev fr (putT dst v T) s := by
  cases dst with
  | none => rfl
  | some d =>
    show (bif Nat.blt d fr.nt then k.run ev fr (Tr.setP (some v) (pathOf d) T) s else .stuck) = _
    have : Nat.blt d fr.nt = true := hd
    rw [this]; rfl

theorem wanted_go {all : List Oper} {g : Nat × Bool} {oj : Oper} {d : Nat} {b : Bool} (hj : nth all g.1 = some oj) (hd : oj.dst = some d) (hv : T.get d = some (.bool b)) : wantedC all g T = some (bif g.2 then b else !b) := by
  unfold wantedC yieldedP
  rw [hj]
  simp only [Option.bind_some, hd]
  show wantedV g.2 (T.get d) = _
  rw [hv]; rfl

/-! ### Operations -/

theorem OpTo.read {o : Oper} {x : Tr AV → Option AV} {f : Tr AV → St → Option AV} {v : AV} (hop : opC E o.type o.op = .read x f) (hv : f T s = some v) : OpTo E o fr T s v s := ⟨0, fun n _ k => by
  rw [hop]
  show valOut (fun v => k.run (ev E n) fr T v s) (f T s) = _
  rw [hv]; rfl⟩

theorem OpTo.act {o : Oper} {b : Bool} {x : Tr AV → Option AV} {f : Tr AV → St → Option (AV × St)} {v : AV} {s' : St} (hop : opC E o.type o.op = .act b x f) (hv : f T s = some (v, s')) : OpTo E o fr T s v s' := ⟨0, fun n _ k => by
  rw [hop]
  show actOut (k.run (ev E n) fr T) (f T s) = _
  rw [hv]; rfl⟩

theorem OpTo.make {o : Oper} {f : Tr AV → Option Mk} {ob : AObj} {g : Nat → AV} (hop : opC E o.type o.op = .make f) (hv : f T = some (.obj ob g)) : OpTo E o fr T s (g s.next) (s.alloc ob) := ⟨0, fun n _ k => by
  rw [hop]
  show mkOut s (k.run (ev E n) fr T) (f T) = _
  rw [hv]; rfl⟩

/-- A call of a function. -/
theorem OpTo.call {o : Oper} {F : Tr AV → St → Option (FuncId × List AV)} {f : FuncId} {args : List AV} {v : AV} (hop : opC E o.type o.op = .call F) (hv : F T s = some (f, args)) (hc : CallTo E f args s v) : OpTo E o fr T s v s := by
  obtain ⟨N, hc⟩ := hc
  refine ⟨N, fun n hn k => ?_⟩
  rw [hop]
  show crOut fr T s (k.run (ev E n) fr T) ((F T s).bind fun p => callF E (ev E n) p.1 p.2 s) = _
  rw [hv]
  simp only [Option.bind_some]
  rw [hc n hn]; rfl

/-- A call of a function value. -/
theorem OpTo.callV {o : Oper} {F : Tr AV → Option AV} {A : Tr AV → Option (List AV)} {f : FuncId} {first captured args : List AV} {v : AV} (hop : opC E o.type o.op = .callV F A) (hF : F T = some (.func (.func f) first captured)) (hA : A T = some args)
    (hb : hasBody E f = true) (hc : CallTo E f (first ++ args ++ captured) s v) : OpTo E o fr T s v s := by
  obtain ⟨N, hc⟩ := hc
  refine ⟨N, fun n hn k => ?_⟩
  rw [hop]
  show crOut fr T s (k.run (ev E n) fr T) ((F T).bind fun g => (A T).bind fun args => callVF E (ev E n) args s g) = _
  rw [hF, hA]
  simp only [Option.bind_some, callVF, hb, cond_true]
  rw [hc n hn]; rfl

theorem CallTo.memo {f : FuncId} {args : List AV} {v : AV} (h : E.memo f args = some v) : CallTo E f args s v := ⟨0, fun n _ => by unfold callF; rw [h]⟩

/-- How a body's run ends, if the call is to hand back a value, and nothing else is to have happened. -/
def EndQ (E : Env) (f : FuncId) (fn : Func) (s : St) (v : AV) (r : Res) : Prop :=
  (r.ex = .ret ∨ r.ex = .normal) ∧ r.fr.defers = [] ∧ ∃ vs, resultsA E r.st r.T fn.results.toList = some vs ∧ leave E f s (oneA vs) r.st = some (.same v)

/-- What bears no block, and is no slice. -/
def plainV : AV → Bool
  | .bool _ => true
  | .int _ _ => true
  | .str _ => true
  | _ => false

end

/-! ### Known calls, with whatever arguments -/

/-- The machine's tables of a program, with calls that are known, said by a function. -/
noncomputable def envK (P : Program) (nt nf mask : Nat) (K : FuncId → List AV → Option AV) : Env := { envOf P nt nf mask [] with memo := K }

/-- A call is known. -/
def KnownF (P : Program) (f : FuncId) (args : List AV) (v : AV) : Prop :=
  ∀ (C : Cx) (S : St) (w : World) (xs : Array Value) (c : Frame) (cs : List Frame), VRs C args xs.toList → StR C S w → Returns P (lone (Frame.enter P f xs .normal) (c :: cs) w) c cs C S w (.same v)

def KnownAll (P : Program) (K : FuncId → List AV → Option AV) : Prop := ∀ f args v, K f args = some v → KnownF P f args v

/-- The context of memory as it is: all of it is never written any more. -/
def Cx.memory (w : World) : Cx :=
  ⟨fun _ => ⟨0, 0, 0⟩, fun blk => match w.heap[blk]? with
    | some (.cells c _ _) => some c.toList
    | _ => none, fun _ => False, fun _ _ => 0, fun _ _ => False, fun k => k < w.heap.size⟩

theorem memory_st (w : World) : StR (Cx.memory w) S0 w := by
  have hno : ∀ b o, ¬ S0.heap.get b = some o := fun b o hb => by rw [show S0.heap = .nil from rfl, nil_get'] at hb; cases hb
  have hM : ∀ blk ms, (Cx.memory w).M blk = some ms → ∃ c e fr, w.heap[blk]? = some (.cells c e fr) ∧ c.toList = ms := by
    intro blk ms hm
    simp only [Cx.memory] at hm
    split at hm
    · next c e fr hx => cases hm; exact ⟨c, e, fr, hx, rfl⟩
    · cases hm
  refine ⟨fun b o hb => absurd hb (hno b o), fun b _ o _ hb => absurd hb (hno b o), fun b hb => hb.elim, hM, fun b o hb => absurd hb (hno b o), fun b n hb => hb.elim, fun _ h => h, fun b hb => hb.elim, fun blk ms hm => ?_⟩
  obtain ⟨c, e, fr, hx, _⟩ := hM blk ms hm
  exact lt_of_get hx

end Am

/- The abstract machine: operations, by rules. -/
namespace Am
open Go

section
variable {E : Env} {fr : Fr} {T : Tr AV} {s : St} {o : Oper}

theorem binC_int {op : BinOp} {t : TypeId} {x y : Operand} {k : IntKind} (hu : und E t = some (.int k)) {f : IntKind → Int → Int → Option AV} (hf : intF op = some f) : binC E op t x y = pure2 E (int2 f) x y := by
  unfold binC
  rw [hu]
  cases op <;> first | (exfalso; simp [intF] at hf; done) | (simp only [hf])

theorem wrap64_small' {n : Int} (h0 : -9223372036854775808 ≤ n) (h1 : n < 9223372036854775808) : IntKind.i64.wrap n = n := Go.IntWalk.i64_in _ (by omega)

/-- An integer in its kind's range. -/
theorem wrapI_in {n : Int} (h0 : -9223372036854775808 ≤ n) (h1 : n < 9223372036854775808) : wrapI .i64 n = .int .i64 n := by
  unfold wrapI
  rw [wrap64_small' h0 h1]

theorem cut_eq {α : Type} {l : List α} {a n : Nat} (h : a + n ≤ l.length) : cut l a n = some ((l.drop a).take n) := by
  have h1 : ∀ (a : Nat) (l : List α), a ≤ l.length → dropN a l = some (l.drop a) := by
    intro a
    induction a with
    | zero => intro l _; rfl
    | succ a ih =>
      intro l hl
      cases l with
      | nil => simp at hl
      | cons b l => exact ih l (by simpa using hl)
  have h2 : ∀ (n : Nat) (l : List α), n ≤ l.length → takeN n l = some (l.take n) := by
    intro n
    induction n with
    | zero => intro l _; simp; rfl
    | succ n ih =>
      intro l hl
      cases l with
      | nil => simp at hl
      | cons b l =>
        show consO b (takeN n l) = _
        rw [ih l (by simpa using hl)]; rfl
  unfold cut
  rw [h1 a l (by omega)]
  exact h2 n _ (by simp; omega)

theorem bounds_some {d m n : Nat} {k : IntKind} (h : n ≤ m) : boundsA d m (some (.int k (n : Nat))) = some n := by
  have hk : natOf (.int k (n : Nat)) = some n := rfl
  have hb : Nat.ble n m = true := Nat.ble_eq_true_of_le h
  simp only [boundsA, hk, Option.bind_some, hb, cond_true]
theorem opndO_some {x : Operand} {v : AV} (h : opnd E x T = some v) : opndOC E (some x) T = some (some v) := by simp only [opndOC, h, Option.bind_some]

theorem opnds_cons {x : Operand} {l : List Operand} {v : AV} {vs : List AV} (h : opnd E x T = some v) (t : opndsC E l T = some vs) : opndsC E (x :: l) T = some (v :: vs) := by simp only [opndsC, h, t, Option.bind_some]

/-- A call of a function that is named. -/
theorem OpTo.callFn {c : Call} {f : FuncId} {args : List AV} {v : AV} (ho : o.op = .call c) (hc : c.callee = .value (.func f)) (hb : hasBody E f = true) (ha : opndsC E c.args.toList T = some args) (h : CallTo E f args s v) : OpTo E o fr T s v s :=
  OpTo.call (F := fun T _ => (opndsC E c.args.toList T).bind fun args => some (f, args)) (by
    rw [ho]
    show callC E o.type c = _
    unfold callC
    rw [hc]
    simp only [hb, cond_true]) (by simp only [ha, Option.bind_some]) h

/-- A call of a function's value. -/
theorem OpTo.callVal {c : Call} {t : Nat} {f : FuncId} {first captured args : List AV} {v : AV} (ho : o.op = .call c) (hc : c.callee = .value (.tmp t)) (hf : T.get t = some (.func (.func f) first captured)) (hb : hasBody E f = true)
    (ha : opndsC E c.args.toList T = some args) (h : CallTo E f (first ++ args ++ captured) s v) : OpTo E o fr T s v s :=
  OpTo.callV (F := opnd E (.tmp t)) (A := opndsC E c.args.toList) (by
    rw [ho]
    show callC E o.type c = _
    unfold callC
    rw [hc]) hf ha hb h

end
end Am

/- The abstract machine: what a piece of code comes to, with slots as a list of what is known. -/
namespace Am
open Go

/-- What is known of slots; the newest first. -/
abbrev Sl := List (Nat × AV)

def look : Nat → Sl → Option AV
  | _, [] => none
  | k, p :: l => bif Nat.beq k p.1 then some p.2 else look k l

def Has (l : Sl) (T : Tr AV) : Prop := ∀ k v, look k l = some v → T.get k = some v

theorem Has.put {l : Sl} {T : Tr AV} (h : Has l T) (d : Nat) (v : AV) : Has ((d, v) :: l) (T.set d (some v)) := by
  intro k u hk
  rw [get_set]
  unfold look at hk
  cases hb : Nat.beq k d with
  | true =>
    rw [hb] at hk
    have := Nat.eq_of_beq_eq_true hb
    simp only [cond_true] at hk
    rw [if_pos this]; exact hk
  | false =>
    rw [hb] at hk
    have := Nat.ne_of_beq_eq_false hb
    rw [if_neg this]; exact h k u hk

theorem Has.nil (T : Tr AV) : Has [] T := fun _ _ h => by cases h
theorem Has.sub {l l' : Sl} {T : Tr AV} (h : Has l T) (hs : ∀ p ∈ l', look p.1 l = some p.2) : Has l' T := by
  intro k v hk
  have : ∃ p ∈ l', p.1 = k ∧ p.2 = v := by
    clear hs
    induction l' with
    | nil => cases hk
    | cons p l' ih =>
      unfold look at hk
      cases hb : Nat.beq k p.1 with
      | true =>
        rw [hb] at hk
        simp only [cond_true, Option.some.injEq] at hk
        exact ⟨p, List.mem_cons_self .., (Nat.eq_of_beq_eq_true hb).symm, hk⟩
      | false =>
        rw [hb] at hk
        obtain ⟨q, hq, h1⟩ := ih hk
        exact ⟨q, List.mem_cons_of_mem _ hq, h1⟩
  obtain ⟨p, hp, rfl, rfl⟩ := this
  exact h _ _ (hs p hp)

noncomputable def opndL : Operand → Sl → Option AV
  | .tmp t, l => look t l
  | .const v, _ => ofVal v
  | .func f, _ => some (.func (.func f) [] [])
  | .global _, _ => none

theorem opndL_ok {E : Env} {l : Sl} {T : Tr AV} (h : Has l T) {x : Operand} {v : AV} (hx : opndL x l = some v) : opnd E x T = some v := by
  cases x with
  | tmp t => exact h t v hx
  | const c =>
    simp only [opndL] at hx
    simp only [opnd]
    rw [hx]; rfl
  | func f => exact hx
  | global g => cases hx

noncomputable def opndsL : List Operand → Sl → Option (List AV)
  | [], _ => some []
  | x :: xs, l => match opndL x l with
    | some v => match opndsL xs l with
      | some vs => some (v :: vs)
      | none => none
    | none => none

theorem opndsL_ok {E : Env} {l : Sl} {T : Tr AV} (h : Has l T) : ∀ {xs : List Operand} {vs : List AV}, opndsL xs l = some vs → opndsC E xs T = some vs
  | [], vs, hx => hx
  | x :: xs, vs, hx => by
    unfold opndsL at hx
    split at hx
    · next v hv =>
      split at hx
      · next us hus => cases hx; exact opnds_cons (opndL_ok h hv) (opndsL_ok h hus)
      · cases hx
    · cases hx

section
variable (E : Env)

/-- What is to be so behind a region, or behind a panic in it. -/
def AtEx (KP : AV → Sl → St → Prop) (K : Sl → St → Prop) (ex : Ex) (l : Sl) (s : St) : Prop := match ex with
  | .normal => K l s
  | .panic v => KP v l s
  | _ => False

/-- Operations of a region. -/
def RegL (KP : AV → Sl → St → Prop) (all ops : List Oper) (fr : Fr) (l : Sl) (s : St) (K : Sl → St → Prop) : Prop :=
  ∀ T, Has l T → ∃ N ex l' T' s', AtEx KP K ex l' s' ∧ Has l' T' ∧ ∀ n, N ≤ n → (runC E all ops).run (ev E n) fr T s = .one ⟨ex, fr, T', s'⟩

/-- A piece of code. -/
def EvtL (c : Code) (fr : Fr) (l : Sl) (s : St) (Q : Ex → Fr → Sl → St → Prop) : Prop :=
  ∀ T, Has l T → ∃ N ex fr' l' T' s', Q ex fr' l' s' ∧ Has l' T' ∧ ∀ n, N ≤ n → (codeC E c).run (ev E n) fr T s = .one ⟨ex, fr', T', s'⟩

/-- An operation. -/
def OpL (o : Oper) (fr : Fr) (l : Sl) (s : St) (v : AV) (s' : St) : Prop := ∀ T, Has l T → OpTo E o fr T s v s'
end

section
variable {E : Env} {fr : Fr} {l : Sl} {s : St} {all rest : List Oper} {o : Oper}

theorem RegL.done {KP : AV → Sl → St → Prop} {K : Sl → St → Prop} (h : K l s) : RegL E KP all [] fr l s K := fun T hT => ⟨0, .normal, l, T, s, h, hT, fun _ _ => rfl⟩

theorem RegL.op {KP : AV → Sl → St → Prop} {K : Sl → St → Prop} {v : AV} {s' : St} {d : Nat} (ho : OpL E o fr l s v s') (hg : o.guard = none) (hd : o.dst = some d) (hlt : Nat.blt d fr.nt = true) (h : RegL E KP all rest fr ((d, v) :: l) s' K) : RegL E KP all (o :: rest) fr l s K := by
  intro T hT
  obtain ⟨N, ho⟩ := ho T hT
  obtain ⟨M, ex, l', T', s2, hk, hT', hr⟩ := h _ (hT.put d v)
  refine ⟨max N M, ex, l', T', s2, hk, hT', fun n hn => ?_⟩
  show (oneC E all o (thenK o.dst (runC E all rest))).run (ev E n) fr T s = _
  unfold oneC guarded
  rw [hg]
  simp only
  rw [ho n (by omega), thenK_run _ _ (by rw [hd]; exact hlt), hd]
  exact hr n (by omega)

theorem RegL.opN {KP : AV → Sl → St → Prop} {K : Sl → St → Prop} {v : AV} {s' : St} (ho : OpL E o fr l s v s') (hg : o.guard = none) (hd : o.dst = none) (h : RegL E KP all rest fr l s' K) : RegL E KP all (o :: rest) fr l s K := by
  intro T hT
  obtain ⟨N, ho⟩ := ho T hT
  obtain ⟨M, ex, l', T', s2, hk, hT', hr⟩ := h _ hT
  refine ⟨max N M, ex, l', T', s2, hk, hT', fun n hn => ?_⟩
  show (oneC E all o (thenK o.dst (runC E all rest))).run (ev E n) fr T s = _
  unfold oneC guarded
  rw [hg]
  simp only
  rw [ho n (by omega), thenK_run _ _ (by rw [hd]; rfl), hd]
  exact hr n (by omega)

theorem RegL.go {KP : AV → Sl → St → Prop} {K : Sl → St → Prop} {v : AV} {s' : St} {d j e : Nat} {w b : Bool} {oj : Oper} (hg : o.guard = some (j, w)) (hj : nth all j = some oj) (he : oj.dst = some e) (hl : look e l = some (.bool b)) (hb : b = w)
    (ho : OpL E o fr l s v s') (hd : o.dst = some d) (hlt : Nat.blt d fr.nt = true) (h : RegL E KP all rest fr ((d, v) :: l) s' K) : RegL E KP all (o :: rest) fr l s K := by
  intro T hT
  obtain ⟨N, ho⟩ := ho T hT
  obtain ⟨M, ex, l', T', s2, hk, hT', hr⟩ := h _ (hT.put d v)
  refine ⟨max N M, ex, l', T', s2, hk, hT', fun n hn => ?_⟩
  show (oneC E all o (thenK o.dst (runC E all rest))).run (ev E n) fr T s = _
  unfold oneC guarded
  rw [hg]
  simp only
  rw [wanted_go (g := (j, w)) hj he (hT e _ hl)]
  have : (bif w then b else !b) = true := by rw [hb]; cases w <;> rfl
  rw [this]
  simp only [guardOut, cond_true]
  rw [ho n (by omega), thenK_run _ _ (by rw [hd]; exact hlt), hd]
  exact hr n (by omega)

theorem RegL.skip {KP : AV → Sl → St → Prop} {K : Sl → St → Prop} {d j e : Nat} {w b : Bool} {oj : Oper} (hg : o.guard = some (j, w)) (hj : nth all j = some oj) (he : oj.dst = some e) (hl : look e l = some (.bool b)) (hb : b = !w)
    (hd : o.dst = some d) (hlt : Nat.blt d fr.nt = true) (h : RegL E KP all rest fr ((d, .tuple []) :: l) s K) : RegL E KP all (o :: rest) fr l s K := by
  intro T hT
  obtain ⟨M, ex, l', T', s2, hk, hT', hr⟩ := h _ (hT.put d (.tuple []))
  refine ⟨M, ex, l', T', s2, hk, hT', fun n hn => ?_⟩
  show (oneC E all o (thenK o.dst (runC E all rest))).run (ev E n) fr T s = _
  unfold oneC guarded
  rw [hg]
  simp only
  rw [wanted_go (g := (j, w)) hj he (hT e _ hl)]
  have : (bif w then b else !b) = false := by rw [hb]; cases w <;> rfl
  rw [this]
  simp only [guardOut, cond_false]
  rw [thenK_run _ _ (by rw [hd]; exact hlt), hd]
  exact hr n hn

variable {Q : Ex → Fr → Sl → St → Prop}

theorem EvtL.sub {c : Code} {l' : Sl} (h : EvtL E c fr l' s Q) (hs : ∀ p ∈ l', look p.1 l = some p.2) : EvtL E c fr l s Q := fun T hT => h T (hT.sub hs)

theorem EvtL.reg {k : Nat} {ops : Array Oper} (h : RegL E (fun v l s => Q (.panic v) fr l s) ops.toList ops.toList fr l s (Q .normal fr)) : EvtL E (.region k ops false) fr l s Q := fun T hT =>
  let ⟨N, ex, l', T', s', h1, h2, h3⟩ := h T hT; ⟨N, ex, fr, l', T', s', (match ex, h1 with
    | .normal, h1 => h1
    | .panic _, h1 => h1), h2, h3⟩

abbrev SeqL (E : Env) (b : Code) (Q : Ex → Fr → Sl → St → Prop) (ex : Ex) (fr : Fr) (l : Sl) (s : St) : Prop := match ex with
  | .normal => EvtL E b fr l s Q
  | ex => Q ex fr l s

theorem EvtL.seq {a b : Code} (h : EvtL E a fr l s (SeqL E b Q)) : EvtL E (.seq a b) fr l s Q := by
  intro T hT
  obtain ⟨N, ex, fr', l', T', s', hq, hT', hr⟩ := h T hT
  unfold SeqL at hq
  cases ex with
  | normal =>
    obtain ⟨M, ex2, fr2, l2, T2, s2, hq2, hT2, hr2⟩ := hq T' hT'
    refine ⟨max N M, ex2, fr2, l2, T2, s2, hq2, hT2, fun n hn => ?_⟩
    show (Out.then ((codeC E a).run (ev E n) fr T s) (seqK ((codeC E b).run (ev E n)))) = _
    rw [hr n (by omega)]
    exact hr2 n (by omega)
  | _ =>
    refine ⟨N, _, fr', l', T', s', hq, hT', fun n hn => ?_⟩
    show (Out.then ((codeC E a).run (ev E n) fr T s) (seqK ((codeC E b).run (ev E n)))) = _
    rw [hr n hn]; rfl

theorem EvtL.seqReg {k : Nat} {ops : Array Oper} {b : Code} (h : RegL E (fun v l s => Q (.panic v) fr l s) ops.toList ops.toList fr l s fun l s => EvtL E b fr l s Q) : EvtL E (.seq (.region k ops false) b) fr l s Q := EvtL.seq (EvtL.reg h)

theorem EvtL.cond {x : Operand} {a b : Code} {t : Bool} (hx : opndL x l = some (.bool t)) (h1 : t = true → EvtL E a fr l s Q) (h0 : t = false → EvtL E b fr l s Q) : EvtL E (.cond x a b) fr l s Q := by
  intro T hT
  cases t with
  | true =>
    obtain ⟨N, ex, fr', l', T', s', hq, hT', hr⟩ := h1 rfl T hT
    refine ⟨N, ex, fr', l', T', s', hq, hT', fun n hn => ?_⟩
    show condOut ((codeC E a).run (ev E n)) ((codeC E b).run (ev E n)) fr T s (opnd E x T) = _
    rw [opndL_ok hT hx]; exact hr n hn
  | false =>
    obtain ⟨N, ex, fr', l', T', s', hq, hT', hr⟩ := h0 rfl T hT
    refine ⟨N, ex, fr', l', T', s', hq, hT', fun n hn => ?_⟩
    show condOut ((codeC E a).run (ev E n)) ((codeC E b).run (ev E n)) fr T s (opnd E x T) = _
    rw [opndL_ok hT hx]; exact hr n hn

abbrev BlockL (id : Nat) (Q : Ex → Fr → Sl → St → Prop) (ex : Ex) (fr : Fr) (l : Sl) (s : St) : Prop := match ex with
  | .exit i => bif Nat.beq i id then Q .normal fr l s else Q (.exit i) fr l s
  | ex => Q ex fr l s

theorem EvtL.block {id : Nat} {b : Code} (h : EvtL E b fr l s (BlockL id Q)) : EvtL E (.block id b) fr l s Q := by
  intro T hT
  obtain ⟨N, ex, fr', l', T', s', hq, hT', hr⟩ := h T hT
  unfold BlockL at hq
  cases ex with
  | exit i =>
    simp only at hq
    cases hb : Nat.beq i id with
    | true =>
      rw [hb] at hq
      refine ⟨N, .normal, fr', l', T', s', hq, hT', fun n hn => ?_⟩
      show (Out.then ((codeC E b).run (ev E n) fr T s) (blockK id)) = _
      rw [hr n hn]
      simp only [Out.then, blockK, hb, cond_true]
    | false =>
      rw [hb] at hq
      refine ⟨N, .exit i, fr', l', T', s', hq, hT', fun n hn => ?_⟩
      show (Out.then ((codeC E b).run (ev E n) fr T s) (blockK id)) = _
      rw [hr n hn]
      simp only [Out.then, blockK, hb, cond_false]
  | _ =>
    refine ⟨N, _, fr', l', T', s', hq, hT', fun n hn => ?_⟩
    show (Out.then ((codeC E b).run (ev E n) fr T s) (blockK id)) = _
    rw [hr n hn]; rfl

theorem EvtL.skip (h : Q .normal fr l s) : EvtL E .skip fr l s Q := fun T hT => ⟨0, _, fr, l, T, s, h, hT, fun _ _ => rfl⟩
theorem EvtL.exit {id : Nat} (h : Q (.exit id) fr l s) : EvtL E (.exit id) fr l s Q := fun T hT => ⟨0, _, fr, l, T, s, h, hT, fun _ _ => rfl⟩
theorem EvtL.ret (h : Q .ret fr l s) : EvtL E .ret fr l s Q := fun T hT => ⟨0, _, fr, l, T, s, h, hT, fun _ _ => rfl⟩

theorem EvtL.loop {b : Code} (h : EvtL E b fr l s (SeqL E (.loop b) Q)) : EvtL E (.loop b) fr l s Q := by
  intro T hT
  obtain ⟨N, ex, fr', l', T', s', hq, hT', hr⟩ := h T hT
  unfold SeqL at hq
  cases ex with
  | normal =>
    obtain ⟨M, ex2, fr2, l2, T2, s2, hq2, hT2, hr2⟩ := hq T' hT'
    refine ⟨max N (M + 1), ex2, fr2, l2, T2, s2, hq2, hT2, fun n hn => ?_⟩
    obtain ⟨m, rfl⟩ : ∃ m, n = m + 1 := ⟨n - 1, by omega⟩
    show (Out.then ((codeC E b).run (ev E (m + 1)) fr T s) (seqK (ev E (m + 1) (.loop b)))) = _
    rw [hr (m + 1) (by omega)]
    exact hr2 m (by omega)
  | _ =>
    refine ⟨N, _, fr', l', T', s', hq, hT', fun n hn => ?_⟩
    show (Out.then ((codeC E b).run (ev E n) fr T s) (seqK (ev E n (.loop b)))) = _
    rw [hr n hn]; rfl

theorem EvtL.mono {c : Code} {Q' : Ex → Fr → Sl → St → Prop} (h : EvtL E c fr l s Q) (hq : ∀ ex fr l s, Q ex fr l s → Q' ex fr l s) : EvtL E c fr l s Q' := fun T hT =>
  let ⟨N, ex, fr', l', T', s', h1, h2, h3⟩ := h T hT; ⟨N, ex, fr', l', T', s', hq _ _ _ _ h1, h2, h3⟩

/-! ### Operations -/

/-- An operation that looks at no block and leaves the heap alone. -/
def OpQ (E : Env) (o : Oper) (l : Sl) (v : AV) : Prop :=
  quietSo (opC E o.type o.op) = true ∧ ∀ T, Has l T → touchOf (opC E o.type o.op) T = .nothing ∧ ∀ (ev : Ev) (fr : Fr) (s : St) (k : KCl), (stepC E (opC E o.type o.op) k).run ev fr T s = k.run ev fr T v s

theorem OpL.q {v : AV} (h : OpQ E o l v) : OpL E o fr l s v s := fun T hT => ⟨0, fun n _ k => (h.2 T hT).2 (ev E n) fr s k⟩

theorem OpQ.pure {f : Tr AV → Option AV} {v : AV} (hop : opC E o.type o.op = .pure f) (hv : ∀ T, Has l T → f T = some v) : OpQ E o l v := by
  refine ⟨by rw [hop]; rfl, fun T hT => ⟨by rw [hop]; rfl, fun ev fr s k => ?_⟩⟩
  rw [hop]
  show valOut (fun v => k.run ev fr T v s) (f T) = _
  rw [hv T hT]; rfl

theorem OpQ.read {x : Tr AV → Option AV} {f : Tr AV → St → Option AV} {v : AV} (hop : opC E o.type o.op = .read x f) (hx : ∀ T, Has l T → blockOf (x T) = none) (hv : ∀ T s, Has l T → f T s = some v) : OpQ E o l v := by
  refine ⟨by rw [hop]; rfl, fun T hT => ⟨by rw [hop]; show touchB (blockOf (x T)) = _; rw [hx T hT]; rfl, fun ev fr s k => ?_⟩⟩
  rw [hop]
  show valOut (fun v => k.run ev fr T v s) (f T s) = _
  rw [hv T s hT]; rfl

theorem OpQ.move {x : Operand} {v : AV} (ho : o.op = .move x) (hx : opndL x l = some v) : OpQ E o l v := OpQ.pure (f := opnd E x) (by rw [ho]; rfl) fun _ hT => opndL_ok hT hx
theorem OpQ.assign {x : Operand} {v : AV} (ho : o.op = .assign x) (hx : opndL x l = some v) : OpQ E o l v := OpQ.pure (f := opnd E x) (by rw [ho]; rfl) fun _ hT => opndL_ok hT hx
theorem OpQ.pickT {c x y : Operand} {v : AV} {b : Bool} (ho : o.op = .pick c x y) (hc : opndL c l = some (.bool b)) (hb : b = true) (hx : opndL x l = some v) : OpQ E o l v :=
  OpQ.pure (f := fun T => (opnd E c T).bind (pickV (opnd E x) (opnd E y) T)) (by rw [ho]; rfl) fun _ hT => by subst hb; simp only [opndL_ok hT hc, Option.bind_some, pickV, cond_true, opndL_ok hT hx]
theorem OpQ.pickF {c x y : Operand} {v : AV} {b : Bool} (ho : o.op = .pick c x y) (hc : opndL c l = some (.bool b)) (hb : b = false) (hy : opndL y l = some v) : OpQ E o l v :=
  OpQ.pure (f := fun T => (opnd E c T).bind (pickV (opnd E x) (opnd E y) T)) (by rw [ho]; rfl) fun _ hT => by subst hb; simp only [opndL_ok hT hc, Option.bind_some, pickV, cond_false, opndL_ok hT hy]
theorem OpQ.not {t : TypeId} {x : Operand} {b : Bool} (ho : o.op = .unOp .not t x) (hx : opndL x l = some (.bool b)) : OpQ E o l (.bool (!b)) :=
  OpQ.pure (f := fun T => (opnd E x T).bind (unV .not)) (by rw [ho]; rfl) fun _ hT => by simp only [opndL_ok hT hx, Option.bind_some, unV]
/-- Two integers of one kind: a test, or whatever 'f' says. -/
theorem OpQ.int2 {op : BinOp} {t yt : TypeId} {x y : Operand} {k : IntKind} {a b : Int} {v : AV} {f : IntKind → Int → Int → Option AV} (ho : o.op = .binOp op t x y yt) (hu : und E t = some (.int k)) (hf : intF op = some f)
    (hx : opndL x l = some (.int k a)) (hy : opndL y l = some (.int k b)) (hv : f k a b = some v) : OpQ E o l v :=
  OpQ.pure (f := fun T => (opnd E x T).bind fun a => (opnd E y T).bind fun b => Am.int2 f a b) (by rw [ho]; exact binC_int hu hf) fun _ hT => by simp only [opndL_ok hT hx, opndL_ok hT hy, Option.bind_some, Am.int2, if_true, hv]
theorem OpQ.add {t yt : TypeId} {x y : Operand} {a b : Int} (ho : o.op = .binOp .add t x y yt) (hu : und E t = some (.int .i64)) (hx : opndL x l = some (.int .i64 a)) (hy : opndL y l = some (.int .i64 b))
    (h : -9223372036854775808 ≤ a + b ∧ a + b < 9223372036854775808) : OpQ E o l (.int .i64 (a + b)) := OpQ.int2 ho hu rfl hx hy (by rw [wrapI_in h.1 h.2])
/-- Two numbers that are no less than 0. -/
theorem OpQ.addN {t yt : TypeId} {x y : Operand} {a b : Nat} (ho : o.op = .binOp .add t x y yt) (hu : und E t = some (.int .i64)) (hx : opndL x l = some (.int .i64 (a : Nat))) (hy : opndL y l = some (.int .i64 (b : Nat)))
    (h : a + b < 9223372036854775808) : OpQ E o l (.int .i64 ((a + b : Nat) : Int)) := OpQ.add ho hu hx hy (by omega)
theorem OpQ.lenSl {c : Call} {t e : TypeId} {ts : List TypeId} {x : Operand} {cs : List AV} {n sz : Nat} {cl : Bool} (ho : o.op = .call c) (hc : c.callee = .builtin .len) (ht : c.argTypes.toList = t :: ts) (ha : c.args.toList = [x]) (hu : und E t = some (.slice e))
    (hx : opndL x l = some (.islice cs n sz cl)) : OpQ E o l (.int .i64 (n : Nat)) :=
  OpQ.pure (f := fun T => (opnd E x T).bind Am.lenSl) (by
    rw [ho]
    show callC E o.type c = _
    unfold callC
    rw [hc]
    simp only
    rw [ht, ha]
    show lenC E t x = _
    unfold lenC
    rw [hu]) fun _ hT => by simp only [opndL_ok hT hx, Option.bind_some, Am.lenSl]
noncomputable def opndOL : Option Operand → Sl → Option (Option AV)
  | none, _ => some none
  | some x, l => (opndL x l).bind fun v => some (some v)

theorem opndOL_ok {T : Tr AV} (hT : Has l T) {x : Option Operand} {v : Option AV} (h : opndOL x l = some v) : opndOC E x T = some v := by
  cases x with
  | none => exact h
  | some x =>
    obtain ⟨u, hu, h2⟩ := Option.bind_eq_some_iff.1 h
    cases h2
    exact opndO_some (opndL_ok hT hu)

theorem OpQ.extract {x : Operand} {i : Nat} {vs : List AV} {v : AV} (ho : o.op = .extract x i) (hx : opndL x l = some (.tuple vs)) (hv : nth vs i = some v) : OpQ E o l v :=
  OpQ.pure (f := fun T => (opnd E x T).bind (extractV i)) (by rw [ho]; rfl) fun _ hT => by simp only [opndL_ok hT hx, Option.bind_some, extractV, hv]

/-- A call that is known, or carried out beside any heap. -/
theorem OpL.callFn {c : Call} {f : FuncId} {args : List AV} {v : AV} (ho : o.op = .call c) (hc : c.callee = .value (.func f)) (hb : hasBody E f = true) (ha : opndsL c.args.toList l = some args) (h : CallTo E f args s v) : OpL E o fr l s v s :=
  fun _ hT => OpTo.callFn ho hc hb (opndsL_ok hT ha) h
theorem OpL.callVal {c : Call} {t : Nat} {f : FuncId} {first captured args : List AV} {v : AV} (ho : o.op = .call c) (hc : c.callee = .value (.tmp t)) (hf : look t l = some (.func (.func f) first captured)) (hb : hasBody E f = true)
    (ha : opndsL c.args.toList l = some args) (h : CallTo E f (first ++ args ++ captured) s v) : OpL E o fr l s v s := fun _ hT => OpTo.callVal ho hc (hT t _ hf) hb (opndsL_ok hT ha) h

/-- A guard's two cases. -/
theorem RegL.both {KP : AV → Sl → St → Prop} {K : Sl → St → Prop} {j e : Nat} {w b : Bool} {oj : Oper} (_hg : o.guard = some (j, w)) (_hj : nth all j = some oj) (_he : oj.dst = some e) (_hl : look e l = some (.bool b))
    (h1 : b = true → RegL E KP all (o :: rest) fr l s K) (h0 : b = false → RegL E KP all (o :: rest) fr l s K) : RegL E KP all (o :: rest) fr l s K := by
  cases hb : b with
  | true => exact h1 hb
  | false => exact h0 hb

/-- A loop with an invariant: 'I a': what is known, and the heap, at the beginning of a round. -/
theorem EvtL.loopI {α : Type} {b : Code} (I : α → Sl × St) (μ : α → Nat) (G : α → Prop) (a0 : α) (hG : G a0) (hs : s = (I a0).2) (hl : ∀ p ∈ (I a0).1, look p.1 l = some p.2)
    (step : ∀ a, G a → EvtL E b fr (I a).1 (I a).2 fun ex fr' l' s' => match ex with
      | .normal => ∃ a', G a' ∧ μ a' < μ a ∧ fr' = fr ∧ s' = (I a').2 ∧ ∀ p ∈ (I a').1, look p.1 l' = some p.2
      | ex => Q ex fr' l' s') : EvtL E (.loop b) fr l s Q := by
  have key : ∀ m a, μ a ≤ m → G a → ∀ l', (∀ p ∈ (I a).1, look p.1 l' = some p.2) → EvtL E (.loop b) fr l' (I a).2 Q := by
    intro m
    induction m with
    | zero =>
      intro a hm hg l' hl'
      refine EvtL.sub (EvtL.loop (EvtL.mono (step a hg) fun ex fr2 l2 s2 h => ?_)) hl'
      cases ex with
      | normal => obtain ⟨a', _, hlt, _⟩ := h; omega
      | _ => exact h
    | succ m ih =>
      intro a hm hg l' hl'
      refine EvtL.sub (EvtL.loop (EvtL.mono (step a hg) fun ex fr2 l2 s2 h => ?_)) hl'
      cases ex with
      | normal =>
        obtain ⟨a', hg', hlt, rfl, rfl, hl2⟩ := h
        exact ih a' (by omega) hg' l2 hl2
      | _ => exact h
  subst hs
  exact key _ a0 (Nat.le_refl _) hG l hl

/-- The commonest step: a quiet operation without a guard. -/
theorem RegL.q {KP : AV → Sl → St → Prop} {K : Sl → St → Prop} {v : AV} {d : Nat} (ho : OpQ E o l v) (hg : o.guard = none) (hd : o.dst = some d) (hlt : Nat.blt d fr.nt = true) (h : RegL E KP all rest fr ((d, v) :: l) s K) : RegL E KP all (o :: rest) fr l s K :=
  RegL.op (OpL.q ho) hg hd hlt h

/-! ### Calls -/

/-- The arguments in their slots. -/
def argsL : Nat → List AV → Sl → Sl
  | _, [], l => l
  | i, v :: vs, l => argsL (i + 1) vs ((i, v) :: l)

theorem argsL_has : ∀ (vs : List AV) (i : Nat) {l : Sl} {T : Tr AV}, Has l T → Has (argsL i vs l) (putArgs i vs T)
  | [], _, _, _, h => h
  | v :: vs, i, _, _, h => argsL_has vs (i + 1) (h.put i v)

/-- The ends of loops over functions, when a call ends. -/
noncomputable def unwinds : List ADef → St → Option St
  | [], s => some s
  | d :: ds, s => match d.target with
    | .collected r => match s.heap.get r with
      | some (.defs true) => unwinds ds (s.put r (some (.defs false)))
      | _ => none
    | _ => none

theorem unwinds_ok {ev : Ev} : ∀ {ds : List ADef} {s s' : St}, unwinds ds s = some s' → unwind E ev ds none s = some (none, s')
  | [], s, s', h => by cases h; rfl
  | d :: ds, s, s', h => by
    obtain ⟨t, as⟩ := d
    unfold unwinds at h
    cases t with
    | fn f c => cases h
    | collected r =>
      simp only at h
      split at h
      · next hg =>
        unfold unwind unwind1
        simp only [hg, Option.bind_some]
        exact unwinds_ok h
      · cases h

/-- The results of a call. -/
noncomputable def resultsL (E : Env) (s : St) (l : Sl) : List ResultVar → Option (List AV)
  | [] => some []
  | .tmp t :: rs => (look t l).bind fun v => (resultsL E s l rs).bind fun r => some (v :: r)
  | .cell a t :: rs => (look a l).bind fun p => (loadC E t s p).bind fun v => (resultsL E s l rs).bind fun r => some (v :: r)

theorem resultsL_ok {T : Tr AV} (hT : Has l T) : ∀ {rs : List ResultVar} {vs : List AV}, resultsL E s l rs = some vs → resultsA E s T rs = some vs
  | [], vs, h => h
  | .tmp t :: rs, vs, h => by
    obtain ⟨v, hv, h⟩ := Option.bind_eq_some_iff.1 h
    obtain ⟨r, hr, h⟩ := Option.bind_eq_some_iff.1 h
    cases h
    simp only [resultsA, hT t v hv, resultsL_ok hT hr, Option.bind_some]
  | .cell a t :: rs, vs, h => by
    obtain ⟨p, hp, h⟩ := Option.bind_eq_some_iff.1 h
    obtain ⟨v, hv, h⟩ := Option.bind_eq_some_iff.1 h
    obtain ⟨r, hr, h⟩ := Option.bind_eq_some_iff.1 h
    cases h
    simp only [resultsA, hT a p hp, hv, resultsL_ok hT hr, Option.bind_some]

/-- How a body ends, if its call is to hand back just a value. -/
def EndL (E : Env) (f : FuncId) (rs : List ResultVar) (s : St) (v : AV) (ex : Ex) (fr : Fr) (l : Sl) (st : St) : Prop :=
  (ex = .ret ∨ ex = .normal) ∧ ∃ st', unwinds fr.defers st = some st' ∧ ∃ vs, resultsL E st' l rs = some vs ∧ leave E f s (oneA vs) st' = some (.same v)

/-- A call, by its body. -/
theorem CallTo.gen {f : FuncId} {fn : Func} {c : Code} {args : List AV} {v : AV} {rs : List ResultVar} {fr : Fr} {l0 : Sl} (hm : E.memo f args = none) (hf : E.fns.get f = some fn) (hc : fn.body = some c) (hr : fn.results.toList = rs)
    (hfr : frame fn.ntmps args none = fr) (hl : argsL 0 args [] = l0) (h : EvtL E c fr l0 s.enter (EndL E f rs s v)) : CallTo E f args s v := by
  subst hfr hl hr
  obtain ⟨N, ex, fr', l', T', s', ⟨hex, st', hu, vs, hvs, hlv⟩, hT', hr'⟩ := h _ (argsL_has args 0 (Has.nil .nil))
  refine ⟨N + 1, fun n hn => ?_⟩
  obtain ⟨m, rfl⟩ : ∃ m, n = m + 1 := ⟨n - 1, by omega⟩
  unfold callF
  rw [hm]
  simp only [hf, hc, Option.bind_some]
  rw [ev_succ, hr' m (by omega)]
  show endF E (ev E (m + 1)) f fn s ⟨ex, fr', T', s'⟩ = _
  unfold endF
  have hmo : modeOf ex = some none := by rcases hex with h | h <;> rw [h] <;> rfl
  simp only [hmo, Option.bind_some, unwinds_ok hu, endWith, resultsL_ok hT' hvs, hlv]

end
end Am

/- The abstract machine: operations that make, read and write blocks, by rules. -/
namespace Am
open Go

section
variable {E : Env} {fr : Fr} {l : Sl} {s : St} {o : Oper}

theorem OpL.alloc {t : TypeId} {z : AV} (ho : o.op = .alloc t) (hz : zeroOf E t = some z) : OpL E o fr l s (.ptr s.next 0) (s.alloc (.cells z.cells t false)) := fun T hT =>
  OpTo.make (f := fun _ => some (.obj (.cells z.cells t false) fun b => .ptr b 0)) (by
    rw [ho]
    show allocC E t = _
    unfold allocC
    rw [hz]
    simp only [zero_noTuple hz, cond_false]) rfl

theorem OpL.box {t : TypeId} {x : Operand} {v : AV} (ho : o.op = .box t x) (hx : opndL x l = some v) (hv : v.isTuple = false) : OpL E o fr l s (.ptr s.next 0) (s.alloc (.cells v.cells t false)) := fun T hT =>
  OpTo.make (f := fun T => (opnd E x T).bind fun v => bif v.isTuple then none else some (.obj (.cells v.cells t false) fun b => .ptr b 0)) (g := fun b => .ptr b 0) (by rw [ho]; rfl) (by
    simp only [opndL_ok hT hx, Option.bind_some, hv, cond_false])

/-- What is written into a block. -/
theorem storeN_at {n b off : Nat} {v : AV} {cs cs' : List AV} {e : TypeId} {part : Bool} (hg : s.heap.get b = some (.cells cs e part)) (hl : v.cells.length = n) (ht : v.isTuple = false) (ho : over v.cells off cs = some cs') :
    storeN n s v (.ptr b off) = some (s.put b (some (.cells cs' e part))) := by
  have h1 : Nat.beq (len' v.cells) n = true := by rw [len'_eq, hl]; exact Nat.beq_refl n
  simp only [storeN, h1, ht, Bool.not_false, Bool.and_true, cond_true, writeAt, hg, writeIn, ho, putCells]

theorem OpL.store {t : TypeId} {a x : Operand} {n : Nat} {p v : AV} {s' : St} (ho : o.op = .store t a x) (hn : sizeOf E t = some n) (ha : opndL a l = some p) (hx : opndL x l = some v) (hs : storeN n s v p = some s') : OpL E o fr l s (.tuple []) s' := fun T hT =>
  OpTo.act (b := true) (x := opnd E a) (f := fun T s => (opnd E a T).bind fun p => (opnd E x T).bind fun v => withU (storeN n s v p)) (by
    rw [ho]
    show storeC E t a x = _
    unfold storeC
    rw [hn]) (by simp only [opndL_ok hT ha, opndL_ok hT hx, Option.bind_some, hs, withU])

/-- A cell of a block. -/
theorem loadOne_at {t : TypeId} {n b off : Nat} {v : AV} {cs : List AV} {e : TypeId} {part : Bool} (h1 : isAgg E t = some false) (h2 : sizeOf E t = some n) (hg : s.heap.get b = some (.cells cs e part)) (hv : cs[off]? = some v) :
    loadC E t s (.ptr b off) = some v := by
  have hlt : off < cs.length := by
    rcases Nat.lt_or_ge off cs.length with h | h
    · exact h
    · rw [List.getElem?_eq_none h] at hv; cases hv
  have hc := cut_eq (l := cs) (a := off) (n := 1) (by omega)
  unfold cut at hc
  unfold loadC
  rw [h1, h2]
  simp only [loadOne, readAt, hg, cellsOf?, Option.bind_some]
  rw [hc]
  have : (cs.drop off).take 1 = [v] := by
    rw [List.drop_eq_getElem_cons hlt]
    rw [List.getElem?_eq_getElem hlt] at hv
    cases hv; rfl
  rw [this]; rfl

theorem loadAgg_at {t : TypeId} {n b off : Nat} {cs : List AV} {e : TypeId} {part : Bool} (h1 : isAgg E t = some true) (h2 : sizeOf E t = some n) (hg : s.heap.get b = some (.cells cs e part)) (hn : off + n ≤ cs.length) :
    loadC E t s (.ptr b off) = some (.agg ((cs.drop off).take n)) := by
  have hc := cut_eq (l := cs) (a := off) (n := n) hn
  unfold cut at hc
  unfold loadC
  rw [h1, h2]
  simp only [loadAgg, readAt, hg, cellsOf?, Option.bind_some]
  rw [hc]; rfl

theorem OpL.load {t : TypeId} {a : Operand} {p v : AV} (ho : o.op = .load t a) (ha : opndL a l = some p) (hv : loadC E t s p = some v) : OpL E o fr l s v s := fun T hT =>
  OpTo.read (x := opnd E a) (f := fun T s => (opnd E a T).bind (loadC E t s)) (by rw [ho]; rfl) (by simp only [opndL_ok hT ha, Option.bind_some, hv])

/-- A struct, or an array, that is never written again is read. -/
theorem OpQ.loadI {t : TypeId} {a : Operand} {n : Nat} {cs : List AV} (ho : o.op = .load t a) (ha : opndL a l = some (.iptr cs)) (h1 : isAgg E t = some true) (h2 : sizeOf E t = some n) (hn : n ≤ cs.length) : OpQ E o l (.agg (cs.take n)) :=
  OpQ.read (x := opnd E a) (f := fun T s => (opnd E a T).bind (loadC E t s)) (by rw [ho]; rfl) (fun T hT => by rw [opndL_ok hT ha]; rfl) fun T s hT => by
    have hc := cut_eq (l := cs) (a := 0) (n := n) (by omega)
    unfold cut at hc
    have h0 : dropN 0 cs = some cs := rfl
    rw [h0] at hc
    simp only [opndL_ok hT ha, Option.bind_some]
    unfold loadC
    rw [h1, h2]
    simp only [loadAgg, readAt]
    simp only [Option.bind_some] at hc
    rw [hc]; rfl

theorem OpQ.loadI1 {t : TypeId} {a : Operand} {n : Nat} {v : AV} {cs : List AV} (ho : o.op = .load t a) (ha : opndL a l = some (.iptr (v :: cs))) (h1 : isAgg E t = some false) (h2 : sizeOf E t = some n) : OpQ E o l v :=
  OpQ.read (x := opnd E a) (f := fun T s => (opnd E a T).bind (loadC E t s)) (by rw [ho]; rfl) (fun T hT => by rw [opndL_ok hT ha]; rfl) fun T s hT => by
    simp only [opndL_ok hT ha, Option.bind_some]
    unfold loadC
    rw [h1, h2]
    rfl

theorem OpQ.fieldAddr {t : TypeId} {x : Operand} {i off n : Nat} {agg : Bool} {b k : Nat} (ho : o.op = .fieldAddr t x i) (hf : fieldOf E t i = some (off, n + 1, agg)) (hx : opndL x l = some (.ptr b k)) : OpQ E o l (.ptr b (k + off)) :=
  OpQ.pure (f := fun T => (opnd E x T).bind (addrAdd off)) (by
    rw [ho]
    show fieldAddrC E t x i = _
    unfold fieldAddrC
    rw [hf]) fun T hT => by simp only [opndL_ok hT hx, Option.bind_some, addrAdd]

noncomputable def partsL : List (Nat × Operand) → Sl → Option (List (Nat × AV))
  | [], _ => some []
  | p :: ps, l => (opndL p.2 l).bind fun v => (partsL ps l).bind fun r => some ((p.1, v) :: r)

theorem partsL_ok {T : Tr AV} (hT : Has l T) : ∀ {ps : List (Nat × Operand)} {r : List (Nat × AV)}, partsL ps l = some r → partsC E ps T = some r
  | [], r, h => h
  | p :: ps, r, h => by
    obtain ⟨v, hv, h⟩ := Option.bind_eq_some_iff.1 h
    obtain ⟨q, hq, h⟩ := Option.bind_eq_some_iff.1 h
    cases h
    simp only [partsC, opndL_ok hT hv, partsL_ok hT hq, Option.bind_some]

/-- A struct is built. -/
theorem OpQ.build {t : TypeId} {parts : Array (Nat × Operand)} {pl : List AV × (Nat → Option (Nat × Nat))} {ps : List (Nat × AV)} {cs : List AV} (ho : o.op = .build t parts) (hp : buildPlan E t = some pl) (hq : partsL parts.toList l = some ps)
    (hf : fillA pl.2 ps pl.1 = some cs) : OpQ E o l (.agg cs) :=
  OpQ.pure (f := fun T => (partsC E parts.toList T).bind fun ps => aggO (fillA pl.2 ps pl.1)) (by
    rw [ho]
    show buildC E t parts.toList = _
    unfold buildC
    rw [hp]) fun T hT => by simp only [partsL_ok hT hq, Option.bind_some, hf, aggO]

noncomputable def opndsL2 (xs : List Operand) (l : Sl) : Option (List AV) := opndsL xs l

/-- append, to whatever slice: 'new' are n elements. -/
theorem OpL.append {c : Call} {t e : TypeId} {ts : List TypeId} {x y : Operand} {sz by_ n : Nat} {z a b v : AV} {new : List AV} {s' : St} (ho : o.op = .call c) (hc : c.callee = .builtin .append) (ht : c.argTypes.toList = t :: ts) (ha : c.args.toList = [x, y])
    (hu : und E t = some (.slice e)) (hsz : sizeOf E e = some sz) (hby : bytesOf E e = some by_) (hz : zeroOf E e = some z) (hk : (!(Nat.beq (len' z.cells) sz) || Nat.beq sz 0 || !(knownT E ts.head?)) = false) (h0 : isZeros E ts.head? = false)
    (hx : opndL x l = some a) (hy : opndL y l = some b) (hn : appendedV s sz b = some (new, n)) (hr : appendTo s e sz by_ new n a = some (v, s')) : OpL E o fr l s v s' := fun T hT =>
  OpTo.act (b := false) (x := opnd E x) (f := fun T s => (opnd E x T).bind fun a => (opnd E y T).bind fun b => (appendedV s sz b).bind fun p => appendTo s e sz by_ p.1 p.2 a) (by
    rw [ho]
    show callC E o.type c = _
    unfold callC
    rw [hc]
    simp only
    rw [ht, ha]
    show appendC E t ts.head? x y = _
    unfold appendC
    rw [hu]
    simp only [hsz, hby, hz, hk, h0, cond_false]) (by simp only [opndL_ok hT hx, opndL_ok hT hy, Option.bind_some, hn, hr])
end
end Am

/- The abstract machine: regions that draw their order, by rules. -/
namespace Am
open Go

/-- What is known of some slots. -/
def restr (ts : List Nat) (l : Sl) : Sl := match ts with
  | [] => []
  | t :: ts => match look t l with
    | some v => (t, v) :: restr ts l
    | none => restr ts l

theorem look_restr {l : Sl} {k : Nat} {v : AV} : ∀ {ts : List Nat}, look k (restr ts l) = some v → k ∈ ts ∧ look k l = some v
  | [], h => by cases h
  | t :: ts, h => by
    unfold restr at h
    cases hl : look t l with
    | none =>
      rw [hl] at h
      have := look_restr (ts := ts) h
      exact ⟨List.mem_cons_of_mem _ this.1, this.2⟩
    | some u =>
      rw [hl] at h
      simp only [look] at h
      cases hb : Nat.beq k t with
      | true =>
        rw [hb] at h
        have := Nat.eq_of_beq_eq_true hb
        subst this
        simp only [cond_true] at h
        exact ⟨List.mem_cons_self .., by rw [hl]; exact h⟩
      | false =>
        rw [hb] at h
        have := look_restr (ts := ts) h
        exact ⟨List.mem_cons_of_mem _ this.1, this.2⟩

theorem Has.restr {l : Sl} {T : Tr AV} (h : Has l T) (ts : List Nat) : Has (restr ts l) (pickT T ts .nil) := by
  intro k v hk
  obtain ⟨h1, h2⟩ := look_restr hk
  rw [pickT_get, if_pos h1]
  exact h k v h2

section
variable (E : Env)

/-- Operations of a region that draws its order; 'js': those that may have looked at something; 'nw': nothing was made or written so far. -/
def RegD (all rest : List Oper) (i : Nat) (fr : Fr) (l : Sl) (st : St) (js : List Nat) (nw : Bool) (K : Sl → St → Prop) : Prop :=
  ∀ (T : Tr AV) (news : News) (looked : Looked), Has l T → (nw = true → news = []) → (∀ p ∈ looked, p.1 ∈ js ∨ p.2.1 = .nothing) →
    ∃ N l' q', K l' q'.st ∧ Has l' q'.T ∧ ∀ n, N ≤ n → drawAll E all (ev E n) fr (planD E (befores all) rest i) ⟨T, st, news, looked⟩ = some q'

/-- An operation that leaves the heap alone, whatever it is. -/
def OpA (o : Oper) (fr : Fr) (l : Sl) (v : AV) : Prop :=
  quietSo (opC E o.type o.op) = true ∧ ∀ T, Has l T → ∃ N, ∀ n, N ≤ n → ∀ (s : St) (k : KCl), (stepC E (opC E o.type o.op) k).run (ev E n) fr T s = k.run (ev E n) fr T v s
end

section
variable {E : Env} {fr : Fr} {l : Sl} {st : St} {o : Oper} {all rest : List Oper} {i : Nat} {js : List Nat} {nw : Bool} {K : Sl → St → Prop}

theorem OpA.callFn {c : Call} {f : FuncId} {args : List AV} {v : AV} (ho : o.op = .call c) (hc : c.callee = .value (.func f)) (hb : hasBody E f = true) (ha : opndsL c.args.toList l = some args) (hm : E.memo f args = some v) : OpA E o fr l v := by
  have hop : opC E o.type o.op = .call (fun T _ => (opndsC E c.args.toList T).bind fun args => some (f, args)) := by
    rw [ho]
    show callC E o.type c = _
    unfold callC
    rw [hc]
    simp only [hb, cond_true]
  refine ⟨by rw [hop]; rfl, fun T hT => ⟨0, fun n _ s k => ?_⟩⟩
  rw [hop]
  show crOut fr T s (k.run (ev E n) fr T) (((opndsC E c.args.toList T).bind fun args => some (f, args)).bind fun p => callF E (ev E n) p.1 p.2 s) = _
  rw [opndsL_ok hT ha]
  simp only [Option.bind_some]
  unfold callF
  rw [hm]; rfl

theorem ble_self (n : Nat) : Nat.ble n n = true := Nat.ble_eq_true_of_le (Nat.le_refl n)

/-- The heap of a region behind an operation that has written, or made, something. -/
noncomputable def St.merged (st s2 : St) : St :=
  { next := s2.next, bound := st.bound, log := below st.bound s2.log st.log, heap := copyAll s2.heap (newL st.next (s2.next - st.next)) (copyAll s2.heap s2.log st.heap) }

variable {Q : Ex → Fr → Sl → St → Prop}

end
end Am

/- The abstract machine: loops over functions, by rules. -/
namespace Am
open Go

section
variable (E : Env)

/-- A call comes to an end; 'R': what is to be so behind it: of its value, and of its caller's heap. -/
def RunsV (f : FuncId) (args : List AV) (s : St) (R : AV → St → Prop) : Prop :=
  ∃ N cr, (∀ n, N ≤ n → callF E (ev E n) f args s = some cr) ∧ match cr with
    | .same v => R v s
    | .val v s' => R v s'
    | .pan _ _ => False
end

section
variable {E : Env} {fr : Fr} {l : Sl} {s : St} {o : Oper} {all rest : List Oper} {K : Sl → St → Prop} {Q : Ex → Fr → Sl → St → Prop}

/-- An operation whose outcome hangs on the slots. -/
theorem RegL.opK {KP : AV → Sl → St → Prop} {d : Nat} (h : ∀ T, Has l T → ∃ v s', OpTo E o fr T s v s' ∧ RegL E KP all rest fr ((d, v) :: l) s' K) (hg : o.guard = none) (hd : o.dst = some d) (hlt : Nat.blt d fr.nt = true) : RegL E KP all (o :: rest) fr l s K := by
  intro T hT
  obtain ⟨v, s', ⟨N, ho⟩, h⟩ := h T hT
  obtain ⟨M, ex, l', T', s2, hk, hT', hr⟩ := h _ (hT.put d v)
  refine ⟨max N M, ex, l', T', s2, hk, hT', fun n hn => ?_⟩
  show (oneC E all o (thenK o.dst (runC E all rest))).run (ev E n) fr T s = _
  unfold oneC guarded
  rw [hg]
  simp only
  rw [ho n (by omega), thenK_run _ _ (by rw [hd]; exact hlt), hd]
  exact hr n (by omega)

/-- A call whose caller's heap may be another one behind it. -/
theorem RegL.callFn {KP : AV → Sl → St → Prop} {c : Call} {f : FuncId} {args : List AV} {d : Nat} (ho : o.op = .call c) (hc : c.callee = .value (.func f)) (hb : hasBody E f = true) (ha : opndsL c.args.toList l = some args) (hg : o.guard = none) (hd : o.dst = some d)
    (hlt : Nat.blt d fr.nt = true) (h : RunsV E f args s fun v s' => RegL E KP all rest fr ((d, v) :: l) s' K) : RegL E KP all (o :: rest) fr l s K := by
  obtain ⟨N, cr, hN, h⟩ := h
  have hop : opC E o.type o.op = .call (fun T _ => (opndsC E c.args.toList T).bind fun args => some (f, args)) := by
    rw [ho]
    show callC E o.type c = _
    unfold callC
    rw [hc]
    simp only [hb, cond_true]
  have go : ∀ {v : AV} {s' : St}, (∀ (T : Tr AV) (k : AV → St → Out), crOut fr T s k (some cr) = k v s') → ∀ T, Has l T → OpTo E o fr T s v s' := by
    intro v s' hcr T hT
    refine ⟨N, fun n hn k => ?_⟩
    rw [hop]
    show crOut fr T s (k.run (ev E n) fr T) (((opndsC E c.args.toList T).bind fun args => some (f, args)).bind fun p => callF E (ev E n) p.1 p.2 s) = _
    rw [opndsL_ok hT ha]
    simp only [Option.bind_some]
    rw [hN n hn, hcr]
  refine RegL.opK (fun T hT => ?_) hg hd hlt
  cases cr with
  | same v => exact ⟨v, s, go (fun _ _ => rfl) T hT, h⟩
  | val v s' => exact ⟨v, s', go (fun _ _ => rfl) T hT, h⟩
  | pan v s' => exact h.elim

/-- What comes behind a round of a loop over a function: 'k': with what the function is answered, and in which heap. -/
def RoundQ (b : Nat) (k : Bool → St → Prop) (ex : Ex) (s : St) (lp : ALoop) : Prop := match ex with
  | .normal => k true (s.put b (some (.loop { lp with state := .ready, pending := none })))
  | .ret => k false (s.put b (some (.loop { lp with state := .done, pending := some .ret })))
  | .exit id => k false (s.put b (some (.loop { lp with state := .done, pending := some (.exit id) })))
  | .panic _ => False

/-- The heap with which a loop over a function begins. -/
noncomputable def rangeSt (s : St) (nt : Nat) (T : Tr AV) (params : List Nat) (assign body : Code) : St :=
  (s.alloc (.defs true)).alloc (.loop { state := .ready, pending := none, fn := 0, nt, tmps := T, params, assign, body })

/-- What comes behind a loop over a function, whose object is number b. -/
def RangeQ (b : Nat) (Q : Ex → St → Prop) (s : St) : Prop := ∃ lp, s.heap.get b = some (.loop lp) ∧ lp.state ≠ .busy ∧
  match lp.pending with
  | none => Q .normal (s.put b (some (.loop { lp with state := .exhausted })))
  | some .ret => Q .ret (s.put b (some (.loop { lp with state := .exhausted })))
  | some (.exit id) => Q (.exit id) (s.put b (some (.loop { lp with state := .exhausted })))
  | some _ => False

end
end Am

/- The abstract machine: regions that draw their order: guarded operations, and operations that read a block. -/
namespace Am
open Go
section
variable {E : Env} {fr : Fr} {l : Sl} {st : St} {o : Oper} {all rest : List Oper} {i : Nat} {js : List Nat} {nw : Bool} {K : Sl → St → Prop}

/-- A guard lets an operation be done. -/
def GuardOn (all : List Oper) (l : Sl) (o : Oper) : Prop := o.guard = none ∨ ∃ g, o.guard = some g ∧ ∀ T, Has l T → wantedC all g T = some true

theorem guardOn_go {j e : Nat} {w b : Bool} {oj : Oper} (hg : o.guard = some (j, w)) (hj : nth all j = some oj) (he : oj.dst = some e) (hl : look e l = some (.bool b)) (hb : b = w) : GuardOn all l o :=
  .inr ⟨_, hg, fun T hT => by rw [wanted_go (g := (j, w)) hj he (hT e _ hl), hb]; cases w <;> rfl⟩

/-- The run of an operation for itself. -/
def Alone (E : Env) (o : Oper) (fr : Fr) (T : Tr AV) (v : AV) (s : St) : Prop := ∃ N, ∀ n, N ≤ n → (stepC E (opC E o.type o.op) K0).run (ev E n) fr T s = .one ⟨.normal, fr, oneT v, s⟩

theorem alone_of {v : AV} {s : St} {T : Tr AV} (h : ∃ N, ∀ n, N ≤ n → ∀ (k : KCl), (stepC E (opC E o.type o.op) k).run (ev E n) fr T s = k.run (ev E n) fr T v s) : Alone E o fr T v s := by
  obtain ⟨N, h⟩ := h
  exact ⟨N, fun n hn => by rw [h n hn K0]; rfl⟩

/-- The length of a slice of a block. -/
theorem OpQ.lenSlM {c : Call} {t e : TypeId} {ts : List TypeId} {x : Operand} {b off n sz : Nat} {cap : Option Nat} (ho : o.op = .call c) (hc : c.callee = .builtin .len) (ht : c.argTypes.toList = t :: ts) (ha : c.args.toList = [x]) (hu : und E t = some (.slice e))
    (hx : opndL x l = some (.slice b off n sz cap)) : OpQ E o l (.int .i64 (n : Nat)) :=
  OpQ.pure (f := fun T => (opnd E x T).bind Am.lenSl) (by
    rw [ho]
    show callC E o.type c = _
    unfold callC
    rw [hc]
    simp only
    rw [ht, ha]
    show lenC E t x = _
    unfold lenC
    rw [hu]) fun _ hT => by simp only [opndL_ok hT hx, Option.bind_some, Am.lenSl]

/-- The length of the empty slice. -/
theorem OpQ.lenNil {c : Call} {t e : TypeId} {ts : List TypeId} {x : Operand} (ho : o.op = .call c) (hc : c.callee = .builtin .len) (ht : c.argTypes.toList = t :: ts) (ha : c.args.toList = [x]) (hu : und E t = some (.slice e))
    (hx : opndL x l = some .nilslice) : OpQ E o l (.int .i64 (0 : Nat)) :=
  OpQ.pure (f := fun T => (opnd E x T).bind Am.lenSl) (by
    rw [ho]
    show callC E o.type c = _
    unfold callC
    rw [hc]
    simp only
    rw [ht, ha]
    show lenC E t x = _
    unfold lenC
    rw [hu]) fun _ hT => by simp only [opndL_ok hT hx, Option.bind_some, Am.lenSl]; rfl

/-- The address of an element of a slice of a block. -/
theorem OpQ.indexAddrM {t e : TypeId} {x i : Operand} {sz len k b off : Nat} {ik : IntKind} {cap : Option Nat} (ho : o.op = .indexAddr t x i) (hu : und E t = some (.slice e)) (hs : sizeOf E e = some (sz + 1)) (hx : opndL x l = some (.slice b off len (sz + 1) cap))
    (hi : opndL i l = some (.int ik (k : Nat))) (hk : k < len) : OpQ E o l (.ptr b (off + k * (sz + 1))) :=
  OpQ.pure (f := fun T => (opnd E i T).bind fun iv => (natOf iv).bind fun k => (opnd E x T).bind (idxSliceV (sz + 1) k)) (by
    rw [ho]
    show indexAddrC E t x i = _
    unfold indexAddrC
    rw [hu]
    simp only [hs]) fun T hT => by
    have h1 : natOf (.int ik (k : Nat)) = some k := rfl
    have h2 : Nat.blt k len = true := by simpa [Nat.blt_eq] using hk
    simp only [opndL_ok hT hx, opndL_ok hT hi, Option.bind_some, h1, idxSliceV, h2, cond_true]

end
end Am

/- The abstract machine: calls that hand back what bears no block. -/
namespace Am
open Go
section
variable {E : Env}

theorem leave_flat {f : FuncId} {v : AV} {s st : St} (hk : ∀ n w, frzV w n 40 v [] = some (v, [])) (hu : ∀ m, underV m 40 v = true) (hl : st.log = []) : leave E f s v st = some (.same v) := by
  have hf : frozen E f s v st = some (v, st) := by
    unfold frozen frozenFrom
    split
    · rfl
    · rw [hl]; simp only [hk, Option.bind_some, kill]
    · simp only [hk, Option.bind_some, kill]
  unfold leave
  rw [hf]
  simp only [Option.bind_some, leaveQ, hl, hu, cond_true]

theorem CallTo.flat {f : FuncId} {fn : Func} {c : Code} {args : List AV} {s : St} {v : AV} {rs : List ResultVar} {fr : Fr} {l0 : Sl} (hm : E.memo f args = none) (hf : E.fns.get f = some fn) (hc : fn.body = some c) (hr : fn.results.toList = rs)
    (hfr : frame fn.ntmps args none = fr) (hl : argsL 0 args [] = l0) (hk : ∀ n w, frzV w n 40 v [] = some (v, [])) (hu : ∀ m, underV m 40 v = true)
    (h : EvtL E c fr l0 s.enter fun ex fr l st => (ex = .ret ∨ ex = .normal) ∧ fr.defers = [] ∧ st.log = [] ∧ ∃ vs, resultsL E st l rs = some vs ∧ oneA vs = v) : CallTo E f args s v :=
  CallTo.gen hm hf hc hr hfr hl (h.mono fun ex fr l st ⟨hex, hd, hlog, vs, hvs, hv⟩ => ⟨hex, st, by rw [hd]; rfl, vs, hvs, by rw [hv]; exact leave_flat hk hu hlog⟩)

theorem res_tmp {s : St} {l : Sl} {t : Nat} {v : AV} {rs : List ResultVar} {vs : List AV} (hl : look t l = some v) (h : resultsL E s l rs = some vs) : resultsL E s l (.tmp t :: rs) = some (v :: vs) := by
  unfold resultsL
  rw [hl]
  simp only [Option.bind_some, h]

/-- How many first members are so. -/
def twA {α : Type} (p : α → Bool) (l : List α) : Nat := (l.takeWhile p).length
end
end Am

/- The abstract machine: regions that draw their order, where more than one operation makes or writes blocks, each behind those before. -/
namespace Am
open Go
section
variable (E : Env)
/-- As RegD; 'ms': the operations that may have made or written something. -/
def RegM (all rest : List Oper) (i : Nat) (fr : Fr) (l : Sl) (st : St) (js ms : List Nat) (K : Sl → St → Prop) : Prop :=
  ∀ (T : Tr AV) (news : News) (looked : Looked), Has l T → (∀ p ∈ news, p.1 ∈ ms) → (∀ p ∈ looked, p.1 ∈ js ∨ p.2.1 = .nothing) →
    ∃ N l' q', K l' q'.st ∧ Has l' q'.T ∧ ∀ n, N ≤ n → drawAll E all (ev E n) fr (planD E (befores all) rest i) ⟨T, st, news, looked⟩ = some q'
end
section
variable {E : Env} {fr : Fr} {l : Sl} {st : St} {o : Oper} {all rest : List Oper} {i : Nat} {js ms : List Nat} {K : Sl → St → Prop}

theorem hide_none {anc : Nat} : ∀ {news : News} {h : Tr AObj}, (∀ p ∈ news, Nat.testBit anc p.1 = true) → hideAll anc news h = h
  | [], _, _ => rfl
  | p :: news, h, hn => by
    unfold hideAll
    rw [hn p (List.mem_cons_self ..), cond_true]
    exact hide_none fun q hq => hn q (List.mem_cons_of_mem _ hq)
end
end Am

/- The abstract machine: a list that grows by append, and what becomes of it when it is handed back. -/
namespace Am
open Go
/-- A list that append has made: n elements, whose cells are these. -/
def Grown (s : St) (e : TypeId) (sz : Nat) (v : AV) (cs : List AV) (n : Nat) : Prop :=
  (v = .nilslice ∧ n = 0 ∧ cs = []) ∨ ∃ b, v = .slice b 0 n sz none ∧ b < s.next ∧ s.heap.get b = some (.cells cs e true) ∧ cs.length = n * sz ∧ n ≠ 0

theorem Grown.nil (s : St) (e : TypeId) (sz : Nat) : Grown s e sz .nilslice [] 0 := .inl ⟨rfl, rfl, rfl⟩

/-- Is a block this list's own? -/
def ownB (c : Nat) : AV → Bool
  | .slice b _ _ _ _ => Nat.beq b c
  | _ => false

theorem Grown.keep {s s' : St} {e : TypeId} {sz n : Nat} {v : AV} {cs : List AV} (h : Grown s e sz v cs n) (hn : s.next ≤ s'.next) (hh : ∀ c, ownB c v = true → s'.heap.get c = s.heap.get c) : Grown s' e sz v cs n := by
  rcases h with h | ⟨b, rfl, hb, hg, hl, h0⟩
  · exact .inl h
  · exact .inr ⟨b, rfl, by omega, by rw [hh b (Nat.beq_refl b), hg], hl, h0⟩

theorem takeN_all {α : Type} (l : List α) : takeN l.length l = some l := by
  have := takeN_append l []
  rwa [List.append_nil] at this

theorem Grown.append {s : St} {e : TypeId} {sz by_ n : Nat} {v : AV} {cs new : List AV} (h : Grown s e sz v cs n) (hnew : new.length = sz) (hsz : 0 < sz) (hs1 : small 1 by_ = true) (hsm : small (n + 1) by_ = true) :
    ∃ v' s', appendTo s e sz by_ new 1 v = some (v', s') ∧ Grown s' e sz v' (cs ++ new) (n + 1) ∧ ownB s.next v' = true ∧ s'.next = s.next + 1 ∧ s'.bound = s.bound ∧ (∀ c ∈ s'.log, c ∈ s.log ∨ (c < s.bound ∧ ownB c v = true)) ∧
      ∀ c, c < s.next → ownB c v = false → s'.heap.get c = s.heap.get c := by
  rcases h with ⟨rfl, rfl, rfl⟩ | ⟨b, rfl, hb, hg, hl, h0⟩
  · refine ⟨.slice s.next 0 1 sz none, s.alloc (.cells new e true), ?_, .inr ⟨s.next, rfl, Nat.lt_succ_self _, ?_, by rw [List.nil_append, hnew]; omega, by omega⟩, Nat.beq_refl _, rfl, rfl, fun c hc => .inl hc, fun c hc _ => ?_⟩
    · simp only [appendTo, hs1, cond_true]
      rfl
    · show (s.heap.set s.next _).get s.next = _
      rw [get_set, if_pos rfl, List.nil_append]
    · show (s.heap.set s.next _).get c = _
      rw [get_set, if_neg (by omega)]
  · have hfit : fitsA sz n 1 none cs = false := by
      show Nat.ble ((n + 1) * sz) (len' cs) = false
      rw [len'_eq, hl]
      have : (n + 1) * sz = n * sz + sz := Nat.succ_mul ..
      cases hb : Nat.ble ((n + 1) * sz) (n * sz) with
      | false => rfl
      | true => have := Nat.le_of_ble_eq_true hb; omega
    refine ⟨.slice s.next 0 (n + 1) sz none, (s.put b none).alloc (.cells (cs ++ new) e true), ?_, .inr ⟨s.next, rfl, Nat.lt_succ_self _, ?_, by rw [List.length_append, hl, hnew, Nat.succ_mul], by omega⟩, Nat.beq_refl _, rfl, rfl, fun c hc => ?_, fun c hc ho => ?_⟩
    · unfold appendTo
      simp only [show Nat.beq 1 0 = false from rfl, cond_false, Nat.beq_refl, hsm, Bool.and_self, cond_true, hg, appendOb, appendIn]
      rw [show dropN 0 cs = some cs from rfl]
      simp only [Option.bind_some, hfit, cond_false, Bool.true_or, cond_true]
      rw [← hl, takeN_all]
      rfl
    · show ((s.heap.set b none).set s.next _).get s.next = _
      rw [get_set, if_pos rfl]
    · have hlog : c ∈ (bif Nat.blt b s.bound then logged b s.log else s.log) := hc
      cases hbb : Nat.blt b s.bound with
      | false => rw [hbb] at hlog; exact .inl hlog
      | true =>
        rw [hbb, cond_true] at hlog
        have hbl : b < s.bound := by simpa [Nat.blt_eq] using hbb
        have : c = b ∨ c ∈ s.log := by
          revert hlog
          cases s.log with
          | nil => intro h; exact .inl (by simpa [logged] using h)
          | cons d l =>
            intro h
            have h' : c ∈ (bif Nat.beq b d then d :: l else b :: d :: l) := h
            cases hd : Nat.beq b d with
            | true => rw [hd] at h'; exact .inr h'
            | false =>
              rw [hd] at h'
              rcases List.mem_cons.1 h' with h' | h'
              · exact .inl h'
              · exact .inr h'
        rcases this with rfl | h
        · exact .inr ⟨hbl, Nat.beq_refl _⟩
        · exact .inl h
    · show ((s.heap.set b none).set s.next _).get c = _
      have hcb : c ≠ b := fun h => by subst h; rw [show ownB c (.slice c 0 n sz none) = true from Nat.beq_refl c] at ho; cases ho
      rw [get_set, if_neg (by omega), get_set, if_neg hcb]

/-- What such a list is, once nobody writes it any more. -/
def outA (cs : List AV) (n sz : Nat) : AV := bif Nat.beq n 0 then .nilslice else .islice cs n sz true

theorem kill_log {s : St} : ∀ {ks : List Nat}, (∀ b ∈ ks, s.bound ≤ b) → (kill s ks).log = s.log
  | [], _ => rfl
  | b :: ks, h => by
    unfold kill
    have hb : Nat.blt b s.bound = false := by
      have := h b (List.mem_cons_self ..)
      cases hc : Nat.blt b s.bound with
      | false => rfl
      | true => have : b < s.bound := by simpa [Nat.blt_eq] using hc
                omega
    have : (s.put b none).log = s.log := by show (bif Nat.blt b s.bound then _ else _) = _; rw [hb]; rfl
    rw [kill_log (s := s.put b none) fun c hc => h c (List.mem_cons_of_mem _ hc), this]

end Am

/- The abstract machine: lists that grow within regions that draw their order. -/
namespace Am
open Go
section
variable {E : Env} {fr : Fr} {l : Sl} {st : St} {o : Oper} {all rest : List Oper} {i : Nat} {js ms : List Nat} {K : Sl → St → Prop}

end

theorem merged_get {st s2 : St} (hn : s2.next = st.next + 1) (c : Nat) : (st.merged s2).heap.get c = if c = st.next ∨ c ∈ s2.log then s2.heap.get c else st.heap.get c := by
  show (copyAll s2.heap (newL st.next (s2.next - st.next)) (copyAll s2.heap s2.log st.heap)).get c = _
  rw [hn, Nat.add_sub_cancel_left, show newL st.next 1 = [st.next] from rfl, copyAll_get, copyAll_get]
  by_cases h1 : c = st.next
  · rw [if_pos (by rw [h1]; exact List.mem_singleton.2 rfl), if_pos (.inl h1)]
  · rw [if_neg (by rw [List.mem_singleton]; exact h1)]
    by_cases h2 : c ∈ s2.log
    · rw [if_pos h2, if_pos (.inr h2)]
    · rw [if_neg h2, if_neg (fun h => h.elim h1 h2)]

end Am

/- The abstract machine: rounds of a loop over a function, apart from the function that asks for them. -/
namespace Am
open Go
section
variable (E : Env)
/-- A round of the loop whose object is number b comes to an end: 'P': with what the function is answered, and in which heap. -/
def Yields (b : Nat) (args : List AV) (s : St) (P : Bool → St → Prop) : Prop :=
  ∃ lp TA lA, s.heap.get b = some (.loop lp) ∧ putParams lp.nt lp.params args lp.tmps = some TA ∧ Has lA TA ∧
    EvtL E lp.assign { nt := lp.nt, defers := [], pan := none, round := some b } lA s fun ex fr1 l1 s1 => ex = .normal ∧ ∃ lp1, s1.heap.get b = some (.loop lp1) ∧ lp1.state = .ready ∧
      EvtL E lp.body fr1 l1 (s1.put b (some (.loop { lp1 with state := .busy }))) fun ex2 fr2 _ s2 => fr2.defers = [] ∧ ∃ lp2, s2.heap.get b = some (.loop lp2) ∧ RoundQ b P ex2 s2 lp2
end
section
variable {E : Env} {fr : Fr} {l : Sl} {s : St} {o : Oper} {all rest : List Oper} {K : Sl → St → Prop}
end
theorem RunsV.gen {E : Env} {s : St} {f : FuncId} {fn : Func} {c : Code} {args : List AV} {R : AV → St → Prop} {rs : List ResultVar} {fr : Fr} {l0 : Sl} (hm : E.memo f args = none) (hf : E.fns.get f = some fn) (hc : fn.body = some c) (hr : fn.results.toList = rs)
    (hfr : frame fn.ntmps args none = fr) (hl : argsL 0 args [] = l0) (h : EvtL E c fr l0 s.enter fun ex fr l st => (ex = .ret ∨ ex = .normal) ∧ ∃ st', unwinds fr.defers st = some st' ∧ ∃ vs, resultsL E st' l rs = some vs ∧ ∃ cr, leave E f s (oneA vs) st' = some cr ∧ match cr with
      | .same v => R v s
      | .val v s' => R v s'
      | .pan _ _ => False) : RunsV E f args s R := by
  subst hfr hl hr
  obtain ⟨N, ex, fr', l', T', s', ⟨hex, st', hu, vs, hvs, cr, hlv, hR⟩, hT', hr'⟩ := h _ (argsL_has args 0 (Has.nil .nil))
  refine ⟨N + 1, cr, fun n hn => ?_, hR⟩
  obtain ⟨m, rfl⟩ : ∃ m, n = m + 1 := ⟨n - 1, by omega⟩
  unfold callF
  rw [hm]
  simp only [hf, hc, Option.bind_some]
  rw [ev_succ, hr' m (by omega)]
  show endF E (ev E (m + 1)) f fn s ⟨ex, fr', T', s'⟩ = _
  unfold endF
  have hmo : modeOf ex = some none := by rcases hex with h | h <;> rw [h] <;> rfl
  simp only [hmo, Option.bind_some, unwinds_ok hu, endWith, resultsL_ok hT' hvs, hlv]
end Am
namespace Am
open Go
theorem RunsV.mono {E : Env} {f : FuncId} {args : List AV} {s : St} {R R' : AV → St → Prop} (h : RunsV E f args s R) (hr : ∀ v s, R v s → R' v s) : RunsV E f args s R' := by
  obtain ⟨N, cr, h1, h2⟩ := h
  refine ⟨N, cr, h1, ?_⟩
  cases cr with
  | same v => exact hr _ _ h2
  | val v s' => exact hr _ _ h2
  | pan v s' => exact h2
end Am
