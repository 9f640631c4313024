/- The abstract machine: its control and its calls are the model's. -/
import Derived.Test.YtlclpmbeaofohaaGreatAmC
import Derived.Calls
import Derived.Lib.UnsafeStr
import Derived.Lib.Bytealg
import Derived.Laws.Externs
import Derived.Laws.AppendOwn
import Derived.KernelRfl
set_option linter.unusedSectionVars false
set_option linter.unusedVariables false
set_option linter.unusedSimpArgs false

/- The abstract machine: control (1): frames and the steps of the model's machine. -/
namespace Am
open Go

/-- A frame of an activation, in the manner of another one. -/
def fon (b : Frame) (a : Act) (todo : List Item) : Frame := { fn := b.fn, tmps := a.tmps, todo, defers := a.defers, mode := .run, kind := b.kind, roundOf := b.roundOf }

theorem eval_fon (b : Frame) (a : Act) (todo : List Item) : (fon b a todo).eval = a.eval := by
  funext x; cases x <;> rfl

section
variable {P : Program} {b : Frame} {a : Act} {k : List Item} {cs : List Frame} {w : World}

theorem s_skip : step P (lone (fon b a (.code .skip :: k)) cs w) = .next (lone (fon b a k) cs w) := step_lone_go (by simp [stepG, stepG.exec, fon])
theorem s_label {l : Nat} : step P (lone (fon b a (.code (.label l) :: k)) cs w) = .next (lone (fon b a k) cs w) := step_lone_go (by simp [stepG, stepG.exec, fon])
theorem s_inBlock {id : Nat} : step P (lone (fon b a (.inBlock id :: k)) cs w) = .next (lone (fon b a k) cs w) := step_lone_go (by simp [stepG, stepG.exec, fon])
theorem s_inScope {c : Code} : step P (lone (fon b a (.inScope c :: k)) cs w) = .next (lone (fon b a k) cs w) := step_lone_go (by simp [stepG, stepG.exec, fon])
theorem s_seq {x y : Code} : step P (lone (fon b a (.code (.seq x y) :: k)) cs w) = .next (lone (fon b a (.code x :: .code y :: k)) cs w) := step_lone_go (by simp [stepG, stepG.exec, fon])
theorem s_cond {c : Operand} {x y : Code} {t : Bool} (h : a.eval c = .bool t) :
    step P (lone (fon b a (.code (.cond c x y) :: k)) cs w) = .next (lone (fon b a (.code (if t then x else y) :: k)) cs w) :=
  step_lone_go (by
    have := congrFun (eval_fon b a (.code (.cond c x y) :: k)) c
    simp only [fon] at this
    simp [stepG, stepG.exec, fon, this, h])
theorem s_block {id : Nat} {c : Code} : step P (lone (fon b a (.code (.block id c) :: k)) cs w) = .next (lone (fon b a (.code c :: .inBlock id :: k)) cs w) := step_lone_go (by simp [stepG, stepG.exec, fon])
theorem s_loop {c : Code} : step P (lone (fon b a (.code (.loop c) :: k)) cs w) = .next (lone (fon b a (.code c :: .inLoop c :: k)) cs w) := step_lone_go (by simp [stepG, stepG.exec, fon])
theorem s_inLoop {c : Code} : step P (lone (fon b a (.inLoop c :: k)) cs w) = .next (lone (fon b a (.code c :: .inLoop c :: k)) cs w) := step_lone_go (by simp [stepG, stepG.exec, fon])
theorem s_scope {c : Code} : step P (lone (fon b a (.code (.scope c) :: k)) cs w) = .next (lone (fon b a (.code c :: .inScope c :: k)) cs w) := step_lone_go (by simp [stepG, stepG.exec, fon])
theorem s_exit {id : Nat} {k' : List Item} (h : exitTo id k = some k') : step P (lone (fon b a (.code (.exit id) :: k)) cs w) = .next (lone (fon b a k') cs w) :=
  step_lone_go (by simp [stepG, stepG.exec, fon, h])
theorem s_region {id : Nat} {ops : Array Oper} : step P (lone (fon b a (.code (.region id ops false) :: k)) cs w) = .next (lone (fon b a (.inRegion ops (List.range ops.size) :: k)) cs w) :=
  step_lone_go (by simp [stepG, stepG.exec, fon])
theorem s_region_draw {id : Nat} {ops : Array Oper} : step P (lone (fon b a (.code (.region id ops true) :: k)) cs w) =
      .next (lone (fon b a (.inRegion ops (Region.schedule (P.follows .mixedOrders) ops (w.tape w.drawn (.order b.fn id))) :: k)) cs { w with drawn := w.drawn + 1 }) :=
  step_lone_go (by simp [stepG, stepG.exec, fon, choose, Sem.run, Question.forced, Question.cut])
theorem s_region_end {ops : Array Oper} : step P (lone (fon b a (.inRegion ops [] :: k)) cs w) = .next (lone (fon b a k) cs w) := step_lone_go (by simp [stepG, stepG.exec, fon])

theorem finish_fon (b : Frame) (a : Act) (ops : Array Oper) (i : Nat) (rest : List Nat) (k : List Item) (v : Value) :
    (fon b a (.inRegion ops (i :: rest) :: k)).finish v = fon b (a.put ((ops[i]?).bind (·.dst)) v) (.inRegion ops rest :: k) := by
  cases h : (ops[i]?).bind (·.dst) <;> simp [Frame.finish, fon, Act.put, h]

theorem s_op_skip {ops : Array Oper} {i : Nat} {rest : List Nat} (h : ((ops[i]?).map (Region.wanted · (yielded ops a.tmps))).getD false = false) :
    step P (lone (fon b a (.inRegion ops (i :: rest) :: k)) cs w) = .next (lone (fon b (a.put ((ops[i]?).bind (·.dst)) undef) (.inRegion ops rest :: k)) cs w) := by
  rw [← finish_fon]
  exact step_lone_go (by
    have h' := h
    simp only [fon] at *
    simp [stepG, stepG.exec, h'])

theorem g_op {ops : Array Oper} {i : Nat} {rest : List Nat} {o : Oper} (ho : ops[i]? = some o) (hw : Region.wanted o (yielded ops a.tmps) = true) (hr : b.roundOf = none ∨ ∀ c, o.op ≠ .defer c) :
    stepG P true { frame := fon b a (.inRegion ops (i :: rest) :: k), callers := cs, status := .running, dying := none } w =
      stepG.apply P true (fon b a (.inRegion ops (i :: rest) :: k)) cs none (execOp a.eval o) w := by
  have he := eval_fon b a (.inRegion ops (i :: rest) :: k)
  simp only [fon] at he
  rcases hr with hr | hr
  · rw [hr] at he
    simp [stepG, stepG.exec, stepG.oper, Frame.oper?, fon, ho, hw, he, hr]
  · simp only [stepG, stepG.exec, stepG.oper, Frame.oper?, fon, ho, hw, he]
    cases hro : b.roundOf with
    | none => simp [hw]
    | some l =>
      rw [hro] at he
      cases hop : o.op <;> first | exact absurd hop (hr _) | simp [hw, he]

section op
variable {ops : Array Oper} {i : Nat} {rest : List Nat} {o : Oper} {w' : World} (ho : ops[i]? = some o) (hw : Region.wanted o (yielded ops a.tmps) = true) (hr : b.roundOf = none ∨ ∀ c, o.op ≠ .defer c)
include ho hw hr

theorem s_value {v : Value} (h : (execOp a.eval o).run P w = .ok (.value v) w') :
    step P (lone (fon b a (.inRegion ops (i :: rest) :: k)) cs w) = .next (lone (fon b (a.put o.dst v) (.inRegion ops rest :: k)) cs w') := by
  have hfin := finish_fon b a ops i rest k v
  rw [ho] at hfin
  refine step_lone_go ?_
  rw [g_op ho hw hr]
  simp only [Option.bind_some] at hfin
  rw [← hfin]; simp [stepG.apply, h]

theorem s_nothing (h : (execOp a.eval o).run P w = .ok .skip w') :
    step P (lone (fon b a (.inRegion ops (i :: rest) :: k)) cs w) = .next (lone (fon b (a.put o.dst undef) (.inRegion ops rest :: k)) cs w') := by
  have hfin := finish_fon b a ops i rest k undef
  rw [ho] at hfin
  refine step_lone_go ?_
  rw [g_op ho hw hr]
  simp only [Option.bind_some] at hfin
  rw [← hfin]; simp [stepG.apply, h]

theorem s_enter {f : FuncId} {args : Array Value} (h : (execOp a.eval o).run P w = .ok (.enter f args) w') :
    step P (lone (fon b a (.inRegion ops (i :: rest) :: k)) cs w) = .next (lone (Frame.enter P f args .normal) (fon b a (.inRegion ops (i :: rest) :: k) :: cs) w') := by
  refine step_lone_go ?_
  rw [g_op ho hw hr]
  simp [stepG.apply, h, fon]

theorem s_round {l : Nat} {f : FuncId} {tmps : Array Value} {asg body : Code} (h : (execOp a.eval o).run P w = .ok (.round l f tmps asg body) w') :
    step P (lone (fon b a (.inRegion ops (i :: rest) :: k)) cs w) = .next (lone (Frame.round l f tmps asg body .normal) (fon b a (.inRegion ops (i :: rest) :: k) :: cs) w') := by
  refine step_lone_go ?_
  rw [g_op ho hw hr]
  simp [stepG.apply, h, fon]

theorem s_defer {d : Deferred} (h : (execOp a.eval o).run P w = .ok (.defer d) w') :
    step P (lone (fon b a (.inRegion ops (i :: rest) :: k)) cs w) = .next (lone (fon b ({ a with defers := d :: a.defers }.put o.dst undef) (.inRegion ops rest :: k)) cs w') := by
  have hfin := finish_fon b { a with defers := d :: a.defers } ops i rest k undef
  rw [ho] at hfin
  simp only [Option.bind_some] at hfin
  refine step_lone_go ?_
  rw [g_op ho hw hr, ← hfin]
  simp [stepG.apply, h, fon]

theorem s_panic {v : Value} (h : (execOp a.eval o).run P w = .halt (.panic v) w') :
    step P (lone (fon b a (.inRegion ops (i :: rest) :: k)) cs w) =
      .next (lone { fon b a (.inRegion ops (i :: rest) :: k) with mode := .panicking [{ v, recovered := false }] } cs w') := by
  refine step_lone_go ?_
  rw [g_op ho hw hr]
  simp [stepG.apply, h, fon, Frame.raise]

theorem s_recover_none (h : (execOp a.eval o).run P w = .ok .recover w') (hro : b.roundOf = none) (ht : tryRecover (fon b a (.inRegion ops (i :: rest) :: k)) cs = none) :
    step P (lone (fon b a (.inRegion ops (i :: rest) :: k)) cs w) = .next (lone (fon b (a.put o.dst .nilIface) (.inRegion ops rest :: k)) cs w') := by
  have hfin := finish_fon b a ops i rest k .nilIface
  rw [ho] at hfin
  simp only [Option.bind_some] at hfin
  refine step_lone_go ?_
  rw [g_op ho hw hr, ← hfin]
  have : (fon b a (.inRegion ops (i :: rest) :: k)).roundOf = none := hro
  simp [stepG.apply, h, this, ht]

theorem s_recover_some {v : Value} {cs' : List Frame} (h : (execOp a.eval o).run P w = .ok .recover w') (hro : b.roundOf = none) (ht : tryRecover (fon b a (.inRegion ops (i :: rest) :: k)) cs = some (v, cs')) :
    step P (lone (fon b a (.inRegion ops (i :: rest) :: k)) cs w) = .next (lone (fon b (a.put o.dst v) (.inRegion ops rest :: k)) cs' w') := by
  have hfin := finish_fon b a ops i rest k v
  rw [ho] at hfin
  simp only [Option.bind_some] at hfin
  refine step_lone_go ?_
  rw [g_op ho hw hr, ← hfin]
  have : (fon b a (.inRegion ops (i :: rest) :: k)).roundOf = none := hro
  simp [stepG.apply, h, this, ht]
end op
end
end Am

/- The abstract machine: control (2): what a piece of code has to be; sequences, conditions, blocks, loops. -/
namespace Am
open Go

/-- Nothing is there to recover. -/
def NoRec (b : Frame) (cs : List Frame) : Prop := tryRecover b cs = none

/-- The caller's panic was recovered. -/
def mark : List Frame → List Frame
  | c :: rest => { c with mode := match c.mode with | .panicking (e :: l) => .panicking ({ e with recovered := true } :: l) | m => m } :: rest
  | [] => []

inductive DefsR (C : Cx) : List ADef → List Deferred → Prop where
  | nil : DefsR C [] []
  | cons {d : ADef} {x : Deferred} {l : List ADef} {r : List Deferred} (h : DefR C d x) (t : DefsR C l r) : DefsR C (d :: l) (x :: r)

theorem DefR.mono {C C' : Cx} (e : Ext C C') {d : ADef} {x : Deferred} (h : DefR C d x) : DefR C' d x := by
  cases h with
  | fn hf ha hb => exact .fn hf (ha.mono e) (hb.mono e)
  | collected hd => rw [← e.pl _ hd]; exact .collected (e.D _ hd)
theorem DefsR.mono {C C' : Cx} (e : Ext C C') {d : List ADef} {x : List Deferred} (h : DefsR C d x) : DefsR C' d x := by
  induction h with
  | nil => exact .nil
  | cons h _ ih => exact .cons (h.mono e) ih

/-- What recover would hand back in a frame. -/
inductive PanR (C : Cx) (b : Frame) (cs : List Frame) : Option AV → Prop where
  | none (h : NoRec b cs) : PanR C b cs none
  | some {v : AV} {x : Value} {c : Frame} {rest : List Frame} (hk : b.kind = .deferred) (hcs : cs = c :: rest) (hm : c.mode = .panicking [{ v := x, recovered := false }]) (hv : VR C v x) : PanR C b cs (some v)

inductive RoundR (C : Cx) (b : Frame) : Option Nat → Prop where
  | none (h : b.roundOf = none) : RoundR C b none
  | some {l : Nat} (hd : C.D l) (h : b.roundOf = some (C.pl l).blk) : RoundR C b (some l)

structure FrR (C : Cx) (fr : Fr) (b : Frame) (a : Act) (cs : List Frame) : Prop where
  defs : DefsR C fr.defers a.defers
  pan : PanR C b cs fr.pan
  round : RoundR C b fr.round

theorem FrR.mono {C C' : Cx} (e : Ext C C') {fr : Fr} {b : Frame} {a : Act} {cs : List Frame} (h : FrR C fr b a cs) : FrR C' fr b a cs := by
  refine ⟨h.defs.mono e, ?_, ?_⟩
  · have := h.pan
    generalize fr.pan = p at this
    cases this with
    | none h => exact .none h
    | some hk hcs hm hv => exact .some hk hcs hm (hv.mono e)
  · have := h.round
    generalize fr.round = p at this
    cases this with
    | none h => exact .none h
    | some hd h => exact .some (e.D _ hd) (by rw [h, e.pl _ hd])

/-- The callers, before and behind a piece of code. -/
inductive CsR : Option AV → Option AV → List Frame → List Frame → Prop where
  | same {p : Option AV} {cs : List Frame} : CsR p p cs cs
  | rec_ {v : AV} {cs : List Frame} : CsR (some v) none cs (mark cs)

theorem CsR.trans {p q r : Option AV} {a b c : List Frame} (h : CsR p q a b) (g : CsR q r b c) : CsR p r a c := by
  cases h with
  | same => exact g
  | rec_ =>
    generalize hq : (none : Option AV) = q' at g
    cases g with
    | same => subst hq; exact .rec_
    | rec_ => cases hq

/-- No call of the machine's own stands first. -/
def NoCall (k : List Item) : Prop := ∀ d wr r s k', k ≠ .call d wr r s :: k'

/-- Where a piece of code leaves the machine. -/
def Ends (P : Program) (b : Frame) (k : List Item) (cs : List Frame) (C : Cx) (m : Machine) : Ex → Act → World → Prop
  | .normal, a, w => Steps P m (lone (fon b a k) cs w)
  | .exit id, a, w => ∃ k2, Steps P m (lone (fon b a (.code (.exit id) :: k2)) cs w) ∧ exitTo id k2 = exitTo id k
  | .ret, a, w => ∃ k2, Steps P m (lone (fon b a (.code .ret :: k2)) cs w)
  | .panic v, a, w => ∃ k2 x, Steps P m (lone { fon b a k2 with mode := .panicking [{ v := x, recovered := false }] } cs w) ∧ VR C v x ∧ NoCall k2

theorem Ends.steps {P : Program} {b : Frame} {k : List Item} {cs : List Frame} {C : Cx} {m m' : Machine} (hs : Steps P m m') {e : Ex} {a : Act} {w : World} (h : Ends P b k cs C m' e a w) : Ends P b k cs C m e a w := by
  cases e with
  | normal => exact hs.trans h
  | exit id => obtain ⟨k2, h1, h2⟩ := h; exact ⟨k2, hs.trans h1, h2⟩
  | ret => obtain ⟨k2, h1⟩ := h; exact ⟨k2, hs.trans h1⟩
  | panic v => obtain ⟨k2, x, h1, h2⟩ := h; exact ⟨k2, x, hs.trans h1, h2⟩

/-- The outcomes. -/
def outL : Out → Option (List Res)
  | .stuck => none
  | .one r => some [r]
  | .many l => some l

/-- One of the outcomes is what the model's machine comes to. -/
def Good (P : Program) (C : Cx) (S : St) (w : World) (fr : Fr) (b : Frame) (k : List Item) (cs : List Frame) (m : Machine) (out : Out) : Prop :=
  ∀ l, outL out = some l → ∃ r ∈ l, ∃ C' a' w' cs', Tran C S w C' r.st w' ∧ TR C' r.fr.nt r.T a'.tmps ∧ FrR C' r.fr b a' cs' ∧ r.fr.nt = fr.nt ∧ r.fr.round = fr.round ∧
    CsR fr.pan r.fr.pan cs cs' ∧ Ends P b k cs' C' m r.ex a' w'

theorem Good.stuck {P : Program} {C : Cx} {S : St} {w : World} {fr : Fr} {b : Frame} {k : List Item} {cs : List Frame} {m : Machine} : Good P C S w fr b k cs m .stuck := fun _ h => by cases h

theorem Good.steps {P : Program} {C : Cx} {S : St} {w : World} {fr : Fr} {b : Frame} {k : List Item} {cs : List Frame} {m m' : Machine} {out : Out} (hs : Steps P m m') (h : Good P C S w fr b k cs m' out) :
    Good P C S w fr b k cs m out := fun l hl =>
  let ⟨r, hr, C', a', w', cs', h1, h2, h3, h4, h5, h6, h7⟩ := h l hl; ⟨r, hr, C', a', w', cs', h1, h2, h3, h4, h5, h6, h7.steps hs⟩

/-- What a piece of code, made ready, has to be. -/
def RunOk (E : Env) (P : Program) (c : Code) (run : Run) : Prop :=
  ∀ (C : Cx) (S : St) (w : World) (fr : Fr) (T : Tr AV) (b : Frame) (a : Act) (k : List Item) (cs : List Frame), GlobR E C → TR C fr.nt T a.tmps → FrR C fr b a cs → StR C S w →
    Good P C S w fr b k cs (lone (fon b a (.code c :: k)) cs w) (run fr T S)

theorem joinAll_some {k : Res → Out} : ∀ {l : List Res} {y : List Res}, Out.joinAll k l = some y → ∀ r ∈ l, ∃ l', outL (k r) = some l' ∧ ∀ x ∈ l', x ∈ y
  | a :: l, y, h, r, hr => by
    simp only [Out.joinAll] at h
    cases ha : k a with
    | stuck => rw [ha] at h; cases h
    | one x =>
      rw [ha] at h
      cases hj : Out.joinAll k l with
      | none => rw [hj] at h; cases h
      | some z =>
        rw [hj] at h; cases h
        rcases List.mem_cons.1 hr with rfl | hr
        · exact ⟨[x], by rw [ha]; rfl, fun q hq => by simp at hq; subst hq; exact List.mem_cons_self ..⟩
        · obtain ⟨l', h1, h2⟩ := joinAll_some hj r hr
          exact ⟨l', h1, fun q hq => List.mem_cons_of_mem _ (h2 q hq)⟩
    | many xs =>
      rw [ha] at h
      cases hj : Out.joinAll k l with
      | none => rw [hj] at h; cases h
      | some z =>
        rw [hj] at h; cases h
        rcases List.mem_cons.1 hr with rfl | hr
        · exact ⟨xs, by rw [ha]; rfl, fun q hq => List.mem_append_left _ hq⟩
        · obtain ⟨l', h1, h2⟩ := joinAll_some hj r hr
          exact ⟨l', h1, fun q hq => List.mem_append_right _ (h2 q hq)⟩

theorem then_some {o : Out} {k : Res → Out} {l : List Res} (h : outL (o.then k) = some l) : ∃ l0, outL o = some l0 ∧ ∀ r ∈ l0, ∃ l', outL (k r) = some l' ∧ ∀ x ∈ l', x ∈ l := by
  cases o with
  | stuck => cases h
  | one r => exact ⟨[r], rfl, fun q hq => by simp at hq; subst hq; exact ⟨l, h, fun x hx => hx⟩⟩
  | many xs =>
    refine ⟨xs, rfl, ?_⟩
    unfold Out.then at h
    simp only at h
    cases hj : Out.joinAll k xs with
    | none => rw [hj] at h; cases h
    | some y =>
      rw [hj] at h
      have : y = l := by simpa [Out.ofList, outL] using h
      subst this
      exact joinAll_some hj

/-- What comes behind a piece of code. -/
theorem Good.then {E : Env} {P : Program} {C : Cx} {S : St} {w : World} {fr : Fr} {b : Frame} {k k0 : List Item} {cs : List Frame} {m : Machine} {out : Out} {kf : Res → Out} (hg : GlobR E C)
    (h : Good P C S w fr b k0 cs m out)
    (hk : ∀ (r : Res) (C' : Cx) (a' : Act) (w' : World) (cs' : List Frame) (m' : Machine), GlobR E C' → StR C' r.st w' → TR C' r.fr.nt r.T a'.tmps → FrR C' r.fr b a' cs' → Ends P b k0 cs' C' m' r.ex a' w' →
      Good P C' r.st w' r.fr b k cs' m' (kf r)) : Good P C S w fr b k cs m (out.then kf) := by
  intro l hl
  obtain ⟨l0, h0, h1⟩ := then_some hl
  obtain ⟨r, hr, C', a', w', cs', t, hT, hF, hn, hrd, hcs, he⟩ := h l0 h0
  obtain ⟨l', hl', hsub⟩ := h1 r hr
  obtain ⟨r2, hr2, C2, a2, w2, cs2, t2, hT2, hF2, hn2, hrd2, hcs2, he2⟩ := hk r C' a' w' cs' m (hg.mono t.ext) t.st hT hF he l' hl'
  exact ⟨r2, hsub r2 hr2, C2, a2, w2, cs2, t.trans t2, hT2, hF2, hn2.trans hn, hrd2.trans hrd, hcs.trans hcs2, he2⟩

/-- The end of a piece of code, as it is. -/
theorem Good.one {P : Program} {C : Cx} {r : Res} {w : World} {b : Frame} {a : Act} {k : List Item} {cs : List Frame} {m : Machine} (hS : StR C r.st w) (hT : TR C r.fr.nt r.T a.tmps) (hF : FrR C r.fr b a cs)
    (he : Ends P b k cs C m r.ex a w) : Good P C r.st w r.fr b k cs m (.one r) := by
  intro l hl
  cases hl
  exact ⟨r, List.mem_singleton.2 rfl, C, a, w, cs, Tran.refl hS, hT, hF, rfl, rfl, .same, he⟩

section
variable {E : Env} {P : Program}

def EvOk (E : Env) (P : Program) (ev : Ev) : Prop := ∀ c, RunOk E P c (ev c)

theorem ok_done {ev : Ev} {c : Code} (h : ∀ (b : Frame) (a : Act) (k : List Item) (cs : List Frame) (w : World), step P (lone (fon b a (.code c :: k)) cs w) = .next (lone (fon b a k) cs w)) : RunOk E P c (doneC.run ev) := by
  intro C S w fr T b a k cs hg hT hF hS
  exact Good.one (r := ⟨.normal, fr, T, S⟩) hS hT hF (.one (h b a k cs w))

/-- An item that neither catches exits. -/
theorem exitTo_plain {x : Item} (h : ∀ id, x ≠ .inBlock id) (id : Nat) (k : List Item) : exitTo id (x :: k) = exitTo id k := by
  cases x <;> first | rfl | exact absurd rfl (h _)

theorem Ends.pass {b : Frame} {x : Item} {k : List Item} {cs : List Frame} {C : Cx} {m : Machine} {e : Ex} {a : Act} {w : World} (hx : ∀ id, x ≠ .inBlock id) (hn : e ≠ .normal)
    (h : Ends P b (x :: k) cs C m e a w) : Ends P b k cs C m e a w := by
  cases e with
  | normal => exact absurd rfl hn
  | exit id => obtain ⟨k2, h1, h2⟩ := h; exact ⟨k2, h1, by rw [h2, exitTo_plain hx]⟩
  | ret => exact h
  | panic v => exact h

theorem ok_seq {x y : Code} {ka kb : Run} (ha : RunOk E P x ka) (hb : RunOk E P y kb) : RunOk E P (.seq x y) (fun fr T s => (ka fr T s).then (seqK kb)) := by
  intro C S w fr T b a k cs hg hT hF hS
  refine Good.steps (.one s_seq) (Good.then hg (ha C S w fr T b a (.code y :: k) cs hg hT hF hS) ?_)
  intro r C' a' w' cs' m' hg' hS' hT' hF' he
  unfold seqK
  split
  · next h =>
    rw [h] at he
    exact Good.steps he (hb C' r.st w' r.fr r.T b a' k cs' hg' hT' hF' hS')
  · next h => exact Good.one hS' hT' hF' (Ends.pass (x := .code y) (by simp) (fun e => h e) he)

theorem ok_cond {x : Operand} {c d : Code} {ka kb : Run} (ha : RunOk E P c ka) (hb : RunOk E P d kb) : RunOk E P (.cond x c d) (fun fr T s => condOut ka kb fr T s (opnd E x T)) := by
  intro C S w fr T b a k cs hg hT hF hS
  show Good P C S w fr b k cs _ (condOut ka kb fr T S (opnd E x T))
  unfold condOut
  split
  · next t hx =>
    have hTa : TR C a.tmps.size T a.tmps := ⟨rfl, hT.2⟩
    have hv := opnd_ok hg hTa hx
    generalize hq : a.eval x = q at hv
    cases hv
    have hs := s_cond (P := P) (b := b) (k := k) (cs := cs) (w := w) (x := c) (y := d) hq
    cases t with
    | true => exact Good.steps (.one hs) (ha C S w fr T b a k cs hg hT hF hS)
    | false => exact Good.steps (.one hs) (hb C S w fr T b a k cs hg hT hF hS)
  · exact Good.stuck

theorem ok_block {id : Nat} {c : Code} {ka : Run} (ha : RunOk E P c ka) : RunOk E P (.block id c) (fun fr T s => (ka fr T s).then (blockK id)) := by
  intro C S w fr T b a k cs hg hT hF hS
  refine Good.steps (.one s_block) (Good.then hg (ha C S w fr T b a (.inBlock id :: k) cs hg hT hF hS) ?_)
  intro r C' a' w' cs' m' hg' hS' hT' hF' he
  obtain ⟨ex, fr', T', st'⟩ := r
  unfold blockK
  cases ex with
  | exit i =>
    obtain ⟨k2, h1, h2⟩ := he
    simp only
    cases hi : Nat.beq i id with
    | true =>
      have := Nat.eq_of_beq_eq_true hi
      subst this
      simp only [cond_true]
      have hk : exitTo i k2 = some k := by rw [h2]; simp [exitTo]
      exact Good.one (r := ⟨.normal, fr', T', st'⟩) hS' hT' hF' (h1.trans (.one (s_exit hk)))
    | false =>
      have hne := Nat.ne_of_beq_eq_false hi
      simp only [cond_false]
      refine Good.one (r := ⟨.exit i, fr', T', st'⟩) hS' hT' hF' ⟨k2, h1, ?_⟩
      rw [h2]
      have : (id == i) = false := by simp; exact fun h => hne h.symm
      simp [exitTo, this]
  | normal => exact Good.one (r := ⟨.normal, fr', T', st'⟩) hS' hT' hF' (Steps.trans he (.one s_inBlock))
  | ret => exact Good.one (r := ⟨.ret, fr', T', st'⟩) hS' hT' hF' he
  | panic v => exact Good.one (r := ⟨.panic v, fr', T', st'⟩) hS' hT' hF' he

theorem ok_scope {c : Code} {ka : Run} (ha : RunOk E P c ka) : RunOk E P (.scope c) ka := by
  intro C S w fr T b a k cs hg hT hF hS l hl
  obtain ⟨r, hr, C', a', w', cs', t, h2, h3, h4, h5, h6, he⟩ := ha C S w fr T b a (.inScope c :: k) cs hg hT hF hS l hl
  refine ⟨r, hr, C', a', w', cs', t, h2, h3, h4, h5, h6, Ends.steps (.one s_scope) ?_⟩
  by_cases hn : r.ex = .normal
  · rw [hn] at he ⊢
    exact Steps.trans he (.one s_inScope)
  · exact Ends.pass (x := .inScope c) (by simp) hn he

theorem lone_frame {f g : Frame} {cs cs' : List Frame} {w w' : World} (h : lone f cs w = lone g cs' w') : f = g := by
  have := congrArg Machine.gs h
  simp [lone] at this
  exact this.1

theorem Steps.swap {m m' m'' : Machine} (h : Steps P m m'') (hne : m ≠ m'') (he : step P m = step P m') : Steps P m' m'' := by
  obtain ⟨n, hn⟩ := h
  cases n with
  | zero => exact absurd (by simpa [runN] using hn) hne
  | succ n =>
    refine ⟨n + 1, ?_⟩
    unfold runN at hn ⊢
    rw [← he]; exact hn

/-- A loop's beginning, and its head later on, are one. -/
theorem Good.atHead {C : Cx} {S : St} {w : World} {fr : Fr} {b : Frame} {a : Act} {c : Code} {k : List Item} {cs : List Frame} {out : Out}
    (h : Good P C S w fr b k cs (lone (fon b a (.code (.loop c) :: k)) cs w) out) : Good P C S w fr b k cs (lone (fon b a (.inLoop c :: k)) cs w) out := by
  have hst : step P (lone (fon b a (.code (.loop c) :: k)) cs w) = step P (lone (fon b a (.inLoop c :: k)) cs w) := s_loop.trans s_inLoop.symm
  intro l hl
  obtain ⟨r, hr, C', a', w', cs', t, h2, h3, h4, h5, h6, he⟩ := h l hl
  refine ⟨r, hr, C', a', w', cs', t, h2, h3, h4, h5, h6, ?_⟩
  generalize r.ex = e at he
  cases e with
  | normal =>
    refine Steps.swap he (fun hm => ?_) hst
    have := congrArg Frame.todo (lone_frame hm)
    have := congrArg List.length this
    simp [fon] at this
  | exit id =>
    obtain ⟨k2, h1, h2⟩ := he
    refine ⟨k2, Steps.swap h1 (fun hm => ?_) hst, h2⟩
    have := congrArg Frame.todo (lone_frame hm)
    simp [fon] at this
  | ret =>
    obtain ⟨k2, h1⟩ := he
    refine ⟨k2, Steps.swap h1 (fun hm => ?_) hst⟩
    have := congrArg Frame.todo (lone_frame hm)
    simp [fon] at this
  | panic v =>
    obtain ⟨k2, x, h1, h2⟩ := he
    refine ⟨k2, x, Steps.swap h1 (fun hm => ?_) hst, h2⟩
    have := congrArg Frame.mode (lone_frame hm)
    simp [fon] at this

/-- A round of a loop from its head on. -/
theorem ok_loop {c : Code} {ka kl : Run} (ha : RunOk E P c ka) (hl : RunOk E P (.loop c) kl) : RunOk E P (.loop c) (fun fr T s => (ka fr T s).then (seqK kl)) := by
  intro C S w fr T b a k cs hg hT hF hS
  refine Good.steps (.one s_loop) (Good.then hg (ha C S w fr T b a (.inLoop c :: k) cs hg hT hF hS) ?_)
  intro r C' a' w' cs' m' hg' hS' hT' hF' he
  unfold seqK
  split
  · next h =>
    rw [h] at he
    exact Good.steps he (Good.atHead (hl C' r.st w' r.fr r.T b a' k cs' hg' hT' hF' hS'))
  · next h => exact Good.one hS' hT' hF' (Ends.pass (x := .inLoop c) (by simp) (fun e => h e) he)

theorem ok_exit {id : Nat} : RunOk E P (.exit id) (fun fr T s => .one ⟨.exit id, fr, T, s⟩) := by
  intro C S w fr T b a k cs hg hT hF hS
  exact Good.one (r := ⟨.exit id, fr, T, S⟩) hS hT hF ⟨k, .refl _ _, rfl⟩

theorem ok_ret : RunOk E P .ret (fun fr T s => .one ⟨.ret, fr, T, s⟩) := by
  intro C S w fr T b a k cs hg hT hF hS
  exact Good.one (r := ⟨.ret, fr, T, S⟩) hS hT hF ⟨k, .refl _ _⟩

theorem ok_stuck {c : Code} : RunOk E P c (fun _ _ _ => .stuck) := fun _ _ _ _ _ _ _ _ _ _ _ _ _ => Good.stuck
end
end Am

/- The abstract machine: control (3): operations with what comes behind them. -/
namespace Am
open Go

/-- Where a call leaves its caller. -/
def Returns (P : Program) (m : Machine) (c : Frame) (cs : List Frame) (C : Cx) (S : St) (w : World) : CR → Prop
  | .same v => ∃ C' x w', Steps P m (lone (c.finish x) cs w') ∧ Tran C S w C' S w' ∧ VR C' v x
  | .val v S' => ∃ C' x w', Steps P m (lone (c.finish x) cs w') ∧ Tran C S w C' S' w' ∧ VR C' v x
  | .pan v S' => ∃ C' x w', Steps P m (lone (c.raise [{ v := x, recovered := false }]) cs w') ∧ Tran C S w C' S' w' ∧ VR C' v x

/-- What a call has to be. -/
def CallOk (E : Env) (P : Program) (ev : Ev) : Prop :=
  ∀ (f : FuncId) (args : List AV) (cr : CR) (C : Cx) (S : St) (w : World) (xs : Array Value) (c : Frame) (cs : List Frame), callF E ev f args S = some cr → GlobR E C → VRs C args xs.toList → StR C S w →
    Returns P (lone (Frame.enter P f xs .normal) (c :: cs) w) c cs C S w cr

/-- What a call of a function value has to be: the model's small program, and where its outcome leads. -/
def CallVOk (E : Env) (P : Program) (ev : Ev) : Prop :=
  ∀ (g : AV) (args : List AV) (cr : CR) (C : Cx) (S : St) (w : World) (gx : Value) (xs : Array Value) (c : Frame) (cs : List Frame), callVF E ev args S g = some cr → GlobR E C → VR C g gx → VRs C args xs.toList → StR C S w →
    (∃ f ys, (do let d ← Deferred.ofValue gx xs; invoke d.target d.args : Sem Next).run P w = .ok (.enter f ys) w ∧ Returns P (lone (Frame.enter P f ys .normal) (c :: cs) w) c cs C S w cr) ∨
    (∃ l f tmps asg body, (do let d ← Deferred.ofValue gx xs; invoke d.target d.args : Sem Next).run P w = .ok (.round l f tmps asg body) w ∧ Returns P (lone (Frame.round l f tmps asg body .normal) (c :: cs) w) c cs C S w cr)

/-- What comes behind an operation. -/
def KontOk (E : Env) (P : Program) (ops : Array Oper) (idx : List Nat) (dst : Option Tmp) (kr : Fr → Tr AV → AV → St → Out) : Prop :=
  ∀ (C : Cx) (S : St) (w : World) (fr : Fr) (T : Tr AV) (b : Frame) (a : Act) (k : List Item) (cs : List Frame) (v : AV) (x : Value), GlobR E C → TR C fr.nt T a.tmps → FrR C fr b a cs → StR C S w → VR C v x →
    Good P C S w fr b k cs (lone (fon b (a.put dst x) (.inRegion ops idx :: k)) cs w) (kr fr T v S)

/-- What the operations of a region have to be, from some place on. -/
def OpsOk (E : Env) (P : Program) (ops : Array Oper) (idx : List Nat) (run : Run) : Prop :=
  ∀ (C : Cx) (S : St) (w : World) (fr : Fr) (T : Tr AV) (b : Frame) (a : Act) (k : List Item) (cs : List Frame), GlobR E C → TR C fr.nt T a.tmps → FrR C fr b a cs → StR C S w →
    Good P C S w fr b k cs (lone (fon b a (.inRegion ops idx :: k)) cs w) (run fr T S)

section
variable {E : Env} {P : Program}

theorem Good.tran {C C1 : Cx} {S S1 : St} {w w1 : World} {fr : Fr} {b : Frame} {k : List Item} {cs : List Frame} {m : Machine} {out : Out} (t : Tran C S w C1 S1 w1) (h : Good P C1 S1 w1 fr b k cs m out) :
    Good P C S w fr b k cs m out := fun l hl =>
  let ⟨r, hr, C', a', w', cs', h1, h2, h3, h4, h5, h6, h7⟩ := h l hl; ⟨r, hr, C', a', w', cs', t.trans h1, h2, h3, h4, h5, h6, h7⟩

theorem put_defers (a : Act) (d : Option Tmp) (v : Value) : (a.put d v).defers = a.defers := by cases d <;> rfl
theorem put_size (a : Act) (d : Option Tmp) (v : Value) : (a.put d v).tmps.size = a.tmps.size := by cases d <;> simp [Act.put]

theorem FrR.put {C : Cx} {fr : Fr} {b : Frame} {a : Act} {cs : List Frame} (h : FrR C fr b a cs) (d : Option Tmp) (v : Value) : FrR C fr b (a.put d v) cs := ⟨by rw [put_defers]; exact h.defs, h.pan, h.round⟩

theorem TR.put {C : Cx} {nt : Nat} {T : Tr AV} {a : Act} (h : TR C nt T a.tmps) {d : Nat} (hd : d < nt) {v : AV} {x : Value} (hv : VR C v x) : TR C nt (T.set d (some v)) (a.put (some d) x).tmps := by
  refine ⟨by rw [put_size]; exact h.1, fun i u hi => ?_⟩
  rw [get_set] at hi
  simp only [Act.put, Array.getElem?_setIfInBounds]
  split at hi
  · next e => subst e; cases hi; exact ⟨x, by simp [h.1, hd], hv⟩
  · next e =>
    obtain ⟨y, hy, hr⟩ := h.2 i u hi
    exact ⟨y, by rw [if_neg (fun e' => e e'.symm)]; exact hy, hr⟩

/-- The value is put into its slot. -/
theorem ok_thenK {ops : Array Oper} {idx : List Nat} {dst : Option Nat} {k : Cl} {ev : Ev} (h : OpsOk E P ops idx (k.run ev)) : KontOk E P ops idx dst ((thenK dst k).run ev) := by
  intro C S w fr T b a k' cs v x hg hT hF hS hv
  cases dst with
  | none => exact h C S w fr T b a k' cs hg hT hF hS
  | some d =>
    show Good P C S w fr b k' cs _ (bif Nat.blt d fr.nt then _ else _)
    cases hd : Nat.blt d fr.nt with
    | false => exact Good.stuck
    | true =>
      have hlt : d < fr.nt := by simpa [Nat.blt_eq] using hd
      exact h C S w fr (T.set d (some v)) b (a.put (some d) x) k' cs hg (hT.put hlt hv) (hF.put _ _) hS

theorem app_some {a b : Out} {y : List Res} (h : outL (Out.app a b) = some y) : ∃ x z, outL a = some x ∧ outL b = some z ∧ y = x ++ z := by
  cases a <;> cases b <;> first | (cases h; done) | (cases h; exact ⟨_, _, rfl, rfl, by simp⟩)

theorem manyOut_mem {k : AV → St → Out} : ∀ {l : List (AV × St)} {y : List Res}, outL (manyOut k l) = some y → ∀ p ∈ l, ∃ l', outL (k p.1 p.2) = some l' ∧ ∀ x ∈ l', x ∈ y
  | [p], y, h, q, hq => by
    simp at hq; subst hq
    exact ⟨y, h, fun x hx => hx⟩
  | p :: p' :: l, y, h, q, hq => by
    obtain ⟨x, z, h1, h2, rfl⟩ := app_some (a := k p.1 p.2) (b := manyOut k (p' :: l)) h
    rcases List.mem_cons.1 hq with rfl | hq
    · exact ⟨x, h1, fun x hx => List.mem_append_left _ hx⟩
    · obtain ⟨l', h3, h4⟩ := manyOut_mem h2 q hq
      exact ⟨l', h3, fun x hx => List.mem_append_right _ (h4 x hx)⟩

theorem Good.ofMany {C : Cx} {S : St} {w : World} {fr : Fr} {b : Frame} {k' : List Item} {cs : List Frame} {m : Machine} {k : AV → St → Out} {l : List (AV × St)} {p : AV × St} (hp : p ∈ l)
    (h : Good P C S w fr b k' cs m (k p.1 p.2)) : Good P C S w fr b k' cs m (manyOut k l) := by
  intro y hy
  obtain ⟨l', h1, h2⟩ := manyOut_mem hy p hp
  obtain ⟨r, hr, rest⟩ := h l' h1
  exact ⟨r, h2 r hr, rest⟩

theorem zipS_mem {s : St} {v : AV} : ∀ {l : List AV}, v ∈ l → (v, s) ∈ zipS s l
  | a :: l, h => by
    simp only [zipS]
    rcases List.mem_cons.1 h with rfl | h
    · exact List.mem_cons_self ..
    · exact List.mem_cons_of_mem _ (zipS_mem h)

theorem noDefer {o : Oper} {so : SOp} (h : opC E o.type o.op = so) (h1 : ∀ f, so ≠ .defer f) (h2 : so ≠ .bad) : ∀ c, o.op ≠ .defer c := by
  intro c hc
  rw [hc] at h
  simp only [opC, deferC] at h
  split at h
  · exact h1 _ h.symm
  · exact h2 h.symm

theorem raise_fon (b : Frame) (a : Act) (todo : List Item) (chain : List PanicEntry) : (fon b a todo).raise chain = { fon b a todo with mode := .panicking chain } := rfl

/-- Behind a call. -/
theorem ok_cr {ops : Array Oper} {i : Nat} {idx : List Nat} {o : Oper} (ho : ops[i]? = some o) {kr : Fr → Tr AV → AV → St → Out} (hk : KontOk E P ops idx o.dst kr) {C : Cx} {S : St} {w : World} {fr : Fr} {T : Tr AV} {b : Frame}
    {a : Act} {k' : List Item} {cs : List Frame} (hg : GlobR E C) (hT : TR C fr.nt T a.tmps) (hF : FrR C fr b a cs) (hS : StR C S w) {m : Machine} {cr : CR}
    (h : Returns P m (fon b a (.inRegion ops (i :: idx) :: k')) cs C S w cr) : Good P C S w fr b k' cs m (crOut fr T S (kr fr T) (some cr)) := by
  have hfin := fun v => finish_fon b a ops i idx k' v
  simp only [ho, Option.bind_some] at hfin
  cases cr with
  | same v =>
    obtain ⟨C', x, w', hs, t, hv⟩ := h
    rw [hfin] at hs
    exact Good.steps hs (Good.tran t (hk C' S w' fr T b a k' cs v x (hg.mono t.ext) (hT.mono t.ext) (hF.mono t.ext) t.st hv))
  | val v S' =>
    obtain ⟨C', x, w', hs, t, hv⟩ := h
    rw [hfin] at hs
    exact Good.steps hs (Good.tran t (hk C' S' w' fr T b a k' cs v x (hg.mono t.ext) (hT.mono t.ext) (hF.mono t.ext) t.st hv))
  | pan v S' =>
    obtain ⟨C', x, w', hs, t, hv⟩ := h
    rw [raise_fon] at hs
    exact Good.tran t (Good.one (r := ⟨.panic v, fr, T, S'⟩) t.st (hT.mono t.ext) (hF.mono t.ext) ⟨_, x, hs, hv, by intro _ _ _ _ _ h; cases h⟩)

/-- An operation with what comes behind it. -/
theorem ok_step {ev : Ev} (hcall : CallOk E P ev) (hcallV : CallVOk E P ev) {ops : Array Oper} {i : Nat} {idx : List Nat} {o : Oper} (ho : ops[i]? = some o) {so : SOp} (hso : SOk E P o so) (heq : opC E o.type o.op = so) {k : KCl}
    (hk : KontOk E P ops idx o.dst (k.run ev)) {C : Cx} {S : St} {w : World} {fr : Fr} {T : Tr AV} {b : Frame} {a : Act} {k' : List Item} {cs : List Frame} (hg : GlobR E C) (hT : TR C fr.nt T a.tmps)
    (hF : FrR C fr b a cs) (hS : StR C S w) (hw : Region.wanted o (yielded ops a.tmps) = true) :
    Good P C S w fr b k' cs (lone (fon b a (.inRegion ops (i :: idx) :: k')) cs w) ((stepC E so k).run ev fr T S) := by
  have hTa : TR C a.tmps.size T a.tmps := ⟨rfl, hT.2⟩
  have sp := hso C T a S w hg hTa hS
  have hr : (∀ f, so ≠ .defer f) → so ≠ .bad → b.roundOf = none ∨ ∀ c, o.op ≠ .defer c := fun h1 h2 => .inr (noDefer heq h1 h2)
  cases so with
  | bad => exact Good.stuck
  | make f =>
    show Good P C S w fr b k' cs _ (mkOut S (k.run ev fr T) (f T))
    cases hf : f T with
    | none => exact Good.stuck
    | some mk =>
      cases mk with
      | val v =>
        obtain ⟨C', x, w', hrun, t, hv⟩ := sp.1 v hf
        exact Good.steps (.one (s_value ho hw (hr (by simp) (by simp)) hrun)) (Good.tran t (hk C' S w' fr T b a k' cs v x (hg.mono t.ext) (hT.mono t.ext) (hF.mono t.ext) t.st hv))
      | obj ob g =>
        obtain ⟨C', x, w', hrun, t, hv⟩ := sp.2 ob g hf
        exact Good.steps (.one (s_value ho hw (hr (by simp) (by simp)) hrun)) (Good.tran t (hk C' _ w' fr T b a k' cs _ x (hg.mono t.ext) (hT.mono t.ext) (hF.mono t.ext) t.st hv))
  | pure f =>
    show Good P C S w fr b k' cs _ (valOut (fun v => k.run ev fr T v S) (f T))
    cases hf : f T with
    | none => exact Good.stuck
    | some v =>
      obtain ⟨x, hrun, hv⟩ := sp v hf
      exact Good.steps (.one (s_value ho hw (hr (by simp) (by simp)) hrun)) (hk C S w fr T b a k' cs v x hg hT hF hS hv)
  | read xo f =>
    show Good P C S w fr b k' cs _ (valOut (fun v => k.run ev fr T v S) (f T S))
    cases hf : f T S with
    | none => exact Good.stuck
    | some v =>
      obtain ⟨x, hrun, hv⟩ := sp v hf
      exact Good.steps (.one (s_value ho hw (hr (by simp) (by simp)) hrun)) (hk C S w fr T b a k' cs v x hg hT hF hS hv)
  | look f =>
    show Good P C S w fr b k' cs _ (valOut (fun v => k.run ev fr T v S) (f T S))
    cases hf : f T S with
    | none => exact Good.stuck
    | some v =>
      obtain ⟨x, hrun, hv⟩ := sp v hf
      exact Good.steps (.one (s_value ho hw (hr (by simp) (by simp)) hrun)) (hk C S w fr T b a k' cs v x hg hT hF hS hv)
  | act only xo f =>
    show Good P C S w fr b k' cs _ (actOut (k.run ev fr T) (f T S))
    cases hf : f T S with
    | none => exact Good.stuck
    | some p =>
      obtain ⟨v, S'⟩ := p
      obtain ⟨C', nx, w', hrun, t, hnx⟩ := sp v S' hf
      cases hnx with
      | @value _ x hv => exact Good.steps (.one (s_value ho hw (hr (by simp) (by simp)) hrun)) (Good.tran t (hk C' S' w' fr T b a k' cs v x (hg.mono t.ext) (hT.mono t.ext) (hF.mono t.ext) t.st hv))
      | skip => exact Good.steps (.one (s_nothing ho hw (hr (by simp) (by simp)) hrun)) (Good.tran t (hk C' S' w' fr T b a k' cs _ undef (hg.mono t.ext) (hT.mono t.ext) (hF.mono t.ext) t.st VR.unit))
  | pick f =>
    show Good P C S w fr b k' cs _ (picksOut (k.run ev fr T) ((f T).bind fun l => some (zipS S l)))
    cases hf : f T with
    | none => exact Good.stuck
    | some l =>
      obtain ⟨v, hv, x, hrun, hvx⟩ := sp l hf
      exact Good.steps (.one (s_value ho hw (hr (by simp) (by simp)) hrun)) (Good.ofMany (zipS_mem hv) (hk C S w fr T b a k' cs v x hg hT hF hS hvx))
  | picks f =>
    show Good P C S w fr b k' cs _ (picksOut (k.run ev fr T) (f T S))
    cases hf : f T S with
    | none => exact Good.stuck
    | some l =>
      obtain ⟨p, hp, C', x, w', hrun, t, hvx⟩ := sp l hf
      exact Good.steps (.one (s_value ho hw (hr (by simp) (by simp)) hrun)) (Good.tran t (Good.ofMany hp (hk C' p.2 w' fr T b a k' cs p.1 x (hg.mono t.ext) (hT.mono t.ext) (hF.mono t.ext) t.st hvx)))
  | call f =>
    show Good P C S w fr b k' cs _ (crOut fr T S (k.run ev fr T) ((f T S).bind fun p => callF E ev p.1 p.2 S))
    cases hf : f T S with
    | none => exact Good.stuck
    | some p =>
      obtain ⟨g, args⟩ := p
      obtain ⟨xs, hrun, hvs⟩ := sp g args hf
      simp only [Option.bind_some]
      cases hcf : callF E ev g args S with
      | none => exact Good.stuck
      | some cr =>
        have hret := hcall g args cr C S w xs (fon b a (.inRegion ops (i :: idx) :: k')) cs hcf hg hvs hS
        exact Good.steps (.one (s_enter ho hw (hr (by simp) (by simp)) hrun)) (ok_cr ho hk hg hT hF hS hret)
  | callV f ar =>
    show Good P C S w fr b k' cs _ (crOut fr T S (k.run ev fr T) ((f T).bind fun g => (ar T).bind fun args => callVF E ev args S g))
    cases hf : f T with
    | none => exact Good.stuck
    | some g =>
    cases ha : ar T with
    | none => exact Good.stuck
    | some args =>
      obtain ⟨gx, xs, hgx, hxs, hex⟩ := sp g args hf ha
      simp only [Option.bind_some]
      cases hcf : callVF E ev args S g with
      | none => exact Good.stuck
      | some cr =>
        rcases hcallV g args cr C S w gx xs (fon b a (.inRegion ops (i :: idx) :: k')) cs hcf hg hgx hxs hS with ⟨f', ys, hrun, hret⟩ | ⟨l, f', tmps, asg, body, hrun, hret⟩
        · rw [← hex] at hrun
          exact Good.steps (.one (s_enter ho hw (hr (by simp) (by simp)) hrun)) (ok_cr ho hk hg hT hF hS hret)
        · rw [← hex] at hrun
          exact Good.steps (.one (s_round ho hw (hr (by simp) (by simp)) hrun)) (ok_cr ho hk hg hT hF hS hret)
  | defer f =>
    show Good P C S w fr b k' cs _ (deferOut fr (fun fr v => k.run ev fr T v S) (f T))
    cases hf : f T with
    | none => exact Good.stuck
    | some d =>
      obtain ⟨dv, hrun, hd⟩ := sp d hf
      obtain ⟨nt, defers, pan, round⟩ := fr
      cases round with
      | some l => exact Good.stuck
      | none =>
        have hbr : b.roundOf = none := by have := hF.round; cases this with | none h => exact h
        have := hk C S w ⟨nt, d :: defers, pan, none⟩ T b { a with defers := dv :: a.defers } k' cs (.tuple []) undef hg hT ⟨.cons hd hF.defs, hF.pan, hF.round⟩ hS VR.unit
        exact Good.steps (.one (s_defer ho hw (.inl hbr) hrun)) this
  | panic f =>
    show Good P C S w fr b k' cs _ (valOut (fun v => .one ⟨.panic v, fr, T, S⟩) (f T))
    cases hf : f T with
    | none => exact Good.stuck
    | some v =>
      obtain ⟨x, hrun, hv⟩ := sp v hf
      exact Good.one (r := ⟨.panic v, fr, T, S⟩) hS hT hF ⟨_, x, .one (s_panic ho hw (hr (by simp) (by simp)) hrun), hv, by intro _ _ _ _ _ h; cases h⟩
  | recover =>
    show Good P C S w fr b k' cs _ (recoverOut fr fun fr v => k.run ev fr T v S)
    obtain ⟨nt, defers, pan, round⟩ := fr
    cases round with
    | some l => exact Good.stuck
    | none =>
      have hbr : b.roundOf = none := by have := hF.round; cases this with | none h => exact h
      have htr : ∀ todo, tryRecover (fon b a todo) cs = tryRecover b cs := by
        intro todo
        cases hk0 : b.kind <;> cases cs <;> simp [tryRecover, fon, hk0]
      have hpan := hF.pan
      cases pan with
      | none =>
        cases hpan with
        | none hno =>
          exact Good.steps (.one (s_recover_none ho hw (hr (by simp) (by simp)) sp hbr (by rw [htr]; exact hno))) (hk C S w ⟨nt, defers, none, none⟩ T b a k' cs .niliface .nilIface hg hT hF hS .niliface)
      | some v =>
        cases hpan with
        | @some _ x c rest hkd hcs hm hv =>
          subst hcs
          have hrec : tryRecover b (c :: rest) = some (x, mark (c :: rest)) := by
            simp [tryRecover, hkd, hm, mark]
          have hgood := hk C S w ⟨nt, defers, none, none⟩ T b a k' (mark (c :: rest)) v x hg hT ⟨hF.defs, .none (by simp [NoRec, tryRecover, mark, hkd, hm]), hF.round⟩ hS hv
          refine Good.steps (.one (s_recover_some ho hw (hr (by simp) (by simp)) sp hbr (by rw [htr]; exact hrec))) ?_
          intro l hl
          obtain ⟨r, hr', C', a', w', cs', h1, h2, h3, h4, h5, h6, h7⟩ := hgood l hl
          exact ⟨r, hr', C', a', w', cs', h1, h2, h3, h4, h5, CsR.trans .rec_ h6, h7⟩
end
end Am

/- The abstract machine: control (4): regions whose order is that of the text. -/
namespace Am
open Go

section
variable {E : Env} {P : Program}

theorem wantedV_ok {C : Cx} {want : Bool} {v : AV} {x : Value} (hv : VR C v x) {t : Bool} (h : wantedV want (some v) = some t) : ((match some x with | some (.bool b) => some b | _ => none : Option Bool) == some want) = t := by
  cases hv with
  | bool b =>
    simp only [wantedV] at h
    cases h
    cases b <;> cases want <;> rfl
  | any x hx => cases h
  | _ => simp only [wantedV] at h; cases h; cases want <;> rfl

theorem wanted_ok {C : Cx} {T : Tr AV} {a : Act} (hT : TR C a.tmps.size T a.tmps) {ops : Array Oper} {o : Oper} {j : Nat} {want : Bool} (hg : o.guard = some (j, want)) {t : Bool} (h : wantedC ops.toList (j, want) T = some t) :
    Region.wanted o (yielded ops a.tmps) = t := by
  have hw : Region.wanted o (yielded ops a.tmps) = (yielded ops a.tmps j == some want) := by unfold Region.wanted; rw [hg]
  rw [hw]
  unfold wantedC yieldedP at h
  rw [nth_eq, Array.getElem?_toList] at h
  unfold yielded
  cases ho : ops[j]? with
  | none =>
    rw [ho] at h
    cases h
    cases want <;> rfl
  | some oj =>
    rw [ho] at h
    cases hd : oj.dst with
    | none =>
      simp only [Option.bind_some, hd, Option.bind_none] at h ⊢
      cases h
      cases want <;> rfl
    | some d =>
      simp only [Option.bind_some, hd] at h ⊢
      cases hp : Tr.getP (pathOf d) T with
      | none => rw [hp] at h; cases h
      | some v =>
        rw [hp] at h
        obtain ⟨x, hx, hv⟩ := hT.2 d v hp
        rw [hx]
        exact wantedV_ok hv h

/-- One operation of a region, then the others. -/
theorem ok_guarded {ev : Ev} {ops : Array Oper} {i : Nat} {idx : List Nat} {o : Oper} (ho : ops[i]? = some o) {step : Cl} {k : KCl} (hk : KontOk E P ops idx o.dst (k.run ev))
    (hs : ∀ (C : Cx) (S : St) (w : World) (fr : Fr) (T : Tr AV) (b : Frame) (a : Act) (k' : List Item) (cs : List Frame), GlobR E C → TR C fr.nt T a.tmps → FrR C fr b a cs → StR C S w →
      Region.wanted o (yielded ops a.tmps) = true → Good P C S w fr b k' cs (lone (fon b a (.inRegion ops (i :: idx) :: k')) cs w) (step.run ev fr T S)) :
    OpsOk E P ops (i :: idx) ((guarded ops.toList o.guard step k).run ev) := by
  intro C S w fr T b a k' cs hg hT hF hS
  unfold guarded
  cases hgd : o.guard with
  | none => exact hs C S w fr T b a k' cs hg hT hF hS (by unfold Region.wanted; rw [hgd])
  | some g =>
    show Good P C S w fr b k' cs _ (guardOut (fun _ => step.run ev fr T S) (fun _ => k.run ev fr T (.tuple []) S) (wantedC ops.toList g T))
    cases hw : wantedC ops.toList g T with
    | none => exact Good.stuck
    | some t =>
      have hwt := wanted_ok (C := C) (a := a) ⟨rfl, hT.2⟩ (o := o) (j := g.1) (want := g.2) (by rw [hgd]) hw
      cases t with
      | true => exact hs C S w fr T b a k' cs hg hT hF hS hwt
      | false =>
        have hsk := s_op_skip (P := P) (b := b) (a := a) (k := k') (cs := cs) (w := w) (ops := ops) (i := i) (rest := idx) (by rw [ho]; exact hwt)
        simp only [ho, Option.bind_some] at hsk
        exact Good.steps (.one hsk) (hk C S w fr T b a k' cs _ undef hg hT hF hS VR.unit)

/-- Operations by their numbers. -/
inductive Idx (ops : Array Oper) : List Nat → List Oper → Prop where
  | nil : Idx ops [] []
  | cons {i : Nat} {o : Oper} {is : List Nat} {os : List Oper} (h : ops[i]? = some o) (t : Idx ops is os) : Idx ops (i :: is) (o :: os)

theorem ok_runC (he : EnvOk E P) (hx : ExtOk E P) {ev : Ev} (hcall : CallOk E P ev) (hcallV : CallVOk E P ev) {ops : Array Oper} : ∀ {rest : List Oper} {idx : List Nat},
    Idx ops idx rest → OpsOk E P ops idx ((runC E ops.toList rest).run ev)
  | _, _, .nil => by
    intro C S w fr T b a k cs hg hT hF hS
    exact Good.one (r := ⟨.normal, fr, T, S⟩) hS hT hF (.one s_region_end)
  | o :: rest, i :: idx, .cons ho t => by
    have ih := ok_runC he hx hcall hcallV t
    have hk := ok_thenK (dst := o.dst) ih
    exact ok_guarded ho hk fun C S w fr T b a k' cs hg hT hF hS hw => ok_step hcall hcallV ho (ok_op he hx o) rfl hk hg hT hF hS hw

theorem range_idx (ops : Array Oper) : ∀ m n, n + m = ops.size → Idx ops (List.range' n m) (ops.toList.drop n)
  | 0, n, h => by
    rw [List.drop_of_length_le (by simp; omega)]
    exact .nil
  | m + 1, n, h => by
    have hlt : n < ops.toList.length := by simp; omega
    rw [List.drop_eq_getElem_cons hlt, List.range'_succ]
    refine .cons ?_ (range_idx ops m (n + 1) (by omega))
    rw [← Array.getElem?_toList, List.getElem?_eq_getElem hlt]

theorem range_forall (ops : Array Oper) : Idx ops (List.range ops.size) ops.toList := by
  have := range_idx ops ops.size 0 (by omega)
  rw [List.range_eq_range']
  simpa using this

theorem ok_region (he : EnvOk E P) (hx : ExtOk E P) {ev : Ev} (hcall : CallOk E P ev) (hcallV : CallVOk E P ev) {id : Nat} {ops : Array Oper} : RunOk E P (.region id ops false) ((runC E ops.toList ops.toList).run ev) := by
  intro C S w fr T b a k cs hg hT hF hS
  exact Good.steps (.one s_region) (ok_runC he hx hcall hcallV (range_forall ops) C S w fr T b a k cs hg hT hF hS)
end
end Am

/- The abstract machine: control (5): results; deferred calls. -/
namespace Am
open Go

section
variable {E : Env} {P : Program}

/-- A result variable's value. -/
def resOne (tmps : Array Value) : ResultVar → Sem Value
  | .tmp t => pure (tmps.getD t undef)
  | .cell a t => do loadVar t (← asAddr (tmps.getD a undef))

/-- The results of a call. -/
theorem results_ok (he : EnvOk E P) {C : Cx} {S : St} {w : World} {T : Tr AV} {tmps : Array Value} (hT : TR C tmps.size T tmps) (hS : StR C S w) :
    ∀ {rs : List ResultVar} {vs : List AV}, resultsA E S T rs = some vs →
      ∃ xs, (rs.mapM (resOne tmps)).run P w = .ok xs w ∧ VRs C vs xs
  | [], vs, h => by cases h; exact ⟨[], by simp, .nil⟩
  | .tmp t :: l, vs, h => by
    simp only [resultsA] at h
    obtain ⟨v, hv, h⟩ := Option.bind_eq_some_iff.1 h
    obtain ⟨r, hr, h⟩ := Option.bind_eq_some_iff.1 h
    cases h
    obtain ⟨x, hx, hvx⟩ := hT.2 t v hv
    obtain ⟨xs, hxs, hvs⟩ := results_ok he hT hS hr
    have : tmps.getD t undef = x := by simp [Array.getD_eq_getD_getElem?, hx]
    exact ⟨x :: xs, by simp only [List.mapM_cons, resOne, Sem.run_bind, this, Sem.run_pure, Result.andThen_ok, hxs], .cons hvx hvs⟩
  | .cell a t :: l, vs, h => by
    simp only [resultsA] at h
    obtain ⟨p, hp, h⟩ := Option.bind_eq_some_iff.1 h
    obtain ⟨v, hv, h⟩ := Option.bind_eq_some_iff.1 h
    obtain ⟨r, hr, h⟩ := Option.bind_eq_some_iff.1 h
    cases h
    obtain ⟨x, hx, hvx⟩ := hT.2 a p hp
    obtain ⟨ad, y, rfl, hl, hvy⟩ := loadC_ok (P := P) he hS hvx hv
    obtain ⟨xs, hxs, hvs⟩ := results_ok he hT hS hr
    have : tmps.getD a undef = .pointer (some ad) := by simp [Array.getD_eq_getD_getElem?, hx]
    exact ⟨y :: xs, by simp only [List.mapM_cons, resOne, Sem.run_bind, this, asAddr, Sem.run_pure, Result.andThen_ok, hl, hxs], .cons hvy hvs⟩

theorem oneA_ok {C : Cx} {vs : List AV} {xs : List Value} (h : VRs C vs xs) : VR C (oneA vs) (if h : xs.toArray.size = 1 then xs.toArray[0] else .tuple xs.toArray) := by
  cases h with
  | nil => exact .tuple (by simpa using VRs.nil)
  | cons h1 t =>
    cases t with
    | nil => exact h1
    | cons h2 t => exact .tuple (by simpa [oneA] using VRs.cons h1 (VRs.cons h2 t))

theorem run_results (he : EnvOk E P) {C : Cx} {S : St} {w : World} {T : Tr AV} {tmps : Array Value} (hT : TR C tmps.size T tmps) (hS : StR C S w) {fn : Func} {vs : List AV} (h : resultsA E S T fn.results.toList = some vs) :
    ∃ x, (results fn tmps).run P w = .ok x w ∧ VR C (oneA vs) x := by
  obtain ⟨xs, hxs, hvs⟩ := results_ok (P := P) he hT hS h
  refine ⟨_, ?_, oneA_ok hvs⟩
  have hr : results fn tmps = (do let vs ← fn.results.mapM (resOne tmps); pure (if h : vs.size = 1 then vs[0] else .tuple vs)) := by
    unfold results
    congr 1
  rw [hr, Array.mapM_eq_mapM_toList]
  simp only [Sem.run_bind, Sem.run_map, hxs, Result.andThen_ok, Sem.run_pure]

/-- How a frame stands that is being left. -/
inductive ModeR (C : Cx) : FrameMode → Option AV → Prop where
  | ret : ModeR C .returning none
  | pan {v : AV} {x : Value} (h : VR C v x) : ModeR C (.panicking [{ v := x, recovered := false }]) (some v)

theorem ModeR.mono {C C' : Cx} (e : Ext C C') {m : FrameMode} {v : Option AV} (h : ModeR C m v) : ModeR C' m v := by
  cases h with
  | ret => exact .ret
  | pan h => exact .pan (h.mono e)

/-- A frame that is being left. -/
def leavingF (b : Frame) (a : Act) (todo : List Item) (mode : FrameMode) : Frame := { fn := b.fn, tmps := a.tmps, todo, defers := a.defers, mode, kind := b.kind, roundOf := b.roundOf }

theorem s_end {b : Frame} {a : Act} {cs : List Frame} {w : World} (hr : b.roundOf = none) : step P (lone (fon b a []) cs w) = .next (lone (leavingF b a [] .returning) cs w) :=
  step_lone_go (by simp [stepG, stepG.exec, fon, leavingF, hr])
theorem s_ret {b : Frame} {a : Act} {k : List Item} {cs : List Frame} {w : World} (hr : b.roundOf = none) : step P (lone (fon b a (.code .ret :: k)) cs w) = .next (lone (leavingF b a (.code .ret :: k) .returning) cs w) :=
  step_lone_go (by simp [stepG, stepG.exec, fon, leavingF, hr])

theorem s_take {b : Frame} {t : Array Value} {todo : List Item} {mode : FrameMode} (hm : mode ≠ .run) {cs : List Frame} {w : World} {blk : Nat} {ar : Array Value} {ds : List Deferred} (h : w.heap[blk]? = some (.deferred (some []))) :
    step P (lone (leavingF b ⟨t, { target := .collected blk, args := ar } :: ds⟩ todo mode) cs w) = .next (lone (leavingF b ⟨t, ds⟩ todo mode) cs (World.setBlk w blk (.deferred none))) := by
  have hrun : (Instr.takeDeferred blk).run P w = .ok [] (World.setBlk w blk (.deferred none)) := by
    simp only [Instr.takeDeferred, Sem.run_bind, run_getObj h (by simp), Result.andThen_ok, run_setObj h (by simp), Sem.run_pure]
  refine step_lone_go ?_
  cases mode with
  | run => exact absurd rfl hm
  | returning => simp [stepG, Go.unwind, leavingF, hrun]
  | panicking ch => simp [stepG, Go.unwind, leavingF, hrun]

theorem s_callDef {b : Frame} {t : Array Value} {todo : List Item} {mode : FrameMode} (hm : mode ≠ .run) {cs : List Frame} {w : World} {fn : Fn} {cap ar : Array Value} {ds : List Deferred} {f : FuncId} {ys : Array Value}
    (h : (invoke (.fn fn cap) ar).run P w = .ok (.enter f ys) w) :
    step P (lone (leavingF b ⟨t, { target := .fn fn cap, args := ar } :: ds⟩ todo mode) cs w) = .next (lone (Frame.enter P f ys .deferred) (leavingF b ⟨t, ds⟩ todo mode :: cs) w) := by
  refine step_lone_go ?_
  cases mode with
  | run => exact absurd rfl hm
  | returning => simp [stepG, Go.unwind, callDeferred, leavingF, h]
  | panicking ch => simp [stepG, Go.unwind, callDeferred, leavingF, h]

theorem putArgs_get : ∀ (l : List AV) (j : Nat) (T : Tr AV) (i : Nat), (putArgs j l T).get i = if j ≤ i ∧ i < j + l.length then l[i - j]? else T.get i
  | [], j, T, i => by
    have : ¬ (j ≤ i ∧ i < j + ([] : List AV).length) := by simp only [List.length_nil]; omega
    rw [if_neg this]; rfl
  | v :: l, j, T, i => by
    simp only [putArgs]
    rw [putArgs_get l (j + 1) _ i, get_set]
    simp only [List.length_cons]
    by_cases h1 : i = j
    · subst h1
      rw [if_neg (by omega), if_pos rfl, if_pos (by omega)]; simp
    · rw [if_neg h1]
      by_cases h2 : j + 1 ≤ i ∧ i < j + 1 + l.length
      · rw [if_pos h2, if_pos (by omega)]
        have : i - j = (i - (j + 1)) + 1 := by omega
        rw [this, List.getElem?_cons_succ]
      · rw [if_neg h2, if_neg (by omega)]

theorem nil_get (i : Nat) : (Tr.nil : Tr AV).get i = none := by
  unfold Tr.get
  cases pathOf i <;> rfl

theorem args_tr {C : Cx} {args : List AV} {ys : Array Value} (h : VRs C args ys.toList) (nt : Nat) : TR C (Nat.max nt (len' args)) (putArgs 0 args .nil) (ys ++ Array.replicate (nt - ys.size) undef) := by
  have hl := h.length
  simp only [Array.length_toList] at hl
  refine ⟨?_, fun i v hi => ?_⟩
  · simp only [Array.size_append, Array.size_replicate, len'_eq]
    rw [hl]
    show _ = max nt args.length
    omega
  · rw [putArgs_get] at hi
    split at hi
    · next hlt =>
      obtain ⟨y, hy, hr⟩ := h.get (by simpa using hi)
      refine ⟨y, ?_, hr⟩
      rw [Array.getElem?_append_left (by omega)]
      simpa using hy
    · rw [nil_get] at hi; cases hi

theorem s_leaveDef {b : Frame} {t : Array Value} {todo : List Item} {c : Frame} {cs : List Frame} {w : World} {fn : Func} {v : Value} (hk : b.kind = .deferred) (hf : P.funcs[b.fn]? = some fn) (hr : (results fn t).run P w = .ok v w) :
    step P (lone (leavingF b ⟨t, []⟩ todo .returning) (c :: cs) w) = .next (lone (match c.mode with
        | .panicking ({ recovered := true, .. } :: older) => (match older.dropWhile (!·.goexit) with | [] => { c with mode := .returning } | rest => { c with mode := .panicking rest })
        | _ => c) cs w) :=
  step_lone_go (by simp [stepG, Go.unwind, leavingF, hf, hr, doReturn, hk]; rfl)

/-- A deferred call. -/
theorem deferF_ok (he : EnvOk E P) {ev : Ev} (hev : EvOk E P ev) {f : FuncId} {args : List AV} {m : Option AV} {S S' : St} {rc : Bool} (h : deferF E ev f args m S = some (rc, S')) {C : Cx} {w : World} {ys : Array Value}
    (hg : GlobR E C) (ha : VRs C args ys.toList) (hS : StR C S w) {mode : FrameMode} (hm : ModeR C mode m) (b : Frame) (a : Act) (todo : List Item) (cs : List Frame) :
    hasBody E f = true ∧ ∃ C' w' mode', Steps P (lone (Frame.enter P f ys .deferred) (leavingF b a todo mode :: cs) w) (lone (leavingF b a todo mode') cs w') ∧ Tran C S w C' S' w' ∧ ModeR C' mode' (bif rc then none else m) := by
  unfold deferF at h
  obtain ⟨fn, hfn, h⟩ := Option.bind_eq_some_iff.1 h
  obtain ⟨c, hc, h⟩ := Option.bind_eq_some_iff.1 h
  have hp := he.fn f fn hfn
  refine ⟨by unfold hasBody; rw [hfn]; simp only [hc], ?_⟩
  split at h
  · next hres =>
    have hres0 : fn.results = #[] := Array.ext' (by simpa using hres)
    have henter : Frame.enter P f ys .deferred = fon (Frame.enter P f ys .deferred) ⟨ys ++ Array.replicate (fn.ntmps - ys.size) undef, []⟩ [.code c] := by
      simp [Frame.enter, fon, hp, hc]
    have hbk : (Frame.enter P f ys .deferred).kind = .deferred := rfl
    have hbr : (Frame.enter P f ys .deferred).roundOf = none := rfl
    have hbf : (Frame.enter P f ys .deferred).fn = f := rfl
    generalize hbd : Frame.enter P f ys .deferred = bd at henter hbk hbr hbf
    have hpan : PanR C bd (leavingF b a todo mode :: cs) (frame fn.ntmps args m).pan := by
      show PanR C bd _ m
      cases hm with
      | ret => exact .none (by simp [NoRec, tryRecover, hbk, leavingF])
      | pan hv => exact .some hbk rfl rfl hv
    have hgood := hev c C S w (frame fn.ntmps args m) (putArgs 0 args .nil) bd ⟨ys ++ Array.replicate (fn.ntmps - ys.size) undef, []⟩ [] (leavingF b a todo mode :: cs) hg (args_tr ha fn.ntmps)
      ⟨.nil, hpan, .none hbr⟩ hS
    rw [← henter] at hgood
    generalize hout : ev c (frame fn.ntmps args m) (putArgs 0 args .nil) S = out at h hgood
    -- what is left when the code has ended
    have fin : ∀ (r : Res), out = .one r → (r.ex = .normal ∨ r.ex = .ret) → r.fr.defers = [] → some (recovered m r.fr.pan, r.st) = some (rc, S') →
        ∃ C' w' mode', Steps P (lone bd (leavingF b a todo mode :: cs) w) (lone (leavingF b a todo mode') cs w') ∧ Tran C S w C' S' w' ∧ ModeR C' mode' (bif rc then none else m) := by
      intro r hr hex hdf hres'
      cases hres'
      obtain ⟨r', hr', C', a', w', cs', t, hT', hF', hn, hrd, hcs, hend⟩ := hgood [r] (by rw [hr]; rfl)
      simp only [List.mem_singleton] at hr'
      subst hr'
      have had : a'.defers = [] := by
        have := hF'.defs
        rw [hdf] at this
        cases hd : a'.defers with
        | nil => rfl
        | cons x l => rw [hd] at this; cases this
      have hst : ∃ todo', Steps P (lone bd (leavingF b a todo mode :: cs) w) (lone (leavingF bd ⟨a'.tmps, []⟩ todo' .returning) cs' w') := by
        have ea : a' = ⟨a'.tmps, []⟩ := by rw [← had]
        rcases hex with hex | hex
        · rw [hex] at hend
          exact ⟨[], by rw [← ea]; exact Steps.trans hend (.one (s_end hbr))⟩
        · rw [hex] at hend
          obtain ⟨k2, hk2⟩ := hend
          exact ⟨_, by rw [← ea]; exact Steps.trans hk2 (.one (s_ret hbr))⟩
      obtain ⟨todo', hst⟩ := hst
      have hrr : (results fn a'.tmps).run P w' = .ok (.tuple #[]) w' := by simp [results, hres0]
      have hbdf : P.funcs[bd.fn]? = some fn := by rw [hbf]; exact hp
      show ∃ C' w' mode', _
      have hpm : (frame fn.ntmps args m).pan = m := rfl
      rw [hpm] at hcs
      generalize r'.fr.pan = q at hcs
      have hm' := hm.mono t.ext
      cases hcs with
      | same =>
        refine ⟨C', w', mode, hst.trans ?_, t, ?_⟩
        · have := s_leaveDef (P := P) (b := bd) (t := a'.tmps) (todo := todo') (c := leavingF b a todo mode) (cs := cs) (w := w') hbk hbdf hrr
          refine .one (this.trans ?_)
          cases hm with
          | ret => rfl
          | pan hv => rfl
        · have : recovered m m = false := by cases m <;> rfl
          rw [this]; exact hm'
      | rec_ =>
        cases hm with
        | @pan v x hv =>
          refine ⟨C', w', .returning, hst.trans ?_, t, .ret⟩
          have := s_leaveDef (P := P) (b := bd) (t := a'.tmps) (todo := todo') (c := { leavingF b a todo (.panicking [{ v := x, recovered := false }]) with mode := .panicking [{ v := x, recovered := true }] }) (cs := cs) (w := w') hbk hbdf hrr
          exact .one this
    unfold deferEnd at h
    split at h
    · next fr' T' st =>
      cases hd : fr'.defers with
      | nil => rw [hd] at h; exact fin _ rfl (.inl rfl) hd h
      | cons x l => rw [hd] at h; cases h
    · next fr' T' st =>
      cases hd : fr'.defers with
      | nil => rw [hd] at h; exact fin _ rfl (.inr rfl) hd h
      | cons x l => rw [hd] at h; cases h
    · cases h
  · cases h

/-- The deferred calls of a frame that is being left. -/
theorem unwind_ok (he : EnvOk E P) {ev : Ev} (hev : EvOk E P ev) : ∀ {ds : List ADef} {m m' : Option AV} {S S' : St}, Am.unwind E ev ds m S = some (m', S') → ∀ {C : Cx} {w : World} {dv : List Deferred} {mode : FrameMode}, GlobR E C →
    DefsR C ds dv → StR C S w → ModeR C mode m → ∀ (b : Frame) (t : Array Value) (todo : List Item) (cs : List Frame),
    ∃ C' w' mode', Steps P (lone (leavingF b ⟨t, dv⟩ todo mode) cs w) (lone (leavingF b ⟨t, []⟩ todo mode') cs w') ∧ Tran C S w C' S' w' ∧ ModeR C' mode' m'
  | [], m, m', S, S', h, C, w, dv, mode, hg, hd, hS, hm, b, t, todo, cs => by
    cases h
    cases hd
    exact ⟨C, w, mode, .refl _ _, Tran.refl hS, hm⟩
  | d :: ds, m, m', S, S', h, C, w, dv, mode, hg, hd, hS, hm, b, t, todo, cs => by
    simp only [Am.unwind] at h
    obtain ⟨p, hp, h9⟩ := Option.bind_eq_some_iff.1 h
    cases hd with
    | cons hd1 hdt =>
    have hrun : mode ≠ .run := by cases hm <;> simp
    unfold unwind1 at hp
    cases hd1 with
    | collected hD =>
      rename_i l r
      simp only at hp
      split at hp
      · next hb =>
        cases hp
        obtain ⟨_, x, hx, hr⟩ := hS.live r _ hb
        cases hr with
        | defs =>
        have t1 := Tran.write hS hb (.defs false) (.deferred none) .undefs
        obtain ⟨C', w', mode', hs, t2, hm2⟩ := unwind_ok he hev h9 (hg.mono t1.ext) (hdt.mono t1.ext) t1.st (hm.mono t1.ext) b t todo cs
        exact ⟨C', w', mode', .head (s_take hrun hx) hs, t1.trans t2, hm2⟩
      · cases hp
    | fn hf ha hb =>
      rename_i l fn aa bb xa xb
      cases fn with
      | func f =>
        simp only at hp
        obtain ⟨q, hq, hp⟩ := Option.bind_eq_some_iff.1 hp
        cases hp
        obtain ⟨rc, S1⟩ := q
        have hargs : VRs C (aa ++ bb) (xa ++ xb).toList := by simpa using ha.append hb
        obtain ⟨hbody, C1, w1, mode1, hs1, t1, hm1⟩ := deferF_ok he hev hq hg hargs hS hm b ⟨t, l⟩ todo cs
        obtain ⟨C', w', mode', hs, t2, hm2⟩ := unwind_ok he hev h9 (hg.mono t1.ext) (hdt.mono t1.ext) t1.st hm1 b t todo cs
        refine ⟨C', w', mode', .head (s_callDef hrun ?_) (hs1.trans hs), t1.trans t2, hm2⟩
        show (callFunc f (xa ++ xb)).run P w = _
        exact callFunc_ok he hbody _ w
      | _ => cases hp
end
end Am

/- The abstract machine: control (6): what is frozen, and forgotten, behind a call. -/
namespace Am
open Go

/-- More of memory is known that nobody writes: some blocks. -/
structure Froze (C C2 : Cx) (S : St) (w : World) (K : List Nat) : Prop where
  ext : Ext C C2
  blk : ∀ b ∈ K, ∀ cs t part, S.heap.get b = some (.cells cs t part) → ∃ c e fr, w.heap[(C.pl b).blk]? = some (.cells c e fr) ∧ C2.M (C.pl b).blk = some c.toList

theorem many_some {f : AV → List Nat → Option (AV × List Nat)} {v : AV} {l : List AV} {ks : List Nat} {r} (h : frzV.many f (v :: l) ks = some r) :
    ∃ p q, f v ks = some p ∧ frzV.many f l p.2 = some q ∧ r = (p.1 :: q.1, q.2) := by
  simp only [frzV.many] at h
  obtain ⟨p, hp, h⟩ := Option.bind_eq_some_iff.1 h
  obtain ⟨q, hq, h⟩ := Option.bind_eq_some_iff.1 h
  cases h
  exact ⟨p, q, hp, hq, rfl⟩

theorem frzV_cell {S : St} {fm : Nat} : ∀ (n : Nat) {v v' : AV} {ks ks' : List Nat}, frzV S fm n v ks = some (v', ks') → v.isCell = true → v'.isCell = true
  | n + 1, v, v', ks, ks', h, hc => by
    simp only [frzV] at h
    split at h
    · next b off len sz cap =>
      cases hb : Nat.blt b fm with
      | true => rw [hb] at h; cases h; rfl
      | false =>
        rw [hb] at h
        simp only [cond_false] at h
        obtain ⟨cs, _, h⟩ := Option.bind_eq_some_iff.1 h
        obtain ⟨l, _, h⟩ := Option.bind_eq_some_iff.1 h
        obtain ⟨p, _, h⟩ := Option.bind_eq_some_iff.1 h
        cases h; rfl
    · cases hc
    · cases hc
    · next cs len sz cl =>
      cases cl with
      | true => cases h; rfl
      | false =>
        simp only [cond_false] at h
        obtain ⟨p, _, h⟩ := Option.bind_eq_some_iff.1 h
        cases h; rfl
    · obtain ⟨p, _, h⟩ := Option.bind_eq_some_iff.1 h
      cases h; rfl
    · cases h; exact hc

theorem many_cells {S : St} {fm n : Nat} : ∀ {l : List AV} {ks : List Nat} {r}, frzV.many (frzV S fm n) l ks = some r → Cells l → Cells r.1
  | [], ks, r, h, _ => by cases h; exact fun _ h => by cases h
  | v :: l, ks, r, h, hc => by
    obtain ⟨p, q, h1, h2, rfl⟩ := many_some h
    intro u hu
    rcases List.mem_cons.1 hu with rfl | hu
    · exact frzV_cell n (v' := p.1) (ks' := p.2) h1 (hc v (List.mem_cons_self ..))
    · exact many_cells h2 (fun x hx => hc x (List.mem_cons_of_mem _ hx)) u hu

theorem many_length {f : AV → List Nat → Option (AV × List Nat)} : ∀ {l : List AV} {ks : List Nat} {r}, frzV.many f l ks = some r → r.1.length = l.length
  | [], ks, r, h => by cases h; rfl
  | v :: l, ks, r, h => by
    obtain ⟨p, q, h1, h2, rfl⟩ := many_some h
    simp [many_length h2]

/-- Numbers are put to the list alone. -/
theorem frzV_keeps {S : St} {fm : Nat} : ∀ (n : Nat) {v v' : AV} {ks ks' : List Nat}, frzV S fm n v ks = some (v', ks') → ∀ b ∈ ks, b ∈ ks'
  | n + 1, v, v', ks, ks', h => by
    have many : ∀ {l : List AV} {ks : List Nat} {r}, frzV.many (frzV S fm n) l ks = some r → ∀ b ∈ ks, b ∈ r.2 := by
      intro l
      induction l with
      | nil => intro ks r h b hb; cases h; exact hb
      | cons a l ih =>
        intro ks r h b hb
        obtain ⟨p, q, h1, h2, rfl⟩ := many_some h
        exact ih h2 b (frzV_keeps n (v' := p.1) (ks' := p.2) h1 b hb)
    simp only [frzV] at h
    split at h
    · next b off len sz cap =>
      cases hb : Nat.blt b fm with
      | true => rw [hb] at h; cases h; exact fun _ h => h
      | false =>
        rw [hb] at h
        simp only [cond_false] at h
        obtain ⟨cs, _, h⟩ := Option.bind_eq_some_iff.1 h
        obtain ⟨l, _, h⟩ := Option.bind_eq_some_iff.1 h
        obtain ⟨p, hp, h⟩ := Option.bind_eq_some_iff.1 h
        cases h
        exact fun x hx => List.mem_cons_of_mem _ (many hp x hx)
    · obtain ⟨p, hp, h⟩ := Option.bind_eq_some_iff.1 h
      cases h; exact many hp
    · obtain ⟨p, hp, h⟩ := Option.bind_eq_some_iff.1 h
      cases h; exact many hp
    · next cs len sz cl =>
      cases cl with
      | true => cases h; exact fun _ h => h
      | false =>
        simp only [cond_false] at h
        obtain ⟨p, hp, h⟩ := Option.bind_eq_some_iff.1 h
        cases h; exact many hp
    · obtain ⟨p, hp, h⟩ := Option.bind_eq_some_iff.1 h
      cases h
      exact frzV_keeps n (v' := p.1) (ks' := p.2) hp
    · cases h; exact fun _ h => h

/-- A frozen value stands for the same. -/
theorem frzV_ok {C C2 : Cx} {S : St} {w : World} (hS : StR C S w) {fm : Nat} {K : List Nat} (hF : Froze C C2 S w K) : ∀ (n : Nat) {v v' : AV} {ks ks' : List Nat} {x : Value}, frzV S fm n v ks = some (v', ks') →
    (∀ b ∈ ks', b ∈ K) → VR C v x → VR C2 v' x
  | n + 1, v, v', ks, ks', x, h, hK, hv => by
    have many : ∀ {l : List AV} {ks : List Nat} {r} {xs : List Value}, frzV.many (frzV S fm n) l ks = some r → (∀ b ∈ r.2, b ∈ K) → VRs C l xs → VRs C2 r.1 xs := by
      intro l
      induction l with
      | nil => intro ks r xs h _ hv; cases h; cases hv; exact .nil
      | cons a l ih =>
        intro ks r xs h hK hv
        obtain ⟨p, q, h1, h2, rfl⟩ := many_some h
        cases hv with
        | cons hv1 hvt =>
        have hk1 : ∀ b ∈ p.2, b ∈ q.2 := by
          clear ih hvt
          have : ∀ {l : List AV} {ks : List Nat} {r}, frzV.many (frzV S fm n) l ks = some r → ∀ b ∈ ks, b ∈ r.2 := by
            intro l
            induction l with
            | nil => intro ks r h b hb; cases h; exact hb
            | cons a l ih =>
              intro ks r h b hb
              obtain ⟨p, q, h1, h2, rfl⟩ := many_some h
              exact ih h2 b (frzV_keeps n (v' := p.1) (ks' := p.2) h1 b hb)
          exact this h2
        exact .cons (frzV_ok hS hF n (v' := p.1) (ks' := p.2) h1 (fun b hb => hK b (hk1 b hb)) hv1) (ih h2 hK hvt)
    simp only [frzV] at h
    split at h
    · next b off len sz cap =>
      cases hb : Nat.blt b fm with
      | true => rw [hb] at h; cases h; exact hv.mono hF.ext
      | false =>
        rw [hb] at h
        simp only [cond_false] at h
        obtain ⟨cs, hcs, h⟩ := Option.bind_eq_some_iff.1 h
        obtain ⟨l, hl, h⟩ := Option.bind_eq_some_iff.1 h
        obtain ⟨p, hp, h⟩ := Option.bind_eq_some_iff.1 h
        cases h
        cases hv with
        | slice0 hx0 hd hc =>
          have : l = [] := by
            obtain ⟨_, _, _, _, h3⟩ := cut_some hl
            exact List.eq_nil_of_length_eq_zero (by simpa using h3)
          subst this
          cases hp
          exact .islice0 _ (by simp) (Nat.zero_le _)
        | slice hd hc hlc =>
          obtain ⟨_, c, e, fr, vs, hx, hvs, hat, hsz, hcc, _⟩ := hS.cells hcs
          obtain ⟨t, part, hob⟩ := cellsOf?_some hcs
          obtain ⟨c', e', fr', hx', hM⟩ := hF.blk b (hK b (List.mem_cons_self ..)) cs t part hob
          rw [hx] at hx'; cases hx'
          obtain ⟨pre, post, hcsl, hpl, hll⟩ := cut_some hl
          rw [hcsl] at hvs hcc
          obtain ⟨y1, z3, rfl, h1, h4⟩ := VRs.split hvs
          obtain ⟨y0, y, rfl, h2, h3⟩ := VRs.split h1
          have hvl := many hp (fun k hk => hK k (List.mem_cons_of_mem _ hk)) h3
          have hlen := many_length hp
          refine .islice (blk := (C.pl b).blk) (by rw [hlen, hll]) hM (vs := y) ?_ hvl (fun hcl => closeds_bare 40 hvl hcl) (many_cells hp hcc.sub.1.sub.2) hlc
          have := hat.sub (a := y0) (b := y) (c := z3) rfl
          rw [h2.length, hpl] at this
          exact this
    · obtain ⟨p, hp, h⟩ := Option.bind_eq_some_iff.1 h
      cases h
      cases hv with
      | agg hvs hcs => exact .agg (many hp hK hvs) (many_cells hp hcs)
    · obtain ⟨p, hp, h⟩ := Option.bind_eq_some_iff.1 h
      cases h
      cases hv with
      | tuple hvs => exact .tuple (many hp hK hvs)
    · next cs len sz cl =>
      cases cl with
      | true => cases h; exact hv.mono hF.ext
      | false =>
        simp only [cond_false] at h
        obtain ⟨p, hp, h⟩ := Option.bind_eq_some_iff.1 h
        cases h
        cases hv with
        | islice0 a hl hlc => cases hp; exact .islice0 a hl hlc
        | islice hl hm ha hvs hc hcs hlc =>
          have hvl := many hp hK hvs
          exact .islice (by rw [many_length hp, hl]) (hF.ext.M _ _ hm) ha hvl (fun hcl => closeds_bare 40 hvl hcl) (many_cells hp hcs) hlc
    · obtain ⟨p, hp, h⟩ := Option.bind_eq_some_iff.1 h
      cases h
      cases hv with
      | iface hu => exact .iface (frzV_ok hS hF n (v' := p.1) (ks' := p.2) hp hK hu)
    · cases h; exact hv.mono hF.ext

theorem kill_get : ∀ (K : List Nat) (S : St) (b : Nat), (kill S K).heap.get b = if b ∈ K then none else S.heap.get b
  | [], S, b => by simp [kill]
  | a :: l, S, b => by
    simp only [kill]
    rw [kill_get l, put_get]
    by_cases h : b = a
    · subst h; simp
    · simp [h]

theorem kill_tran : ∀ (K : List Nat) {C : Cx} {S : St} {w : World}, StR C S w → Tran C S w C (kill S K) w ∧ ∀ b ∈ K, Mind S (kill S K).log b
  | [], C, S, w, hS => ⟨Tran.refl hS, fun _ h => by cases h⟩
  | a :: l, C, S, w, hS => by
    have t1 := Tran.kill hS a
    obtain ⟨t2, h2⟩ := kill_tran l t1.st
    refine ⟨t1.trans t2, fun b hb => ?_⟩
    rcases List.mem_cons.1 hb with rfl | hb
    · exact (put_log S b none).1.mono t2.log
    · exact (h2 b hb).imp id (fun x => by rw [t1.bound] at x; exact x)

open Classical in
/-- The context in which some blocks are never written any more. -/
noncomputable def Cx.froze (C : Cx) (S : St) (w : World) (K : List Nat) : Cx :=
  { C with M := fun blk => if ∃ b ∈ K, ∃ o, S.heap.get b = some o ∧ (C.pl b).blk = blk then (match w.heap[blk]? with | some (.cells c _ _) => some c.toList | _ => none) else C.M blk }

theorem froze_ok {C : Cx} {S : St} {w : World} (hS : StR C S w) (K : List Nat) : Froze C (C.froze S w K) S w K ∧ Tran C S w (C.froze S w K) (kill S K) w := by
  have hM : ∀ blk ms, C.M blk = some ms → (C.froze S w K).M blk = some ms := by
    intro blk ms h
    simp only [Cx.froze]
    rw [if_neg]
    · exact h
    · rintro ⟨b, hb, o, ho, rfl⟩
      rw [hS.apart b o ho] at h; cases h
  have e : Ext C (C.froze S w K) := ⟨fun _ h => h, fun _ _ => rfl, hM, fun _ _ h => h, fun _ _ _ => rfl, fun _ h => h⟩
  have hinv : ∀ blk ms, (C.froze S w K).M blk = some ms → C.M blk = some ms ∨ ∃ b ∈ K, ∃ o, S.heap.get b = some o ∧ (C.pl b).blk = blk ∧ ∃ c e fr, w.heap[blk]? = some (.cells c e fr) ∧ c.toList = ms := by
    intro blk ms h
    simp only [Cx.froze] at h
    split at h
    · next hex =>
      obtain ⟨b, hb, o, ho, hbl⟩ := hex
      split at h
      · next c e fr hx => cases h; exact .inr ⟨b, hb, o, ho, hbl, c, e, fr, hx, rfl⟩
      · cases h
    · exact .inl h
  obtain ⟨t1, hmind⟩ := kill_tran K hS
  refine ⟨⟨e, ?_⟩, ⟨e, ⟨?_, t1.st.inj, t1.st.fresh, ?_, ?_, t1.st.stamps, t1.st.there, t1.st.knownD, fun blk ms hm => (hinv blk ms hm).elim (hS.knownM blk ms) fun ⟨b, _, o, ho, hbl, _⟩ => hbl ▸ hS.knownD b (hS.live b o ho).1⟩, t1.bound, t1.log, t1.next, t1.size, t1.frame, t1.kept, t1.dnew, t1.own, ?_, t1.misc⟩⟩
  · intro b hb cs t part ho
    obtain ⟨_, x, hx, hr⟩ := hS.live b _ ho
    cases hr with
    | cells hv ha hs hcs hf hp =>
      refine ⟨_, _, _, hx, ?_⟩
      simp only [Cx.froze]
      rw [if_pos ⟨b, hb, _, ho, rfl⟩, hx]
  · intro b o hb
    obtain ⟨hd, x, hx, hr⟩ := t1.st.live b o hb
    exact ⟨hd, x, hx, hr.mono e hd (fun _ h => h)⟩
  · intro blk ms hm
    rcases hinv blk ms hm with h | ⟨b, hb, o, ho, hbl, c, e, fr, hx, hc⟩
    · exact hS.imm blk ms h
    · exact ⟨c, e, fr, hx, hc⟩
  · intro b o hb
    cases hm : (C.froze S w K).M (C.pl b).blk with
    | none => exact hm
    | some ms =>
      exfalso
      rw [kill_get] at hb
      split at hb
      · cases hb
      · next hnk =>
        rcases hinv _ ms hm with h | ⟨b', hb', o', ho', hbl, _⟩
        · rw [hS.apart b o hb] at h; cases h
        · exact hnk (hS.inj b' b o' o ho' hb hbl ▸ hb')
  · intro blk ms hm
    rcases hinv blk ms hm with h | ⟨b, hb, o, ho, hbl, _⟩
    · exact .inl h
    · exact .inr (.inr ⟨b, o, ho, hmind b hb, hbl⟩)

/-- A value whose blocks are old is known in what remains. -/
theorem under_ok {C C' : Cx} {m : Nat} (hD : ∀ b, b < m → C'.D b → C.D b ∧ C'.pl b = C.pl b) (hG : ∀ b n, b < m → C'.G b n → C.G b n ∧ C'.gh b n = C.gh b n) :
    ∀ (n : Nat) {v : AV} {x : Value}, underV m n v = true → VR C' v x → VR (C.withM C') v x
  | n + 1, v, x, h, hv => by
    have many : ∀ {l : List AV} {xs : List Value}, l.all (underV m n) = true → VRs C' l xs → VRs (C.withM C') l xs := by
      intro l
      induction l with
      | nil => intro xs _ hv; cases hv; exact .nil
      | cons a l ih =>
        intro xs h hv
        simp only [List.all_cons, Bool.and_eq_true] at h
        cases hv with
        | cons h1 t => exact .cons (under_ok hD hG n h.1 h1) (ih h.2 t)
    have hbare : Ext C'.bare (C.withM C').bare := ⟨fun _ x => x.elim, fun _ x => x.elim, fun _ _ h => h, fun _ _ x => x.elim, fun _ _ x => x.elim, fun _ h => h⟩
    cases hv with
    | bool b => exact .bool b
    | int k n => exact .int k n
    | str hs => exact .str hs
    | nilptr => exact .nilptr
    | @ptr _ b off hd =>
      simp only [underV] at h
      obtain ⟨h1, h2⟩ := hD b (by simpa [Nat.blt_eq] using h) hd
      rw [h2]; exact VR.ptr (C := C.withM C') h1
    | iptr hm ha hvs hc => exact .iptr (C := C.withM C') hm ha (many (by simpa [underV] using h) hvs) hc
    | nilslice a hx => exact .nilslice a hx
    | @slice _ b off len sz cap c hd hc hlc =>
      simp only [underV] at h
      obtain ⟨h1, h2⟩ := hD b (by simpa [Nat.blt_eq] using h) hd
      rw [h2]
      refine VR.slice (C := C.withM C') h1 ?_ hlc
      cases cap with
      | some k => exact hc
      | none => simp only [CapR, h2] at hc; exact hc
    | @slice0 _ b off sz a c hx hd hc =>
      simp only [underV] at h
      obtain ⟨h1, h2⟩ := hD b (by simpa [Nat.blt_eq] using h) hd
      rw [h2] at hc
      exact VR.slice0 (C := C.withM C') hx h1 hc
    | islice0 a h0 hlc => exact .islice0 a h0 hlc
    | @islice _ blk off len sz c cl cs ms vs hl hm ha hvs hc hcs hlc =>
      simp only [underV, Bool.or_eq_true] at h
      refine VR.islice (C := C.withM C') hl hm ha ?_ (fun hcl => (hc hcl).mono hbare) hcs hlc
      rcases h with h | h
      · exact ((hc h).mono hbare).mono (.of_bare _)
      · exact many h hvs
    | nilmap => exact .nilmap
    | @map _ b hd =>
      simp only [underV] at h
      obtain ⟨h1, h2⟩ := hD b (by simpa [Nat.blt_eq] using h) hd
      rw [h2]; exact VR.map (C := C.withM C') h1
    | @stamp _ b n hg =>
      simp only [underV] at h
      obtain ⟨h1, h2⟩ := hG b n (by simpa [Nat.blt_eq] using h) hg
      rw [h2]; exact VR.stamp (C := C.withM C') h1
    | junk p => exact .junk p
    | any x h => exact .any x h
    | @func _ fn a b x y hf ha hb =>
      have : (a.all (underV m n) && b.all (underV m n)) = true := by
        cases fn with
        | yield l => exact absurd rfl (hf l)
        | _ => simpa [underV] using h
      simp only [Bool.and_eq_true] at this
      exact .func hf (many this.1 ha) (many this.2 hb)
    | @yield _ l hd =>
      simp only [underV] at h
      obtain ⟨h1, h2⟩ := hD l (by simpa [Nat.blt_eq] using h) hd
      rw [h2]; exact VR.yield (C := C.withM C') h1
    | nilfunc => exact .nilfunc
    | iface hu => exact .iface (under_ok hD hG n (by simpa [underV] using h) hu)
    | niliface => exact .niliface
    | agg hvs hcs => exact .agg (many (by simpa [underV] using h) hvs) hcs
    | tuple hvs => exact .tuple (many (by simpa [underV] using h) hvs)

section
variable {E : Env} {P : Program}

theorem frozenFrom_ok {n : Nat} {v v' : AV} {S S' : St} (h : frozenFrom n v S = some (v', S')) {C : Cx} {w : World} (hS : StR C S w) {x : Value} (hv : VR C v x) : ∃ C', Tran C S w C' S' w ∧ VR C' v' x := by
  unfold frozenFrom at h
  obtain ⟨p, hp, h⟩ := Option.bind_eq_some_iff.1 h
  cases h
  obtain ⟨hf, ht⟩ := froze_ok hS p.2
  exact ⟨_, ht, frzV_ok hS hf 40 (v' := p.1) (ks' := p.2) hp (fun _ h => h) hv⟩

theorem frozen_ok {f : FuncId} {s0 : St} {v v' : AV} {S S' : St} (h : frozen E f s0 v S = some (v', S')) {C : Cx} {w : World} (hS : StR C S w) {x : Value} (hv : VR C v x) : ∃ C', Tran C S w C' S' w ∧ VR C' v' x := by
  unfold frozen at h
  split at h
  · cases h; exact ⟨C, Tran.refl hS, hv⟩
  · split at h
    · exact frozenFrom_ok h hS hv
    · cases h; exact ⟨C, Tran.refl hS, hv⟩
  · exact frozenFrom_ok h hS hv

/-- What a call comes to, in its caller's heap. -/
def CrR (C : Cx) (S : St) (w : World) (x : Value) (w' : World) : CR → Prop
  | .same v => ∃ C', Tran C S w C' S w' ∧ VR C' v x
  | .val v S' => ∃ C', Tran C S w C' S' w' ∧ VR C' v x
  | .pan _ _ => False

theorem leave_ok {f : FuncId} {S S1 : St} {v : AV} {cr : CR} (h : leave E f S v S1 = some cr) {C C1 : Cx} {w w1 : World} (hS : StR C S w) (t : Tran C S.enter w C1 S1 w1) {x : Value} (hv : VR C1 v x) : CrR C S w x w1 cr := by
  unfold leave at h
  obtain ⟨p, hp, h⟩ := Option.bind_eq_some_iff.1 h
  cases h
  obtain ⟨v', S'⟩ := p
  obtain ⟨C2, t2, hv2⟩ := frozen_ok hp t.st hv
  have t3 := t.trans t2
  unfold leaveQ
  simp only
  split
  · next hlog =>
    cases hu : underV S.next 40 v' with
    | false => exact ⟨C2, t3.back hS, hv2⟩
    | true =>
      refine ⟨_, t3.forget hS hlog, under_ok (m := S.next) (fun b hb hd => ?_) (fun b n hb hg => ?_) 40 hu hv2⟩
      · have hd' : C.D b := (t3.dnew b hd).resolve_right (fun h => by have : S.next ≤ b := h; omega)
        exact ⟨hd', t3.ext.pl b hd'⟩
      · have hd2 := t3.st.stamps b n hg
        have hd' : C.D b := (t3.dnew b hd2).resolve_right (fun h => by have : S.next ≤ b := h; omega)
        have hk := (t3.kept b hd' (fun hm => by
          rcases hm with hm | hm
          · rw [hlog] at hm; cases hm
          · have : S.next ≤ b := hm
            omega)).2 n hg
        exact ⟨hk, t3.ext.gh b n hk⟩
  · exact ⟨C2, t3.back hS, hv2⟩
end
end Am

/- The abstract machine: functions of the library that have no body; strings over bytes. -/
namespace Am
open Go

/-- The names of the functions without a body that the machine knows. -/
def extName (n : String) : Bool := n == "internal/abi.NoEscape" || n == "internal/bytealg.MakeNoZero" || n == "internal/bytealg.CountString" || n == "internal/bytealg.IndexByteString"

/-- What a function of such a name was made from is none that hands on a call. -/
def originOk (fn : Func) : Bool := !(extName fn.name) || (Extern.allNextRows.lookup fn.origin).isNone

theorem find_row {fn : Func} {n : String} {e : Array Value → Sem Value} (hn : fn.name = n) (h1 : Extern.allGenericRows.lookup n = none) (h2 : Extern.allTypedRows.lookup n = none) (h3 : Extern.allRows.lookup n = some e) :
    Extern.find fn = some e := by
  unfold Extern.find
  simp [hn, h1, h2, h3]

theorem find_typed {fn : Func} {n : String} {e : Extern.Typed} (hn : fn.name = n) (h1 : Extern.allGenericRows.lookup n = none) (h2 : Extern.allTypedRows.lookup n = some e) :
    Extern.find fn = some (e fn.params fn.resultTypes) := by
  unfold Extern.find
  simp [hn, h1, h2]

theorem findNext_none {fn : Func} {n : String} (hn : fn.name = n) (h1 : Extern.allNextRows.lookup n = none) (h2 : (Extern.allNextRows.lookup fn.origin).isNone = true) : Extern.findNext fn = none := by
  unfold Extern.findNext
  have : Extern.allNextRows.lookup fn.origin = none := by simpa using h2
  simp [hn, h1, this]

section
variable {E : Env} {P : Program} (he : EnvOk E P)
include he

theorem ext_run {o : Oper} {c : Call} {f : FuncId} {fn : Func} {e : Array Value → Sem Value} (ho : o.op = .call c) (hc : c.callee = .value (.func f)) (hf : E.fns.get f = some fn) (hb : fn.body.isNone = true) (hn : Extern.findNext fn = none)
    (hfd : Extern.find fn = some e) (a : Act) (w : World) : (execOp a.eval o).run P w = ((e (c.args.toList.map a.eval).toArray).run P w).andThen fun v w' => .ok (.value v) w' := by
  simp only [execOp, ho, resolve, hc, Act.eval, Deferred.ofValue, Sem.run_bind, Sem.run_pure, Result.andThen_ok, invoke, Array.empty_append, Array.append_empty]
  rw [args_map, run_callFunc_extern (he.fn f fn hf) (he.lone f fn hf) hb hn hfd]

omit he in
theorem toU8 {n : Nat} (h : n < 256) (b : UInt8) : (b == n.toUInt8) = Nat.beq b.toNat n := by
  have h1 : n.toUInt8.toNat = n := by simp [Nat.mod_eq_of_lt h]
  cases hb : Nat.beq b.toNat n with
  | true =>
    have := Nat.eq_of_beq_eq_true hb
    have : b = n.toUInt8 := UInt8.toNat_inj.1 (by rw [h1]; exact this)
    simp [this]
  | false =>
    have := Nat.ne_of_beq_eq_false hb
    have hne : b ≠ n.toUInt8 := fun e => this (by rw [e, h1])
    simp [hne]

omit he in
theorem cntA_eq {n : Nat} (h : n < 256) : ∀ l : List UInt8, Go.Lib.countByte l n.toUInt8 = cntA n l
  | [] => rfl
  | b :: l => by
    have ih := cntA_eq h l
    simp only [Go.Lib.countByte, cntA] at ih ⊢
    rw [List.count_cons, toU8 h, ih]
    cases Nat.beq b.toNat n <;> rfl

omit he in
theorem idxA_eq {n : Nat} (h : n < 256) : ∀ l : List UInt8, Go.Lib.indexByte l n.toUInt8 = (match idxA n l with | some k => (k : Int) | none => -1)
  | [] => rfl
  | b :: l => by
    have ih := idxA_eq h l
    simp only [Go.Lib.indexByte, idxA, toU8 h]
    cases Nat.beq b.toNat n with
    | true => rfl
    | false =>
      simp only [Bool.false_eq_true, if_false, cond_false]
      rw [ih]
      cases hi : idxA n l with
      | none => rfl
      | some k =>
        simp only [Option.bind_some]
        have : ¬ (((k : Int) == -1) = true) := by
          intro h
          simp at h
        rw [if_neg this]
        rfl

omit he in
theorem digits_size : ∀ (n t : Nat) (acc : Array Value), (Extern.BytealgMakeNoZero.digits n t acc).size = acc.size + n
  | 0, _, _ => rfl
  | n + 1, t, acc => by
    rw [Extern.BytealgMakeNoZero.digits, digits_size n, Array.size_push]
    omega

theorem noZero_run {t e : TypeId} (hu : und E t = some (.slice e)) (ps : Array TypeId) (n : Nat) (hn : n ≤ 281474976710656) (w : World) :
    ∃ cs : Array Value, (Extern.BytealgMakeNoZero.makeNoZero ps #[t] #[.int .i64 (n : Int)]).run P w = .ok (.slice (some ⟨w.heap.size, 0, none⟩) n cs.size) (World.pushed { w with drawn := w.drawn + 1 + 1 } (.cells cs e (0, 0))) ∧ n ≤ cs.size := by
  have h1 : ¬ (n : Int) < 0 := by omega
  have h2 : ¬ (281474976710656 : Int) < (n : Int) := by omega
  have hdef : ∃ (m1 m2 : String) (q : Question), Extern.BytealgMakeNoZero.makeNoZero ps #[t] #[.int .i64 (n : Int)] =
      (do
        let .slice elem ← underlying t | stuck m1
        if (n : Int) < 0 || (n : Int) > 2 ^ 48 then runtimePanic (.error m2)
        let cap ← choose (.appendCap (n : Int).toNat 0 elem)
        askRoom cap
        let bytes ← choose q
        let a ← newRow elem (Extern.BytealgMakeNoZero.digits cap bytes #[])
        pure (.slice (some a) (n : Int).toNat cap)) ∧ q.forced = false := ⟨_, _, _, rfl, rfl⟩
  obtain ⟨m1, m2, q, hdef, hq⟩ := hdef
  refine ⟨Extern.BytealgMakeNoZero.digits (grownCap w n 0 e) (q.cut (w.tape (w.drawn + 1) q)) #[], ?_, ?_⟩
  · rw [hdef]
    have hq1 : (Question.appendCap n 0 e).forced = false := rfl
    simp [run_underlying (und_ok he hu), h1, h2, hq, hq1, newRow, digits_size, grownCap, World.pushed]
    rfl
  · rw [digits_size]
    simpa using grownCap_ge w n 0 e

omit he in
theorem countV_some {a b v : AV} (h : countV a b = some v) : ∃ l c, a = .str l ∧ b = .int .u8 ((c : Nat) : Int) ∧ c < 256 ∧ v = .int .i64 (cntA c l) := by
  unfold countV at h
  split at h
  · next l c =>
    cases hlt : Nat.blt c 256 with
    | false => rw [hlt] at h; cases h
    | true => rw [hlt] at h; cases h; exact ⟨l, c, rfl, rfl, by simpa [Nat.blt_eq] using hlt, rfl⟩
  · cases h

omit he in
theorem indexByteV_some {a b v : AV} (h : indexByteV a b = some v) : ∃ l c, a = .str l ∧ b = .int .u8 ((c : Nat) : Int) ∧ c < 256 ∧ v = .int .i64 (match idxA c l with | some k => (k : Int) | none => -1) := by
  unfold indexByteV at h
  split at h
  · next l c =>
    cases hlt : Nat.blt c 256 with
    | false => rw [hlt] at h; cases h
    | true =>
      rw [hlt] at h
      simp only [cond_true] at h
      refine ⟨l, c, rfl, rfl, by simpa [Nat.blt_eq] using hlt, ?_⟩
      cases hi : idxA c l with
      | none => rw [hi] at h; cases h; rfl
      | some k => rw [hi] at h; cases h; rfl
  · cases h

theorem ok_ext (hor : ∀ f fn, E.fns.get f = some fn → originOk fn = true) {o : Oper} {c : Call} {f : FuncId} (ho : o.op = .call c) (hc : c.callee = .value (.func f)) (hb : hasBody E f = false) :
    SOk E P o (externC E f (nameOf E f) c.args.toList) := by
  cases hf : E.fns.get f with
  | none =>
    have : nameOf E f = "" := by simp [nameOf, hf]
    rw [this]
    unfold externC
    split
    · exact SOk.bad
    · exact SOk.bad
    · exact SOk.bad
  | some fn =>
  have hname : nameOf E f = fn.name := by simp [nameOf, hf]
  have hbody : fn.body.isNone = true := by
    unfold hasBody at hb
    rw [hf] at hb
    cases hq : fn.body with
    | none => rfl
    | some x => simp only [hq] at hb; cases hb
  have hor' := hor f fn hf
  have org : extName fn.name = true → (Extern.allNextRows.lookup fn.origin).isNone = true := by
    intro h
    unfold originOk at hor'
    rw [h] at hor'
    simpa using hor'
  rw [hname]
  unfold externC
  split
  · next x hargs =>
    cases h1 : (fn.name == "internal/abi.NoEscape") with
    | true =>
      have hn : fn.name = "internal/abi.NoEscape" := by simpa using h1
      have ht := org (by simp [extName, h1])
      have run := ext_run he ho hc hf hbody (findNext_none hn (by kernel_rfl) ht) (find_row (e := Extern.AbiNoEscape.same) hn (by kernel_rfl) (by kernel_rfl) (by kernel_rfl))
      intro C T a S w hg hT hS v h
      refine ⟨a.eval x, ?_, opnd_ok hg hT h⟩
      rw [run, hargs]
      rfl
    | false =>
    cases h2 : (fn.name == "internal/bytealg.MakeNoZero") with
    | true =>
      have hn : fn.name = "internal/bytealg.MakeNoZero" := by simpa using h2
      have ht := org (by simp [extName, h2])
      have run := ext_run he ho hc hf hbody (findNext_none hn (by kernel_rfl) ht) (find_typed (e := Extern.BytealgMakeNoZero.makeNoZero) hn (by kernel_rfl) (by kernel_rfl))
      simp only [cond_false, cond_true]
      rw [hf]
      cases hby : byteT E (some fn) with
      | none => exact SOk.bad
      | some e =>
      simp only
      have hrt : ∃ t, fn.resultTypes = #[t] ∧ und E t = some (.slice e) := by
        unfold byteT at hby
        split at hby
        · next fn' hfn =>
          cases hfn
          split at hby
          · next t hl =>
            split at hby
            · next e' hu =>
              cases hq : isByte E e' with
              | false => rw [hq] at hby; cases hby
              | true =>
                rw [hq] at hby; cases hby
                exact ⟨t, by apply Array.ext'; simpa using hl, hu⟩
            · cases hby
          · cases hby
        · cases hby
      obtain ⟨t, hrt, hu⟩ := hrt
      intro C T a S w hg hT hS
      have key : ∀ m, ((opnd E x T).bind (noZeroV e)) = some m → ∃ n : Nat, VR C (.int .i64 (n : Int)) (a.eval x) ∧ 0 < n ∧ n ≤ 1099511627776 ∧ m = .obj (.cells [] e true) fun i => .slice i 0 n 1 none := by
        intro m h
        obtain ⟨v, hv, h⟩ := Option.bind_eq_some_iff.1 h
        unfold noZeroV at h
        split at h
        · next n =>
          cases hcn : (Nat.blt 0 n && Nat.ble n 1099511627776) with
          | false => rw [hcn] at h; cases h
          | true =>
            rw [hcn] at h
            simp only [cond_true, Option.some.injEq] at h
            rw [Bool.and_eq_true] at hcn
            exact ⟨n, opnd_ok hg hT hv, by simpa [Nat.blt_eq] using hcn.1, Nat.le_of_ble_eq_true hcn.2, h.symm⟩
        · cases h
      refine ⟨fun v h => ?_, fun ob g h => ?_⟩
      · obtain ⟨n, _, _, _, h⟩ := key _ h; cases h
      · obtain ⟨n, hv, hn0, hn1, h⟩ := key _ h
        cases h
        generalize hq : a.eval x = q at hv
        cases hv
        obtain ⟨cs, hrow, hle⟩ := noZero_run he hu fn.params n (by omega) w
        have hw1 := Tran.drew hS (w.drawn + 1)
        have hw2 := Tran.drew hw1.st (w.drawn + 1 + 1)
        have hal := make_cells hw2.st (cs := []) (c := cs) (vs := []) (ex := cs.toList) .nil (by simp) (fun _ h => by cases h) e true (fun h => by cases h)
        refine ⟨_, _, _, ?_, (hw1.trans hw2).trans hal, fresh_slice (n := cs.size) (cap := none) (c := cs.size) ⟨by simp, Nat.one_pos⟩ hle⟩
        rw [run, hargs]
        simp only [List.map_cons, List.map_nil, hq, hrt]
        rw [hrow]
        rfl
    | false =>
      simp only [cond_false]
      exact SOk.bad
  · next x y hargs =>
    cases h1 : (fn.name == "internal/bytealg.CountString") with
    | true =>
      have hn : fn.name = "internal/bytealg.CountString" := by simpa using h1
      have ht := org (by simp [extName, h1])
      have run := ext_run he ho hc hf hbody (findNext_none hn (by kernel_rfl) ht) (find_row (e := Extern.BytealgCount.count) hn (by kernel_rfl) (by kernel_rfl) (by kernel_rfl))
      intro C T a S w hg hT hS v h
      obtain ⟨u1, hu1, h⟩ := Option.bind_eq_some_iff.1 h
      obtain ⟨u2, hu2, h⟩ := Option.bind_eq_some_iff.1 h
      have hv1 := opnd_ok hg hT hu1
      have hv2 := opnd_ok hg hT hu2
      obtain ⟨l, c', rfl, rfl, hlt', rfl⟩ := countV_some h
      generalize hq1 : a.eval x = q1 at hv1
      generalize hq2 : a.eval y = q2 at hv2
      cases hv1 with
      | @str _ _ s hs =>
      cases hv2
      refine ⟨_, ?_, .int _ _⟩
      rw [run, hargs]
      simp only [List.map_cons, List.map_nil, hq1, hq2]
      have := Go.Lib.run_countString (P := P) s (c' : Int) w
      simp only [Int.toNat_natCast] at this
      rw [hs, cntA_eq hlt'] at this
      show ((Extern.BytealgCount.count #[.string s, .int .u8 (c' : Int)]).run P w).andThen _ = _
      rw [this]
      rfl
    | false =>
    cases h2 : (fn.name == "internal/bytealg.IndexByteString") with
    | true =>
      have hn : fn.name = "internal/bytealg.IndexByteString" := by simpa using h2
      have ht := org (by simp [extName, h2])
      have run := ext_run he ho hc hf hbody (findNext_none hn (by kernel_rfl) ht) (find_row (e := Extern.BytealgIndexByte.indexByte) hn (by kernel_rfl) (by kernel_rfl) (by kernel_rfl))
      intro C T a S w hg hT hS v h
      obtain ⟨u1, hu1, h⟩ := Option.bind_eq_some_iff.1 h
      obtain ⟨u2, hu2, h⟩ := Option.bind_eq_some_iff.1 h
      have hv1 := opnd_ok hg hT hu1
      have hv2 := opnd_ok hg hT hu2
      obtain ⟨l, c', rfl, rfl, hlt', rfl⟩ := indexByteV_some h
      generalize hq1 : a.eval x = q1 at hv1
      generalize hq2 : a.eval y = q2 at hv2
      cases hv1 with
      | @str _ _ s hs =>
      cases hv2
      have := Go.Lib.run_indexByteString (P := P) s (c' : Int) w
      simp only [Int.toNat_natCast] at this
      rw [hs, idxA_eq hlt'] at this
      refine ⟨_, ?_, .int _ _⟩
      rw [run, hargs]
      simp only [List.map_cons, List.map_nil, hq1, hq2]
      show ((Extern.BytealgIndexByte.indexByte #[.string s, .int .u8 (c' : Int)]).run P w).andThen _ = _
      rw [this]
      rfl
    | false =>
      simp only [cond_false]
      exact SOk.bad
  · exact SOk.bad

/-! ### Strings over bytes -/

omit he in
/-- A slice's first address, of whatever slice. -/
theorem junk_ok {C : Cx} {S : St} {w : World} (hS : StR C S w) {ts : Array TypeId} {ty e : TypeId} (hp : P.underlying ty = some (.pointer e)) (a : Option Addr) (ha : AtX C a) (n c : Nat) :
    ∃ C' p w', (Builtin.unsafeSliceData_ ts ty #[.slice a n c]).run P w = .ok (.pointer p) w' ∧ Tran C S w C' S w' := by
  cases a with
  | none => exact ⟨C, none, w, rfl, Tran.refl hS⟩
  | some ad =>
    cases c with
    | succ c => exact ⟨C, some ad, w, rfl, Tran.refl hS⟩
    | zero =>
      have hdef : Builtin.unsafeSliceData_ ts ty #[.slice (some ad) n 0] =
          (do
            if (0 : Nat) ≠ 0 then pure (.pointer (some ad))
            else if (← viewAt ad.block).isSome then pure (.pointer (some ad))
            else pure (.pointer (some ⟨← newObj (.view ad (← elemOf ty)), 0, none⟩))) := rfl
      rw [hdef]
      have hlt := hS.there _ (ha ad rfl)
      have hx : w.heap[ad.block]? = some w.heap[ad.block] := Array.getElem?_eq_getElem hlt
      generalize w.heap[ad.block] = x at hx
      have hel : (elemOf ty).run P w = .ok e w := by simp [elemOf, run_underlying hp]
      have made : (viewAt ad.block).run P w = .ok none w → ∃ C' p w', (do
            if (0 : Nat) ≠ 0 then pure (.pointer (some ad))
            else if (← viewAt ad.block).isSome then pure (.pointer (some ad))
            else pure (.pointer (some ⟨← newObj (.view ad (← elemOf ty)), 0, none⟩)) : Sem Value).run P w = .ok (.pointer p) w' ∧ Tran C S w C' S w' := by
        intro hv
        refine ⟨C, some ⟨w.heap.size, 0, none⟩, World.pushed w (.view ad e), ?_, Tran.waste hS _⟩
        simp [hv, hel, World.pushed]
      cases x with
      | cells q t f => exact made (by simp [viewAt, World.shape?, hx])
      | view q t =>
        refine ⟨C, some ad, w, ?_, Tran.refl hS⟩
        have hv : (viewAt ad.block).run P w = .ok (some (q, t)) w := by
          simp only [viewAt, Sem.run_bind, run_shape, World.shape?, hx, Result.andThen_ok]
          simp [run_getObj hx (by simp)]
        simp [hv]
      | _ =>
        refine made ?_
        simp only [viewAt, Sem.run_bind, run_shape, World.shape?, hx, Result.andThen_ok]
        simp [run_getObj hx (by simp)]

theorem ok_data {o : Oper} {c : Call} {x : Operand} (ho : o.op = .call c) (hc : c.callee = .builtin .unsafeSliceData) (hargs : c.args.toList = [x]) : SOk E P o (dataC E o.type x) := by
  unfold dataC
  split
  · next e hu =>
    have hp := und_ok he hu
    have harr : ∀ ρ : Operand → Value, c.args.map ρ = #[ρ x] := by intro ρ; apply Array.ext'; simp [hargs]
    have hexec : ∀ (ρ : Operand → Value) (w : World), (execOp ρ o).run P w = ((Builtin.unsafeSliceData_ c.argTypes o.type #[ρ x]).run P w).andThen fun v w' => .ok (.value v) w' := by
      intro ρ w
      simp only [execOp, ho, resolve, hc, Sem.run_bind, Sem.run_pure, Result.andThen_ok, invoke, builtin, harr]
    intro C T a S w hg hT hS
    refine ⟨fun v h => ?_, fun ob g h => ?_⟩
    · obtain ⟨u, hu', h⟩ := Option.bind_eq_some_iff.1 h
      have hv := opnd_ok hg hT hu'
      rw [hexec]
      unfold dataM at h
      split at h
      · next r hr =>
        cases h
        have junk : ∀ ad n k, a.eval x = .slice ad n k → AtX C ad → v = .junk → ∃ C' y w', ((Builtin.unsafeSliceData_ c.argTypes o.type #[a.eval x]).run P w).andThen (fun v w' => .ok (Next.value v) w') = .ok (.value y) w' ∧ Tran C S w C' S w' ∧ VR C' v y := by
          intro ad n k h1 h2 h3
          obtain ⟨C', p, w', hr, ht⟩ := junk_ok (P := P) hS (ts := c.argTypes) hp ad h2 n k
          exact ⟨C', .pointer p, w', by rw [h1, hr]; rfl, ht, by rw [h3]; exact .junk p⟩
        generalize hq : a.eval x = q at hv
        cases hv with
        | nilslice ad hx => cases hr; rw [← hq]; exact junk _ _ _ hq hx rfl
        | @slice _ b off len sz cap k hd hcap hlc =>
          cases len with
          | zero => cases hr; rw [← hq]; exact junk _ _ _ hq (.some (hS.knownD _ hd)) rfl
          | succ len =>
            cases hr
            refine ⟨C, _, w, ?_, Tran.refl hS, .ptr hd⟩
            cases k with
            | zero => omega
            | succ k => rfl
        | slice0 hx hd hcap => cases hr; rw [← hq]; exact junk _ _ _ hq (.some hx) rfl
        | _ => simp [dataV] at hr
      · cases h
    · obtain ⟨u, hu', h⟩ := Option.bind_eq_some_iff.1 h
      unfold dataM at h
      split at h <;> cases h
  · exact SOk.bad

omit he in
/-- A block is given up, and written. -/
theorem Tran.killSet {C : Cx} {S : St} {w : World} (h : StR C S w) {b : Nat} {o0 : AObj} (hb0 : S.heap.get b = some o0) (x : Obj) : Tran C S w C (S.put b none) (World.setBlk w (C.pl b).blk x) := by
  have hge := fun k => put_get S b k none
  have f : ∀ j oj, (S.put b none).heap.get j = some oj → j ≠ b ∧ S.heap.get j = some oj := by
    intro j oj hj
    rw [hge] at hj
    split at hj
    · cases hj
    · next hne => exact ⟨hne, hj⟩
  refine ⟨.refl C, ⟨fun k ok hk => ?_, fun k k' ok ok' hk hk' => h.inj k k' ok ok' (f k ok hk).2 (f k' ok' hk').2, h.fresh, fun blk ms hm => ?_, fun k ok hk => h.apart k ok (f k ok hk).2, h.stamps,
    fun k hk => by simpa [World.setBlk] using h.there k hk, h.knownD, h.knownM⟩, rfl, (put_log S b _).2, Nat.le_refl _, by simp [World.setBlk], fun blk _ hn => ?_, fun k _ hm => ?_, fun _ h => .inl h,
    fun k ok hk => .inl ⟨(h.live k ok (f k ok hk).2).1, ok, (f k ok hk).2⟩, fun _ _ h => .inl h, ⟨rfl, rfl, rfl⟩⟩
  · obtain ⟨hne, hk'⟩ := f k ok hk
    obtain ⟨hd, y, hy, hr⟩ := h.live k ok hk'
    exact ⟨hd, y, by rw [setBlk_get, if_neg (fun e => hne (h.inj k b ok o0 hk' hb0 e))]; exact hy, hr⟩
  · obtain ⟨c, ty, fr, hc, e⟩ := h.imm blk ms hm
    refine ⟨c, ty, fr, ?_, e⟩
    rw [setBlk_get, if_neg]; · exact hc
    intro e'
    have := h.apart b o0 hb0
    rw [← e', hm] at this; cases this
  · rw [setBlk_get, if_neg]
    intro e
    exact hn b o0 hb0 (put_log S b _).1 e.symm
  · have hk : k ≠ b := by rintro rfl; exact hm (put_log S k _).1
    exact ⟨by rw [hge, if_neg hk], fun _ h => h⟩

omit he in
theorem loadBytes_run : ∀ (ns : List Int) (a : Addr) (acc : ByteArray) {w : World}, Here w a (ns.map (.int .u8)) → (∀ i j, (a.add i).add j = a.add (i + j)) →
    (loadBytes a acc ns.length).run P w = .ok ⟨acc.data ++ (ns.map fun n => UInt8.ofNat n.toNat).toArray⟩ w
  | [], a, acc, w, _, _ => by simp [loadBytes]
  | n :: ns, a, acc, w, h, hadd => by
    have h0 : w.cell? a = some (.int .u8 n) := by
      have := h 0 (.int .u8 n) rfl
      simpa [Addr.add] using this
    have ih := loadBytes_run ns (a.add 1) (acc.push n.toNat.toUInt8) (w := w) (fun j v hj => by rw [hadd]; rw [Nat.add_comm]; exact h (j + 1) v (by simpa using hj)) (fun i j => by rw [hadd, hadd, hadd, Nat.add_assoc])
    simp only [List.length_cons, loadBytes, Sem.run_bind, run_load, h0, Result.andThen]
    rw [ih]
    congr 1
    apply ByteArray.ext
    simp [ByteArray.push]

theorem lies_bytes {e : TypeId} (hn : Am.sizeOf E e = some 1) {count off n : Nat} (h : off + n ≤ count) : liesAt P P.depth e (count / P.cellsOf e) off e n = true := by
  have hc := cellsOf_ok (P := P) he hn
  have hdep : ∃ q, P.depth = q + 2 := ⟨_, rfl⟩
  obtain ⟨q, hq⟩ := hdep
  rw [hc, Nat.div_one, hq, liesAt]
  refine Bool.or_eq_true_iff.2 (.inl ?_)
  rw [hq, rowAt, hc]
  simp [h, sameLayout, Nat.mod_one]

omit he in
theorem freeze_eq {w : World} {blk off n : Nat} {c : Array Value} {e : TypeId} {fr : Nat × Nat} (h : w.heap[blk]? = some (.cells c e fr)) (hn : n ≠ 0) :
    ∃ fr', w.freeze ⟨blk, off, none⟩ n = World.setBlk w blk (.cells c e fr') := by
  unfold World.freeze World.setBlk
  rw [if_neg hn, modify_eq h]
  exact ⟨_, rfl⟩

omit he in
theorem rawStrV_some {s : St} {e' n : Nat} {v : AV} {r : AV × St} (h : rawStrV s E e' n v = some r) :
    (n = 0 ∧ r = (.str [], s) ∧ (v = .nilptr ∨ v = .junk ∨ ∃ b off, v = .ptr b off)) ∨ (n ≠ 0 ∧ ∃ b off, v = .ptr b off ∧ rawStrIn s E e' b off n (s.heap.get b) = some r) := by
  unfold rawStrV at h
  split at h
  · cases h0 : Nat.beq n 0 with
    | true => rw [h0] at h; cases h; exact .inl ⟨Nat.eq_of_beq_eq_true h0, rfl, .inr (.inr ⟨_, _, rfl⟩)⟩
    | false => rw [h0] at h; exact .inr ⟨Nat.ne_of_beq_eq_false h0, _, _, rfl, h⟩
  · cases h0 : Nat.beq n 0 with
    | true => rw [h0] at h; cases h; exact .inl ⟨Nat.eq_of_beq_eq_true h0, rfl, .inr (.inl rfl)⟩
    | false => rw [h0] at h; cases h
  · cases h0 : Nat.beq n 0 with
    | true => rw [h0] at h; cases h; exact .inl ⟨Nat.eq_of_beq_eq_true h0, rfl, .inl rfl⟩
    | false => rw [h0] at h; cases h
  · cases h

omit he in
theorem rawStrIn_some {s : St} {e' b off n : Nat} {o : Option AObj} {r : AV × St} (h : rawStrIn s E e' b off n o = some r) :
    ∃ cs part l q, o = some (.cells cs e' part) ∧ cut cs off n = some l ∧ bytesOfCells l = some q ∧ r = (.str q, s.put b none) := by
  unfold rawStrIn at h
  split at h
  · next cs e part =>
    cases he0 : (Nat.beq e e' && isByte E e) with
    | false => rw [he0] at h; cases h
    | true =>
      rw [he0] at h
      simp only [cond_true] at h
      rw [Bool.and_eq_true] at he0
      have := Nat.eq_of_beq_eq_true he0.1
      subst this
      obtain ⟨l, hl, h'⟩ := Option.bind_eq_some_iff.1 h
      obtain ⟨q, hq, h''⟩ := Option.bind_eq_some_iff.1 h'
      cases h''
      exact ⟨_, _, l, q, rfl, hl, hq, rfl⟩
  · cases h

theorem ok_str {o : Oper} {c : Call} {t : TypeId} {ts : List TypeId} {x y : Operand} (ho : o.op = .call c) (hc : c.callee = .builtin .unsafeString) (hts : c.argTypes.toList = t :: ts) (hargs : c.args.toList = [x, y]) :
    SOk E P o (rawStrC E t x y) := by
  unfold rawStrC
  split
  · next e hu =>
    cases hb1 : (isByte E e && Nat.beq ((Am.sizeOf E e).getD 0) 1) with
    | false => exact SOk.bad
    | true =>
    rw [Bool.and_eq_true] at hb1
    have hsz : Am.sizeOf E e = some 1 := by
      cases hq : Am.sizeOf E e with
      | none => rw [hq] at hb1; exact absurd hb1.2 (by decide)
      | some k =>
        have h1 := hb1.2
        rw [hq] at h1
        have : k = 1 := Nat.eq_of_beq_eq_true h1
        rw [this]
    have hp := und_ok he hu
    have harr : ∀ ρ : Operand → Value, c.args.map ρ = #[ρ x, ρ y] := by intro ρ; apply Array.ext'; simp [hargs]
    have ht0 : c.argTypes[0]? = some t := by rw [← Array.getElem?_toList, hts]; rfl
    have hexec : ∀ (ρ : Operand → Value) (w : World), (execOp ρ o).run P w = ((Builtin.unsafeString_ c.argTypes o.type #[ρ x, ρ y]).run P w).andThen fun v w' => .ok (.value v) w' := by
      intro ρ w
      simp only [execOp, ho, resolve, hc, Sem.run_bind, Sem.run_pure, Result.andThen_ok, invoke, builtin, harr]
    intro C T a S w hg hT hS v S' h
    obtain ⟨av, hav, h⟩ := Option.bind_eq_some_iff.1 h
    obtain ⟨bv, hbv, h⟩ := Option.bind_eq_some_iff.1 h
    obtain ⟨n, hn, h⟩ := Option.bind_eq_some_iff.1 h
    have hv := opnd_ok hg hT hav
    have hw := opnd_ok hg hT hbv
    cases hle : Nat.ble n 1099511627776 with
    | false => rw [hle] at h; cases h
    | true =>
    rw [hle] at h
    simp only [cond_true] at h
    have hle' := Nat.le_of_ble_eq_true hle
    obtain ⟨k, hk⟩ : ∃ k, a.eval y = .int k (n : Int) := by
      unfold natOf at hn
      split at hn
      · next k' m =>
        cases hn
        generalize a.eval y = q at hw
        cases hw
        exact ⟨_, rfl⟩
      · cases hn
    have hmax : IntKind.i64.max = 9223372036854775807 := rfl
    have hneg : ¬ ((n : Int) < 0) := by omega
    have hbig : ¬ ((9223372036854775807 : Int) < (n : Int)) := by omega
    have hdef0 : ∃ (m1 m2 m3 : String) (u : Unsupported), ∀ (ts : Array TypeId) (ty : TypeId) (l : Value), Builtin.unsafeString_ ts ty #[.pointer none, l] =
        (do
          let n ← asInt l
          let some pt := ts[0]? | stuck m1
          if n < 0 then runtimePanic (.error m2)
          if n > IntKind.i64.max then unsupported u
          if n = 0 then pure (.string .empty)
          else runtimePanic (.error m3)) := ⟨_, _, _, _, fun _ _ _ => rfl⟩
    have hdef1 : ∃ (m1 m2 : String) (u u' : Unsupported), ∀ (ts : Array TypeId) (ty : TypeId) (l : Value) (ad : Addr), Builtin.unsafeString_ ts ty #[.pointer (some ad), l] =
        (do
          let n ← asInt l
          let some pt := ts[0]? | stuck m1
          if n < 0 then runtimePanic (.error m2)
          if n > IntKind.i64.max then unsupported u
          if n = 0 then pure (.string .empty)
          else if ← variablesAt ad (← elemOf pt) n.toNat then do
            let s ← loadBytes ad .empty n.toNat
            freeze ad n.toNat
            pure (.string s)
          else unsupported u') := ⟨_, _, _, _, fun _ _ _ _ => rfl⟩
    obtain ⟨_, _, _, _, hdef0⟩ := hdef0
    obtain ⟨_, _, _, _, hdef1⟩ := hdef1
    have nothing : ∀ p, a.eval x = .pointer p → n = 0 → (execOp a.eval o).run P w = .ok (.value (.string .empty)) w := by
      intro p hpx h0
      subst h0
      rw [hexec, hpx, hk]
      cases p with
      | none => rw [hdef0]; simp [asInt, asIntOf, ht0, hmax]
      | some ad => rw [hdef1]; simp [asInt, asIntOf, ht0, hmax]
    rcases rawStrV_some h with ⟨h0, hr0, hcase⟩ | ⟨hn0, b, off, rfl, hin⟩
    · cases hr0
      have hpx : ∃ p, a.eval x = .pointer p := by
        generalize a.eval x = q at hv
        rcases hcase with rfl | rfl | ⟨b, off, rfl⟩ <;> cases hv <;> exact ⟨_, rfl⟩
      obtain ⟨p, hpx⟩ := hpx
      exact ⟨C, _, w, nothing p hpx h0, Tran.refl hS, .value (.str rfl)⟩
    · obtain ⟨cs, part, l, r, hob, hl, hr, hres⟩ := rawStrIn_some hin
      cases hres
      generalize hq : a.eval x = q at hv
      cases hv with
      | ptr hd =>
      obtain ⟨_, xo, hx, hor⟩ := hS.live b _ hob
      cases hor with
      | cells hvs ha hs hcs hf hpt =>
      rename_i cc fr vs
      obtain ⟨pre, post, hcsl, hpl, hll⟩ := cut_some hl
      rw [hcsl] at hvs
      obtain ⟨y1, z3, rfl, h1, h4⟩ := VRs.split hvs
      obtain ⟨y0, ym, rfl, h2, h3⟩ := VRs.split h1
      obtain ⟨ns, hns, hrr⟩ := bytesOfCells_ok h3 hr
      have hat := ha.sub (a := y0) (b := ym) (c := z3) rfl
      rw [h2.length, hpl] at hat
      have hlen : ns.length = n := by
        have := h3.length
        rw [hns] at this
        simp only [List.length_map] at this
        omega
      have hhere := here_of hx hat
      rw [hns] at hhere
      have hlb := loadBytes_run (P := P) ns ⟨(C.pl b).blk, (C.pl b).base + off, none⟩ .empty hhere (fun i j => by simp [add_none, Nat.add_assoc])
      rw [hlen] at hlb
      have hfit : (C.pl b).base + off + n ≤ cc.size := by
        have := hat.le
        rw [hns] at this
        simp only [List.length_map, hlen, Array.length_toList] at this
        exact this
      have hlies := lies_bytes (P := P) he hsz hfit
      have hsh : w.shape? (C.pl b).blk = some (e, cc.size) := by simp [World.shape?, hx]
      obtain ⟨fr', hfz⟩ := freeze_eq (off := (C.pl b).base + off) hx hn0
      refine ⟨C, .value (.string ⟨(ByteArray.empty).data ++ (ns.map fun n => UInt8.ofNat n.toNat).toArray⟩), _, ?_, Tran.killSet hS hob (.cells cc e fr'), .value (.str ?_)⟩
      · rw [hexec, hq, hk, ← hfz, hdef1]
        simp [asInt, asIntOf, ht0, hmax, hneg, hbig, hn0, variablesAt, hsh, elemOf, run_underlying hp, hlies, hlb]
      · rw [hrr]; simp
  · exact SOk.bad

/-- What lies outside the program's own code is the model's. -/
theorem ext_ok (hor : ∀ f fn, E.fns.get f = some fn → originOk fn = true) : ExtOk E P :=
  ⟨fun _ _ _ _ h1 h2 h3 => ok_ext he hor h1 h2 h3, fun _ _ _ _ h1 h2 h3 => ok_data he h1 h2 h3, fun _ _ _ _ _ _ _ h1 h2 h3 h4 => ok_str he h1 h2 h3 h4⟩
end
end Am

/- The abstract machine: control (7): calls. -/
namespace Am
open Go

/-- What is known of calls ahead is so. -/
structure MemoOk (E : Env) (P : Program) : Prop where
  memo : ∀ (f : FuncId) (args : List AV) (v : AV), E.memo f args = some v → ∀ (C : Cx) (S : St) (w : World) (xs : Array Value) (c : Frame) (cs : List Frame), GlobR E C → VRs C args xs.toList → StR C S w →
    Returns P (lone (Frame.enter P f xs .normal) (c :: cs) w) c cs C S w (.same v)
  prim : ∀ (f : FuncId) (g : List AV → St → Option (AV × St)), E.prim f = some g → ∀ (args : List AV) (S : St) (v : AV) (S' : St), g args S = some (v, S') → ∀ (C : Cx) (w : World) (xs : Array Value) (c : Frame) (cs : List Frame), GlobR E C → VRs C args xs.toList → StR C S w →
    Returns P (lone (Frame.enter P f xs .normal) (c :: cs) w) c cs C S w (.val v S')

section
variable {E : Env} {P : Program}

theorem CsR.none {p q : Option AV} {a b : List Frame} (h : CsR p q a b) (hp : p = none) : b = a := by
  cases h with
  | same => rfl
  | rec_ => cases hp

/-- A frame that is about to be left. -/
theorem leaves {b : Frame} {cs : List Frame} {C : Cx} {m : Machine} {ex : Ex} {a : Act} {w : World} (hr : b.roundOf = none) (he : Ends P b [] cs C m ex a w) {mo : Option AV} (hm : modeOf ex = some mo) :
    ∃ todo mode, Steps P m (lone (leavingF b a todo mode) cs w) ∧ ModeR C mode mo := by
  cases ex with
  | normal => cases hm; exact ⟨[], .returning, Steps.trans he (.one (s_end hr)), .ret⟩
  | ret => cases hm; obtain ⟨k2, h⟩ := he; exact ⟨_, .returning, Steps.trans h (.one (s_ret hr)), .ret⟩
  | panic v => cases hm; obtain ⟨k2, x, h, hv, _⟩ := he; exact ⟨k2, _, h, .pan hv⟩
  | exit id => cases hm

theorem CrR.returns {C : Cx} {S : St} {w w' : World} {x : Value} {cr : CR} (h : CrR C S w x w' cr) {m : Machine} {c : Frame} {cs : List Frame} (hs : Steps P m (lone (c.finish x) cs w')) : Returns P m c cs C S w cr := by
  cases cr with
  | same v => obtain ⟨C', t, hv⟩ := h; exact ⟨C', x, w', hs, t, hv⟩
  | val v S' => obtain ⟨C', t, hv⟩ := h; exact ⟨C', x, w', hs, t, hv⟩
  | pan v S' => cases h

/-- The end of a call, from the end of its code. -/
theorem endF_ok (he : EnvOk E P) {ev : Ev} (hev : EvOk E P ev) {f : FuncId} {fn : Func} (hp : P.funcs[f]? = some fn) {S : St} {r : Res} {cr : CR} (h : endF E ev f fn S r = some cr) {C C1 : Cx} {w w1 : World} (hg : GlobR E C)
    (hS : StR C S w) (t : Tran C S.enter w C1 r.st w1) {b : Frame} {a1 : Act} (hT : TR C1 r.fr.nt r.T a1.tmps) {c : Frame} {cs : List Frame} (hF : FrR C1 r.fr b a1 (c :: cs)) (hk : b.kind = .normal) (hr : b.roundOf = none) (hf : b.fn = f)
    {m : Machine} (hend : Ends P b [] (c :: cs) C1 m r.ex a1 w1) : Returns P m c cs C S w cr := by
  unfold endF at h
  obtain ⟨mo, hmo, h⟩ := Option.bind_eq_some_iff.1 h
  obtain ⟨p, hp1, h⟩ := Option.bind_eq_some_iff.1 h
  obtain ⟨m', S'⟩ := p
  obtain ⟨todo, mode, hs1, hm1⟩ := leaves hr hend hmo
  have hg1 := hg.mono t.ext
  obtain ⟨C2, w2, mode2, hs2, t2, hm2⟩ := unwind_ok he hev hp1 hg1 hF.defs t.st hm1 b a1.tmps todo (c :: cs)
  have hst := hs1.trans hs2
  have t3 := t.trans t2
  unfold endWith at h
  cases hm2 with
  | ret =>
    simp only at h
    obtain ⟨vs, hvs, h⟩ := Option.bind_eq_some_iff.1 h
    have hTT : TR C2 a1.tmps.size r.T a1.tmps := ⟨rfl, (hT.mono t2.ext).2⟩
    obtain ⟨x, hx, hvx⟩ := run_results he hTT t3.st hvs
    refine (leave_ok h hS t3 hvx).returns (hst.trans (.one ?_))
    exact step_leave_returned ⟨rfl, rfl, hk, fn, by show P.funcs[b.fn]? = _; rw [hf]; exact hp, hx⟩
  | @pan v x hv =>
    simp only at h
    cases h
    refine ⟨C2, x, w2, hst.trans (.one ?_), t3.back hS, hv⟩
    exact step_leave_panicked ⟨rfl, rfl, fn, by show P.funcs[b.fn]? = _; rw [hf]; exact hp⟩

theorem StR.enter {C : Cx} {S : St} {w : World} (h : StR C S w) : StR C S.enter w := h.rebound _ _

theorem same1_eq {a b : AV} (h : same1 a b = true) : a = b := by
  unfold same1 at h
  split at h
  · next x y => cases x <;> cases y <;> first | rfl | cases h
  · next j a k b =>
    by_cases hk : j = k
    · rw [if_pos hk] at h
      rw [hk, of_decide_eq_true h]
    · rw [if_neg hk] at h; cases h
  · next a b => rw [bytesEq_iff] at h; rw [of_decide_eq_true h]
  · rfl
  · simp only [Bool.and_eq_true] at h
    rw [Nat.eq_of_beq_eq_true h.1, Nat.eq_of_beq_eq_true h.2]
  · rfl
  · next a b c d e f g i j k =>
    simp only [Bool.and_eq_true] at h
    obtain ⟨⟨⟨⟨h1, h2⟩, h3⟩, h4⟩, h5⟩ := h
    rw [Nat.eq_of_beq_eq_true h1, Nat.eq_of_beq_eq_true h2, Nat.eq_of_beq_eq_true h3, Nat.eq_of_beq_eq_true h4]
    unfold sameO at h5
    split at h5
    · rfl
    · rw [Nat.eq_of_beq_eq_true h5]
    · cases h5
  · rfl
  · rw [Nat.eq_of_beq_eq_true h]
  · cases h

theorem sameL_eq : ∀ {a b : List AV}, sameL a b = true → a = b
  | [], [], _ => rfl
  | [], _ :: _, h => by cases h
  | _ :: _, [], h => by cases h
  | a :: l, b :: r, h => by
    simp only [sameL, Bool.and_eq_true] at h
    rw [same1_eq h.1, sameL_eq h.2]

theorem sameV_eq {a b : AV} (h : sameV a (some b) = true) : a = b := by
  unfold sameV at h
  split at h
  · next e => cases e; rw [sameL_eq h]
  · next e => cases e; rw [sameL_eq h]
  · next e => cases e; exact same1_eq h
  · next e => cases e

mutual
theorem eqAV_eq : ∀ {a b : AV}, eqAV a b = true → a = b
  | .bool a, b, h => by
    cases b <;> simp only [eqAV] at h <;> try (cases h; done)
    rename_i b; cases a <;> cases b <;> first | rfl | cases h
  | .int j a, b, h => by
    cases b <;> simp only [eqAV] at h <;> try (cases h; done)
    split at h
    · next hk => subst hk; simp at h; rw [h]
    · cases h
  | .str a, b, h => by
    cases b <;> simp only [eqAV] at h <;> try (cases h; done)
    rw [bytesEq_iff] at h; simp at h; rw [h]
  | .nilptr, b, h => by cases b <;> first | rfl | (simp only [eqAV] at h; cases h)
  | .nilslice, b, h => by cases b <;> first | rfl | (simp only [eqAV] at h; cases h)
  | .nilmap, b, h => by cases b <;> first | rfl | (simp only [eqAV] at h; cases h)
  | .nilfunc, b, h => by cases b <;> first | rfl | (simp only [eqAV] at h; cases h)
  | .niliface, b, h => by cases b <;> first | rfl | (simp only [eqAV] at h; cases h)
  | .iptr a, b, h => by
    cases b <;> simp only [eqAV] at h <;> try (cases h; done)
    rw [eqAVs_eq h]
  | .islice a l s c, b, h => by
    cases b <;> simp only [eqAV] at h <;> try (cases h; done)
    simp only [Bool.and_eq_true] at h
    obtain ⟨⟨⟨h1, h2⟩, h3⟩, h4⟩ := h
    rename_i cl
    have := Nat.eq_of_beq_eq_true h1
    have := Nat.eq_of_beq_eq_true h2
    have hc : c = cl := by cases c <;> cases cl <;> first | rfl | cases h3
    subst_vars
    rw [eqAVs_eq h4]
  | .iface t a, b, h => by
    cases b <;> simp only [eqAV] at h <;> try (cases h; done)
    rw [Bool.and_eq_true] at h
    have := Nat.eq_of_beq_eq_true h.1
    subst this
    rw [eqAV_eq h.2]
  | .agg a, b, h => by
    cases b <;> simp only [eqAV] at h <;> try (cases h; done)
    rw [eqAVs_eq h]
  | .tuple a, b, h => by
    cases b <;> simp only [eqAV] at h <;> try (cases h; done)
    rw [eqAVs_eq h]
  | .ptr _ _, b, h => by cases b <;> simp only [eqAV] at h <;> cases h
  | .slice _ _ _ _ _, b, h => by cases b <;> simp only [eqAV] at h <;> cases h
  | .map _, b, h => by cases b <;> simp only [eqAV] at h <;> cases h
  | .stamp _ _, b, h => by cases b <;> simp only [eqAV] at h <;> cases h
  | .junk, b, h => by cases b <;> simp only [eqAV] at h <;> cases h
  | .any, b, h => by cases b <;> simp only [eqAV] at h <;> cases h
  | .func _ _ _, b, h => by cases b <;> simp only [eqAV] at h <;> cases h
theorem eqAVs_eq : ∀ {a b : List AV}, eqAVs a b = true → a = b
  | [], b, h => by cases b <;> first | rfl | (simp only [eqAVs] at h; cases h)
  | a :: l, b, h => by
    cases b with
    | nil => simp only [eqAVs] at h; cases h
    | cons c r =>
      simp only [eqAVs, Bool.and_eq_true] at h
      rw [eqAV_eq h.1, eqAVs_eq h.2]
end

theorem tran_whole {C C' : Cx} {S : St} {w w' : World} (hS : StR C S w) (t : Tran C S.whole w C' S.whole w') : Tran C S w C' S w' := by
  have hno : ∀ b, C.D b → ¬ Mind S.whole S.whole.log b := fun b hb hm => by
    rcases hm with h | h
    · cases h
    · exact Nat.lt_irrefl _ (Nat.lt_of_lt_of_le (hS.fresh b hb) h)
  have hno' : ∀ b o, S.heap.get b = some o → ¬ Mind S.whole S.whole.log b := fun b o hb => hno b (hS.live b o hb).1
  exact {
    ext := t.ext
    st := t.st.rebound _ _
    bound := rfl
    log := fun _ h => h
    next := Nat.le_refl _
    size := t.size
    frame := fun blk hb _ => t.frame blk hb fun b o ho hm => absurd hm (hno' b o ho)
    kept := fun b hb _ => t.kept b hb (hno b hb)
    dnew := t.dnew
    own := fun b o ho => (t.own b o ho).elim .inl fun h => h.elim (fun h => .inr (.inl h)) fun ⟨b0, o0, h0, h1, _⟩ => absurd h1 (hno' b0 o0 h0)
    mnew := fun blk ms hm => (t.mnew blk ms hm).elim .inl fun h => h.elim (fun h => .inr (.inl h)) fun ⟨b0, o0, h0, h1, _⟩ => absurd h1 (hno' b0 o0 h0)
    misc := t.misc }

theorem whole_same {P : Program} {m : Machine} {c : Frame} {cs : List Frame} {C : Cx} {S : St} {w : World} {v : AV} (hS : StR C S w) (h : Returns P m c cs C S.whole w (.same v)) : Returns P m c cs C S w (.same v) := by
  obtain ⟨C', x, w', hs, t, hv⟩ := h
  exact ⟨C', x, w', hs, tran_whole hS t, hv⟩

theorem allThis_mem {ev : Ev} {f : FuncId} {fn : Func} {S : St} {v : AV} : ∀ {l : List Res}, allThis E ev f fn S v l = true → ∀ r ∈ l, endF E ev f fn S.whole r = some (.same v)
  | [], _, r, hr => by cases hr
  | a :: l, h, r, hr => by
    simp only [allThis] at h
    split at h
    · next u hu =>
      rw [Bool.and_eq_true] at h
      rcases List.mem_cons.1 hr with rfl | hr
      · rw [eqAV_eq h.1] at hu
        unfold sameOf at hu
        split at hu
        · next v' he => cases hu; exact he
        · cases hu
      · exact allThis_mem h.2 r hr
    · cases h

theorem many1_ok {ev : Ev} {f : FuncId} {fn : Func} {S : St} {r0 : Res} {l : List Res} {cr : CR} (h : many1 E ev f fn S r0 l = some cr) :
    ∃ v, cr = .same v ∧ ∀ r ∈ r0 :: l, endF E ev f fn S.whole r = some (.same v) := by
  unfold many1 at h
  obtain ⟨v, hv, h⟩ := Option.bind_eq_some_iff.1 h
  cases ha : allThis E ev f fn S v l with
  | false => rw [ha] at h; cases h
  | true =>
    rw [ha] at h
    cases h
    refine ⟨v, rfl, fun r hr => ?_⟩
    rcases List.mem_cons.1 hr with rfl | hr
    · unfold sameOf at hv
      split at hv
      · next v' he => cases hv; exact he
      · cases hv
    · exact allThis_mem ha r hr

/-- A call: whichever of its outcomes comes. -/
def MergeOk (E : Env) (P : Program) (ev : Ev) : Prop :=
  ∀ (f : FuncId) (fn : Func) (S : St) (r0 : Res) (l : List Res) (cr : CR), mergeF E ev f fn S r0 l = some cr → ∀ (C : Cx) (w : World), StR C S w → ∀ (r : Res), r ∈ r0 :: l → ∀ (m : Machine) (c : Frame) (cs : List Frame),
    (∀ cr', endF E ev f fn S.whole r = some cr' → Returns P m c cs C S.whole w cr') → Returns P m c cs C S w cr

theorem callF_ok (he : EnvOk E P) (hmemo : MemoOk E P) {ev : Ev} (hev : EvOk E P ev) (hmerge : E.merge = true → MergeOk E P ev) : CallOk E P ev := by
  intro f args cr C S w xs c cs h hg ha hS
  unfold callF at h
  cases hm : E.memo f args with
  | some v =>
    rw [hm] at h
    cases h
    exact hmemo.memo f args v hm C S w xs c cs hg ha hS
  | none =>
    rw [hm] at h
    simp only at h
    cases hfn : E.fns.get f with
    | none =>
      rw [hfn] at h
      simp only at h
      unfold primF at h
      cases hg' : E.prim f with
      | none => rw [hg'] at h; cases h
      | some g =>
        rw [hg'] at h
        obtain ⟨p, hp, h⟩ := Option.bind_eq_some_iff.1 h
        cases h
        exact hmemo.prim f g hg' args S p.1 p.2 hp C w xs c cs hg ha hS
    | some fn =>
    rw [hfn] at h
    simp only at h
    obtain ⟨cd, hc, h⟩ := Option.bind_eq_some_iff.1 h
    have hp := he.fn f fn hfn
    have henter : Frame.enter P f xs .normal = fon (Frame.enter P f xs .normal) ⟨xs ++ Array.replicate (fn.ntmps - xs.size) undef, []⟩ [.code cd] := by
      simp [Frame.enter, fon, hp, hc]
    have hbk : (Frame.enter P f xs .normal).kind = .normal := rfl
    have hbr : (Frame.enter P f xs .normal).roundOf = none := rfl
    have hbf : (Frame.enter P f xs .normal).fn = f := rfl
    generalize Frame.enter P f xs .normal = bd at henter hbk hbr hbf
    have hgood := hev cd C S.enter w (frame fn.ntmps args none) (putArgs 0 args .nil) bd ⟨xs ++ Array.replicate (fn.ntmps - xs.size) undef, []⟩ [] (c :: cs) hg (args_tr ha fn.ntmps)
      ⟨.nil, .none (by simp [NoRec, tryRecover, hbk]), .none hbr⟩ hS.enter
    rw [← henter] at hgood
    generalize hout : ev cd (frame fn.ntmps args none) (putArgs 0 args .nil) S.enter = out at h hgood
    unfold callEnd at h
    split at h
    · next r =>
      obtain ⟨r', hr', C1, a1, w1, cs1, t, hT, hF, hn, hrd, hcs, hend⟩ := hgood [r] rfl
      simp only [List.mem_singleton] at hr'
      subst hr'
      have := hcs.none rfl
      subst this
      exact endF_ok he hev hp h hg hS t hT hF hbk hbr hbf hend
    · next r l =>
      obtain ⟨r', hr', C1, a1, w1, cs1, t, hT, hF, hn, hrd, hcs, hend⟩ := hgood (r :: l) rfl
      have := hcs.none rfl
      subst this
      have hwhole : StR C S.whole w := hS.rebound _ _
      have ht' : Tran C S.whole.enter w C1 r'.st w1 := t
      cases hm1 : many1 E ev f fn S r l with
      | some c1 =>
        rw [hm1] at h
        cases h
        obtain ⟨v, rfl, hall⟩ := many1_ok hm1
        exact whole_same hS (endF_ok he hev hp (hall r' hr') hg hwhole ht' hT hF hbk hbr hbf hend)
      | none =>
      rw [hm1] at h
      unfold manyEnd at h
      cases hmg : E.merge with
      | false => rw [hmg] at h; cases h
      | true =>
      rw [hmg] at h
      simp only [cond_true] at h
      refine hmerge hmg f fn S r l cr h C w hS r' hr' _ c cs fun cr' hcr' => ?_
      exact endF_ok he hev hp hcr' hg hwhole ht' hT hF hbk hbr hbf hend
    · cases h
end
end Am

/- The abstract machine: control (8): rounds of loops over functions, calls of function values. -/
namespace Am
open Go

section
variable {E : Env} {P : Program}

theorem putParams_ok {C : Cx} {nt : Nat} : ∀ {ps : List Nat} {vs : List AV} {xs : List Value} {T T' : Tr AV} {tmps : Array Value}, putParams nt ps vs T = some T' → TR C nt T tmps → VRs C vs xs →
    ps.length = xs.length ∧ TR C nt T' ((ps.zip xs).foldl (fun t (p : Nat × Value) => t.setIfInBounds p.1 p.2) tmps)
  | [], [], xs, T, T', tmps, h, hT, hv => by
    cases h; cases hv; exact ⟨rfl, hT⟩
  | [], _ :: _, _, _, _, _, h, _, _ => by cases h
  | _ :: _, [], _, _, _, _, h, _, _ => by cases h
  | p :: ps, v :: vs, _, T, T', tmps, h, hT, .cons (x := x) (xs := xs) hv1 hvt => by
    simp only [putParams] at h
    cases hp : Nat.blt p nt with
    | false => rw [hp] at h; cases h
    | true =>
      rw [hp] at h
      have hlt : p < nt := by simpa [Nat.blt_eq] using hp
      have h1 : TR C nt (T.set p (some v)) (tmps.setIfInBounds p x) := TR.put (a := ⟨tmps, []⟩) hT hlt hv1
      obtain ⟨h2, h3⟩ := putParams_ok h h1 hvt
      exact ⟨by simp [h2], by simpa using h3⟩

theorem run_getLoop {w : World} {l : Nat} {L : Loop} (h : w.heap[l]? = some (.loop L)) : (Instr.getLoop l).run P w = .ok L w := by
  simp only [Instr.getLoop, Sem.run_bind, run_getObj h (by simp), Result.andThen_ok, Sem.run_pure]

/-- The steps of a round's frame. -/
theorem s_begin {b : Frame} {a : Act} {k : List Item} {cs : List Frame} {w w' : World} {l : Nat} (hr : b.roundOf = some l) (h : (Instr.beginRound l).run P w = .ok () w') :
    step P (lone (fon b a (.beginRound :: k)) cs w) = .next (lone (fon b a k) cs w') :=
  step_lone_go (by simp [stepG, stepG.exec, stepG.apply, fon, hr, h, Frame.finish])

theorem s_roundEnd {b : Frame} {a : Act} {c : Frame} {cs : List Frame} {w w' : World} {l : Nat} {v : Value} (hk : b.kind = .normal) (hr : b.roundOf = some l) (h : (Instr.endRound l none).run P w = .ok v w') :
    step P (lone (fon b a []) (c :: cs) w) = .next (lone (c.finish v) cs w') :=
  step_lone_go (by simp [stepG, stepG.exec, fon, hr, h, doReturn, hk])

theorem s_roundRet {b : Frame} {a : Act} {k : List Item} {c : Frame} {cs : List Frame} {w w' : World} {l : Nat} {v : Value} (hk : b.kind = .normal) (hr : b.roundOf = some l) (h : (Instr.endRound l (some .ret)).run P w = .ok v w') :
    step P (lone (fon b a (.code .ret :: k)) (c :: cs) w) = .next (lone (c.finish v) cs w') :=
  step_lone_go (by simp [stepG, stepG.exec, fon, hr, h, doReturn, hk])

theorem s_roundExit {b : Frame} {a : Act} {k : List Item} {c : Frame} {cs : List Frame} {w w' : World} {l id : Nat} {v : Value} (hk : b.kind = .normal) (hr : b.roundOf = some l) (he : exitTo id k = none)
    (h : (Instr.endRound l (some (.exit id))).run P w = .ok v w') :
    step P (lone (fon b a (.code (.exit id) :: k)) (c :: cs) w) = .next (lone (c.finish v) cs w') :=
  step_lone_go (by simp [stepG, stepG.exec, fon, hr, h, he, doReturn, hk])

theorem s_roundPanic {b : Frame} {t : Array Value} {k : List Item} (hn : NoCall k) {c : Frame} {cs : List Frame} {w : World} {ch : List PanicEntry} :
    step P (lone (leavingF b ⟨t, []⟩ k (.panicking ch)) (c :: cs) w) = .next (lone (c.raise ch) cs w) := by
  refine step_lone_go ?_
  have : (leavingF b ⟨t, []⟩ k (.panicking ch)).catches P = false := by
    unfold Frame.catches
    split
    · next h1 h2 => exact absurd h2 (hn _ _ _ _ _)
    · rfl
  simp only [leavingF] at this
  simp [stepG, Go.unwind, leavingF, this]

theorem run_begin {w : World} {l : Nat} {L : Loop} (h : w.heap[l]? = some (.loop L)) (hs : L.state = .ready) : (Instr.beginRound l).run P w = .ok () (World.setBlk w l (.loop { L with state := .busy })) := by
  simp only [Instr.beginRound, Sem.run_bind, run_getLoop h, Result.andThen_ok, run_setObj h (by simp), hs, Sem.run_pure]

theorem run_endRound {w : World} {l : Nat} {L : Loop} (h : w.heap[l]? = some (.loop L)) (jump : Option Code) :
    (Instr.endRound l jump).run P w = .ok (.bool jump.isNone) (World.setBlk w l (.loop { L with state := if jump.isNone then .ready else .done, pending := jump })) := by
  simp only [Instr.endRound, Sem.run_bind, run_getLoop h, Result.andThen_ok, run_setObj h (by simp), Sem.run_pure]

/-- A round. -/
theorem roundF_ok {ev : Ev} (hev : EvOk E P ev) {l : Nat} {args : List AV} {cr : CR} {C : Cx} {S : St} {w : World} {xs : Array Value} (h : roundF ev l args S = some cr) (hg : GlobR E C) (ha : VRs C args xs.toList) (hS : StR C S w)
    (c : Frame) (cs : List Frame) : ∃ f tmps asg body, (Instr.yield (C.pl l).blk xs).run P w = .ok (.round (C.pl l).blk f tmps asg body) w ∧
      Returns P (lone (Frame.round (C.pl l).blk f tmps asg body .normal) (c :: cs) w) c cs C S w cr := by
  unfold roundF roundIn at h
  split at h
  · next lp hl =>
    obtain ⟨T, hT0, h⟩ := Option.bind_eq_some_iff.1 h
    obtain ⟨hd, x, hx, hr⟩ := hS.live l _ hl
    cases hr with
    | @loop _ L hs hpd htr hps hasg hbody =>
    obtain ⟨hlen, hT⟩ := putParams_ok hT0 htr ha
    have hfold : (L.params.zip xs).foldl (fun tmps (p : Nat × Value) => tmps.setIfInBounds p.1 p.2) L.tmps = (lp.params.zip xs.toList).foldl (fun t (p : Nat × Value) => t.setIfInBounds p.1 p.2) L.tmps := by
      rw [← Array.foldl_toList, Array.toList_zip, hps]
    have hsz : xs.size = L.params.size := by
      have : L.params.size = lp.params.length := by rw [← hps]; simp
      rw [this, hlen]; simp
    refine ⟨L.fn, (lp.params.zip xs.toList).foldl (fun t (p : Nat × Value) => t.setIfInBounds p.1 p.2) L.tmps, lp.assign, lp.body, ?_, ?_⟩
    · simp only [Instr.yield, Sem.run_bind, run_getLoop hx, Result.andThen_ok, hsz, ne_eq, not_true_eq_false, if_false, Sem.run_pure, ← hasg, ← hbody]
      rw [← hfold]
    · generalize (lp.params.zip xs.toList).foldl (fun t (p : Nat × Value) => t.setIfInBounds p.1 p.2) L.tmps = tmps at hT
      have hbk : (Frame.round (C.pl l).blk L.fn tmps lp.assign lp.body .normal).kind = .normal := rfl
      have hbr : (Frame.round (C.pl l).blk L.fn tmps lp.assign lp.body .normal).roundOf = some (C.pl l).blk := rfl
      have henter : Frame.round (C.pl l).blk L.fn tmps lp.assign lp.body .normal = fon (Frame.round (C.pl l).blk L.fn tmps lp.assign lp.body .normal) ⟨tmps, []⟩ [.code lp.assign, .beginRound, .code lp.body] := rfl
      generalize Frame.round (C.pl l).blk L.fn tmps lp.assign lp.body .normal = b at hbk hbr henter
      have hgood := hev lp.assign C S w ⟨lp.nt, [], none, some l⟩ T b ⟨tmps, []⟩ [.beginRound, .code lp.body] (c :: cs) hg hT ⟨.nil, .none (by simp [NoRec, tryRecover, hbk]), .some hd hbr⟩ hS
      rw [← henter] at hgood
      generalize ev lp.assign ⟨lp.nt, [], none, some l⟩ T S = out at h hgood
      unfold roundAssigned at h
      split at h
      · next fr T1 s1 =>
        obtain ⟨r', hr', C1, a1, w1, cs1, t1, hT1, hF1, hn1, hrd1, hcs1, hend1⟩ := hgood _ rfl
        simp only [List.mem_singleton] at hr'
        subst hr'
        have := hcs1.none rfl
        subst this
        simp only at hn1 hrd1 hT1 hF1 t1 hend1 hcs1
        unfold roundBody at h
        split at h
        · next lp1 hl1 =>
          split at h
          · next hst =>
            obtain ⟨hd1, x1, hx1, hr1⟩ := t1.st.live l _ hl1
            cases hr1 with
            | @loop _ L1 hs1 hpd1 htr1 hps1 hasg1 hbody1 =>
            have hpl1 : C1.pl l = C.pl l := t1.ext.pl l hd
            have hbegin := run_begin (P := P) hx1 (by rw [hs1, hst])
            have t2 := Tran.write t1.st hl1 (.loop { lp1 with state := .busy }) (.loop { L1 with state := .busy }) (.loop rfl hpd1 htr1 hps1 hasg1 hbody1)
            have hst2 : Steps P (lone b (c :: cs) w) (lone (fon b a1 [.code lp.body]) (c :: cs) (World.setBlk w1 (C1.pl l).blk (.loop { L1 with state := .busy }))) :=
              Steps.trans hend1 (.one (s_begin (by rw [hpl1]; exact hbr) hbegin))
            have hgood2 := hev lp.body C1 _ _ fr T1 b a1 [] (c :: cs) (hg.mono t1.ext) hT1 hF1 t2.st
            generalize ev lp.body fr T1 (s1.put l (some (.loop { lp1 with state := .busy }))) = out2 at h hgood2
            unfold roundEnd at h
            split at h
            · next r =>
              split at h
              · next hdf =>
                obtain ⟨r', hr', C2, a2, w2, cs2, t3, hT2, hF2, hn2, hrd2, hcs2, hend2⟩ := hgood2 [r] rfl
                simp only [List.mem_singleton] at hr'
                subst hr'
                have hfp : fr.pan = none := by
                  have := hcs1
                  generalize fr.pan = q at this
                  cases this with
                  | same => rfl
                have := hcs2.none hfp
                subst this
                have t4 := (t1.trans t2).trans t3
                have hpl2 : C2.pl l = C.pl l := t4.ext.pl l hd
                have had : a2.defers = [] := by
                  have := hF2.defs
                  rw [hdf] at this
                  cases hd : a2.defers with
                  | nil => rfl
                  | cons x l => rw [hd] at this; cases this
                unfold roundEnd2 at h
                split at h
                · next lp2 hl2 =>
                  obtain ⟨hd2, x2, hx2, hr2⟩ := t4.st.live l _ hl2
                  cases hr2 with
                  | @loop _ L2 hs2 hpd2 htr2 hps2 hasg2 hbody2 =>
                  rw [hpl2] at hx2
                  have fin : ∀ (jump : Option Code) (go : Bool), jump.isNone = go → Steps P (lone b (c :: cs) w) (lone (c.finish (.bool go)) cs (World.setBlk w2 (C.pl l).blk (.loop { L2 with state := if jump.isNone then .ready else .done, pending := jump }))) →
                      roundFin l r'.st lp2 jump go = some cr → Returns P (lone b (c :: cs) w) c cs C S w cr := by
                    intro jump go hjg hsteps hcr
                    unfold roundFin at hcr
                    cases hcr
                    have t5 := Tran.write t4.st hl2 (.loop { lp2 with state := bif go then .ready else .done, pending := jump }) (.loop { L2 with state := if jump.isNone then .ready else .done, pending := jump })
                      (.loop (by rw [hjg]; cases go <;> rfl) rfl htr2 hps2 hasg2 hbody2)
                    rw [hpl2] at t5
                    exact ⟨C2, _, _, hsteps, t4.trans t5, .bool go⟩
                  have hrunE := fun jump => run_endRound (P := P) hx2 jump
                  cases hex : r'.ex with
                  | normal =>
                    rw [hex] at h hend2
                    exact fin none true rfl (hst2.trans (Steps.trans hend2 (.one (s_roundEnd hbk hbr (hrunE none))))) h
                  | ret =>
                    rw [hex] at h hend2
                    obtain ⟨k2, hk2⟩ := hend2
                    exact fin (some .ret) false rfl (hst2.trans (hk2.trans (.one (s_roundRet hbk hbr (hrunE _))))) h
                  | exit id =>
                    rw [hex] at h hend2
                    obtain ⟨k2, hk2, hto⟩ := hend2
                    exact fin (some (.exit id)) false rfl (hst2.trans (hk2.trans (.one (s_roundExit hbk hbr (by rw [hto]; rfl) (hrunE _))))) h
                  | panic v =>
                    rw [hex] at h hend2
                    cases h
                    obtain ⟨k2, x, hk2, hv, hnc⟩ := hend2
                    refine ⟨C2, x, w2, hst2.trans (hk2.trans (.one ?_)), t4, hv⟩
                    have ea : ({ fon b a2 k2 with mode := .panicking [{ v := x, recovered := false }] } : Frame) = leavingF b ⟨a2.tmps, []⟩ k2 (.panicking [{ v := x, recovered := false }]) := by
                      simp [fon, leavingF, had]
                    rw [ea]
                    exact s_roundPanic hnc
                · cases h
              · cases h
            · cases h
          · cases h
        · cases h
      · cases h
  · cases h

/-- A call of a function value. -/
theorem callVF_ok (he : EnvOk E P) {ev : Ev} (hev : EvOk E P ev) (hcall : CallOk E P ev) : CallVOk E P ev := by
  intro g args cr C S w gx xs c cs h hg hv ha hS
  unfold callVF at h
  split at h
  · next f first cap =>
    cases hb : hasBody E f with
    | false => rw [hb] at h; cases h
    | true =>
    rw [hb] at h
    simp only [cond_true] at h
    cases hv with
    | func hf h1 h2 =>
    rename_i fx cx
    left
    refine ⟨f, fx ++ xs ++ cx, ?_, hcall f _ cr C S w _ c cs h hg (by simpa using (h1.append ha).append h2) hS⟩
    simp only [Deferred.ofValue, Sem.run_bind, Sem.run_pure, Result.andThen_ok, invoke]
    exact callFunc_ok he hb _ w
  · next l =>
    cases hv with
    | func hf _ _ => exact absurd rfl (hf l)
    | yield hd =>
    right
    obtain ⟨f, tmps, asg, body, hrun, hret⟩ := roundF_ok hev h hg ha hS c cs
    refine ⟨_, f, tmps, asg, body, ?_, hret⟩
    simp only [Deferred.ofValue, Sem.run_bind, Sem.run_pure, Result.andThen_ok, invoke, Array.empty_append]
    exact hrun
  · next name first =>
    cases hv with
    | func hf h1 h2 =>
    rename_i fx cx
    have hall := h1.append ha
    split at h
    · next r rest heq =>
      rw [heq] at hall
      obtain ⟨p, hp, h⟩ := Option.bind_eq_some_iff.1 h
      left
      generalize hq : fx.toList ++ xs.toList = q at hall
      cases hall with
      | @cons _ _ x _ ys hr0 hrest =>
      obtain ⟨zs, hz, hvz⟩ := invoke_method he hS hr0 hrest hp
      refine ⟨p.1, zs, ?_, hcall p.1 p.2 cr C S w zs c cs h hg hvz hS⟩
      have hsum : fx ++ xs = (x :: ys).toArray := by apply Array.ext'; simp [hq]
      simp only [Deferred.ofValue, Sem.run_bind, Sem.run_pure, Result.andThen_ok, invoke, hsum]
      have h0 : (x :: ys).toArray[0]? = some x := by simp
      have h1 : (x :: ys).toArray.extract 1 (x :: ys).toArray.size = ys.toArray := by
        apply Array.ext'
        simp
      simp only [h0, h1]
      exact hz
    · cases h
  · cases h
end
end Am

/- The abstract machine: control (9): loops over functions; all code. -/
namespace Am
open Go

section
variable {E : Env} {P : Program}

theorem run_enterLoop (f : FuncId) (tmps : Array Value) (params : Array Tmp) (asg body : Code) (w : World) :
    (Instr.enterLoop f tmps params asg body none).run P w = .ok (w.heap.size + 1, [{ target := .collected w.heap.size, args := #[] }])
      (World.pushed (World.pushed w (.deferred (some []))) (.loop { state := .ready, pending := none, fn := f, tmps, params, assign := asg, body, defers := w.heap.size })) := by
  simp [Instr.enterLoop, World.pushed]
  rfl

theorem s_range {b : Frame} {a : Act} {k : List Item} {cs : List Frame} {w w' : World} {f : Operand} {params : Array Tmp} {asg body : Code} {l : Nat} {mk : List Deferred} {g : FuncId} {ys : Array Value} (hr : b.roundOf = none)
    (h1 : (Instr.enterLoop b.fn a.tmps params asg body none).run P w = .ok (l, mk) w')
    (h2 : (do let d ← Deferred.ofValue (a.eval f) #[.func (.yield l) #[] #[]]; invoke d.target d.args : Sem Next).run P w' = .ok (.enter g ys) w') :
    step P (lone (fon b a (.code (.rangeFunc f params asg body) :: k)) cs w) = .next (lone (Frame.enter P g ys .normal) (fon b ⟨a.tmps, mk ++ a.defers⟩ (.inRangeFunc l :: k) :: cs) w') := by
  refine step_lone_go ?_
  have e1 := eval_fon b ⟨a.tmps, mk ++ a.defers⟩ (.inRangeFunc l :: k)
  have e2 : (⟨a.tmps, mk ++ a.defers⟩ : Act).eval = a.eval := by funext x; cases x <;> rfl
  rw [e2] at e1
  simp only [fon, hr] at e1
  simp only [stepG, stepG.exec, fon, hr, Sem.runT_eq, h1, GStep.bare_after, stepG.apply, resolve, e1]
  have e3 : Array.map a.eval #[Operand.const (.func (.yield l) #[] #[])] = #[.func (.yield l) #[] #[]] := by simp [Act.eval]
  simp only [e3, h2, if_true]
  rfl

theorem run_endLoop {w : World} {l : Nat} {L : Loop} (h : w.heap[l]? = some (.loop L)) (hs : L.state ≠ .busy) : (Instr.endLoop l).run P w = .ok L.pending (World.setBlk w l (.loop { L with state := .exhausted })) := by
  have hs' : (L.state == .busy) = false := by simpa using hs
  simp only [Instr.endLoop, Sem.run_bind, run_getLoop h, Result.andThen_ok, hs', Bool.false_eq_true, if_false, run_setObj h (by simp), Sem.run_pure]

theorem s_endRange {b : Frame} {a : Act} {k : List Item} {cs : List Frame} {w w' : World} {l : Nat} {jump : Option Code} (h : (Instr.endLoop l).run P w = .ok jump w') :
    step P (lone (fon b a (.endRangeFunc l :: k)) cs w) = .next (lone (fon b a ((jump.map Item.code).toList ++ k)) cs w') :=
  step_lone_go (by simp [stepG, stepG.exec, fon, h])

theorem rangeFinish (b : Frame) (a : Act) (l : Nat) (k : List Item) (v : Value) : (fon b a (.inRangeFunc l :: k)).finish v = fon b a (.endRangeFunc l :: k) := rfl

/-- Behind a loop over a function. -/
theorem rangeEnd_ok {l blk : Nat} {fr fr2 : Fr} {T : Tr AV} {b : Frame} {a2 : Act} {k : List Item} {cs : List Frame} {C3 : Cx} {S3 : St} {w3 : World} {m : Machine} (hS : StR C3 S3 w3) (hF : FrR C3 fr2 b a2 cs) (hT : TR C3 fr2.nt T a2.tmps)
    (hpl : (C3.pl l).blk = blk) (hn : fr2.nt = fr.nt) (hr : fr2.round = fr.round) (hp : fr2.pan = fr.pan) (hst : Steps P m (lone (fon b a2 (.endRangeFunc blk :: k)) cs w3)) :
    Good P C3 S3 w3 fr b k cs m (rangeEnd2 l fr2 T S3 (S3.heap.get l)) := by
  unfold rangeEnd2
  split
  · next lp hl =>
    obtain ⟨hd, x, hx, hrr⟩ := hS.live _ _ hl
    cases hrr with
    | @loop _ L3 hs3 hpd3 htr3 hps3 hasg3 hbody3 =>
    split
    · exact Good.stuck
    · next hnb =>
      have hnb' : L3.state ≠ .busy := by rw [hs3]; exact fun h => hnb h
      have t4 := Tran.write hS hl (.loop { lp with state := .exhausted }) (.loop { L3 with state := .exhausted }) (.loop rfl hpd3 htr3 hps3 hasg3 hbody3)
      rw [hpl] at hx t4
      have hend := run_endLoop (P := P) hx hnb'
      have hst2 := hst.trans (.one (s_endRange (P := P) (b := b) (a := a2) (k := k) (cs := cs) hend))
      refine Good.tran t4 ?_
      have one : ∀ (e : Ex), Ends P b k cs C3 m e a2 (World.setBlk w3 blk (.loop { L3 with state := .exhausted })) →
          Good P C3 (S3.put l (some (.loop { lp with state := .exhausted }))) (World.setBlk w3 blk (.loop { L3 with state := .exhausted })) fr b k cs m
            (.one ⟨e, fr2, T, S3.put l (some (.loop { lp with state := .exhausted }))⟩) := by
        intro e he l hl
        cases hl
        refine ⟨_, List.mem_singleton.2 rfl, C3, _, _, cs, Tran.refl t4.st, hT, hF, hn, hr, ?_, he⟩
        show CsR fr.pan fr2.pan cs cs
        rw [hp]; exact .same
      have key : ∀ jump, lp.pending = jump → Steps P m (lone (fon b a2 ((jump.map Item.code).toList ++ k)) cs (World.setBlk w3 blk (.loop { L3 with state := .exhausted }))) := by
        intro jump hj
        rw [← hj, ← hpd3]; exact hst2
      unfold rangeEnd3
      split
      · next hp => exact one .normal (key _ hp)
      · next hp => exact one .ret ⟨k, key _ hp⟩
      · next id hp => exact one (.exit id) ⟨k, key _ hp, rfl⟩
      · exact Good.stuck
  · exact Good.stuck

/-- The call of a loop's function, and what is behind it. -/
theorem rangeCall_ok {l blk : Nat} {fr fr2 : Fr} {T : Tr AV} {b : Frame} {a2 : Act} {k : List Item} {cs : List Frame} {C2 : Cx} {S2 : St} {w2 : World} {m : Machine} (hF : FrR C2 fr2 b a2 cs) (hT : TR C2 fr2.nt T a2.tmps)
    (hd : C2.D l) (hpl : (C2.pl l).blk = blk) (hn : fr2.nt = fr.nt) (hr : fr2.round = fr.round) (hp : fr2.pan = fr.pan) {cr : CR} (h : Returns P m (fon b a2 (.inRangeFunc blk :: k)) cs C2 S2 w2 cr) :
    Good P C2 S2 w2 fr b k cs m (crOut fr2 T S2 (fun _ s3 => rangeEnd2 l fr2 T s3 (s3.heap.get l)) (some cr)) := by
  cases cr with
  | same v =>
    obtain ⟨C3, x, w3, hs, t3, _⟩ := h
    rw [rangeFinish] at hs
    exact Good.tran t3 (rangeEnd_ok t3.st (hF.mono t3.ext) (hT.mono t3.ext) (by rw [t3.ext.pl _ hd]; exact hpl) hn hr hp hs)
  | val v S3 =>
    obtain ⟨C3, x, w3, hs, t3, _⟩ := h
    rw [rangeFinish] at hs
    exact Good.tran t3 (rangeEnd_ok t3.st (hF.mono t3.ext) (hT.mono t3.ext) (by rw [t3.ext.pl _ hd]; exact hpl) hn hr hp hs)
  | pan v S3 =>
    obtain ⟨C3, x, w3, hs, t3, hvx⟩ := h
    rw [raise_fon] at hs
    refine Good.tran t3 ?_
    intro l hl
    cases hl
    refine ⟨_, List.mem_singleton.2 rfl, C3, a2, w3, cs, Tran.refl t3.st, hT.mono t3.ext, hF.mono t3.ext, hn, hr, ?_, _, x, hs, hvx, by intro _ _ _ _ _ h; cases h⟩
    show CsR fr.pan fr2.pan cs cs
    rw [hp]; exact .same

/-- The two blocks of a loop over a function. -/
theorem range_blocks {C : Cx} {S : St} {w : World} (hS : StR C S w) {nt : Nat} {T : Tr AV} {a : Act} (hT : TR C nt T a.tmps) (fn : FuncId) (params : Array Tmp) (asg body : Code) :
    ∃ C2, Tran C S w C2 ((S.alloc (.defs true)).alloc (.loop { state := .ready, pending := none, fn := 0, nt := nt, tmps := T, params := params.toList, assign := asg, body }))
        (World.pushed (World.pushed w (.deferred (some []))) (.loop { state := .ready, pending := none, fn, tmps := a.tmps, params, assign := asg, body, defers := w.heap.size })) ∧
      C2.D S.next ∧ (C2.pl S.next).blk = w.heap.size ∧ C2.D (S.alloc (.defs true)).next ∧ (C2.pl (S.alloc (.defs true)).next).blk = w.heap.size + 1 := by
  have t1 := Tran.alloc hS (.defs true) (.deferred (some [])) 0 .defs
  have hTr1 := hT.mono t1.ext
  have e2 := fresh_ext t1.st 0
  have t2 := Tran.alloc t1.st (.loop { state := .ready, pending := none, fn := 0, nt := nt, tmps := T, params := params.toList, assign := asg, body })
    (.loop { state := .ready, pending := none, fn, tmps := a.tmps, params, assign := asg, body, defers := w.heap.size }) 0 (.loop rfl rfl (hTr1.mono e2) rfl rfl rfl)
  refine ⟨_, t1.trans t2, .inl (.inr rfl), ?_, .inr rfl, ?_⟩
  · have : S.next ≠ (S.alloc (.defs true)).next := by show S.next ≠ S.next + 1; omega
    simp [Cx.withBlock, this]
  · simp [Cx.withBlock, World.pushed]

theorem ok_range_func (he : EnvOk E P) {ev : Ev} (hcall : CallOk E P ev) {f : Operand} {params : Array Tmp} {asg body : Code} :
    RunOk E P (.rangeFunc f params asg body) (fun fr T s => rangeOut E ev params.toList asg body fr T s (opnd E f T)) := by
  intro C S w fr T b a k cs hg hT hF hS
  show Good P C S w fr b k cs _ (rangeOut E ev params.toList asg body fr T S (opnd E f T))
  cases hof : opnd E f T with
  | none => exact Good.stuck
  | some v =>
  have hTa : TR C a.tmps.size T a.tmps := ⟨rfl, hT.2⟩
  have hv := opnd_ok hg hTa hof
  unfold rangeOut rangeOver
  simp only
  split
  · next g first cap =>
    obtain ⟨nt, defers, pan, round⟩ := fr
    cases round with
    | some l => exact Good.stuck
    | none =>
    simp only
    have hbr : b.roundOf = none := by have := hF.round; cases this with | none h => exact h
    cases hb : hasBody E g with
    | false => exact Good.stuck
    | true =>
    simp only [cond_true]
    generalize hq : a.eval f = q at hv
    cases hv with
    | func hfn h1 h2 =>
    rename_i fx cx
    obtain ⟨C2, t12, hD0, hpl0, hD1, hpl1⟩ := range_blocks hS hT b.fn params asg body
    have hlen := run_enterLoop (P := P) b.fn a.tmps params asg body w
    generalize (S.alloc (.defs true)).next = l at hD1 hpl1 ⊢
    generalize World.pushed (World.pushed w (.deferred (some []))) (.loop { state := .ready, pending := none, fn := b.fn, tmps := a.tmps, params, assign := asg, body, defers := w.heap.size }) = w2 at t12 hlen
    generalize (S.alloc (.defs true)).alloc (.loop { state := .ready, pending := none, fn := 0, nt := nt, tmps := T, params := params.toList, assign := asg, body }) = S2 at t12 ⊢
    generalize w.heap.size + 1 = blk at hpl1 hlen
    have hyield : VR C2 (.func (.yield l) [] []) (.func (.yield blk) #[] #[]) := by
      have := VR.yield (C := C2) hD1
      rw [hpl1] at this
      exact this
    have hargs : VRs C2 (first ++ [.func (.yield l) [] []] ++ cap) (fx ++ #[Value.func (.yield blk) #[] #[]] ++ cx).toList := by
      simpa using ((h1.mono t12.ext).append (.one hyield)).append (h2.mono t12.ext)
    have hinv : (do let d ← Deferred.ofValue (a.eval f) #[Value.func (.yield blk) #[] #[]]; invoke d.target d.args : Sem Next).run P w2 = .ok (.enter g (fx ++ #[Value.func (.yield blk) #[] #[]] ++ cx)) w2 := by
      rw [hq]
      simp only [Deferred.ofValue, Sem.run_bind, Sem.run_pure, Result.andThen_ok, invoke]
      exact callFunc_ok he hb _ w2
    have hstep := s_range (P := P) (b := b) (a := a) (k := k) (cs := cs) (f := f) hbr hlen hinv
    have hF2 : FrR C2 ⟨nt, { target := .collected S.next, args := [] } :: defers, pan, none⟩ b ⟨a.tmps, [{ target := .collected w.heap.size, args := #[] }] ++ a.defers⟩ cs := by
      refine ⟨.cons ?_ (hF.defs.mono t12.ext), (hF.mono t12.ext).pan, (hF.mono t12.ext).round⟩
      have := DefR.collected (C := C2) hD0
      rw [hpl0] at this
      exact this
    cases hcf : callF E ev g (first ++ [.func (.yield l) [] []] ++ cap) S2 with
    | none => exact Good.stuck
    | some cr =>
      have hret := hcall g _ cr C2 S2 w2 _ (fon b ⟨a.tmps, [{ target := .collected w.heap.size, args := #[] }] ++ a.defers⟩ (.inRangeFunc blk :: k)) cs hcf (hg.mono t12.ext) hargs t12.st
      exact Good.tran t12 (Good.steps (.one hstep) (rangeCall_ok hF2 (hT.mono t12.ext) hD1 hpl1 rfl rfl rfl hret))
  · exact Good.stuck
end
end Am

/- The abstract machine: control (10): all code. -/
namespace Am
open Go

/-- What is shown elsewhere of regions that draw their order. -/
def DrawOk (E : Env) (P : Program) : Prop :=
  ∀ (ev : Ev), CallOk E P ev → CallVOk E P ev → ∀ (id : Nat) (ops : Array Oper), RunOk E P (.region id ops true) ((regionC E ops.toList true).run ev)

section
variable {E : Env} {P : Program}

theorem code_ok (he : EnvOk E P) (hx : ExtOk E P) (hd : DrawOk E P) {ev : Ev} (hev : EvOk E P ev) (hcall : CallOk E P ev) (hcallV : CallVOk E P ev) : ∀ c, RunOk E P c ((codeC E c).run ev)
  | .skip => ok_done fun _ _ _ _ _ => s_skip
  | .label _ => ok_done fun _ _ _ _ _ => s_label
  | .region id ops true => hd ev hcall hcallV id ops
  | .region id ops false => ok_region he hx hcall hcallV
  | .seq a b => ok_seq (code_ok he hx hd hev hcall hcallV a) (code_ok he hx hd hev hcall hcallV b)
  | .cond _ a b => ok_cond (code_ok he hx hd hev hcall hcallV a) (code_ok he hx hd hev hcall hcallV b)
  | .block _ body => ok_block (code_ok he hx hd hev hcall hcallV body)
  | .loop body => ok_loop (code_ok he hx hd hev hcall hcallV body) (hev (.loop body))
  | .scope body => ok_scope (code_ok he hx hd hev hcall hcallV body)
  | .exit _ => ok_exit
  | .ret => ok_ret
  | .rangeFunc _ _ _ _ => ok_range_func he hcall
  | .goto _ => ok_stuck
  | .refuse _ => ok_stuck

/-- THE ABSTRACT MACHINE IS SOUND. -/
theorem ev_ok (he : EnvOk E P) (hx : ExtOk E P) (hd : DrawOk E P) (hmemo : MemoOk E P) (hmerge : E.merge = true → ∀ ev, EvOk E P ev → MergeOk E P ev) : ∀ n, EvOk E P (ev E n)
  | 0 => fun _ => ok_stuck
  | n + 1 => fun c => by
    have ih := ev_ok he hx hd hmemo hmerge n
    have hcall := callF_ok he hmemo ih (fun h => hmerge h _ ih)
    exact code_ok he hx hd ih hcall (callVF_ok he ih hcall) c

/-- A call of a function by the abstract machine is a call of the model's. -/
theorem call_ok (he : EnvOk E P) (hx : ExtOk E P) (hd : DrawOk E P) (hmemo : MemoOk E P) (hmerge : E.merge = true → ∀ ev, EvOk E P ev → MergeOk E P ev) (n : Nat) : CallOk E P (ev E n) :=
  callF_ok he hmemo (ev_ok he hx hd hmemo hmerge n) (fun h => hmerge h _ (ev_ok he hx hd hmemo hmerge n))
end
end Am
