/- The abstract machine: its operations are the model's, first part. -/
import Derived.Test.YtlclpmbeaofohaaGreatAmA
import Derived.Laws.Tables
import Derived.IntWalk
import Derived.Laws.Strings
import Derived.ChangeKeysEq
import Derived.LaidEql
import Derived.Laws.IdiomStrings
set_option linter.unusedSectionVars false
set_option linter.unusedVariables false
set_option linter.unusedSimpArgs false

/- The abstract machine: its operations are the model's (1): those that look at no memory. -/
namespace Am
open Go

def GlobR (E : Env) (C : Cx) : Prop := ∀ g cs, E.glob g = some cs → ∃ ms, C.M g = some ms ∧ VRs C cs ms ∧ Cells cs

theorem GlobR.mono {E : Env} {C C' : Cx} (h : GlobR E C) (e : Ext C C') : GlobR E C' := fun g cs hg =>
  let ⟨ms, hm, hv, hc⟩ := h g cs hg; ⟨ms, e.M _ _ hm, hv.mono e, hc⟩

inductive DefR (C : Cx) : ADef → Deferred → Prop where
  | fn {fn : Fn} {a b : List AV} {x y : Array Value} (hf : ∀ l, fn ≠ .yield l) (ha : VRs C a x.toList) (hb : VRs C b y.toList) : DefR C ⟨.fn fn b, a⟩ ⟨.fn fn y, x⟩
  | collected {r : Nat} (hd : C.D r) : DefR C ⟨.collected r, []⟩ ⟨.collected (C.pl r).blk, #[]⟩

inductive NextR (C : Cx) : AV → Next → Prop where
  | value {v : AV} {x : Value} (h : VR C v x) : NextR C v (.value x)
  | skip : NextR C (.tuple []) .skip

/-- What an operation that was made ready has to be. -/
def SOk (E : Env) (P : Program) (o : Oper) (so : SOp) : Prop :=
  ∀ (C : Cx) (T : Tr AV) (a : Act) (S : St) (w : World), GlobR E C → TR C a.tmps.size T a.tmps → StR C S w →
  match so with
  | .bad => True
  | .pure f => ∀ v, f T = some v → ∃ x, (execOp a.eval o).run P w = .ok (.value x) w ∧ VR C v x
  | .read _ f => ∀ v, f T S = some v → ∃ x, (execOp a.eval o).run P w = .ok (.value x) w ∧ VR C v x
  | .look f => ∀ v, f T S = some v → ∃ x, (execOp a.eval o).run P w = .ok (.value x) w ∧ VR C v x
  | .make f => (∀ v, f T = some (.val v) → ∃ C' x w', (execOp a.eval o).run P w = .ok (.value x) w' ∧ Tran C S w C' S w' ∧ VR C' v x) ∧
      (∀ ob g, f T = some (.obj ob g) → ∃ C' x w', (execOp a.eval o).run P w = .ok (.value x) w' ∧ Tran C S w C' (S.alloc ob) w' ∧ VR C' (g S.next) x)
  | .act _ _ f => ∀ v S', f T S = some (v, S') → ∃ C' nx w', (execOp a.eval o).run P w = .ok nx w' ∧ Tran C S w C' S' w' ∧ NextR C' v nx
  | .pick f => ∀ l, f T = some l → ∃ v ∈ l, ∃ x, (execOp a.eval o).run P w = .ok (.value x) w ∧ VR C v x
  | .picks f => ∀ l, f T S = some l → ∃ p ∈ l, ∃ C' x w', (execOp a.eval o).run P w = .ok (.value x) w' ∧ Tran C S w C' p.2 w' ∧ VR C' p.1 x
  | .call f => ∀ g args, f T S = some (g, args) → ∃ xs, (execOp a.eval o).run P w = .ok (.enter g xs) w ∧ VRs C args xs.toList
  | .callV f ar => ∀ g args, f T = some g → ar T = some args → ∃ gx xs, VR C g gx ∧ VRs C args xs.toList ∧
      execOp a.eval o = (do let d ← Deferred.ofValue gx xs; invoke d.target d.args)
  | .defer f => ∀ d, f T = some d → ∃ dv, (execOp a.eval o).run P w = .ok (.defer dv) w ∧ DefR C d dv
  | .panic f => ∀ v, f T = some v → ∃ x, (execOp a.eval o).run P w = .halt (.panic x) w ∧ VR C v x
  | .recover => (execOp a.eval o).run P w = .ok .recover w

theorem opnd_ok {E : Env} {C : Cx} {T : Tr AV} {a : Act} (hg : GlobR E C) (hT : TR C a.tmps.size T a.tmps) {x : Operand} {v : AV} (h : opnd E x T = some v) : VR C v (a.eval x) := by
  cases x with
  | tmp t =>
    obtain ⟨y, hy, hr⟩ := hT.2 t v h
    simpa [Act.eval, Array.getD_eq_getD_getElem?, hy] using hr
  | const c =>
    simp only [opnd] at h
    cases hc : ofVal c with
    | none => rw [hc] at h; simp [justO, nothing] at h
    | some u => rw [hc] at h; simp only [justO, just] at h; cases h; exact ofVal_ok hc
  | global g =>
    simp only [opnd] at h
    cases hc : E.glob g with
    | none => rw [hc] at h; simp [nothing] at h
    | some cs =>
      rw [hc] at h; simp only [just] at h; cases h
      obtain ⟨ms, hm, hv, hcs⟩ := hg g cs hc
      have hw : IsAt ms 0 ms := .whole ms
      exact .iptr hm hw hv hcs
  | func f =>
    simp only [opnd, just] at h; cases h
    exact .func (fun l e => by cases e) .nil .nil

theorem opnds_ok {E : Env} {C : Cx} {T : Tr AV} {a : Act} (hg : GlobR E C) (hT : TR C a.tmps.size T a.tmps) : ∀ {l : List Operand} {vs : List AV}, opndsC E l T = some vs → VRs C vs (l.map a.eval)
  | [], vs, h => by cases h; exact .nil
  | x :: l, vs, h => by
    simp only [opndsC] at h
    obtain ⟨v, hv, h⟩ := Option.bind_eq_some_iff.1 h
    obtain ⟨r, hr, h⟩ := Option.bind_eq_some_iff.1 h
    cases h
    exact .cons (opnd_ok hg hT hv) (opnds_ok hg hT hr)

theorem parts_ok {E : Env} {C : Cx} {T : Tr AV} {a : Act} (hg : GlobR E C) (hT : TR C a.tmps.size T a.tmps) : ∀ {l : List (Nat × Operand)} {ps : List (Nat × AV)}, partsC E l T = some ps →
    ps.map (·.1) = l.map (·.1) ∧ VRs C (ps.map (·.2)) (l.map fun p => a.eval p.2)
  | [], ps, h => by cases h; exact ⟨rfl, .nil⟩
  | p :: l, ps, h => by
    simp only [partsC] at h
    obtain ⟨v, hv, h⟩ := Option.bind_eq_some_iff.1 h
    obtain ⟨r, hr, h⟩ := Option.bind_eq_some_iff.1 h
    cases h
    obtain ⟨h1, h2⟩ := parts_ok hg hT hr
    exact ⟨by simp [h1], .cons (opnd_ok hg hT hv) h2⟩

theorem natOf_ok {C : Cx} {v : AV} {x : Value} {n : Nat} (h : VR C v x) (e : natOf v = some n) : ∃ k, x = .int k n := by
  cases h with
  | int k m =>
    cases m with
    | ofNat m => simp only [natOf, Option.some.injEq] at e; subst e; exact ⟨k, rfl⟩
    | negSucc m => simp [natOf] at e
  | _ => simp [natOf] at e

section
variable {E : Env} {P : Program}

/-- One operand, no memory. -/
theorem SOk.pure1 {o : Oper} {x : Operand} {f : AV → Option AV} {G : Value → Sem Value} (ho : ∀ ρ, execOp ρ o = (do pure (.value (← G (ρ x)))))
    (h : ∀ (C : Cx) (w : World) v y r, VR C v y → f v = some r → ∃ z, (G y).run P w = .ok z w ∧ VR C r z) : SOk E P o (.pure fun T => (opnd E x T).bind f) := by
  intro C T a S w hg hT hS v hv
  obtain ⟨u, hu, hv⟩ := Option.bind_eq_some_iff.1 hv
  obtain ⟨z, hz, hr⟩ := h C w u _ v (opnd_ok hg hT hu) hv
  exact ⟨z, by rw [ho]; simp [hz], hr⟩

theorem SOk.pure2 {o : Oper} {x y : Operand} {f : AV → AV → Option AV} {G : Value → Value → Sem Value} (ho : ∀ ρ, execOp ρ o = (do pure (.value (← G (ρ x) (ρ y)))))
    (h : ∀ (C : Cx) (w : World) v u y z r, VR C v y → VR C u z → f v u = some r → ∃ q, (G y z).run P w = .ok q w ∧ VR C r q) : SOk E P o (pure2 E f x y) := by
  intro C T a S w hg hT hS v hv
  obtain ⟨u, hu, hv⟩ := Option.bind_eq_some_iff.1 hv
  obtain ⟨u', hu', hv⟩ := Option.bind_eq_some_iff.1 hv
  obtain ⟨z, hz, hr⟩ := h C w u u' _ _ v (opnd_ok hg hT hu) (opnd_ok hg hT hu') hv
  exact ⟨z, by rw [ho]; simp [hz], hr⟩

/-- One operand, and memory that is read. -/
theorem SOk.read1 {o : Oper} {x y : Operand} {f : St → AV → Option AV} {G : Value → Sem Value} (ho : ∀ ρ, execOp ρ o = (do pure (.value (← G (ρ x)))))
    (h : ∀ (C : Cx) (S : St) (w : World) v y r, StR C S w → VR C v y → f S v = some r → ∃ z, (G y).run P w = .ok z w ∧ VR C r z) :
    SOk E P o (.read (opnd E y) fun T s => (opnd E x T).bind (f s)) := by
  intro C T a S w hg hT hS v hv
  obtain ⟨u, hu, hv⟩ := Option.bind_eq_some_iff.1 hv
  obtain ⟨z, hz, hr⟩ := h C S w u _ v hS (opnd_ok hg hT hu) hv
  exact ⟨z, by rw [ho]; simp [hz], hr⟩

theorem ok_pick {o : Oper} {c x y : Operand} (ho : o.op = .pick c x y) : SOk E P o (.pure fun T => (opnd E c T).bind (pickV (opnd E x) (opnd E y) T)) := by
  intro C T a S w hg hT hS v h
  obtain ⟨t, ht, h⟩ := Option.bind_eq_some_iff.1 h
  have hc := opnd_ok hg hT ht
  generalize he : a.eval c = z at hc
  cases hc with
  | bool b =>
    cases b with
    | true => exact ⟨_, by simp [execOp, ho, asBool, he], opnd_ok hg hT h⟩
    | false => exact ⟨_, by simp [execOp, ho, asBool, he], opnd_ok hg hT h⟩
  | _ => simp [pickV] at h

theorem ok_move {o : Oper} {x : Operand} (ho : o.op = .move x ∨ o.op = .assign x) : SOk E P o (.pure (opnd E x)) := by
  intro C T a S w hg hT hS v h
  refine ⟨_, ?_, opnd_ok hg hT h⟩
  rcases ho with ho | ho <;> simp [execOp, ho]

/-- The place of a block that is made. -/
abbrev Cx.fresh (C : Cx) (S : St) (w : World) (n : Nat) : Cx := C.withBlock S.next ⟨w.heap.size, 0, n⟩

theorem fresh_ext {C : Cx} {S : St} {w : World} (hS : StR C S w) (n : Nat) : Ext C (C.fresh S w n) := Ext.withBlock (fun hd => Nat.lt_irrefl _ (hS.fresh _ hd))

/-- Cells are made. -/
theorem make_cells {C : Cx} {S : St} {w : World} (hS : StR C S w) {cs : List AV} {c : Array Value} {vs ex : List Value} (hv : VRs C cs vs) (hc : c.toList = vs ++ ex) (hcs : Cells cs)
    (t : TypeId) (part : Bool) (hp : part = false → ex = []) : Tran C S w (C.fresh S w c.size) (S.alloc (.cells cs t part)) (World.pushed w (.cells c t (0, 0))) := by
  refine Tran.alloc hS _ _ c.size (.cells (hv.mono (fresh_ext hS _)) ?_ ?_ hcs (.inr (Nat.le_refl _)) ?_)
  · rw [Cx.pl_new, hc]; exact ⟨[], ex, by simp, rfl⟩
  · rw [Cx.pl_new]
  · intro h
    rw [Cx.pl_new]
    refine ⟨rfl, ?_, rfl⟩
    have := congrArg List.length hc
    rw [hp h] at this
    simpa [hv.length] using this.symm

theorem fresh_ptr {C : Cx} {S : St} {w : World} {n : Nat} (off : Nat) : VR (C.fresh S w n) (.ptr S.next off) (.pointer (some ⟨w.heap.size, off, none⟩)) := by
  have := VR.ptr (C := C.fresh S w n) (off := off) (Cx.D_new C S.next ⟨w.heap.size, 0, n⟩)
  rw [Cx.pl_new] at this
  simpa using this

theorem fresh_slice {C : Cx} {S : St} {w : World} {n len sz : Nat} {cap : Option Nat} {c : Nat} (h : match cap with | some k => c = k ∧ 0 < k | none => c * sz = n ∧ 0 < sz) (hlc : len ≤ c) :
    VR (C.fresh S w n) (.slice S.next 0 len sz cap) (.slice (some ⟨w.heap.size, 0, none⟩) len c) := by
  have := VR.slice (C := C.fresh S w n) (b := S.next) (off := 0) (len := len) (sz := sz) (cap := cap) (c := c) (Cx.D_new C S.next ⟨w.heap.size, 0, n⟩) (by
    cases cap with
    | some k => exact h
    | none => simpa [CapR, Cx.pl_new] using h) hlc
  rw [Cx.pl_new] at this
  simpa using this

variable (he : EnvOk E P)
include he

theorem ok_alloc {o : Oper} {t : TypeId} (ho : o.op = .alloc t) : SOk E P o (allocC E t) := by
  unfold allocC
  cases hz : zeroOf E t with
  | none => intro C T a S w _ _ _; trivial
  | some z =>
    simp only
    cases ht : z.isTuple with
    | true => intro C T a S w _ _ _; trivial
    | false =>
      intro C T a S w hg hT hS
      refine ⟨(nofun), fun ob g h => ?_⟩
      cases h
      obtain ⟨x, hx, hr, _⟩ := run_zero he hz w
      refine ⟨_, _, _, ?_, make_cells hS (hr C).cells (c := x.cells) (ex := []) (by simp) ((hr C).cells_cell ht) t false (fun _ => rfl), fresh_ptr 0⟩
      simp [execOp, ho, Instr.alloc, hx, newVar, newRow, World.pushed]

omit he in
theorem ok_box {o : Oper} {t : TypeId} {x : Operand} (ho : o.op = .box t x) :
    SOk E P o (.make fun T => (opnd E x T).bind fun v => bif v.isTuple then none else some (.obj (.cells v.cells t false) fun b => .ptr b 0)) := by
  intro C T a S w hg hT hS
  have key : ∀ m, ((opnd E x T).bind fun v => bif v.isTuple then none else some (Mk.obj (.cells v.cells t false) fun b => .ptr b 0)) = some m →
      ∃ v, opnd E x T = some v ∧ v.isTuple = false ∧ m = .obj (.cells v.cells t false) fun b => .ptr b 0 := by
    intro m h
    obtain ⟨v, hv, h⟩ := Option.bind_eq_some_iff.1 h
    cases ht : v.isTuple with
    | true => rw [ht] at h; cases h
    | false => rw [ht] at h; cases h; exact ⟨v, hv, ht, rfl⟩
  refine ⟨fun v h => ?_, fun ob g h => ?_⟩
  · obtain ⟨_, _, _, h⟩ := key _ h; cases h
  · obtain ⟨v, hv, ht, h⟩ := key _ h
    cases h
    have hr := opnd_ok hg hT hv
    refine ⟨_, _, _, ?_, make_cells hS hr.cells (c := (a.eval x).cells) (ex := []) (by simp) (hr.cells_cell ht) t false (fun _ => rfl), fresh_ptr 0⟩
    simp [execOp, ho, Instr.box, newVar, newRow, World.pushed]
end
end Am

/- The abstract machine: its operations are the model's (2): structs and arrays, fields, elements. -/
namespace Am
open Go

theorem zip_putAt (off : Nat) : ∀ (l : List Value) (k : Nat) (c : Array Value), (l.zipIdx k).foldl (fun cs (p : Value × Nat) => cs.setIfInBounds (off + p.2) p.1) c = putAt c (off + k) l
  | [], _, _ => rfl
  | v :: l, k, c => by
    rw [List.zipIdx_cons, List.foldl_cons, zip_putAt off l (k + 1)]
    rfl

/-- Parts are laid over cells. -/
theorem fill_ok {C : Cx} {place : Nat → Option (Nat × Nat)} : ∀ {ps : List (Nat × AV)} {qs : List (Nat × Value)} {cells : List AV} {xs : Array Value} {r : List AV},
    ps.map (·.1) = qs.map (·.1) → VRs C (ps.map (·.2)) (qs.map (·.2)) → VRs C cells xs.toList → Cells cells → fillA place ps cells = some r →
    ∃ ys, Instr.fill place xs qs = some ys ∧ VRs C r ys.toList ∧ Cells r ∧ ys.size = xs.size
  | [], qs, cells, xs, r, h1, _, h3, hcs, h => by
    have : qs = [] := by cases qs with | nil => rfl | cons _ _ => simp at h1
    subst this
    cases h
    exact ⟨xs, rfl, h3, hcs, rfl⟩
  | p :: ps, qs, cells, xs, r, h1, h2, h3, hcs, h => by
    cases qs with
    | nil => simp at h1
    | cons q qs =>
    obtain ⟨qi, qv⟩ := q
    obtain ⟨i, v⟩ := p
    simp only [List.map_cons, List.cons.injEq] at h1
    obtain ⟨rfl, h1⟩ := h1
    simp only [List.map_cons] at h2
    cases h2 with
    | cons hv h2 =>
    simp only [fillA] at h
    obtain ⟨q, hq, h⟩ := Option.bind_eq_some_iff.1 h
    cases hb : (Nat.beq (len' v.cells) q.2 && !v.isTuple) with
    | false => rw [hb] at h; cases h
    | true =>
    rw [hb] at h
    simp only [Bool.and_eq_true, Bool.not_eq_true'] at hb
    obtain ⟨cs, hov, h⟩ := Option.bind_eq_some_iff.1 h
    have hlen : v.cells.length = q.2 := by have := Nat.eq_of_beq_eq_true hb.1; simpa using this
    have hsz : qv.cells.size = q.2 := by have := hv.cells.length; simpa [hlen] using this
    obtain ⟨pre, mid, post, rfl, hp, hm, rfl⟩ := over_some hov
    obtain ⟨y, z3, he, a1, a4⟩ := VRs.split h3
    obtain ⟨y1, z2, rfl, a2, a3⟩ := VRs.split a1
    have hput : (putAt xs q.1 qv.cells.toList).toList = y1 ++ qv.cells.toList ++ z3 :=
      putAt_list _ xs _ y1 z2 z3 he (by rw [a2.length, hp]) (by rw [a3.length, hm, hv.cells.length])
    have hle : q.1 + qv.cells.size ≤ xs.size := by
      have := congrArg List.length he
      simp only [List.length_append, Array.length_toList] at this
      have e1 := a2.length; have e2 := a3.length; have e3 := hv.cells.length
      simp only [Array.length_toList] at e3
      omega
    obtain ⟨ys, hys, hr, hcr, hs⟩ := fill_ok (place := place) (ps := ps) (qs := qs) (xs := putAt xs q.1 qv.cells.toList) h1 h2 (by rw [hput]; exact (a2.append hv.cells).append a4)
      ((hcs.sub.1.sub.1.append (hv.cells_cell hb.2)).append hcs.sub.2) h
    refine ⟨ys, ?_, hr, hcr, hs.trans (putAt_size _ _ _)⟩
    have hz : qv.cells.zipIdx.foldl (fun cs (p : Value × Nat) => cs.setIfInBounds (q.1 + p.2) p.1) xs = putAt xs q.1 qv.cells.toList := by
      rw [← Array.foldl_toList, Array.toList_zipIdx]
      exact zip_putAt q.1 _ 0 xs
    have hc : (decide (qv.cells.size ≠ q.2) || decide (q.1 + qv.cells.size > xs.size)) = false := by
      simp [hsz]; omega
    obtain ⟨q1, q2⟩ := q
    simp only at hc hz hys
    simp only [Instr.fill, hq]
    rw [hc]
    simp only [Bool.false_eq_true, if_false]
    rw [← hys, ← hz]

section
variable {E : Env} {P : Program} (he : EnvOk E P)
include he

theorem places_ok : ∀ {l : List Field} {ps : List (Nat × Nat)}, fieldPlaces E l = some ps → l.mapM (fun f => (P.info? f.type).map fun i => (f.offset, i.size)) = some ps
  | [], ps, h => by cases h; rfl
  | f :: l, ps, h => by
    simp only [fieldPlaces] at h
    obtain ⟨n, hn, h⟩ := Option.bind_eq_some_iff.1 h
    obtain ⟨r, hr, h⟩ := Option.bind_eq_some_iff.1 h
    cases h
    have ih := places_ok hr
    unfold Am.sizeOf at hn
    cases hi : E.tys.get f.type with
    | none => rw [hi] at hn; cases hn
    | some i =>
      rw [hi] at hn
      simp [List.mapM_cons, ih, he.ty _ i hi, Option.some.inj hn]

theorem ok_build {o : Oper} {t : TypeId} {parts : Array (Nat × Operand)} (ho : o.op = .build t parts) : SOk E P o (buildC E t parts.toList) := by
  unfold buildC
  cases hpl : buildPlan E t with
  | none => intro C T a S w _ _ _; trivial
  | some pl =>
    intro C T a S w hg hT hS v h
    obtain ⟨ps, hps, h⟩ := Option.bind_eq_some_iff.1 h
    obtain ⟨h1, h2⟩ := parts_ok hg hT hps
    cases hf : fillA pl.2 ps pl.1 with
    | none => rw [hf] at h; cases h
    | some r =>
    rw [hf] at h; cases h
    unfold buildPlan at hpl
    obtain ⟨z, hz, hpl⟩ := Option.bind_eq_some_iff.1 hpl
    obtain ⟨x, hx, hr, hiz⟩ := run_zero he hz w
    have hcells : Cells z.cells := (hr C).cells_cell (zero_noTuple hz)
    cases hu : und E t with
    | none => rw [hu] at hpl; cases hpl
    | some d =>
    rw [hu] at hpl
    have hq1 : ps.map (·.1) = (parts.toList.map fun p => (p.1, a.eval p.2)).map (·.1) := by simpa [List.map_map, Function.comp_def] using h1
    have hq2 : VRs C (ps.map (·.2)) ((parts.toList.map fun p => (p.1, a.eval p.2)).map (·.2)) := by simpa [List.map_map, Function.comp_def] using h2
    split at hpl
    · next fields heq =>
      cases heq
      obtain ⟨pls, hpls, hpl⟩ := Option.bind_eq_some_iff.1 hpl
      cases hpl
      have hfun : (nth pls : Nat → Option (Nat × Nat)) = fun i => pls[i]? := by funext i; simp [nth_eq]
      simp only at hf
      rw [hfun] at hf
      obtain ⟨ys, hys, hvr, hcr, _⟩ := fill_ok hq1 hq2 (hr C).cells hcells hf
      refine ⟨.agg ys, ?_, .agg hvr hcr⟩
      have hpp := run_places (P := P) w _ _ (places_ok he hpls)
      simp [execOp, ho, Instr.build, hx, run_und he hu, Array.mapM_eq_mapM_toList, hpp, hys]
    · next n elem heq =>
      cases heq
      obtain ⟨sz, hsz, hpl⟩ := Option.bind_eq_some_iff.1 hpl
      cases hpl
      simp only at hf
      obtain ⟨ys, hys, hvr, hcr, _⟩ := fill_ok hq1 hq2 (hr C).cells hcells hf
      refine ⟨.agg ys, ?_, .agg hvr hcr⟩
      simp [execOp, ho, Instr.build, hx, run_und he hu, run_size he hsz, hys]
    · cases hpl

omit he in
theorem VRs.nth {C : Cx} {l : List AV} {x : List Value} (h : VRs C l x) {i : Nat} {v : AV} (e : Am.nth l i = some v) : ∃ y, x[i]? = some y ∧ VR C v y :=
  h.get (by rw [← nth_eq]; exact e)

omit he in
/-- A part of a list, by its place. -/
theorem VRs.cut {C : Cx} {l q : List AV} {x : List Value} (h : VRs C l x) {off n : Nat} (e : Am.cut l off n = some q) :
    ∃ y, VRs C q y ∧ y = (x.drop off).take n ∧ q.length = n ∧ (Cells l → Cells q) ∧ off + n ≤ x.length ∧ IsAt x off y := by
  obtain ⟨pre, post, rfl, hp, hn⟩ := cut_some e
  obtain ⟨y, z3, rfl, a1, a3⟩ := VRs.split h
  obtain ⟨y1, y2, rfl, a2, a4⟩ := VRs.split a1
  have e1 := a2.length; have e2 := a4.length
  refine ⟨y2, a4, ?_, hn, fun hc => hc.sub.1.sub.2, ?_, ⟨y1, z3, rfl, by omega⟩⟩
  · rw [← hp, ← e1]
    simp [← hn, ← e2]
  · simp; omega

/-- A part of a struct or an array: itself one. -/
theorem run_part_agg {t : TypeId} {n : Nat} (h1 : isAgg E t = some true) (h2 : Am.sizeOf E t = some n) {C : Cx} {cs : List AV} {xs : Array Value} (hv : VRs C cs xs.toList) (hc : Cells cs)
    {off : Nat} {q : List AV} (e : Am.cut cs off n = some q) (w : World) : ∃ z, (part t xs off).run P w = .ok z w ∧ VR C (.agg q) z := by
  obtain ⟨y, hy, rfl, hq, hcq, hle, _⟩ := hv.cut e
  refine ⟨.agg (xs.extract off (off + n)), by simp [part, run_agg he h1, run_size he h2], .agg ?_ (hcq hc)⟩
  simpa [List.extract_eq_take_drop] using hy

theorem run_part_one {t : TypeId} (h1 : isAgg E t = some false) {C : Cx} {cs : List AV} {xs : Array Value} (hv : VRs C cs xs.toList)
    {off : Nat} {v : AV} (e : Am.nth cs off = some v) (w : World) : ∃ z, (part t xs off).run P w = .ok z w ∧ VR C v z := by
  obtain ⟨y, hy, hr⟩ := hv.nth e
  have hy' : xs[off]? = some y := by simpa using hy
  exact ⟨y, by simp [part, run_agg he h1, hy'], hr⟩

omit he in
theorem fieldOf_some {t : TypeId} {i off n : Nat} {b : Bool} (h : fieldOf E t i = some (off, n, b)) :
    ∃ fs f, und E t = some (.struct fs) ∧ fs[i]? = some f ∧ f.offset = off ∧ Am.sizeOf E f.type = some n ∧ isAgg E f.type = some b := by
  unfold fieldOf at h
  split at h
  · next fs hu =>
    obtain ⟨f, hf, h⟩ := Option.bind_eq_some_iff.1 h
    obtain ⟨n', hn, h⟩ := Option.bind_eq_some_iff.1 h
    obtain ⟨a, ha, h⟩ := Option.bind_eq_some_iff.1 h
    cases h
    exact ⟨fs, f, hu, by rw [nth_eq] at hf; simpa using hf, rfl, hn, ha⟩
  · cases h

theorem ok_field {o : Oper} {t : TypeId} {x : Operand} {i : Nat} (ho : o.op = .field t x i) : SOk E P o (fieldC E t x i) := by
  unfold fieldC
  split
  · next off n hf =>
    obtain ⟨fs, f, hu, hfi, rfl, hn, ha⟩ := fieldOf_some hf
    refine SOk.pure1 (G := fun v => Instr.field t v i) (fun ρ => by simp [execOp, ho]) ?_
    intro C w v y r hv hr
    cases hv with
    | agg hvs hcs =>
      simp only [fieldAggV] at hr
      obtain ⟨l, hl, hr⟩ := Option.bind_eq_some_iff.1 hr
      cases ht : takeN n l with
      | none => rw [ht] at hr; cases hr
      | some q =>
        rw [ht] at hr; cases hr
        obtain ⟨z, hz, hzr⟩ := run_part_agg (P := P) he ha hn hvs hcs (q := q) (off := f.offset) (by rw [cut, hl]; exact ht) w
        exact ⟨z, by simp [Instr.field, run_und he hu, hfi, asAgg, hz], hzr⟩
    | _ => simp [fieldAggV] at hr
  · next off n hf =>
    obtain ⟨fs, f, hu, hfi, rfl, hn, ha⟩ := fieldOf_some hf
    refine SOk.pure1 (G := fun v => Instr.field t v i) (fun ρ => by simp [execOp, ho]) ?_
    intro C w v y r hv hr
    cases hv with
    | agg hvs hcs =>
      obtain ⟨z, hz, hzr⟩ := run_part_one (P := P) he ha hvs hr w
      exact ⟨z, by simp [Instr.field, run_und he hu, hfi, asAgg, hz], hzr⟩
    | _ => simp [fieldOneV] at hr
  · intro C T a S w _ _ _; trivial

omit he in
theorem addrAdd_ok {C : Cx} {v r : AV} {x : Value} {n : Nat} (h : VR C v x) (e : addrAdd n v = some r) : ∃ a, x = .pointer (some a) ∧ VR C r (.pointer (some (a.add n))) := by
  cases h with
  | ptr hd =>
    simp only [addrAdd, Option.some.injEq] at e; subst e
    exact ⟨_, rfl, by rw [add_none, Nat.add_assoc]; exact .ptr hd⟩
  | iptr hm ha hv hcs =>
    simp only [addrAdd] at e
    obtain ⟨l, hl, e⟩ := Option.bind_eq_some_iff.1 e
    cases e
    obtain ⟨pre, rfl, hp⟩ := dropN_some hl
    obtain ⟨y, z, rfl, h1, h2⟩ := VRs.split hv
    refine ⟨_, rfl, ?_⟩
    rw [add_none, ← hp, ← h1.length]
    exact .iptr hm ha.right h2 hcs.sub.2
  | _ => simp [addrAdd] at e

theorem ok_fieldAddr {o : Oper} {t : TypeId} {x : Operand} {i : Nat} (ho : o.op = .fieldAddr t x i) : SOk E P o (fieldAddrC E t x i) := by
  unfold fieldAddrC
  split
  · next off n b hf =>
    obtain ⟨fs, f, hu, hfi, rfl, hn, ha⟩ := fieldOf_some hf
    refine SOk.pure1 (G := fun v => Instr.fieldAt t v i) (fun ρ => by simp [execOp, ho]) ?_
    intro C w v y r hv hr
    obtain ⟨a, rfl, hra⟩ := addrAdd_ok hv hr
    exact ⟨_, by simp [Instr.fieldAt, run_und he hu, hfi, Instr.sureAddr, fieldPlace, run_size he hn], hra⟩
  · intro C T a S w _ _ _; trivial
end
end Am

/- The abstract machine: its operations are the model's (3): elements, loads and stores, what is made. -/
namespace Am
open Go

section
variable {E : Env} {P : Program} (he : EnvOk E P)

theorem SOk.bad {o : Oper} : SOk E P o .bad := fun _ _ _ _ _ _ _ _ => trivial

theorem natOf_int {C : Cx} {v : AV} {x : Value} {n : Nat} (h : VR C v x) (e : natOf v = some n) : ∃ k, x = .int k (n : Int) := natOf_ok h e

theorem idxSlice_ok {C : Cx} {v r : AV} {x : Value} {sz k : Nat} (h : VR C v x) (e : idxSliceV sz k v = some r) :
    ∃ a len c, x = .slice (some a) len c ∧ k < len ∧ VR C r (.pointer (some (a.add (k * sz)))) := by
  cases h with
  | slice hd hc hlc =>
    rename_i b off len sz' cap c
    simp only [idxSliceV] at e
    cases hk : Nat.blt k len with
    | false => rw [hk] at e; cases e
    | true =>
      rw [hk] at e; cases e
      exact ⟨_, _, _, rfl, by simpa [Nat.blt_eq] using hk, by rw [add_none, Nat.add_assoc]; exact .ptr hd⟩
  | slice0 hxx hd hc =>
    simp only [idxSliceV] at e
    have : Nat.blt k 0 = false := by cases k <;> rfl
    rw [this] at e; cases e
  | islice0 a h hlc =>
    rename_i sz' cl len c
    simp only [idxSliceV] at e
    cases hk : Nat.blt k len with
    | false => rw [hk] at e; cases e
    | true =>
      rw [hk] at e
      obtain ⟨l, hl, e⟩ := Option.bind_eq_some_iff.1 e
      obtain ⟨pre, hp, _⟩ := dropN_some hl
      have : l = [] := by
        have := congrArg List.length hp
        simp at this
        exact List.eq_nil_of_length_eq_zero (by omega)
      subst this
      simp [iptrO] at e
  | islice hl hm ha hv hcl hcs hlc =>
    rename_i blk off len sz' c cl cs ms vs
    simp only [idxSliceV] at e
    cases hk : Nat.blt k len with
    | false => rw [hk] at e; cases e
    | true =>
      rw [hk] at e
      obtain ⟨l, hl', e1⟩ := Option.bind_eq_some_iff.1 e
      obtain ⟨pre, rfl, hp⟩ := dropN_some hl'
      obtain ⟨y, z, rfl, h1, h2⟩ := VRs.split hv
      have : r = .iptr l := by
        unfold iptrO at e1
        split at e1
        · cases e1
        · cases e1; rfl
      subst this
      refine ⟨_, _, _, rfl, by simpa [Nat.blt_eq] using hk, ?_⟩
      rw [add_none, ← hp, ← h1.length]
      exact .iptr hm ha.right h2 hcs.sub.2
  | _ => simp [idxSliceV] at e

include he

theorem ok_indexAddr {o : Oper} {t : TypeId} {x i : Operand} (ho : o.op = .indexAddr t x i) : SOk E P o (indexAddrC E t x i) := by
  unfold indexAddrC
  split
  · next n elem hu =>
    split
    · next sz hsz =>
      intro C T a S w hg hT hS v h
      obtain ⟨iv, hiv, h⟩ := Option.bind_eq_some_iff.1 h
      obtain ⟨k, hk, h⟩ := Option.bind_eq_some_iff.1 h
      cases hb : Nat.blt k n with
      | false => rw [hb] at h; cases h
      | true =>
      rw [hb] at h
      obtain ⟨u, hu', h⟩ := Option.bind_eq_some_iff.1 h
      obtain ⟨ki, hki⟩ := natOf_int (opnd_ok hg hT hiv) hk
      obtain ⟨ad, had, hr⟩ := addrAdd_ok (opnd_ok hg hT hu') h
      have hlt : k < n := by simpa [Nat.blt_eq] using hb
      refine ⟨_, ?_, hr⟩
      simp [execOp, ho, Instr.indexAt, hki, asIntOf, run_und he hu, had, Instr.sureAddr, run_size he hsz, hlt]
    · exact SOk.bad
  · next elem hu =>
    split
    · next sz hsz =>
      intro C T a S w hg hT hS v h
      obtain ⟨iv, hiv, h⟩ := Option.bind_eq_some_iff.1 h
      obtain ⟨k, hk, h⟩ := Option.bind_eq_some_iff.1 h
      obtain ⟨u, hu', h⟩ := Option.bind_eq_some_iff.1 h
      obtain ⟨ki, hki⟩ := natOf_int (opnd_ok hg hT hiv) hk
      obtain ⟨ad, len, c, had, hlt, hr⟩ := idxSlice_ok (opnd_ok hg hT hu') h
      refine ⟨_, ?_, hr⟩
      simp [execOp, ho, Instr.indexAt, hki, asIntOf, run_und he hu, had, run_size he hsz, hlt]
    · exact SOk.bad
  · exact SOk.bad

theorem ok_index {o : Oper} {t : TypeId} {x i : Operand} (ho : o.op = .index t x i) : SOk E P o (indexC E t x i) := by
  unfold indexC
  split
  · next n elem hu =>
    split
    · next sz ha hsz =>
      intro C T a S w hg hT hS v h
      obtain ⟨iv, hiv, h⟩ := Option.bind_eq_some_iff.1 h
      obtain ⟨k, hk, h⟩ := Option.bind_eq_some_iff.1 h
      cases hb : Nat.blt k n with
      | false => rw [hb] at h; cases h
      | true =>
      rw [hb] at h
      obtain ⟨u, hu', h⟩ := Option.bind_eq_some_iff.1 h
      obtain ⟨ki, hki⟩ := natOf_int (opnd_ok hg hT hiv) hk
      have hv := opnd_ok hg hT hu'
      have hlt : k < n := by simpa [Nat.blt_eq] using hb
      generalize hx : a.eval x = xv at hv
      cases hv with
      | agg hvs hcs =>
        simp only [idxAggV] at h
        obtain ⟨l, hl, h⟩ := Option.bind_eq_some_iff.1 h
        cases ht : takeN sz l with
        | none => rw [ht] at h; cases h
        | some q =>
          rw [ht] at h; cases h
          obtain ⟨z, hz, hzr⟩ := run_part_agg (P := P) he ha hsz hvs hcs (q := q) (off := k * sz) (by rw [cut, hl]; exact ht) w
          exact ⟨z, by simp [execOp, ho, Instr.index, hki, asIntOf, run_und he hu, hx, run_size he hsz, hlt, hz], hzr⟩
      | _ => simp [idxAggV] at h
    · next sz ha hsz =>
      intro C T a S w hg hT hS v h
      obtain ⟨iv, hiv, h⟩ := Option.bind_eq_some_iff.1 h
      obtain ⟨k, hk, h⟩ := Option.bind_eq_some_iff.1 h
      cases hb : Nat.blt k n with
      | false => rw [hb] at h; cases h
      | true =>
      rw [hb] at h
      obtain ⟨u, hu', h⟩ := Option.bind_eq_some_iff.1 h
      obtain ⟨ki, hki⟩ := natOf_int (opnd_ok hg hT hiv) hk
      have hv := opnd_ok hg hT hu'
      have hlt : k < n := by simpa [Nat.blt_eq] using hb
      generalize hx : a.eval x = xv at hv
      cases hv with
      | agg hvs hcs =>
        simp only [idxOneV] at h
        obtain ⟨z, hz, hzr⟩ := run_part_one (P := P) he ha hvs h w
        exact ⟨z, by simp [execOp, ho, Instr.index, hki, asIntOf, run_und he hu, hx, run_size he hsz, hlt, hz], hzr⟩
      | _ => simp [idxOneV] at h
    · exact SOk.bad
  · next hu =>
    intro C T a S w hg hT hS v h
    obtain ⟨iv, hiv, h⟩ := Option.bind_eq_some_iff.1 h
    obtain ⟨k, hk, h⟩ := Option.bind_eq_some_iff.1 h
    obtain ⟨u, hu', h⟩ := Option.bind_eq_some_iff.1 h
    obtain ⟨ki, hki⟩ := natOf_int (opnd_ok hg hT hiv) hk
    have hv := opnd_ok hg hT hu'
    generalize hx : a.eval x = xv at hv
    cases hv with
    | str hs =>
      rename_i l s
      simp only [idxStrV] at h
      obtain ⟨b, hb, h⟩ := Option.bind_eq_some_iff.1 h
      cases h
      have hb' : s[k]? = some b := by
        rw [nth_eq, ← hs] at hb
        have : s.data[k]? = some b := by simpa using hb
        exact this
      refine ⟨.int .u8 b.toNat, ?_, .int _ _⟩
      simp [execOp, ho, Instr.index, hki, asIntOf, run_und he hu, hx, hb']
    | _ => simp [idxStrV] at h
  · exact SOk.bad

theorem ok_load {o : Oper} {t : TypeId} {x : Operand} (ho : o.op = .load t x) : SOk E P o (.read (opnd E x) fun T s => (opnd E x T).bind (loadC E t s)) := by
  refine SOk.read1 (G := fun v => Instr.loadAt t v) (fun ρ => by simp [execOp, ho]) ?_
  intro C S w v y r hS hv hr
  obtain ⟨a, z, rfl, hz, hzr⟩ := loadC_ok (P := P) he hS hv hr
  exact ⟨z, by simp [Instr.loadAt, Instr.sureAddr, hz], hzr⟩

theorem ok_store {o : Oper} {t : TypeId} {x y : Operand} (ho : o.op = .store t x y) : SOk E P o (storeC E t x y) := by
  unfold storeC
  split
  · next n hn =>
    intro C T a S w hg hT hS v S' h
    obtain ⟨p, hp, h⟩ := Option.bind_eq_some_iff.1 h
    obtain ⟨u, hu, h⟩ := Option.bind_eq_some_iff.1 h
    unfold withU at h
    split at h
    · next S1 hs =>
      cases h
      obtain ⟨ad, w', had, hw, ht⟩ := storeN_ok (P := P) he hS hn (opnd_ok hg hT hu) (opnd_ok hg hT hp) hs
      exact ⟨C, .skip, w', by simp [execOp, ho, Instr.storeAt, had, Instr.sureAddr, hw], ht, .skip⟩
    · cases h
  · exact SOk.bad

omit he in
theorem ok_extract {o : Oper} {x : Operand} {i : Nat} (ho : o.op = .extract x i) : SOk E P o (.pure fun T => (opnd E x T).bind (extractV i)) := by
  refine SOk.pure1 (G := fun v => Instr.extract v i) (fun ρ => by simp [execOp, ho]) ?_
  intro C w v y r hv hr
  cases hv with
  | tuple hvs =>
    simp only [extractV] at hr
    obtain ⟨z, hz, hzr⟩ := hvs.nth hr
    have hz' := hz
    simp only [Array.getElem?_toList] at hz'
    exact ⟨z, by simp [Instr.extract, hz'], hzr⟩
  | _ => simp [extractV] at hr

theorem ok_makeIface {o : Oper} {t : TypeId} {x : Operand} (ho : o.op = .makeInterface t x) : SOk E P o (makeIfaceC E t x) := by
  unfold makeIfaceC
  split
  · next hi =>
    refine SOk.pure1 (f := fun v => some (.iface t v)) (G := fun v => Instr.makeInterface t v) (fun ρ => by simp [execOp, ho]) ?_
    intro C w v y r hv hr
    cases hr
    refine ⟨.iface t y, ?_, .iface hv⟩
    unfold isIfaceT at hi
    split at hi
    · cases hi
    · next d hd hu =>
      simp only [Instr.makeInterface, Sem.run_bind, run_und he hu, Result.andThen_ok]
      cases d <;> first | rfl | exact absurd rfl (hd _)
    · cases hi
  · exact SOk.bad

omit he in
theorem isYield_no {fn : Fn} (h : isYield fn = false) : ∀ l, fn ≠ .yield l := by
  intro l e; subst e; cases h

omit he in
theorem ok_makeFunc {o : Oper} {fn : Fn} {x y : Array Operand} (ho : o.op = .makeFunc fn x y) : SOk E P o (makeFuncC E fn x.toList y.toList) := by
  unfold makeFuncC
  cases hf : isYield fn with
  | true => exact SOk.bad
  | false =>
  intro C T a S w hg hT hS v h
  obtain ⟨p, hp, h⟩ := Option.bind_eq_some_iff.1 h
  obtain ⟨q, hq, h⟩ := Option.bind_eq_some_iff.1 h
  cases h
  exact ⟨.func fn (x.map a.eval) (y.map a.eval), by simp [execOp, ho, Instr.makeFunc], .func (isYield_no hf) (by simpa using opnds_ok hg hT hp) (by simpa using opnds_ok hg hT hq)⟩

theorem ok_makeMap {o : Oper} {t : TypeId} {r : Option Operand} (ho : o.op = .makeMap t r) : SOk E P o (makeMapC E t r) := by
  have key : ∀ {C : Cx} {S : St} {w : World}, StR C S w → Tran C S w (C.fresh S w 0) (S.alloc (.map [] 0)) (World.pushed w (.map #[] 0)) ∧ VR (C.fresh S w 0) (.map S.next) (.map (some w.heap.size)) := by
    intro C S w hS
    have no : ∀ n, ¬ C.G S.next n := fun n hn => absurd (hS.fresh _ (hS.stamps _ _ hn)) (Nat.lt_irrefl _)
    refine ⟨Tran.alloc hS _ _ 0 (.map (l := []) (by simp) .nil ⟨by simp, by simp⟩ (by simp) (fun n hn => absurd hn (no n)) (fun n hn => absurd hn (no n)) (fun n _ hn => absurd hn (no n))), ?_⟩
    · have := VR.map (C := C.fresh S w 0) (Cx.D_new C S.next ⟨w.heap.size, 0, 0⟩)
      rw [Cx.pl_new] at this
      exact this
  unfold makeMapC
  split
  · next k e hu =>
    intro C T a S w hg hT hS
    refine ⟨(nofun), fun ob g h => ?_⟩
    cases h
    exact ⟨_, _, _, by simp [execOp, ho, Instr.makeMap, World.pushed], (key hS).1, (key hS).2⟩
  · next k e x hu =>
    intro C T a S w hg hT hS
    have hh : ∀ m, ((opnd E x T).bind fun v => (natOf v).bind fun _ => some (Mk.obj (.map [] 0) .map)) = some m → ∃ kd n, a.eval x = .int kd n ∧ m = .obj (.map [] 0) .map := by
      intro m h
      obtain ⟨p, hp, h⟩ := Option.bind_eq_some_iff.1 h
      obtain ⟨n, hn, h⟩ := Option.bind_eq_some_iff.1 h
      cases h
      obtain ⟨kd, hkd⟩ := natOf_ok (opnd_ok hg hT hp) hn
      exact ⟨kd, _, hkd, rfl⟩
    refine ⟨fun v h => ?_, fun ob g h => ?_⟩
    · obtain ⟨_, _, _, h⟩ := hh _ h; cases h
    · obtain ⟨kd, n, hx, h⟩ := hh _ h
      cases h
      exact ⟨_, _, _, by simp [execOp, ho, Instr.makeMap, run_und he hu, hx, asInt, asIntOf, World.pushed], (key hS).1, (key hS).2⟩
  · exact SOk.bad

omit he in
theorem ok_panic {o : Oper} {x : Operand} (ho : o.op = .panic x) : SOk E P o (.panic fun T => (opnd E x T).bind panicV) := by
  intro C T a S w hg hT hS v h
  obtain ⟨p, hp, h⟩ := Option.bind_eq_some_iff.1 h
  have hv := opnd_ok hg hT hp
  generalize hx : a.eval x = xv at hv
  cases hv with
  | iface hv => cases h; exact ⟨_, by simp [execOp, ho, hx, Instr.panic], .iface hv⟩
  | _ => simp [panicV] at h
end
end Am

/- The abstract machine: its operations are the model's (4): slices that are made, method values, type assertions. -/
namespace Am
open Go

section
variable {E : Env} {P : Program}

theorem VRs.repeat {C : Cx} {z : List AV} {x : List Value} (h : VRs C z x) : ∀ n, VRs C (repeatA z n) ((List.replicate n x).flatten)
  | 0 => .nil
  | n + 1 => by
    rw [List.replicate_succ, List.flatten_cons]
    exact h.append (VRs.repeat h n)

theorem Cells.repeat {z : List AV} (h : Cells z) : ∀ n, Cells (repeatA z n)
  | 0 => fun _ h => by cases h
  | n + 1 => h.append (Cells.repeat h n)

/-- The model's rows of zeros. -/
theorem range_mod (z : Array Value) (n : Nat) : ((Array.range (n * z.size)).map fun i => z[i % z.size]!).toList = (List.replicate n z.toList).flatten := by
  apply List.ext_getElem?
  intro i
  rcases Nat.eq_zero_or_pos z.size with h0 | h0
  · have : z = #[] := by simpa using h0
    subst this
    simp
  · have hl : ((List.replicate n z.toList).flatten).length = n * z.size := by simp
    rcases Nat.lt_or_ge i (n * z.size) with hi | hi
    · have hm : i % z.size < z.size := Nat.mod_lt _ h0
      have key : ∀ (n i : Nat), i < n * z.size → ((List.replicate n z.toList).flatten)[i]? = z.toList[i % z.size]? := by
        intro n
        induction n with
        | zero => intro i hi; simp at hi
        | succ n ih =>
          intro i hi
          rw [List.replicate_succ, List.flatten_cons]
          rcases Nat.lt_or_ge i z.size with h | h
          · rw [List.getElem?_append_left (by simpa using h), Nat.mod_eq_of_lt h]
          · rw [List.getElem?_append_right (by simpa using h), Array.length_toList, ih _ (by rw [Nat.succ_mul] at hi; omega), ← Nat.mod_eq_sub_mod h]
      rw [key n i hi]
      simp [hi, hm]
    · rw [List.getElem?_eq_none (l := (List.replicate n z.toList).flatten) (by rw [hl]; exact hi), List.getElem?_eq_none (by simpa using hi)]

theorem wrap64_small {n : Nat} (h : n ≤ 1099511627776) : IntKind.i64.wrap (n : Int) = n := Go.IntWalk.i64_in _ (by omega)

theorem small_spec {n b : Nat} (h : small n b = true) : n * b ≤ 1099511627776 ∧ n ≤ 1099511627776 ∧ 0 < b ∧ b ≤ 1048576 := by
  simp only [small, Bool.and_eq_true, Bool.not_eq_true'] at h
  obtain ⟨⟨⟨h1, h2⟩, h3⟩, h4⟩ := h
  refine ⟨Nat.le_of_ble_eq_true h1, Nat.le_of_ble_eq_true h2, ?_, Nat.le_of_ble_eq_true h4⟩
  rcases Nat.eq_zero_or_pos b with h | h
  · subst h; simp at h3
  · exact h

variable (he : EnvOk E P)
include he

theorem ok_makeSlice {o : Oper} {t : TypeId} {l c : Operand} (ho : o.op = .makeSlice t l c) : SOk E P o (makeSliceC E t l c) := by
  unfold makeSliceC
  split
  · next e hu =>
    split
    · next sz by_ z hsz hby hz =>
      cases hb : Nat.beq (len' z.cells) sz with
      | false => exact SOk.bad
      | true =>
      have hzl : z.cells.length = sz := by have := Nat.eq_of_beq_eq_true hb; simpa using this
      intro C T a S w hg hT hS
      obtain ⟨x, hx, hr, _⟩ := run_zero he hz w
      obtain ⟨i, hi, hib⟩ := run_bytes he hby w
      have hxs : x.cells.size = sz := by have := (hr C).cells.length; simpa [hzl] using this
      have main : ∀ m, ((opnd E l T).bind fun a => (opnd E c T).bind fun b => (natOf a).bind fun n => (natOf b).bind fun m => makeSliceV e sz by_ z.cells n m) = some m →
          ∃ (n k : Nat) (ki kj : IntKind), a.eval l = .int ki (n : Int) ∧ a.eval c = .int kj (k : Int) ∧ makeSliceV e sz by_ z.cells n k = some m := by
        intro m h
        obtain ⟨p, hp, h⟩ := Option.bind_eq_some_iff.1 h
        obtain ⟨q, hq, h⟩ := Option.bind_eq_some_iff.1 h
        obtain ⟨n, hn, h⟩ := Option.bind_eq_some_iff.1 h
        obtain ⟨k, hk, h⟩ := Option.bind_eq_some_iff.1 h
        obtain ⟨ki, hki⟩ := natOf_ok (opnd_ok hg hT hp) hn
        obtain ⟨kj, hkj⟩ := natOf_ok (opnd_ok hg hT hq) hk
        exact ⟨n, k, ki, kj, hki, hkj, h⟩
      have hzx : zeroOf E e = some z := hz
      have conds : ∀ (n k : Nat) m, makeSliceV e sz by_ z.cells n k = some m → n ≤ k ∧ (k = 0 ∨ (k * by_ ≤ 1099511627776 ∧ k ≤ 1099511627776)) ∧
          ((k = 0 ∧ m = .val .nilslice) ∨ (k ≠ 0 ∧ m = .obj (.cells (repeatA z.cells k) e false) fun b => .slice b 0 n sz (some k))) := by
        intro n k m h
        unfold makeSliceV at h
        cases h1 : (Nat.ble n k && (Nat.beq k 0 || small k by_)) with
        | false => rw [h1] at h; cases h
        | true =>
          rw [h1] at h
          simp only [Bool.and_eq_true, Bool.or_eq_true] at h1
          refine ⟨Nat.le_of_ble_eq_true h1.1, ?_, ?_⟩
          · rcases h1.2 with h2 | h2
            · exact .inl (Nat.eq_of_beq_eq_true h2)
            · exact .inr ⟨(small_spec h2).1, (small_spec h2).2.1⟩
          · cases h2 : Nat.beq k 0 with
            | true => rw [h2] at h; cases h; exact .inl ⟨Nat.eq_of_beq_eq_true h2, rfl⟩
            | false =>
              rw [h2] at h; cases h
              exact .inr ⟨fun e => by subst e; simp at h2, rfl⟩
      have runs : ∀ (n k : Nat) (ki kj : IntKind), n ≤ k → (k = 0 ∨ (k * by_ ≤ 1099511627776 ∧ k ≤ 1099511627776)) → a.eval l = .int ki (n : Int) → a.eval c = .int kj (k : Int) →
          (execOp a.eval o).run P w = .ok (.value (.slice (some ⟨w.heap.size, 0, none⟩) n k)) (World.pushed w (.cells ((Array.range (k * x.cells.size)).map fun i => x.cells[i % x.cells.size]!) e (0, 0))) := by
        intro n k ki kj h1 h2 h3 h4
        have hk : k * by_ ≤ 1099511627776 ∧ k ≤ 1099511627776 := by
          rcases h2 with h2 | h2
          · subst h2; simp
          · exact h2
        have w1 : IntKind.i64.wrap (n : Int) = n := wrap64_small (by omega)
        have w2 : IntKind.i64.wrap (k : Int) = k := wrap64_small (by omega)
        have hbytes : ¬ (281474976710656 < (i.bytes : Int) * (k : Int)) := by
          rw [hib]
          have : (by_ : Int) * (k : Int) = ((k * by_ : Nat) : Int) := by push_cast; exact Int.mul_comm _ _
          rw [this]; omega
        have hgt : ¬ (k < n) := by omega
        have r0 : Array.range 0 = #[] := rfl
        have hneg : ∀ m : Nat, ¬ ((m : Int) < 0) := fun m => by omega
        by_cases h0 : k * sz = 0
        · simp [execOp, ho, Instr.makeSlice, run_und he hu, h3, h4, asInt, asIntOf, hi, w1, w2, hbytes, hneg, hgt, run_size he hsz, h0, hxs, r0, newRow, World.pushed]
        · simp [execOp, ho, Instr.makeSlice, run_und he hu, h3, h4, asInt, asIntOf, hi, w1, w2, hbytes, hneg, hgt, run_size he hsz, h0, hxs, hx, newRow, World.pushed]
      refine ⟨fun v h => ?_, fun ob g h => ?_⟩
      · obtain ⟨n, k, ki, kj, h1, h2, h3⟩ := main _ h
        obtain ⟨c1, c2, c3⟩ := conds n k _ h3
        rcases c3 with ⟨rfl, c3⟩ | ⟨_, c3⟩
        · cases c3
          obtain rfl : n = 0 := by omega
          exact ⟨_, _, _, runs 0 0 ki kj c1 c2 h1 h2, Tran.wasteX hS _, .nilslice _ (.some (.inr rfl))⟩
        · cases c3
      · obtain ⟨n, k, ki, kj, h1, h2, h3⟩ := main _ h
        obtain ⟨c1, c2, c3⟩ := conds n k _ h3
        rcases c3 with ⟨rfl, c3⟩ | ⟨hk0, c3⟩
        · cases c3
        · cases c3
          have hzc := (hr C).cells_cell (zero_noTuple hz)
          refine ⟨_, _, _, runs n k ki kj c1 c2 h1 h2, make_cells hS ((hr C).cells.repeat k) (ex := []) ?_ (hzc.repeat k) e false (fun _ => rfl), fresh_slice (cap := some k) ⟨rfl, Nat.pos_of_ne_zero hk0⟩ c1⟩
          rw [range_mod]; simp
    · exact SOk.bad
  · exact SOk.bad
end
end Am

/- The abstract machine: its operations are the model's (5): slice literals, unary operators, type assertions, method values. -/
namespace Am
open Go

section
variable {E : Env} {P : Program} (he : EnvOk E P)
include he

theorem ok_buildSlice {o : Oper} {t : TypeId} {len : Nat} {parts : Array (Nat × Operand)} (ho : o.op = .buildSlice t len parts) : SOk E P o (buildSliceC E t len parts.toList) := by
  unfold buildSliceC
  split
  · next e hu =>
    split
    · next sz z hsz hz =>
      cases hb : (Nat.beq (len' z.cells) sz && Nat.ble (len * sz) 16777216 && !(Nat.beq sz 0)) with
      | false => exact SOk.bad
      | true =>
      simp only [Bool.and_eq_true, Bool.not_eq_true'] at hb
      obtain ⟨⟨hb1, hb2⟩, hb3⟩ := hb
      have hzl : z.cells.length = sz := by have := Nat.eq_of_beq_eq_true hb1; simpa using this
      have hle : len * sz ≤ 16777216 := Nat.le_of_ble_eq_true hb2
      have hs0 : sz ≠ 0 := fun e => by subst e; simp at hb3
      intro C T a S w hg hT hS
      obtain ⟨x, hx, hr, _⟩ := run_zero he hz w
      have hxs : x.cells.size = sz := by have := (hr C).cells.length; simpa [hzl] using this
      have hzc := (hr C).cells_cell (zero_noTuple hz)
      have main : ∀ m, ((partsC E parts.toList T).bind fun ps => buildSliceV e sz len (fillA (fun i => some (i * sz, sz)) ps (repeatA z.cells len))) = some m →
          ∃ r ys, VRs C r ys.toList ∧ Cells r ∧ ys.size = len * sz ∧ (execOp a.eval o).run P w = .ok (.value (.slice (some ⟨w.heap.size, 0, none⟩) len len)) (World.pushed w (.cells ys e (0, 0))) ∧
            ((len = 0 ∧ m = .val .nilslice) ∨ (len ≠ 0 ∧ m = .obj (.cells r e false) fun b => .slice b 0 len sz (some len))) := by
        intro m h
        obtain ⟨ps, hps, h⟩ := Option.bind_eq_some_iff.1 h
        obtain ⟨h1, h2⟩ := parts_ok hg hT hps
        have hq1 : ps.map (·.1) = (parts.toList.map fun p => (p.1, a.eval p.2)).map (·.1) := by simpa [List.map_map, Function.comp_def] using h1
        have hq2 : VRs C (ps.map (·.2)) ((parts.toList.map fun p => (p.1, a.eval p.2)).map (·.2)) := by simpa [List.map_map, Function.comp_def] using h2
        cases hf : fillA (fun i => some (i * sz, sz)) ps (repeatA z.cells len) with
        | none => rw [hf] at h; cases h
        | some r =>
        rw [hf] at h
        simp only [buildSliceV] at h
        have hrm := range_mod x.cells len
        obtain ⟨ys, hys, hvr, hcr, hsize⟩ := fill_ok (xs := (Array.range (len * x.cells.size)).map fun i => x.cells[i % x.cells.size]!) hq1 hq2 (by rw [hrm]; exact (hr C).cells.repeat len) (hzc.repeat len) hf
        refine ⟨r, ys, hvr, hcr, by simpa [hxs] using hsize, ?_, ?_⟩
        · have hgt : ¬ (16777216 < len * sz) := by omega
          by_cases h0 : len * sz = 0
          · have hl0 : len = 0 := by rcases Nat.mul_eq_zero.1 h0 with h | h; exact h; exact absurd h hs0
            subst hl0
            have r0 : Array.range 0 = #[] := rfl
            simp [r0] at hys
            simp [execOp, ho, Instr.buildSlice, run_und he hu, run_size he hsz, r0, hys, newRow, World.pushed]
          · rw [hxs] at hys
            have hl0 : len ≠ 0 := fun e => h0 (by simp [e])
            simp [execOp, ho, Instr.buildSlice, run_und he hu, run_size he hsz, hgt, h0, hl0, hs0, hx, hxs, hys, newRow, World.pushed]
        · cases hl : Nat.beq len 0 with
          | true => rw [hl] at h; cases h; exact .inl ⟨Nat.eq_of_beq_eq_true hl, rfl⟩
          | false => rw [hl] at h; cases h; exact .inr ⟨fun e => by subst e; simp at hl, rfl⟩
      refine ⟨fun v h => ?_, fun ob g h => ?_⟩
      · obtain ⟨r, ys, h1, h2, h3, h4, h5⟩ := main _ h
        rcases h5 with ⟨rfl, h5⟩ | ⟨_, h5⟩
        · cases h5; exact ⟨_, _, _, h4, Tran.wasteX hS _, .nilslice _ (.some (.inr rfl))⟩
        · cases h5
      · obtain ⟨r, ys, h1, h2, h3, h4, h5⟩ := main _ h
        rcases h5 with ⟨rfl, h5⟩ | ⟨hl0, h5⟩
        · cases h5
        · cases h5
          exact ⟨_, _, _, h4, make_cells hS h1 (ex := []) (by simp) h2 e false (fun _ => rfl), fresh_slice (cap := some len) ⟨rfl, Nat.pos_of_ne_zero hl0⟩ (Nat.le_refl _)⟩
    · exact SOk.bad
  · exact SOk.bad

omit he in
theorem ok_unOp {o : Oper} {op : UnOp} {t : TypeId} {x : Operand} (ho : o.op = .unOp op t x) : SOk E P o (.pure fun T => (opnd E x T).bind (unV op)) := by
  refine SOk.pure1 (G := fun v => Op.unary op v) (fun ρ => by simp [execOp, ho]) ?_
  intro C w v y r hv hr
  cases hv with
  | int k n =>
    cases op with
    | neg => cases hr; exact ⟨_, rfl, .int _ _⟩
    | xor => cases hr; exact ⟨_, rfl, .int _ _⟩
    | _ => simp [unV] at hr
  | bool b =>
    cases op with
    | not => cases hr; exact ⟨_, rfl, .bool _⟩
    | _ => simp [unV] at hr
  | _ => cases op <;> simp [unV] at hr

omit he in
theorem holdsV_ok {C : Cx} {ok : Bool} {v r : AV} {x : Value} (hv : VR C v x) (h : holdsV ok v = some r) : VR C r (if ok then .tuple #[x, .bool true] else x) := by
  unfold holdsV at h
  cases ok with
  | true => cases h; exact .tuple (.cons hv (.cons (.bool _) .nil))
  | false => cases h; exact hv

theorem failsV_ok {C : Cx} {ok : Bool} {t : TypeId} {z r : AV} (hz : zeroOf E t = some z) (h : failsV ok z = some r) (w : World) :
    ok = true ∧ ∃ x, (zeroValue t).run P w = .ok x w ∧ VR C r (.tuple #[x, .bool false]) := by
  unfold failsV at h
  cases ok with
  | true =>
    cases h
    obtain ⟨x, hx, hr, _⟩ := run_zero he hz w
    exact ⟨rfl, x, hx, .tuple (.cons (hr C) (.cons (.bool _) .nil))⟩
  | false => cases h

theorem ok_assert {o : Oper} {x : Operand} {xt t : TypeId} {ok : Bool} (ho : o.op = .typeAssert x xt t ok) : SOk E P o (assertC E x t ok) := by
  unfold assertC
  split
  · next want z hu hz =>
    refine SOk.pure1 (G := fun v => Instr.typeAssert v xt t ok) (fun ρ => by simp [execOp, ho]) ?_
    intro C w v y r hv hr
    cases hv with
    | iface hv' =>
      rename_i u v' y'
      simp only [assertI] at hr
      obtain ⟨hm, hhm, hr⟩ := Option.bind_eq_some_iff.1 hr
      unfold hasMethods at hhm
      cases hi : E.tys.get u with
      | none => rw [hi] at hhm; cases hhm
      | some i =>
      rw [hi] at hhm
      simp only at hhm
      cases hmm : Instr.missingMethod want i.methods with
      | none =>
        rw [hmm] at hhm; cases hhm
        exact ⟨_, by simp [Instr.typeAssert, run_und he hu, run_tyInfo he hi, hmm], holdsV_ok (.iface hv') hr⟩
      | some m =>
        rw [hmm] at hhm; cases hhm
        obtain ⟨rfl, zx, hzx, hzr⟩ := failsV_ok (P := P) (C := C) he hz hr w
        exact ⟨_, by simp [Instr.typeAssert, run_und he hu, run_tyInfo he hi, hmm, hzx], hzr⟩
    | niliface =>
      obtain ⟨rfl, zx, hzx, hzr⟩ := failsV_ok (P := P) (C := C) he hz hr w
      exact ⟨_, by simp [Instr.typeAssert, run_und he hu, hzx], hzr⟩
    | _ => simp [assertI] at hr
  · next d z hnd hu hz =>
    refine SOk.pure1 (G := fun v => Instr.typeAssert v xt t ok) (fun ρ => by simp [execOp, ho]) ?_
    intro C w v y r hv hr
    have hd : ∀ ms, z = z → d ≠ .interface ms := fun ms _ e => hnd ms (by rw [e])
    cases hv with
    | iface hv' =>
      rename_i u v' y'
      simp only [assertT] at hr
      cases hut : Nat.beq u t with
      | true =>
        rw [hut] at hr
        have : u = t := Nat.eq_of_beq_eq_true hut
        subst this
        refine ⟨_, ?_, holdsV_ok hv' hr⟩
        simp only [Instr.typeAssert, Sem.run_bind, run_und he hu, Result.andThen_ok]
        cases d <;> first | exact absurd rfl (hd _ rfl) | simp
      | false =>
        rw [hut] at hr
        have hne : u ≠ t := fun e => by subst e; simp at hut
        obtain ⟨rfl, zx, hzx, hzr⟩ := failsV_ok (P := P) (C := C) he hz hr w
        refine ⟨_, ?_, hzr⟩
        simp only [Instr.typeAssert, Sem.run_bind, run_und he hu, Result.andThen_ok]
        cases d <;> first | exact absurd rfl (hd _ rfl) | simp [hne, hzx]
    | niliface =>
      obtain ⟨rfl, zx, hzx, hzr⟩ := failsV_ok (P := P) (C := C) he hz hr w
      refine ⟨_, ?_, hzr⟩
      simp only [Instr.typeAssert, Sem.run_bind, run_und he hu, Result.andThen_ok]
      cases d <;> first | exact absurd rfl (hd _ rfl) | simp [hzx]
    | _ => simp [assertT] at hr
  · exact SOk.bad
end
end Am

/- The abstract machine: its operations are the model's (6): operators. -/
namespace Am
open Go

theorem bytesEq_iff : ∀ {l m : List UInt8}, bytesEq l m = decide (l = m)
  | [], [] => rfl
  | [], _ :: _ => by simp [bytesEq]
  | _ :: _, [] => by simp [bytesEq]
  | a :: l, b :: m => by
    unfold bytesEq
    cases h : Nat.beq a.toNat b.toNat with
    | true =>
      have : a = b := UInt8.toNat_inj.1 (Nat.eq_of_beq_eq_true h)
      subst this
      simp [bytesEq_iff]
    | false =>
      have : a ≠ b := fun e => by subst e; simp at h
      simp [this]

theorem bytesLt_eq : ∀ {l m : List UInt8}, bytesLt l m = Op.bytesLess l m
  | [], [] => rfl
  | _ :: _, [] => rfl
  | [], _ :: _ => rfl
  | a :: l, b :: m => by
    unfold bytesLt Op.bytesLess
    rw [bytesLt_eq (l := l)]
    cases h1 : Nat.blt a.toNat b.toNat with
    | true =>
      have : a < b := UInt8.lt_iff_toNat_lt.2 (by simpa [Nat.blt_eq] using h1)
      simp [this]
    | false =>
      have hn : ¬ a < b := fun hlt => by
        have : Nat.blt a.toNat b.toNat = true := by simpa [Nat.blt_eq] using UInt8.lt_iff_toNat_lt.1 hlt
        rw [this] at h1; cases h1
      cases h2 : Nat.beq a.toNat b.toNat with
      | true =>
        have : a = b := UInt8.toNat_inj.1 (Nat.eq_of_beq_eq_true h2)
        subst this
        simp
      | false =>
        have : a ≠ b := fun e => by subst e; simp at h2
        simp [hn, this]

section
variable {E : Env} {P : Program}

theorem intF_ok {op : BinOp} {f : IntKind → Int → Int → Option AV} (hf : intF op = some f) {C : Cx} {k : IntKind} {a b : Int} {r : AV} (h : f k a b = some r) (t : TypeId) (w : World) :
    ∃ z, (binOp op t (.int k a) (.int k b)).run P w = .ok z w ∧ VR C r z := by
  cases op <;> simp only [intF, Option.some.injEq] at hf <;> cases hf
  case quo =>
    simp only [quoA] at h
    split at h
    · cases h
    · next hb => cases h; exact ⟨_, by simp [binOp, Op.intDiv, hb], .int _ _⟩
  case rem =>
    simp only [remA] at h
    split at h
    · cases h
    · next hb => cases h; exact ⟨_, by simp [binOp, Op.intDiv, hb], .int _ _⟩
  case eql => cases h; refine ⟨_, ?_, .bool _⟩; simp only [binOp, ne_eq, not_true_eq_false, if_false]; rfl
  case neq => cases h; refine ⟨_, ?_, .bool _⟩; simp only [binOp, ne_eq, not_true_eq_false, if_false]; rfl
  case lss => cases h; refine ⟨_, ?_, .bool _⟩; simp only [binOp, ne_eq, not_true_eq_false, if_false]; rfl
  case leq => cases h; refine ⟨_, ?_, .bool _⟩; simp only [binOp, ne_eq, not_true_eq_false, if_false]; rfl
  case gtr => cases h; refine ⟨_, ?_, .bool _⟩; simp only [binOp, ne_eq, not_true_eq_false, if_false]; rfl
  case geq => cases h; refine ⟨_, ?_, .bool _⟩; simp only [binOp, ne_eq, not_true_eq_false, if_false]; rfl
  all_goals cases h; refine ⟨_, ?_, .int _ _⟩; simp only [binOp, ne_eq, not_true_eq_false, if_false]; rfl

theorem strF_ok {op : BinOp} {f : List UInt8 → List UInt8 → Option AV} (hf : strF op = some f) {C : Cx} {a b : ByteArray} {r : AV} (h : f a.data.toList b.data.toList = some r) (t : TypeId) (w : World) :
    ∃ z, (binOp op t (.string a) (.string b)).run P w = .ok z w ∧ VR C r z := by
  cases op <;> simp only [strF, Option.some.injEq] at hf <;> cases hf
  case add =>
    dsimp only at h
    cases hb : Nat.ble (len' a.data.toList + len' b.data.toList) 4294967296 with
    | false => rw [hb] at h; cases h
    | true =>
      rw [hb] at h; cases h
      have := Nat.le_of_ble_eq_true hb
      simp only [len'_eq, Array.length_toList] at this
      have e1 : a.size = a.data.size := rfl
      have e2 : b.size = b.data.size := rfl
      have hm : ¬ (((a.size + b.size : Nat) : Int) > IntKind.i64.max) := by
        have : IntKind.i64.max = 9223372036854775807 := by decide
        rw [this]; omega
      refine ⟨.string (a ++ b), ?_, .str (by simp)⟩
      simp only [binOp, Op.stringOp, hm, if_false, Sem.run_pure]
  all_goals
    cases h
    refine ⟨_, ?_, .bool _⟩
    have hd : (a.data == b.data) = decide (a.data = b.data) := by rw [Bool.eq_iff_iff]; simp
    simp [binOp, Op.stringOp, ByteArray.toList_eq, bytesEq_iff, bytesLt_eq, hd]

theorem guard_int {op : BinOp} {t : TypeId} {x y : Operand} {k j : IntKind} {a b : Int} (w : World) : (eqGuard op t x y (.int k a) (.int j b)).run P w = .ok () w := by
  unfold eqGuard; split <;> rfl
theorem guard_str {op : BinOp} {t : TypeId} {x y : Operand} {a b : ByteArray} (w : World) : (eqGuard op t x y (.string a) (.string b)).run P w = .ok () w := by
  unfold eqGuard; split <;> rfl
end
end Am

/- The abstract machine: its operations are the model's (7): equality. -/
namespace Am
open Go

section
variable {E : Env} {P : Program}

theorem scalarOf_some {t : TypeId} {d : TypeDesc} (h : scalarOf E t = some d) : und E t = some d ∧ scalarD d = true := by
  unfold scalarOf at h
  split at h
  · next d' hu =>
    cases hd : scalarD d' with
    | true => rw [hd] at h; cases h; exact ⟨hu, hd⟩
    | false => rw [hd] at h; cases h
  · cases h

variable (he : EnvOk E P)
include he

theorem scalar_noAgg {t : TypeId} {d : TypeDesc} (h : scalarOf E t = some d) : isAgg E t = some false := by
  obtain ⟨hu, hd⟩ := scalarOf_some h
  unfold isAgg
  rw [hu]
  cases d <;> first | rfl | cases hd

/-- Scalars are equal as values of the model's just if they are as the machine's. -/
theorem eqD_ok {d : TypeDesc} {t : TypeId} (hu : und E t = some d) {C : Cx} {a b : AV} {x y : Value} (ha : VR C a x) (hb : VR C b y) {r : Bool} (h : eqD d a b = some r) (n : Nat) (w : World) :
    (Op.equalIn (n + 1) t x y).run P w = .ok r w := by
  unfold eqD at h
  split at h
  · cases ha; cases hb; cases h
    simp only [Op.equalIn, Sem.run_bind, run_und he hu, Result.andThen_ok, Sem.run_pure]
    rename_i p q
    cases p <;> cases q <;> rfl
  · cases ha; cases hb
    split at h
    · next hk =>
      cases h; subst hk
      simp only [Op.equalIn, Sem.run_bind, run_und he hu, Result.andThen_ok, if_true, Sem.run_pure]
      rfl
    · cases h
  · cases ha; cases hb; cases h
    rename_i l1 l2 s1 h1 s2 h2
    subst h1; subst h2
    rw [run_equalIn_string w n t s1 s2 (und_ok he hu), ByteArray.toList_eq, ByteArray.toList_eq, bytesEq_iff]
    congr 1
    rw [Bool.eq_iff_iff]; simp
  · cases h

omit he in
theorem eqD_iff {d : TypeDesc} {a b : AV} {r : Bool} (h : eqD d a b = some r) : (r = true ↔ a = b) ∧ keyCell a = true ∧ keyCell b = true ∧ okD d a = true ∧ okD d b = true := by
  unfold eqD at h
  split at h
  · cases h
    rename_i p q
    refine ⟨?_, rfl, rfl, rfl, rfl⟩
    cases p <;> cases q <;> simp
  · next k j p q =>
    split at h
    · next hk => cases h; subst hk; exact ⟨by simp, rfl, rfl, rfl, rfl⟩
    · cases h
  · cases h
    refine ⟨?_, rfl, rfl, rfl, rfl⟩
    rw [bytesEq_iff]; simp
  · cases h

omit he in
theorem okZip_plain : ∀ {l : List TypeDesc} {a : List AV}, okZip l a = true → a.all keyCell = true ∧ a.length = l.length
  | [], [], _ => ⟨rfl, rfl⟩
  | [], _ :: _, h => by simp [okZip] at h
  | _ :: _, [], h => by simp [okZip] at h
  | d :: l, a :: x, h => by
    simp only [okZip, Bool.and_eq_true] at h
    obtain ⟨h1, h2⟩ := okZip_plain h.2
    refine ⟨?_, by simp [h2]⟩
    rw [List.all_cons, h1, Bool.and_true]
    cases d <;> cases a <;> first | rfl | simp [okD] at h

omit he in
theorem okKd_plain {kd : Kd} {k : AV} (h : okKd kd k = true) : keyOk k = true := by
  cases kd with
  | one d => cases d <;> cases k <;> first | rfl | simp [okKd, okD] at h
  | flat l => cases k <;> first | (simp [okKd] at h; done) | exact (okZip_plain h).1

omit he in
/-- Fields of a flat struct. -/
theorem flatFs_get : ∀ {fs : List Field} {i : Nat} {l : List TypeDesc}, flatFs E fs i = some l → l.length = fs.length ∧
    ∀ j f, fs[j]? = some f → ∃ d, l[j]? = some d ∧ f.offset = i + j ∧ f.name ≠ "_" ∧ scalarOf E f.type = some d
  | [], i, l, h => by cases h; exact ⟨rfl, fun j f h => by simp at h⟩
  | g :: fs, i, l, h => by
    simp only [flatFs] at h
    cases hb : (Nat.beq g.offset i && !(g.name == "_")) with
    | false => rw [hb] at h; cases h
    | true =>
    rw [hb] at h
    simp only [Bool.and_eq_true, Bool.not_eq_true', beq_eq_false_iff_ne] at hb
    obtain ⟨d, hd, h⟩ := Option.bind_eq_some_iff.1 h
    obtain ⟨r, hr, h⟩ := Option.bind_eq_some_iff.1 h
    cases h
    obtain ⟨h1, h2⟩ := flatFs_get hr
    refine ⟨by simp [h1], fun j f hf => ?_⟩
    cases j with
    | zero => simp at hf; subst hf; exact ⟨d, rfl, Nat.eq_of_beq_eq_true hb.1, hb.2, hd⟩
    | succ j =>
      obtain ⟨d', a1, a2, a3, a4⟩ := h2 j f (by simpa using hf)
      exact ⟨d', by simpa using a1, by omega, a3, a4⟩

theorem part_scalar {t : TypeId} {d : TypeDesc} (hs : scalarOf E t = some d) {C : Cx} {aa : List AV} {xs : Array Value} (hv : VRs C aa xs.toList) {i : Nat} {a : AV} (hi : aa[i]? = some a) (w : World) :
    ∃ x, (part t xs i).run P w = .ok x w ∧ VR C a x :=
  run_part_one (P := P) he (scalar_noAgg he hs) hv (by rw [nth_eq]; exact hi) w

theorem eqFields_ok {C : Cx} {aa bb : List AV} {xs ys : Array Value} (ha : VRs C aa xs.toList) (hb : VRs C bb ys.toList) (n : Nat) (w : World) :
    ∀ {fs : List Field} {i : Nat} {l : List TypeDesc} {r : Bool}, flatFs E fs i = some l → eqZip l (aa.drop i) (bb.drop i) = some r → (Op.eqFields (n + 1) xs ys fs).run P w = .ok r w
  | [], i, l, r, hl, h => by
    cases hl
    generalize aa.drop i = p at h
    generalize bb.drop i = q at h
    cases p <;> cases q <;> simp [eqZip] at h
    subst h
    rfl
  | f :: fs, i, l, r, hl, h => by
    have hg := (flatFs_get hl).2 0 f rfl
    simp only [flatFs] at hl
    cases hbq : (Nat.beq f.offset i && !(f.name == "_")) with
    | false => rw [hbq] at hl; cases hl
    | true =>
    rw [hbq] at hl
    obtain ⟨d, hd, hl⟩ := Option.bind_eq_some_iff.1 hl
    obtain ⟨l', hr, hl⟩ := Option.bind_eq_some_iff.1 hl
    cases hl
    obtain ⟨d', e1, hoff, hname, hsc⟩ := hg
    simp at e1; subst e1
    cases hp : aa.drop i with
    | nil => rw [hp] at h; simp [eqZip] at h
    | cons a p =>
    cases hq : bb.drop i with
    | nil => rw [hp, hq] at h; simp [eqZip] at h
    | cons b q =>
    rw [hp, hq] at h
    simp only [eqZip] at h
    obtain ⟨v, hv, h⟩ := Option.bind_eq_some_iff.1 h
    have ga : aa[i]? = some a := by have := congrArg (·[0]?) hp; simpa using this
    have gb : bb[i]? = some b := by have := congrArg (·[0]?) hq; simpa using this
    obtain ⟨x, hx, hvx⟩ := part_scalar (P := P) he hsc ha ga w
    obtain ⟨y, hy, hvy⟩ := part_scalar (P := P) he hsc hb gb w
    have heq := eqD_ok (P := P) he (scalarOf_some hsc).1 hvx hvy hv n w
    have h0 : f.offset = i := by simpa using hoff
    simp only [Op.eqFields, hname, ne_eq, not_false_eq_true, if_true, h0, Sem.run_bind, hx, hy, heq, Result.andThen_ok]
    cases v with
    | false => cases h; rfl
    | true =>
      have e1 : p = aa.drop (i + 1) := by rw [← List.drop_drop, hp]; rfl
      have e2 : q = bb.drop (i + 1) := by rw [← List.drop_drop, hq]; rfl
      subst e1; subst e2
      simpa using eqFields_ok ha hb n w hr h

theorem eqItems_ok {e : TypeId} {d : TypeDesc} (hs : scalarOf E e = some d) {C : Cx} {aa bb : List AV} {xs ys : Array Value} (ha : VRs C aa xs.toList) (hb : VRs C bb ys.toList) (n : Nat) (w : World) :
    ∀ (m i : Nat) {r : Bool}, eqZip (rep d m) (aa.drop i) (bb.drop i) = some r → (Op.eqItems (n + 1) e 1 xs ys (List.range' i m)).run P w = .ok r w
  | 0, i, r, h => by
    generalize aa.drop i = p at h
    generalize bb.drop i = q at h
    cases p <;> cases q <;> simp [eqZip, rep] at h
    subst h
    rfl
  | m + 1, i, r, h => by
    cases hp : aa.drop i with
    | nil => rw [hp] at h; simp [eqZip, rep] at h
    | cons a p =>
    cases hq : bb.drop i with
    | nil => rw [hp, hq] at h; simp [eqZip, rep] at h
    | cons b q =>
    rw [hp, hq] at h
    simp only [rep, eqZip] at h
    obtain ⟨v, hv, h⟩ := Option.bind_eq_some_iff.1 h
    have ga : aa[i]? = some a := by have := congrArg (·[0]?) hp; simpa using this
    have gb : bb[i]? = some b := by have := congrArg (·[0]?) hq; simpa using this
    obtain ⟨x, hx, hvx⟩ := part_scalar (P := P) he hs ha ga w
    obtain ⟨y, hy, hvy⟩ := part_scalar (P := P) he hs hb gb w
    have heq := eqD_ok (P := P) he (scalarOf_some hs).1 hvx hvy hv n w
    simp only [List.range'_succ, Op.eqItems, Nat.mul_one, Sem.run_bind, hx, hy, heq, Result.andThen_ok]
    cases v with
    | false => cases h; rfl
    | true =>
      have e1 : p = aa.drop (i + 1) := by rw [← List.drop_drop, hp]; rfl
      have e2 : q = bb.drop (i + 1) := by rw [← List.drop_drop, hq]; rfl
      subst e1; subst e2
      simpa using eqItems_ok hs ha hb n w m (i + 1) h

omit he in
theorem kdOf_cases {t : TypeId} {kd : Kd} (h : kdOf E t = some kd) :
    (∃ fs l, und E t = some (.struct fs) ∧ flatFs E fs.toList 0 = some l ∧ E.plain t = true ∧ kd = .flat l) ∨
    (∃ n e d, und E t = some (.array n e) ∧ scalarOf E e = some d ∧ Am.sizeOf E e = some 1 ∧ kd = .flat (rep d n)) ∨
    (∃ d, und E t = some d ∧ scalarD d = true ∧ kd = .one d) := by
  unfold kdOf at h
  split at h
  · next fs hu =>
    cases hpl : E.plain t with
    | false => rw [hpl] at h; cases h
    | true =>
    rw [hpl] at h
    obtain ⟨l, hl, h⟩ := Option.bind_eq_some_iff.1 h
    cases h
    exact .inl ⟨fs, l, hu, hl, rfl, rfl⟩
  · next n e hu =>
    split at h
    · next d hd hs => cases h; exact .inr (.inl ⟨n, e, d, hu, hd, hs, rfl⟩)
    · cases h
  · next d hd1 hd2 hu =>
    cases hs : scalarD d with
    | true => rw [hs] at h; cases h; exact .inr (.inr ⟨d, hu, hs, rfl⟩)
    | false => rw [hs] at h; cases h
  · cases h

/-- Values of a type that is compared cell by cell. -/
theorem eqKd_ok {t : TypeId} {kd : Kd} (hk : kdOf E t = some kd) {C : Cx} {a b : AV} {x y : Value} (ha : VR C a x) (hb : VR C b y) {r : Bool} (h : eqKd kd a b = some r) (n : Nat) (w : World) :
    (Op.equalIn (n + 2) t x y).run P w = .ok r w := by
  rcases kdOf_cases hk with ⟨fs, l, hu, hl, hpl, rfl⟩ | ⟨m, e, d, hu, hd, hs, rfl⟩ | ⟨d, hu, hs, rfl⟩
  · cases ha <;> cases hb <;> simp only [eqKd] at h <;> try (cases h; done)
    rename_i a' xs hca hva b' ys hcb hvb
    have hf : P.fieldsOf t = fs := by simp [Program.fieldsOf, und_ok he hu]
    rw [run_equalIn_struct w (n + 1) t xs ys (by rw [hf]; exact und_ok he hu) (he.flat t hpl), hf]
    exact eqFields_ok he hva hvb n w hl (by simpa using h)
  · cases ha <;> cases hb <;> simp only [eqKd] at h <;> try (cases h; done)
    rename_i a' xs hca hva b' ys hcb hvb
    have hi : ∃ i, E.tys.get e = some i ∧ i.size = 1 := by
      unfold Am.sizeOf at hs
      cases hi : E.tys.get e with
      | none => rw [hi] at hs; cases hs
      | some i => rw [hi] at hs; exact ⟨i, rfl, Option.some.inj hs⟩
    obtain ⟨i, hi, hi1⟩ := hi
    have hc : P.cellsOf e = 1 := by simp [Program.cellsOf, he.ty e i hi, hi1]
    rw [run_equalIn_array w (n + 1) xs ys (und_ok he hu) (he.ty e i hi), hc, List.range_eq_range']
    exact eqItems_ok he hd hva hvb n w m 0 (by simpa using h)
  · exact eqD_ok he hu ha hb h (n + 1) w

/-- A type that is compared cell by cell holds no interface. -/
theorem guard_kd {t : TypeId} {kd : Kd} (hk : kdOf E t = some kd) : P.eqGuardType P.depth t = false := by
  have hdep : ∃ k, P.depth = k + 2 := ⟨_, rfl⟩
  obtain ⟨k, hk'⟩ := hdep
  rw [hk']
  have sc : ∀ (j : Nat) {u : TypeId} {d : TypeDesc}, und E u = some d → scalarD d = true → P.eqGuardType (j + 1) u = false := by
    intro j u d hu hd
    simp only [Program.eqGuardType, und_ok he hu]
    cases d <;> first | rfl | cases hd
  rcases kdOf_cases hk with ⟨fs, l, hu, hl, hpl, rfl⟩ | ⟨m, e, d, hu, hd, hs, rfl⟩ | ⟨d, hu, hs, rfl⟩
  · rw [Program.eqGuardType]
    simp only [und_ok he hu]
    rw [← Array.any_toList]
    rw [List.any_eq_false]
    intro f hf
    obtain ⟨j, hj⟩ := List.getElem?_of_mem hf
    obtain ⟨d, _, _, _, hsc⟩ := (flatFs_get hl).2 j f hj
    obtain ⟨h1, h2⟩ := scalarOf_some hsc
    rw [sc k h1 h2]; simp
  · rw [Program.eqGuardType]
    simp only [und_ok he hu]
    obtain ⟨h1, h2⟩ := scalarOf_some hd
    exact sc k h1 h2
  · exact sc (k + 1) hu hs
end
end Am

/- The abstract machine: its operations are the model's (8): all binary operators. -/
namespace Am
open Go

section
variable {E : Env} {P : Program} (he : EnvOk E P)

/-- The operator itself, and its guard. -/
abbrev binG (op : BinOp) (t : TypeId) (x y : Operand) (a b : Value) : Sem Value := do eqGuard op t x y a b; binOp op t a b

theorem bin_exec {o : Oper} {op : BinOp} {t yt : TypeId} {x y : Operand} (ho : o.op = .binOp op t x y yt) : ∀ ρ, execOp ρ o = (do pure (.value (← binG op t x y (ρ x) (ρ y)))) := by
  intro ρ; simp [execOp, ho, binG]

theorem ok_int2 {o : Oper} {op : BinOp} {t yt : TypeId} {x y : Operand} (ho : o.op = .binOp op t x y yt) {f : IntKind → Int → Int → Option AV} (hf : intF op = some f) : SOk E P o (pure2 E (int2 f) x y) := by
  refine SOk.pure2 (bin_exec ho) ?_
  intro C w v u p q r hv hu hr
  cases hv with
  | int k a =>
    cases hu with
    | int k' b =>
      simp only [int2] at hr
      split at hr
      · next hk =>
        subst hk
        obtain ⟨z, hz, hzr⟩ := intF_ok (P := P) (C := C) hf hr t w
        exact ⟨z, by simp only [binG, Sem.run_bind, guard_int, Result.andThen_ok, hz], hzr⟩
      · cases hr
    | _ => simp [int2] at hr
  | _ => simp [int2] at hr

theorem ok_str2 {o : Oper} {op : BinOp} {t yt : TypeId} {x y : Operand} (ho : o.op = .binOp op t x y yt) {f : List UInt8 → List UInt8 → Option AV} (hf : strF op = some f) : SOk E P o (pure2 E (str2 f) x y) := by
  refine SOk.pure2 (bin_exec ho) ?_
  intro C w v u p q r hv hu hr
  cases hv with
  | str h1 =>
    cases hu with
    | str h2 =>
      simp only [str2] at hr
      subst h1; subst h2
      obtain ⟨z, hz, hzr⟩ := strF_ok (P := P) (C := C) hf hr t w
      exact ⟨z, by simp only [binG, Sem.run_bind, guard_str, Result.andThen_ok, hz], hzr⟩
    | _ => simp [str2] at hr
  | _ => simp [str2] at hr

theorem ok_sh {o : Oper} {op : BinOp} {t yt : TypeId} {x y : Operand} (ho : o.op = .binOp op t x y yt) (hop : op = .shl ∨ op = .shr) : SOk E P o (pure2 E (intSh (if op = .shl then shlA else shrA)) x y) := by
  refine SOk.pure2 (bin_exec ho) ?_
  intro C w v u p q r hv hu hr
  cases hv with
  | int k a =>
    cases hu with
    | int k' b =>
      simp only [intSh] at hr
      rcases hop with rfl | rfl
      · simp only [if_true, shlA] at hr
        split at hr
        · cases hr
        · next hb => cases hr; exact ⟨_, by simp only [binG, Sem.run_bind, guard_int, Result.andThen_ok, binOp, Op.shift, hb, if_false]; rfl, .int _ _⟩
      · simp only [reduceCtorEq, if_false, shrA] at hr
        split at hr
        · cases hr
        · next hb => cases hr; exact ⟨_, by simp only [binG, Sem.run_bind, guard_int, Result.andThen_ok, binOp, Op.shift, hb, if_false]; rfl, .int _ _⟩
    | _ => simp [intSh] at hr
  | _ => simp [intSh] at hr

/-- Values other than numbers and texts, and no two nil values of an interface type, no two structs. -/
def plainEq : Value → Value → Bool
  | .int _ _, .int _ _ => false
  | .float _ _, _ => false
  | .complex _ _ _, _ => false
  | .string _, .string _ => false
  | .nilIface, .nilIface => false
  | .agg _, .agg _ => false
  | _, _ => true

theorem guard_plain {op : BinOp} {t : TypeId} {x y : Operand} {a b : Value} (h : plainEq a b = true) (w : World) : (eqGuard op t x y a b).run P w = .ok () w := by
  unfold eqGuard
  split
  all_goals first | rfl | (cases a <;> cases b <;> first | rfl | cases h)

theorem bin_eq {neg : Bool} {t : TypeId} {a b : Value} (h : plainEq a b = true) {r : Bool} {w : World} (he : (Op.equal t a b).run P w = .ok r w) :
    (binOp (if neg then .neq else .eql) t a b).run P w = .ok (.bool (bif neg then !r else r)) w := by
  cases neg <;> cases a <;> cases b <;> first | (cases h; done) | (simp [binOp, he]; done)

theorem boolV_ok {C : Cx} {neg : Bool} {o : Option Bool} {r : AV} (h : boolV neg o = some r) : ∃ b, o = some b ∧ VR C r (.bool (bif neg then !b else b)) := by
  unfold boolV at h
  split at h
  · cases h; exact ⟨_, rfl, .bool _⟩
  · cases h

/-- A comparison that depends on the values alone. -/
theorem ok_eq2 {o : Oper} {neg : Bool} {t yt : TypeId} {x y : Operand} (ho : o.op = .binOp (if neg then .neq else .eql) t x y yt) {f : AV → AV → Option Bool}
    (h : ∀ (C : Cx) (w : World) a b p q r, VR C a p → VR C b q → f a b = some r → plainEq p q = true ∧ (Op.equal t p q).run P w = .ok r w) :
    SOk E P o (pure2 E (fun a b => boolV neg (f a b)) x y) := by
  refine SOk.pure2 (bin_exec ho) ?_
  intro C w v u p q r hv hu hr
  obtain ⟨b, hb, hrb⟩ := boolV_ok (C := C) hr
  obtain ⟨h1, h2⟩ := h C w v u p q b hv hu hb
  exact ⟨_, by simp only [binG, Sem.run_bind, guard_plain h1, Result.andThen_ok, bin_eq h1 h2], hrb⟩

theorem equal_of {t : TypeId} {a b : Value} {r : Bool} {w : World} (h : ∀ n, (Op.equalIn (n + 1) t a b).run P w = .ok r w) : (Op.equal t a b).run P w = .ok r w := h 9999

section steps
variable {t : TypeId} (n : Nat) (w : World)
include he
theorem in_ptr0 {e : TypeId} (hu : und E t = some (.pointer e)) (b : Option Addr) : (Op.equalIn (n + 1) t (.pointer none) (.pointer b)).run P w = .ok b.isNone w := by
  simp only [Op.equalIn, Sem.run_bind, run_und he hu, Result.andThen_ok, Sem.run_pure]
theorem in_ptr1 {e : TypeId} (hu : und E t = some (.pointer e)) (a : Addr) : (Op.equalIn (n + 1) t (.pointer (some a)) (.pointer none)).run P w = .ok false w := by
  simp only [Op.equalIn, Sem.run_bind, run_und he hu, Result.andThen_ok, Sem.run_pure]
theorem in_ptr2 {e : TypeId} (hu : und E t = some (.pointer e)) {k : Nat} (hs : Am.sizeOf E e = some (k + 1)) {a b : Addr} {r : Bool} (h : (sameAddr a b).run P w = .ok r w) :
    (Op.equalIn (n + 1) t (.pointer (some a)) (.pointer (some b))).run P w = .ok r w := by
  simp only [Op.equalIn, Sem.run_bind, run_und he hu, run_size he hs, Result.andThen_ok, ne_eq, Nat.succ_ne_zero, not_false_eq_true, if_true, h]
theorem in_map0 {k e : TypeId} (hu : und E t = some (.map k e)) (b : Option Nat) : (Op.equalIn (n + 1) t (.map none) (.map b)).run P w = .ok b.isNone w := by
  simp only [Op.equalIn, Sem.run_bind, run_und he hu, Result.andThen_ok, Sem.run_pure]
theorem in_map1 {k e : TypeId} (hu : und E t = some (.map k e)) (a : Nat) : (Op.equalIn (n + 1) t (.map (some a)) (.map none)).run P w = .ok false w := by
  simp only [Op.equalIn, Sem.run_bind, run_und he hu, Result.andThen_ok, Sem.run_pure]
theorem in_fn0 {ps rs : Array TypeId} {v : Bool} (hu : und E t = some (.func ps rs v)) : (Op.equalIn (n + 1) t .nilFunc .nilFunc).run P w = .ok true w := by
  simp only [Op.equalIn, Sem.run_bind, run_und he hu, Result.andThen_ok, Sem.run_pure]
theorem in_fn1 {ps rs : Array TypeId} {v : Bool} (hu : und E t = some (.func ps rs v)) (f : Fn) (a b : Array Value) : (Op.equalIn (n + 1) t .nilFunc (.func f a b)).run P w = .ok false w := by
  simp only [Op.equalIn, Sem.run_bind, run_und he hu, Result.andThen_ok, Sem.run_pure]
theorem in_fn2 {ps rs : Array TypeId} {v : Bool} (hu : und E t = some (.func ps rs v)) (f : Fn) (a b : Array Value) : (Op.equalIn (n + 1) t (.func f a b) .nilFunc).run P w = .ok false w := by
  simp only [Op.equalIn, Sem.run_bind, run_und he hu, Result.andThen_ok, Sem.run_pure]
theorem in_if0 {ms : Array (String × TypeId)} (hu : und E t = some (.interface ms)) : (Op.equalIn (n + 1) t .nilIface .nilIface).run P w = .ok true w := by
  simp only [Op.equalIn, Sem.run_bind, run_und he hu, Result.andThen_ok, Sem.run_pure]
theorem in_if1 {ms : Array (String × TypeId)} (hu : und E t = some (.interface ms)) (u : TypeId) (a : Value) : (Op.equalIn (n + 1) t .nilIface (.iface u a)).run P w = .ok false w := by
  simp only [Op.equalIn, Sem.run_bind, run_und he hu, Result.andThen_ok, Sem.run_pure]
theorem in_if2 {ms : Array (String × TypeId)} (hu : und E t = some (.interface ms)) (u : TypeId) (a : Value) : (Op.equalIn (n + 1) t (.iface u a) .nilIface).run P w = .ok false w := by
  simp only [Op.equalIn, Sem.run_bind, run_und he hu, Result.andThen_ok, Sem.run_pure]
theorem in_if3 {ms : Array (String × TypeId)} (hu : und E t = some (.interface ms)) {u v : TypeId} (h : u ≠ v) (a b : Value) : (Op.equalIn (n + 1) t (.iface u a) (.iface v b)).run P w = .ok false w := by
  simp only [Op.equalIn, Sem.run_bind, run_und he hu, Result.andThen_ok, ne_eq, h, not_false_eq_true, if_true, Sem.run_pure]
theorem in_if4 {ms : Array (String × TypeId)} (hu : und E t = some (.interface ms)) {u : TypeId} {i : TypeInfo} (hi : E.tys.get u = some i) (hc : i.comparable = true) {a b : Value} {r : Bool}
    (h : (Op.equalIn n u a b).run P w = .ok r w) : (Op.equalIn (n + 1) t (.iface u a) (.iface u b)).run P w = .ok r w := by
  simp only [Op.equalIn, Sem.run_bind, run_und he hu, Result.andThen_ok, ne_eq, not_true_eq_false, if_false, run_tyInfo he hi, hc, Bool.not_true, Bool.false_eq_true, h]
end steps

include he

theorem ok_eqBool {o : Oper} {neg : Bool} {t yt : TypeId} {x y : Operand} (ho : o.op = .binOp (if neg then .neq else .eql) t x y yt) (hu : und E t = some .bool) :
    SOk E P o (pure2 E (fun a b => boolV neg (eqD .bool a b)) x y) := by
  refine ok_eq2 ho ?_
  intro C w a b p q r ha hb h
  have heq := eqD_ok (P := P) he hu ha hb h 9999 w
  refine ⟨?_, heq⟩
  unfold eqD at h
  split at h
  · cases ha; cases hb; rfl
  · next k j p q e => cases e
  · next e => cases e
  · cases h

theorem ok_eqFunc {o : Oper} {neg : Bool} {t yt : TypeId} {x y : Operand} (ho : o.op = .binOp (if neg then .neq else .eql) t x y yt) {ps rs : Array TypeId} {v : Bool} (hu : und E t = some (.func ps rs v)) :
    SOk E P o (pure2 E (fun a b => boolV neg (eqFunc a b)) x y) := by
  refine ok_eq2 ho ?_
  intro C w a b p q r ha hb h
  unfold eqFunc at h
  split at h <;> first | (cases h; done) | skip
  · cases ha; cases hb; cases h
    exact ⟨rfl, equal_of fun n => in_fn0 he n w hu⟩
  · cases ha
    cases h
    cases hb <;> exact ⟨rfl, equal_of fun n => in_fn1 he n w hu _ _ _⟩
  · cases hb
    cases h
    cases ha <;> exact ⟨rfl, equal_of fun n => in_fn2 he n w hu _ _ _⟩

theorem ok_eqMap {o : Oper} {neg : Bool} {t yt : TypeId} {x y : Operand} (ho : o.op = .binOp (if neg then .neq else .eql) t x y yt) {k e : TypeId} (hu : und E t = some (.map k e)) :
    SOk E P o (pure2 E (fun a b => boolV neg (eqMap a b)) x y) := by
  refine ok_eq2 ho ?_
  intro C w a b p q r ha hb h
  unfold eqMap at h
  split at h <;> first | (cases h; done) | skip
  all_goals
    cases ha; cases hb; cases h
    first
      | exact ⟨rfl, equal_of fun n => in_map0 he n w hu _⟩
      | exact ⟨rfl, equal_of fun n => in_map1 he n w hu _⟩

theorem eqPtr_ok {t e : TypeId} (hu : und E t = some (.pointer e)) {C : Cx} {w : World} {a b : AV} {p q : Value} {r : Bool} (ha : VR C a p) (hb : VR C b q) (h : eqPtr a b = some r) :
    plainEq p q = true ∧ (Op.equal t p q).run P w = .ok r w := by
  unfold eqPtr at h
  split at h <;> first | (cases h; done) | skip
  all_goals
    cases ha; cases hb; cases h
    first
      | exact ⟨rfl, equal_of fun n => in_ptr0 he n w hu _⟩
      | exact ⟨rfl, equal_of fun n => in_ptr1 he n w hu _⟩

theorem ok_eqPtr {o : Oper} {neg : Bool} {t yt : TypeId} {x y : Operand} (ho : o.op = .binOp (if neg then .neq else .eql) t x y yt) {e : TypeId} (hu : und E t = some (.pointer e)) :
    SOk E P o (pure2 E (fun a b => boolV neg (eqPtr a b)) x y) :=
  ok_eq2 ho fun _ _ _ _ _ _ _ ha hb h => eqPtr_ok he hu ha hb h

omit he in
theorem eqPtrs_split {s : St} {a b : AV} {r : Bool} (h : eqPtrs s a b = some r) : (∃ b1 i b2 j, a = .ptr b1 i ∧ b = .ptr b2 j) ∨ eqPtr a b = some r := by
  unfold eqPtrs at h
  split at h
  · exact .inl ⟨_, _, _, _, rfl, rfl⟩
  · exact .inr h

theorem eqPtrs_pp {t e : TypeId} {n : Nat} (hu : und E t = some (.pointer e)) (hs : Am.sizeOf E e = some (n + 1)) {C : Cx} {S : St} {w : World} (hS : StR C S w) {b1 i b2 j : Nat} {p q : Value} {b : Bool}
    (ha1 : VR C (.ptr b1 i) p) (ha2 : VR C (.ptr b2 j) q) (hb : eqPtrs S (.ptr b1 i) (.ptr b2 j) = some b) : plainEq p q = true ∧ (Op.equal t p q).run P w = .ok b w := by
  cases ha1 with
  | ptr hd1 =>
  cases ha2 with
  | ptr hd2 =>
  refine ⟨rfl, ?_⟩
  simp only [eqPtrs] at hb
  cases hbb : Nat.beq b1 b2 with
  | true =>
    rw [hbb] at hb
    have : b1 = b2 := Nat.eq_of_beq_eq_true hbb
    subst this
    cases hb
    have : (sameAddr ⟨(C.pl b1).blk, (C.pl b1).base + i, none⟩ ⟨(C.pl b1).blk, (C.pl b1).base + j, none⟩).run P w = .ok (Nat.beq i j) w := by
      simp only [sameAddr, beq_self_eq_true, if_true, Sem.run_pure]
      congr 1
      rw [Bool.eq_iff_iff]
      simp
    exact equal_of fun n => in_ptr2 he n w hu hs this
  | false =>
    rw [hbb] at hb
    cases hv : (isVar (S.heap.get b1) && isVar (S.heap.get b2)) with
    | false => rw [hv] at hb; cases hb
    | true =>
      rw [hv] at hb; cases hb
      simp only [Bool.and_eq_true] at hv
      have var : ∀ k, isVar (S.heap.get k) = true → ∃ o c e', S.heap.get k = some o ∧ w.heap[(C.pl k).blk]? = some (.cells c e' (0, 0)) := by
        intro k hk
        cases hgk : S.heap.get k with
        | none => rw [hgk] at hk; cases hk
        | some o =>
          rw [hgk] at hk
          cases o with
          | cells cs e' part =>
            have hpf : part = false := by simpa [isVar] using hk
            subst hpf
            obtain ⟨_, x', hx', hr⟩ := hS.live k _ hgk
            cases hr with
            | cells hv ha hsz hcs hf hp => obtain ⟨_, _, rfl⟩ := hp rfl; exact ⟨_, _, _, rfl, hx'⟩
          | _ => cases hk
      obtain ⟨o1, c1, e1, g1, m1⟩ := var b1 hv.1
      obtain ⟨o2, c2, e2, g2, m2⟩ := var b2 hv.2
      have hne : (C.pl b1).blk ≠ (C.pl b2).blk := fun e => by
        have := hS.inj b1 b2 o1 o2 g1 g2 e
        subst this; simp at hbb
      have := run_sameAddr_other (P := P) w (a := ⟨(C.pl b1).blk, (C.pl b1).base + i, none⟩) (b := ⟨(C.pl b2).blk, (C.pl b2).base + j, none⟩) (fun e => hne (congrArg Addr.block e)) m1 m2
      exact equal_of fun n => in_ptr2 he n w hu hs this

theorem ok_eqPtrs {o : Oper} {neg : Bool} {t yt : TypeId} {x y : Operand} (ho : o.op = .binOp (if neg then .neq else .eql) t x y yt) {e : TypeId} {n : Nat} (hu : und E t = some (.pointer e))
    (hs : Am.sizeOf E e = some (n + 1)) : SOk E P o (.look fun T s => (opnd E x T).bind fun a => (opnd E y T).bind fun b => boolV neg (eqPtrs s a b)) := by
  intro C T a S w hg hT hS v h
  obtain ⟨u, hu', h⟩ := Option.bind_eq_some_iff.1 h
  obtain ⟨u2, hu2, h⟩ := Option.bind_eq_some_iff.1 h
  obtain ⟨b, hb, hrb⟩ := boolV_ok (C := C) h
  have ha1 := opnd_ok hg hT hu'
  have ha2 := opnd_ok hg hT hu2
  have main : plainEq (a.eval x) (a.eval y) = true ∧ (Op.equal t (a.eval x) (a.eval y)).run P w = .ok b w := by
    rcases eqPtrs_split hb with ⟨b1, i, b2, j, rfl, rfl⟩ | h
    · exact eqPtrs_pp he hu hs hS ha1 ha2 hb
    · exact eqPtr_ok he hu ha1 ha2 h
  refine ⟨_, ?_, hrb⟩
  rw [bin_exec ho]
  simp only [binG, Sem.run_bind, guard_plain main.1, Result.andThen_ok, bin_eq main.1 main.2, Sem.run_pure]

theorem ok_eqKd {o : Oper} {neg : Bool} {t yt : TypeId} {x y : Operand} (ho : o.op = .binOp (if neg then .neq else .eql) t x y yt) {kd : Option Kd} (hk : kd = kdOf E t)
    (hu : (∃ fs, und E t = some (.struct fs)) ∨ ∃ n e, und E t = some (.array n e)) : SOk E P o (eqKdC E neg kd x y) := by
  subst hk
  unfold eqKdC
  split
  · next kd hkd =>
    refine SOk.pure2 (bin_exec ho) ?_
    intro C w v u p q r hv huv hr
    obtain ⟨b, hb, hrb⟩ := boolV_ok (C := C) hr
    have heq := eqKd_ok (P := P) he hkd hv huv hb 9998 w
    have hagg : ∃ xs ys, p = .agg xs ∧ q = .agg ys := by
      rcases kdOf_cases hkd with ⟨fs, l, _, _, _, rfl⟩ | ⟨m, e, d, _, _, _, rfl⟩ | ⟨d, hd, hs, rfl⟩
      · cases hv <;> cases huv <;> simp only [eqKd] at hb <;> first | (cases hb; done) | exact ⟨_, _, rfl, rfl⟩
      · cases hv <;> cases huv <;> simp only [eqKd] at hb <;> first | (cases hb; done) | exact ⟨_, _, rfl, rfl⟩
      · exfalso
        rcases hu with ⟨fs, hu⟩ | ⟨n, e, hu⟩ <;> rw [hu] at hd <;> cases hd <;> cases hs
    obtain ⟨xs, ys, rfl, rfl⟩ := hagg
    refine ⟨_, ?_, hrb⟩
    simp only [binG, Sem.run_bind, run_eqGuard_agg w _ t x y xs ys (guard_kd he hkd), Result.andThen_ok]
    have heq' : (Op.equal t (.agg xs) (.agg ys)).run P w = .ok b w := heq
    cases neg
    · simp [binOp, heq']
    · simp [binOp, heq']
  · exact SOk.bad

theorem ok_eqIface {o : Oper} {neg : Bool} {t yt : TypeId} {x y : Operand} (ho : o.op = .binOp (if neg then .neq else .eql) t x y yt) {ms : Array (String × TypeId)} (hu : und E t = some (.interface ms)) :
    SOk E P o (pure2 E (fun a b => boolV neg (eqIface E (isConst x || isConst y) a b)) x y) := by
  refine SOk.pure2 (bin_exec ho) ?_
  intro C w v u p q r hv huv hr
  obtain ⟨b, hb, hrb⟩ := boolV_ok (C := C) hr
  have fin : plainEq p q = true → (Op.equal t p q).run P w = .ok b w → ∃ z, (binG (if neg then .neq else .eql) t x y p q).run P w = .ok z w ∧ VR C r z := fun h1 h2 =>
    ⟨_, by simp only [binG, Sem.run_bind, guard_plain h1, Result.andThen_ok, bin_eq h1 h2], hrb⟩
  unfold eqIface at hb
  split at hb
  · cases hl : (isConst x || isConst y) with
    | false => rw [hl] at hb; cases hb
    | true =>
      rw [hl] at hb; cases hb
      cases hv; cases huv
      have hg : (eqGuard (if neg then .neq else .eql) t x y .nilIface .nilIface).run P w = .ok () w := by
        cases neg <;> cases x <;> cases y <;> first | rfl | (simp [isConst] at hl)
      refine ⟨_, ?_, hrb⟩
      simp only [binG, Sem.run_bind, hg, Result.andThen_ok]
      have h0 : (Op.equal t .nilIface .nilIface).run P w = .ok true w := equal_of fun n => in_if0 he n w hu
      cases neg <;> simp [binOp, h0]
  · cases hv; cases huv; cases hb
    exact fin rfl (equal_of fun n => in_if1 he n w hu _ _)
  · cases hv; cases huv; cases hb
    exact fin rfl (equal_of fun n => in_if2 he n w hu _ _)
  · next t1 a1 t2 a2 =>
    cases hv with
    | iface hv =>
    cases huv with
    | iface huv =>
    refine fin rfl ?_
    cases htt : Nat.beq t1 t2 with
    | false =>
      rw [htt] at hb; cases hb
      have hne : t1 ≠ t2 := fun e => by subst e; simp at htt
      exact equal_of fun n => in_if3 he n w hu hne _ _
    | true =>
      rw [htt] at hb
      have : t1 = t2 := Nat.eq_of_beq_eq_true htt
      subst this
      cases hc : comparableT E t1 with
      | false => rw [hc] at hb; cases hb
      | true =>
      rw [hc] at hb
      obtain ⟨d, hd, hb⟩ := Option.bind_eq_some_iff.1 hb
      unfold comparableT at hc
      cases hi : E.tys.get t1 with
      | none => rw [hi] at hc; cases hc
      | some i =>
        rw [hi] at hc
        exact in_if4 he 9999 w hu hi hc (eqD_ok (P := P) he (scalarOf_some hd).1 hv huv hb 9998 w)
  · cases hb

omit he in
theorem nilA_ok {C : Cx} {v : AV} {x : Value} (h : VR C v x) {l : List Bool} (e : nilA v = some l) : ∃ a n c, x = .slice a n c ∧ a.isNone ∈ l := by
  cases h with
  | nilslice a hxx => cases e; cases a <;> exact ⟨_, _, _, rfl, by simp⟩
  | slice hd hc hlc => cases e; exact ⟨_, _, _, rfl, by simp⟩
  | slice0 hxx hd hc => cases e; exact ⟨_, _, _, rfl, by simp⟩
  | islice0 a h hlc => cases e; cases a <;> exact ⟨_, _, _, rfl, by simp⟩
  | islice hl hm ha hv hcl hcs hlc =>
    rename_i blk off len sz c cl cs ms vs
    cases cs with
    | nil => cases e; exact ⟨_, _, _, rfl, by simp⟩
    | cons q cs => cases e; exact ⟨_, _, _, rfl, by simp⟩
  | _ => simp [nilA] at e

theorem ok_eqNil {o : Oper} {neg : Bool} {t yt : TypeId} {x : Operand} (ho : o.op = .binOp (if neg then .neq else .eql) t x (.const (.slice none 0 0)) yt) {e : TypeId} (hu : und E t = some (.slice e)) :
    SOk E P o (.pick fun T => (opnd E x T).bind fun a => (nilA a).bind fun l => some (boolsV neg l)) := by
  intro C T a S w hg hT hS l h
  obtain ⟨u, hu', h⟩ := Option.bind_eq_some_iff.1 h
  obtain ⟨bs, hbs, h⟩ := Option.bind_eq_some_iff.1 h
  cases h
  obtain ⟨ad, n, c, hx, hmem⟩ := nilA_ok (opnd_ok hg hT hu') hbs
  have hin : ∀ (bs : List Bool) (b : Bool), b ∈ bs → (AV.bool (bif neg then !b else b)) ∈ boolsV neg bs := by
    intro bs
    induction bs with
    | nil => intro b h; cases h
    | cons q bs ih =>
      intro b h
      rcases List.mem_cons.1 h with rfl | h
      · exact List.mem_cons_self ..
      · exact List.mem_cons_of_mem _ (ih b h)
  refine ⟨_, hin bs _ hmem, _, ?_, .bool _⟩
  have heq : (Op.equal t (a.eval x) (a.eval (.const (.slice none 0 0)))).run P w = .ok ad.isNone w := by
    refine equal_of fun n => ?_
    rw [hx]
    show (Op.equalIn (n + 1) t _ (.slice none 0 0)).run P w = _
    cases ad <;> simp only [Op.equalIn, Sem.run_bind, run_und he hu, Result.andThen_ok, Sem.run_pure] <;> rfl
  have hp : plainEq (a.eval x) (a.eval (.const (.slice none 0 0))) = true := by rw [hx]; rfl
  rw [bin_exec ho]
  simp only [binG, Sem.run_bind, guard_plain hp, Result.andThen_ok, bin_eq hp heq, Sem.run_pure]

theorem ok_eq {o : Oper} {neg : Bool} {t yt : TypeId} {x y : Operand} (ho : o.op = .binOp (if neg then .neq else .eql) t x y yt) : SOk E P o (eqC E neg t x y) := by
  unfold eqC
  split
  · next hu => exact ok_eqBool he ho hu
  · next e hu =>
    split
    · next n hs => exact ok_eqPtrs he ho hu hs
    · exact ok_eqPtr he ho hu
  · next ms hu => exact ok_eqIface he ho hu
  · next ps rs v hu => exact ok_eqFunc he ho hu
  · next k e hu => exact ok_eqMap he ho hu
  · next n e hu => exact ok_eqKd he ho rfl (.inr ⟨n, e, hu⟩)
  · next fs hu => exact ok_eqKd he ho rfl (.inl ⟨fs, hu⟩)
  · next e hu =>
    split
    · exact ok_eqNil he ho hu
    · exact SOk.bad
  · exact SOk.bad

theorem ok_bin {o : Oper} {op : BinOp} {t yt : TypeId} {x y : Operand} (ho : o.op = .binOp op t x y yt) : SOk E P o (binC E op t x y) := by
  unfold binC
  split
  · split
    · exact ok_sh ho (.inl rfl)
    · exact ok_sh ho (.inr rfl)
    · split
      · next f hf => exact ok_int2 ho hf
      · exact SOk.bad
  · split
    · next f hf => exact ok_str2 ho hf
    · exact SOk.bad
  · split
    · exact ok_eq (neg := false) he ho
    · exact ok_eq (neg := true) he ho
    · exact SOk.bad
end
end Am

/- The abstract machine: its operations are the model's (9): slices of slices. -/
namespace Am
open Go

/-- A bound that may be left out. -/
inductive OV (C : Cx) : Option AV → Option Value → Prop where
  | none : OV C none none
  | some {v : AV} {x : Value} (h : VR C v x) : OV C (some v) (some x)

section
variable {E : Env} {P : Program}

theorem opndO_ok {C : Cx} {T : Tr AV} {a : Act} (hg : GlobR E C) (hT : TR C a.tmps.size T a.tmps) {x : Option Operand} {v : Option AV} (h : opndOC E x T = some v) : OV C v (x.map a.eval) := by
  cases x with
  | none => cases h; exact .none
  | some x =>
    simp only [opndOC] at h
    obtain ⟨u, hu, h⟩ := Option.bind_eq_some_iff.1 h
    cases h
    exact .some (opnd_ok hg hT hu)

theorem bound_run {n most : Nat} (h : n ≤ most) (k : IntKind) (code : BoundsCode) (w : World) : (Instr.sliceBound (.int k (n : Int)) most code).run P w = .ok n w := by
  have hc : (0 : Int) ≤ (n : Int) ∧ (n : Int) ≤ (most : Int) := by omega
  simp [Instr.sliceBound, asIntOf, h]

theorem bound_some {C : Cx} {most r : Nat} {v : AV} {x : Value} (hv : VR C v x) {dflt : Nat} (h : boundsA dflt most (some v) = some r) {m : Nat} (hm : most ≤ m) (code : BoundsCode) (w : World) :
    (Instr.sliceBound x m code).run P w = .ok r w ∧ r ≤ most := by
  simp only [boundsA] at h
  obtain ⟨n, hn, h⟩ := Option.bind_eq_some_iff.1 h
  obtain ⟨k, rfl⟩ := natOf_ok hv hn
  cases hb : Nat.ble n most with
  | false => rw [hb] at h; cases h
  | true =>
    rw [hb] at h; cases h
    have := Nat.le_of_ble_eq_true hb
    exact ⟨bound_run (by omega) k code w, this⟩

theorem boundsA_none {d m r : Nat} (h : boundsA d m none = some r) : r = d := by cases h; rfl

/-- The bounds, none given for the capacity. -/
theorem bounds2_run {C : Cx} {lo hi : Option AV} {xlo xhi : Option Value} (hlo : OV C lo xlo) (hhi : OV C hi xhi) {len most c h l : Nat} (hmc : most ≤ c) (hlc : len ≤ c)
    (h1 : boundsA len most hi = some h) (h2 : boundsA 0 h lo = some l) (b : Bool) (w : World) :
    (Instr.sliceBounds b len c xlo xhi none).run P w = .ok (l, h, c) w ∧ l ≤ h ∧ h ≤ c := by
  have hh : h ≤ c ∧ ∀ code, (match xhi with | some v => Instr.sliceBound v c code | none => pure len : Sem Nat).run P w = .ok h w := by
    cases hhi with
    | none => cases boundsA_none h1; exact ⟨hlc, fun _ => rfl⟩
    | some hv => exact ⟨Nat.le_trans (bound_some (P := P) hv h1 hmc .index w).2 hmc, fun code => (bound_some (P := P) hv h1 hmc code w).1⟩
  have hl : l ≤ h ∧ ∀ code, (match xlo with | some v => Instr.sliceBound v h code | none => pure 0 : Sem Nat).run P w = .ok l w := by
    cases hlo with
    | none => cases boundsA_none h2; exact ⟨Nat.zero_le _, fun _ => rfl⟩
    | some hv => exact ⟨(bound_some (P := P) hv h2 (Nat.le_refl _) .index w).2, fun code => (bound_some (P := P) hv h2 (Nat.le_refl _) code w).1⟩
  refine ⟨?_, hl.1, hh.1⟩
  have e1 := hh.2
  have e2 := hl.2
  unfold Instr.sliceBounds
  cases hhi with
  | none =>
    cases hlo with
    | none =>
      have a1 := e1 .index; have a2 := e2 .index
      simp only [Sem.run_pure, Result.ok.injEq, and_true] at a1 a2
      simp [a1, ← a2]
    | some hv =>
      have a1 := e1 .index
      simp only [Sem.run_pure, Result.ok.injEq, and_true] at a1
      have a2 := e2 .sliceB
      simp only at a2
      subst a1
      simp [a2]
  | some hv1 =>
    cases hlo with
    | none =>
      have a2 := e2 .index
      simp only [Sem.run_pure, Result.ok.injEq, and_true] at a2
      have a1 := e1 (if b then .sliceAcap else .sliceAlen)
      simp only at a1
      simp [a1, ← a2]
    | some hv =>
      have a2 := e2 .sliceB
      have a1 := e1 (if b then .sliceAcap else .sliceAlen)
      simp only at a1 a2
      simp [a1, a2]

/-- The bounds, all of them given (but the first one). -/
theorem bounds3_run {C : Cx} {lo hi : Option AV} {mx : AV} {xlo xhi : Option Value} {xmx : Value} (hlo : OV C lo xlo) (hhi : OV C hi xhi) (hmx : VR C mx xmx) {len most c h l m : Nat} (hmc : most ≤ c)
    (h0 : boundsA 0 most (some mx) = some m) (h1 : boundsS m hi = some h) (h2 : boundsA 0 h lo = some l) (b : Bool) (w : World) :
    (Instr.sliceBounds b len c xlo xhi (some xmx)).run P w = .ok (l, h, m) w ∧ l ≤ h ∧ h ≤ m ∧ m ≤ most := by
  cases hhi with
  | none => cases h1
  | some hvh =>
  simp only [boundsS] at h1
  have a0 := fun code => bound_some (P := P) hmx h0 hmc code w
  have a1 := fun code => bound_some (P := P) hvh h1 (Nat.le_refl _) code w
  unfold Instr.sliceBounds
  cases hlo with
  | none =>
    cases boundsA_none h2
    refine ⟨?_, Nat.zero_le _, (a1 .index).2, (a0 .index).2⟩
    simp [(a0 (if b then .slice3Acap else .slice3Alen)).1, (a1 .slice3B).1]
  | some hvl =>
    have a2 := fun code => bound_some (P := P) hvl h2 (Nat.le_refl _) code w
    refine ⟨?_, (a2 .index).2, (a1 .index).2, (a0 .index).2⟩
    simp [(a0 (if b then .slice3Acap else .slice3Alen)).1, (a1 .slice3B).1, (a2 .slice3C).1]

theorem mostOf_le {C : Cx} {S : St} {w : World} (hS : StR C S w) {b off len sz c : Nat} {cap : Option Nat} (hc : CapR C b off sz cap c) {cs : List AV} (hcs : cellsOf? (S.heap.get b) = some cs) :
    mostOf sz off len cap cs ≤ c := by
  cases cap with
  | some k => simp only [CapR] at hc; simp [mostOf, hc.1]
  | none =>
    simp only [CapR] at hc
    simp only [mostOf]
    have hs : Nat.beq sz 0 = false := by cases sz with | zero => omega | succ n => rfl
    rw [hs]
    obtain ⟨_, x, e, fr, vs, hx, hv, ha, hsz, _, _⟩ := hS.cells hcs
    have h1 := hv.length
    have h2 := ha.le
    simp only [Array.length_toList] at h2
    simp only [cond_false, len'_eq]
    have : (cs.length - off) ≤ c * sz := by omega
    exact Nat.div_le_of_le_mul (by rw [Nat.mul_comm]; exact this)

variable (he : EnvOk E P)
include he

/-- A slice of a slice. -/
theorem slice_ok {t e : TypeId} {sz : Nat} (hu : und E t = some (.slice e)) (hsz : Am.sizeOf E e = some sz) {C : Cx} {S : St} {w : World} (hS : StR C S w) {v r : AV} {x : Value} (hv : VR C v x)
    {lo hi mx : Option AV} {xlo xhi xmx : Option Value} (hlo : OV C lo xlo) (hhi : OV C hi xhi) (hmx : OV C mx xmx) (h : sliceSlV S sz lo hi mx v = some r) :
    ∃ z, (Instr.sliceAt t x xlo xhi xmx).run P w = .ok z w ∧ VR C r z := by
  have run : ∀ (a : Option Addr) (n c l h m : Nat), (Instr.sliceBounds true n c xlo xhi xmx).run P w = .ok (l, h, m) w →
      (Instr.sliceAt t (.slice a n c) xlo xhi xmx).run P w = .ok (.slice (if m = l then a else a.map (·.add (l * sz))) (h - l) (m - l)) w := by
    intro a n c l h m hb
    simp [Instr.sliceAt, Instr.slice, run_und he hu, hb, run_size he hsz]
  have moved : ∀ {a : Option Addr} {q : Prop} [Decidable q] {k : Nat}, AtX C a → AtX C (if q then a else a.map (·.add k)) := by
    intro a q _ k ha ad had
    split at had
    · exact ha ad had
    · cases a with
      | none => cases had
      | some ad0 =>
        cases had
        have := ha ad0 rfl
        unfold Addr.add
        split <;> exact this
  cases hv with
  | nilslice a hx0 =>
    simp only [sliceSlV] at h
    cases hmx with
    | none =>
      simp only [nilV3] at h
      obtain ⟨p, hp, h⟩ := Option.bind_eq_some_iff.1 h
      obtain ⟨q, hq, h⟩ := Option.bind_eq_some_iff.1 h
      cases h
      have hp0 : p = 0 := by
        cases hhi with
        | none => cases hp; rfl
        | some hv => have := (bound_some (P := P) hv hp (Nat.le_refl _) .index w).2; omega
      subst hp0
      obtain ⟨hb, hle, _⟩ := bounds2_run (P := P) hlo hhi (Nat.le_refl 0) (Nat.le_refl 0) hp hq true w
      have hq0 : q = 0 := by omega
      subst hq0
      exact ⟨_, run a 0 0 0 0 0 hb, .nilslice _ hx0⟩
    | some hvm =>
      simp only [nilV3] at h
      obtain ⟨m, hm, h⟩ := Option.bind_eq_some_iff.1 h
      obtain ⟨p, hp, h⟩ := Option.bind_eq_some_iff.1 h
      obtain ⟨q, hq, h⟩ := Option.bind_eq_some_iff.1 h
      cases h
      have hm0 : m = 0 := by have := (bound_some (P := P) hvm hm (Nat.le_refl _) .index w).2; omega
      subst hm0
      have hp0 : p = 0 := by
        cases hhi with
        | none => cases hp
        | some hv => have := (bound_some (P := P) (dflt := 0) hv hp (Nat.le_refl _) .index w).2; omega
      subst hp0
      obtain ⟨hb, hle, _⟩ := bounds3_run (P := P) hlo hhi hvm (len := 0) (Nat.le_refl 0) hm hp hq true w
      have hq0 : q = 0 := by omega
      subst hq0
      exact ⟨_, run a 0 0 0 0 0 hb, .nilslice _ hx0⟩
  | slice hd hc hlc =>
    rename_i b off len sz' cap c
    simp only [sliceSlV] at h
    cases hsz' : Nat.beq sz' sz with
    | false => rw [hsz'] at h; cases h
    | true =>
    rw [hsz'] at h
    have : sz' = sz := Nat.eq_of_beq_eq_true hsz'
    subst this
    obtain ⟨cs, hcs, h⟩ := Option.bind_eq_some_iff.1 h
    have hmost := mostOf_le hS hc (len := len) hcs
    generalize mostOf sz' off len cap cs = most at h hmost
    cases hmx with
    | none =>
      simp only [sliceV3] at h
      obtain ⟨p, hp, h⟩ := Option.bind_eq_some_iff.1 h
      obtain ⟨l, hl, h⟩ := Option.bind_eq_some_iff.1 h
      obtain ⟨hb, hle, hpc⟩ := bounds2_run (P := P) hlo hhi hmost hlc hp hl true w
      refine ⟨_, run _ len c l p c hb, ?_⟩
      cases cap with
      | some k =>
        obtain ⟨rfl, hk0⟩ := hc
        simp only [sliceFrom, Option.some.injEq] at h
        subst h
        cases hkl : Nat.beq c l with
        | true =>
          have : c = l := Nat.eq_of_beq_eq_true hkl
          subst this
          have h0 : Nat.beq c 0 = false := by cases c with | zero => omega | succ n => rfl
          have hpl : p - c = 0 := by omega
          simp only [cond_true, h0, cond_false, if_true, hpl, Nat.sub_self]
          exact .nilslice _ (.some (hS.knownD _ hd))
        | false =>
          have hne : c ≠ l := fun e => by subst e; simp at hkl
          simp only [cond_false, hne, if_false, Option.map_some, add_none, Nat.add_assoc]
          exact .slice hd ⟨rfl, by omega⟩ (by omega)
      | none =>
        obtain ⟨hc1, hc2⟩ := hc
        have hsum : (C.pl b).base + (off + l * sz') + (c - l) * sz' = (C.pl b).size := by
          rw [Nat.sub_mul]
          have := Nat.mul_le_mul_right sz' (Nat.le_trans hle hpc)
          omega
        simp only [sliceFrom] at h
        cases hlm : Nat.blt l most with
        | true =>
          rw [hlm] at h; cases h
          have : l < most := by simpa [Nat.blt_eq] using hlm
          have hne : c ≠ l := by omega
          simp only [hne, if_false, Option.map_some, add_none, Nat.add_assoc]
          exact .slice hd ⟨by rw [← Nat.add_assoc] at hsum ⊢; exact hsum, hc2⟩ (by omega)
        | false =>
          rw [hlm] at h
          cases hp0 : Nat.beq (p - l) 0 with
          | false => rw [hp0] at h; cases h
          | true =>
            rw [hp0] at h; cases h
            have hpl : p - l = 0 := Nat.eq_of_beq_eq_true hp0
            rw [hpl]
            by_cases hne : c = l
            · subst hne
              simp only [if_true, Nat.sub_self]
              exact .slice0 (hS.knownD _ hd) hd (.inl rfl)
            · simp only [hne, if_false, Option.map_some, add_none, Nat.add_assoc]
              exact .slice0 (hS.knownD _ hd) hd (.inr ⟨rfl, hsum, hc2⟩)
    | some hvm =>
      simp only [sliceV3] at h
      obtain ⟨m, hm, h⟩ := Option.bind_eq_some_iff.1 h
      obtain ⟨p, hp, h⟩ := Option.bind_eq_some_iff.1 h
      obtain ⟨l, hl, h⟩ := Option.bind_eq_some_iff.1 h
      obtain ⟨hb, hle, hpm, hmm⟩ := bounds3_run (P := P) hlo hhi hvm (len := len) hmost hm hp hl true w
      refine ⟨_, run _ len c l p m hb, ?_⟩
      cases hml : Nat.beq m l with
      | true =>
        rw [hml] at h; cases h
        have : m = l := Nat.eq_of_beq_eq_true hml
        subst this
        have hpl : p - m = 0 := by omega
        simp only [if_true, hpl, Nat.sub_self]
        exact .nilslice _ (.some (hS.knownD _ hd))
      | false =>
        rw [hml] at h; cases h
        have hne : m ≠ l := fun e => by subst e; simp at hml
        simp only [hne, if_false, Option.map_some, add_none, Nat.add_assoc]
        exact .slice hd ⟨rfl, by omega⟩ (by omega)
  | slice0 hx0 hd hc =>
    rename_i b off sz' a c
    simp only [sliceSlV] at h
    cases hsz' : Nat.beq sz' sz with
    | false => rw [hsz'] at h; cases h
    | true =>
    rw [hsz'] at h
    have : sz' = sz := Nat.eq_of_beq_eq_true hsz'
    subst this
    obtain ⟨cs, hcs, h⟩ := Option.bind_eq_some_iff.1 h
    simp only [mostOf] at h
    cases hmx with
    | none =>
      simp only [sliceV3] at h
      obtain ⟨p, hp, h⟩ := Option.bind_eq_some_iff.1 h
      obtain ⟨l, hl, h⟩ := Option.bind_eq_some_iff.1 h
      have hp0 : p = 0 := by
        cases hhi with
        | none => cases hp; rfl
        | some hv => have := (bound_some (P := P) hv hp (Nat.le_refl _) .index w).2; omega
      subst hp0
      obtain ⟨hb, hle, _⟩ := bounds2_run (P := P) hlo hhi (Nat.zero_le c) (Nat.zero_le c) hp hl true w
      have hl0 : l = 0 := by omega
      subst hl0
      cases h
      refine ⟨_, run _ 0 c 0 0 c hb, ?_⟩
      have : (if c = 0 then some a else Option.map (fun x => x.add (0 * sz')) (some a)) = some a := by
        split
        · rfl
        · simp [Addr.add]
      rw [this]
      exact .slice0 hx0 hd hc
    | some hvm =>
      simp only [sliceV3] at h
      obtain ⟨m, hm, h⟩ := Option.bind_eq_some_iff.1 h
      obtain ⟨p, hp, h⟩ := Option.bind_eq_some_iff.1 h
      obtain ⟨l, hl, h⟩ := Option.bind_eq_some_iff.1 h
      obtain ⟨hb, hle, hpm, hmm⟩ := bounds3_run (P := P) hlo hhi hvm (len := 0) (Nat.zero_le c) hm hp hl true w
      obtain rfl : m = 0 := by omega
      obtain rfl : p = 0 := by omega
      obtain rfl : l = 0 := by omega
      cases h
      exact ⟨_, run _ 0 c 0 0 0 hb, .nilslice _ (.some hx0)⟩
  | islice0 a h0 hlc =>
    rename_i sz' cl len c
    simp only [sliceSlV] at h
    cases hsz' : Nat.beq sz' sz with
    | false => rw [hsz'] at h; cases h
    | true =>
    rw [hsz'] at h
    have : sz' = sz := Nat.eq_of_beq_eq_true hsz'
    subst this
    have none_cut : ∀ {k n : Nat} {q : List AV}, cut [] k n = some q → q = [] ∧ n = 0 := by
      intro k n q hq
      obtain ⟨pre, post, h1, h2, h3⟩ := cut_some hq
      have := congrArg List.length h1
      simp at this
      have hq0 : q = [] := List.eq_nil_of_length_eq_zero (by omega)
      exact ⟨hq0, by rw [← h3, hq0]; rfl⟩
    cases hmx with
    | none =>
      simp only [cond_true, isliceV3, isliceV] at h
      obtain ⟨p, hp, h⟩ := Option.bind_eq_some_iff.1 h
      obtain ⟨l, hl, h⟩ := Option.bind_eq_some_iff.1 h
      obtain ⟨q, hq, h⟩ := Option.bind_eq_some_iff.1 h
      cases h
      obtain ⟨hb, hle, hpc⟩ := bounds2_run (P := P) hlo hhi hlc hlc hp hl true w
      obtain ⟨rfl, hn⟩ := none_cut hq
      exact ⟨_, run _ len c l p c hb, .islice0 _ hn (by omega)⟩
    | some hvm =>
      simp only [cond_true, isliceV3] at h
      obtain ⟨m, hm, h⟩ := Option.bind_eq_some_iff.1 h
      obtain ⟨p, hp, h⟩ := Option.bind_eq_some_iff.1 h
      obtain ⟨l, hl, h⟩ := Option.bind_eq_some_iff.1 h
      obtain ⟨hb, hle, hpm, hmm⟩ := bounds3_run (P := P) hlo hhi hvm (len := len) hlc hm hp hl true w
      refine ⟨_, run _ len c l p m hb, ?_⟩
      cases hml : Nat.beq m l with
      | true =>
        rw [hml] at h; cases h
        have : m = l := Nat.eq_of_beq_eq_true hml
        subst this
        have hpl : p - m = 0 := by omega
        simp only [if_true, hpl, Nat.sub_self]
        exact .islice0 _ (Nat.zero_mul _) (Nat.zero_le _)
      | false =>
        rw [hml] at h
        obtain ⟨q, hq, h⟩ := Option.bind_eq_some_iff.1 h
        cases h
        obtain ⟨rfl, hn⟩ := none_cut hq
        exact .islice0 _ hn (by omega)
  | islice hl0 hm0 ha hv0 hcl hcs hlc =>
    rename_i blk off len sz' c cl cs ms vs
    simp only [sliceSlV] at h
    cases hsz' : Nat.beq sz' sz with
    | false => rw [hsz'] at h; cases h
    | true =>
    rw [hsz'] at h
    have : sz' = sz := Nat.eq_of_beq_eq_true hsz'
    subst this
    have made : ∀ {l p m : Nat} {q : List AV}, cut cs (l * sz') ((p - l) * sz') = some q → l ≤ p → p ≤ m →
        VR C (.islice q (p - l) sz' cl) (.slice (if m = l then some (⟨blk, off, none⟩ : Addr) else Option.map (fun x : Addr => x.add (l * sz')) (some (⟨blk, off, none⟩ : Addr))) (p - l) (m - l)) := by
      intro l p m q hq h1 h2
      obtain ⟨y, hy, hyd, hql, hcq, _, hat⟩ := hv0.cut hq
      by_cases h0 : (p - l) * sz' = 0
      · have : q = [] := List.eq_nil_of_length_eq_zero (by omega)
        subst this
        exact .islice0 _ h0 (by omega)
      · have hne : m ≠ l := by
          intro e
          have : p - l = 0 := by omega
          rw [this] at h0; simp at h0
        simp only [hne, if_false, Option.map_some, add_none]
        refine .islice hql hm0 (vs := y) ?_ hy ?_ (hcq hcs) (by omega)
        · obtain ⟨p1, q1, e1, e2⟩ := ha
          obtain ⟨p2, q2, e3, e4⟩ := hat
          exact ⟨p1 ++ p2, q2 ++ q1, by rw [e1, e3]; simp, by simp [e2, e4]⟩
        · intro hct
          obtain ⟨y', hy', hyd', _⟩ := (hcl hct).cut hq
          rw [hyd, ← hyd']; exact hy'
    cases hmx with
    | none =>
      simp only [cond_true, isliceV3, isliceV] at h
      obtain ⟨p, hp, h⟩ := Option.bind_eq_some_iff.1 h
      obtain ⟨l, hl, h⟩ := Option.bind_eq_some_iff.1 h
      obtain ⟨q, hq, h⟩ := Option.bind_eq_some_iff.1 h
      cases h
      obtain ⟨hb, hle, hpc⟩ := bounds2_run (P := P) hlo hhi hlc hlc hp hl true w
      exact ⟨_, run _ len c l p c hb, made hq hle hpc⟩
    | some hvm =>
      simp only [cond_true, isliceV3] at h
      obtain ⟨m, hm, h⟩ := Option.bind_eq_some_iff.1 h
      obtain ⟨p, hp, h⟩ := Option.bind_eq_some_iff.1 h
      obtain ⟨l, hl, h⟩ := Option.bind_eq_some_iff.1 h
      obtain ⟨hb, hle, hpm, hmm⟩ := bounds3_run (P := P) hlo hhi hvm (len := len) hlc hm hp hl true w
      refine ⟨_, run _ len c l p m hb, ?_⟩
      cases hml : Nat.beq m l with
      | true =>
        rw [hml, cond_true] at h
        have : m = l := Nat.eq_of_beq_eq_true hml
        subst this
        have hpl : p - m = 0 := by omega
        simp only [if_true, hpl, Nat.sub_self]
        cases hcs0 : cs with
        | nil =>
          rw [hcs0] at h; cases h
          exact .islice0 _ (Nat.zero_mul _) (Nat.zero_le _)
        | cons c0 cs0 =>
          rw [hcs0] at h; cases h
          exact .nilslice _ (by simpa using AtX.some (a := ⟨blk, off, none⟩) (hS.knownM _ _ hm0))
      | false =>
        rw [hml] at h
        obtain ⟨q, hq, h⟩ := Option.bind_eq_some_iff.1 h
        cases h
        exact made hq hle hpm
  | _ => simp [sliceSlV] at h
end
end Am

/- The abstract machine: its operations are the model's (10): slicing, lengths, conversions. -/
namespace Am
open Go

section
variable {E : Env} {P : Program}

theorem extract_list {s : ByteArray} {l h : Nat} {q : List UInt8} (hq : cut s.data.toList l (h - l) = some q) (hlh : l ≤ h) : (s.extract l h).data.toList = q := by
  obtain ⟨pre, post, h1, h2, h3⟩ := cut_some hq
  have hs : s.data.toList.length = s.data.size := by simp
  have hle : h ≤ s.data.size := by
    have := congrArg List.length h1
    simp only [List.length_append] at this
    omega
  have : (s.extract l h).data = s.data.extract l h := by simp [ByteArray.data_extract]
  rw [this]
  rw [Array.toList_extract, h1, List.extract_eq_take_drop, ← h3, ← h2]
  simp

variable (he : EnvOk E P)
include he

theorem ok_slice {o : Oper} {t : TypeId} {x : Operand} {lo hi mx : Option Operand} (ho : o.op = .slice t x lo hi mx) : SOk E P o (sliceC E t x lo hi mx) := by
  have hex : ∀ ρ, execOp ρ o = (do pure (.value (← Instr.sliceAt t (ρ x) (lo.map ρ) (hi.map ρ) (mx.map ρ)))) := fun ρ => by simp [execOp, ho]
  unfold sliceC
  split
  · next hu =>
    split
    · intro C T a S w hg hT hS v h
      obtain ⟨u, hu', h⟩ := Option.bind_eq_some_iff.1 h
      obtain ⟨l, hl, h⟩ := Option.bind_eq_some_iff.1 h
      obtain ⟨hh, hhh, h⟩ := Option.bind_eq_some_iff.1 h
      have hv := opnd_ok hg hT hu'
      rw [hex]
      generalize a.eval x = xv at hv
      cases hv with
      | @str _ q s hs =>
        simp only [sliceStrV] at h
        obtain ⟨h1, hp1, h⟩ := Option.bind_eq_some_iff.1 h
        obtain ⟨l1, hp2, h⟩ := Option.bind_eq_some_iff.1 h
        obtain ⟨r, hr, h⟩ := Option.bind_eq_some_iff.1 h
        cases h
        rw [← hs] at hp1 hr
        have hlen : len' s.data.toList = s.size := by simp
        rw [hlen] at hp1
        obtain ⟨hb, hle, _⟩ := bounds2_run (P := P) (opndO_ok hg hT hl) (opndO_ok hg hT hhh) (Nat.le_refl s.size) (Nat.le_refl s.size) hp1 hp2 false w
        refine ⟨.string (s.extract l1 h1), ?_, .str (extract_list hr hle)⟩
        simp [Instr.sliceAt, Instr.slice, run_und he hu, hb]
      | _ => simp [sliceStrV] at h
    · exact SOk.bad
  · next e hu =>
    split
    · next sz hsz =>
      intro C T a S w hg hT hS v h
      obtain ⟨u, hu', h⟩ := Option.bind_eq_some_iff.1 h
      obtain ⟨l, hl, h⟩ := Option.bind_eq_some_iff.1 h
      obtain ⟨hh, hhh, h⟩ := Option.bind_eq_some_iff.1 h
      obtain ⟨m, hm, h⟩ := Option.bind_eq_some_iff.1 h
      obtain ⟨z, hz, hzr⟩ := slice_ok (P := P) he hu hsz hS (opnd_ok hg hT hu') (opndO_ok hg hT hl) (opndO_ok hg hT hhh) (opndO_ok hg hT hm) h
      exact ⟨z, by rw [hex]; simp [hz], hzr⟩
    · exact SOk.bad
  · next n e hu =>
    split
    · next sz hsz =>
      intro C T a S w hg hT hS v h
      obtain ⟨u, hu', h⟩ := Option.bind_eq_some_iff.1 h
      obtain ⟨l, hl, h⟩ := Option.bind_eq_some_iff.1 h
      obtain ⟨hh, hhh, h⟩ := Option.bind_eq_some_iff.1 h
      have hv := opnd_ok hg hT hu'
      rw [hex]
      have run : ∀ (ad : Addr) (l' h' : Nat), (Instr.sliceBounds false n n (lo.map a.eval) (hi.map a.eval) none).run P w = .ok (l', h', n) w →
          (do pure (.value (← Instr.sliceAt t (.pointer (some ad)) (lo.map a.eval) (hi.map a.eval) (Option.map a.eval none))) : Sem Next).run P w =
            .ok (.value (.slice (some (if n = l' then ad else ad.add (l' * sz))) (h' - l') (n - l'))) w := by
        intro ad l' h' hb
        simp [Instr.sliceAt, run_und he hu, Instr.sureAddr, hb, run_size he hsz]
      generalize a.eval x = xv at hv
      cases hv with
      | ptr hd =>
        simp only [sliceArV] at h
        obtain ⟨h1, hp1, h⟩ := Option.bind_eq_some_iff.1 h
        obtain ⟨l1, hp2, h⟩ := Option.bind_eq_some_iff.1 h
        obtain ⟨hb, hle, hhn⟩ := bounds2_run (P := P) (opndO_ok hg hT hl) (opndO_ok hg hT hhh) (Nat.le_refl n) (Nat.le_refl n) hp1 hp2 false w
        refine ⟨_, run _ l1 h1 hb, ?_⟩
        cases hnl : Nat.beq n l1 with
        | true =>
          rw [hnl] at h; cases h
          have : n = l1 := Nat.eq_of_beq_eq_true hnl
          subst this
          have hpl : h1 - n = 0 := by omega
          rw [hpl, Nat.sub_self]
          exact .nilslice _ (.some (by simpa using hS.knownD _ hd))
        | false =>
          rw [hnl] at h; cases h
          have hne : n ≠ l1 := fun e => by subst e; simp at hnl
          simp only [hne, if_false, add_none, Nat.add_assoc]
          exact .slice hd ⟨rfl, by omega⟩ (by omega)
      | iptr hm ha hvs hcs =>
        simp only [sliceArV, isliceV] at h
        obtain ⟨h1, hp1, h⟩ := Option.bind_eq_some_iff.1 h
        obtain ⟨l1, hp2, h⟩ := Option.bind_eq_some_iff.1 h
        obtain ⟨q, hq, h⟩ := Option.bind_eq_some_iff.1 h
        cases h
        obtain ⟨hb, hle, hhn⟩ := bounds2_run (P := P) (opndO_ok hg hT hl) (opndO_ok hg hT hhh) (Nat.le_refl n) (Nat.le_refl n) hp1 hp2 false w
        refine ⟨_, run _ l1 h1 hb, ?_⟩
        obtain ⟨y, hy, hyd, hql, hcq, _, hat⟩ := hvs.cut hq
        by_cases h0 : (h1 - l1) * sz = 0
        · have : q = [] := List.eq_nil_of_length_eq_zero (by omega)
          subst this
          exact .islice0 _ h0 (by omega)
        · have hne : n ≠ l1 := by
            intro e
            have : h1 - l1 = 0 := by omega
            rw [this] at h0; simp at h0
          simp only [hne, if_false, add_none]
          refine .islice hql hm (vs := y) ?_ hy (fun e => by cases e) (hcq hcs) (by omega)
          obtain ⟨p1, q1, e1, e2⟩ := ha
          obtain ⟨p2, q2, e3, e4⟩ := hat
          exact ⟨p1 ++ p2, q2 ++ q1, by rw [e1, e3]; simp, by simp [e2, e4]⟩
      | _ => simp [sliceArV] at h
    · exact SOk.bad
  · exact SOk.bad

/-! ### Lengths -/

omit he in
theorem EntsR.length {C : Cx} {b : Nat} {l : List Ent} {es : List MapEntry} (h : EntsR C b l es) : es.length = l.length := by
  induction h with
  | nil => rfl
  | cons _ _ _ _ _ ih => simp [ih]

omit he in
theorem run_getObj {w : World} {r : Nat} {x : Obj} (h : w.heap[r]? = some x) (hc : ∀ c e f, x ≠ .cells c e f) : (getObj r).run P w = .ok x w := by
  simp only [getObj, Sem.run, h]

omit he in
/-- A map of the machine's, in memory. -/
structure MapR (C : Cx) (b : Nat) (es : List Ent) (clock : Nat) (w : World) (arr : Array MapEntry) (l : List MapEntry) : Prop where
  d : C.D b
  at_ : w.heap[(C.pl b).blk]? = some (.map arr clock)
  perm : l.Perm arr.toList
  ents : EntsR C b es l
  keys : Keys es
  nodup : (l.map (·.born)).Nodup
  ghs : ∀ n, C.G b n → C.gh b n < clock
  stamps : ∀ n, C.G b n → n < clock
  inj : ∀ n m, C.G b n → C.G b m → C.gh b n = C.gh b m → n = m

omit he in
theorem StR.map {C : Cx} {S : St} {w : World} (h : StR C S w) {b : Nat} {es : List Ent} {clock : Nat} (hb : S.heap.get b = some (.map es clock)) : ∃ arr l, MapR C b es clock w arr l := by
  obtain ⟨hd, x, hx, hr⟩ := h.live b _ hb
  cases hr with
  | map hp h hk hn hc hg hi => exact ⟨_, _, hd, hx, hp, h, hk, hn, hc, hg, hi⟩

omit he in
theorem EntsR.born_lt {C : Cx} {b : Nat} {l : List Ent} {es : List MapEntry} (h : EntsR C b l es) {n : Nat} (hh : ∀ k, C.G b k → C.gh b k < n) : ∀ e ∈ es, e.born < n := by
  induction h with
  | nil => simp
  | cons hk hv hg hn _ ih =>
    intro e he
    rcases List.mem_cons.1 he with rfl | he
    · rw [hn]; exact hh _ hg
    · exact ih e he

theorem ok_len {o : Oper} {c : Call} {t : TypeId} {x : Operand} (ho : o.op = .call c) (hc : c.callee = .builtin .len) (hts : c.argTypes.toList.head? = some t) (hxs : c.args.toList = [x]) :
    SOk E P o (lenC E t x) := by
  have hargs : c.args = #[x] := Array.ext' (by simpa using hxs)
  have ht0 : c.argTypes[0]? = some t := by rw [← hts, List.head?_eq_getElem?]; simp
  have hex : ∀ ρ, execOp ρ o = (do pure (.value (← Builtin.len_ c.argTypes o.type #[ρ x]))) := by
    intro ρ
    simp [execOp, ho, resolve, hc, hargs, invoke, builtin]
  unfold lenC
  split
  · next hu =>
    refine SOk.pure1 (G := fun v => Builtin.len_ c.argTypes o.type #[v]) hex ?_
    intro C w v y r hv hr
    cases hv with
    | @str _ q s hs =>
      cases hr
      refine ⟨goInt s.size, by simp [Builtin.len_, ht0, run_und he hu], ?_⟩
      rw [← hs]
      have : ((len' s.data.toList : Nat) : Int) = (s.size : Int) := by simp
      rw [this]
      exact .int _ _
    | _ => simp [lenStr] at hr
  · next e hu =>
    refine SOk.pure1 (G := fun v => Builtin.len_ c.argTypes o.type #[v]) hex ?_
    intro C w v y r hv hr
    cases hv <;> simp only [lenSl] at hr <;> first | (cases hr; done) | skip
    all_goals
      cases hr
      exact ⟨_, by simp [Builtin.len_, ht0, run_und he hu]; rfl, .int _ _⟩
  · next n e hu =>
    refine SOk.pure1 (G := fun v => Builtin.len_ c.argTypes o.type #[v]) (f := fun _ => some (.int .i64 n)) hex ?_
    intro C w v y r hv hr
    cases hr
    exact ⟨_, by simp [Builtin.len_, ht0, run_und he hu]; rfl, .int _ _⟩
  · next k e hu =>
    refine SOk.read1 (G := fun v => Builtin.len_ c.argTypes o.type #[v]) hex ?_
    intro C S w v y r hS hv hr
    simp only [lenMap] at hr
    obtain ⟨es, hes, hr⟩ := Option.bind_eq_some_iff.1 hr
    cases hr
    cases hv with
    | nilmap => cases hes; exact ⟨_, by simp [Builtin.len_, ht0, run_und he hu]; rfl, .int _ _⟩
    | map hd =>
      simp only [entsOf] at hes
      obtain ⟨cl, hm⟩ := mapOf?_some hes
      obtain ⟨arr, l, hmr⟩ := hS.map hm
      have hx := hmr.at_
      have hp := hmr.perm
      have hents := hmr.ents
      refine ⟨goInt arr.size, by simp [Builtin.len_, ht0, run_und he hu, run_getObj hx (by intros; simp)], ?_⟩
      have : ((len' es : Nat) : Int) = (arr.size : Int) := by
        have h1 := hents.length
        have h2 := hp.length_eq
        simp only [Array.length_toList] at h2
        simp only [len'_eq]; omega
      rw [this]
      exact .int _ _
    | _ => simp [entsOf] at hes
  · next a hu =>
    split
    · next n e hu2 =>
      refine SOk.pure1 (G := fun v => Builtin.len_ c.argTypes o.type #[v]) (f := fun _ => some (.int .i64 n)) hex ?_
      intro C w v y r hv hr
      cases hr
      exact ⟨_, by simp [Builtin.len_, ht0, run_und he hu, run_und he hu2]; rfl, .int _ _⟩
    · exact SOk.bad
  · exact SOk.bad

theorem ok_cap {o : Oper} {c : Call} {t : TypeId} {x : Operand} (ho : o.op = .call c) (hc : c.callee = .builtin .cap) (hts : c.argTypes.toList.head? = some t) (hxs : c.args.toList = [x]) :
    SOk E P o (capC E t x) := by
  have hargs : c.args = #[x] := Array.ext' (by simpa using hxs)
  have ht0 : c.argTypes[0]? = some t := by rw [← hts, List.head?_eq_getElem?]; simp
  have hex : ∀ ρ, execOp ρ o = (do pure (.value (← Builtin.cap_ c.argTypes o.type #[ρ x]))) := by
    intro ρ
    simp [execOp, ho, resolve, hc, hargs, invoke, builtin]
  unfold capC
  split
  · next e hu =>
    refine SOk.pure1 (G := fun v => Builtin.cap_ c.argTypes o.type #[v]) hex ?_
    intro C w v y r hv hr
    cases hv with
    | nilslice a hxx => cases hr; exact ⟨_, by simp [Builtin.cap_, ht0, run_und he hu]; rfl, .int _ _⟩
    | @slice _ b off len sz cap k hd hcap hlc =>
      cases cap with
      | none => simp [capV] at hr
      | some n =>
        obtain ⟨rfl, h0⟩ := hcap
        cases k with
        | zero => omega
        | succ k => cases hr; exact ⟨_, by simp [Builtin.cap_, ht0, run_und he hu]; rfl, .int _ _⟩
    | slice0 hxx hd hcap => simp [capV] at hr
    | _ => simp [capV] at hr
  · exact SOk.bad
end
end Am

/- The abstract machine: its operations are the model's (11): conversions. -/
namespace Am
open Go

section
variable {E : Env} {P : Program} (he : EnvOk E P)

theorem byteCells_ok {C : Cx} : ∀ (l : List UInt8), VRs C (byteCells l) (l.map fun b => .int .u8 b.toNat) ∧ Cells (byteCells l) ∧ (byteCells l).length = l.length
  | [] => ⟨.nil, (fun _ h => by cases h), rfl⟩
  | c :: l => by
    obtain ⟨h1, h2, h3⟩ := byteCells_ok (C := C) l
    refine ⟨.cons (.int _ _) h1, fun v hv => ?_, by simp [byteCells, h3]⟩
    rcases List.mem_cons.1 hv with rfl | hv
    · rfl
    · exact h2 v hv

theorem bytesOfCells_ok {C : Cx} : ∀ {cs : List AV} {vs : List Value} {r : List UInt8}, VRs C cs vs → bytesOfCells cs = some r →
    ∃ ns : List Int, vs = ns.map (.int .u8) ∧ r = ns.map fun n => UInt8.ofNat n.toNat
  | [], vs, r, h, e => by cases h; cases e; exact ⟨[], rfl, rfl⟩
  | v :: cs, vs, r, h, e => by
    cases h with
    | cons hv ht =>
    cases hv with
    | int k n =>
      cases k <;> simp only [bytesOfCells] at e <;> try (cases e; done)
      obtain ⟨q, hq, e1⟩ := Option.bind_eq_some_iff.1 e
      cases e1
      obtain ⟨ns, h1, h2⟩ := bytesOfCells_ok ht hq
      exact ⟨n :: ns, by simp [h1], by simp [h2]⟩
    | _ => simp [bytesOfCells] at e

include he

theorem isByte_und {e : TypeId} (h : isByte E e = true) : und E e = some (.int .u8) := by
  unfold isByte at h
  split at h
  · next hu => exact hu
  · cases h

omit he in
theorem here_nil {w : World} (a : Addr) : Here w a [] := fun j v h => by simp at h

omit he in
/-- The cells of a slice. -/
theorem sliceCells_ok {C : Cx} {S : St} {w : World} (hS : StR C S w) {v : AV} {x : Value} (hv : VR C v x) {sz : Nat} {p : List AV × Nat} (e : sliceCells S sz v = some p) :
    ∃ a c vs, x = .slice a p.2 c ∧ VRs C p.1 vs ∧ Cells p.1 ∧ vs.length = p.2 * sz ∧ (∀ ad, a = some ad → Here w ad vs) ∧ (a = none → vs = []) := by
  cases hv with
  | nilslice a hxx => cases e; exact ⟨a, 0, [], rfl, .nil, (fun _ h => by cases h), by simp, fun ad _ => here_nil ad, fun _ => rfl⟩
  | islice0 a h0 hlc =>
    rename_i sz' cl len c
    simp only [sliceCells] at e
    cases hs : Nat.beq sz' sz with
    | false => rw [hs] at e; cases e
    | true =>
      rw [hs] at e
      obtain ⟨l, hl, e1⟩ := Option.bind_eq_some_iff.1 e
      cases e1
      have : sz' = sz := Nat.eq_of_beq_eq_true hs
      subst this
      rw [h0] at hl
      cases hl
      exact ⟨a, c, [], rfl, .nil, (fun _ h => by cases h), by simp [h0], fun ad _ => here_nil ad, fun _ => rfl⟩
  | islice hl hm ha hvs hcl hcs hlc =>
    rename_i blk off len sz' c cl cs ms vs
    simp only [sliceCells] at e
    cases hs : Nat.beq sz' sz with
    | false => rw [hs] at e; cases e
    | true =>
      rw [hs] at e
      obtain ⟨l, hl1, e1⟩ := Option.bind_eq_some_iff.1 e
      cases e1
      have : sz' = sz := Nat.eq_of_beq_eq_true hs
      subst this
      obtain ⟨post, rfl, hll⟩ := takeN_some hl1
      obtain ⟨y, z, rfl, h1, h2⟩ := VRs.split hvs
      obtain ⟨cc, ty, fr, hx, rfl⟩ := hS.imm _ _ hm
      exact ⟨_, c, y, rfl, h1, hcs.sub.1, h1.length.trans hll, (fun ad had => by cases had; exact here_of hx ha.left), (fun h => by cases h)⟩
  | slice hd hc hlc =>
    rename_i b off len sz' cap c
    simp only [sliceCells] at e
    cases hs : Nat.beq sz' sz with
    | false => rw [hs] at e; cases e
    | true =>
      rw [hs] at e
      obtain ⟨cs, hcs, e1⟩ := Option.bind_eq_some_iff.1 e
      obtain ⟨q, hq, e2⟩ := Option.bind_eq_some_iff.1 e1
      obtain ⟨l, hl1, e3⟩ := Option.bind_eq_some_iff.1 e2
      cases e3
      have : sz' = sz := Nat.eq_of_beq_eq_true hs
      subst this
      obtain ⟨pre, rfl, hp⟩ := dropN_some hq
      obtain ⟨post, rfl, hll⟩ := takeN_some hl1
      obtain ⟨_, cc, ty, fr, vs, hx, hvs, ha, hsz, hcc, _⟩ := hS.cells hcs
      obtain ⟨y, z, rfl, h1, h2⟩ := VRs.split hvs
      obtain ⟨z1, z2, rfl, h3, h4⟩ := VRs.split h2
      refine ⟨_, c, z1, rfl, h3, (hcc.sub.2).sub.1, h3.length.trans hll, (fun ad had => ?_), (fun h => by cases h)⟩
      cases had
      refine here_of hx ?_
      have := ha.sub (a := y) (b := z1) (c := z2) (by simp)
      rw [h1.length, hp] at this
      exact this
  | slice0 hxx hd hc =>
    rename_i b off sz' a c
    simp only [sliceCells] at e
    cases hs : Nat.beq sz' sz with
    | false => rw [hs] at e; cases e
    | true =>
      rw [hs] at e
      obtain ⟨cs, hcs, e1⟩ := Option.bind_eq_some_iff.1 e
      obtain ⟨q, hq, e2⟩ := Option.bind_eq_some_iff.1 e1
      obtain ⟨l, hl1, e3⟩ := Option.bind_eq_some_iff.1 e2
      cases e3
      rw [Nat.zero_mul] at hl1
      cases hl1
      exact ⟨_, c, [], rfl, .nil, (fun _ h => by cases h), by simp, fun ad _ => here_nil ad, fun _ => rfl⟩
  | _ => simp [sliceCells] at e

omit he in
theorem foldl_push (ns : List Int) (s : ByteArray) : (ns.foldl (fun r n => r.push (UInt8.ofNat n.toNat)) s).data.toList = s.data.toList ++ ns.map fun n => UInt8.ofNat n.toNat := by
  induction ns generalizing s with
  | nil => simp
  | cons n ns ih => rw [List.foldl_cons, ih]; simp

theorem bytesStr_ok {src dst e : TypeId} (h1 : und E src = some (.slice e)) (h2 : und E dst = some .string) (h3 : isByte E e = true) {C : Cx} {S : St} {w : World} (hS : StR C S w) {v r : AV} {x : Value}
    (hv : VR C v x) (h : bytesStr S v = some r) : ∃ z, (convert src dst x).run P w = .ok z w ∧ VR C r z := by
  simp only [bytesStr] at h
  obtain ⟨p, hp, h⟩ := Option.bind_eq_some_iff.1 h
  obtain ⟨q, hq, h⟩ := Option.bind_eq_some_iff.1 h
  cases h
  obtain ⟨a, c, vs, rfl, hvs, _, hlen, hhere, hnone⟩ := sliceCells_ok hS hv hp
  obtain ⟨ns, hns, rfl⟩ := bytesOfCells_ok hvs hq
  rw [run_convert_bytes_string w src dst e a p.2 c (und_ok he h1) (und_ok he (isByte_und he h3)) (und_ok he h2)]
  cases a with
  | none =>
    have h0 := hnone rfl
    rw [hns] at h0
    have : ns = [] := by simpa using h0
    subst this
    exact ⟨.string .empty, rfl, .str rfl⟩
  | some ad =>
    have hl := run_cells (P := P) (hhere ad rfl) p.2 (by simpa using hlen)
    rw [hns] at hl
    exact ⟨_, run_bytesToString w ad p.2 c ns hl, .str (by rw [foldl_push]; rfl)⟩

theorem strBytes_ok {src dst e : TypeId} (h1 : und E src = some .string) (h2 : und E dst = some (.slice e)) (h3 : isByte E e = true) {C : Cx} {S : St} {w : World} (hS : StR C S w) {v : AV} {x : Value}
    (hv : VR C v x) {ob : AObj} {g : Nat → AV} (h : strBytes e v = some (.obj ob g)) :
    ∃ C' z w', (convert src dst x).run P w = .ok z w' ∧ Tran C S w C' (S.alloc ob) w' ∧ VR C' (g S.next) z := by
  cases hv with
  | @str _ l s hs =>
    cases h
    obtain ⟨b1, b2, b3⟩ := byteCells_ok (C := C) l
    let q := Question.appendCap s.size 0 e
    let cap := q.cut (w.tape w.drawn q)
    have hcap : s.size ≤ cap := Nat.le_add_right _ _
    let arr : Array Value := (s.data.map fun b => .int .u8 b.toNat) ++ Array.replicate (cap - s.size) (.int .u8 0)
    have hlen : l.length = s.size := by rw [← hs]; simp
    have hrow : bytesRow s cap = arr := rfl
    have harr : arr.size = cap := by
      simp only [arr, Array.size_append, Array.size_map, Array.size_replicate]
      have : s.data.size = s.size := rfl
      omega
    have hlist : arr.toList = (l.map fun b => Value.int .u8 b.toNat) ++ (List.replicate (cap - s.size) (.int .u8 0)) := by
      simp [arr, ← hs]
    have hw1 := Tran.drew hS (w.drawn + 1)
    have hal := Tran.alloc (hw1.st) (.cells (byteCells l) e true) (.cells arr e (cap, cap + 1)) cap (by
      refine .cells (b1.mono (fresh_ext hw1.st _)) ?_ ?_ b2 (.inl (by rw [harr]; exact Nat.le_refl _)) (fun h => by cases h)
      · rw [Cx.pl_new, hlist]; exact ⟨[], List.replicate (cap - s.size) (.int .u8 0), by simp, rfl⟩
      · rw [Cx.pl_new]; exact harr)
    refine ⟨_, .slice (some ⟨w.heap.size, 0, none⟩) s.size cap, _, ?_, hw1.trans hal, ?_⟩
    · rw [run_bytes_of_string w src dst e s (und_ok he h1) (und_ok he h2) (und_ok he (isByte_und he h3))]
      show Result.ok (Value.slice _ s.size cap) (w.drew.alloc (.cells (bytesRow s cap) e ((bytesRow s cap).size, (bytesRow s cap).size + 1))) = _
      rw [hrow, harr]
      rfl
    · have := fresh_slice (C := C) (S := S) (w := { w with drawn := w.drawn + 1 }) (n := cap) (len := s.size) (sz := 1) (cap := none) (c := cap) ⟨by simp, Nat.one_pos⟩ hcap
      show VR _ (.slice S.next 0 (len' l) 1 none) _
      rw [len'_eq, hlen]
      exact this
  | _ => simp [strBytes] at h

omit he in
theorem conv_exec {o : Oper} {src dst : TypeId} {x : Operand} (ho : o.op = .convert src dst x) : ∀ ρ, execOp ρ o = (do pure (.value (← convert src dst (ρ x)))) := by
  intro ρ; simp [execOp, ho]

theorem ok_convInt {o : Oper} {src dst : TypeId} {x : Operand} (ho : o.op = .convert src dst x) {j k : IntKind} (h1 : und E src = some (.int j)) (h2 : und E dst = some (.int k)) :
    SOk E P o (.pure fun T => (opnd E x T).bind (intToV k)) := by
  refine SOk.pure1 (conv_exec ho) ?_
  intro C w v y r hv hr
  cases hv with
  | int q n => cases hr; exact ⟨_, by simp [convert, run_und he h1, run_und he h2, Conv.intToInt], .int _ _⟩
  | _ => simp [intToV] at hr

theorem ok_convStr {o : Oper} {src dst : TypeId} {x : Operand} (ho : o.op = .convert src dst x) (h1 : und E src = some .string) (h2 : und E dst = some .string) :
    SOk E P o (.pure fun T => (opnd E x T).bind strToV) := by
  refine SOk.pure1 (conv_exec ho) ?_
  intro C w v y r hv hr
  cases hv with
  | str hs => cases hr; exact ⟨_, by simp [convert, run_und he h1, run_und he h2], .str hs⟩
  | _ => simp [strToV] at hr

/-- A pointer seen as a bare one. -/
theorem toUnsafe_ok {src dst t : TypeId} {n : Nat} (h1 : und E src = some (.pointer t)) (h2 : und E dst = some .unsafePointer) (hs : Am.sizeOf E t = some (n + 1)) {C : Cx} {S : St} {w : World} (hS : StR C S w)
    {v r : AV} {x : Value} (hv : VR C v x) (h : toUnsafe S v = some r) : ∃ z, (convert src dst x).run P w = .ok z w ∧ VR C r z := by
  cases hv with
  | nilptr =>
    cases h
    exact ⟨_, by simp [convert, run_und he h1, run_und he h2, Conv.unsafePointer], .nilptr⟩
  | @ptr _ b off hd =>
    simp only [toUnsafe] at h
    obtain ⟨cs, hcs, h⟩ := Option.bind_eq_some_iff.1 h
    cases hb : Nat.blt off (len' cs) with
    | false => rw [hb] at h; cases h
    | true =>
      rw [hb] at h; cases h
      have hlt : off < cs.length := by simpa [Nat.blt_eq] using hb
      obtain ⟨_, c, ty, fr, vs, hx, hvs, ha, hsz, _, _⟩ := hS.cells hcs
      have hle := ha.le
      have e1 := hvs.length
      simp only [Array.length_toList] at hle
      have hnot : ¬ (c.size ≤ (C.pl b).base + off) := by omega
      have hsh : w.shape? (C.pl b).blk = some (ty, c.size) := by simp [World.shape?, hx]
      refine ⟨_, ?_, .ptr hd⟩
      simp [convert, run_und he h1, run_und he h2, Conv.unsafePointer, Conv.seenAt, viewAt, cellsIn, hsh, run_size he hs, hnot]
  | _ => simp [toUnsafe] at h

omit he in
theorem fieldHere_mem {u off : Nat} : ∀ {fs : List Field}, fieldHere u off fs = true → ∃ f ∈ fs, f.offset = off ∧ f.type = u
  | [], h => by cases h
  | f :: l, h => by
    simp only [fieldHere, Bool.or_eq_true, Bool.and_eq_true] at h
    rcases h with ⟨h1, h2⟩ | h
    · exact ⟨f, List.mem_cons_self .., Nat.eq_of_beq_eq_true h1, Nat.eq_of_beq_eq_true h2⟩
    · obtain ⟨g, hg, h⟩ := fieldHere_mem h
      exact ⟨g, List.mem_cons_of_mem _ hg, h⟩

theorem cellsOf_ok {t : TypeId} {n : Nat} (h : Am.sizeOf E t = some n) : P.cellsOf t = n := by
  unfold Am.sizeOf at h
  cases hi : E.tys.get t with
  | none => rw [hi] at h; cases h
  | some i => rw [hi] at h; simp [Program.cellsOf, he.ty t i hi, Option.some.inj h]

theorem lies_ok {e u off n m k : Nat} (hn : Am.sizeOf E e = some n) (hm : Am.sizeOf E u = some (m + 1)) (h : holdsT E e u off = true) (hk : n ≤ k) (ho : off < n) :
    liesAt P P.depth e (k / P.cellsOf e) off u 1 = true := by
  have hdep : ∃ q, P.depth = q + 2 := ⟨_, rfl⟩
  obtain ⟨q, hq⟩ := hdep
  have hc := cellsOf_ok (P := P) he hn
  have hcu := cellsOf_ok (P := P) he hm
  have hsame : ∀ t d, sameLayout P (d + 1) t t = true := fun t d => by simp [sameLayout]
  have hcount : 0 < k / n := Nat.div_pos hk (by omega)
  rw [hc]
  rw [hq, liesAt]
  refine Bool.or_eq_true_iff.2 (.inl ?_)
  rw [hq, rowAt, hc]
  have hn0 : n ≠ 0 := by omega
  have hmod : off % n = off := Nat.mod_eq_of_lt ho
  have hdiv : off / n = 0 := Nat.div_eq_of_lt ho
  simp only [hn0, if_false, hmod, hdiv]
  unfold holdsT at h
  rcases Bool.or_eq_true_iff.1 h with h | h
  · simp only [Bool.and_eq_true] at h
    have e1 : e = u := Nat.eq_of_beq_eq_true h.1
    have e2 : off = 0 := Nat.eq_of_beq_eq_true h.2
    subst e1; subst e2
    simp [hsame]; left; omega
  · rw [Bool.and_eq_true] at h
    obtain ⟨hnest, h⟩ := h
    split at h
    · next fs hu =>
      obtain ⟨f, hf, h1, h2⟩ := fieldHere_mem h
      refine Bool.or_eq_true_iff.2 (.inr ?_)
      simp only [und_ok he hu, he.flat e hnest]
      simp only [Bool.and_eq_true, decide_eq_true_eq, Bool.not_false, true_and]
      refine ⟨hcount, ?_⟩
      rw [← Array.any_toList, List.any_eq_true]
      refine ⟨f, hf, ?_⟩
      subst h1; subst h2
      simp [rowAt, hcu, hsame]
    · cases h

/-- A bare pointer turned back. -/
theorem fromUnsafe_ok {src dst u : TypeId} {m : Nat} (h1 : und E src = some .unsafePointer) (h2 : und E dst = some (.pointer u)) (hs : Am.sizeOf E u = some (m + 1)) {C : Cx} {S : St} {w : World} (hS : StR C S w)
    {v r : AV} {x : Value} (hv : VR C v x) (h : fromUnsafe E S u v = some r) : ∃ z, (convert src dst x).run P w = .ok z w ∧ VR C r z := by
  cases hv with
  | nilptr =>
    cases h
    exact ⟨_, by simp [convert, run_und he h1, run_und he h2, Conv.unsafePointer], .nilptr⟩
  | @ptr _ b off hd =>
    simp only [fromUnsafe] at h
    unfold fromUnsafeIn at h
    split at h
    · next cs e hob =>
      obtain ⟨n, hn, h⟩ := Option.bind_eq_some_iff.1 h
      cases hb : (holdsT E e u off && Nat.ble n (len' cs) && Nat.blt off n) with
      | false => rw [hb] at h; cases h
      | true =>
        rw [hb] at h; cases h
        simp only [Bool.and_eq_true] at hb
        obtain ⟨⟨b1, b2⟩, b3⟩ := hb
        obtain ⟨_, xo, hx, hr⟩ := hS.live b _ hob
        cases hr with
        | cells hvs ha hsz hcs hf hp =>
        rename_i c fr vs
        obtain ⟨p1, p2, p3⟩ := hp rfl
        have hlies := lies_ok (P := P) (k := c.size) he hn hs b1 (by have := Nat.le_of_ble_eq_true b2; simp only [len'_eq] at this; omega) (by simpa [Nat.blt_eq] using b3)
        have hsh : w.shape? (C.pl b).blk = some (e, c.size) := by simp [World.shape?, hx]
        refine ⟨_, ?_, .ptr hd⟩
        rw [p1, Nat.zero_add]
        simp [convert, run_und he h1, run_und he h2, Conv.unsafePointer, Conv.seenAt, viewAt, variablesAt, hsh, run_size he hs, hlies]
    · cases h
  | _ => simp [fromUnsafe] at h

theorem ok_conv {o : Oper} {src dst : TypeId} {x : Operand} (ho : o.op = .convert src dst x) : SOk E P o (convC E src dst x) := by
  unfold convC
  split
  · next j k h1 h2 => exact ok_convInt he ho h1 h2
  · next t h1 h2 =>
    split
    · next n hs => exact SOk.read1 (conv_exec ho) fun C S w v y r hS hv hr => toUnsafe_ok he h1 h2 hs hS hv hr
    · exact SOk.bad
  · next u h1 h2 =>
    split
    · next n hs => exact SOk.read1 (conv_exec ho) fun C S w v y r hS hv hr => fromUnsafe_ok he h1 h2 hs hS hv hr
    · exact SOk.bad
  · next h1 h2 => exact ok_convStr he ho h1 h2
  · next e h1 h2 =>
    cases hb : isByte E e with
    | false => exact SOk.bad
    | true =>
      intro C T a S w hg hT hS
      refine ⟨fun v h => ?_, fun ob g h => ?_⟩
      · obtain ⟨u, hu, h⟩ := Option.bind_eq_some_iff.1 h
        unfold strBytes at h
        split at h <;> cases h
      · obtain ⟨u, hu, h⟩ := Option.bind_eq_some_iff.1 h
        obtain ⟨C', z, w', hz, ht, hr⟩ := strBytes_ok (P := P) he h1 h2 hb hS (opnd_ok hg hT hu) h
        exact ⟨C', z, w', by rw [conv_exec ho]; simp [hz], ht, hr⟩
  · next e h1 h2 =>
    cases hb : isByte E e with
    | false => exact SOk.bad
    | true => exact SOk.read1 (conv_exec ho) fun C S w v y r hS hv hr => bytesStr_ok he h1 h2 hb hS hv hr
  · exact SOk.bad
end
end Am

/- The abstract machine: its operations are the model's (12): append. -/
namespace Am
open Go

theorem growBy_le (need : Nat) : ∀ (r c : Nat), Builtin.growBy need r c ≤ Nat.max c (2 * need + 192)
  | 0, c => Nat.le_max_left _ _
  | r + 1, c => by
    unfold Builtin.growBy
    split
    · exact Nat.le_max_left _ _
    · refine Nat.le_trans (growBy_le need r _) ?_
      refine Nat.max_le.2 ⟨?_, Nat.le_max_right _ _⟩
      exact Nat.le_trans (by omega) (Nat.le_max_right _ _)

theorem nextslicecap_le {need cap : Nat} (h : cap < need) : Builtin.nextslicecap need cap ≤ 2 * need + 512 := by
  unfold Builtin.nextslicecap
  split
  · omega
  · split
    · omega
    · refine Nat.le_trans (growBy_le need 4 cap) (Nat.max_le.2 ⟨by omega, by omega⟩)

theorem room_ok {need cap b : Nat} (h : cap < need) (hs : small need b = true) : ¬ (Builtin.nextslicecap need cap * b > 2 ^ 48) := by
  obtain ⟨h1, h2, h3, h4⟩ := small_spec hs
  have := Nat.mul_le_mul_right b (nextslicecap_le h)
  rw [Nat.add_mul, Nat.mul_assoc] at this
  omega

section
variable {E : Env} {P : Program}

theorem Here.heap {w w' : World} (h : w'.heap = w.heap) {a : Addr} {vs : List Value} (hh : Here w a vs) : Here w' a vs := by
  intro j v hv
  have := hh j v hv
  unfold World.cell? at this ⊢
  rw [h]; exact this

/-- The cells of a slice, as the model loads them. -/
theorem firstCells_ok {C : Cx} {S : St} {w : World} (hS : StR C S w) {v : AV} {x : Value} (hv : VR C v x) {sz : Nat} {p : List AV × Nat} (e : sliceCells S sz v = some p) :
    ∃ xs, (Builtin.lenOf x).run P w = .ok p.2 w ∧ VRs C p.1 xs ∧ Cells p.1 ∧ xs.length = p.2 * sz ∧ ∀ w', w'.heap = w.heap → (Builtin.firstCells sz p.2 x).run P w' = .ok xs.toArray w' := by
  obtain ⟨a, c, vs, rfl, hvs, hcs, hlen, hhere, hnone⟩ := sliceCells_ok hS hv e
  refine ⟨vs, rfl, hvs, hcs, hlen, fun w' hw => ?_⟩
  cases a with
  | none => rw [hnone rfl]; rfl
  | some ad => exact run_cells ((hhere ad rfl).heap hw) _ hlen

theorem appendedV_ok {C : Cx} {S : St} {w : World} (hS : StR C S w) {v : AV} {x : Value} (hv : VR C v x) {sz : Nat} {p : List AV × Nat} (e : appendedV S sz v = some p) :
    ∃ xs, (Builtin.lenOf x).run P w = .ok p.2 w ∧ VRs C p.1 xs ∧ Cells p.1 ∧ xs.length = p.2 * sz ∧ ∀ w', w'.heap = w.heap → (Builtin.firstCells sz p.2 x).run P w' = .ok xs.toArray w' := by
  unfold appendedV at e
  split at e
  · next b =>
    cases hb : Nat.beq sz 1 with
    | false => rw [hb] at e; cases e
    | true =>
      rw [hb] at e; cases e
      have : sz = 1 := Nat.eq_of_beq_eq_true hb
      subst this
      cases hv with
      | @str _ l s hs =>
      obtain ⟨b1, b2, b3⟩ := byteCells_ok (C := C) b
      refine ⟨_, ?_, b1, b2, by simp, fun w' _ => ?_⟩
      · simp [Builtin.lenOf, ← hs]
      · subst hs
        simp [Builtin.firstCells]
        apply Array.ext'
        simp
  · exact firstCells_ok hS hv e

variable (he : EnvOk E P)
include he

/-- Cells are stored, if there is memory. -/
def StoreTo (P : Program) (a : Option Addr) (off : Nat) (xs : List Value) (w w' : World) : Prop := match a with
  | some a => (storeCells (a.add off) xs).run P w = .ok () w'
  | none => w' = w

/-- What is appended fits: it is written behind what is there. -/
theorem run_append_fit {ts : Array TypeId} {ty t e : TypeId} {sz n len cap : Nat} {x : Value} {xs : List Value} {a : Option Addr} {w w' : World} (ht : ts[0]? = some t) (hu : und E t = some (.slice e))
    (hsz : Am.sizeOf E e = some sz) (hz : isZeros E (ts.toList.tail.head?) = false) (hl : (Builtin.lenOf x).run P w = .ok n w) (hf : (Builtin.firstCells sz n x).run P w = .ok xs.toArray w)
    (hfit : len + n ≤ cap) (hzs : ∀ u, ts[1]? = some u → ∃ d, und E u = some d) (hw : StoreTo P a (len * sz) xs w w') :
    (Builtin.append_ ts ty #[.slice a len cap, x]).run P w = .ok (.slice a (len + n) cap) w' := by
  have h1 : ts[1]? = ts.toList.tail.head? := by simp [List.head?_eq_getElem?]
  unfold StoreTo at hw
  cases h : ts[1]? with
  | none =>
    cases a with
    | none => subst hw; simp [Builtin.append_, ht, h, run_und he hu, run_size he hsz, hl, hfit, hf]
    | some a => simp [Builtin.append_, ht, h, run_und he hu, run_size he hsz, hl, hfit, hf, hw]
  | some u =>
    obtain ⟨d, hd⟩ := hzs u h
    rw [← h1, h] at hz
    simp only [isZeros, hd] at hz
    have hm : Builtin.append_.match_1 (fun _ => Bool) d (fun _ => true) (fun _ => false) = false := by cases d <;> first | rfl | (simp at hz)
    cases a with
    | none => subst hw; simp [Builtin.append_, ht, h, run_und he hu, run_und he hd, hm, run_size he hsz, hl, hfit, hf]
    | some a => simp [Builtin.append_, ht, h, run_und he hu, run_und he hd, hm, run_size he hsz, hl, hfit, hf, hw]

/-- What is appended does not fit: new cells. -/
theorem run_append_more {ts : Array TypeId} {ty t e : TypeId} {sz by_ n len cap : Nat} {x z : Value} {xs olds : List Value} {a : Option Addr} {w : World} (ht : ts[0]? = some t) (hu : und E t = some (.slice e))
    (hsz : Am.sizeOf E e = some sz) (hby : bytesOf E e = some by_) (hz : isZeros E (ts.toList.tail.head?) = false) (hl : (Builtin.lenOf x).run P w = .ok n w)
    (hf : (Builtin.firstCells sz n x).run P w.drew = .ok xs.toArray w.drew) (ho : (Builtin.firstCells sz len (.slice a len cap)).run P w.drew = .ok olds.toArray w.drew)
    (hzv : ∀ w, (zeroValue e).run P w = .ok z w) (hfit : cap < len + n) (hs : small (len + n) by_ = true) (hzs : ∀ u, ts[1]? = some u → ∃ d, und E u = some d) :
    (Builtin.append_ ts ty #[.slice a len cap, x]).run P w = .ok (.slice (some ⟨w.heap.size, 0, none⟩) (len + n) (grownCap w (len + n) cap e))
      (w.drew.alloc (.cells (olds.toArray ++ (xs.toArray ++ Builtin.zeroCells z.cells (grownCap w (len + n) cap e - (len + n)))) e)) := by
  have h1 : ts[1]? = ts.toList.tail.head? := by simp [List.head?_eq_getElem?]
  obtain ⟨i, hi, hib⟩ := run_bytes he hby w
  have hroom := room_ok hfit hs
  obtain ⟨b1, b2, b3, b4⟩ := small_spec hs
  have hn : ¬ (len + n ≤ cap) := by omega
  have hb0 : i.bytes ≠ 0 := by omega
  have hroom' : ¬ (281474976710656 < Builtin.nextslicecap (len + n) cap * i.bytes) := by rw [hib]; exact hroom
  have hi' : ∀ w', (typeInfo e).run P w' = .ok i w' := by
    intro w'
    unfold bytesOf at hby
    cases hj : E.tys.get e with
    | none => rw [hj] at hby; cases hby
    | some j =>
      have := run_tyInfo he hj w
      rw [hi] at this
      cases this
      exact run_tyInfo he hj w'
  cases h : ts[1]? with
  | none =>
    simp [Builtin.append_, ht, h, run_und he hu, run_size he hsz, hl, hn, hi', hb0, hroom', Question.forced, hf, ho, hzv, newRow, grownCap]
  | some u =>
    obtain ⟨d, hd⟩ := hzs u h
    rw [← h1, h] at hz
    simp only [isZeros, hd] at hz
    have hm : Builtin.append_.match_1 (fun _ => Bool) d (fun _ => true) (fun _ => false) = false := by cases d <;> first | rfl | (simp at hz)
    simp [Builtin.append_, ht, h, run_und he hu, run_und he hd, hm, run_size he hsz, hl, hn, hi', hb0, hroom', Question.forced, hf, ho, hzv, newRow, grownCap]

/-- Zeros are appended: what the model does first. -/
theorem zeros_ok {e : TypeId} {by_ n : Nat} (hby : bytesOf E e = some by_) (hn : n ≤ 1048576) (hb : n = 0 ∨ by_ ≤ 1048576) :
    ∃ i, (∀ w', (typeInfo e).run P w' = .ok i w') ∧ i.bytes = by_ ∧ IntKind.i64.wrap (n : Int) = n ∧ ¬ (281474976710656 : Int) < (n : Int) * (i.bytes : Int) := by
  have hw : IntKind.i64.wrap (n : Int) = n := wrap64_small (by omega)
  unfold bytesOf at hby
  cases hj : E.tys.get e with
  | none => rw [hj] at hby; cases hby
  | some j =>
    rw [hj] at hby
    have hib : j.bytes = by_ := Option.some.inj hby
    refine ⟨j, run_tyInfo he hj, hib, hw, ?_⟩
    rw [hib]
    rcases hb with rfl | hb
    · simp
    · have h1 : n * by_ ≤ 1048576 * 1048576 := Nat.mul_le_mul hn hb
      have h2 : ((n * by_ : Nat) : Int) ≤ ((1048576 * 1048576 : Nat) : Int) := Int.ofNat_le.2 h1
      rw [Int.natCast_mul] at h2
      omega

theorem run_append_fit0 {ts : Array TypeId} {ty t e : TypeId} {sz by_ n len cap : Nat} {k : IntKind} {z : Value} {a : Option Addr} {w w' : World} (ht : ts[0]? = some t) (hu : und E t = some (.slice e))
    (hsz : Am.sizeOf E e = some sz) (hby : bytesOf E e = some by_) (hz : isZeros E (ts.toList.tail.head?) = true) (hn : n ≤ 1048576) (hb : n = 0 ∨ by_ ≤ 1048576) (hzv : ∀ w, (zeroValue e).run P w = .ok z w)
    (hfit : len + n ≤ cap) (hsz0 : n ≠ 0 → sz ≠ 0) (hw : StoreTo P a (len * sz) (Builtin.zeroCells z.cells n).toList w w') :
    (Builtin.append_ ts ty #[.slice a len cap, .int k n]).run P w = .ok (.slice a (len + n) cap) w' := by
  have h1 : ts[1]? = ts.toList.tail.head? := by simp [List.head?_eq_getElem?]
  unfold StoreTo at hw
  cases h : ts[1]? with
  | none => rw [← h1, h] at hz; cases hz
  | some u =>
    rw [← h1, h] at hz
    simp only [isZeros] at hz
    split at hz
    · next j hd =>
      obtain ⟨i, hi, hib, hwr, hlt⟩ := zeros_ok he hby hn hb
      have hneg : ¬ ((n : Int) < 0) := by omega
      by_cases h0 : n = 0
      · subst h0
        have hwr' : IntKind.i64.wrap 0 = 0 := hwr
        have hfit' : len ≤ cap := hfit
        have hzc : Builtin.zeroCells z.cells 0 = #[] := by simp [Builtin.zeroCells]
        rw [hzc] at hw
        cases a with
        | none => subst hw; simp [Builtin.append_, ht, h, run_und he hu, run_und he hd, run_size he hsz, asInt, asIntOf, hwr', hi, hfit']
        | some a => simp at hw; simp [Builtin.append_, ht, h, run_und he hu, run_und he hd, run_size he hsz, asInt, asIntOf, hwr', hi, hfit', hw]
      · have h00 : ¬ (n * sz = 0) := by have := hsz0 h0; simp only [Nat.mul_eq_zero]; omega
        cases a with
        | none => subst hw; simp [Builtin.append_, ht, h, run_und he hu, run_und he hd, run_size he hsz, asInt, asIntOf, hwr, hi, hlt, hneg, hzv, hfit]
        | some a => simp only at hw; simp [Builtin.append_, ht, h, run_und he hu, run_und he hd, run_size he hsz, asInt, asIntOf, hwr, hi, hlt, hneg, h00, hzv, hfit, hw]
    · cases hz

theorem run_append_more0 {ts : Array TypeId} {ty t e : TypeId} {sz by_ n len cap : Nat} {k : IntKind} {z : Value} {olds : List Value} {a : Option Addr} {w : World} (ht : ts[0]? = some t) (hu : und E t = some (.slice e))
    (hsz : Am.sizeOf E e = some sz) (hby : bytesOf E e = some by_) (hz : isZeros E (ts.toList.tail.head?) = true) (hn : n ≤ 1048576) (hzv : ∀ w, (zeroValue e).run P w = .ok z w)
    (ho : (Builtin.firstCells sz len (.slice a len cap)).run P w.drew = .ok olds.toArray w.drew)
    (hfit : cap < len + n) (hs : small (len + n) by_ = true) (hsz0 : sz ≠ 0) (hn0 : n ≠ 0) :
    (Builtin.append_ ts ty #[.slice a len cap, .int k n]).run P w = .ok (.slice (some ⟨w.heap.size, 0, none⟩) (len + n) (grownCap w (len + n) cap e))
      (w.drew.alloc (.cells (olds.toArray ++ (Builtin.zeroCells z.cells n ++ Builtin.zeroCells z.cells (grownCap w (len + n) cap e - (len + n)))) e)) := by
  have h1 : ts[1]? = ts.toList.tail.head? := by simp [List.head?_eq_getElem?]
  have hroom := room_ok hfit hs
  obtain ⟨b1, b2, b3, b4⟩ := small_spec hs
  obtain ⟨i, hi, hib, hwr, hlt⟩ := zeros_ok he hby hn (.inr b4)
  have hneg : ¬ ((n : Int) < 0) := by omega
  have h00 : ¬ (n * sz = 0) := by simp only [Nat.mul_eq_zero]; omega
  have hnf : ¬ (len + n ≤ cap) := by omega
  have hb0 : i.bytes ≠ 0 := by omega
  have hmx : ¬ (9223372036854775807 < (len : Int) + (n : Int)) := by omega
  have hroom' : ¬ (281474976710656 < Builtin.nextslicecap (len + n) cap * i.bytes) := by rw [hib]; exact hroom
  cases h : ts[1]? with
  | none => rw [← h1, h] at hz; cases hz
  | some u =>
    rw [← h1, h] at hz
    simp only [isZeros] at hz
    split at hz
    · next j hd =>
      simp [Builtin.append_, ht, h, run_und he hu, run_und he hd, run_size he hsz, asInt, asIntOf, hwr, hi, hlt, hneg, h00, hzv, hnf, hmx, hroom', Question.forced, ho, newRow, grownCap]
    · cases hz
end
end Am
