/- The abstract machine: tables that are laid; what is logged; panics; several steps at once; slices.Insert as one step. -/
import Derived.Test.YtlclpmbeaofohaaGreatAmG
import Derived.Calls
set_option linter.unusedSectionVars false
set_option linter.unusedVariables false
set_option linter.unusedSimpArgs false

/- Tables of a program that its text lays and nobody writes: the machine reads them as memory that stays. -/
namespace Am
open Go
abbrev Glob := Nat → Option (List AV)
/-- The machine's tables of a program, with calls that are known, and with tables that are laid. -/
noncomputable def envG (P : Program) (nt nf mask : Nat) (K : FuncId → List AV → Option AV) (gl : Glob) : Env := { envK P nt nf mask K with glob := gl }
/-- The tables lie in memory. -/
def GlobS (gl : Glob) (C : Cx) : Prop := ∀ g cs, gl g = some cs → ∃ ms, C.M g = some ms ∧ VRs C cs ms ∧ Cells cs
/-- A call is known where the tables lie. -/
def KnownG (P : Program) (gl : Glob) (f : FuncId) (args : List AV) (v : AV) : Prop :=
  ∀ (C : Cx) (S : St) (w : World) (xs : Array Value) (c : Frame) (cs : List Frame), GlobS gl C → VRs C args xs.toList → StR C S w → Returns P (lone (Frame.enter P f xs .normal) (c :: cs) w) c cs C S w (.same v)
def KnownGs (P : Program) (gl : Glob) (K : FuncId → List AV → Option AV) : Prop := ∀ f args v, K f args = some v → KnownG P gl f args v
section
variable {P : Program} {nt nf mask : Nat} {K : FuncId → List AV → Option AV} {gl : Glob}
end
end Am
namespace Am
open Go
/-! ### Numbers without sign; arrays -/
def kU : IntKind → Bool
  | .u32 | .u64 => true
  | _ => false
section
variable {E : Env} {l : Sl} {o : Oper} {k : IntKind} {t yt : TypeId} {x y : Operand} {a b : Nat}
theorem OpQ.shrK {j : IntKind} (ho : o.op = .binOp .shr t x y yt) (hu : und E t = some (.int k)) (hx : opndL x l = some (.int k (a : Nat))) (hy : opndL y l = some (.int j (b : Nat))) (h : b ≤ k.bits) : OpQ E o l (.int k ((a / 2 ^ b : Nat) : Int)) :=
  OpQ.shr ho hu hx hy (by
    unfold shrA
    rw [if_neg (by omega), show ((b : Nat) : Int).toNat = b from rfl, Nat.min_eq_left h]
    rw [Int.fdiv_eq_ediv_of_nonneg _ (by exact Int.le_of_lt (Int.pow_pos (by decide)))]
    rw [show ((a : Nat) : Int) / 2 ^ b = ((a / 2 ^ b : Nat) : Int) from by rw [Int.natCast_ediv, Int.natCast_pow]; rfl])
end
end Am
namespace Am
open Go
/-! ### Stores in drawn regions -/
section
variable {E : Env} {fr : Fr} {l : Sl} {st : St} {o : Oper} {all rest : List Oper} {i : Nat} {js : List Nat} {nl : News} {K : Sl → St → Prop} {od : Option Nat}
end
end Am
namespace Am
open Go
end Am
namespace Am
open Go
end Am
namespace Am
open Go
end Am
namespace Am
open Go
section
variable {E : Env} {fr : Fr} {l : Sl} {st s : St} {o : Oper} {all rest : List Oper} {i : Nat} {js : List Nat} {nl : News} {K : Sl → St → Prop} {od : Option Nat}
theorem runsF_to {c : Call} {f : Nat} {args : List AV} {R : AV → St → Prop} (hb : hasBody E f = true) (ho : o.op = .call c) (hc : c.callee = .value (.func f)) (ha : opndsL c.args.toList l = some args) (h : RunsV E f args s R) : ∀ T, Has l T → ∃ v s', OpTo E o fr T s v s' ∧ R v s' := by
  intro T hT
  have hop : opC E o.type o.op = .call (fun T _ => (opndsC E c.args.toList T).bind fun args => some (f, args)) := by
    rw [ho]
    show callC E o.type c = _
    unfold callC
    rw [hc]
    simp only [hb, cond_true]
  obtain ⟨N, cr, hr, hm⟩ := h
  have key : ∀ n, N ≤ n → (((opndsC E c.args.toList T).bind fun args => some (f, args)).bind fun p => callF E (ev E n) p.1 p.2 s) = some cr := fun n hn => by
    rw [opndsL_ok hT ha]
    simp only [Option.bind_some]
    exact hr n hn
  cases cr with
  | same v => exact ⟨v, s, ⟨N, fun n hn k => by
      rw [hop]
      show crOut fr T s (k.run (ev E n) fr T) (((opndsC E c.args.toList T).bind fun args => some (f, args)).bind fun p => callF E (ev E n) p.1 p.2 s) = _
      rw [key n hn]; rfl⟩, hm⟩
  | val v s' => exact ⟨v, s', ⟨N, fun n hn k => by
      rw [hop]
      show crOut fr T s (k.run (ev E n) fr T) (((opndsC E c.args.toList T).bind fun args => some (f, args)).bind fun p => callF E (ev E n) p.1 p.2 s) = _
      rw [key n hn]; rfl⟩, hm⟩
  | pan _ _ => exact hm.elim
theorem callF_all {c : Call} {f : Nat} (hb : hasBody E f = true) (ho : o.op = .call c) (hc : c.callee = .value (.func f)) : quietSo (opC E o.type o.op) = true ∧ ∀ T, touchOf (opC E o.type o.op) T = .all := by
  have hop : opC E o.type o.op = .call (fun T _ => (opndsC E c.args.toList T).bind fun args => some (f, args)) := by
    rw [ho]
    show callC E o.type c = _
    unfold callC
    rw [hc]
    simp only [hb, cond_true]
  rw [hop]
  exact ⟨rfl, fun _ => rfl⟩
end
end Am
namespace Am
open Go
/-- A call of a function by its name that leaves the heap as it is, in a drawn region. -/
theorem RegN.lookF {KN : PN} {E : Env} {fr : Fr} {l : Sl} {st : St} {o : Oper} {all rest : List Oper} {i : Nat} {js : List Nat} {nl : News} {K : Sl → St → Prop} {od : Option Nat} {c : Call} {f : Nat} {args : List AV} {v : AV} (hb : hasBody E f = true) (ho : o.op = .call c) (hc : c.callee = .value (.func f))
    (ha : opndsL c.args.toList (restr (tmpsOf o.op.operands.toList) l) = some args) (h : RunsV E f args (st.sub st.heap) fun x s2 => x = v ∧ s2 = st.sub st.heap) (hnl : (nl.all fun p => Nat.testBit (ancOf all i) p.1) = true) (hg : GuardOn all l o) (hd : o.dst = od) (hlt : dstOk fr.nt od = true)
    (hk : RegN E KN all rest (i + 1) fr (putL od v l) st (i :: js) nl K) : RegN E KN all (o :: rest) i fr l st js nl K :=
  RegN.look (callF_all hb ho hc).1 (fun T _ => (callF_all hb ho hc).2 T) (fun T hT => by
    obtain ⟨x, s2, h1, rfl, rfl⟩ := runsF_to hb ho hc ha h T hT
    exact h1) hnl hg hd hlt hk
end Am

/- What is told of written blocks: all that are not logged are as they were. -/
namespace Am
open Go
structure Loggd (s s' : St) : Prop where
  bound : s'.bound = s.bound
  more : ∀ c ∈ s.log, c ∈ s'.log
  same : ∀ c, c < s.bound → c ∉ s'.log → s'.heap.get c = s.heap.get c
theorem Loggd.refl {s : St} : Loggd s s := ⟨rfl, fun _ h => h, fun _ _ _ => rfl⟩
theorem Loggd.trans {s s1 s2 : St} (h : Loggd s s1) (h2 : Loggd s1 s2) : Loggd s s2 :=
  ⟨h2.bound.trans h.bound, fun c hc => h2.more c (h.more c hc), fun c hc hn => (h2.same c (by rw [h.bound]; exact hc) hn).trans (h.same c hc fun hm => hn (h2.more c hm))⟩
theorem Loggd.put {s : St} {b : Nat} {o : Option AObj} : Loggd s (s.put b o) :=
  ⟨rfl, fun _ hc => mem_put_old hc, fun c hc hn => by
    rw [get_putS]
    split
    · next e => subst e; exact absurd (mem_put_self hc) hn
    · rfl⟩
theorem Loggd.alloc {s : St} {o : AObj} (hb : s.bound ≤ s.next) : Loggd s (s.alloc o) :=
  ⟨rfl, fun _ hc => hc, fun c hc _ => by
    show (s.heap.set s.next _).get c = _
    rw [get_set, if_neg (by omega)]⟩
theorem Loggd.freed {s : St} {b : Nat} {cap : Option Nat} : Loggd s (freed s b cap) := by
  unfold Am.freed
  cases tailO cap with
  | true => exact Loggd.put
  | false => exact Loggd.refl
theorem freed_next {s : St} {b : Nat} {cap : Option Nat} : (freed s b cap).next = s.next ∧ (freed s b cap).bound = s.bound := by
  unfold Am.freed
  cases tailO cap <;> exact ⟨rfl, rfl⟩
/-- Whatever append writes is logged. -/
theorem appendTo_lg {s s' : St} {e : TypeId} {sz by_ n : Nat} {new : List AV} {v v' : AV} (hb : s.bound ≤ s.next) (h : appendTo s e sz by_ new n v = some (v', s')) : Loggd s s' := by
  cases v with
  | nilslice =>
    unfold appendTo at h
    cases hn : Nat.beq n 0 with
    | true => rw [hn] at h; cases h; exact Loggd.refl
    | false =>
      cases hs : small n by_ with
      | true => rw [hn, hs] at h; cases h; exact Loggd.alloc hb
      | false => rw [hn, hs] at h; cases h
  | islice cs len sz' cl =>
    unfold appendTo at h
    cases hn : Nat.beq n 0 with
    | true => rw [hn] at h; cases h; exact Loggd.refl
    | false => rw [hn] at h; cases h
  | slice b off len sz' cap =>
    unfold appendTo at h
    cases hn : Nat.beq n 0 with
    | true => rw [hn] at h; cases h; exact Loggd.refl
    | false =>
      rw [hn] at h
      cases hs : (Nat.beq sz' sz && small (len + n) by_) with
      | false => simp only [cond_false, hs] at h; cases h
      | true =>
        simp only [cond_false, hs, cond_true] at h
        unfold appendOb at h
        split at h
        · next cs e0 sl _ =>
          unfold appendIn at h
          cases hd : dropN off cs with
          | none => rw [hd] at h; cases h
          | some l =>
            rw [hd] at h
            simp only [Option.bind_some] at h
            cases hf : fitsA sz len n cap l with
            | true =>
              rw [hf] at h
              simp only [cond_true] at h
              cases ho : over new (off + len * sz) cs with
              | none => rw [ho] at h; cases h
              | some cs' => rw [ho] at h; cases h; exact Loggd.put
            | false =>
              rw [hf] at h
              simp only [cond_false] at h
              cases hq : (Nat.beq e e0 || !(tailO cap)) with
              | false => rw [hq] at h; cases h
              | true =>
                rw [hq] at h
                simp only [cond_true] at h
                cases ht : takeN (len * sz) l with
                | none => rw [ht] at h; cases h
                | some old =>
                  rw [ht] at h
                  cases h
                  exact Loggd.freed.trans (Loggd.alloc (by rw [freed_next.1, freed_next.2]; exact hb))
        · cases h
  | _ => cases h
/-- The heap behind a drawn region. -/
theorem Loggd.heapM {st s2 : St} {h : Tr AObj} (hn : st.next ≤ s2.next) (hl : Loggd (st.sub h) s2) (hh : h = st.heap) : ∀ c, c < s2.next → (st.merged s2).heap.get c = s2.heap.get c :=
  merged_eq hn fun c hc hno => by subst hh; exact hl.same c hc hno
end Am
namespace Am
open Go
/-! ### Lists of single cells, wherever they lie -/
def ListR (s : St) (v : AV) (cs : List AV) : Prop :=
  (v = .nilslice ∧ cs = []) ∨ (∃ cl, v = .islice cs cs.length 1 cl) ∨
    ∃ b off cap bc e part, v = .slice b off cs.length 1 cap ∧ b < s.next ∧ s.heap.get b = some (.cells bc e part) ∧ off + cs.length ≤ bc.length ∧ (bc.drop off).take cs.length = cs
/-! ### Lists that grow, in whatever way they were made -/
def FullR (s : St) (e : TypeId) (v : AV) (cs : List AV) : Prop :=
  ∃ b cap part, v = .slice b 0 cs.length 1 cap ∧ cs ≠ [] ∧ b < s.next ∧ s.heap.get b = some (.cells cs e part) ∧ (cap = none ∨ cap = some cs.length)
end Am
namespace Am
open Go
/-- What is known of who made or wrote which blocks, behind an operation. -/
def NewsOf (nl : News) (i n : Nat) (lg : List Nat) (nl2 : News) : Prop := ∀ p ∈ nl2, p ∈ nl ∨ (p.1 = i ∧ (n ≤ p.2 ∨ p.2 ∈ lg))
theorem newsOf_tag {nl : News} {i n k : Nat} {lg : List Nat} : NewsOf nl i n lg (tagL i (tagL i nl (newL n k)) lg) := fun p hp => by
  rcases tagL_mem.1 hp with ⟨h1, h2⟩ | hp
  · exact .inr ⟨h1, .inr h2⟩
  · rcases tagL_mem.1 hp with ⟨h1, h2⟩ | hp
    · exact .inr ⟨h1, .inl (newL_mem.1 h2).1⟩
    · exact .inl hp
section
variable {E : Env} {fr : Fr} {l : Sl} {st : St} {o : Oper} {all rest : List Oper} {i : Nat} {js : List Nat} {nl : News} {K : Sl → St → Prop} {od : Option Nat}
/-- The same, with what is known of the new blocks' makers: an operation that looks at, writes and makes whatever, behind all that looked at, made or wrote anything. -/
theorem RegN.actK2 {KN : PN} (hq : quietSo (opC E o.type o.op) = true) (htch : ∀ T, touchOf (opC E o.type o.op) T = .all) (hjs : seenB (ancOf all i) js = true) (hnl : (nl.all fun p => Nat.testBit (ancOf all i) p.1) = true) (hg : GuardOn all l o) (hd : o.dst = od) (hlt : dstOk fr.nt od = true)
    (h : ∀ T, Has (restr (tmpsOf o.op.operands.toList) l) T → ∃ v s2, OpTo E o fr T (st.sub st.heap) v s2 ∧ st.next ≤ s2.next ∧ (∀ b ∈ s2.log, b < st.next) ∧ ∀ nl2, NewsOf nl i st.next s2.log nl2 → RegN E KN all rest (i + 1) fr (putL od v l) (st.merged s2) (i :: js) nl2 K) : RegN E KN all (o :: rest) i fr l st js nl K := by
  intro T0 T news looked hT hnw hlk hrd
  obtain ⟨v, s2, ⟨N, hN⟩, hnx, hlog, h⟩ := h _ (hT.restr (tmpsOf o.op.operands.toList))
  let dd : DOp := dop E all i o
  let q : DSt := ⟨T, st, news, looked⟩
  let TP := pickT T (tmpsOf o.op.operands.toList) .nil
  let re := reOf dd q (.all, v, s2)
  have hanc : dd.anc = ancOf all i := rfl
  obtain ⟨M, ex, l', T', s', hk, hr⟩ := h (tagL i (tagL i nl (newL st.next (s2.next - st.next))) s2.log) (newsOf_tag (n := st.next) (lg := s2.log)) T0 (putT od v T) (tagL i (tagL i news (newL st.next (s2.next - st.next))) s2.log) ((i, .all, re) :: looked) (hT.putL od v)
    (fun p hp => tagL_mono (fun p hp => tagL_mono hnw hp) hp) (fun p hp => by
    rcases List.mem_cons.1 hp with rfl | hp
    · exact .inl (List.mem_cons_self ..)
    · exact (hlk p hp).imp (List.mem_cons_of_mem _) id) hrd.cons
  refine ⟨max N M, ex, l', T', s', hk, fun n hn => ?_⟩
  have hgo : drawGo E (ev E n) fr dd q TP = some (.all, v, s2) := by
    unfold drawGo
    have hqs : quietSo dd.so = true := hq
    rw [hqs]
    simp only [cond_true]
    have ht : touchOf dd.so TP = .all := htch TP
    rw [ht]
    have hst := hN n (by omega) K0
    have hH : subHeap (ancOf all i) news st.heap .all = st.heap := hide_clear hnl hnw
    show drawGot .all ((stepC E (opC E o.type o.op) K0).run (ev E n) fr TP (st.sub (subHeap dd.anc news st.heap .all))) = _
    rw [hanc, hH, hst]; rfl
  have hmay : ∀ L : List Nat, (∀ b ∈ L, b < st.next) → mayWrite dd.anc st.next s2.next s2.heap q L = true := by
    intro L
    induction L with
    | nil => intro _; rfl
    | cons b L ih =>
      intro hL
      unfold mayWrite
      have h1 : Nat.blt b st.next = true := Nat.ble_eq_true_of_le (hL b (List.mem_cons_self ..))
      have h2 : hiddenB dd.anc b q.news = false := hidden_clear (clear_all hnl) hnw
      have h3 : freeOf dd.anc b s2.next (s2.heap.get b) q.looked = true := free_seen hjs hlk
      rw [h1, h2, h3, ih fun c hc => hL c (List.mem_cons_of_mem _ hc)]
      rfl
  have hput : drawPut fr.nt dd q (.all, v, s2) = some ⟨putT od v T, st.merged s2, tagL i (tagL i news (newL st.next (s2.next - st.next))) s2.log, (i, .all, re) :: looked⟩ := by
    unfold drawPut
    have h1 : Nat.ble q.st.next s2.next = true := Nat.ble_eq_true_of_le hnx
    have h2 : mayWrite dd.anc q.st.next s2.next s2.heap q s2.log = true := hmay s2.log hlog
    have h3 : dd.o.dst = od := hd
    simp only [h1, h2, h3, Bool.and_self, cond_true, putC_ok hlt, Option.bind_some]
    rfl
  exact rest_cons (runN hT hg hgo) hput (hr n (by omega))
/-- The same, with what is known of the new blocks' makers: a call of a function by its name, in a drawn region, behind all that looked at, made or wrote anything. -/
theorem RegN.runsF2 {KN : PN} {c : Call} {f : Nat} {args : List AV} {R : AV → St → Prop} (hb : hasBody E f = true) (ho : o.op = .call c) (hc : c.callee = .value (.func f)) (ha : opndsL c.args.toList (restr (tmpsOf o.op.operands.toList) l) = some args)
    (h : RunsV E f args (st.sub st.heap) R) (hjs : seenB (ancOf all i) js = true) (hnl : (nl.all fun p => Nat.testBit (ancOf all i) p.1) = true) (hg : GuardOn all l o) (hd : o.dst = od) (hlt : dstOk fr.nt od = true)
    (hk : ∀ v s2, R v s2 → st.next ≤ s2.next ∧ (∀ b ∈ s2.log, b < st.next) ∧ ∀ nl2, NewsOf nl i st.next s2.log nl2 → RegN E KN all rest (i + 1) fr (putL od v l) (st.merged s2) (i :: js) nl2 K) : RegN E KN all (o :: rest) i fr l st js nl K :=
  RegN.actK2 (callF_all hb ho hc).1 (callF_all hb ho hc).2 hjs hnl hg hd hlt fun T hT =>
    let ⟨v, s2, h1, h2⟩ := runsF_to hb ho hc ha h T hT
    ⟨v, s2, h1, hk v s2 h2⟩
end
end Am
namespace Am
open Go
end Am
namespace Am
open Go
end Am

/- The abstract machine: panics in regions that draw their order; deferred calls; recover. -/
namespace Am
open Go
section
variable {E : Env} {fr : Fr} {l : Sl} {st : St} {o : Oper} {all rest : List Oper} {i p : Nat} {js : List Nat} {nl : News} {K : Sl → St → Prop} {od : Option Nat} {KN : PN}

/-! ### What was looked at, and written since -/
def PN.add (KN : PN) (e : Rd) : PN := { KN with rl := e :: KN.rl }
/-! ### Behind a panic -/
/-- What is left of a region behind a panic of operation p: nothing of it writes or makes anything, as far as it may come before. -/
def RestN (E : Env) (all rest : List Oper) (i p : Nat) (fr : Fr) (l : Sl) (st : St) : Prop :=
  ∀ (T : Tr AV) (news : News) (looked : Looked), Has l T → ∃ N, ∀ n, N ≤ n → ∃ q', restAll E all (ev E n) fr p (planD E (befores all) rest i) ⟨T, st, news, looked⟩ = some q' ∧ q'.st = st
/-- What was looked at by what need not come before is as it was, or would be read as it was. -/
def RdW (KN : PN) (anc : Nat) (s2 : St) : Prop := ∀ e ∈ KN.rl, Nat.testBit anc e.1 = true ∨ e.2.1 ∉ s2.log ∨ e.2.2 s2.next (s2.heap.get e.2.1)
/-! ### Deferred calls, and recover -/
variable {Q : Ex → Fr → Sl → St → Prop} {s : St}
/-- The end of a body with one call put off: its body, and the results behind it. -/
def PutOffQ (E : Env) (f : FuncId) (rs : List ResultVar) (s0 : St) (R RP : AV → St → Prop) (ex : Ex) (fr : Fr) (l : Sl) (st : St) : Prop :=
  ∃ m g captured args gn cb, modeOf ex = some m ∧ fr.defers = [{ target := .fn (.func g) captured, args }] ∧ E.fns.get g = some gn ∧ gn.body = some cb ∧ gn.results.toList = [] ∧
    EvtL E cb (frame gn.ntmps (args ++ captured) m) (argsL 0 (args ++ captured) []) st fun ex2 fr2 _ st2 => (ex2 = .normal ∨ ex2 = .ret) ∧ fr2.defers = [] ∧ match (bif recovered m fr2.pan then none else m) with
      | none => ∃ vs, resultsL E st2 l rs = some vs ∧ ∃ cr, leave E f s0 (oneA vs) st2 = some cr ∧ (match cr with
        | .same v => R v s0
        | .val v s' => R v s'
        | .pan _ _ => False)
      | some v => RP v (s0.back st2)
end
end Am
namespace Am
open Go
/-! ### Which functions freeze what they return, by a table -/
noncomputable def envF (P : Program) (nt nf : Nat) (F : FuncId → Nat) (K : FuncId → List AV → Option AV) (gl : Glob) : Env := { envK P nt nf 0 K with glob := gl, frz := F }
section
variable {P : Program} {nt nf : Nat} {F : FuncId → Nat} {K : FuncId → List AV → Option AV} {gl : Glob}
end
/-! ### A value that stands for all that another one stands for -/
mutual
inductive Weak : AV → AV → Prop where
  | refl (v : AV) : Weak v v
  | nil (k : Nat) : Weak .nilslice (.islice [] 0 k true)
  | agg {a b : List AV} (h : WeakL a b) : Weak (.agg a) (.agg b)
  | islice {a b : List AV} {n k : Nat} (h : WeakL a b) : Weak (.islice a n k true) (.islice b n k true)
inductive WeakL : List AV → List AV → Prop where
  | nil : WeakL [] []
  | cons {a b : AV} {l r : List AV} (h : Weak a b) (t : WeakL l r) : WeakL (a :: l) (b :: r)
end
theorem WeakL.refl : ∀ l : List AV, WeakL l l
  | [] => .nil
  | a :: l => .cons (.refl a) (WeakL.refl l)
theorem Weak.cell {a b : AV} (h : Weak a b) : b.isCell = a.isCell := by cases h <;> rfl
theorem WeakL.cells : ∀ {a b : List AV}, WeakL a b → Cells a → Cells b
  | _, _, .nil, _ => fun _ h => by cases h
  | _, _, .cons h t, hc => fun v hv => by
    rcases List.mem_cons.1 hv with rfl | hv
    · rw [h.cell]; exact hc _ (List.mem_cons_self ..)
    · exact t.cells (fun u hu => hc u (List.mem_cons_of_mem _ hu)) v hv
theorem WeakL.len : ∀ {a b : List AV}, WeakL a b → b.length = a.length
  | _, _, .nil => rfl
  | _, _, .cons _ t => by rw [List.length_cons, List.length_cons, t.len]
mutual
theorem Weak.vr : ∀ {a b : AV}, Weak a b → ∀ {C : Cx} {x : Value}, VR C a x → VR C b x
  | _, _, .refl _, _, _, hx => hx
  | _, _, .nil k, _, _, hx => by
    cases hx with
    | nilslice a h => exact .islice0 a (Nat.zero_mul _) (Nat.le_refl _)
  | _, _, .agg h, _, _, hx => by
    cases hx with
    | agg hv hcs => exact .agg (h.vrs hv) (h.cells hcs)
  | _, _, .islice h, _, _, hx => by
    cases hx with
    | islice0 a h1 h2 => cases h; exact .islice0 a h1 h2
    | islice hl hm ha hv hc hcs hlc => exact .islice (by rw [h.len]; exact hl) hm ha (h.vrs hv) (fun e => h.vrs (hc e)) (h.cells hcs) hlc
theorem WeakL.vrs : ∀ {a b : List AV}, WeakL a b → ∀ {C : Cx} {x : List Value}, VRs C a x → VRs C b x
  | _, _, .nil, _, _, hx => hx
  | _, _, .cons h t, _, _, hx => by
    cases hx with
    | cons h1 h2 => exact .cons (h.vr h1) (t.vrs h2)
end
end Am
namespace Am
open Go
/-! ### How often a byte occurs -/
/-! ### Strings in lists that are frozen -/
end Am
namespace Am
open Go
section
variable {E : Env} {l : Sl} {o : Oper} {c : Call} {x y : Operand} {k : IntKind} {a b : Int}
end
end Am
namespace Am
open Go
/-- A list that is frozen. -/
theorem frz_slice {s : St} {m j b n k : Nat} {cap : Option Nat} {cs cs' : List AV} {ks ks' : List Nat} {e : TypeId} {part : Bool} (hb : m ≤ b) (hg : s.heap.get b = some (.cells cs e part)) (hl : cs.length = n * k)
    (hm : frzV.many (frzV s m j) cs ks = some (cs', ks')) : frzV s m (j + 1) (.slice b 0 n k cap) ks = some (.islice cs' n k (cs'.all (closedV 40)), b :: ks') := by
  have hbl : Nat.blt b m = false := by
    cases h : Nat.blt b m with
    | false => rfl
    | true => have h2 : b < m := Nat.le_of_ble_eq_true h
              omega
  have hc : cut cs 0 (n * k) = some cs := by rw [cut_eq (by omega), List.drop_zero, ← hl, List.take_length]
  show (bif Nat.blt b m then _ else (cellsOf? (s.heap.get b)).bind fun cs => (cut cs 0 (n * k)).bind fun l => (frzV.many (frzV s m j) l ks).bind fun p => some (AV.islice p.1 n k (p.1.all (closedV 40)), b :: p.2)) = _
  rw [hbl, cond_false, hg]
  show ((cut cs 0 (n * k)).bind _) = _
  rw [hc]
  show ((frzV.many (frzV s m j) cs ks).bind _) = _
  rw [hm]; rfl
end Am
namespace Am
open Go
/-- A call comes to a plain value, or to a panic; its caller's heap is as it was. -/
def PureX (E : Env) (f : FuncId) (args : List AV) (s : St) (R RP : AV → Prop) : Prop :=
  ∃ N cr, (∀ n, N ≤ n → callF E (ev E n) f args s = some cr) ∧ match cr with
    | .same v => R v
    | .val _ _ => False
    | .pan v s' => RP v ∧ s' = s
section
variable {E : Env} {f : FuncId} {args : List AV} {s : St} {R RP : AV → Prop}
end
end Am
namespace Am
open Go
end Am
namespace Am
open Go
end Am
namespace Am
open Go
end Am
namespace Am
open Go
/-! ### Lists that grow, whatever is minded -/
section
variable {E : Env} {fr : Fr} {l : Sl} {st : St} {o : Oper} {all rest : List Oper} {i : Nat} {js : List Nat} {nl : News} {K : Sl → St → Prop} {od : Option Nat}
end
/-! ### The end of a function that freezes all that it hands back -/
end Am
namespace Am
open Go
end Am
namespace Am
open Go
/-- Is a type one of functions? -/
noncomputable def isFuncT (E : Env) (t : TypeId) : Bool := match und E t with
  | some (.func _ _ _) => true
  | _ => false
end Am

/- Several quiet operations of a region at once, computed. -/
namespace Am
open Go
/-- What is known: of types (what they are, where that is no struct, function or interface; size; is it a struct or an array; is it an interface), fields (64 times the type, and the field), zero values, plans, functions; how many functions there are, and which of them have no body. -/
structure TabT where
  ty : List (Nat × Option TypeDesc × Option Nat × Option Bool × Option Bool)
  fl : List (Nat × Option (Nat × Nat × Bool))
  ze : List (Nat × Option AV)
  pl : List (Nat × Option (List AV × (Nat → Option (Nat × Nat))))
  fn : List (Nat × Option Func)
  nb : Nat
  ex : List Nat
def asc {α : Type} : List (Nat × α) → Nat → Option α
  | [], _ => none
  | e :: l, t => bif Nat.beq e.1 t then some e.2 else asc l t
noncomputable def undS (E : Env) (t : TypeId) : Option TypeDesc := match und E t with
  | some (.struct _) => none
  | some (.func _ _ _) => none
  | some (.interface _) => none
  | o => o
def nbody (T : TabT) (f : Nat) : Bool := Nat.blt f T.nb && !(T.ex.any fun g => Nat.beq g f)
structure TabOk (E : Env) (T : TabT) : Prop where
  ty : (T.ty.map fun e => (undS E e.1, sizeOf E e.1, isAgg E e.1, isIfaceT E e.1)) = T.ty.map Prod.snd
  fl : (T.fl.map fun e => fieldOf E (e.1 / 64) (e.1 % 64)) = T.fl.map Prod.snd
  ze : (T.ze.map fun e => zeroOf E e.1) = T.ze.map Prod.snd
  pl : (T.pl.map fun e => buildPlan E e.1) = T.pl.map Prod.snd
  fn : (T.fn.map fun e => E.fns.get e.1) = T.fn.map Prod.snd
  hb : ((List.range T.nb).all fun f => !nbody T f || hasBody E f) = true
section
variable {E : Env} {T : TabT}
end
def cmpV : BinOp → Int → Int → Option AV
  | .eql, a, b => some (.bool (decide (a = b)))
  | .neq, a, b => some (.bool (!decide (a = b)))
  | .lss, a, b => some (.bool (decide (a < b)))
  | .leq, a, b => some (.bool (decide (a ≤ b)))
  | .gtr, a, b => some (.bool (decide (b < a)))
  | .geq, a, b => some (.bool (decide (b ≤ a)))
  | _, _, _ => none
/-- A quiet operation's value. -/
noncomputable def qv (T : TabT) (o : Op) (l : Sl) : Option AV := match o with
  | .move x => opndL x l
  | .assign x => opndL x l
  | .extract x i => match opndL x l with
    | some (.tuple vs) => nth vs i
    | _ => none
  | .pick c x y => match opndL c l with
    | some (.bool true) => opndL x l
    | some (.bool false) => opndL y l
    | _ => none
  | .unOp .not _ x => match opndL x l with
    | some (.bool b) => some (.bool (!b))
    | _ => none
  | .fieldAddr t x i => match Nat.blt i 64, asc T.fl (t * 64 + i) with
    | true, some (some (off, _ + 1, _)) => match opndL x l with
      | some (.ptr b k) => some (.ptr b (k + off))
      | some (.iptr cs) => match Nat.ble off cs.length with
        | true => some (.iptr (cs.drop off))
        | false => none
      | _ => none
    | _, _ => none
  | .field t x i => match Nat.blt i 64, asc T.fl (t * 64 + i) with
    | true, some (some (off, _, false)) => match opndL x l with
      | some (.agg cs) => nth cs off
      | _ => none
    | _, _ => none
  | .binOp op t x y _ => match asc T.ty t with
    | some (some (.int k), _) => match opndL x l with
      | some (.int j a) => match opndL y l with
        | some (.int i b) => bif (j == k) && (i == k) then cmpV op a b else none
        | _ => none
      | _ => none
    | _ => none
  | .call c => match c.callee with
    | .builtin .len => match c.argTypes.toList with
      | t :: _ => match c.args.toList with
        | [x] => match asc T.ty t with
          | some (some (.slice _), _) => match opndL x l with
            | some a => Am.lenSl a
            | none => none
          | _ => none
        | _ => none
      | _ => none
    | _ => none
  | .load t a => match opndL a l with
    | some (.iptr cs) => match asc T.ty t with
      | some (_, some k, some true, _) => match Nat.ble k cs.length with
        | true => some (.agg (cs.take k))
        | false => none
      | some (_, some _, some false, _) => match cs with
        | v :: _ => some v
        | [] => none
      | _ => none
    | _ => none
  | .nilCheck x => match opndL x l with
    | some (.ptr b k) => some (.ptr b k)
    | some (.iptr cs) => some (.iptr cs)
    | _ => none
  | .typeAssert x _ t ok => match asc T.ty t with
    | some (_, _, _, some false) => match asc T.ze t with
      | some (some z) => match opndL x l with
        | some a => assertT t ok z a
        | none => none
      | _ => none
    | _ => none
  | .makeInterface t x => match asc T.ty t with
    | some (_, _, _, some false) => match opndL x l with
      | some v => some (.iface t v)
      | none => none
    | _ => none
  | .build t ps => match asc T.pl t with
    | some (some pl) => match partsL ps.toList l with
      | some ps => match fillA pl.2 ps pl.1 with
        | some cs => some (.agg cs)
        | none => none
      | none => none
    | _ => none
  | .makeFunc (.func f) a b => match opndsL a.toList l with
    | some va => match opndsL b.toList l with
      | some vb => some (.func (.func f) va vb)
      | none => none
    | none => none
  | _ => none
/-- Is an operation carried out? -/
noncomputable def gdL (all : List Oper) (o : Oper) (l : Sl) : Option Bool := match o.guard with
  | none => some true
  | some (j, w) => match nth all j with
    | some oj => match oj.dst with
      | some e => match look e l with
        | some (.bool true) => match w with
          | true => some true
          | false => some false
        | some (.bool false) => match w with
          | true => some false
          | false => some true
        | some (.tuple []) => some false
        | _ => none
      | none => none
    | none => none
/-- So many operations, and what is left. -/
noncomputable def segQ (T : TabT) (all : List Oper) (nt : Nat) : Nat → List Oper → Sl → Option (List Oper × Sl)
  | 0, ops, l => some (ops, l)
  | _ + 1, [], _ => none
  | k + 1, o :: rest, l => match o.dst with
    | none => none
    | some d => match Nat.blt d nt with
      | false => none
      | true => match gdL all o l with
        | none => none
        | some true => match qv T o.op l with
          | none => none
          | some v => segQ T all nt k rest ((d, v) :: l)
        | some false => segQ T all nt k rest ((d, .tuple []) :: l)
/-- The same of an operation on a heap that is known block by block. -/
noncomputable def hv (T : TabT) (o : Op) (l : Sl) (n bd : Nat) (lg : List Nat) (hl : Hl) : Option (AV × Nat × List Nat × Hl) := match qv T o l with
  | some v => some (v, n, lg, hl)
  | none => match o with
    | .load t a => match asc T.ty t with
      | some (_, some _, some false, _) => match opndL a l with
        | some (.ptr b off) => match lookH b hl with
          | some (.cells cs _ _) => match cs[off]? with
            | some v => some (v, n, lg, hl)
            | none => none
          | _ => none
        | _ => none
      | some (_, some k, some true, _) => match opndL a l with
        | some (.ptr b off) => match lookH b hl with
          | some (.cells cs _ _) => match Nat.ble (off + k) cs.length with
            | true => some (.agg ((cs.drop off).take k), n, lg, hl)
            | false => none
          | _ => none
        | _ => none
      | _ => none
    | .store t a x => match asc T.ty t with
      | some (_, some k, _) => match opndL a l with
        | some (.ptr b off) => match opndL x l with
          | some v => match lookH b hl with
            | some (.cells cs e p) => match Nat.beq v.cells.length k, v.isTuple, over v.cells off cs with
              | true, false, some cs' => some (.tuple [], n, logB b bd lg, (b, some (.cells cs' e p)) :: hl)
              | _, _, _ => none
            | _ => none
          | none => none
        | _ => none
      | _ => none
    | .alloc t => match asc T.ze t with
      | some (some z) => some (.ptr n 0, n + 1, lg, (n, some (.cells z.cells t false)) :: hl)
      | _ => none
    | .box t x => match opndL x l with
      | some v => match v.isTuple with
        | false => some (.ptr n 0, n + 1, lg, (n, some (.cells v.cells t false)) :: hl)
        | true => none
      | none => none
    | _ => none
noncomputable def segS (T : TabT) (all : List Oper) (nt bd : Nat) : Nat → List Oper → Sl → Nat → List Nat → Hl → Option (List Oper × Sl × Nat × List Nat × Hl)
  | 0, ops, l, n, lg, hl => some (ops, l, n, lg, hl)
  | _ + 1, [], _, _, _, _ => none
  | k + 1, o :: rest, l, n, lg, hl => match gdL all o l with
    | none => none
    | some true => match hv T o.op l n bd lg hl with
      | none => none
      | some (v, n', lg', hl') => match o.dst with
        | none => match o.guard with
          | none => segS T all nt bd k rest l n' lg' hl'
          | some _ => none
        | some d => match Nat.blt d nt with
          | true => segS T all nt bd k rest ((d, v) :: l) n' lg' hl'
          | false => none
    | some false => match o.dst with
      | none => none
      | some d => match Nat.blt d nt with
        | true => segS T all nt bd k rest ((d, .tuple []) :: l) n lg hl
        | false => none
/-- The same in a region that draws its order: quiet operations alone. -/
noncomputable def segN (T : TabT) (all : List Oper) (nt : Nat) : Nat → List Oper → Nat → Sl → Option (List Oper × Nat × Sl)
  | 0, ops, i, l => some (ops, i, l)
  | _ + 1, [], _, _ => none
  | k + 1, o :: rest, i, l => match dstOk nt o.dst with
    | false => none
    | true => match gdL all o l with
      | none => none
      | some true => match qv T o.op (restr (tmpsOf o.op.operands.toList) l) with
        | none => none
        | some v => segN T all nt k rest (i + 1) (putL o.dst v l)
      | some false => segN T all nt k rest (i + 1) (putL o.dst (.tuple []) l)
section
variable {E : Env} {T : TabT} {KP : AV → Sl → St → Prop} {all ops : List Oper} {o : Oper} {rest : List Oper} {fr : Fr} {l l' : Sl} {s : St} {n n' bd : Nat} {lg lg' : List Nat} {hl hl' : Hl} {K : Sl → St → Prop} {Q : Ex → Fr → Sl → St → Prop}
end
end Am

/- The abstract machine: slices.Insert as one step. -/
namespace Am
open Go
/-- What is put between the elements of a list. -/
noncomputable def insIn (s : St) (e sz i : Nat) (new : List AV) (m b off len : Nat) : Option AObj → Option (AV × St)
  | some (.cells cs e0 _) => bif Nat.beq e e0 && Nat.blt i len then (cut cs off (len * sz)).bind fun old => (takeN (i * sz) old).bind fun x => (dropN (i * sz) old).bind fun y =>
      some (.slice s.next 0 (len + m) sz none, (s.put b none).alloc (.cells (x ++ new ++ y) e true)) else none
  | _ => none
/-- slices.Insert of a list whose capacity is the run-time's: a new block, the old one given up. -/
noncomputable def insV (e sz by_ : Nat) (s : St) (new : List AV) (m i vb : Nat) : AV → Option (AV × St)
  | .nilslice => bif Nat.beq i 0 then appendTo s e sz by_ new m .nilslice else none
  | .slice b off len sz' none => bif Nat.beq sz' sz && small (len + m) by_ && Nat.ble (len + m) 1048576 && !(Nat.beq b vb) then (bif Nat.beq i len then appendTo s e sz by_ new m (.slice b off len sz' none) else insIn s e sz i new m b off len (s.heap.get b)) else none
  | _ => none
def wholeB : Option AObj → Bool
  | some (.cells _ _ false) => true
  | _ => false
noncomputable def insP (e sz by_ : Nat) : List AV → St → Option (AV × St)
  | [x, .int .i64 (.ofNat i), .slice vb vo m sz' mc], s => bif wholeB (s.heap.get vb) && !(Nat.beq m 0) then (sliceCells s sz (.slice vb vo m sz' mc)).bind fun p => insV e sz by_ s p.1 p.2 i vb x else none
  | _, _ => none
section
variable {E : Env} {f : FuncId} {args : List AV} {s s' : St} {v : AV} {R : AV → St → Prop}
theorem RunsV.prim {g : List AV → St → Option (AV × St)} (hm : E.memo f args = none) (hf : E.fns.get f = none) (hg : E.prim f = some g) (h : g args s = some (v, s')) (hR : R v s') : RunsV E f args s R :=
  ⟨0, .val v s', fun n _ => by unfold callF; rw [hm]; simp only [hf]; unfold primF; rw [hg]; simp only [h, Option.bind_some], hR⟩
end
/-- The environment of a program whose function f is such an Insert. -/
noncomputable def envI (P : Program) (nt nf : Nat) (F : FuncId → Nat) (K : FuncId → List AV → Option AV) (f e sz by_ : Nat) : Env :=
  { envF P nt nf F K (fun _ => none) with fns := (trOf nf P.funcs.toList).set f none, prim := fun g => bif Nat.beq g f then some (insP e sz by_) else none }
/-- What the model's own walks of such a function say. -/
structure InsRun (P : Program) (f tS tI sz : Nat) : Prop where
  fin : ∀ (base : Option Addr) (n c m mc : Nat) (ya : Option Addr) (w w' : World) (v' : Value), n ≤ c → (base = none → n = 0) → 0 < m → (Builtin.append_ #[tS, tS] tS #[.slice base n c, .slice ya m mc]).run P w = .ok v' w' →
    Calls P f #[.slice base n c, .int .i64 n, .slice ya m mc] w fun e W => e = .returned v' ∧ W = w'
  room : ∀ (b off n c i m mc vb vo : Nat) (w W1 W2 : World) (k1 k2 : Value) (tA kA tB kB : Nat), i < n → 0 < m → n + m ≤ c → n + m ≤ 9223372036854775807 → vb ≠ b → w.shape? vb = some (tA, kA) → w.shape? b = some (tB, kB) → kB ≠ 0 → w.frozen? ⟨vb, vo, none⟩ = false → w.frozen? ⟨vb, kA, none⟩ = false →
    (∀ dc sc, (Builtin.copy_ #[tS, tS] tI #[.slice (some ⟨b, off + (i + m) * sz, none⟩) (n + m - (i + m)) dc, .slice (some ⟨b, off + i * sz, none⟩) (n + m - i) sc]).run P w.drew = .ok k1 W1) →
    (∀ dc, (Builtin.copy_ #[tS, tS] tI #[.slice (some ⟨b, off + i * sz, none⟩) (n + m - i) dc, .slice (some ⟨vb, vo, none⟩) m mc]).run P W1 = .ok k2 W2) →
    Calls P f #[.slice (some ⟨b, off, none⟩) n c, .int .i64 i, .slice (some ⟨vb, vo, none⟩) m mc] w fun e W => e = .returned (.slice (some ⟨b, off, none⟩) (n + m) c) ∧ W = W2
  grow : ∀ (b off n c i m mc nb G : Nat) (ya : Option Addr) (w W1 W2 W3 : World) (k1 k2 : Value), i < n → 0 < m → n ≤ c → c < n + m → n + m ≤ 9223372036854775807 → n + m ≤ G →
    (Builtin.append_ #[tS, tI] tS #[.slice (some ⟨b, off, none⟩) i c, .int .i64 ((n : Int) + (m : Int) - (i : Int))]).run P w = .ok (.slice (some ⟨nb, 0, none⟩) (n + m) G) W1 →
    (∀ dc, (Builtin.copy_ #[tS, tS] tI #[.slice (some ⟨nb, i * sz, none⟩) (n + m - i) dc, .slice ya m mc]).run P W1 = .ok k1 W2) →
    (∀ dc sc, (Builtin.copy_ #[tS, tS] tI #[.slice (some ⟨nb, (i + m) * sz, none⟩) (n + m - (i + m)) dc, .slice (some ⟨b, off + i * sz, none⟩) (n - i) sc]).run P W2.drew = .ok k2 W3) →
    Calls P f #[.slice (some ⟨b, off, none⟩) n c, .int .i64 i, .slice ya m mc] w fun e W => e = .returned (.slice (some ⟨nb, 0, none⟩) (n + m) G) ∧ W = W3
section
variable {E : Env} {P : Program}
theorem returns_of {f : FuncId} {xs : Array Value} {w : World} {C : Cx} {S S' : St} {v : AV} {c : Frame} {cs : List Frame} (h : Calls P f xs w fun e w' => ∃ C' x, e = .returned x ∧ Tran C S w C' S' w' ∧ VR C' v x) :
    Returns P (lone (Frame.enter P f xs .normal) (c :: cs) w) c cs C S w (.val v S') := by
  obtain ⟨e, w', fr, ⟨C', x, rfl, t, hv⟩, h2, h3, h4⟩ := h (c :: cs)
  exact ⟨C', x, w', Steps.trans h2 (Steps.one (step_leave_returned h4)), t, hv⟩
/-- What copy does. -/
theorem run_copyC (he : EnvOk E P) {tS e sz dl dc n nc : Nat} {d s : Addr} {xs : List Value} {w w' : World} (hu : und E tS = some (.slice e)) (hsz : Am.sizeOf E e = some sz) {k : Nat} (hk : Nat.min n dl = k) (hs : Here w s xs) (hl : xs.length = k * sz) (hst : (storeCells d xs).run P w = .ok () w') (ty : TypeId) :
    (Builtin.copy_ #[tS, tS] ty #[.slice (some d) dl dc, .slice (some s) n nc]).run P w = .ok (goInt (k : Nat)) w' := by
  subst hk
  have hf : (Builtin.firstCells sz (Nat.min n dl) (.slice (some s) n nc)).run P w = .ok xs.toArray w := run_cells hs _ hl
  simp [Builtin.copy_, run_und he hu, run_size he hsz, Builtin.lenOf, hf, hst]
theorem Here.off {w w' : World} {a : Addr} {vs : List Value} (h : w'.heap[a.block]? = w.heap[a.block]?) (hh : Here w a vs) : Here w' a vs := by
  intro j v hv
  have := hh j v hv
  have e : (a.add j).block = a.block := by unfold Addr.add; split <;> rfl
  have h2 : w'.heap[(a.add j).block]? = w.heap[(a.add j).block]? := by rw [e]; exact h
  unfold World.cell? at this ⊢
  rw [h2]; exact this
theorem setBlk_self {w : World} {blk : Nat} {o : Obj} (h : blk < w.heap.size) : (World.setBlk w blk o).heap[blk]? = some o := by rw [setBlk_get, if_pos rfl, if_pos h]
theorem setBlk_off {w : World} {blk k : Nat} {o : Obj} (h : k ≠ blk) : (World.setBlk w blk o).heap[k]? = w.heap[k]? := by rw [setBlk_get, if_neg h]
theorem VRs.oneCells {C : Cx} {new : List AV} {xs : List Value} (hn : VRs C new xs) (hc : Cells new) : ∀ u ∈ xs, u.oneCell' = true := by
  intro u hu
  obtain ⟨i, hi⟩ := List.getElem?_of_mem hu
  have hil : i < new.length := by
    have := hn.length
    rcases Nat.lt_or_ge i xs.length with h | h
    · omega
    · rw [List.getElem?_eq_none h] at hi; cases hi
  obtain ⟨y, hy, hr⟩ := hn.get (List.getElem?_eq_getElem hil)
  rw [hi] at hy; cases hy
  exact hr.oneCell (hc _ (List.getElem_mem hil))
/-- Cells are put between others, and what comes behind is moved on. -/
theorem put_two {cc : Array Value} {pre vx vy xs rest : List Value} (h : cc.toList = pre ++ vx ++ vy ++ rest) (hr : xs.length ≤ rest.length) :
    ∃ post, (putAt (putAt cc (pre.length + vx.length + xs.length) vy) (pre.length + vx.length) xs).toList = pre ++ (vx ++ xs ++ vy) ++ post := by
  have hl : (vy ++ rest).length = vy.length + rest.length := List.length_append
  obtain ⟨A, B, D, e, hA, hB⟩ : ∃ A B D, vy ++ rest = A ++ B ++ D ∧ A.length = xs.length ∧ B.length = vy.length := by
    refine ⟨(vy ++ rest).take xs.length, ((vy ++ rest).drop xs.length).take vy.length, ((vy ++ rest).drop xs.length).drop vy.length, ?_, ?_, ?_⟩
    · rw [List.append_assoc, List.take_append_drop, List.take_append_drop]
    · rw [List.length_take]; omega
    · rw [List.length_take, List.length_drop]; omega
  have h1 : (putAt cc (pre.length + vx.length + xs.length) vy).toList = (pre ++ vx ++ A) ++ vy ++ D := by
    refine putAt_list vy cc _ (pre ++ vx ++ A) B D ?_ (by rw [List.length_append, List.length_append, hA]) hB
    rw [h, List.append_assoc (pre ++ vx), e]
    simp only [List.append_assoc]
  refine ⟨D, ?_⟩
  rw [putAt_list xs _ _ (pre ++ vx) A (vy ++ D) (by rw [h1]; simp only [List.append_assoc]) (by rw [List.length_append]) hA]
  simp only [List.append_assoc]
/-- Where the elements lie. -/
theorem ins_parts {C : Cx} {S : St} {w : World} (hS : StR C S w) {b off len sz i : Nat} {e : TypeId} {cs old x y : List AV} {part : Bool} (hb : S.heap.get b = some (.cells cs e part))
    (hold : cut cs off (len * sz) = some old) (ho : old = x ++ y) (hxl : x.length = i * sz) :
    ∃ (cc : Array Value) (fr : Nat × Nat) (vx vy pre rest : List Value), w.heap[(C.pl b).blk]? = some (.cells cc e fr) ∧ (cc.size ≤ fr.1 ∨ fr.2 ≤ fr.1) ∧ cc.size = (C.pl b).size ∧ VRs C x vx ∧ VRs C y vy ∧ Cells x ∧ Cells y ∧ vx.length = i * sz ∧ vy.length + i * sz = len * sz ∧
      cc.toList = pre ++ vx ++ vy ++ rest ∧ pre.length = (C.pl b).base + off := by
  obtain ⟨hd, ob, hx, hr⟩ := hS.live b _ hb
  cases hr with
  | cells hvs ha hsz hcs hf hp =>
  rename_i cc fr vs
  obtain ⟨vo, hy, hyd, hol, hco, _, hat⟩ := hvs.cut hold
  subst ho
  obtain ⟨vx, vy, rfl, h1, h2⟩ := hy.split
  have hvy : vy.length + i * sz = len * sz := by
    have := h2.length
    rw [List.length_append] at hol; omega
  obtain ⟨p1, q1, e1, e2⟩ := ha
  obtain ⟨p2, q2, e3, e4⟩ := hat
  exact ⟨cc, fr, vx, vy, p1 ++ p2, q2 ++ q1, hx, hf, hsz, h1, h2, (hco hcs).sub.1, (hco hcs).sub.2, h1.length.trans hxl, hvy, by rw [e1, e3]; simp, by rw [List.length_append, e2, e4]⟩
/-- There is room: the block's memory is taken over. -/
theorem room_two {C : Cx} {S : St} {w : World} (hS : StR C S w) {b off len n c sz i : Nat} {e : TypeId} {cs x y new : List AV} {vx vy xs pre rest : List Value} {part : Bool} {cc : Array Value} {fr : Nat × Nat} (hb : S.heap.get b = some (.cells cs e part))
    (hf : cc.size ≤ fr.1 ∨ fr.2 ≤ fr.1) (hsz : cc.size = (C.pl b).size) (h1 : VRs C x vx) (h2 : VRs C y vy) (hcx : Cells x) (hcy : Cells y) (hvx : vx.length = i * sz) (hvy : vy.length + i * sz = len * sz) (hcl : cc.toList = pre ++ vx ++ vy ++ rest) (hpl : pre.length = (C.pl b).base + off)
    (hn : VRs C new xs) (hcn : Cells new) (hnl : xs.length = n * sz) (hend : (C.pl b).base + off + c * sz = (C.pl b).size) (hs0 : 0 < sz) (hfit : len + n ≤ c) (k : Nat) :
    ∃ C', Tran C S w C' ((S.put b none).alloc (.cells (x ++ new ++ y) e true)) { World.setBlk w (C.pl b).blk (.cells (putAt (putAt cc ((C.pl b).base + off + (i + n) * sz) vy) ((C.pl b).base + off + i * sz) xs) e fr) with drawn := k } ∧
      VR C' (.slice S.next 0 (len + n) sz none) (.slice (some ⟨(C.pl b).blk, (C.pl b).base + off, none⟩) (len + n) c) := by
  have hmul : (len + n) * sz ≤ c * sz := Nat.mul_le_mul_right sz hfit
  rw [Nat.add_mul] at hmul
  have hlen := congrArg List.length hcl
  simp only [List.length_append, Array.length_toList] at hlen
  obtain ⟨post, hput⟩ := put_two hcl (xs := xs) (by omega)
  rw [hpl, hvx, hnl, show (C.pl b).base + off + i * sz + n * sz = (C.pl b).base + off + (i + n) * sz by rw [Nat.add_mul]; omega] at hput
  refine ⟨C.withBlock S.next ⟨(C.pl b).blk, (C.pl b).base + off, (C.pl b).size⟩, ?_, ?_⟩
  · have he' := Ext.withBlock (C := C) (b := S.next) (p := ⟨(C.pl b).blk, (C.pl b).base + off, (C.pl b).size⟩) (fun hd => Nat.lt_irrefl _ (hS.fresh _ hd))
    have t := Tran.takeover hS hb (.cells (x ++ new ++ y) e true) (.cells (putAt (putAt cc ((C.pl b).base + off + (i + n) * sz) vy) ((C.pl b).base + off + i * sz) xs) e fr) ((C.pl b).base + off) (C.pl b).size
      (.cells (vs := vx ++ xs ++ vy) (((h1.append hn).append h2).mono he') (by rw [Cx.pl_new, hput]; exact ⟨pre, post, rfl, hpl⟩) (by rw [Cx.pl_new, putAt_size, putAt_size]; exact hsz) ((hcx.append hcn).append hcy)
        (by rw [putAt_size, putAt_size]; exact hf) (fun h => by cases h))
    exact t.trans (Tran.drew t.st k)
  · have := VR.slice (C := C.withBlock S.next ⟨(C.pl b).blk, (C.pl b).base + off, (C.pl b).size⟩) (b := S.next) (off := 0) (len := len + n) (sz := sz) (cap := none) (c := c) (Cx.D_new _ _ _)
      (by simp only [CapR, Cx.pl_new]; exact ⟨by simpa using hend, hs0⟩) hfit
    rw [Cx.pl_new] at this
    exact this
theorem put_two2 {cc : Array Value} {vx vy xs rest : List Value} (h : cc.toList = vx ++ rest) (hr : xs.length + vy.length ≤ rest.length) :
    ∃ post, (putAt (putAt cc vx.length xs) (vx.length + xs.length) vy).toList = vx ++ xs ++ vy ++ post := by
  obtain ⟨A, B, D, rfl, hA, hB⟩ : ∃ A B D, rest = A ++ B ++ D ∧ A.length = xs.length ∧ B.length = vy.length := by
    refine ⟨rest.take xs.length, (rest.drop xs.length).take vy.length, (rest.drop xs.length).drop vy.length, ?_, ?_, ?_⟩
    · rw [List.append_assoc, List.take_append_drop, List.take_append_drop]
    · rw [List.length_take]; omega
    · rw [List.length_take, List.length_drop]; omega
  have h1 : (putAt cc vx.length xs).toList = vx ++ xs ++ (B ++ D) := putAt_list xs cc _ vx A (B ++ D) (by rw [h]; simp only [List.append_assoc]) rfl hA
  exact ⟨D, putAt_list vy _ _ (vx ++ xs) B D (by rw [h1]; simp only [List.append_assoc]) (by rw [List.length_append]) hB⟩
/-- There is none: new cells. -/
theorem more_two {C : Cx} {S : St} {w : World} (hS : StR C S w) {x new y : List AV} {vx xs vy rest : List Value} (h1 : VRs C x vx) (hn : VRs C new xs) (h2 : VRs C y vy) (hc : Cells (x ++ new ++ y)) {e : TypeId} {sz len n G : Nat} {c : Array Value}
    (hcl : c.toList = (vx ++ xs ++ vy) ++ rest) (hs0 : 0 < sz) (hsize : c.size = G * sz) (hG : len + n ≤ G) (k : Nat) :
    ∃ C', Tran C S w C' (S.alloc (.cells (x ++ new ++ y) e true)) { World.pushed w (.cells c e (0, 0)) with drawn := k } ∧ VR C' (.slice S.next 0 (len + n) sz none) (.slice (some ⟨w.heap.size, 0, none⟩) (len + n) G) := by
  have t := make_cells hS (cs := x ++ new ++ y) (c := c) (vs := vx ++ xs ++ vy) (ex := rest) ((h1.append hn).append h2) hcl hc e true (fun h => by cases h)
  exact ⟨_, t.trans (Tran.drew t.st k), fresh_slice (cap := none) ⟨hsize.symm, hs0⟩ hG⟩
/-- What the machine has to know of the types of such a function. -/
structure InsTys (E : Env) (tS tI e sz by_ : Nat) (z : AV) : Prop where
  hu : und E tS = some (.slice e)
  hI : und E tI = some (.int .i64)
  hsz : Am.sizeOf E e = some sz
  hby : bytesOf E e = some by_
  hz : zeroOf E e = some z
  hzl : z.cells.length = sz
  hs0 : sz ≠ 0
theorem blt_of {a b : Nat} (h : Nat.blt a b = true) : a < b := by simpa [Nat.blt_eq] using h
theorem InsTys.zeros {E : Env} {tS tI e sz by_ : Nat} {z : AV} (ht : InsTys E tS tI e sz by_ z) : isZeros E (some tS) = false ∧ isZeros E (some tI) = true := ⟨by simp only [isZeros, ht.hu], by simp only [isZeros, ht.hI]⟩
/-- At the end: the model's append. -/
theorem ins_app (he : EnvOk E P) {tS tI e sz by_ m : Nat} {z : AV} (ht : InsTys E tS tI e sz by_ z) {C : Cx} {S S' : St} {w : World} (hS : StR C S w) {x v : AV} {xv yv : Value} {new : List AV} {xs : List Value} (hx : VR C x xv) (hn : VRs C new xs) (hcn : Cells new) (hl : xs.length = m * sz)
    (hlen : (Builtin.lenOf yv).run P w = .ok m w) (hf : ∀ w', w'.heap = w.heap → (Builtin.firstCells sz m yv).run P w' = .ok xs.toArray w') (h : appendTo S e sz by_ new m x = some (v, S')) :
    ∃ C' y w', (Builtin.append_ #[tS, tS] tS #[xv, yv]).run P w = .ok y w' ∧ Tran C S w C' S' w' ∧ VR C' v y := by
  obtain ⟨zv, hzv, hzr⟩ := run_zero' he ht.hz
  have hzsz : zv.cells.size = sz := by have := (hzr ⟨fun _ => ⟨0, 0, 0⟩, fun _ => none, fun _ => False, fun _ _ => 0, fun _ _ => False, fun _ => False⟩).cells.length; simpa [ht.hzl] using this
  have hR : AppRun P e sz by_ m xs zv.cells xv (Builtin.append_ #[tS, tS] tS #[xv, yv]) w := by
    refine ⟨fun a' len cap w' hx hfit hst => ?_, fun a' len cap olds hx hcap hsm hn0 ho => ?_⟩
    · rw [hx]
      exact run_append_fit he rfl ht.hu ht.hsz ht.zeros.1 hlen (hf w rfl) hfit (fun u hu => by cases hu; exact ⟨_, ht.hu⟩) hst
    · rw [hx]
      have := run_append_more he (ts := #[tS, tS]) (ty := tS) rfl ht.hu ht.hsz ht.hby ht.zeros.1 hlen (hf w.drew rfl) (olds := olds.toList) (by rw [← hx]; simpa using ho) hzv hcap hsm (fun u hu => by cases hu; exact ⟨_, ht.hu⟩)
      simpa using this
  exact appendTo_ok hS ht.hs0 hx hn hcn hl hzsz hR h
theorem whole_some {o : Option AObj} (h : wholeB o = true) : ∃ cs t, o = some (.cells cs t false) := by
  unfold wholeB at h
  split at h
  · exact ⟨_, _, rfl⟩
  · cases h
theorem ins_prim (he : EnvOk E P) {f tS tI e sz by_ : Nat} {z : AV} (hR : InsRun P f tS tI sz) (ht : InsTys E tS tI e sz by_ z) {args : List AV} {C : Cx} {S S' : St} {v : AV} {w : World} {xs : Array Value} {c : Frame} {cs : List Frame}
    (h : insP e sz by_ args S = some (v, S')) (hv : VRs C args xs.toList) (hS : StR C S w) : Returns P (lone (Frame.enter P f xs .normal) (c :: cs) w) c cs C S w (.val v S') := by
  apply returns_of
  unfold insP at h
  split at h
  · next x i vb vo m sz' mc =>
    obtain ⟨xs⟩ := xs
    cases hv with
    | cons hx hv =>
    cases hv with
    | cons hi hv =>
    cases hv with
    | cons hy hv =>
    cases hv
    cases hi
    rename_i xv yv
    cases hb1 : (wholeB (S.heap.get vb) && !(Nat.beq m 0)) with
    | false => rw [hb1] at h; cases h
    | true =>
    rw [hb1, cond_true] at h
    rw [Bool.and_eq_true] at hb1
    obtain ⟨⟨new, m2⟩, hp, hq⟩ := Option.bind_eq_some_iff.1 h
    clear h
    have hm0 : 0 < m := by
      rcases Nat.eq_zero_or_pos m with rfl | h
      · cases hb1.2
      · exact h
    obtain ⟨cv, tA, hvb⟩ := whole_some hb1.1
    obtain ⟨ya, yc0, xs, hya, hnew, hcn, hnl, hhere, -⟩ := sliceCells_ok hS hy hp
    cases hy with
    | slice0 => exact absurd hm0 (Nat.lt_irrefl _)
    | slice hvd hvc hvlc =>
    rename_i yc
    have hm2 : m = m2 := by cases hya; rfl
    have hya2 : ya = some ⟨(C.pl vb).blk, (C.pl vb).base + vo, none⟩ := by cases hya; rfl
    subst hm2 hya2
    clear hya
    have h : insV e sz by_ S new m i vb x = some (v, S') := hq
    clear hq
    dsimp only at hnew hcn hnl
    have hhere := hhere _ rfl
    have hlen : (Builtin.lenOf (.slice (some ⟨(C.pl vb).blk, (C.pl vb).base + vo, none⟩) m yc)).run P w = .ok m w := rfl
    have hfc : ∀ w', w'.heap = w.heap → (Builtin.firstCells sz m (.slice (some ⟨(C.pl vb).blk, (C.pl vb).base + vo, none⟩) m yc)).run P w' = .ok xs.toArray w' := fun w' hw => run_cells (hhere.heap hw) _ hnl
    have hend : ∀ {base : Option Addr} {n c : Nat}, xv = .slice base n c → i = n → n ≤ c → (base = none → n = 0) → appendTo S e sz by_ new m x = some (v, S') → Calls P f #[xv, .int .i64 i, .slice (some ⟨(C.pl vb).blk, (C.pl vb).base + vo, none⟩) m yc] w fun e w' => ∃ C' x, e = .returned x ∧ Tran C S w C' S' w' ∧ VR C' v x := by
      intro base n c hxe hi hnc hnil ha
      obtain ⟨C', y, w', hrun, t, hvr⟩ := ins_app he ht hS hx hnew hcn hnl hlen hfc ha
      subst hxe hi
      exact (hR.fin base i c m yc _ w w' y hnc hnil hm0 hrun).mono fun e W ⟨h1, h2⟩ => ⟨C', y, h1, h2 ▸ t, hvr⟩
    cases x with
    | nilslice =>
      unfold insV at h
      cases hi0 : Nat.beq i 0 with
      | false => rw [hi0] at h; cases h
      | true =>
      rw [hi0, cond_true] at h
      cases hx with
      | nilslice a _ => exact hend rfl (Nat.eq_of_beq_eq_true hi0) (Nat.le_refl _) (fun _ => rfl) h
    | slice b off len sz1 cap =>
      cases cap with
      | some k => cases h
      | none =>
      unfold insV at h
      cases hc : (Nat.beq sz1 sz && small (len + m) by_ && Nat.ble (len + m) 1048576 && !(Nat.beq b vb)) with
      | false => simp only [hc, cond_false] at h; cases h
      | true =>
      simp only [hc, cond_true] at h
      simp only [Bool.and_eq_true] at hc
      obtain ⟨⟨⟨hz1, hsm⟩, hble⟩, hbv⟩ := hc
      obtain rfl : sz1 = sz := Nat.eq_of_beq_eq_true hz1
      cases hx with
      | slice hbd hcap hlc =>
      rename_i cc
      cases hin : Nat.beq i len with
      | true =>
        rw [hin, cond_true] at h
        exact hend rfl (Nat.eq_of_beq_eq_true hin) hlc (fun h => by cases h) h
      | false =>
      rw [hin, cond_false] at h
      cases hob : S.heap.get b with
      | none => rw [hob] at h; cases h
      | some ob =>
      rw [hob] at h
      cases ob with
      | cells cs0 e0 part =>
        unfold insIn at h
        cases hc2 : (Nat.beq e e0 && Nat.blt i len) with
        | false => simp only [hc2, cond_false] at h; cases h
        | true =>
        simp only [hc2, cond_true] at h
        rw [Bool.and_eq_true] at hc2
        obtain rfl : e = e0 := Nat.eq_of_beq_eq_true hc2.1
        have hil := blt_of hc2.2
        obtain ⟨old, hold, h⟩ := Option.bind_eq_some_iff.1 h
        obtain ⟨x, hx, h⟩ := Option.bind_eq_some_iff.1 h
        obtain ⟨y, hy, h⟩ := Option.bind_eq_some_iff.1 h
        cases h
        obtain ⟨py, hpy, hxl⟩ := takeN_some hx
        obtain ⟨px, hpx, hpl⟩ := dropN_some hy
        have hxy : old = x ++ y := by
          have := (List.append_inj (hpx.symm.trans hpy) (hpl.trans hxl.symm)).1
          rw [hpx, this]
        have hsz0 : 0 < sz1 := Nat.pos_of_ne_zero ht.hs0
        have hbne : b ≠ vb := by rintro rfl; simp at hbv
        have hle : len + m ≤ 1048576 := Nat.le_of_ble_eq_true hble
        obtain ⟨_, obv, hvx, hvr⟩ := hS.live vb _ hvb
        cases hvr with
        | cells hvv hva hvs hvcs hvf hvp =>
        rename_i ccv frv vsv
        obtain ⟨-, -, rfl⟩ := hvp rfl
        have hne : (C.pl vb).blk ≠ (C.pl b).blk := fun e => hbne (hS.inj _ _ _ _ hvb hob e).symm
        obtain ⟨cc0, fr, vx, vy, pre, rest, hbk, hfr, hcsz, h1, h2, hcx, hcy, hvxl, hvyl, hcl, hprl⟩ := ins_parts hS hob hold hxy hxl
        have hcap2 := hcap.1
        have hbl := hS.lt hob
        have hvbl := hS.lt hvb
        have hrt := fun (hroom : len + m ≤ cc) (k : Nat) => room_two hS hob hfr hcsz h1 h2 hcx hcy hvxl hvyl hcl hprl hnew hcn hnl hcap2 hsz0 hroom k
        generalize hB : (C.pl b).blk = B at *
        generalize hO : (C.pl b).base + off = O at *
        by_cases hroom : len + m ≤ cc
        · have hmul : (len + m) * sz1 ≤ cc * sz1 := Nat.mul_le_mul_right sz1 hroom
          rw [Nat.add_mul] at hmul
          have st1 : (storeCells ⟨B, O + (i + m) * sz1, none⟩ vy).run P w.drew = .ok () (World.setBlk w.drew B (.cells (putAt cc0 (O + (i + m) * sz1) vy) e fr)) := by
            have := run_storeCells (P := P) vy (w := w.drew) (blk := B) (off := O + (i + m) * sz1) (i := 0) hbk hfr (by rw [Nat.add_mul]; omega) (h2.oneCells hcy)
            simpa using this
          have st2 : (storeCells ⟨B, O + i * sz1, none⟩ xs).run P (World.setBlk w.drew B (.cells (putAt cc0 (O + (i + m) * sz1) vy) e fr)) = .ok () (World.setBlk (World.setBlk w.drew B (.cells (putAt cc0 (O + (i + m) * sz1) vy) e fr)) B (.cells (putAt (putAt cc0 (O + (i + m) * sz1) vy) (O + i * sz1) xs) e fr)) := by
            have := run_storeCells (P := P) xs (w := World.setBlk w.drew B (.cells (putAt cc0 (O + (i + m) * sz1) vy) e fr)) (blk := B) (off := O + i * sz1) (i := 0) (setBlk_self hbl) (by rw [putAt_size]; exact hfr) (by rw [putAt_size]; omega) (hnew.oneCells hcn)
            simpa using this
          obtain ⟨C', t, hvr⟩ := hrt hroom w.drew.drawn
          refine (hR.room B O len cc i m yc _ _ w _ _ _ _ tA ccv.size e cc0.size hil hm0 hroom (by omega) hne (by simp [World.shape?, hvx]) (by simp [World.shape?, hbk]) (fun h0 => ?_) (by simp [World.frozen?, hvx]) (by simp [World.frozen?, hvx])
            (fun dc sc => run_copyC he ht.hu ht.hsz (k := len - i) (by show min _ _ = _; omega) (here_of (w := w.drew) hbk ⟨pre ++ vx, rest, by rw [hcl], by rw [List.length_append, hprl, hvxl]⟩) (by rw [Nat.sub_mul]; omega) st1 tI)
            (fun dc => run_copyC he ht.hu ht.hsz (k := m) (by show min _ _ = _; omega) (hhere.off (by rw [setBlk_off hne]; rfl)) hnl st2 tI)).mono fun e W ⟨g1, g2⟩ => ?_
          · have := Nat.mul_le_mul_right sz1 (show 1 ≤ m from hm0)
            omega
          · subst g1 g2
            refine ⟨C', _, rfl, ?_, hvr⟩
            rw [setBlk_setBlk]; exact t
        · have hr0 : len + m - i ≠ 0 := by omega
          have hir : i + (len + m - i) = len + m := by omega
          obtain ⟨zv, hzv, hzr⟩ := run_zero' he ht.hz
          have hzsz : zv.cells.size = sz1 := by have := (hzr ⟨fun _ => ⟨0, 0, 0⟩, fun _ => none, fun _ => False, fun _ _ => 0, fun _ _ => False, fun _ => False⟩).cells.length; simpa [ht.hzl] using this
          have happ := run_append_more0 he (ts := #[tS, tI]) (ty := tS) (k := .i64) (len := i) (cap := cc) (n := len + m - i) (a := some ⟨B, O, none⟩) rfl ht.hu ht.hsz ht.hby ht.zeros.2 (by omega) hzv (olds := vx) (w := w)
            (run_cells (w := w.drew) (here_of (w := w.drew) hbk ⟨pre, vy ++ rest, by rw [hcl, List.append_assoc], hprl⟩) _ hvxl) (by omega) (by rw [hir]; exact hsm) ht.hs0 hr0
          rw [hir] at happ
          have hG := grownCap_ge w (len + m) cc e
          generalize grownCap w (len + m) cc e = G at happ hG
          obtain ⟨ROW, hROW⟩ : ∃ R : Array Value, R = vx.toArray ++ (Builtin.zeroCells zv.cells (len + m - i) ++ Builtin.zeroCells zv.cells (G - (len + m))) := ⟨_, rfl⟩
          rw [← hROW] at happ
          have hRs : ROW.size = G * sz1 := by
            rw [hROW]
            simp only [Array.size_append, List.size_toArray, zeroCells_size, hzsz, hvxl]
            rw [← Nat.add_mul, ← Nat.add_mul]
            congr 1; omega
          have hRl : ROW.toList = vx ++ (Builtin.zeroCells zv.cells (len + m - i) ++ Builtin.zeroCells zv.cells (G - (len + m))).toList := by rw [hROW]; simp
          have hpush : ∀ X Y : Obj, (w.heap.push X).setIfInBounds w.heap.size Y = w.heap.push Y := fun X Y => by
            apply Array.ext_getElem?
            intro k
            rw [Array.getElem?_setIfInBounds, Array.getElem?_push, Array.getElem?_push, Array.size_push]
            by_cases hk : w.heap.size = k
            · subst hk; simp
            · rw [if_neg hk, if_neg fun e => hk e.symm, if_neg fun e => hk e.symm]
          have hold1 : ∀ k, k < w.heap.size → (w.drew.alloc (.cells ROW e)).heap[k]? = w.heap[k]? := fun k hk => by
            show (w.heap.push _)[k]? = _
            rw [Array.getElem?_push, if_neg (by omega)]
          have hnb : (w.drew.alloc (.cells ROW e)).heap[w.heap.size]? = some (.cells ROW e (0, 0)) := by
            show (w.heap.push _)[w.heap.size]? = _
            rw [Array.getElem?_push, if_pos rfl]
          have hsz1 : (w.drew.alloc (.cells ROW e)).heap.size = w.heap.size + 1 := Array.size_push ..
          have hlen2 : i * sz1 + m * sz1 + vy.length ≤ ROW.size := by
            have := Nat.mul_le_mul_right sz1 hG
            rw [Nat.add_mul] at this
            omega
          have st1 : (storeCells ⟨w.heap.size, i * sz1, none⟩ xs).run P (w.drew.alloc (.cells ROW e)) = .ok () (World.setBlk (w.drew.alloc (.cells ROW e)) w.heap.size (.cells (putAt ROW (i * sz1) xs) e (0, 0))) := by
            have := run_storeCells (P := P) xs (w := w.drew.alloc (.cells ROW e)) (blk := w.heap.size) (off := i * sz1) (i := 0) hnb (.inr (Nat.le_refl _)) (by omega) (hnew.oneCells hcn)
            simpa using this
          have st2 : (storeCells ⟨w.heap.size, (i + m) * sz1, none⟩ vy).run P (World.setBlk (w.drew.alloc (.cells ROW e)) w.heap.size (.cells (putAt ROW (i * sz1) xs) e (0, 0))).drew = .ok () (World.setBlk (World.setBlk (w.drew.alloc (.cells ROW e)) w.heap.size (.cells (putAt ROW (i * sz1) xs) e (0, 0))).drew w.heap.size (.cells (putAt (putAt ROW (i * sz1) xs) ((i + m) * sz1) vy) e (0, 0))) := by
            have := run_storeCells (P := P) vy (w := (World.setBlk (w.drew.alloc (.cells ROW e)) w.heap.size (.cells (putAt ROW (i * sz1) xs) e (0, 0))).drew) (blk := w.heap.size) (off := (i + m) * sz1) (i := 0) (setBlk_self (by rw [hsz1]; omega)) (.inr (Nat.le_refl _)) (by rw [putAt_size, Nat.add_mul]; omega) (h2.oneCells hcy)
            simpa using this
          obtain ⟨post, hput⟩ := put_two2 hRl (xs := xs) (vy := vy) (by
            have := congrArg List.length hRl
            rw [List.length_append, Array.length_toList] at this
            omega)
          rw [hvxl, hnl, ← Nat.add_mul] at hput
          have t1 := Tran.kill hS b
          obtain ⟨C', t, hvr⟩ := more_two t1.st h1 hnew h2 ((hcx.append hcn).append hcy) (e := e) hput hsz0 (by rw [putAt_size, putAt_size]; exact hRs) hG w.drew.drew.drawn
          refine (hR.grow B O len cc i m yc w.heap.size G _ w _ _ _ _ _ hil hm0 hlc (by omega) (by omega) hG (by rw [show (len : Int) + (m : Int) - (i : Int) = ((len + m - i : Nat) : Int) by omega]; exact happ)
            (fun dc => run_copyC he ht.hu ht.hsz (k := m) (by show min _ _ = _; omega) (hhere.off (hold1 _ hvbl)) hnl st1 tI)
            (fun dc sc => run_copyC he ht.hu ht.hsz (k := len - i) (by show min _ _ = _; omega) (here_of (fr := fr) (c := cc0) (by
              show (World.setBlk (w.drew.alloc (.cells ROW e)) w.heap.size _).heap[B]? = _
              rw [setBlk_off (by omega), hold1 _ hbl]; exact hbk) ⟨pre ++ vx, rest, by rw [hcl], by rw [List.length_append, hprl, hvxl]⟩) (by rw [Nat.sub_mul]; omega) st2 tI)).mono fun e W ⟨g1, g2⟩ => ?_
          subst g1 g2
          refine ⟨C', _, rfl, ?_, hvr⟩
          have hw : World.setBlk (World.setBlk (w.drew.alloc (.cells ROW e)) w.heap.size (.cells (putAt ROW (i * sz1) xs) e (0, 0))).drew w.heap.size (.cells (putAt (putAt ROW (i * sz1) xs) ((i + m) * sz1) vy) e (0, 0)) = { World.pushed w (.cells (putAt (putAt ROW (i * sz1) xs) ((i + m) * sz1) vy) e (0, 0)) with drawn := w.drew.drew.drawn } := by
            show ({ w with heap := ((w.heap.push _).setIfInBounds w.heap.size _).setIfInBounds w.heap.size _, drawn := _ } : World) = { w with heap := w.heap.push _, drawn := _ }
            rw [hpush, hpush]
            rfl
          rw [hw]
          exact t1.trans t
      | _ => cases h
    | _ => cases h
  · cases h
end
end Am
namespace Am
open Go
section
variable {P : Program} {nt nf : Nat} {F : FuncId → Nat} {K : FuncId → List AV → Option AV} {f tS tI e sz by_ : Nat} {z : AV}
theorem envI_fn {g : FuncId} {fn : Func} (hg : (envI P nt nf F K f e sz by_).fns.get g = some fn) : (envOf P nt nf 0 []).fns.get g = some fn := by
  have hg : ((trOf nf P.funcs.toList).set f none).get g = some fn := hg
  rw [get_set] at hg
  split at hg
  · cases hg
  · exact hg
theorem envI_ok (h : ProgOk P nt nf) (hb : ∃ fn b, P.funcs[f]? = some fn ∧ fn.body = some b ∧ (fn.name == "runtime.NumGoroutine") = false) : EnvOk (envI P nt nf F K f e sz by_) P := by
  have := envOf_ok h 0 []
  refine ⟨this.ty, fun g fn hg => this.fn g fn (envI_fn hg), this.flat, fun g fn hg => this.lone g fn (envI_fn hg), fun g q hq => ?_⟩
  have hq : (bif Nat.beq g f then some (insP e sz by_) else none) = some q := hq
  cases hgf : Nat.beq g f with
  | false => rw [hgf] at hq; cases hq
  | true => rw [Nat.eq_of_beq_eq_true hgf]; exact hb
theorem envI_ext (h : ProgOk P nt nf) (hb : ∃ fn b, P.funcs[f]? = some fn ∧ fn.body = some b ∧ (fn.name == "runtime.NumGoroutine") = false) : ExtOk (envI P nt nf F K f e sz by_) P :=
  ext_ok (envI_ok h hb) fun g fn hg => by
    have : P.funcs.toList[g]? = some fn := by rw [← trOf_get' nf P.funcs.toList g (by simpa using h.funcs)]; exact envI_fn hg
    exact (List.all_eq_true.1 h.outer) fn (List.mem_of_getElem? this)
/-- What is to be known of the function that is one step. -/
structure InsFn (P : Program) (nt nf : Nat) (f tS tI e sz by_ : Nat) (z : AV) : Prop where
  ok : ProgOk P nt nf
  body : ∃ fn b, P.funcs[f]? = some fn ∧ fn.body = some b ∧ (fn.name == "runtime.NumGoroutine") = false
  run : InsRun P f tS tI sz
  tys : ∀ F K, InsTys (envI P nt nf F K f e sz by_) tS tI e sz by_ z
theorem envI_memo (h : InsFn P nt nf f tS tI e sz by_ z) (hK : KnownAll P K) : MemoOk (envI P nt nf F K f e sz by_) P :=
  ⟨fun g args v hm C S w xs c cs _ hv hS => hK g args v hm C S w xs c cs hv hS, fun g q hq args S v S' hp C w xs c cs _ hv hS => by
    have hq : (bif Nat.beq g f then some (insP e sz by_) else none) = some q := hq
    cases hgf : Nat.beq g f with
    | false => rw [hgf] at hq; cases hq
    | true =>
      rw [hgf] at hq
      cases hq
      rw [Nat.eq_of_beq_eq_true hgf]
      exact ins_prim (envI_ok (F := F) (K := K) h.ok h.body) h.run (h.tys F K) hp hv hS⟩
theorem known_ofI (h : InsFn P nt nf f tS tI e sz by_ z) (hK : KnownAll P K) {g : FuncId} {args : List AV} {v : AV} (hc : CallTo (envI P nt nf F K f e sz by_) g args S0 v)
    (ha : args.all (closedV 40) = true) (hv : closedV 40 v = true) : KnownF P g args v := by
  intro C S w xs c cs hvs hS
  obtain ⟨N, hc⟩ := hc
  have hx := envI_ext (F := F) (K := K) (e := e) (sz := sz) (by_ := by_) h.ok h.body
  have he := envI_ok (F := F) (K := K) (e := e) (sz := sz) (by_ := by_) h.ok h.body
  have hcall := call_ok he hx (draw_ok he hx) (envI_memo h hK) (fun _ ev _ => merge_ok ev) N
  have := hcall g args (.same v) C.bare S0 w xs c cs (hc N (Nat.le_refl _)) (fun g cs hg => by cases hg) (closeds_bare 40 hvs ha) (s0_st C hS)
  obtain ⟨C1, x, w', hs, t, hvx⟩ := this
  have eb : Ext C1.bare (C.withM C1) := ⟨fun _ x => x.elim, fun _ x => x.elim, fun _ _ h => h, fun _ _ x => x.elim, fun _ _ x => x.elim, fun _ h => h⟩
  exact ⟨_, x, w', hs, frame_s0 hS t, (closed_bare 40 hvx hv).mono eb⟩
theorem addC_allI {α : Type} {g : FuncId} {enc : α → List AV} {res : α → AV} (h : InsFn P nt nf f tS tI e sz by_ z) (hK : KnownAll P K) (hc : ∀ a, CallTo (envI P nt nf F K f e sz by_) g (enc a) S0 (res a))
    (ha : ∀ a, (enc a).all (closedV 40) = true) (hv : ∀ a, closedV 40 (res a) = true) : KnownAll P (addC K g enc res) :=
  addC_known hK fun a => known_ofI h hK (hc a) (ha a) (hv a)
theorem callsI_of (h : InsFn P nt nf f tS tI e sz by_ z) (hK : KnownAll P K) {g : FuncId} {args : List AV} {b : Bool} (hmf : K g args = none) (hc : CallTo (envI P nt nf F K f e sz by_) g args S0 (.bool b))
    {w : World} {xs : Array Value} (ha : VRs (Cx.memory w) args xs.toList) : Calls P g xs w fun e w' => e = .returned (.bool b) ∧ Go.RowKit.Below w.heap.size w w' := by
  have hno : ∀ b o, ¬ S0.heap.get b = some o := fun b o hb => by rw [show S0.heap = .nil from rfl, nil_get'] at hb; cases hb
  obtain ⟨N, hc⟩ := hc
  have hc := callF_calls (envI_ok (F := F) (K := K) (e := e) (sz := sz) (by_ := by_) h.ok h.body) (envI_ext h.ok h.body) (envI_memo h hK) (n := N) (f := g) (args := args) (v := .bool b) hmf (hc N (Nat.le_refl _)) (C := Cx.memory w) (w := w) (xs := xs) (fun g cs hg => by cases hg) ha (memory_st w)
  intro cs
  obtain ⟨e, w', fr, ⟨C2, x, he', t, hv⟩, h2, h3, h4⟩ := hc cs
  refine ⟨e, w', fr, ⟨?_, ⟨t.misc.2.1, t.misc.1, t.misc.2.2, t.size, fun k hk => t.frame k hk fun b o hb => absurd hb (hno b o)⟩⟩, h2, h3, h4⟩
  cases hv
  exact he'
end
end Am
namespace Am
open Go
theorem KnownF.weak {P : Program} {f : FuncId} {args args' : List AV} {v v' : AV} (h : KnownF P f args' v) (ha : WeakL args args') (hv : Weak v v') : KnownF P f args v' :=
  fun C S w xs c cs hvs hS => by
    obtain ⟨C', x, w', h1, h2, h3⟩ := h C S w xs c cs (ha.vrs hvs) hS
    exact ⟨C', x, w', h1, h2, hv.vr h3⟩
end Am
namespace Am
open Go
/-! ### A function that calls itself on smaller arguments -/
/-- The contract for arguments that are no deeper. -/
noncomputable def lay {α : Type} (K : FuncId → List AV → Option AV) (g : FuncId) (enc : α → List AV) (res : α → AV) (deep : α → Nat) (d : Nat) : FuncId → List AV → Option AV := addC K g (fun p : { a : α // deep a ≤ d } => enc p.1) (fun p => res p.1)
section
variable {α : Type} {K : FuncId → List AV → Option AV} {g : FuncId} {enc : α → List AV} {res : α → AV} {deep : α → Nat} {d : Nat}
theorem lay_hit (hi : ∀ a b, enc a = enc b → a = b) (a : α) (h : deep a ≤ d) : lay K g enc res deep d g (enc a) = some (res a) :=
  addC_hit (enc := fun p : { a : α // deep a ≤ d } => enc p.1) (res := fun p => res p.1) (fun x y h => by rw [hi _ _ h]) ⟨a, h⟩
theorem lay_none (hi : ∀ a b, enc a = enc b → a = b) {a : α} (h : ¬ deep a ≤ d) : lay K g enc res deep d g (enc a) = none :=
  addC_none fun p e => h (by rw [← hi _ _ e]; exact p.2)
variable {P : Program} {nt nf : Nat} {F : FuncId → Nat} {f tS tI e sz by_ : Nat} {z : AV}
theorem lay_all (hK : KnownAll P K) (hi : ∀ a b, enc a = enc b → a = b) (hd : ∀ a, 0 < deep a) (step : ∀ d a, deep a = d + 1 → lay K g enc res deep d g (enc a) = none → KnownAll P (lay K g enc res deep d) → KnownF P g (enc a) (res a)) : KnownAll P (addC K g enc res) := by
  have key : ∀ d, KnownAll P (lay K g enc res deep d) := by
    intro d
    induction d with
    | zero => exact addC_known hK fun p => absurd (hd p.1) (by have := p.2; omega)
    | succ d ih =>
      refine addC_known hK fun p => ?_
      by_cases hp : deep p.1 ≤ d
      · exact ih _ _ _ (lay_hit hi p.1 hp)
      · exact step d p.1 (by have := p.2; omega) (lay_none hi hp) ih
  exact addC_known hK fun a => key (deep a) _ _ _ (lay_hit hi a (Nat.le_refl _))
theorem lay_known (h : InsFn P nt nf f tS tI e sz by_ z) (hK : KnownAll P K) (hi : ∀ a b, enc a = enc b → a = b) (hd : ∀ a, 0 < deep a) (ha : ∀ a, (enc a).all (closedV 40) = true) (hv : ∀ a, closedV 40 (res a) = true)
    (step : ∀ d a, deep a = d + 1 → lay K g enc res deep d g (enc a) = none → CallTo (envI P nt nf F (lay K g enc res deep d) f e sz by_) g (enc a) S0 (res a)) : KnownAll P (addC K g enc res) :=
  lay_all hK hi hd fun d a h1 h2 h3 => known_ofI h h3 (step d a h1 h2) (ha a) (hv a)
end
end Am
namespace Am
open Go
theorem CallTo.runsR {E : Env} {f : FuncId} {args : List AV} {s : St} {v : AV} (h : CallTo E f args s v) : RunsV E f args s fun x t => x = v ∧ t = s :=
  let ⟨N, h⟩ := h
  ⟨N, .same v, h, rfl, rfl⟩
end Am
namespace Am
open Go
/-- A slice that is surely there is not nil. -/
theorem OpL.notNil {E : Env} {fr : Fr} {l : Sl} {s : St} {o : Oper} {neg : Bool} {t e yt : TypeId} {x : Operand} {a : AV} (ho : o.op = .binOp (eqOp neg) t x (.const (.slice none 0 0)) yt) (hu : und E t = some (.slice e)) (hx : opndL x l = some a) (hn : nilA a = some [false]) :
    OpL E o fr l s (.bool neg) s := fun T hT => ⟨0, fun n _ k => by
  have hop : opC E o.type o.op = .pick fun T => (opnd E x T).bind fun a => (nilA a).bind fun l => some (boolsV neg l) := by
    rw [ho]
    show binC E (eqOp neg) t x _ = _
    rw [binC_eq (by rw [hu]; intro k h; cases h) (by rw [hu]; intro h; cases h)]
    unfold eqC
    rw [hu]; rfl
  rw [hop]
  show picksOut (k.run (ev E n) fr T) (((opnd E x T).bind fun a => (nilA a).bind fun l => some (boolsV neg l)).bind fun l => some (zipS s l)) = _
  rw [opndL_ok hT hx]
  simp only [Option.bind_some, hn]
  cases neg <;> rfl⟩
end Am
namespace Am
open Go
/-- No elements: an empty slice. -/
theorem OpQ.buildSlice0 {E : Env} {l : Sl} {o : Oper} {t e : TypeId} {sz : Nat} {z : AV} (ho : o.op = .buildSlice t 0 #[]) (hu : und E t = some (.slice e)) (hs : sizeOf E e = some sz) (hz : zeroOf E e = some z) (hk : (Nat.beq (len' z.cells) sz && Nat.ble (0 * sz) 16777216 && !(Nat.beq sz 0)) = true) : OpQ E o l .nilslice :=
  OpQ.makeV (f := fun T => (partsC E [] T).bind fun ps => buildSliceV e sz 0 (fillA (fun i => some (i * sz, sz)) ps (repeatA z.cells 0))) (by
    rw [ho]
    show buildSliceC E t 0 [] = _
    unfold buildSliceC
    rw [hu]
    simp only [hs, hz, hk, cond_true]) fun _ _ => rfl
/-- A list of records onto nothing: a new block. -/
theorem append_recs {α : Type} {enc : α → List AV} {k e by_ : Nat} (hk : ∀ a, (enc a).length = k) {l : List α} {s : St} (h0 : l.length ≠ 0) (hs : small l.length by_ = true) :
    appendedV s k (recs enc k l) = some (l.flatMap enc, l.length) ∧ appendTo s e k by_ (l.flatMap enc) l.length .nilslice = some (.slice s.next 0 l.length k none, s.alloc (.cells (l.flatMap enc) e true)) := by
  refine ⟨?_, ?_⟩
  · show (bif Nat.beq k k then (takeN (l.length * k) (l.flatMap enc)).bind fun l2 => some (l2, l.length) else none) = _
    rw [Nat.beq_refl, cond_true, ← flat_len hk l, takeN_all]; rfl
  · unfold appendTo
    have : Nat.beq l.length 0 = false := by
      cases h : Nat.beq l.length 0 with
      | false => rfl
      | true => exact absurd (Nat.eq_of_beq_eq_true h) h0
    simp only [this, hs, cond_false, cond_true]
end Am
namespace Am
open Go
/-- A list that grows, by one element somewhere. -/
theorem Grown.ins {s : St} {e e2 : TypeId} {sz by_ n k vb : Nat} {v : AV} {cs new : List AV} (h : Grown s e sz v cs n) (hvb : s.heap.get vb = some (.cells new e2 false)) (hnew : new.length = sz) (hown : ownB vb v = false) (hsz : 0 < sz) (hs1 : small 1 by_ = true) (hsm : small (n + 1) by_ = true) (hk : k ≤ n) (hle : n + 1 ≤ 1048576) :
    ∃ v' s', insP e sz by_ [v, .int .i64 (k : Nat), .slice vb 0 1 sz (some 1)] s = some (v', s') ∧ Grown s' e sz v' (cs.take (k * sz) ++ new ++ cs.drop (k * sz)) (n + 1) ∧ ownB s.next v' = true ∧ s'.next = s.next + 1 ∧ s'.bound = s.bound ∧ (∀ c ∈ s'.log, c ∈ s.log ∨ (c < s.bound ∧ ownB c v = true)) ∧
      ∀ c, c < s.next → ownB c v = false → s'.heap.get c = s.heap.get c := by
  have hsc : sliceCells s sz (.slice vb 0 1 sz (some 1)) = some (new, 1) := by
    show (bif Nat.beq sz sz then (cellsOf? (s.heap.get vb)).bind fun cs => (dropN 0 cs).bind fun l => (takeN (1 * sz) l).bind fun l => some (l, 1) else none) = _
    rw [Nat.beq_refl, hvb]
    show ((takeN (1 * sz) new).bind _) = _
    rw [Nat.one_mul, ← hnew, takeN_all]; rfl
  have hP : insP e sz by_ [v, .int .i64 (k : Nat), .slice vb 0 1 sz (some 1)] s = insV e sz by_ s new 1 k vb v := by
    show (bif wholeB (s.heap.get vb) && !(Nat.beq 1 0) then (sliceCells s sz (.slice vb 0 1 sz (some 1))).bind fun p => insV e sz by_ s p.1 p.2 k vb v else none) = _
    rw [hvb, hsc]; rfl
  rw [hP]
  have hend : k = n → (insV e sz by_ s new 1 k vb v = appendTo s e sz by_ new 1 v) → ∃ v' s', insV e sz by_ s new 1 k vb v = some (v', s') ∧ Grown s' e sz v' (cs.take (k * sz) ++ new ++ cs.drop (k * sz)) (n + 1) ∧ ownB s.next v' = true ∧ s'.next = s.next + 1 ∧ s'.bound = s.bound ∧ (∀ c ∈ s'.log, c ∈ s.log ∨ (c < s.bound ∧ ownB c v = true)) ∧
      ∀ c, c < s.next → ownB c v = false → s'.heap.get c = s.heap.get c := by
    rintro rfl he
    have hl : cs.length = k * sz := by
      rcases h with ⟨_, rfl, rfl⟩ | ⟨b, _, _, _, hl, _⟩
      · simp
      · exact hl
    obtain ⟨v', s', h1, h2, h3⟩ := h.append hnew hsz hs1 hsm
    refine ⟨v', s', he.trans h1, ?_, h3⟩
    rw [List.take_of_length_le (by omega), List.drop_eq_nil_of_le (by omega), List.append_nil]
    exact h2
  rcases h with ⟨rfl, rfl, rfl⟩ | ⟨b, rfl, hb, hg, hl, h0⟩
  · obtain rfl : k = 0 := by omega
    exact hend rfl rfl
  · have hbv : Nat.beq b vb = false := hown
    have hc : (Nat.beq sz sz && small (n + 1) by_ && Nat.ble (n + 1) 1048576 && !(Nat.beq b vb)) = true := by
      rw [Nat.beq_refl, hsm, Nat.ble_eq_true_of_le hle, hbv]; rfl
    have hV : insV e sz by_ s new 1 k vb (.slice b 0 n sz none) = (bif Nat.beq k n then appendTo s e sz by_ new 1 (.slice b 0 n sz none) else insIn s e sz k new 1 b 0 n (s.heap.get b)) := by
      show (bif Nat.beq sz sz && small (n + 1) by_ && Nat.ble (n + 1) 1048576 && !(Nat.beq b vb) then _ else _) = _
      rw [hc]; rfl
    cases hkn : Nat.beq k n with
    | true => exact hend (Nat.eq_of_beq_eq_true hkn) (by rw [hV, hkn]; rfl)
    | false =>
      have hlt : k < n := by
        have := Nat.ne_of_beq_eq_false hkn
        omega
      have hks : k * sz ≤ n * sz := Nat.mul_le_mul_right sz hk
      have hI : insV e sz by_ s new 1 k vb (.slice b 0 n sz none) = some (.slice s.next 0 (n + 1) sz none, (s.put b none).alloc (.cells (cs.take (k * sz) ++ new ++ cs.drop (k * sz)) e true)) := by
        rw [hV, hkn, cond_false, hg]
        show (bif Nat.beq e e && Nat.blt k n then (cut cs 0 (n * sz)).bind fun old => (takeN (k * sz) old).bind fun x => (dropN (k * sz) old).bind fun y => some (AV.slice s.next 0 (n + 1) sz none, (s.put b none).alloc (.cells (x ++ new ++ y) e true)) else none) = _
        rw [Nat.beq_refl, show Nat.blt k n = true from Nat.ble_eq_true_of_le hlt, cut_eq (by omega), List.drop_zero, ← hl, List.take_length]
        show ((takeN (k * sz) cs).bind _) = _
        rw [takeN_ok (by omega)]
        show ((dropN (k * sz) cs).bind _) = _
        rw [dropN_ok (by omega)]; rfl
      refine ⟨_, _, hI, .inr ⟨s.next, rfl, Nat.lt_succ_self _, get_set_same _ _ _, ?_, by omega⟩, Nat.beq_refl _, rfl, rfl, fun c hc => (mem_put (s := s) (b := b) (o := none) hc).imp id fun ⟨h1, h2⟩ => ⟨h2, by rw [h1]; exact Nat.beq_refl b⟩, fun c hc ho => ?_⟩
      · rw [List.length_append, List.length_append, List.length_take, List.length_drop, hnew, Nat.succ_mul]; omega
      · have hcb : c ≠ b := fun h => by rw [h, show ownB b (.slice b 0 n sz none) = true from Nat.beq_refl b] at ho; cases ho
        show ((s.heap.set b none).set s.next _).get c = _
        rw [get_set, if_neg (by omega), get_set, if_neg hcb]
end Am
namespace Am
open Go
/-- A new list, handed back by a call that wrote nothing of what was there before: nobody writes it any more. -/
theorem leave_list {E : Env} {f : FuncId} {s st : St} {b n k : Nat} {cap : Option Nat} {cs : List AV} {e : TypeId} {part : Bool} (hf : E.frz f = 1) (hl : st.log = []) (hb : s.next ≤ b) (hbd : st.bound = s.next) (hg : st.heap.get b = some (.cells cs e part)) (hlen : cs.length = n * k)
    (hm : ∀ j ks, frzV.many (frzV st s.next (j + 1)) cs ks = some (cs, ks)) (hcl : cs.all (closedV 40) = true) : leave E f s (.slice b 0 n k cap) st = some (.same (.islice cs n k true)) := by
  unfold leave frozen
  rw [hf, hl]
  simp only
  unfold frozenFrom
  rw [frz_slice (j := 39) hb hg hlen (hm 38 []), hcl]
  simp only [Option.bind_some]
  have hkl : (kill st [b]).log = [] := by rw [kill_log (fun c hc => by rw [List.mem_singleton] at hc; subst hc; omega), hl]
  rw [hkl]
  rfl
end Am
namespace Am
open Go
/-- What is told of new blocks, behind an append onto such a list. -/
def NewsG (nl : News) (i n : Nat) (v : AV) (nl2 : News) : Prop := ∀ p ∈ nl2, p ∈ nl ∨ (p.1 = i ∧ (n ≤ p.2 ∨ ownB p.2 v = true))
theorem NewsG.all {nl nl2 : News} {i n a : Nat} {v : AV} (h : NewsG nl i n v nl2) (h1 : (nl.all fun p => Nat.testBit a p.1) = true) (h2 : Nat.testBit a i = true) : (nl2.all fun p => Nat.testBit a p.1) = true :=
  List.all_eq_true.2 fun p hp => by
    rcases h p hp with h | ⟨h, _⟩
    · exact List.all_eq_true.1 h1 p h
    · rw [h]; exact h2
theorem NewsG.clear {nl nl2 : News} {i n a b : Nat} {v : AV} (h : NewsG nl i n v nl2) (h1 : clearB a b nl = true) (hb : b < n) (ho : ownB b v = false) : clearB a b nl2 = true := by
  unfold clearB at h1 ⊢
  refine List.all_eq_true.2 fun p hp => ?_
  rcases h p hp with h | ⟨_, h⟩
  · exact List.all_eq_true.1 h1 p h
  · have hne : Nat.beq p.2 b = false := by
      cases hq : Nat.beq p.2 b with
      | false => rfl
      | true =>
        have e := Nat.eq_of_beq_eq_true hq
        rcases h with h | h
        · omega
        · rw [e, ho] at h; cases h
    show (!(Nat.beq p.2 b) || _) = true
    rw [hne]; rfl
section
variable {E : Env} {fr : Fr} {l : Sl} {st : St} {o : Oper} {all rest : List Oper} {i : Nat} {js : List Nat} {nl : News} {K : Sl → St → Prop} {od : Option Nat}
/-- Several elements behind a list that append has made, in a region that draws its order. -/
theorem RegN.growAll {KN : PN} {c : Call} {t e : TypeId} {ts : List TypeId} {x y : Operand} {sz by_ n m : Nat} {z v w : AV} {cs new : List AV} (hgr : Grown st e sz v cs n) (hb : st.bound = 0) (hnew : new.length = m * sz) (hsz0 : 0 < sz) (hsm : small (n + m) by_ = true)
    (ho : o.op = .call c) (hc : c.callee = .builtin .append) (ht : c.argTypes.toList = t :: ts) (ha : c.args.toList = [x, y])
    (hu : und E t = some (.slice e)) (hsz : sizeOf E e = some sz) (hby : bytesOf E e = some by_) (hz : zeroOf E e = some z) (hk : (!(Nat.beq (len' z.cells) sz) || Nat.beq sz 0 || !(knownT E ts.head?)) = false) (h0 : isZeros E ts.head? = false)
    (hx : opndL x (restr (tmpsOf o.op.operands.toList) l) = some v) (hy : opndL y (restr (tmpsOf o.op.operands.toList) l) = some w) (hap : appendedV (st.sub st.heap) sz w = some (new, m))
    (hjs : seenB (ancOf all i) js = true) (hnl : (nl.all fun p => Nat.testBit (ancOf all i) p.1) = true) (hg : GuardOn all l o) (hd : o.dst = od) (hlt : dstOk fr.nt od = true)
    (h : ∀ v2 st2 nl2, Grown st2 e sz v2 (cs ++ new) (n + m) → (∀ c, ownB c v2 = true → ownB c v = true ∨ c = st.next) → st.next ≤ st2.next → st2.bound = 0 → st2.log = st.log → (∀ c, c < st.next → ownB c v = false → st2.heap.get c = st.heap.get c) → NewsG nl i st.next v nl2 →
      RegN E KN all rest (i + 1) fr (putL od v2 l) st2 (i :: js) nl2 K) : RegN E KN all (o :: rest) i fr l st js nl K := by
  have hG : Grown (st.sub st.heap) e sz v cs n := hgr.keep (Nat.le_refl _) fun _ _ => rfl
  obtain ⟨v2, s2, h1, h2, h3, h4, h5, h6, h7, h8⟩ := hG.appends (by_ := by_) hnew hsz0 hsm
  have e1 : (st.sub st.heap).next = st.next := rfl
  have e2 : (st.sub st.heap).bound = st.next := rfl
  have hlg : Loggd (st.sub st.heap) s2 := appendTo_lg (by omega) h1
  have hmg := Loggd.heapM (st := st) (by omega) hlg rfl
  have hlog : ∀ b ∈ s2.log, b < st.next ∧ ownB b v = true := fun b hb => by
    rcases h7 b hb with h | h
    · cases h
    · exact ⟨by omega, h.2⟩
  refine RegN.append ho hc ht ha hu hsz hby hz hk h0 hx hy hap h1 (by omega) (fun b hb => ⟨(hlog b hb).1, clear_all hnl⟩) hjs hnl hg hd hlt (h v2 (st.merged s2) _ (h2.keep (Nat.le_refl _) fun c hc => hmg c (h2.own hc)) h3 (show st.next ≤ s2.next by omega) hb ?_ (fun c hc ho => (hmg c (by omega)).trans (h8 c (by omega) ho)) fun p hp => ?_)
  · show below st.bound s2.log st.log = _
    rw [hb]
    have : ∀ L l : List Nat, below 0 L l = l := fun L => by
      induction L with
      | nil => intro l; rfl
      | cons b L ih => intro l; exact ih l
    exact this _ _
  · rcases newsOf_tag (n := st.next) (lg := s2.log) p hp with h | ⟨h1, h2⟩
    · exact .inl h
    · exact .inr ⟨h1, h2.imp id fun h => (hlog _ h).2⟩
end
end Am
namespace Am
open Go
theorem appended_part {s : St} {b off k sz : Nat} {cap : Option Nat} {cs : List AV} {e : TypeId} {part : Bool} (hg : s.heap.get b = some (.cells cs e part)) (h : off + k * sz ≤ cs.length) : appendedV s sz (.slice b off k sz cap) = some ((cs.drop off).take (k * sz), k) := by
  show (bif Nat.beq sz sz then (cellsOf? (s.heap.get b)).bind fun cs => (dropN off cs).bind fun l => (takeN (k * sz) l).bind fun l => some (l, k) else none) = _
  rw [Nat.beq_refl, hg]
  show ((dropN off cs).bind _) = _
  rw [dropN_ok (by omega)]
  show ((takeN (k * sz) (cs.drop off)).bind _) = _
  rw [takeN_ok (by rw [List.length_drop]; omega)]; rfl
theorem most_grown {sz n : Nat} {cs : List AV} (hl : cs.length = n * sz) (hsz : 0 < sz) : mostOf sz 0 n none cs = n := by
  show (bif Nat.beq sz 0 then n else (len' cs - 0) / sz) = n
  have : Nat.beq sz 0 = false := by
    cases h : Nat.beq sz 0 with
    | false => rfl
    | true => have := Nat.eq_of_beq_eq_true h; omega
  rw [this, cond_false, len'_eq, hl, Nat.sub_zero, Nat.mul_div_cancel _ hsz]
/-- The first elements of a list that append has made. -/
theorem Grown.cutTo {s : St} {e : TypeId} {sz n k : Nat} {v : AV} {cs : List AV} (h : Grown s e sz v cs n) (hsz : 0 < sz) (hk : k ≤ n) : ∃ p, ∀ s' : St, (∀ c, ownB c v = true → s'.heap.get c = s.heap.get c) →
    sliceSlV s' sz none (some (.int .i64 (k : Nat))) none v = some p ∧ appendedV s' sz p = some (cs.take (k * sz), k) := by
  have hb : ∀ m, k ≤ m → boundsA m m (some (.int .i64 (k : Nat))) = some k := fun m hm => bounds_some hm
  rcases h with ⟨rfl, rfl, rfl⟩ | ⟨b, rfl, hbn, hg, hl, h0⟩
  · obtain rfl : k = 0 := by omega
    exact ⟨.nilslice, fun s' _ => ⟨rfl, by rw [Nat.zero_mul]; rfl⟩⟩
  · refine ⟨.slice b (0 + 0 * sz) k sz none, fun s' hs => ?_⟩
    have hg' := (hs b (Nat.beq_refl b)).trans hg
    refine ⟨?_, ?_⟩
    · show (bif Nat.beq sz sz then (cellsOf? (s'.heap.get b)).bind fun cs => sliceV3 sz none (some (.int .i64 (k : Nat))) none b 0 n none (mostOf sz 0 n none cs) else none) = _
      rw [Nat.beq_refl, hg']
      show sliceV3 sz none (some (.int .i64 (k : Nat))) none b 0 n none (mostOf sz 0 n none cs) = _
      rw [most_grown hl hsz]
      show ((boundsA n n (some (.int .i64 (k : Nat)))).bind fun h => (boundsA 0 h none).bind fun l => sliceFrom sz b 0 (h - l) none n l) = _
      rw [hb n hk]
      show (bif Nat.blt 0 n then some (AV.slice b (0 + 0 * sz) (k - 0) sz none) else _) = _
      rw [show Nat.blt 0 n = true from Nat.ble_eq_true_of_le (Nat.pos_of_ne_zero h0)]; rfl
    · rw [appended_part hg' (by have := Nat.mul_le_mul_right sz hk; omega), Nat.zero_mul, List.drop_zero]
/-- And the others. -/
theorem Grown.cutFrom {s : St} {e : TypeId} {sz n k : Nat} {v : AV} {cs : List AV} (h : Grown s e sz v cs n) (hsz : 0 < sz) (hk : k ≤ n) : ∃ p, ∀ s' : St, (∀ c, ownB c v = true → s'.heap.get c = s.heap.get c) →
    sliceSlV s' sz (some (.int .i64 (k : Nat))) none none v = some p ∧ appendedV s' sz p = some (cs.drop (k * sz), n - k) := by
  rcases h with ⟨rfl, rfl, rfl⟩ | ⟨b, rfl, hbn, hg, hl, h0⟩
  · obtain rfl : k = 0 := by omega
    exact ⟨.nilslice, fun s' _ => ⟨rfl, by rw [Nat.zero_mul]; rfl⟩⟩
  · have key : ∀ s' : St, (∀ c, ownB c (AV.slice b 0 n sz none) = true → s'.heap.get c = s.heap.get c) → sliceSlV s' sz (some (.int .i64 (k : Nat))) none none (.slice b 0 n sz none) = sliceFrom sz b 0 (n - k) none n k := fun s' hs => by
      have hg' := (hs b (Nat.beq_refl b)).trans hg
      show (bif Nat.beq sz sz then (cellsOf? (s'.heap.get b)).bind fun cs => sliceV3 sz (some (.int .i64 (k : Nat))) none none b 0 n none (mostOf sz 0 n none cs) else none) = _
      rw [Nat.beq_refl, hg']
      show sliceV3 sz (some (.int .i64 (k : Nat))) none none b 0 n none (mostOf sz 0 n none cs) = _
      rw [most_grown hl hsz]
      show ((boundsA 0 n (some (.int .i64 (k : Nat)))).bind fun l => sliceFrom sz b 0 (n - l) none n l) = _
      rw [bounds_some hk]; rfl
    by_cases hkn : k < n
    · refine ⟨.slice b (0 + k * sz) (n - k) sz none, fun s' hs => ?_⟩
      have hg' := (hs b (Nat.beq_refl b)).trans hg
      have hm := Nat.sub_mul n k sz
      refine ⟨(key s' hs).trans ?_, ?_⟩
      · show (bif Nat.blt k n then _ else _) = _
        rw [show Nat.blt k n = true from Nat.ble_eq_true_of_le hkn]; rfl
      · have := Nat.mul_le_mul_right sz hk
        rw [appended_part hg' (by omega), Nat.zero_add, List.take_of_length_le (by rw [List.length_drop]; omega)]
    · obtain rfl : k = n := by omega
      refine ⟨.slice b (0 + k * sz) 0 sz (some 0), fun s' hs => ?_⟩
      have hg' := (hs b (Nat.beq_refl b)).trans hg
      refine ⟨(key s' hs).trans ?_, ?_⟩
      · show (bif Nat.blt k k then _ else bif Nat.beq (k - k) 0 then _ else _) = _
        rw [show Nat.blt k k = false by cases h : Nat.blt k k with
          | false => rfl
          | true => exact absurd (blt_of h) (Nat.lt_irrefl _), Nat.sub_self]; rfl
      · rw [appended_part hg' (by omega), Nat.zero_mul, List.take_zero, List.drop_eq_nil_of_le (by omega), Nat.sub_self]
section
variable {E : Env} {fr : Fr} {l : Sl} {st : St} {o : Oper} {all rest : List Oper} {i : Nat} {js : List Nat} {nl : News} {K : Sl → St → Prop} {od : Option Nat}
/-- Such a list, cut, in a region that draws its order. -/
theorem RegN.sliceG {KN : PN} {t e e2 : TypeId} {x : Operand} {lo hi : Option Operand} {sz n : Nat} {vlo vhi : Option AV} {v p : AV} {cs : List AV} (hgr : Grown st e2 sz v cs n) (ho : o.op = .slice t x lo hi none) (hu : und E t = some (.slice e)) (hs : sizeOf E e = some sz)
    (hx : opndL x (restr (tmpsOf o.op.operands.toList) l) = some v) (hlo : opndOL lo (restr (tmpsOf o.op.operands.toList) l) = some vlo) (hhi : opndOL hi (restr (tmpsOf o.op.operands.toList) l) = some vhi)
    (hv : ∀ s' : St, (∀ c, ownB c v = true → s'.heap.get c = st.heap.get c) → sliceSlV s' sz vlo vhi none v = some p) (hc : ∀ b, ownB b v = true → clearB (ancOf all i) b nl = true) (hg : GuardOn all l o) (hd : o.dst = od) (hlt : dstOk fr.nt od = true)
    (h : RegN E KN all rest (i + 1) fr (putL od p l) st (i :: js) nl K) : RegN E KN all (o :: rest) i fr l st js nl K := by
  rcases hgr with ⟨rfl, _, _⟩ | ⟨b, rfl, _, _, _, _⟩
  · have hop : opC E o.type o.op = .read (opnd E x) fun T s => (opnd E x T).bind fun a => (opndOC E lo T).bind fun l => (opndOC E hi T).bind fun h => (opndOC E none T).bind fun m => sliceSlV s sz l h m a := by
      rw [ho]
      show sliceC E t x lo hi none = _
      unfold sliceC
      rw [hu]
      simp only [hs]
    refine RegN.gen (by rw [hop]; rfl) (fun T news hnw hT => ⟨.inl (List.mem_cons_self ..), alone_of ⟨0, fun n _ k => ?_⟩⟩) (fun _ h => List.mem_cons_of_mem _ h) hg hd hlt h
    rw [hop]
    have hm : opndOC E none T = some none := rfl
    have hx' := opndL_ok hT hx (E := E)
    have hlo' := opndOL_ok hT hlo (E := E)
    have hhi' := opndOL_ok hT hhi (E := E)
    show valOut _ ((opnd E x T).bind fun a => (opndOC E lo T).bind fun l => (opndOC E hi T).bind fun h => (opndOC E none T).bind fun m => sliceSlV _ sz l h m a) = _
    rw [hx', hlo', hhi', hm]
    simp only [Option.bind_some]
    rw [show sliceSlV (st.sub (subHeap (ancOf all i) news st.heap (touchOf (SOp.read (opnd E x) fun T s => (opnd E x T).bind fun a => (opndOC E lo T).bind fun l => (opndOC E hi T).bind fun h => (opndOC E none T).bind fun m => sliceSlV s sz l h m a) T))) sz vlo vhi none .nilslice = some p from hv st (fun _ _ => rfl)]
    rfl
  · exact RegN.sliceM ho hu hs hx hlo hhi rfl (fun s' hs' => hv s' fun c hc => by
      have e := Nat.eq_of_beq_eq_true (show Nat.beq b c = true from hc)
      rw [← e]; exact hs') (hc b (Nat.beq_refl b)) hg hd hlt h
end
end Am
namespace Am
open Go
theorem EvtL.cutEX {E : Env} {fr : Fr} {l : Sl} {s : St} {Q : Ex → Fr → Sl → St → Prop} {a b : Code} {α : Type} (I : α → Sl × St) (G : α → Prop) (h1 : EvtL E a fr l s fun ex fr' l' s' => match ex with
      | .normal => fr' = fr ∧ ∃ x, G x ∧ s' = (I x).2 ∧ ∀ p ∈ (I x).1, look p.1 l' = some p.2
      | ex => Q ex fr' l' s') (h2 : ∀ x, G x → EvtL E b fr (I x).1 (I x).2 Q) : EvtL E a fr l s (SeqL E b Q) :=
  (h1.mono fun ex fr' l' s' h => by
    cases ex with
    | normal =>
      obtain ⟨e2, x, g, e3, e4⟩ := h
      subst e2 e3
      exact EvtL.sub (h2 x g) e4
    | _ => exact h)
end Am
