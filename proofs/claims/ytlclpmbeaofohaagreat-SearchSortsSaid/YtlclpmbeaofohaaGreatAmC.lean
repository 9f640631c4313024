/- The abstract machine: its operations are the model's, second part. -/
import Derived.Test.YtlclpmbeaofohaaGreatAmB
import Derived.Maps.AppendAt
set_option linter.unusedSectionVars false
set_option linter.unusedVariables false
set_option linter.unusedSimpArgs false

/- The abstract machine: its operations are the model's (13): append, as a whole. -/
namespace Am
open Go

section
variable {E : Env} {P : Program} (he : EnvOk E P)

/-- The model's row of zeros. -/
theorem zeroCells_size (z : Array Value) (n : Nat) : (Builtin.zeroCells z n).size = n * z.size := by simp [Builtin.zeroCells]

/-- New cells for what is appended. -/
theorem more_ok {C : Cx} {S : St} {w : World} (hS : StR C S w) {old new : List AV} {olds xs : List Value} (ho : VRs C old olds) (hn : VRs C new xs) (hco : Cells old) (hcn : Cells new)
    {e : TypeId} {sz len n nc : Nat} {z : Array Value} (hz : z.size = sz) (hs0 : 0 < sz) (hol : olds.length = len * sz) (hxl : xs.length = n * sz) (hnc : len + n ≤ nc) :
    ∃ C', Tran C S w C' (S.alloc (.cells (old ++ new) e true)) (w.drew.alloc (.cells (olds.toArray ++ (xs.toArray ++ Builtin.zeroCells z (nc - (len + n)))) e)) ∧
      VR C' (.slice S.next 0 (len + n) sz none) (.slice (some ⟨w.heap.size, 0, none⟩) (len + n) nc) := by
  have hw1 := Tran.drew hS (w.drawn + 1)
  have hsize : (olds.toArray ++ (xs.toArray ++ Builtin.zeroCells z (nc - (len + n)))).size = nc * sz := by
    simp only [Array.size_append, List.size_toArray, zeroCells_size, hol, hxl, hz]
    rw [← Nat.add_assoc, ← Nat.add_mul, ← Nat.add_mul]
    congr 1; omega
  refine ⟨_, hw1.trans (make_cells hw1.st (cs := old ++ new) (vs := olds ++ xs) (ex := (Builtin.zeroCells z (nc - (len + n))).toList) (ho.append hn) ?_ (hco.append hcn) e true (fun h => by cases h)), ?_⟩
  · simp
  · exact fresh_slice (cap := none) ⟨hsize.symm, hs0⟩ hnc

/-- A slice that reaches to its block's end is appended to in place: a block of the machine's own takes the memory over. -/
theorem place_ok {C : Cx} {S : St} {w : World} (hS : StR C S w) {b off len n c sz : Nat} {e : TypeId} {cs old new : List AV} {xs : List Value} {part : Bool} (hb : S.heap.get b = some (.cells cs e part))
    (hold : cut cs off (len * sz) = some old) (hn : VRs C new xs) (hcn : Cells new) (hxl : xs.length = n * sz) (hend : (C.pl b).base + off + c * sz = (C.pl b).size) (hs0 : 0 < sz) (hfit : len + n ≤ c) :
    ∃ C' w', (storeCells ⟨(C.pl b).blk, (C.pl b).base + off + len * sz, none⟩ xs).run P w = .ok () w' ∧ Tran C S w C' ((S.put b none).alloc (.cells (old ++ new) e true)) w' ∧
      VR C' (.slice S.next 0 (len + n) sz none) (.slice (some ⟨(C.pl b).blk, (C.pl b).base + off, none⟩) (len + n) c) := by
  obtain ⟨hd, x, hx, hr⟩ := hS.live b _ hb
  cases hr with
  | cells hvs ha hsz hcs hf hp =>
  rename_i cc fr vs
  obtain ⟨y, hy, hyd, hol, hco, _, hat⟩ := hvs.cut hold
  have hyl : y.length = len * sz := hy.length.trans hol
  have hmul : (len + n) * sz ≤ c * sz := Nat.mul_le_mul_right sz hfit
  rw [Nat.add_mul] at hmul
  have hone : ∀ u ∈ xs, u.oneCell' = true := by
    intro u hu
    obtain ⟨i, hi⟩ := List.getElem?_of_mem hu
    have hil : i < new.length := by
      have := hn.length
      rcases Nat.lt_or_ge i xs.length with h' | h'
      · omega
      · rw [List.getElem?_eq_none h'] at hi; cases hi
    obtain ⟨y', hy', hr⟩ := hn.get (List.getElem?_eq_getElem hil)
    rw [hi] at hy'; cases hy'
    exact hr.oneCell (hcn _ (List.getElem_mem hil))
  have hrun := run_storeCells (P := P) xs (blk := (C.pl b).blk) (off := (C.pl b).base + off + len * sz) (i := 0) hx hf (by omega) hone
  refine ⟨C.withBlock S.next ⟨(C.pl b).blk, (C.pl b).base + off, (C.pl b).size⟩, _, by simpa using hrun, ?_, ?_⟩
  · refine Tran.takeover hS hb _ _ ((C.pl b).base + off) (C.pl b).size ?_
    have he' := Ext.withBlock (C := C) (b := S.next) (p := ⟨(C.pl b).blk, (C.pl b).base + off, (C.pl b).size⟩) (fun hd => Nat.lt_irrefl _ (hS.fresh _ hd))
    have hxat : ∃ pre mid post, cc.toList = pre ++ y ++ mid ++ post ∧ pre.length = (C.pl b).base + off ∧ mid.length = xs.length := by
      obtain ⟨p1, q1, e1, e2⟩ := ha
      obtain ⟨p2, q2, e3, e4⟩ := hat
      have hlen := congrArg List.length e1
      rw [e3] at hlen
      simp only [List.length_append, Array.length_toList] at hlen
      refine ⟨p1 ++ p2, (q2 ++ q1).take xs.length, (q2 ++ q1).drop xs.length, ?_, by simp [e2, e4], ?_⟩
      · rw [e1, e3, List.append_assoc _ (List.take _ _), List.take_append_drop]; simp
      · rw [List.length_take]
        apply Nat.min_eq_left
        simp only [List.length_append]
        omega
    obtain ⟨pre, mid, post, hcl, hpl, hml⟩ := hxat
    have hput := putAt_list xs cc ((C.pl b).base + off + len * sz) (pre ++ y) mid post hcl (by simp [hpl, hyl]) hml
    refine .cells (vs := y ++ xs) ((hy.append hn).mono he') ?_ ?_ ((hco hcs).append hcn) (by rw [putAt_size]; exact hf) (fun h => by cases h)
    · rw [Cx.pl_new, hput]
      exact ⟨pre, post, by simp, hpl⟩
    · rw [Cx.pl_new, putAt_size]; exact hsz
  · have := VR.slice (C := C.withBlock S.next ⟨(C.pl b).blk, (C.pl b).base + off, (C.pl b).size⟩) (b := S.next) (off := 0) (len := len + n) (sz := sz) (cap := none) (c := c) (Cx.D_new _ _ _)
      (by simp only [CapR, Cx.pl_new]; exact ⟨by simpa using hend, hs0⟩) hfit
    rw [Cx.pl_new] at this
    exact this
end
end Am

/- The abstract machine: its operations are the model's (14): append, as a whole. -/
namespace Am
open Go

section
variable {E : Env} {P : Program} (he : EnvOk E P)

theorem drew_heap (w : World) : w.drew.heap = w.heap := rfl

/-- What has to be known of the model's append: when there is room; when there is none. -/
structure AppRun (P : Program) (e : TypeId) (sz by_ n : Nat) (xs : List Value) (z : Array Value) (x : Value) (R : Sem Value) (w : World) : Prop where
  fit : ∀ a len cap w', x = .slice a len cap → len + n ≤ cap → StoreTo P a (len * sz) xs w w' →
    R.run P w = .ok (.slice a (len + n) cap) w'
  more : ∀ a len cap olds, x = .slice a len cap → cap < len + n → small (len + n) by_ = true → n ≠ 0 → (Builtin.firstCells sz len x).run P w.drew = .ok olds w.drew →
    R.run P w = .ok (.slice (some ⟨w.heap.size, 0, none⟩) (len + n) (grownCap w (len + n) cap e))
      (w.drew.alloc (.cells (olds ++ (xs.toArray ++ Builtin.zeroCells z (grownCap w (len + n) cap e - (len + n)))) e))

theorem fitsA_spec {sz len n : Nat} {cap : Option Nat} {l : List AV} (h : fitsA sz len n cap l = true) : match cap with | some c => len + n ≤ c | none => (len + n) * sz ≤ l.length := by
  cases cap with
  | some c => exact Nat.le_of_ble_eq_true h
  | none => have := Nat.le_of_ble_eq_true h; simpa using this
theorem fitsA_not {sz len n : Nat} {cap : Option Nat} {l : List AV} (h : fitsA sz len n cap l = false) : ∀ c, cap = some c → c < len + n := by
  rintro c rfl
  simp only [fitsA] at h
  rcases Nat.lt_or_ge c (len + n) with h' | h'
  · exact h'
  · have : Nat.ble (len + n) c = true := Nat.ble_eq_true_of_le h'
    rw [this] at h; cases h

theorem appendTo_ok {C : Cx} {S S' : St} {w : World} (hS : StR C S w) {e : TypeId} {sz by_ n : Nat} (hs0 : sz ≠ 0) {new : List AV} {xs : List Value} {z : Array Value} {v r : AV} {x : Value} {R : Sem Value}
    (hv : VR C v x) (hn : VRs C new xs) (hcn : Cells new) (hxl : xs.length = n * sz) (hz : z.size = sz) (hR : AppRun P e sz by_ n xs z x R w)
    (h : appendTo S e sz by_ new n v = some (r, S')) : ∃ C' y w', R.run P w = .ok y w' ∧ Tran C S w C' S' w' ∧ VR C' r y := by
  -- nothing is appended
  have none_ : ∀ a len cap, x = .slice a len cap → len ≤ cap → n = 0 → R.run P w = .ok x w := by
    intro a len cap hx hlc h0
    subst h0
    have : xs = [] := List.eq_nil_of_length_eq_zero (by simpa using hxl)
    subst this
    have := hR.fit a len cap w hx hlc (by cases a <;> simp [StoreTo, storeCells])
    rw [this, hx]
    rfl
  have bz : ∀ {b : Bool} {A B : Option (AV × St)}, (b = true → A = some (r, S') → ∃ C' y w', R.run P w = .ok y w' ∧ Tran C S w C' S' w' ∧ VR C' r y) →
      (b = false → B = some (r, S') → ∃ C' y w', R.run P w = .ok y w' ∧ Tran C S w C' S' w' ∧ VR C' r y) → (bif b then A else B) = some (r, S') →
      ∃ C' y w', R.run P w = .ok y w' ∧ Tran C S w C' S' w' ∧ VR C' r y := by
    intro b A B ha hb h
    cases b with
    | true => exact ha rfl h
    | false => exact hb rfl h
  have n0 : Nat.beq n 0 = false → n ≠ 0 := by rintro h rfl; cases h
  -- new cells
  have more_ : ∀ {S1 : St}, Tran C S w C S1 w → ∀ {old : List AV} {olds : List Value} {a : Option Addr} {len cap : Nat}, x = .slice a len cap → cap < len + n → small (len + n) by_ = true → n ≠ 0 →
      VRs C old olds → Cells old → olds.length = len * sz → (Builtin.firstCells sz len x).run P w.drew = .ok olds.toArray w.drew →
      r = .slice S1.next 0 (len + n) sz none → S' = S1.alloc (.cells (old ++ new) e true) → ∃ C' y w', R.run P w = .ok y w' ∧ Tran C S w C' S' w' ∧ VR C' r y := by
    intro S1 t1 old olds a len cap hx hcap hsm hn0 ho hco hol hfc hr hS'
    subst hr; subst hS'
    have hrun := hR.more a len cap olds.toArray hx hcap hsm hn0 hfc
    obtain ⟨C', t, hvr⟩ := more_ok (e := e) t1.st ho hn hco hcn hz (Nat.pos_of_ne_zero hs0) hol hxl (grownCap_ge w (len + n) cap e)
    exact ⟨C', _, _, hrun, t1.trans t, hvr⟩
  have blocks : ∀ {b off len c : Nat} {cap : Option Nat} {a : Addr}, VR C (.slice b off len sz cap) x → x = .slice (some a) len c → C.D b → len ≤ c →
      (a = ⟨(C.pl b).blk, (C.pl b).base + off, none⟩ ∨ (c = 0 ∧ cap = some 0)) →
      (match cap with | some 0 => len = 0 ∧ (c = 0 ∨ (C.pl b).base + off + c * sz = (C.pl b).size) | some k => c = k | none => (C.pl b).base + off + c * sz = (C.pl b).size) → n ≠ 0 → small (len + n) by_ = true →
      appendOb S e sz new n b off len cap (S.heap.get b) = some (r, S') → ∃ C' y w', R.run P w = .ok y w' ∧ Tran C S w C' S' w' ∧ VR C' r y := by
    intro b off len c cap a hvx hx hd hlc ha hcap hn0 hsm h
    cases hb : S.heap.get b with
    | none => rw [hb] at h; simp [appendOb] at h
    | some ob =>
    rw [hb] at h
    unfold appendOb at h
    split at h
    · next cs e0 sl heq =>
      cases heq
      unfold appendIn at h
      obtain ⟨l, hl, h⟩ := Option.bind_eq_some_iff.1 h
      revert h
      refine bz ?_ ?_
      · -- it fits
        intro hf h
        obtain ⟨cs', hov, h⟩ := Option.bind_eq_some_iff.1 h
        cases h
        have hf' := fitsA_spec hf
        have hw : writeAt S b (off + len * sz) new = some (S.put b (some (.cells cs' e0 sl))) := by
          simp [writeAt, hb, writeIn, putCells, hov]
        obtain ⟨w', hrun, t, _⟩ := write_ok (P := P) hS hn hcn hw
        obtain ⟨_, c', ty, fr, vs, hx', hvs, hat, hsz, _, _⟩ := hS.cells (b := b) (cs := cs) (by rw [hb]; rfl)
        have hle : len + n ≤ c := by
          cases cap with
          | some k =>
            cases k with
            | zero => simp only at hf'; omega
            | succ k => simp only at hf' hcap; omega
          | none =>
            simp only at hf' hcap
            obtain ⟨pre, hpre, hpl⟩ := dropN_some hl
            have h1 := hvs.length
            have h2 := hat.le
            simp only [Array.length_toList] at h2
            have h3 : cs.length = off + l.length := by rw [hpre]; simp [hpl]
            have : (len + n) * sz ≤ c * sz := by omega
            exact Nat.le_of_mul_le_mul_right this (Nat.pos_of_ne_zero hs0)
        have ha' : a = ⟨(C.pl b).blk, (C.pl b).base + off, none⟩ := by
          rcases ha with ha | ⟨hc0, hc1⟩
          · exact ha
          · omega
        subst ha'
        refine ⟨C, _, w', hR.fit _ _ _ w' hx hle ?_, t, ?_⟩
        · simp only [StoreTo, add_none]
          rw [Nat.add_assoc]; exact hrun
        · refine .slice hd ?_ hle
          cases cap with
          | some k =>
            cases k with
            | zero => simp only at hf'; omega
            | succ k => exact ⟨hcap, by omega⟩
          | none => exact ⟨hcap, Nat.pos_of_ne_zero hs0⟩
      · -- it does not
        intro hf
        refine bz ?_ (fun _ h => by cases h)
        intro hc h
        obtain ⟨old, hold, h⟩ := Option.bind_eq_some_iff.1 h
        cases h
        have hcut : cut cs off (len * sz) = some old := by unfold cut; rw [hl]; exact hold
        have hsc : sliceCells S sz (.slice b off len sz cap) = some (old, len) := by
          simp [sliceCells, hb, cellsOf?, hl, hold]
        obtain ⟨olds, _, ho, hco, hol, hfc⟩ := firstCells_ok (P := P) hS hvx hsc
        by_cases hroom : len + n ≤ c
        · have htail : tailO cap = true := by
            cases cap with
            | none => rfl
            | some k =>
              cases k with
              | zero => rfl
              | succ k => have := fitsA_not hf _ rfl; simp only at hcap; omega
          have hee : e = e0 := by
            rw [htail] at hc
            simp only [Bool.not_true, Bool.or_false] at hc
            exact Nat.eq_of_beq_eq_true hc
          subst hee
          have ha' : a = ⟨(C.pl b).blk, (C.pl b).base + off, none⟩ ∧ (C.pl b).base + off + c * sz = (C.pl b).size := by
            cases cap with
            | none => exact ⟨ha.resolve_right (fun h => by cases h.2), hcap⟩
            | some k =>
              cases k with
              | zero =>
                obtain ⟨hl0, hcc⟩ := hcap
                have : c ≠ 0 := by omega
                exact ⟨ha.resolve_right (fun h => this h.1), hcc.resolve_left this⟩
              | succ k => cases htail
          obtain ⟨rfl, hend⟩ := ha'
          obtain ⟨C', w', hrun, t, hvr⟩ := place_ok (P := P) hS hb hcut hn hcn hxl hend (Nat.pos_of_ne_zero hs0) hroom
          have hfr : freed S b cap = S.put b none := by unfold freed; rw [htail]; rfl
          rw [hfr]
          exact ⟨C', _, w', hR.fit _ _ _ w' hx hroom (by simp only [StoreTo, add_none]; exact hrun), t, hvr⟩
        · have t1 : Tran C S w C (freed S b cap) w := by
            unfold freed
            cases tailO cap with
            | true => exact Tran.kill hS b
            | false => exact Tran.refl hS
          refine more_ t1 hx (by omega) hsm hn0 ho hco hol (hfc w.drew (drew_heap w)) ?_ rfl
          unfold freed
          cases tailO cap <;> rfl
    · cases h
  cases hv with
  | nilslice a hx0 =>
    simp only [appendTo] at h
    revert h
    refine bz ?_ ?_
    · intro h0 h
      cases h
      have := Nat.eq_of_beq_eq_true h0
      exact ⟨C, _, w, none_ a 0 0 rfl (Nat.le_refl _) this, Tran.refl hS, .nilslice a hx0⟩
    · intro h0
      refine bz ?_ (fun _ h => by cases h)
      intro hsm h
      cases h
      refine more_ (Tran.refl hS) (olds := []) (old := []) rfl (by have := n0 h0; omega) (by simpa using hsm) (n0 h0) .nil (fun _ h => by cases h) (by simp) ?_ (by simp) (by simp)
      cases a with
      | none => rfl
      | some a => simp [Builtin.firstCells, loadCells, loadCellsFrom]
  | islice0 a hl hlc =>
    simp only [appendTo] at h
    revert h
    refine bz ?_ (fun _ h => by cases h)
    intro h0 h
    cases h
    have := Nat.eq_of_beq_eq_true h0
    exact ⟨C, _, w, none_ _ _ _ rfl hlc this, Tran.refl hS, .islice0 a hl hlc⟩
  | islice hl hm ha hvs hc hcs hlc =>
    simp only [appendTo] at h
    revert h
    refine bz ?_ (fun _ h => by cases h)
    intro h0 h
    cases h
    have := Nat.eq_of_beq_eq_true h0
    exact ⟨C, _, w, none_ _ _ _ rfl hlc this, Tran.refl hS, .islice hl hm ha hvs hc hcs hlc⟩
  | slice hd hc hlc =>
    rename_i b off len sz' cap c
    simp only [appendTo] at h
    revert h
    refine bz ?_ ?_
    · intro h0 h
      cases h
      have := Nat.eq_of_beq_eq_true h0
      exact ⟨C, _, w, none_ _ _ _ rfl hlc this, Tran.refl hS, .slice hd hc hlc⟩
    · intro h0
      refine bz ?_ (fun _ h => by cases h)
      intro hsm h
      simp only [Bool.and_eq_true] at hsm
      have hz' : sz' = sz := Nat.eq_of_beq_eq_true hsm.1
      subst hz'
      refine blocks (.slice hd hc hlc) rfl hd hlc (.inl rfl) ?_ (n0 h0) hsm.2 h
      cases cap with
      | none => exact hc.1
      | some k =>
        cases k with
        | zero => exact absurd hc.2 (Nat.lt_irrefl _)
        | succ k => exact hc.1
  | slice0 hx0 hd hc =>
    rename_i b off sz' a c
    simp only [appendTo] at h
    revert h
    refine bz ?_ ?_
    · intro h0 h
      cases h
      have := Nat.eq_of_beq_eq_true h0
      exact ⟨C, _, w, none_ _ _ _ rfl (Nat.zero_le _) this, Tran.refl hS, .slice0 hx0 hd hc⟩
    · intro h0
      refine bz ?_ (fun _ h => by cases h)
      intro hsm h
      simp only [Bool.and_eq_true] at hsm
      have hz' : sz' = sz := Nat.eq_of_beq_eq_true hsm.1
      subst hz'
      refine blocks (.slice0 hx0 hd hc) rfl hd (Nat.zero_le _) ?_ ⟨rfl, hc.imp id (fun h => h.2.1)⟩ (n0 h0) hsm.2 h
      rcases hc with h | h
      · exact .inr ⟨h, rfl⟩
      · exact .inl h.1
  | _ => simp [appendTo] at h

theorem zeroCells_list (z : Array Value) (n : Nat) : (Builtin.zeroCells z n).toList = (List.replicate n z.toList).flatten := range_mod z n

include he

theorem run_zero' {t : TypeId} {z : AV} (e : zeroOf E t = some z) : ∃ x, (∀ w, (zeroValue t).run P w = .ok x w) ∧ (∀ C, VR C z x) := by
  unfold zeroOf at e
  cases hi : E.tys.get t with
  | none => rw [hi] at e; cases e
  | some i =>
    rw [hi] at e
    simp only at e
    cases hz : i.zero with
    | none => rw [hz] at e; cases e
    | some x =>
      rw [hz] at e
      exact ⟨x, fun w => by simp [zeroValue, run_tyInfo he hi, hz], fun C => ofVal_ok (noTuple_some e).1⟩

theorem ok_append {o : Oper} {c : Call} {sT : TypeId} {ts : List TypeId} {x y : Operand} (ho : o.op = .call c) (hc : c.callee = .builtin .append) (hts : c.argTypes.toList = sT :: ts) (hxs : c.args.toList = [x, y]) :
    SOk E P o (appendC E sT ts.head? x y) := by
  unfold appendC
  split
  · next e hu =>
    split
    · next sz by_ z hsz hby hz =>
      cases hb : (!(Nat.beq (len' z.cells) sz) || Nat.beq sz 0 || !(knownT E ts.head?)) with
      | true => exact SOk.bad
      | false =>
      simp only [cond_false]
      rw [Bool.or_eq_false_iff, Bool.or_eq_false_iff] at hb
      have hzs : ∀ u, ts.head? = some u → ∃ d, und E u = some d := by
        intro u hu
        have h2 := hb.2
        rw [hu] at h2
        simp only [knownT, Bool.not_eq_false'] at h2
        cases hd : und E u with
        | none => rw [hd] at h2; cases h2
        | some d => exact ⟨d, rfl⟩
      replace hb := hb.1
      have hzl : z.cells.length = sz := by have := Nat.eq_of_beq_eq_true (by simpa using hb.1); simpa using this
      have hs0 : sz ≠ 0 := by rintro rfl; simp at hb
      obtain ⟨zv, hzv, hzr⟩ := run_zero' he hz
      have hzsz : zv.cells.size = sz := by have := (hzr ⟨fun _ => ⟨0, 0, 0⟩, fun _ => none, fun _ => False, fun _ _ => 0, fun _ _ => False, fun _ => False⟩).cells.length; simpa [hzl] using this
      have hts0 : c.argTypes[0]? = some sT := by rw [← Array.getElem?_toList, hts]; rfl
      have hts1 : c.argTypes.toList.tail.head? = ts.head? := by rw [hts]; rfl
      have hts2 : ∀ u, c.argTypes[1]? = some u → ∃ d, und E u = some d := by
        intro u h
        rw [← Array.getElem?_toList, hts] at h
        exact hzs u (by rw [List.head?_eq_getElem?]; exact h)
      have hargs : ∀ ρ : Operand → Value, c.args.map ρ = #[ρ x, ρ y] := by
        intro ρ; apply Array.ext'; simp [hxs]
      have hexec : ∀ (ρ : Operand → Value) (w : World), (execOp ρ o).run P w = (do pure (Next.value (← Builtin.append_ c.argTypes o.type #[ρ x, ρ y])) : Sem Next).run P w := by
        intro ρ w
        simp [execOp, ho, resolve, hc, invoke, builtin, hargs]
      have slc : ∀ {C : Cx} {S : St} {v : AV} {r : AV × St} {new : List AV} {n : Nat} {xv : Value}, VR C v xv → appendTo S e sz by_ new n v = some r → ∃ a l k, xv = .slice a l k := by
        intro C S v r new n xv hv h
        cases hv with
        | nilslice | islice0 | islice | slice | slice0 => exact ⟨_, _, _, rfl⟩
        | _ => simp [appendTo] at h
      cases hzb : isZeros E ts.head? with
      | true =>
        simp only [cond_true]
        intro C T a S w hg hT hS v S' h
        obtain ⟨av, hav, h⟩ := Option.bind_eq_some_iff.1 h
        obtain ⟨bv, hbv, h⟩ := Option.bind_eq_some_iff.1 h
        obtain ⟨p, hp, h⟩ := Option.bind_eq_some_iff.1 h
        obtain ⟨n, hn, hp⟩ := Option.bind_eq_some_iff.1 hp
        cases hle : Nat.ble n 1048576 with
        | false => rw [hle] at hp; cases hp
        | true =>
        rw [hle] at hp; cases hp
        have hn' := Nat.le_of_ble_eq_true hle
        obtain ⟨k, hk⟩ := natOf_ok (opnd_ok hg hT hbv) hn
        have hvx := opnd_ok hg hT hav
        obtain ⟨sa, sl, sc, hsl⟩ := slc hvx h
        have hb4 : n = 0 ∨ by_ ≤ 1048576 := by
          by_cases h0 : n = 0
          · exact .inl h0
          · right
            have hnb : Nat.beq n 0 = false := by cases n with | zero => exact absurd rfl h0 | succ n => rfl
            cases av with
            | nilslice =>
              simp only [appendTo, hnb, cond_false] at h
              cases hsm : small n by_ with
              | false => rw [hsm] at h; cases h
              | true => exact (small_spec hsm).2.2.2
            | slice b off len sz' cap =>
              simp only [appendTo, hnb, cond_false] at h
              cases hsm : small (len + n) by_ with
              | false => rw [hsm] at h; simp at h
              | true => exact (small_spec hsm).2.2.2
            | islice cs l s cl => simp [appendTo, hnb] at h
            | _ => simp [appendTo] at h
        have hR : AppRun P e sz by_ n (Builtin.zeroCells zv.cells n).toList zv.cells (a.eval x) (Builtin.append_ c.argTypes o.type #[a.eval x, a.eval y]) w := by
          rw [hk]
          refine ⟨fun a' len cap w' hx hfit hst => ?_, fun a' len cap olds hx hcap hsm hn0 ho => ?_⟩
          · rw [hx]
            exact run_append_fit0 he hts0 hu hsz hby (by rw [hts1]; exact hzb) hn' hb4 hzv hfit (fun _ => hs0) hst
          · rw [hx]
            have := run_append_more0 he (k := k) (ty := o.type) hts0 hu hsz hby (by rw [hts1]; exact hzb) hn' hzv (olds := olds.toList) (by rw [← hx]; simpa using ho) hcap hsm hs0 hn0
            simpa using this
        have hrep := (hzr C).cells.repeat n
        obtain ⟨C', q, w', hrun, t, hvr⟩ := appendTo_ok (P := P) hS hs0 hvx (xs := (Builtin.zeroCells zv.cells n).toList) (by rw [zeroCells_list]; exact hrep) (((hzr C).cells_cell (zero_noTuple hz)).repeat n)
          (by simp [zeroCells_size, hzsz]) hzsz hR h
        exact ⟨C', _, w', by rw [hexec]; simp [hrun], t, .value hvr⟩
      | false =>
        simp only [cond_false]
        intro C T a S w hg hT hS v S' h
        obtain ⟨av, hav, h⟩ := Option.bind_eq_some_iff.1 h
        obtain ⟨bv, hbv, h⟩ := Option.bind_eq_some_iff.1 h
        obtain ⟨p, hp, h⟩ := Option.bind_eq_some_iff.1 h
        have hvx := opnd_ok hg hT hav
        obtain ⟨xs, hl, hvs, hcs, hxl, hfc⟩ := appendedV_ok (P := P) hS (opnd_ok hg hT hbv) hp
        have hR : AppRun P e sz by_ p.2 xs zv.cells (a.eval x) (Builtin.append_ c.argTypes o.type #[a.eval x, a.eval y]) w := by
          refine ⟨fun a' len cap w' hx hfit hst => ?_, fun a' len cap olds hx hcap hsm hn0 ho => ?_⟩
          · rw [hx]
            exact run_append_fit he hts0 hu hsz (by rw [hts1]; exact hzb) hl (hfc w rfl) hfit hts2 hst
          · rw [hx]
            have := run_append_more he (ty := o.type) hts0 hu hsz hby (by rw [hts1]; exact hzb) hl (hfc w.drew rfl) (olds := olds.toList) (by rw [← hx]; simpa using ho) hzv hcap hsm hts2
            simpa using this
        obtain ⟨C', q, w', hrun, t, hvr⟩ := appendTo_ok (P := P) hS hs0 hvx hvs hcs hxl hzsz hR h
        exact ⟨C', _, w', by rw [hexec]; simp [hrun], t, .value hvr⟩
    · exact SOk.bad
  · exact SOk.bad
end
end Am

/- The abstract machine: its operations are the model's (15): copy, clear. -/
namespace Am
open Go

section
variable {E : Env} {P : Program}

theorem appendedV_take {C : Cx} {S : St} {w : World} (hS : StR C S w) {v : AV} {x : Value} (hv : VR C v x) {sz : Nat} {p : List AV × Nat} (e : appendedV S sz v = some p) {m : Nat} (hm : m ≤ p.2)
    {l : List AV} (hl : takeN (m * sz) p.1 = some l) :
    ∃ xs, (Builtin.lenOf x).run P w = .ok p.2 w ∧ VRs C l xs ∧ Cells l ∧ xs.length = m * sz ∧ (Builtin.firstCells sz m x).run P w = .ok xs.toArray w := by
  obtain ⟨post, hp, hll⟩ := takeN_some hl
  unfold appendedV at e
  split at e
  · next b =>
    cases hb : Nat.beq sz 1 with
    | false => rw [hb] at e; cases e
    | true =>
      rw [hb] at e; cases e
      have : sz = 1 := Nat.eq_of_beq_eq_true hb
      subst this
      cases hv with
      | @str _ l' s hs =>
      obtain ⟨b1, b2, b3⟩ := byteCells_ok (C := C) b
      simp only at hp
      rw [hp] at b1 b2
      obtain ⟨y, z, hyz, h1, h2⟩ := VRs.split b1
      refine ⟨y, by simp [Builtin.lenOf, ← hs], h1, b2.sub.1, h1.length.trans hll, ?_⟩
      have hy : y = (b.take m).map fun c => Value.int .u8 c.toNat := by
        have hyl : y.length = m := by rw [h1.length, hll, Nat.mul_one]
        rw [List.map_take, hyz, ← hyl]
        simp
      subst hs
      rw [hy]
      simp [Builtin.firstCells]
      apply Array.ext'
      simp
  · obtain ⟨a, c, vs, rfl, hvs, hcs, hlen, hhere, hnone⟩ := sliceCells_ok hS hv e
    rw [hp] at hvs hcs
    obtain ⟨y, z, rfl, h1, h2⟩ := VRs.split hvs
    refine ⟨y, rfl, h1, hcs.sub.1, h1.length.trans hll, ?_⟩
    cases a with
    | none =>
      have := hnone rfl
      simp only [List.append_eq_nil_iff] at this
      rw [this.1]; rfl
    | some ad =>
      refine run_cells (fun j v hj => hhere ad rfl j v ?_) _ (h1.length.trans hll)
      have hlt : j < y.length := by
        rcases Nat.lt_or_ge j y.length with h | h
        · exact h
        · rw [List.getElem?_eq_none h] at hj; cases hj
      rw [List.getElem?_append_left hlt]; exact hj

theorem store_nil {w w' : World} {a : Addr} (h : (storeCells a []).run P w = .ok () w') : w' = w := by
  simp [storeCells] at h; exact h.symm

/-- Cells are written where a slice lies. -/
theorem sliceWrite_ok {C : Cx} {S S' : St} {w : World} (hS : StR C S w) {b off len sz : Nat} {cap : Option Nat} {x : Value} (hv : VR C (.slice b off len sz cap) x) {vs : List AV} {xs : List Value} (hvs : VRs C vs xs)
    (hc : Cells vs) (h0 : len = 0 → vs = []) (e : writeAt S b off vs = some S') : ∃ a c w', x = .slice (some a) len c ∧ (storeCells a xs).run P w = .ok () w' ∧ Tran C S w C S' w' := by
  obtain ⟨w', hrun, t, _⟩ := write_ok (P := P) hS hvs hc e
  cases hv with
  | slice hd hcap hlc => exact ⟨_, _, w', rfl, hrun, t⟩
  | slice0 hxx hd hcap =>
    have := h0 rfl
    subst this
    cases hvs
    cases store_nil hrun
    exact ⟨_, _, _, rfl, by simp [storeCells], t⟩

variable (he : EnvOk E P)
include he

omit he in
theorem copy_exec {o : Oper} {c : Call} {x y : Operand} (ho : o.op = .call c) (hc : c.callee = .builtin .copy) (hxs : c.args.toList = [x, y]) (ρ : Operand → Value) (w : World) :
    (execOp ρ o).run P w = (do pure (Next.value (← Builtin.copy_ c.argTypes o.type #[ρ x, ρ y])) : Sem Next).run P w := by
  have hargs : c.args.map ρ = #[ρ x, ρ y] := by apply Array.ext'; simp [hxs]
  simp [execOp, ho, resolve, hc, invoke, builtin, hargs]

theorem ok_copy {o : Oper} {c : Call} {t : TypeId} {ts : List TypeId} {x y : Operand} (ho : o.op = .call c) (hc : c.callee = .builtin .copy) (hts : c.argTypes.toList = t :: ts) (hxs : c.args.toList = [x, y]) :
    SOk E P o (copyC E t x y) := by
  unfold copyC
  split
  · next e hu =>
    split
    · next sz hsz =>
      have hts0 : c.argTypes[0]? = some t := by rw [← Array.getElem?_toList, hts]; rfl
      intro C T a S w hg hT hS v S' h
      obtain ⟨av, hav, h⟩ := Option.bind_eq_some_iff.1 h
      obtain ⟨bv, hbv, h⟩ := Option.bind_eq_some_iff.1 h
      obtain ⟨p, hp, h⟩ := Option.bind_eq_some_iff.1 h
      have hvx := opnd_ok hg hT hav
      have hvy := opnd_ok hg hT hbv
      have hrun : ∀ (ba : Option Addr) (dl k n : Nat) (xs : List Value) (w' : World), a.eval x = .slice ba dl k → (Builtin.lenOf (a.eval y)).run P w = .ok n w → (Builtin.firstCells sz (Nat.min n dl) (a.eval y)).run P w = .ok xs.toArray w →
          (match ba with | some ad => (storeCells ad xs).run P w = .ok () w' | none => w' = w) → (execOp a.eval o).run P w = .ok (.value (goInt (Nat.min n dl : Nat))) w' := by
        intro ba dl k n xs w' hx hn hf hst
        rw [copy_exec ho hc hxs, hx]
        cases ba with
        | none => subst hst; simp [Builtin.copy_, hts0, run_und he hu, run_size he hsz, hn, hf]
        | some ad => simp only at hst; simp [Builtin.copy_, hts0, run_und he hu, run_size he hsz, hn, hf, hst]
      cases av with
      | slice b off len sz' cap =>
        simp only [copyV] at h
        cases hb : Nat.beq sz' sz with
        | false => rw [hb] at h; cases h
        | true =>
        rw [hb] at h
        have := Nat.eq_of_beq_eq_true hb
        subst this
        simp only [cond_true] at h
        obtain ⟨l, hl, h⟩ := Option.bind_eq_some_iff.1 h
        obtain ⟨s', hs', h⟩ := Option.bind_eq_some_iff.1 h
        cases h
        obtain ⟨xs, hlen, hvs, hcs, hxl, hf⟩ := appendedV_take (P := P) hS hvy hp (Nat.min_le_left _ _) hl
        obtain ⟨ad, cc, w', hx, hst, t⟩ := sliceWrite_ok (P := P) hS hvx hvs hcs (by
          rintro rfl
          have := (takeN_some hl).choose_spec.2
          simpa using this) hs'
        exact ⟨C, _, w', hrun _ _ _ _ xs w' hx hlen hf hst, t, .value (.int _ _)⟩
      | nilslice =>
        cases h
        generalize hq : a.eval x = q at hvx
        cases hvx with
        | nilslice ba =>
        obtain ⟨xs, hlen, hvs, hcs, hxl, hf⟩ := appendedV_take (P := P) hS hvy hp (m := Nat.min p.2 0) (Nat.min_le_left _ _) (l := []) (by rw [show Nat.min p.2 0 = 0 from Nat.min_zero _, Nat.zero_mul]; rfl)
        have : xs = [] := List.eq_nil_of_length_eq_zero (by simpa using hxl)
        subst this
        have := hrun ba 0 0 _ [] w hq hlen hf (by cases ba <;> simp [storeCells])
        exact ⟨C, _, w, this, Tran.refl hS, .value (by simpa [goInt] using VR.int (C := C) .i64 0)⟩
      | _ => simp [copyV] at h
    · exact SOk.bad
  · exact SOk.bad

omit he in
theorem clear_exec {o : Oper} {c : Call} {x : Operand} (ho : o.op = .call c) (hc : c.callee = .builtin .clear) (hxs : c.args.toList = [x]) (ρ : Operand → Value) (w : World) :
    (execOp ρ o).run P w = (do pure (Next.value (← Builtin.clear_ c.argTypes o.type #[ρ x])) : Sem Next).run P w := by
  have hargs : c.args.map ρ = #[ρ x] := by apply Array.ext'; simp [hxs]
  simp [execOp, ho, resolve, hc, invoke, builtin, hargs]

omit he in
theorem withU_some {o : Option St} {r : AV × St} (h : withU o = some r) : ∃ s, o = some s ∧ r = (.tuple [], s) := by
  cases o with
  | none => cases h
  | some s => cases h; exact ⟨s, rfl, rfl⟩

omit he in
theorem VR.unit {C : Cx} : VR C (.tuple []) (.tuple #[]) := .tuple (by simpa using VRs.nil)

omit he in
theorem run_setObj {w : World} {r : Nat} {x o : Obj} (h : w.heap[r]? = some x) (hc : ∀ c e f, x ≠ .cells c e f) : (setObj r o).run P w = .ok () (World.setBlk w r o) := by
  unfold setObj
  simp only [Sem.run, h]
  cases x with
  | cells c e f => exact absurd rfl (hc c e f)
  | _ => rfl

theorem ok_clear {o : Oper} {c : Call} {t : TypeId} {ts : List TypeId} {x : Operand} (ho : o.op = .call c) (hc : c.callee = .builtin .clear) (hts : c.argTypes.toList = t :: ts) (hxs : c.args.toList = [x]) :
    SOk E P o (clearC E t x) := by
  have hts0 : c.argTypes[0]? = some t := by rw [← Array.getElem?_toList, hts]; rfl
  unfold clearC
  split
  · next e hu =>
    split
    · next sz z hsz hz =>
      cases hb : (Nat.beq (len' z.cells) sz && !z.isTuple) with
      | false => exact SOk.bad
      | true =>
      simp only [cond_true]
      simp only [Bool.and_eq_true, Bool.not_eq_true'] at hb
      obtain ⟨zv, hzv, hzr⟩ := run_zero' he hz
      intro C T a S w hg hT hS v S' h
      obtain ⟨av, hav, h⟩ := Option.bind_eq_some_iff.1 h
      obtain ⟨s', hs1, hr⟩ := withU_some h
      cases hr
      have hvx := opnd_ok hg hT hav
      cases av with
      | slice b off len sz' cap =>
        simp only [clearV] at hs1
        cases hb' : Nat.beq sz' sz with
        | false => rw [hb'] at hs1; cases hs1
        | true =>
        rw [hb'] at hs1
        have := Nat.eq_of_beq_eq_true hb'
        subst this
        rw [cond_true] at hs1
        cases hl0 : Nat.beq len 0 with
        | true =>
          rw [hl0] at hs1; cases hs1
          have := Nat.eq_of_beq_eq_true hl0
          subst this
          generalize hq : a.eval x = q at hvx
          have : ∃ ba k, q = .slice ba 0 k := by cases hvx <;> exact ⟨_, _, rfl⟩
          obtain ⟨ba, k, rfl⟩ := this
          refine ⟨C, _, w, ?_, Tran.refl hS, .value VR.unit⟩
          rw [clear_exec ho hc hxs]
          cases ba <;> simp [Builtin.clear_, hts0, run_und he hu, hq]
        | false =>
          rw [hl0] at hs1
          simp only [cond_false] at hs1
          have hrep := (hzr C).cells.repeat len
          obtain ⟨ad, cc, w', hx, hst, tr⟩ := sliceWrite_ok (P := P) hS hvx hrep (((hzr C).cells_cell hb.2).repeat len) (by rintro rfl; cases hl0) hs1
          refine ⟨C, _, w', ?_, tr, .value VR.unit⟩
          rw [clear_exec ho hc hxs]
          rw [← zeroCells_list] at hst
          cases len with
          | zero => cases hl0
          | succ len => simp [Builtin.clear_, hts0, run_und he hu, hx, hzv, hst]
      | nilslice =>
        cases hs1
        generalize hq : a.eval x = q at hvx
        cases hvx with
        | nilslice ba =>
        refine ⟨C, _, w, ?_, Tran.refl hS, .value VR.unit⟩
        rw [clear_exec ho hc hxs]
        cases ba <;> simp [Builtin.clear_, hts0, run_und he hu, hq]
      | _ => simp [clearV] at hs1
    · exact SOk.bad
  · next k e hu =>
    intro C T a S w hg hT hS v S' h
    obtain ⟨av, hav, h⟩ := Option.bind_eq_some_iff.1 h
    obtain ⟨s', hs1, hr⟩ := withU_some h
    cases hr
    have hvx := opnd_ok hg hT hav
    cases av with
    | map b =>
      simp only [clearMap] at hs1
      unfold clearMapIn at hs1
      split at hs1
      · next es clock hb =>
        cases hs1
        obtain ⟨hd, x', hx', hr⟩ := hS.live b _ hb
        generalize hq : a.eval x = q at hvx
        cases hvx with
        | map hd' =>
        cases hr with
        | map hp hents hk hn hcl hgg hii =>
        rename_i arr l
        refine ⟨C, _, _, ?_, Tran.write hS hb (.map [] clock) (.map #[] clock) (.map (l := []) (by simp) .nil ⟨by simp, by simp⟩ (by simp) hcl hgg hii), .value VR.unit⟩
        rw [clear_exec ho hc hxs]
        simp [Builtin.clear_, hts0, run_und he hu, hq, run_getObj hx' (by simp), run_setObj hx' (by simp)]
      · cases hs1
    | nilmap =>
      cases hs1
      generalize hq : a.eval x = q at hvx
      cases hvx with
      | nilmap =>
      refine ⟨C, _, w, ?_, Tran.refl hS, .value VR.unit⟩
      rw [clear_exec ho hc hxs]
      simp [Builtin.clear_, hts0, run_und he hu, hq]
    | _ => simp [clearMap] at hs1
  · exact SOk.bad
end
end Am

/- The abstract machine: its operations are the model's (16): what is needed of maps. -/
namespace Am
open Go

theorem keyCell_det {C C' : Cx} {a : AV} {x y : Value} (h : keyCell a = true) (hx : VR C a x) (hy : VR C' a y) : x = y := by
  cases a with
  | int k n => cases hx; cases hy; rfl
  | bool b => cases hx; cases hy; rfl
  | str l =>
    cases hx with
    | @str _ _ s hs =>
    cases hy with
    | @str _ _ s' hs' =>
    have : s = s' := ByteArray.ext (Array.ext' (hs.trans hs'.symm))
    rw [this]
  | _ => cases h

theorem keyCells_det {C C' : Cx} : ∀ {l : List AV} {xs ys : List Value}, l.all keyCell = true → VRs C l xs → VRs C' l ys → xs = ys
  | [], _, _, _, .nil, .nil => rfl
  | _ :: _, _, _, h, .cons h1 t1, .cons h2 t2 => by
    simp only [List.all_cons, Bool.and_eq_true] at h
    rw [keyCell_det h.1 h1 h2, keyCells_det h.2 t1 t2]

theorem keyOk_det {C C' : Cx} {a : AV} {x y : Value} (h : keyOk a = true) (hx : VR C a x) (hy : VR C' a y) : x = y := by
  cases a with
  | agg cs =>
    cases hx with
    | agg h1 _ =>
    cases hy with
    | agg h2 _ => rw [Array.ext' (keyCells_det h h1 h2)]
  | int k n => exact keyCell_det rfl hx hy
  | bool b => exact keyCell_det rfl hx hy
  | str l => exact keyCell_det rfl hx hy
  | _ => cases h

theorem ba_beq (a b : ByteArray) : (a == b) = (a.data == b.data) := rfl

theorem sameBits_cell {C : Cx} {a : AV} {x : Value} (h : keyCell a = true) (hx : VR C a x) (n : Nat) : Instr.sameBits n x x = true := by
  cases a with
  | int k n => cases hx; simp [Instr.sameBits]
  | bool b => cases hx; simp [Instr.sameBits]
  | str l => cases hx; simp [Instr.sameBits, ba_beq]
  | _ => cases h

theorem sameBits_cells {C : Cx} (n : Nat) : ∀ {l : List AV} {xs : List Value}, l.all keyCell = true → VRs C l xs → ((xs.zip xs).all fun (x, y) => Instr.sameBits n x y) = true
  | [], _, _, .nil => rfl
  | _ :: _, _, h, .cons h1 t1 => by
    simp only [List.all_cons, Bool.and_eq_true] at h
    simp only [List.zip_cons_cons, List.all_cons, Bool.and_eq_true]
    exact ⟨sameBits_cell h.1 h1 n, sameBits_cells n h.2 t1⟩

theorem sameBits_ok {C : Cx} {a : AV} {x : Value} (h : keyOk a = true) (hx : VR C a x) (n : Nat) : Instr.sameBits (n + 1) x x = true := by
  cases a with
  | agg cs =>
    cases hx with
    | agg h1 _ =>
      simp only [Instr.sameBits, Bool.and_eq_true, beq_self_eq_true, true_and]
      exact sameBits_cells n h h1
  | int k n => exact sameBits_cell rfl hx _
  | bool b => exact sameBits_cell rfl hx _
  | str l => exact sameBits_cell rfl hx _
  | _ => cases h

theorem stays_ok {P : Program} {x : Value} {w : World} (h : Instr.sameBits 10000 x x = true) : (Instr.keyThatStays x x).run P w = .ok x w := by
  simp [Instr.keyThatStays, h]

theorem eqZip_iff' : ∀ {l : List TypeDesc} {a b : List AV} {r : Bool}, eqZip l a b = some r → (r = true ↔ a = b)
  | [], [], [], r, h => by cases h; simp
  | d :: l, a :: x, b :: y, r, h => by
    simp only [eqZip] at h
    obtain ⟨q, hq, h⟩ := Option.bind_eq_some_iff.1 h
    obtain ⟨e1, _⟩ := eqD_iff hq
    cases q with
    | true =>
      have := eqZip_iff' (l := l) h
      have hab := e1.1 rfl
      rw [this]; simp [hab]
    | false =>
      cases h
      have hne : a ≠ b := fun e => by have := e1.2 e; cases this
      simp [hne]
  | [], [], _ :: _, _, h => by simp [eqZip] at h
  | [], _ :: _, _, _, h => by simp [eqZip] at h
  | _ :: _, [], _, _, h => by simp [eqZip] at h
  | _ :: _, _ :: _, [], _, h => by simp [eqZip] at h

theorem eqKd_iff {kd : Kd} {a b : AV} {r : Bool} (h : eqKd kd a b = some r) : r = true ↔ a = b := by
  cases kd with
  | one d => exact (eqD_iff h).1
  | flat l =>
    cases a <;> cases b <;> simp only [eqKd] at h <;> try (cases h; done)
    rw [eqZip_iff' h]; simp

theorem findT_some {kd : Kd} {k : AV} : ∀ {es : List Ent} {r : Option Ent}, findT kd k es = some r →
    (∀ e ∈ es, ∃ b, eqKd kd k e.1 = some b) ∧ (r = none → ∀ e ∈ es, eqKd kd k e.1 = some false) ∧ (∀ e, r = some e → e ∈ es ∧ eqKd kd k e.1 = some true)
  | [], r, h => by cases h; simp
  | e :: es, r, h => by
    simp only [findT] at h
    obtain ⟨b, hb, h⟩ := Option.bind_eq_some_iff.1 h
    obtain ⟨q, hq, h⟩ := Option.bind_eq_some_iff.1 h
    obtain ⟨h1, h2, h3⟩ := findT_some hq
    refine ⟨?_, ?_, ?_⟩
    · intro e' he'
      rcases List.mem_cons.1 he' with rfl | he'
      · exact ⟨b, hb⟩
      · exact h1 e' he'
    · intro hr
      cases b with
      | true => simp only [cond_true] at h; rw [hr] at h; cases h
      | false =>
        simp only [cond_false] at h; cases h
        intro e' he'
        rcases List.mem_cons.1 he' with rfl | he'
        · exact hb
        · exact h2 hr e' he'
    · intro e' hr
      cases b with
      | true => simp only [cond_true] at h; rw [hr] at h; cases h; exact ⟨List.mem_cons_self .., hb⟩
      | false =>
        simp only [cond_false] at h; cases h
        obtain ⟨h4, h5⟩ := h3 e' hr
        exact ⟨List.mem_cons_of_mem _ h4, h5⟩

theorem inj_of_nodup {α β : Type} {f : α → β} : ∀ {l : List α}, (l.map f).Nodup → ∀ {x y : α}, x ∈ l → y ∈ l → f x = f y → x = y
  | a :: l, h, x, y, hx, hy, e => by
    simp only [List.map_cons, List.nodup_cons] at h
    rcases List.mem_cons.1 hx with hx' | hx'
    · rcases List.mem_cons.1 hy with hy' | hy'
      · rw [hx', hy']
      · exact absurd (List.mem_map.2 ⟨y, hy', by rw [← e, hx']⟩) h.1
    · rcases List.mem_cons.1 hy with hy' | hy'
      · exact absurd (List.mem_map.2 ⟨x, hx', by rw [e, hy']⟩) h.1
      · exact inj_of_nodup h.2 hx' hy' e

theorem nodup_of_map {α β : Type} {f : α → β} : ∀ {l : List α}, (l.map f).Nodup → l.Nodup
  | [], _ => List.nodup_nil
  | a :: l, h => by
    simp only [List.map_cons, List.nodup_cons] at h
    exact List.nodup_cons.2 ⟨fun hx => h.1 (List.mem_map.2 ⟨a, hx, rfl⟩), nodup_of_map h.2⟩

theorem EntsR.born {C : Cx} {b : Nat} {es : List Ent} {l : List MapEntry} (h : EntsR C b es l) : l.map (·.born) = (es.map (·.2.2)).map (C.gh b) := by
  induction h with
  | nil => rfl
  | cons _ _ _ hn _ ih => simp [hn, ih]

theorem EntsR.mem {C : Cx} {b : Nat} {es : List Ent} {l : List MapEntry} (h : EntsR C b es l) {e : Ent} (he : e ∈ es) :
    ∃ m ∈ l, VR C e.1 m.key ∧ VR C e.2.1 m.val ∧ C.G b e.2.2 ∧ m.born = C.gh b e.2.2 := by
  induction h with
  | nil => cases he
  | cons hk hv hg hn _ ih =>
    rcases List.mem_cons.1 he with rfl | he
    · exact ⟨_, List.mem_cons_self .., hk, hv, hg, hn⟩
    · obtain ⟨m, hm, h⟩ := ih he
      exact ⟨m, List.mem_cons_of_mem _ hm, h⟩

theorem EntsR.mem' {C : Cx} {b : Nat} {es : List Ent} {l : List MapEntry} (h : EntsR C b es l) {m : MapEntry} (hm : m ∈ l) :
    ∃ e ∈ es, VR C e.1 m.key ∧ VR C e.2.1 m.val ∧ C.G b e.2.2 ∧ m.born = C.gh b e.2.2 := by
  induction h with
  | nil => cases hm
  | cons hk hv hg hn _ ih =>
    rcases List.mem_cons.1 hm with rfl | hm
    · exact ⟨_, List.mem_cons_self .., hk, hv, hg, hn⟩
    · obtain ⟨e, he, h⟩ := ih hm
      exact ⟨e, List.mem_cons_of_mem _ he, h⟩

/-- The first entry with a stamp. -/
def findB (n : Nat) : List MapEntry → Nat → Option (Nat × Value)
  | [], _ => none
  | e :: es, i => if e.born = n then some (i, e.val) else findB n es (i + 1)

theorem findB_none {n : Nat} : ∀ {l : List MapEntry} {i : Nat}, (∀ m ∈ l, m.born ≠ n) → findB n l i = none
  | [], _, _ => rfl
  | a :: l, i, h => by
    simp only [findB, if_neg (h a (List.mem_cons_self ..))]
    exact findB_none fun m hm => h m (List.mem_cons_of_mem _ hm)

theorem findB_some {n : Nat} : ∀ {l : List MapEntry} {i : Nat}, (∃ m ∈ l, m.born = n) → ∃ j m, l[j]? = some m ∧ m.born = n ∧ findB n l i = some (i + j, m.val)
  | [], _, h => by obtain ⟨_, h, _⟩ := h; cases h
  | a :: l, i, h => by
    by_cases ha : a.born = n
    · exact ⟨0, a, rfl, ha, by simp [findB, ha]⟩
    · obtain ⟨m, hm, hn⟩ := h
      have hm' : m ∈ l := (List.mem_cons.1 hm).resolve_left (fun e => ha (e ▸ hn))
      obtain ⟨j, m', h1, h2, h3⟩ := findB_some (i := i + 1) ⟨m, hm', hn⟩
      refine ⟨j + 1, m', by simpa using h1, h2, ?_⟩
      simp only [findB, if_neg ha, h3]
      congr 2; omega

section
variable {E : Env} {P : Program}

theorem rep_length {α : Type} (a : α) : ∀ n, (rep a n).length = n
  | 0 => rfl
  | n + 1 => by simp [rep, rep_length a n]

theorem run_forIn_list {α : Type} {w : World} {f : α → PUnit → Sem (ForInStep PUnit)} : ∀ {l : List α}, (∀ x ∈ l, (f x ⟨⟩).run P w = .ok (.yield ⟨⟩) w) → (forIn l PUnit.unit f).run P w = .ok ⟨⟩ w
  | [], _ => by simp
  | a :: l, h => by
    rw [List.forIn_cons]
    simp only [Sem.run_bind, h a (List.mem_cons_self ..), Result.andThen_ok]
    exact run_forIn_list fun x hx => h x (List.mem_cons_of_mem _ hx)

variable (he : EnvOk E P)
include he

theorem checkKey_scalar {t : TypeId} {d : TypeDesc} (hu : und E t = some d) (hs : scalarD d = true) (empty : Bool) (n : Nat) (x : Value) (w : World) : (Instr.checkKey empty (n + 1) t x).run P w = .ok () w := by
  unfold Instr.checkKey
  simp only [Sem.run_bind, run_und he hu, Result.andThen_ok]
  cases d <;> first | rfl | cases hs

theorem checkKey_ok {t : TypeId} {kd : Kd} (hk : kdOf E t = some kd) {C : Cx} {a : AV} {x : Value} (ha : VR C a x) (hok : okKd kd a = true) (empty : Bool) (n : Nat) (w : World) :
    (Instr.checkKey empty (n + 2) t x).run P w = .ok () w := by
  rcases kdOf_cases hk with ⟨fs, l, hu, hl, hpl, rfl⟩ | ⟨m, e, d, hu, hd, hs, rfl⟩ | ⟨d, hu, hs, rfl⟩
  · cases ha <;> simp only [okKd] at hok <;> try (cases hok; done)
    rename_i cs xs hcs hvs
    unfold Instr.checkKey
    simp only [Sem.run_bind, run_und he hu, Result.andThen_ok]
    rw [← Array.forIn_toList, run_forIn_list]
    · rfl
    intro f hf
    obtain ⟨j, hj⟩ := List.getElem?_of_mem hf
    obtain ⟨hlen, hget⟩ := flatFs_get hl
    obtain ⟨d, hdj, hoff, hnm, hsc⟩ := hget j f hj
    obtain ⟨h1, h2⟩ := scalarOf_some hsc
    have hlt : j < cs.length := by
      have := (okZip_plain hok).2
      have hjl : j < fs.toList.length := by
        rcases Nat.lt_or_ge j fs.toList.length with h | h
        · exact h
        · rw [List.getElem?_eq_none h] at hj; cases hj
      omega
    obtain ⟨y, hy, _⟩ := part_scalar (P := P) he hsc hvs (List.getElem?_eq_getElem hlt) w
    have hoff' : f.offset = j := by omega
    simp only [ne_eq, hnm, not_false_eq_true, if_true, Sem.run_bind, hoff', hy, Result.andThen_ok, checkKey_scalar he h1 h2, Sem.run_pure]
  · cases ha <;> simp only [okKd] at hok <;> try (cases hok; done)
    rename_i cs xs hcs hvs
    unfold Instr.checkKey
    simp only [Sem.run_bind, run_und he hu, Result.andThen_ok]
    rw [Std.Legacy.Range.forIn_eq_forIn_range', run_forIn_list]
    · rfl
    intro j hj
    have hjm : j < m := by simpa [Std.Legacy.Range.size] using hj
    obtain ⟨h1, h2⟩ := scalarOf_some hd
    have hlt : j < cs.length := by
      have := (okZip_plain hok).2
      rw [rep_length] at this
      omega
    obtain ⟨y, hy, _⟩ := part_scalar (P := P) he hd hvs (List.getElem?_eq_getElem hlt) w
    simp only [Sem.run_bind, run_size he hs, Nat.mul_one, hy, Result.andThen_ok, checkKey_scalar he h1 h2, Sem.run_pure]
  · exact checkKey_scalar he hu hs empty (n + 1) x w

/-- The model's search, entry by entry. -/
theorem findAsking_ok {t : TypeId} {kd : Kd} (hk : kdOf E t = some kd) {C : Cx} {k : AV} {kx : Value} (ha : VR C k kx) {n : Nat} {w : World} : ∀ {L : List MapEntry} {i : Nat},
    (∀ m ∈ L, ∃ a b, VR C a m.key ∧ eqKd kd k a = some b ∧ (b = true ↔ m.born = n)) → (Instr.findAsking t kx L i).run P w = .ok (findB n L i) w
  | [], _, _ => rfl
  | m :: L, i, h => by
    obtain ⟨a, b, h1, h2, h3⟩ := h m (List.mem_cons_self ..)
    have hb : (Op.equal t kx m.key).run P w = .ok b w := eqKd_ok he hk ha h1 h2 9998 w
    unfold Instr.findAsking
    simp only [Sem.run_bind, hb, Result.andThen_ok]
    cases b with
    | true => simp [findB, h3.1 rfl]
    | false =>
      have : m.born ≠ n := fun e => by have := h3.2 e; cases this
      simp only [Bool.false_eq_true, if_false, findB, this]
      exact findAsking_ok hk ha fun m hm => h m (List.mem_cons_of_mem _ hm)

omit he in
theorem sameNow_ok {d : TypeDesc} {C C' : Cx} {a b : AV} {x y : Value} (ha : VR C a x) (hb : VR C' b y) {r : Bool} (h : eqD d a b = some r) : Instr.sameNow d x y = some r := by
  unfold eqD at h
  split at h
  · cases ha; cases hb; cases h
    rename_i p q
    cases p <;> cases q <;> rfl
  · cases ha; cases hb
    split at h
    · next hk => cases h; subst hk; simp only [Instr.sameNow, if_true, Option.some.injEq]; rw [Bool.eq_iff_iff]; simp
    · cases h
  · cases h
    cases ha with
    | str ha =>
    cases hb with
    | str hb =>
    simp only [Instr.sameNow, ba_beq, bytesEq_iff, ← ha, ← hb, Option.some.injEq]
    rw [Bool.eq_iff_iff]; simp
  · cases h

omit he in
theorem findNow_one {d : TypeDesc} {C : Cx} {k : AV} {kx : Value} (ha : VR C k kx) {n : Nat} : ∀ {L : List MapEntry} {i : Nat},
    (∀ m ∈ L, ∃ a b, VR C a m.key ∧ eqD d k a = some b ∧ (b = true ↔ m.born = n)) → Instr.findNow d kx L i = some (findB n L i)
  | [], _, _ => rfl
  | m :: L, i, h => by
    obtain ⟨a, b, h1, h2, h3⟩ := h m (List.mem_cons_self ..)
    unfold Instr.findNow
    rw [sameNow_ok ha h1 h2]
    cases b with
    | true => simp [findB, h3.1 rfl]
    | false =>
      have : m.born ≠ n := fun e => by have := h3.2 e; cases this
      simp only [findB, this, if_false]
      exact findNow_one ha fun m hm => h m (List.mem_cons_of_mem _ hm)

omit he in
theorem findNow_flat {d : TypeDesc} (hd : scalarD d = false) {kx : Value} {L : List MapEntry} {i : Nat} {r} (h : Instr.findNow d kx L i = some r) : L = [] ∧ r = none := by
  cases L with
  | nil => cases h; exact ⟨rfl, rfl⟩
  | cons m L =>
    exfalso
    unfold Instr.findNow at h
    have : Instr.sameNow d kx m.key = none := by
      unfold Instr.sameNow
      cases d <;> first | rfl | cases hd
    rw [this] at h; cases h

theorem findKey_ok {t : TypeId} {kd : Kd} (hk : kdOf E t = some kd) {C : Cx} {k : AV} {kx : Value} (ha : VR C k kx) {n : Nat} {w : World} {L : List MapEntry}
    (h : ∀ m ∈ L, ∃ a b, VR C a m.key ∧ eqKd kd k a = some b ∧ (b = true ↔ m.born = n)) : (Instr.findKey t kx L).run P w = .ok (findB n L 0) w := by
  have flat : ∀ {d : TypeDesc}, und E t = some d → scalarD d = false → (Instr.findKey t kx L).run P w = .ok (findB n L 0) w := by
    intro d hu hs
    simp only [Instr.findKey, Sem.run_bind, run_und he hu, Result.andThen_ok]
    split
    · next r hr =>
      obtain ⟨rfl, rfl⟩ := findNow_flat hs hr
      rfl
    · exact findAsking_ok he hk ha h
  rcases kdOf_cases hk with ⟨fs, l, hu, hl, hpl, rfl⟩ | ⟨m, e, d, hu, hd, hs, rfl⟩ | ⟨d, hu, hs, rfl⟩
  · exact flat hu rfl
  · exact flat hu rfl
  · simp only [Instr.findKey, Sem.run_bind, run_und he hu, Result.andThen_ok]
    rw [findNow_one ha (d := d) h]
    rfl

/-- A key is looked up in a map of the machine's. -/
theorem lookup_ok {t : TypeId} {kd : Kd} (hk : kdOf E t = some kd) {C : Cx} {k : AV} {kx : Value} (ha : VR C k kx) {w : World} {b clock : Nat} {es : List Ent} {arr : Array MapEntry} {l : List MapEntry}
    (hm : MapR C b es clock w arr l) {r : Option Ent} (h : findT kd k es = some r) :
    (r = none → (∀ w', (Instr.findKey t kx arr.toList).run P w' = .ok none w') ∧ ∀ e ∈ es, k ≠ e.1) ∧
    (∀ e, r = some e → e ∈ es ∧ k = e.1 ∧ C.G b e.2.2 ∧ ∃ i m, arr[i]? = some m ∧ m.key = kx ∧ VR C e.2.1 m.val ∧ m.born = C.gh b e.2.2 ∧ ∀ w', (Instr.findKey t kx arr.toList).run P w' = .ok (some (i, m.val)) w') := by
  obtain ⟨h1, h2, h3⟩ := findT_some h
  refine ⟨fun hr => ?_, fun e hr => ?_⟩
  · have hno := h2 hr
    refine ⟨fun w' => ?_, fun e he' hke => ?_⟩
    · have hlt := hm.ents.born_lt hm.ghs
      have hb : ∀ m ∈ arr.toList, m.born ≠ clock := fun m hm' => Nat.ne_of_lt (hlt m (hm.perm.mem_iff.2 hm'))
      rw [findKey_ok he hk ha (n := clock) (fun m hm' => ?_), findB_none hb]
      obtain ⟨e, he', h4, h5, h6, h7⟩ := hm.ents.mem' (hm.perm.mem_iff.2 hm')
      exact ⟨e.1, false, h4, hno e he', by simp [hb m hm']⟩
    · have := (eqKd_iff (hno e he')).2 hke
      cases this
  · obtain ⟨hmem, htrue⟩ := h3 e hr
    have hke := (eqKd_iff htrue).1 rfl
    obtain ⟨m, hml, h4, h5, h6, h7⟩ := hm.ents.mem hmem
    have key : ∀ m' ∈ arr.toList, ∃ a q, VR C a m'.key ∧ eqKd kd k a = some q ∧ (q = true ↔ m'.born = C.gh b e.2.2) := by
      intro m' hm'
      obtain ⟨e', he', g4, g5, g6, g7⟩ := hm.ents.mem' (hm.perm.mem_iff.2 hm')
      obtain ⟨q, hq⟩ := h1 e' he'
      refine ⟨e'.1, q, g4, hq, ?_⟩
      have hst : (es.map (·.2.2)).Nodup := by
        have := hm.nodup
        rw [hm.ents.born] at this
        exact nodup_of_map this
      rw [eqKd_iff hq, hke, g7]
      constructor
      · intro hee
        have := inj_of_nodup hm.keys.2 hmem he' hee
        rw [this]
      · intro hgg
        have := hm.inj _ _ g6 h6 hgg
        rw [inj_of_nodup hst hmem he' this.symm]
    obtain ⟨i, m', g1, g2, g3⟩ := findB_some (n := C.gh b e.2.2) (l := arr.toList) (i := 0) ⟨m, hm.perm.mem_iff.1 hml, h7⟩
    have hmm : m' = m := by
      have : m' ∈ l := hm.perm.mem_iff.2 (List.mem_of_getElem? g1)
      exact inj_of_nodup hm.nodup this hml (g2.trans h7.symm)
    subst hmm
    have hok : keyOk e.1 = true := hm.keys.1 e hmem
    refine ⟨hmem, hke, h6, i, m', by simpa using g1, keyOk_det hok h4 (by rw [← hke]; exact ha), h5, h7, fun w' => ?_⟩
    rw [findKey_ok he hk ha key, g3]
    simp
end
end Am

/- The abstract machine: its operations are the model's (17): maps. -/
namespace Am
open Go

theorem idx_inj {α β : Type} {f : α → β} : ∀ {l : List α}, (l.map f).Nodup → ∀ {i j : Nat} {a b : α}, l[i]? = some a → l[j]? = some b → f a = f b → i = j
  | [], _, i, _, _, _, h, _, _ => by simp at h
  | c :: l, hn, 0, 0, _, _, _, _, _ => rfl
  | c :: l, hn, 0, j + 1, a, b, h1, h2, e => by
    simp only [List.map_cons, List.nodup_cons] at hn
    simp at h1 h2; subst h1
    exact absurd (List.mem_map.2 ⟨b, List.mem_of_getElem? h2, e.symm⟩) hn.1
  | c :: l, hn, i + 1, 0, a, b, h1, h2, e => by
    simp only [List.map_cons, List.nodup_cons] at hn
    simp at h1 h2; subst h2
    exact absurd (List.mem_map.2 ⟨a, List.mem_of_getElem? h1, e⟩) hn.1
  | c :: l, hn, i + 1, j + 1, a, b, h1, h2, e => by
    simp only [List.map_cons, List.nodup_cons] at hn
    exact congrArg (· + 1) (idx_inj (f := f) (a := a) (b := b) hn.2 (by simpa using h1) (by simpa using h2) e)

/-- The entry with a stamp is changed. -/
def atBorn (n : Nat) (f : MapEntry → MapEntry) (e : MapEntry) : MapEntry := if e.born = n then f e else e

theorem modify_list {arr : Array MapEntry} (hn : (arr.toList.map (·.born)).Nodup) {i : Nat} {m : MapEntry} (hi : arr[i]? = some m) (f : MapEntry → MapEntry) :
    (arr.modify i f).toList = arr.toList.map (atBorn m.born f) := by
  apply List.ext_getElem?
  intro j
  rw [List.getElem?_map]
  simp only [Array.getElem?_toList, Array.getElem?_modify]
  split
  · next e => subst e; rw [hi]; simp [atBorn]
  · next e =>
    cases hj : arr[j]? with
    | none => rfl
    | some m' =>
      have : m'.born ≠ m.born := fun hb => e (idx_inj (f := MapEntry.born) hn (a := m) (b := m') (by simpa using hi) (by simpa using hj) hb.symm)
      simp [atBorn, this]

theorem erase_list {arr : Array MapEntry} (hn : (arr.toList.map (·.born)).Nodup) {i : Nat} {m : MapEntry} (hi : arr[i]? = some m) :
    (arr.eraseIdxIfInBounds i).toList = arr.toList.filter (fun e => e.born != m.born) := by
  have key : ∀ (l : List MapEntry) (i : Nat), (l.map (·.born)).Nodup → l[i]? = some m → l.eraseIdx i = l.filter (fun e => e.born != m.born) := by
    intro l
    induction l with
    | nil => intro i _ h; simp at h
    | cons a l ih =>
      intro i hn hi
      simp only [List.map_cons, List.nodup_cons] at hn
      cases i with
      | zero =>
        simp at hi; subst hi
        simp only [List.eraseIdx_zero, List.tail_cons, List.filter_cons, bne_self_eq_false, Bool.false_eq_true, if_false]
        symm
        rw [List.filter_eq_self]
        intro e he
        simp only [bne_iff_ne, ne_eq]
        intro hb
        exact hn.1 (List.mem_map.2 ⟨e, he, hb⟩)
      | succ i =>
        simp only [List.eraseIdx_cons_succ]
        have hi' : l[i]? = some m := by simpa using hi
        have : a.born ≠ m.born := fun hb => hn.1 (List.mem_map.2 ⟨m, List.mem_of_getElem? hi', hb.symm⟩)
        simp [this, ih i hn.2 hi']
  have hlt : i < arr.size := by
    rcases Nat.lt_or_ge i arr.size with h | h
    · exact h
    · rw [Array.getElem?_eq_none h] at hi; cases hi
  rw [Array.eraseIdxIfInBounds, dif_pos hlt, Array.toList_eraseIdx]
  exact key _ _ hn (by simpa using hi)

theorem isEq_true {kd : Kd} {k : AV} {e : Ent} : isEq kd k e = true ↔ eqKd kd k e.1 = some true := by
  unfold isEq
  cases h : eqKd kd k e.1 with
  | none => simp
  | some b => simp

/-- An entry is changed. -/
theorem upd_ents {C : Cx} {b : Nat} {kd : Kd} {k v : AV} {kx vx : Value} (hk : VR C k kx) (hv : VR C v vx) {n : Nat} (hi : ∀ j, C.G b j → C.gh b j = C.gh b n → j = n) :
    ∀ {es : List Ent} {l : List MapEntry}, EntsR C b es l → (es.map (·.2.2)).Nodup → (∀ e ∈ es, (isEq kd k e = true ↔ e.2.2 = n)) →
      EntsR C b (updA kd k v es) (l.map (atBorn (C.gh b n) fun e => { e with key := kx, val := vx }))
  | _, _, .nil, _, _ => .nil
  | e :: es, m :: l, .cons h1 h2 h3 h4 t, hn, h => by
    simp only [List.map_cons, List.nodup_cons] at hn
    simp only [updA, List.map_cons]
    have hh := h e (List.mem_cons_self ..)
    cases hq : isEq kd k e with
    | true =>
      have hen := hh.1 hq
      simp only [cond_true]
      have hm : m.born = C.gh b n := by rw [h4]; exact congrArg _ hen
      have hrest : l.map (atBorn (C.gh b n) fun e => { e with key := kx, val := vx }) = l := by
        rw [List.map_congr_left (g := id), List.map_id]
        intro m' hm'
        obtain ⟨e', he', _, _, g3, g4⟩ := t.mem' hm'
        have : m'.born ≠ C.gh b n := by
          rw [g4]
          intro hb
          have := hi _ g3 hb
          exact hn.1 (List.mem_map.2 ⟨e', he', this.trans hen.symm⟩)
        simp [atBorn, this]
      rw [hrest]
      simp only [atBorn, hm, if_true]
      exact .cons hk hv h3 (hm.symm.trans h4) t
    | false =>
      have hen : e.2.2 ≠ n := fun he => by rw [hh.2 he] at hq; cases hq
      simp only [cond_false]
      have hm : m.born ≠ C.gh b n := by
        rw [h4]; intro hb; exact hen (hi _ h3 hb)
      simp only [atBorn, hm, if_false]
      exact .cons h1 h2 h3 h4 (upd_ents hk hv hi t hn.2 fun e' he' => h e' (List.mem_cons_of_mem _ he'))

/-- An entry is taken out. -/
theorem del_ents {C : Cx} {b : Nat} {kd : Kd} {k : AV} {n : Nat} (hi : ∀ j, C.G b j → C.gh b j = C.gh b n → j = n) :
    ∀ {es : List Ent} {l : List MapEntry}, EntsR C b es l → (es.map (·.2.2)).Nodup → (∀ e ∈ es, (isEq kd k e = true ↔ e.2.2 = n)) →
      EntsR C b (delA kd k es) (l.filter (fun e => e.born != C.gh b n))
  | _, _, .nil, _, _ => .nil
  | e :: es, m :: l, .cons h1 h2 h3 h4 t, hn, h => by
    simp only [List.map_cons, List.nodup_cons] at hn
    simp only [delA]
    have hh := h e (List.mem_cons_self ..)
    cases hq : isEq kd k e with
    | true =>
      have hen := hh.1 hq
      simp only [cond_true]
      have hm : m.born = C.gh b n := by rw [h4]; exact congrArg _ hen
      have hrest : l.filter (fun e => e.born != C.gh b n) = l := by
        rw [List.filter_eq_self]
        intro m' hm'
        obtain ⟨e', he', _, _, g3, g4⟩ := t.mem' hm'
        simp only [bne_iff_ne, ne_eq, g4]
        intro hb
        exact hn.1 (List.mem_map.2 ⟨e', he', (hi _ g3 hb).trans hen.symm⟩)
      simp only [List.filter_cons, hm, bne_self_eq_false, Bool.false_eq_true, if_false]
      rw [hrest]
      exact t
    | false =>
      have hen : e.2.2 ≠ n := fun he => by rw [hh.2 he] at hq; cases hq
      simp only [cond_false]
      have hm : (m.born != C.gh b n) = true := by
        simp only [bne_iff_ne, ne_eq]
        rw [h4]; intro hb; exact hen (hi _ h3 hb)
      simp only [List.filter_cons, hm, if_true]
      exact .cons h1 h2 h3 h4 (del_ents hi t hn.2 fun e' he' => h e' (List.mem_cons_of_mem _ he'))

theorem updA_keys {kd : Kd} {k v : AV} : ∀ {es : List Ent}, (∀ e ∈ es, (isEq kd k e = true → k = e.1)) → (updA kd k v es).map (·.1) = es.map (·.1)
  | [], _ => rfl
  | e :: es, h => by
    simp only [updA]
    cases hq : isEq kd k e with
    | true => simp [h e (List.mem_cons_self ..) hq]
    | false => simp [updA_keys fun e' he' => h e' (List.mem_cons_of_mem _ he')]

theorem delA_sub {kd : Kd} {k : AV} : ∀ {es : List Ent}, (delA kd k es).Sublist es
  | [] => List.Sublist.refl _
  | e :: es => by
    simp only [delA]
    cases isEq kd k e with
    | true => exact List.sublist_cons_self ..
    | false => exact (delA_sub (es := es)).cons_cons _

theorem atBorn_born (n : Nat) (kx vx : Value) (m : MapEntry) : (atBorn n (fun e => { e with key := kx, val := vx }) m).born = m.born := by
  unfold atBorn; split <;> rfl

theorem keys_iff {es : List Ent} : Keys es ↔ (∀ k ∈ es.map (·.1), keyOk k = true) ∧ (es.map (·.1)).Nodup := by
  unfold Keys
  constructor
  · rintro ⟨h1, h2⟩
    refine ⟨fun k hk => ?_, h2⟩
    obtain ⟨e, he, rfl⟩ := List.mem_map.1 hk
    exact h1 e he
  · rintro ⟨h1, h2⟩
    exact ⟨fun e he => h1 _ (List.mem_map.2 ⟨e, he, rfl⟩), h2⟩

theorem MapR.stamps_nodup {C : Cx} {b clock : Nat} {es : List Ent} {w : World} {arr : Array MapEntry} {l : List MapEntry} (h : MapR C b es clock w arr l) : (es.map (·.2.2)).Nodup := by
  have := h.nodup
  rw [h.ents.born] at this
  exact nodup_of_map this

theorem MapR.arr_nodup {C : Cx} {b clock : Nat} {es : List Ent} {w : World} {arr : Array MapEntry} {l : List MapEntry} (h : MapR C b es clock w arr l) : (arr.toList.map (·.born)).Nodup :=
  ((h.perm.map _).nodup_iff).1 h.nodup

/-- A map with an entry changed. -/
theorem MapR.upd {C : Cx} {b clock : Nat} {es : List Ent} {w : World} {arr : Array MapEntry} {l : List MapEntry} (h : MapR C b es clock w arr l) {kd : Kd} {k v : AV} {kx vx : Value} (hk : VR C k kx) (hv : VR C v vx)
    {e : Ent} (hr : findT kd k es = some (some e)) {i : Nat} {m : MapEntry} (hi : arr[i]? = some m) (hb : m.born = C.gh b e.2.2) :
    OR C b (.map (updA kd k v es) clock) (.map (arr.modify i fun e => { e with key := kx, val := vx }) clock) := by
  obtain ⟨h1, h2, h3⟩ := findT_some hr
  obtain ⟨hmem, htrue⟩ := h3 e rfl
  have hke := (eqKd_iff htrue).1 rfl
  obtain ⟨_, _, _, _, hge, _⟩ := h.ents.mem hmem
  have heq : ∀ e' ∈ es, (isEq kd k e' = true ↔ e'.2.2 = e.2.2) := by
    intro e' he'
    rw [isEq_true]
    constructor
    · intro hq
      have := (eqKd_iff hq).1 rfl
      rw [inj_of_nodup h.keys.2 he' hmem (this.symm.trans hke)]
    · intro hq
      rw [inj_of_nodup h.stamps_nodup he' hmem hq]; exact htrue
  have hkeys : (updA kd k v es).map (·.1) = es.map (·.1) := updA_keys fun e' _ hq => (eqKd_iff (isEq_true.1 hq)).1 rfl
  refine .map (l := l.map (atBorn (C.gh b e.2.2) fun e => { e with key := kx, val := vx })) ?_ (upd_ents hk hv (fun j hj hg => h.inj _ _ hj hge hg) h.ents h.stamps_nodup heq)
    (by rw [keys_iff, hkeys, ← keys_iff]; exact h.keys) ?_ h.ghs h.stamps h.inj
  · rw [modify_list h.arr_nodup hi, hb]
    exact h.perm.map _
  · rw [List.map_map]
    have : ((·.born) ∘ atBorn (C.gh b e.2.2) fun e => { e with key := kx, val := vx } : MapEntry → Nat) = (·.born) := by
      funext m; exact atBorn_born _ _ _ _
    rw [this]; exact h.nodup

/-- A map without an entry. -/
theorem MapR.del {C : Cx} {b clock : Nat} {es : List Ent} {w : World} {arr : Array MapEntry} {l : List MapEntry} (h : MapR C b es clock w arr l) {kd : Kd} {k : AV}
    {e : Ent} (hr : findT kd k es = some (some e)) {i : Nat} {m : MapEntry} (hi : arr[i]? = some m) (hb : m.born = C.gh b e.2.2) :
    OR C b (.map (delA kd k es) clock) (.map (arr.eraseIdxIfInBounds i) clock) := by
  obtain ⟨h1, h2, h3⟩ := findT_some hr
  obtain ⟨hmem, htrue⟩ := h3 e rfl
  have hke := (eqKd_iff htrue).1 rfl
  obtain ⟨_, _, _, _, hge, _⟩ := h.ents.mem hmem
  have heq : ∀ e' ∈ es, (isEq kd k e' = true ↔ e'.2.2 = e.2.2) := by
    intro e' he'
    rw [isEq_true]
    constructor
    · intro hq
      have := (eqKd_iff hq).1 rfl
      rw [inj_of_nodup h.keys.2 he' hmem (this.symm.trans hke)]
    · intro hq
      rw [inj_of_nodup h.stamps_nodup he' hmem hq]; exact htrue
  refine .map (l := l.filter (fun e' => e'.born != C.gh b e.2.2)) ?_ (del_ents (fun j hj hg => h.inj _ _ hj hge hg) h.ents h.stamps_nodup heq) ?_ ?_ h.ghs h.stamps h.inj
  · rw [erase_list h.arr_nodup hi, hb]
    exact h.perm.filter _
  · exact ⟨fun e' he' => h.keys.1 e' (delA_sub.subset he'), (delA_sub.map _).nodup h.keys.2⟩
  · exact ((List.filter_sublist).map _).nodup h.nodup

/-- The context with a new stamp. -/
def Cx.withStamp (C : Cx) (b n : Nat) : Cx := { C with gh := fun c k => if c = b ∧ k = n then n else C.gh c k, G := fun c k => C.G c k ∨ (c = b ∧ k = n) }

theorem Ext.withStamp {C : Cx} {b n : Nat} (h : ¬ C.G b n) : Ext C (C.withStamp b n) :=
  ⟨fun _ h => h, fun _ _ => rfl, fun _ _ h => h, fun _ _ h => .inl h, fun c k hk => by
    have : ¬ (c = b ∧ k = n) := by rintro ⟨rfl, rfl⟩; exact h hk
    simp [Cx.withStamp, this], fun _ h => h⟩

/-- A map with a new entry. -/
theorem MapR.add {C : Cx} {b clock : Nat} {es : List Ent} {w : World} {arr : Array MapEntry} {l : List MapEntry} (h : MapR C b es clock w arr l) {k v : AV} {kx vx : Value} (hk : VR C k kx) (hv : VR C v vx)
    (hok : keyOk k = true) (hno : ∀ e ∈ es, k ≠ e.1) :
    ¬ C.G b clock ∧ OR (C.withStamp b clock) b (.map (es ++ [(k, v, clock)]) (clock + 1)) (.map (arr.push { key := kx, val := vx, born := clock }) (clock + 1)) := by
  have hng : ¬ C.G b clock := fun hg => Nat.lt_irrefl _ (h.stamps _ hg)
  have e := Ext.withStamp hng
  have hgh : (C.withStamp b clock).gh b clock = clock := by simp [Cx.withStamp]
  have happ : ∀ {es : List Ent} {l : List MapEntry}, EntsR C b es l → EntsR (C.withStamp b clock) b (es ++ [(k, v, clock)]) (l ++ [{ key := kx, val := vx, born := clock }]) := by
    intro es l hh
    induction hh with
    | nil => exact .cons (hk.mono e) (hv.mono e) (.inr ⟨rfl, rfl⟩) hgh.symm .nil
    | cons h1 h2 h3 h4 _ ih => exact .cons (h1.mono e) (h2.mono e) (.inl h3) (h4.trans (e.gh _ _ h3).symm) ih
  have hlt := h.ents.born_lt h.ghs
  refine ⟨hng, .map (l := l ++ [{ key := kx, val := vx, born := clock }]) ?_ (happ h.ents) ⟨?_, ?_⟩ ?_ ?_ ?_ ?_⟩
  · rw [Array.toList_push]; exact h.perm.append_right _
  · intro e' he'
    rcases List.mem_append.1 he' with he' | he'
    · exact h.keys.1 e' he'
    · simp only [List.mem_singleton] at he'; subst he'; exact hok
  · rw [List.map_append, List.nodup_append]
    refine ⟨h.keys.2, by simp, ?_⟩
    intro a ha b' hb' hab
    simp only [List.map_cons, List.map_nil, List.mem_singleton] at hb'
    obtain ⟨e', he', rfl⟩ := List.mem_map.1 ha
    exact hno e' he' (by rw [hab, hb'])
  · rw [List.map_append, List.nodup_append]
    refine ⟨h.nodup, by simp, ?_⟩
    intro a ha b' hb' hab
    simp only [List.map_cons, List.map_nil, List.mem_singleton] at hb'
    obtain ⟨m, hm, rfl⟩ := List.mem_map.1 ha
    have := hlt m hm
    omega
  · rintro n (hg | ⟨_, rfl⟩)
    · rw [e.gh _ _ hg]; exact Nat.lt_succ_of_lt (h.ghs n hg)
    · rw [hgh]; exact Nat.lt_succ_self _
  · rintro n (hg | ⟨_, rfl⟩)
    · exact Nat.lt_succ_of_lt (h.stamps n hg)
    · exact Nat.lt_succ_self _
  · rintro n m (hg | ⟨_, rfl⟩) (hg' | ⟨_, rfl⟩) hh
    · rw [e.gh _ _ hg, e.gh _ _ hg'] at hh; exact h.inj n m hg hg' hh
    · rw [e.gh _ _ hg, hgh] at hh; have := h.ghs n hg; omega
    · rw [e.gh _ _ hg', hgh] at hh; have := h.ghs m hg'; omega
    · rfl
end Am

/- The abstract machine: its operations are the model's (18): maps read and written. -/
namespace Am
open Go

section
variable {E : Env} {P : Program} (he : EnvOk E P)

def FoundR (C : Cx) : Option Ent → Option (Nat × Value) → Prop
  | none, none => True
  | some e, some p => VR C e.2.1 p.2
  | _, _ => False

theorem kd_len {kd : Kd} {k : AV} (h : okKd kd k = true) : keyOk k = true := okKd_plain h

include he

theorem okDesc_check {t : TypeId} {kd : Kd} (hk : kdOf E t = some kd) {C : Cx} {a : AV} {x : Value} (ha : VR C a x) (hok : okKd kd a = true) (empty : Bool) (w : World) :
    (Instr.checkKey empty 10000 t x).run P w = .ok () w := checkKey_ok he hk ha hok empty 9998 w

theorem ok_lookup {o : Oper} {t : TypeId} {x k : Operand} {ok : Bool} (ho : o.op = .lookup t x k ok) : SOk E P o (lookupC E t x k ok) := by
  unfold lookupC
  split
  · next key elem hu =>
    split
    · next z kd hz hk =>
      intro C T a S w hg hT hS v h
      obtain ⟨av, hav, h⟩ := Option.bind_eq_some_iff.1 h
      obtain ⟨kv, hkv, h⟩ := Option.bind_eq_some_iff.1 h
      have hvx := opnd_ok hg hT hav
      have hvk := opnd_ok hg hT hkv
      unfold lookupV at h
      cases hok : okKd kd kv with
      | false => rw [hok] at h; cases h
      | true =>
      rw [hok] at h
      simp only [cond_true] at h
      obtain ⟨es, hes, h⟩ := Option.bind_eq_some_iff.1 h
      obtain ⟨r, hr, h⟩ := Option.bind_eq_some_iff.1 h
      cases h
      obtain ⟨zv, hzv, hzr⟩ := run_zero' he hz
      have hchk := fun e w => okDesc_check he hk hvk hok e w
      -- what is found in a list of entries
      have fin : ∀ (arr : Array MapEntry) (q : Option (Nat × Value)), (Instr.findKey key (a.eval k) arr.toList).run P w = .ok q w →
          FoundR C r q →
          ∃ y, ((do
            Instr.checkKey arr.isEmpty 10000 key (a.eval k)
            let (v, ok') ← match ← Instr.findKey key (a.eval k) arr.toList with
              | some (_, v) => pure (v, true)
              | none => pure (← zeroValue elem, false)
            pure (if ok then .tuple #[v, .bool ok'] else v)) : Sem Value).run P w = .ok y w ∧ VR C (foundV ok z r) y := by
        intro arr q hq hrel
        simp only [Sem.run_bind, hchk, Result.andThen_ok, hq]
        cases r with
        | none =>
          cases q with
          | some p => exact hrel.elim
          | none =>
            simp only [Sem.run_bind, hzv, Result.andThen_ok, Sem.run_pure]
            cases ok with
            | true => exact ⟨_, rfl, .tuple (by simpa using VRs.cons (hzr C) (VRs.one (.bool false)))⟩
            | false => exact ⟨_, rfl, hzr C⟩
        | some e =>
          cases q with
          | none => exact hrel.elim
          | some p =>
            obtain ⟨i, pv⟩ := p
            simp only [Sem.run_pure, Result.andThen_ok]
            cases ok with
            | true => exact ⟨_, rfl, .tuple (by simpa using VRs.cons hrel (VRs.one (.bool true)))⟩
            | false => exact ⟨_, rfl, hrel⟩
      cases av with
      | nilmap =>
        cases hes
        cases hr
        generalize hq : a.eval x = q at hvx
        cases hvx
        obtain ⟨y, hy, hvy⟩ := fin #[] none (findKey_ok he hk hvk (n := 0) (L := []) (by simp)) trivial
        refine ⟨y, ?_, hvy⟩
        simp only [execOp, ho, Sem.run_bind, hq, Instr.lookup, run_und he hu, Result.andThen_ok, Sem.run_pure]
        simp only [Sem.run_bind] at hy
        exact congrArg (fun R : Result Value => R.andThen fun a w' => Result.ok (Next.value a) w') hy
      | map b =>
        simp only [entsOf] at hes
        obtain ⟨cl, hb⟩ := mapOf?_some hes
        obtain ⟨arr, l, hm⟩ := hS.map hb
        generalize hq : a.eval x = q at hvx
        cases hvx
        obtain ⟨g1, g2⟩ := lookup_ok he hk hvk hm hr
        have : ∃ q, (Instr.findKey key (a.eval k) arr.toList).run P w = .ok q w ∧ FoundR C r q := by
          cases r with
          | none => exact ⟨none, (g1 rfl).1 w, trivial⟩
          | some e =>
            obtain ⟨_, _, _, i, m, _, _, hv, _, hf⟩ := g2 e rfl
            exact ⟨_, hf w, hv⟩
        obtain ⟨qq, hqq, hrel⟩ := this
        obtain ⟨y, hy, hvy⟩ := fin arr qq hqq hrel
        refine ⟨y, ?_, hvy⟩
        simp only [execOp, ho, Sem.run_bind, hq, Instr.lookup, run_und he hu, Result.andThen_ok, run_getObj hm.at_ (by simp), Sem.run_pure]
        simp only [Sem.run_bind] at hy
        exact congrArg (fun R : Result Value => R.andThen fun a w' => Result.ok (Next.value a) w') hy
      | _ => cases hes
    · exact SOk.bad
  · exact SOk.bad

omit he in
theorem setBlk_write {C : Cx} {S : St} {w : World} (hS : StR C S w) {b : Nat} {o0 : AObj} (hb : S.heap.get b = some o0) {C' : Cx} (e : Ext C C') (hD : ∀ k, C'.D k → C.D k) (hM : C'.M = C.M) (hX : C'.X = C.X)
    (hG : ∀ k n, C'.G k n → C.G k n ∨ k = b) {o : AObj} {x y : Obj} (hx : w.heap[(C.pl b).blk]? = some y) (hc : ∀ c e f, y ≠ .cells c e f) (hr : OR C' b o x) :
    (setObj (C.pl b).blk x).run P w = .ok () (World.setBlk w (C.pl b).blk x) ∧ Tran C S w C' (S.put b (some o)) (World.setBlk w (C.pl b).blk x) :=
  ⟨run_setObj hx hc, Tran.writeG hS hb e hD hM hX hG o x hr⟩

omit he in
theorem keyStays {C : Cx} {k : AV} {kx : Value} (hk : VR C k kx) (hok : keyOk k = true) (w : World) : (Instr.keyThatStays kx kx).run P w = .ok kx w :=
  stays_ok (sameBits_ok hok hk 9999)

theorem mapSet_ok {t key elem : TypeId} {kd : Kd} (hu : und E t = some (.map key elem)) (hk : kdOf E key = some kd) {C : Cx} {S S' : St} {w : World} (hS : StR C S w) {k v m : AV} {kx vx mx : Value}
    (hvk : VR C k kx) (hvv : VR C v vx) (hvm : VR C m mx) (h : mapSetV kd S k v m = some S') : ∃ C' w', (Instr.mapUpdate t mx kx vx).run P w = .ok () w' ∧ Tran C S w C' S' w' := by
  unfold mapSetV at h
  split at h
  · next b =>
    cases hok : okKd kd k with
    | false => rw [hok] at h; cases h
    | true =>
    rw [hok] at h
    simp only [cond_true] at h
    unfold mapSetIn at h
    split at h
    · next es clock hb =>
      obtain ⟨r, hr, h⟩ := Option.bind_eq_some_iff.1 h
      obtain ⟨arr, l, hm⟩ := hS.map hb
      obtain ⟨g1, g2⟩ := lookup_ok he hk hvk hm hr
      have hchk := fun e w => okDesc_check he hk hvk hok e w
      have hkok := kd_len hok
      cases hvm with
      | map hd =>
      cases r with
      | none =>
        cases h
        obtain ⟨hng, hor⟩ := hm.add hvk hvv hkok (g1 rfl).2
        obtain ⟨hrun, ht⟩ := setBlk_write (P := P) hS hb (Ext.withStamp hng) (fun _ h => h) rfl rfl (fun k n h => h.imp id (fun h => h.1)) hm.at_ (by simp) hor
        refine ⟨_, _, ?_, ht⟩
        simp only [Instr.mapUpdate, Sem.run_bind, run_und he hu, Result.andThen_ok, run_getObj hm.at_ (by simp), hchk, (g1 rfl).1, hrun]
      | some e =>
        cases h
        obtain ⟨hmem, hke, hge, i, me, hi, hmk, hmv, hmb, hf⟩ := g2 e rfl
        have hor := hm.upd hvk hvv hr hi hmb
        obtain ⟨hrun, ht⟩ := setBlk_write (P := P) hS hb (.refl C) (fun _ h => h) rfl rfl (fun k n h => .inl h) hm.at_ (by simp) hor
        refine ⟨_, _, ?_, ht⟩
        simp only [Instr.mapUpdate, Sem.run_bind, run_und he hu, Result.andThen_ok, run_getObj hm.at_ (by simp), hchk, hf, hi, Option.map_some, Option.getD_some, hmk, keyStays hvk hkok, hrun]
    · cases h
  · cases h

theorem ok_mapSet {o : Oper} {t : TypeId} {m k v : Operand} (ho : o.op = .mapUpdate t m k v ∨ o.op = .insert t m k v) : SOk E P o (mapSetC E t m k v) := by
  unfold mapSetC
  split
  · next key elem hu =>
    split
    · next kd hk =>
      intro C T a S w hg hT hS r S' h
      obtain ⟨av, hav, h⟩ := Option.bind_eq_some_iff.1 h
      obtain ⟨bv, hbv, h⟩ := Option.bind_eq_some_iff.1 h
      obtain ⟨cv, hcv, h⟩ := Option.bind_eq_some_iff.1 h
      obtain ⟨s', hs1, hr⟩ := withU_some h
      cases hr
      obtain ⟨C', w', hrun, ht⟩ := mapSet_ok he hu hk hS (opnd_ok hg hT hbv) (opnd_ok hg hT hcv) (opnd_ok hg hT hav) hs1
      refine ⟨C', .skip, w', ?_, ht, .skip⟩
      rcases ho with ho | ho <;> simp [execOp, ho, hrun]
    · exact SOk.bad
  · exact SOk.bad

theorem ok_mapEntry {o : Oper} {t : TypeId} {m k : Operand} (ho : o.op = .mapEntry t m k) : SOk E P o (mapEntryC E t m k) := by
  unfold mapEntryC
  split
  · next key elem hu =>
    split
    · next z kd hz hk =>
      intro C T a S w hg hT hS r S' h
      obtain ⟨av, hav, h⟩ := Option.bind_eq_some_iff.1 h
      obtain ⟨kv, hbv, h⟩ := Option.bind_eq_some_iff.1 h
      have hvm := opnd_ok hg hT hav
      have hvk := opnd_ok hg hT hbv
      cases av with
      | map b =>
        simp only [mapEntryV] at h
        cases hok : okKd kd kv with
        | false => rw [hok] at h; cases h
        | true =>
        rw [hok] at h
        simp only [cond_true] at h
        unfold mapEntryIn at h
        split at h
        · next es clock hb =>
          obtain ⟨r', hr, h⟩ := Option.bind_eq_some_iff.1 h
          obtain ⟨arr, l, hm⟩ := hS.map hb
          obtain ⟨g1, g2⟩ := lookup_ok he hk hvk hm hr
          have hchk := fun e w => okDesc_check he hk hvk hok e w
          have hkok := kd_len hok
          obtain ⟨zv, hzv, hzr⟩ := run_zero' he hz
          generalize hq : a.eval m = q at hvm
          cases hvm with
          | map hd =>
          cases r' with
          | none =>
            cases h
            obtain ⟨hng, hor⟩ := hm.add hvk (hzr C) hkok (g1 rfl).2
            obtain ⟨hrun, ht⟩ := setBlk_write (P := P) hS hb (Ext.withStamp hng) (fun _ h => h) rfl rfl (fun k n h => h.imp id (fun h => h.1)) hm.at_ (by simp) hor
            refine ⟨_, .value _, _, ?_, ht, .value (.tuple (x := #[zv, goInt clock]) (.cons (hzr _) (.one ?_)))⟩
            · simp only [execOp, ho, Instr.mapEntry, Sem.run_bind, hq, run_und he hu, Result.andThen_ok, run_getObj hm.at_ (by simp), hchk, (g1 rfl).1, hzv, hrun, Sem.run_pure]
            · have := VR.stamp (C := C.withStamp b clock) (b := b) (n := clock) (.inr ⟨rfl, rfl⟩)
              have hgh : (C.withStamp b clock).gh b clock = clock := by simp [Cx.withStamp]
              rw [hgh] at this
              exact this
          | some e =>
            cases h
            obtain ⟨hmem, hke, hge, i, me, hi, hmk, hmv, hmb, hf⟩ := g2 e rfl
            have hsame : World.setBlk w (C.pl b).blk (.map (arr.modify i fun e => { e with key := a.eval k }) clock) = w := by
              have : arr.modify i (fun e => { e with key := a.eval k }) = arr := by
                apply Array.ext_getElem?
                intro j
                rw [Array.getElem?_modify]
                split
                · next e => subst e; rw [hi]; simp [← hmk]
                · rfl
              rw [this]
              unfold World.setBlk
              have : w.heap.setIfInBounds (C.pl b).blk (.map arr clock) = w.heap := by
                apply Array.ext_getElem?
                intro j
                rw [Array.getElem?_setIfInBounds]
                split
                · next e => subst e; rw [hm.at_]; simp [lt_of_get hm.at_]
                · rfl
              rw [this]
            have hrun := run_setObj (P := P) (w := w) (r := (C.pl b).blk) (o := .map (arr.modify i fun e => { e with key := a.eval k }) clock) hm.at_ (by simp)
            rw [hsame] at hrun
            refine ⟨C, .value _, w, ?_, Tran.refl hS, .value (.tuple (x := #[me.val, goInt me.born]) (.cons hmv (.one ?_)))⟩
            · simp only [execOp, ho, Instr.mapEntry, Sem.run_bind, hq, run_und he hu, Result.andThen_ok, run_getObj hm.at_ (by simp), hchk, hf, hi, Option.map_some, Option.getD_some, hmk, keyStays hvk hkok, hrun, Sem.run_pure]
            · have := VR.stamp (C := C) (b := b) (n := e.2.2) hge
              rw [← hmb] at this
              exact this
        · cases h
      | _ => simp [mapEntryV] at h
    · exact SOk.bad
  · exact SOk.bad
end
end Am

/- The abstract machine: its operations are the model's (19): entries of maps, taken out, stored, ranged over. -/
namespace Am
open Go

theorem stampSet_ents {C : Cx} {b : Nat} {v : AV} {vx : Value} (hv : VR C v vx) {n : Nat} (hi : ∀ j, C.G b j → C.gh b j = C.gh b n → j = n) :
    ∀ {es es' : List Ent} {l : List MapEntry}, EntsR C b es l → (es.map (·.2.2)).Nodup → stampSet n v es = some es' →
      EntsR C b es' (l.map (atBorn (C.gh b n) fun e => { e with val := vx })) ∧ es'.map (·.1) = es.map (·.1) ∧ C.G b n ∧ ∃ m ∈ l, m.born = C.gh b n
  | _, _, _, .nil, _, h => by cases h
  | e :: es, es', m :: l, .cons h1 h2 h3 h4 t, hn, h => by
    simp only [List.map_cons, List.nodup_cons] at hn
    simp only [stampSet] at h
    simp only [List.map_cons]
    cases hq : Nat.beq _ n with
    | true =>
      rw [hq] at h; cases h
      have hen := Nat.eq_of_beq_eq_true hq
      have hm : m.born = C.gh b n := by rw [h4]; exact congrArg _ hen
      have hrest : l.map (atBorn (C.gh b n) fun e => { e with val := vx }) = l := by
        rw [List.map_congr_left (g := id), List.map_id]
        intro m' hm'
        obtain ⟨e', he', _, _, g3, g4⟩ := t.mem' hm'
        have : m'.born ≠ C.gh b n := by
          rw [g4]
          intro hb
          have := hi _ g3 hb
          exact hn.1 (List.mem_map.2 ⟨e', he', this.trans hen.symm⟩)
        simp [atBorn, this]
      rw [hrest]
      simp only [atBorn, hm, if_true]
      exact ⟨.cons h1 hv h3 (hm.symm.trans h4) t, rfl, hen ▸ h3, m, List.mem_cons_self .., hm⟩
    | false =>
      rw [hq] at h
      obtain ⟨r, hr, h⟩ := Option.bind_eq_some_iff.1 h
      cases h
      have hen : ¬ _ = n := Nat.ne_of_beq_eq_false hq
      have hm : m.born ≠ C.gh b n := by
        rw [h4]; intro hb; exact hen (hi _ h3 hb)
      obtain ⟨a1, a2, a3, m', hm', a4⟩ := stampSet_ents hv hi t hn.2 hr
      simp only [atBorn, hm, if_false]
      exact ⟨.cons h1 h2 h3 h4 a1, by simp [a2], a3, m', List.mem_cons_of_mem _ hm', a4⟩

theorem findIdx_born {n : Nat} : ∀ {l : List MapEntry}, (∃ m ∈ l, m.born = n) → ∃ i m, l.findIdx? (fun e => (e.born : Int) == (n : Int)) = some i ∧ l[i]? = some m ∧ m.born = n
  | [], h => by obtain ⟨_, h, _⟩ := h; cases h
  | a :: l, h => by
    by_cases ha : a.born = n
    · exact ⟨0, a, by simp [List.findIdx?_cons, ha], rfl, ha⟩
    · obtain ⟨m, hm, hn⟩ := h
      have hm' : m ∈ l := (List.mem_cons.1 hm).resolve_left (fun e => ha (e ▸ hn))
      obtain ⟨i, m', h1, h2, h3⟩ := findIdx_born (l := l) ⟨m, hm', hn⟩
      refine ⟨i + 1, m', ?_, by simpa using h2, h3⟩
      have : ((a.born : Int) == (n : Int)) = false := by simp only [beq_eq_false_iff_ne, ne_eq]; omega
      simp [List.findIdx?_cons, this, h1]

theorem MapR.stamp {C : Cx} {b clock : Nat} {es es' : List Ent} {w : World} {arr : Array MapEntry} {l : List MapEntry} (h : MapR C b es clock w arr l) {v : AV} {vx : Value} (hv : VR C v vx) {n : Nat} (hg : C.G b n)
    (hs : stampSet n v es = some es') : ∃ i, arr.findIdx? (fun e => (e.born : Int) == (C.gh b n : Int)) = some i ∧ OR C b (.map es' clock) (.map (arr.modify i fun e => { e with val := vx }) clock) := by
  obtain ⟨a1, a2, a3, m, hm, a4⟩ := stampSet_ents hv (fun j hj hgj => h.inj _ _ hj hg hgj) h.ents h.stamps_nodup hs
  obtain ⟨i, m', h1, h2, h3⟩ := findIdx_born (l := arr.toList) ⟨m, h.perm.mem_iff.1 hm, a4⟩
  refine ⟨i, by rw [← h1]; have := List.findIdx?_toArray (p := fun e : MapEntry => (e.born : Int) == (C.gh b n : Int)) (l := arr.toList); simpa using this, .map (l := l.map (atBorn (C.gh b n) fun e => { e with val := vx })) ?_ a1 (by rw [keys_iff, a2, ← keys_iff]; exact h.keys) ?_ h.ghs h.stamps h.inj⟩
  · rw [modify_list h.arr_nodup (by simpa using h2), h3]
    exact h.perm.map _
  · rw [List.map_map]
    have : ((·.born) ∘ atBorn (C.gh b n) fun e => { e with val := vx } : MapEntry → Nat) = (·.born) := by
      funext m; simp only [Function.comp, atBorn]; split <;> rfl
    rw [this]; exact h.nodup

section
variable {E : Env} {P : Program} (he : EnvOk E P)

theorem ok_entryStore {o : Oper} {t : TypeId} {m st v : Operand} (ho : o.op = .entryStore t m st v) :
    SOk E P o (.act true (opnd E m) fun T s => (opnd E m T).bind fun a => (opnd E st T).bind fun b => (opnd E v T).bind fun c => withU (entryStoreV s c a b)) := by
  intro C T a S w hg hT hS r S' h
  obtain ⟨av, hav, h⟩ := Option.bind_eq_some_iff.1 h
  obtain ⟨sv, hsv, h⟩ := Option.bind_eq_some_iff.1 h
  obtain ⟨vv, hvv, h⟩ := Option.bind_eq_some_iff.1 h
  obtain ⟨s', hs1, hr⟩ := withU_some h
  cases hr
  have hvm := opnd_ok hg hT hav
  have hvs := opnd_ok hg hT hsv
  have hvx := opnd_ok hg hT hvv
  cases av with
  | map b =>
    cases sv <;> try (cases hs1; done)
    rename_i c n _
    simp only [entryStoreV] at hs1
    cases hbc : Nat.beq b c with
    | false => rw [hbc] at hs1; cases hs1
    | true =>
    rw [hbc] at hs1
    have := Nat.eq_of_beq_eq_true hbc
    subst this
    simp only [cond_true] at hs1
    unfold entryStoreIn at hs1
    split at hs1
    · next es clock hb =>
      obtain ⟨es', hes, hs1⟩ := Option.bind_eq_some_iff.1 hs1
      cases hs1
      obtain ⟨arr, l, hm⟩ := hS.map hb
      generalize hq : a.eval m = q at hvm
      generalize hq' : a.eval st = q' at hvs
      cases hvm with
      | map hd =>
      cases hvs with
      | stamp hgs =>
      obtain ⟨i, hi, hor⟩ := hm.stamp hvx hgs hes
      obtain ⟨hrun, ht⟩ := setBlk_write (P := P) hS hb (.refl C) (fun _ h => h) rfl rfl (fun k n h => .inl h) hm.at_ (by simp) hor
      refine ⟨C, .skip, _, ?_, ht, .skip⟩
      simp only [execOp, ho, Instr.entryStore, Sem.run_bind, hq, hq', run_getObj hm.at_ (by simp), Result.andThen_ok, asInt, asIntOf, Sem.run_pure, hi, hrun]
    · cases hs1
  | _ => cases hs1

include he

theorem ok_delete {o : Oper} {c : Call} {t : TypeId} {ts : List TypeId} {m k : Operand} (ho : o.op = .call c) (hc : c.callee = .builtin .delete) (hts : c.argTypes.toList = t :: ts) (hxs : c.args.toList = [m, k]) :
    SOk E P o (delC E t m k) := by
  have hts0 : c.argTypes[0]? = some t := by rw [← Array.getElem?_toList, hts]; rfl
  have hargs : ∀ ρ : Operand → Value, c.args.map ρ = #[ρ m, ρ k] := by
    intro ρ; apply Array.ext'; simp [hxs]
  unfold delC
  split
  · next key elem hu =>
    split
    · next kd hk =>
      intro C T a S w hg hT hS r S' h
      obtain ⟨av, hav, h⟩ := Option.bind_eq_some_iff.1 h
      obtain ⟨kv, hbv, h⟩ := Option.bind_eq_some_iff.1 h
      obtain ⟨s', hs1, hr⟩ := withU_some h
      cases hr
      have hvm := opnd_ok hg hT hav
      have hvk := opnd_ok hg hT hbv
      have hexec : (execOp a.eval o).run P w = (do pure (Next.value (← Builtin.delete_ c.argTypes o.type #[a.eval m, a.eval k])) : Sem Next).run P w := by
        simp [execOp, ho, resolve, hc, invoke, builtin, hargs]
      cases av with
      | map b =>
        simp only [delV] at hs1
        cases hok : okKd kd kv with
        | false => rw [hok] at hs1; cases hs1
        | true =>
        rw [hok] at hs1
        simp only [cond_true] at hs1
        have hchk := fun e w => okDesc_check he hk hvk hok e w
        unfold delIn at hs1
        split at hs1
        · next es clock hb =>
          obtain ⟨r', hr, hs1⟩ := Option.bind_eq_some_iff.1 hs1
          obtain ⟨arr, l, hm⟩ := hS.map hb
          obtain ⟨g1, g2⟩ := lookup_ok he hk hvk hm hr
          generalize hq : a.eval m = q at hvm
          cases hvm with
          | map hd =>
          cases r' with
          | none =>
            cases hs1
            have hrun := run_setObj (P := P) (w := w) (r := (C.pl b).blk) (o := .map arr clock) hm.at_ (by simp)
            have hsame : World.setBlk w (C.pl b).blk (.map arr clock) = w := by
              unfold World.setBlk
              have : w.heap.setIfInBounds (C.pl b).blk (.map arr clock) = w.heap := by
                apply Array.ext_getElem?
                intro j
                rw [Array.getElem?_setIfInBounds]
                split
                · next e => subst e; rw [hm.at_]; simp [lt_of_get hm.at_]
                · rfl
              rw [this]
            rw [hsame] at hrun
            refine ⟨C, .value _, w, ?_, Tran.refl hS, .value VR.unit⟩
            rw [hexec]
            simp [Builtin.delete_, hts0, run_und he hu, hq, run_getObj hm.at_ (by simp), hchk, (g1 rfl).1, hrun]
          | some e =>
            cases hs1
            obtain ⟨hmem, hke, hge, i, me, hi, hmk, hmv, hmb, hf⟩ := g2 e rfl
            have hor := hm.del hr hi hmb
            obtain ⟨hrun, ht⟩ := setBlk_write (P := P) hS hb (.refl C) (fun _ h => h) rfl rfl (fun k n h => .inl h) hm.at_ (by simp) hor
            refine ⟨C, .value _, _, ?_, ht, .value VR.unit⟩
            rw [hexec]
            simp [Builtin.delete_, hts0, run_und he hu, hq, run_getObj hm.at_ (by simp), hchk, hf, hrun]
        · cases hs1
      | nilmap =>
        simp only [delV] at hs1
        cases hok : okKd kd kv with
        | false => rw [hok] at hs1; cases hs1
        | true =>
        rw [hok] at hs1
        cases hs1
        have hchk := fun e w => okDesc_check he hk hvk hok e w
        generalize hq : a.eval m = q at hvm
        cases hvm with
        | nilmap =>
        refine ⟨C, .value _, w, ?_, Tran.refl hS, .value VR.unit⟩
        rw [hexec]
        simp [Builtin.delete_, hts0, run_und he hu, hq, hchk]
      | _ => simp [delV] at hs1
    · exact SOk.bad
  · exact SOk.bad

theorem ok_range {o : Oper} {t : TypeId} {x : Operand} (ho : o.op = .range t x) : SOk E P o (rangeC E t x) := by
  unfold rangeC
  split
  · next hu =>
    intro C T a S w hg hT hS
    refine ⟨fun v h => ?_, fun ob g h => ?_⟩
    · obtain ⟨av, hav, h⟩ := Option.bind_eq_some_iff.1 h
      cases av <;> cases h
    · obtain ⟨av, hav, h⟩ := Option.bind_eq_some_iff.1 h
      have hv := opnd_ok hg hT hav
      cases av <;> try (cases h; done)
      rename_i b
      cases h
      generalize hq : a.eval x = q at hv
      cases hv with
      | str hs =>
      refine ⟨_, _, _, ?_, Tran.alloc hS _ (.stringIter _ 0) 0 (.siter hs (by rw [Cx.pl_new])), fresh_ptr 0⟩
      simp [execOp, ho, Instr.range, run_und he hu, hq, World.pushed]
  · next k e hu =>
    intro C T a S w hg hT hS v S' h
    obtain ⟨av, hav, h⟩ := Option.bind_eq_some_iff.1 h
    have hv := opnd_ok hg hT hav
    cases av with
    | nilmap =>
      cases h
      generalize hq : a.eval x = q at hv
      cases hv
      refine ⟨_, .value _, _, ?_, Tran.alloc hS _ (.mapIter none 0 #[] 0) 0 (.miter0 (by rw [Cx.pl_new])), .value (fresh_ptr 0)⟩
      simp [execOp, ho, Instr.range, run_und he hu, hq, World.pushed]
    | map m =>
      simp only [rangeMap] at h
      split at h
      · next es clock hb =>
        cases h
        obtain ⟨arr, l, hm⟩ := hS.map hb
        generalize hq : a.eval x = q at hv
        cases hv with
        | map hd =>
        have hpl : (C.fresh S w 0).pl m = C.pl m := (fresh_ext hS 0).pl m hd
        refine ⟨_, .value _, _, ?_, Tran.alloc hS _ (.mapIter (some (C.pl m).blk) clock #[] clock) 0 ?_, .value (fresh_ptr 0)⟩
        · simp [execOp, ho, Instr.range, run_und he hu, hq, run_getObj hm.at_ (by simp), World.pushed]
        · have := OR.miter (C := C.fresh S w 0) (b := S.next) (m := m) (since := clock) (stepped := clock) (seen := []) (arr := #[]) ((fresh_ext hS 0).D m hd) (by simp) rfl (by rw [Cx.pl_new])
          rw [hpl] at this
          exact this
      · cases h
    | _ => cases h
  · exact SOk.bad
end
end Am

/- The abstract machine: its operations are the model's (20): iterators. -/
namespace Am
open Go

section
variable {E : Env} {P : Program}

theorem andThen_assoc {α β γ : Type} (r : Result α) (f : α → World → Result β) (g : β → World → Result γ) : (r.andThen f).andThen g = r.andThen fun a w => (f a w).andThen g := by
  cases r <;> rfl

theorem seenN_iff {n : Nat} : ∀ {l : List Nat}, seenN n l = true ↔ n ∈ l
  | [] => by simp [seenN]
  | k :: l => by
    simp only [seenN]
    cases h : Nat.beq k n with
    | true => have := Nat.eq_of_beq_eq_true h; subst this; simp
    | false =>
      have := Nat.ne_of_beq_eq_false h
      simp only [cond_false, List.mem_cons]
      rw [seenN_iff]
      constructor
      · exact .inr
      · rintro (rfl | h')
        · exact absurd rfl this
        · exact h'

theorem leftA_mem {seen : List Nat} {e : Ent} : ∀ {es : List Ent}, e ∈ leftA seen es ↔ e ∈ es ∧ e.2.2 ∉ seen
  | [] => by simp [leftA]
  | a :: l => by
    simp only [leftA]
    cases h : seenN a.2.2 seen with
    | true =>
      have := seenN_iff.1 h
      simp only [cond_true]
      rw [leftA_mem]
      constructor
      · rintro ⟨h1, h2⟩; exact ⟨List.mem_cons_of_mem _ h1, h2⟩
      · rintro ⟨h1, h2⟩
        rcases List.mem_cons.1 h1 with rfl | h1
        · exact absurd this h2
        · exact ⟨h1, h2⟩
    | false =>
      have hn : a.2.2 ∉ seen := fun hm => by rw [seenN_iff.2 hm] at h; cases h
      simp only [cond_false, List.mem_cons]
      rw [leftA_mem]
      constructor
      · rintro (rfl | ⟨h1, h2⟩)
        · exact ⟨.inl rfl, hn⟩
        · exact ⟨.inr h1, h2⟩
      · rintro ⟨rfl | h1, h2⟩
        · exact .inl rfl
        · exact .inr ⟨h1, h2⟩

theorem nextOf_mem {s : St} {r m since clock : Nat} {seen : List Nat} {e : Ent} : ∀ {es : List Ent}, e ∈ es →
    (AV.tuple [.bool true, e.1, e.2.1], s.put r (some (.miter (some m) since (seen ++ [e.2.2]) clock))) ∈ nextOf s r m since clock seen es
  | a :: l, h => by
    simp only [nextOf]
    rcases List.mem_cons.1 h with rfl | h
    · exact List.mem_cons_self ..
    · exact List.mem_cons_of_mem _ (nextOf_mem h)

theorem decode_low {s : ByteArray} {pos : Nat} {c : UInt8} (h : s.data[pos]? = some c) (hc : c.toNat < 128) : Utf8.decode s pos = (c.toNat, 1) := by
  have hg : s.get! pos = c := by
    have hlt : pos < s.data.size := by
      rcases Nat.lt_or_ge pos s.data.size with h' | h'
      · exact h'
      · rw [Array.getElem?_eq_none h'] at h; cases h
    have : s.data[pos]! = c := by rw [getElem!_pos s.data pos hlt]; rw [Array.getElem?_eq_getElem hlt] at h; exact Option.some.inj h
    exact this
  simp only [Utf8.decode, Nat.add_zero, hg]
  rw [if_pos (by omega)]

theorem nextStr_some {s : St} {v : AV} {r} (h : nextStr s v = some r) : ∃ b, v = .ptr b 0 ∧ nextStrIn s b (s.heap.get b) = some r := by
  unfold nextStr at h; split at h
  · exact ⟨_, rfl, h⟩
  · cases h
theorem nextMap_some {s : St} {v : AV} {r} (h : nextMap s v = some r) : ∃ b, v = .ptr b 0 ∧ nextMapIn s b (s.heap.get b) = some r := by
  unfold nextMap at h; split at h
  · exact ⟨_, rfl, h⟩
  · cases h
theorem entryV_some {s : St} {v : AV} {r} (h : entryV s v = some r) : ∃ b, v = .ptr b 0 ∧ entryIn s (s.heap.get b) = some r := by
  unfold entryV at h; split at h
  · exact ⟨_, rfl, h⟩
  · cases h

theorem ok_nextStr {o : Oper} {it : Operand} (ho : o.op = .next it true) : SOk E P o (.act true (opnd E it) fun T s => (opnd E it T).bind (nextStr s)) := by
  intro C T a S w hg hT hS v S' h
  obtain ⟨av, hav, h⟩ := Option.bind_eq_some_iff.1 h
  have hv := opnd_ok hg hT hav
  obtain ⟨r, hr0, h1⟩ := nextStr_some h
  subst hr0
  replace h := h1
  clear h1
  unfold nextStrIn at h
  split at h
  · next b pos hb =>
    obtain ⟨l, hl, h⟩ := Option.bind_eq_some_iff.1 h
    obtain ⟨hd, x, hx, hr⟩ := hS.live r _ hb
    generalize hq : a.eval it = q at hv
    cases hv with
    | ptr hd' =>
    cases hr with
    | @siter _ s _ hs hbase =>
    rw [hbase] at hq
    obtain ⟨pre, hpre, hpl⟩ := dropN_some hl
    have hlen : s.size = pre.length + l.length := by
      have : s.size = s.data.toList.length := by simp
      rw [this, hs, hpre]; simp
    have hget := run_getObj (P := P) (w := w) hx (by simp)
    split at h
    · next c rest =>
      have hpos : pos < s.size := by simp at hlen; omega
      have hc : s.data[pos]? = some c := by
        rw [← Array.getElem?_toList, hs, hpre, List.getElem?_append_right (by omega)]
        simp [hpl]
      have hstr : (⟨b.toArray⟩ : ByteArray) = s := by apply ByteArray.ext; apply Array.ext'; simp [hs]
      cases hlow : Nat.blt c.toNat 128 with
      | true =>
        rw [hlow] at h
        cases h
        have hlt : c.toNat < 128 := by simpa [Nat.blt_eq] using hlow
        obtain ⟨hrun, ht⟩ := setBlk_write (P := P) hS hb (.refl C) (fun _ h => h) rfl rfl (fun k n h => .inl h) hx (by simp) (OR.siter (C := C) (b := r) (pos := pos + 1) hs hbase)
        refine ⟨C, .value _, _, ?_, ht, .value (.tuple (x := #[.bool true, goInt pos, .int .i32 c.toNat]) (.cons (.bool true) (.cons (.int _ _) (.one (.int _ _)))))⟩
        simp [execOp, ho, Instr.next, hq, hget, hpos, decode_low hc hlt, hrun]
      | false =>
        rw [hlow] at h
        simp only [cond_false, wideStr, hstr] at h
        cases h
        obtain ⟨hrun, ht⟩ := setBlk_write (P := P) hS hb (.refl C) (fun _ h => h) rfl rfl (fun k n h => .inl h) hx (by simp) (OR.siter (C := C) (b := r) (pos := pos + (Utf8.decode s pos).2) hs hbase)
        refine ⟨C, .value _, _, ?_, ht, .value (.tuple (x := #[.bool true, goInt pos, .int .i32 (Utf8.decode s pos).1]) (.cons (.bool true) (.cons (.int _ _) (.one (.int _ _)))))⟩
        simp [execOp, ho, Instr.next, hq, hget, hpos, hrun]
    · cases h
      have hpos : ¬ pos < s.size := by simp at hlen; omega
      refine ⟨C, .value _, w, ?_, Tran.refl hS, .value (.tuple (x := #[.bool false]) (.one (.bool false)))⟩
      simp [execOp, ho, Instr.next, hq, hget, hpos]
  · cases h

theorem filter_all {α : Type} {p : α → Bool} {l : List α} (h : ∀ x ∈ l, p x = true) : l.filter p = l := List.filter_eq_self.2 h
theorem filter_none {α : Type} {p : α → Bool} {l : List α} (h : ∀ x ∈ l, p x = false) : l.filter p = [] := by
  rw [List.filter_eq_nil_iff]; intro x hx; rw [h x hx]; simp

theorem ok_nextMap {o : Oper} {it : Operand} (ho : o.op = .next it false) : SOk E P o (.picks fun T s => (opnd E it T).bind (nextMap s)) := by
  intro C T a S w hg hT hS ps h
  obtain ⟨av, hav, h⟩ := Option.bind_eq_some_iff.1 h
  have hv := opnd_ok hg hT hav
  obtain ⟨r, hr0, h1⟩ := nextMap_some h
  subst hr0
  replace h := h1
  clear h1
  unfold nextMapIn at h
  generalize hq : a.eval it = q at hv
  cases hv with
  | ptr hd' =>
  split at h
  · next hb =>
    cases h
    obtain ⟨hd, x, hx, hr⟩ := hS.live r _ hb
    cases hr with
    | miter0 hbase =>
    rw [hbase] at hq
    have hget := run_getObj (P := P) (w := w) hx (by simp)
    refine ⟨_, List.mem_singleton.2 rfl, C, _, w, ?_, Tran.refl hS, .tuple (x := #[.bool false]) (.one (.bool false))⟩
    simp [execOp, ho, Instr.next, hq, hget]
  · next m since seen stepped hb =>
    obtain ⟨hd, x, hx, hr⟩ := hS.live r _ hb
    cases hr with
    | @miter _ _ _ _ sarr hdm hgs hseen hbase =>
    rw [hbase] at hq
    have hget := run_getObj (P := P) (w := w) hx (by simp)
    unfold nextMapAt at h
    split at h
    · next es clock hm0 =>
      obtain ⟨arr, l, hm⟩ := hS.map hm0
      cases hcl : (Nat.beq clock stepped && Nat.beq clock since) with
      | false => rw [hcl] at h; cases h
      | true =>
      rw [hcl] at h
      simp only [Bool.and_eq_true] at hcl
      have h1 := Nat.eq_of_beq_eq_true hcl.1
      have h2 := Nat.eq_of_beq_eq_true hcl.2
      subst h1; subst h2
      simp only [cond_true] at h
      have hgetm := run_getObj (P := P) (w := w) hm.at_ (by simp)
      have hlt := hm.ents.born_lt hm.ghs
      have hlt' : ∀ e ∈ arr.toList, e.born < clock := fun e he => hlt e (hm.perm.mem_iff.2 he)
      have hall : (!sarr.isEmpty && !arr.isEmpty && arr.all (fun e => decide (e.born ≥ clock))) = false := by
        cases ha : arr.toList with
        | nil =>
          have : arr = #[] := Array.ext' (by simpa using ha)
          subst this; simp
        | cons e rest =>
          have := hlt' e (by rw [ha]; exact List.mem_cons_self ..)
          have hf : arr.all (fun e => decide (e.born ≥ clock)) = false := by
            rw [← Array.all_toList, ha]
            simp only [List.all_cons, Bool.and_eq_false_imp, decide_eq_true_eq]
            intro h; omega
          rw [hf]; simp
      have hcont : ∀ e ∈ es, ∀ n, n = C.gh m e.2.2 → C.G m e.2.2 → (sarr.contains n = true ↔ e.2.2 ∈ seen) := by
        rintro e _ n rfl hge
        rw [Array.contains_iff_mem, ← Array.mem_toList_iff, hseen, List.mem_map]
        constructor
        · rintro ⟨k, hk, hkk⟩
          have := hm.inj _ _ (hgs k hk) hge hkk
          rw [← this]; exact hk
        · intro hk; exact ⟨_, hk, rfl⟩
      have hold : (arr.filter fun e => !sarr.contains e.born).filter (fun e => decide (e.born < clock)) = arr.filter fun e => !sarr.contains e.born := by
        apply Array.ext'
        rw [Array.toList_filter]
        apply filter_all
        intro e he
        have : e ∈ arr.toList := by
          rw [Array.toList_filter] at he
          exact (List.mem_filter.1 he).1
        simp [hlt' e this]
      have hnew : (arr.filter fun e => !sarr.contains e.born).filter (fun e => decide (e.born ≥ clock)) = #[] := by
        apply Array.ext'
        rw [Array.toList_filter]
        apply filter_none
        intro e he
        have : e ∈ arr.toList := by
          rw [Array.toList_filter] at he
          exact (List.mem_filter.1 he).1
        have := hlt' e this
        simp; omega
      generalize hleft : (arr.filter fun e => !sarr.contains e.born) = left at hold hnew
      -- how a candidate is chosen
      have pickk : ∀ n, 0 < n → ∃ k w1, (choose (.mapNext n)).run P w = .ok k w1 ∧ k < n ∧ w1.heap = w.heap ∧ Tran C S w C S w1 := by
        intro n hn
        by_cases hf : n ≤ 1
        · exact ⟨0, w, by simp [choose, Sem.run, Question.forced, hf], hn, rfl, Tran.refl hS⟩
        · refine ⟨w.tape w.drawn (.mapNext n) % n, { w with drawn := w.drawn + 1 }, by simp [choose, Sem.run, Question.forced, hf, Question.cut], Nat.mod_lt _ hn, rfl, Tran.drew hS _⟩
      have hleftm : ∀ e ∈ left, ∃ q ∈ leftA seen es, VR C q.1 e.key ∧ VR C q.2.1 e.val ∧ C.G m q.2.2 ∧ e.born = C.gh m q.2.2 := by
        intro e he
        rw [← hleft, ← Array.mem_toList_iff, Array.toList_filter, List.mem_filter] at he
        obtain ⟨q, hq1, hq2, hq3, hq4, hq5⟩ := hm.ents.mem' (hm.perm.mem_iff.2 he.1)
        refine ⟨q, leftA_mem.2 ⟨hq1, fun hs => ?_⟩, hq2, hq3, hq4, hq5⟩
        have := (hcont q hq1 e.born hq5 hq4).2 hs
        rw [this] at he
        simp at he
      have hleft2 : leftA seen es ≠ [] → left ≠ #[] := by
        intro hne hl0
        obtain ⟨q, hq⟩ := List.exists_mem_of_ne_nil _ hne
        obtain ⟨hq1, hq2⟩ := leftA_mem.1 hq
        obtain ⟨e, he1, he2, he3, he4, he5⟩ := hm.ents.mem hq1
        have hmem : e ∈ left := by
          rw [← hleft, ← Array.mem_toList_iff, Array.toList_filter, List.mem_filter]
          refine ⟨hm.perm.mem_iff.1 he1, ?_⟩
          cases hc : sarr.contains e.born with
          | false => rfl
          | true => exact absurd ((hcont q hq1 e.born he5 he4).1 hc) hq2
        rw [hl0] at hmem; simp at hmem
      have hexec : (execOp a.eval o).run P w = ((choose (.mapNext ((if left.isEmpty then #[none] else #[]) ++ left.map some).size)).run P w).andThen fun i w1 =>
          (match ((if left.isEmpty then #[none] else #[]) ++ left.map some : Array (Option MapEntry))[i]? with
          | some (some e) => ((setObj (C.pl r).blk (.mapIter (some (C.pl m).blk) clock (sarr.push e.born) clock)).run P w1).andThen fun _ w2 => .ok (Next.value (.tuple #[.bool true, e.key, e.val])) w2
          | some none => .ok (Next.value (.tuple #[.bool false])) w1
          | none => .halt (.stuck "Next: no such candidate") w1) := by
        simp only [execOp, ho, Instr.next, hq, Sem.run_bind, hget, Result.andThen_ok, hgetm, hall, hleft, hold, hnew, Array.append_empty, Bool.false_eq_true, if_false]
        rw [andThen_assoc]
        congr 1
        funext i w1
        generalize ((if left.isEmpty = true then #[none] else #[]) ++ Array.map some left)[i]? = qq
        rcases qq with _ | _ | e
        · rfl
        · rfl
        · simp [andThen_assoc]
      rw [hexec]
      cases hla : leftA seen es with
      | nil =>
        rw [hla] at h
        cases h
        have hl0 : left = #[] := by
          apply Array.ext'
          cases hll : left.toList with
          | nil => rfl
          | cons e rest =>
            obtain ⟨q, hq1, _⟩ := hleftm e (by rw [← Array.mem_toList_iff, hll]; exact List.mem_cons_self ..)
            rw [hla] at hq1; cases hq1
        subst hl0
        refine ⟨_, List.mem_singleton.2 rfl, C, _, w, ?_, Tran.refl hS, .tuple (x := #[.bool false]) (.one (.bool false))⟩
        simp [choose, Sem.run, Question.forced]
      | cons q0 rest =>
        rw [hla] at h
        have hne := hleft2 (by rw [hla]; simp)
        have hemp : left.isEmpty = false := by
          cases hi : left.isEmpty with
          | false => rfl
          | true => exact absurd (by simpa using hi) hne
        rw [hemp]
        simp only [Bool.false_eq_true, if_false, Array.empty_append, Array.size_map]
        have hpos : 0 < left.size := Nat.pos_of_ne_zero fun h0 => hne (by simpa using h0)
        obtain ⟨k, w1, hk, hkl, hheap, ht1⟩ := pickk _ hpos
        have hge : left[k]? = some left[k] := Array.getElem?_eq_getElem hkl
        obtain ⟨q, hq1, hq2, hq3, hq4, hq5⟩ := hleftm left[k] (Array.getElem_mem hkl)
        cases h
        refine ⟨_, nextOf_mem (by rw [← hla]; exact hq1), ?_⟩
        have hx1 : w1.heap[(C.pl r).blk]? = some (.mapIter (some (C.pl m).blk) clock sarr clock) := by rw [hheap]; exact hx
        obtain ⟨hrun, ht⟩ := setBlk_write (P := P) ht1.st hb (.refl C) (fun _ h => h) rfl rfl (fun k n h => .inl h) hx1 (by simp)
          (OR.miter (C := C) (b := r) (m := m) (since := clock) (stepped := clock) (seen := seen ++ [q.2.2]) (arr := sarr.push left[k].born) hdm (fun n hn => by
            rcases List.mem_append.1 hn with hn | hn
            · exact hgs n hn
            · simp only [List.mem_singleton] at hn; subst hn; exact hq4) (by simp [hseen, hq5]) hbase)
        refine ⟨C, .tuple #[.bool true, left[k].key, left[k].val], _, ?_, ht1.trans ht, .tuple (.cons (.bool true) (.cons hq2 (.one hq3)))⟩
        simp only [hk, Result.andThen_ok, Array.getElem?_map, hge, Option.map_some, hrun]
    · cases h
  · cases h

theorem stampGet_some {n : Nat} {e : Ent} : ∀ {es : List Ent}, stampGet n es = some e → e ∈ es ∧ e.2.2 = n
  | a :: l, h => by
    simp only [stampGet] at h
    cases hq : Nat.beq a.2.2 n with
    | true => rw [hq] at h; cases h; exact ⟨List.mem_cons_self .., Nat.eq_of_beq_eq_true hq⟩
    | false =>
      rw [hq] at h
      obtain ⟨h1, h2⟩ := stampGet_some h
      exact ⟨List.mem_cons_of_mem _ h1, h2⟩

theorem lastN_some {n : Nat} : ∀ {l : List Nat}, lastN l = some n → ∃ r, l = r ++ [n]
  | [], h => by cases h
  | [a], h => by cases h; exact ⟨[], rfl⟩
  | a :: b :: l, h => by
    obtain ⟨r, hr⟩ := lastN_some (l := b :: l) h
    exact ⟨a :: r, by rw [hr]; rfl⟩

theorem ok_entry {o : Oper} {it : Operand} (ho : o.op = .entry it) : SOk E P o (.look fun T s => (opnd E it T).bind (entryV s)) := by
  intro C T a S w hg hT hS v h
  obtain ⟨av, hav, h⟩ := Option.bind_eq_some_iff.1 h
  have hv := opnd_ok hg hT hav
  obtain ⟨r, hr0, h1⟩ := entryV_some h
  subst hr0
  replace h := h1
  clear h1
  generalize hq : a.eval it = q at hv
  cases hv with
  | ptr hd' =>
  unfold entryIn at h
  split at h
  · next m since seen stepped hb =>
    obtain ⟨n, hn, h⟩ := Option.bind_eq_some_iff.1 h
    obtain ⟨hd, x, hx, hr⟩ := hS.live r _ hb
    cases hr with
    | @miter _ _ _ _ sarr hdm hgs hseen hbase =>
    rw [hbase] at hq
    have hget := run_getObj (P := P) (w := w) hx (by simp)
    unfold entryAt at h
    split at h
    · next es clock hm0 =>
      obtain ⟨arr, l, hm⟩ := hS.map hm0
      cases hcl : Nat.beq clock stepped with
      | false => rw [hcl] at h; cases h
      | true =>
      rw [hcl] at h
      have h1 := Nat.eq_of_beq_eq_true hcl
      obtain ⟨e, he, h⟩ := Option.bind_eq_some_iff.1 h
      cases h
      subst h1
      obtain ⟨hmem, hst⟩ := stampGet_some he
      obtain ⟨me, hml, g1, g2, g3, g4⟩ := hm.ents.mem hmem
      have hgetm := run_getObj (P := P) (w := w) hm.at_ (by simp)
      obtain ⟨pre, hpre⟩ := lastN_some hn
      have hback : sarr.back? = some (C.gh m n) := by
        have : sarr = (pre.map (C.gh m)).toArray.push (C.gh m n) := by apply Array.ext'; simp [hseen, hpre]
        rw [this]; simp
      have hfind : arr.find? (fun e => e.born == C.gh m n) = some me := by
        cases hf : arr.find? (fun e => e.born == C.gh m n) with
        | none =>
          have := Array.find?_eq_none.1 hf me (by rw [← Array.mem_toList_iff]; exact hm.perm.mem_iff.1 hml)
          rw [g4, hst] at this; simp at this
        | some m' =>
          have h1 := Array.find?_some hf
          have h2 : m' ∈ l := hm.perm.mem_iff.2 (Array.mem_toList_iff.2 (Array.mem_of_find?_eq_some hf))
          have h3 : m'.born = C.gh m n := by simpa using h1
          rw [inj_of_nodup hm.nodup h2 hml (by rw [h3, g4, hst])]
      refine ⟨.tuple #[me.key, me.val], ?_, .tuple (.cons g1 (.one g2))⟩
      simp [execOp, ho, Instr.entry, hq, hget, hback, hgetm, hfind]
    · cases h
  · cases h
end
end Am

/- The abstract machine: its operations are the model's (21): methods, checks for nil. -/
namespace Am
open Go

section
variable {E : Env} {P : Program} (he : EnvOk E P)
include he

omit he in
theorem wrapNil (t : TypeId) (a : Addr) (x y : ByteArray) : Builtin.ssaWrapNilChk_ #[t] t #[.pointer (some a), .string x, .string y] = pure (.pointer (some a)) := rfl

theorem receiverAt_val {f g : FuncId} {t : TypeId} {p : Bool} {rc : Recv} (h : recvOf E none f t p = some (g, rc)) {C : Cx} {S : St} {w : World} (hS : StR C S w) {v r : AV} {x : Value} (hv : VR C v x)
    (hr : recvV E S v rc = some r) (wr : Option String) : g = f ∧ ∃ y, (receiverAt t (.val x) p wr).run P w = .ok y w ∧ VR C r y := by
  unfold recvOf at h
  split at h
  · -- the method wants a pointer
    split at h
    · next e hu heq =>
      cases h
      simp only [recvV, offV] at hr
      cases hr
      exact ⟨rfl, x, by simp [receiverAt, run_und he hu, Place.get], hv⟩
    · contradiction
    · contradiction
    · cases h
  · split at h
    · next e hu heq =>
      cases h
      simp only [recvV, offV, Option.bind_some] at hr
      obtain ⟨a, y, rfl, hl, hy⟩ := loadC_ok (P := P) he hS hv hr
      refine ⟨rfl, y, ?_, hy⟩
      cases wr with
      | none => simp [receiverAt, run_und he hu, Place.get, asAddr, hl]
      | some nm => simp [receiverAt, run_und he hu, Place.get, wrapNil, strVal, asAddr, hl]
    · contradiction
    · next d hnp hu heq =>
      cases h
      simp only [recvV, offV] at hr
      cases hr
      refine ⟨rfl, x, ?_, hv⟩
      simp only [receiverAt, Sem.run_bind, run_und he hu, Result.andThen_ok]
      cases d <;> first | rfl | exact absurd hu (by have := hnp; simp_all)
    · contradiction
    · cases h

theorem receiverAt_var {f g : FuncId} {t : TypeId} {p : Bool} {rc : Recv} {n : Nat} (h : recvOf E (some n) f t p = some (g, rc)) {C : Cx} {S : St} {w : World} (hS : StR C S w) {v r : AV} {x : Value} (hv : VR C v x)
    (hr : recvV E S v rc = some r) (wr : Option String) : g = f ∧ ∃ a y, x = .pointer (some a) ∧ (receiverAt t (.var (a.add n)) p wr).run P w = .ok y w ∧ VR C r y := by
  unfold recvOf at h
  split at h
  · split at h
    · contradiction
    · next e m hu heq =>
      cases h; cases heq
      simp only [recvV, offV] at hr
      obtain ⟨q, hq, hr⟩ := Option.bind_eq_some_iff.1 hr
      obtain ⟨a, rfl, hva⟩ := addrAdd_ok hv hq
      obtain ⟨a', y, ha', hl, hy⟩ := loadC_ok (P := P) he hS hva hr
      cases ha'
      exact ⟨rfl, a, y, rfl, by simp [receiverAt, run_und he hu, Place.get, hl], hy⟩
    · next d m hnp hu heq =>
      cases h; cases heq
      simp only [recvV, offV] at hr
      obtain ⟨q, hq, hr⟩ := Option.bind_eq_some_iff.1 hr
      cases hr
      obtain ⟨a, rfl, hva⟩ := addrAdd_ok hv hq
      refine ⟨rfl, a, _, rfl, ?_, hva⟩
      simp only [receiverAt, Sem.run_bind, run_und he hu, Result.andThen_ok]
      cases d <;> first | rfl | exact absurd hu (by have := hnp; simp_all)
    · cases h
  · split at h
    · contradiction
    · cases h
    · contradiction
    · next d m hnp hu heq =>
      cases h; cases heq
      simp only [recvV, offV] at hr
      obtain ⟨q, hq, hr⟩ := Option.bind_eq_some_iff.1 hr
      obtain ⟨a, rfl, hva⟩ := addrAdd_ok hv hq
      obtain ⟨a', y, ha', hl, hy⟩ := loadC_ok (P := P) he hS hva hr
      cases ha'
      refine ⟨rfl, a, y, rfl, ?_, hy⟩
      simp only [receiverAt, Sem.run_bind, run_und he hu, Result.andThen_ok]
      cases d <;> first | exact hl | exact absurd hu (by have := hnp; simp_all)
    · cases h

/-- The method of a type, in the model's table. -/
theorem found_ok {t : TypeId} {i : TypeInfo} (hi : E.tys.get t = some i) {name : String} {m : Method} (hm : i.methods.toList.find? (·.name == name) = some m) (w : World) :
    (typeInfo t).run P w = .ok i w ∧ i.methods.find? (·.name == name) = some m :=
  ⟨run_tyInfo he hi w, by rw [← hm, Array.find?_toList]⟩

omit he in
theorem step_ok {st : FieldStep} {q : Nat × TypeId} (h : stepOf E st = some q) : ∃ fields f k, st.deref = true ∧ und E st.struct = some (.struct fields) ∧ fields[st.index]? = some f ∧ f.offset = q.1 ∧ f.type = q.2 ∧
    Am.sizeOf E f.type = some (k + 1) := by
  unfold stepOf at h
  cases hd : st.deref with
  | false => rw [hd] at h; cases h
  | true =>
  rw [hd] at h
  simp only [cond_true] at h
  split at h
  · next fields hu =>
    obtain ⟨f, hf, h⟩ := Option.bind_eq_some_iff.1 h
    split at h
    · next k hk =>
      cases h
      rw [nth_eq] at hf
      exact ⟨fields, f, k, rfl, hu, by simpa using hf, rfl, rfl, hk⟩
    · cases h
  · cases h

theorem follow_step {st : FieldStep} {fields : Array Field} {f : Field} {k : Nat} (hd : st.deref = true) (hu : und E st.struct = some (.struct fields)) (hf : fields[st.index]? = some f) (hs : Am.sizeOf E f.type = some (k + 1))
    (t : TypeId) (a : Addr) (w : World) : (follow [st] t (.val (.pointer (some a)))).run P w = .ok (f.type, .var (a.add f.offset)) w := by
  simp [follow, run_und he hu, hf, hd, Place.get, asAddr, fieldPlace, run_size he hs]

theorem method_ok {t : TypeId} {name : String} {g : FuncId} {rc : Recv} (h : methodOf E t name = some (g, rc)) {C : Cx} {S : St} {w : World} (hS : StR C S w) {v r : AV} {x : Value} (hv : VR C v x)
    (hr : recvV E S v rc = some r) (fuel : Nat) : ∃ y, (method (fuel + 1) t x name).run P w = .ok (g, y) w ∧ VR C r y := by
  unfold methodOf at h
  obtain ⟨i, hi, h⟩ := Option.bind_eq_some_iff.1 h
  obtain ⟨m, hm, h⟩ := Option.bind_eq_some_iff.1 h
  obtain ⟨hti, hfi⟩ := found_ok he hi hm w
  split at h
  · next f p hpath hfunc =>
    obtain ⟨hgf, y, hy, hvy⟩ := receiverAt_val he h hS hv hr (if m.path.isEmpty then some ((name.splitOn ".").getLastD name) else none)
    subst hgf
    refine ⟨y, ?_, hvy⟩
    unfold method
    simp only [Sem.run_bind, hti, Result.andThen_ok, hfi, hpath, follow, Sem.run_pure, hfunc, hy]
  · next st f p hpath hfunc =>
    cases hd : st.deref with
    | true =>
      rw [hd] at h
      simp only [cond_true] at h
      obtain ⟨q, hq, h⟩ := Option.bind_eq_some_iff.1 h
      obtain ⟨fields, fl, k, h1, h2, h3, h4, h5, h6⟩ := step_ok hq
      obtain ⟨hgf, a, y, rfl, hy, hvy⟩ := receiverAt_var he h hS hv hr (if m.path.isEmpty then some ((name.splitOn ".").getLastD name) else none)
      subst hgf
      refine ⟨y, ?_, hvy⟩
      unfold method
      simp only [Sem.run_bind, hti, Result.andThen_ok, hfi, hpath, follow_step he h1 h2 h3 h6, hfunc, h4, h5, hy, Sem.run_pure]
    | false =>
      rw [hd] at h
      simp only [cond_false] at h
      split at h
      · next pb fields hu =>
        obtain ⟨fl, hfl, h⟩ := Option.bind_eq_some_iff.1 h
        cases hpt : isPtrT E fl.type with
        | true => rw [hpt] at h; cases h
        | false =>
        rw [hpt] at h
        simp only [cond_false] at h
        obtain ⟨n, hn, h⟩ := Option.bind_eq_some_iff.1 h
        obtain ⟨ag, hag, h⟩ := Option.bind_eq_some_iff.1 h
        cases h
        rw [nth_eq] at hfl
        have hfl' : fields[st.index]? = some fl := by simpa using hfl
        -- the part
        have hpart : ∃ cs y, x = .agg cs ∧ (part fl.type cs fl.offset).run P w = .ok y w ∧ VR C r y := by
          cases hag' : ag with
          | true =>
            subst hag'
            simp only [recvV] at hr
            cases v <;> try (cases hr; done)
            rename_i cs
            simp only [fieldAggV] at hr
            cases hv with
            | agg hvs hcs =>
            rename_i xs
            obtain ⟨l, hl, hr⟩ := Option.bind_eq_some_iff.1 hr
            cases hq : takeN n l with
            | none => rw [hq] at hr; cases hr
            | some l' =>
            rw [hq] at hr; cases hr
            obtain ⟨y, hy, hvy⟩ := run_part_agg (P := P) he hag hn hvs hcs (off := fl.offset) (q := l') (by unfold cut; rw [hl]; exact hq) w
            exact ⟨xs, y, rfl, hy, hvy⟩
          | false =>
            subst hag'
            simp only [recvV] at hr
            cases v <;> try (cases hr; done)
            rename_i cs
            simp only [fieldOneV] at hr
            cases hv with
            | agg hvs hcs =>
            rename_i xs
            obtain ⟨y, hy, hvy⟩ := run_part_one (P := P) he hag hvs hr w
            exact ⟨xs, y, rfl, hy, hvy⟩
        obtain ⟨cs, y, rfl, hy, hvy⟩ := hpart
        refine ⟨y, ?_, hvy⟩
        have hund : ∃ d, und E fl.type = some d ∧ ∀ e, d ≠ .pointer e := by
          unfold Am.isAgg at hag
          cases hu' : und E fl.type with
          | none => rw [hu'] at hag; simp at hag
          | some d =>
            refine ⟨d, rfl, ?_⟩
            rintro e rfl
            simp [isPtrT, hu'] at hpt
        obtain ⟨d, hd', hnp⟩ := hund
        have hrecv : ∀ wr, (receiverAt fl.type (.val y) false wr).run P w = .ok y w := by
          intro wr
          simp only [receiverAt, Sem.run_bind, run_und he hd', Result.andThen_ok]
          cases d <;> first | rfl | exact absurd rfl (hnp _)
        unfold method
        simp only [Sem.run_bind, hti, Result.andThen_ok, hfi, hpath, follow, run_und he hu, hfl', hd, Bool.false_eq_true, if_false, hy, Sem.run_pure, hfunc, hrecv]
      · cases h
  · cases h

omit he in
theorem depth_succ (P : Program) : ∃ k, P.types.size + Made.depth = k + 1 := ⟨P.types.size + 99, rfl⟩

omit he in
theorem isAddr_some {C : Cx} {v : AV} {x : Value} (h : isAddrV v = true) (hv : VR C v x) : ∃ a, x = .pointer (some a) := by
  cases hv with
  | ptr _ => exact ⟨_, rfl⟩
  | iptr _ _ _ _ => exact ⟨_, rfl⟩
  | _ => simp [isAddrV] at h

/-- No nil pointer lies ahead of a method. -/
theorem nilAhead_ok {t : TypeId} {name : String} {v : AV} (h : okMethodIn v (methodOf E t name) = true) {C : Cx} {w : World} {x : Value} (hv : VR C v x) (fuel : Nat) :
    (nilAhead (fuel + 1) t x name).run P w = .ok (some false) w := by
  cases hm0 : methodOf E t name with
  | none => rw [hm0] at h; simp [okMethodIn] at h
  | some q =>
  obtain ⟨g, rc⟩ := q
  rw [hm0] at h
  unfold methodOf at hm0
  obtain ⟨i, hi, hm1⟩ := Option.bind_eq_some_iff.1 hm0
  obtain ⟨m, hm, hm2⟩ := Option.bind_eq_some_iff.1 hm1
  clear hm0 hm1
  obtain ⟨hti, hfi⟩ := found_ok he hi hm w
  -- what comes of the receiver's type
  have tail : ∀ {xt : TypeId} {d : TypeDesc} (y : Option Value), und E xt = some d → ((∀ e, d ≠ .pointer e) ∨ ∃ a, y = some (.pointer (some a))) →
      ((do
        match ← underlying xt, y with
        | .pointer _, some (.pointer none) => pure (some true)
        | .pointer _, some _ => pure (some false)
        | .pointer _, none => pure none
        | _, _ => pure (some false)) : Sem (Option Bool)).run P w = .ok (some false) w := by
    intro xt d y hu hy
    simp only [Sem.run_bind, run_und he hu, Result.andThen_ok]
    rcases hy with hy | ⟨a, rfl⟩
    · cases d <;> first | rfl | exact absurd rfl (hy _)
    · cases d <;> rfl
  split at hm2
  · next f p hpath hfunc =>
    unfold nilAhead
    simp only [Sem.run_bind, hti, Result.andThen_ok, hfi, hpath, followBlind, Sem.run_pure, hfunc]
    cases p with
    | true => rfl
    | false =>
      unfold recvOf at hm2
      simp only at hm2
      split at hm2
      · next e hu heq =>
        cases hm2
        obtain ⟨a, rfl⟩ := isAddr_some h hv
        exact tail _ hu (.inr ⟨a, rfl⟩)
      · contradiction
      · next d hnp hu heq => exact tail _ hu (.inl fun e hd => by subst hd; have := hnp; simp_all)
      · contradiction
      · cases hm2
  · next st f p hpath hfunc =>
    cases hd : st.deref with
    | true =>
      rw [hd] at hm2
      simp only [cond_true] at hm2
      obtain ⟨q, hq, hm2⟩ := Option.bind_eq_some_iff.1 hm2
      obtain ⟨fields, fl, k, h1, h2, h3, h4, h5, h6⟩ := step_ok hq
      have hx : ∃ a, x = .pointer (some a) := by
        unfold recvOf at hm2
        cases p with
        | true =>
          simp only at hm2
          split at hm2
          · contradiction
          · cases hm2; exact isAddr_some h hv
          · cases hm2; exact isAddr_some h hv
          · cases hm2
        | false =>
          simp only at hm2
          split at hm2
          · contradiction
          · cases hm2
          · contradiction
          · cases hm2; exact isAddr_some h hv
          · cases hm2
      obtain ⟨a, rfl⟩ := hx
      unfold nilAhead
      simp only [Sem.run_bind, hti, Result.andThen_ok, hfi, hpath, followBlind, run_und he h2, h3, h1, Sem.run_pure, hfunc]
      cases p with
      | true => rfl
      | false =>
        unfold recvOf at hm2
        simp only at hm2
        split at hm2
        · contradiction
        · cases hm2
        · contradiction
        · next d m hnp hu heq =>
          rw [h5]
          exact tail _ hu (.inl fun e hd => by subst hd; have := hnp; simp_all)
        · cases hm2
    | false =>
      rw [hd] at hm2
      simp only [cond_false] at hm2
      split at hm2
      · next pb fields hu =>
        obtain ⟨fl, hfl, hm2⟩ := Option.bind_eq_some_iff.1 hm2
        cases hpt : isPtrT E fl.type with
        | true => rw [hpt] at hm2; cases hm2
        | false =>
        rw [hpt] at hm2
        simp only [cond_false] at hm2
        obtain ⟨n, hn, hm2⟩ := Option.bind_eq_some_iff.1 hm2
        obtain ⟨ag, hag, hm2⟩ := Option.bind_eq_some_iff.1 hm2
        cases hm2
        rw [nth_eq] at hfl
        have hfl' : fields[st.index]? = some fl := by simpa using hfl
        have hpart : ∃ cs y, x = .agg cs ∧ (part fl.type cs fl.offset).run P w = .ok y w := by
          cases hag' : ag with
          | true =>
            subst hag'
            simp only [okMethodIn] at h
            cases v <;> try (cases h; done)
            rename_i cs
            simp only [fieldAggV] at h
            cases hv with
            | agg hvs hcs =>
            rename_i xs
            cases hl : dropN fl.offset cs with
            | none => rw [hl] at h; cases h
            | some l =>
            rw [hl] at h
            simp only [Option.bind_some] at h
            cases hq : takeN n l with
            | none => rw [hq] at h; cases h
            | some l' =>
            obtain ⟨y, hy, hvy⟩ := run_part_agg (P := P) he hag hn hvs hcs (off := fl.offset) (q := l') (by unfold cut; rw [hl]; exact hq) w
            exact ⟨xs, y, rfl, hy⟩
          | false =>
            subst hag'
            simp only [okMethodIn] at h
            cases v <;> try (cases h; done)
            rename_i cs
            simp only [fieldOneV] at h
            cases hv with
            | agg hvs hcs =>
            rename_i xs
            cases hq : nth cs fl.offset with
            | none => rw [hq] at h; cases h
            | some u =>
            obtain ⟨y, hy, hvy⟩ := run_part_one (P := P) he hag hvs hq w
            exact ⟨xs, y, rfl, hy⟩
        obtain ⟨cs, y, rfl, hy⟩ := hpart
        have hund : ∃ d, und E fl.type = some d ∧ ∀ e, d ≠ .pointer e := by
          unfold Am.isAgg at hag
          cases hu' : und E fl.type with
          | none => rw [hu'] at hag; simp at hag
          | some d =>
            refine ⟨d, rfl, ?_⟩
            rintro e rfl
            simp [isPtrT, hu'] at hpt
        obtain ⟨d, hd', hnp⟩ := hund
        unfold nilAhead
        simp only [Sem.run_bind, hti, Result.andThen_ok, hfi, hpath, followBlind, run_und he hu, hfl', hd, hy, Sem.run_pure, hfunc]
        simp only [run_und he hd', Result.andThen_ok]
        cases d <;> first | rfl | exact absurd rfl (hnp _)
      · cases hm2
  · cases hm2

theorem ok_nilCheck {o : Oper} {x : Operand} (ho : o.op = .nilCheck x) : SOk E P o (.pure fun T => (opnd E x T).bind (okPtr E)) := by
  intro C T a S w hg hT hS v h
  obtain ⟨av, hav, h⟩ := Option.bind_eq_some_iff.1 h
  have hv := opnd_ok hg hT hav
  have plain : ∀ y, a.eval x = y → (∀ n f c, y ≠ .func (.method n) f c) → y ≠ .pointer none → y ≠ .nilIface → y ≠ .nilFunc → (execOp a.eval o).run P w = .ok (.value y) w := by
    intro y hy h1 h2 h3 h4
    simp only [execOp, ho, hy]
    first | rfl | (split <;> first | (exfalso; first | exact h2 rfl | exact h3 rfl | exact h4 rfl | exact h1 _ _ _ rfl) | rfl)
  generalize hq : a.eval x = q at hv
  unfold okPtr at h
  split at h
  · cases h
    cases hv with
    | ptr hd => exact ⟨_, plain _ hq (by simp) (by simp) (by simp) (by simp), .ptr hd⟩
  · cases h
    cases hv with
    | iptr hm ha hvs hc => exact ⟨_, plain _ hq (by simp) (by simp) (by simp) (by simp), .iptr hm ha hvs hc⟩
  · cases h
    cases hv with
    | func hf ha hb => exact ⟨_, plain _ hq (by simp) (by simp) (by simp) (by simp), .func hf ha hb⟩
  · cases h
    cases hv with
    | func hf ha hb => exact absurd rfl (hf _)
    | yield hd => exact ⟨_, plain _ hq (by simp) (by simp) (by simp) (by simp), .yield hd⟩
  · next name fa ca =>
    cases hok : okMethod E name fa with
    | false => rw [hok] at h; cases h
    | true =>
    rw [hok] at h; cases h
    unfold okMethod at hok
    split at hok
    · next t u =>
      cases hv with
      | func hf ha hb =>
      rename_i xs ys
      cases hxs : xs.toList with
      | nil => rw [hxs] at ha; cases ha
      | cons z zs =>
      rw [hxs] at ha
      cases ha with
      | cons hz htl =>
      cases hz with
      | iface hu =>
      cases htl
      have hxs0 : xs[0]? = xs.toList.head? := by rw [List.head?_eq_getElem?, Array.getElem?_toList]
      rw [hxs, List.head?_cons] at hxs0
      obtain ⟨k, hk⟩ := depth_succ P
      refine ⟨.func (.method name) xs ys, ?_, .func (x := xs) (y := ys) hf (by rw [hxs]; exact .one (.iface hu)) hb⟩
      simp [execOp, ho, hq, hxs0, hk, nilAhead_ok he hok hu]
    · cases hok
  · cases h
    cases hv with
    | iface hu => exact ⟨_, plain _ hq (by simp) (by simp) (by simp) (by simp), .iface hu⟩
  · cases h
end
end Am

/- The abstract machine: its operations are the model's (22): calls. -/
namespace Am
open Go

section
variable {E : Env} {P : Program} (he : EnvOk E P)
include he

theorem callFunc_ok {f : FuncId} (h : hasBody E f = true) (args : Array Value) (w : World) : (callFunc f args).run P w = .ok (.enter f args) w := by
  unfold hasBody at h
  split at h
  · next fn hf =>
    have hp := he.fn f fn hf
    split at h
    · next b hb =>
      have hl := he.lone f fn hf
      have hl' : ¬ fn.name = "runtime.NumGoroutine" := by simpa using hl
      simp [callFunc, hp, hl', hb]
    · cases h
  · cases hg : E.prim f with
    | none => rw [hg] at h; cases h
    | some g =>
      obtain ⟨fn, b, hp, hb, hl⟩ := he.prim f g hg
      have hl' : ¬ fn.name = "runtime.NumGoroutine" := by simpa using hl
      simp [callFunc, hp, hl', hb]

theorem invoke_method {C : Cx} {S : St} {w : World} (hS : StR C S w) {name : String} {args rest : List AV} {v : AV} {f : FuncId} {x : Value} {xs : List Value} (hv : VR C v x) (ha : VRs C args xs)
    (h : invokeV E S name args v = some (f, rest)) : ∃ ys, (callMethod x name xs.toArray).run P w = .ok (.enter f ys) w ∧ VRs C rest ys.toList := by
  unfold invokeV at h
  split at h
  · next t u =>
    obtain ⟨m, hm, h⟩ := Option.bind_eq_some_iff.1 h
    cases hb : hasBody E m.1 with
    | false => rw [hb] at h; cases h
    | true =>
    rw [hb] at h
    simp only [cond_true] at h
    obtain ⟨r, hr, h⟩ := Option.bind_eq_some_iff.1 h
    cases h
    cases hv with
    | iface hu =>
    obtain ⟨k, hk⟩ := depth_succ P
    obtain ⟨y, hy, hvy⟩ := method_ok he (t := t) (name := name) (g := m.1) (rc := m.2) hm hS hu hr k
    refine ⟨#[y] ++ xs.toArray, ?_, by simpa using VRs.cons hvy ha⟩
    simp only [callMethod, Sem.run_bind]
    have : (program).run P w = .ok P w := rfl
    simp only [this, Result.andThen_ok, hk, hy, callFunc_ok he hb]
  · cases h

omit he in
theorem args_map (c : Call) (ρ : Operand → Value) : c.args.map ρ = (c.args.toList.map ρ).toArray := by apply Array.ext'; simp

theorem ok_callFunc {o : Oper} {c : Call} {f : FuncId} (ho : o.op = .call c) (hc : c.callee = .value (.func f)) (hb : hasBody E f = true) :
    SOk E P o (.call fun T _ => (opndsC E c.args.toList T).bind fun args => some (f, args)) := by
  intro C T a S w hg hT hS g args h
  obtain ⟨as, has, h⟩ := Option.bind_eq_some_iff.1 h
  cases h
  refine ⟨(c.args.toList.map a.eval).toArray, ?_, by simpa using opnds_ok hg hT has⟩
  simp only [execOp, ho, resolve, hc, Act.eval, Deferred.ofValue, Sem.run_bind, Sem.run_pure, Result.andThen_ok, invoke, Array.empty_append, Array.append_empty]
  rw [args_map, callFunc_ok he hb]

omit he in
theorem ok_callV {o : Oper} {c : Call} {x : Operand} (ho : o.op = .call c) (hc : c.callee = .value x) : SOk E P o (.callV (opnd E x) (opndsC E c.args.toList)) := by
  intro C T a S w hg hT hS g args h1 h2
  refine ⟨a.eval x, (c.args.toList.map a.eval).toArray, opnd_ok hg hT h1, by simpa using opnds_ok hg hT h2, ?_⟩
  simp only [execOp, ho, resolve, hc]
  rw [args_map]

theorem ok_invoke {o : Oper} {c : Call} {r : Operand} {name : String} (ho : o.op = .call c) (hc : c.callee = .invoke r name) :
    SOk E P o (.call fun T s => (opndsC E c.args.toList T).bind fun args => (opnd E r T).bind (invokeV E s name args)) := by
  intro C T a S w hg hT hS g args h
  obtain ⟨as, has, h⟩ := Option.bind_eq_some_iff.1 h
  obtain ⟨v, hv, h⟩ := Option.bind_eq_some_iff.1 h
  obtain ⟨ys, hy, hvy⟩ := invoke_method he hS (opnd_ok hg hT hv) (opnds_ok hg hT has) h
  refine ⟨ys, ?_, hvy⟩
  simp only [execOp, ho, resolve, hc, Sem.run_bind, Sem.run_pure, Result.andThen_ok, invoke, args_map]
  have h0 : (#[a.eval r] ++ (c.args.toList.map a.eval).toArray)[0]? = some (a.eval r) := by simp
  have h1 : (#[a.eval r] ++ (c.args.toList.map a.eval).toArray).extract 1 (#[a.eval r] ++ (c.args.toList.map a.eval).toArray).size = (c.args.toList.map a.eval).toArray := by
    apply Array.ext'
    simp only [Array.toList_extract, Array.toList_append, List.toList_toArray, Array.size_append]
    simp
    rw [List.take_of_length_le (by simp)]
  simp only [h0, h1]
  exact hy

omit he in
theorem ok_defer {o : Oper} {c : Call} (ho : o.op = .defer c) : SOk E P o (deferC E c) := by
  unfold deferC
  split
  · next x hc =>
    intro C T a S w hg hT hS d h
    obtain ⟨f, hf, h⟩ := Option.bind_eq_some_iff.1 h
    obtain ⟨as, has, h⟩ := Option.bind_eq_some_iff.1 h
    have hv := opnd_ok hg hT hf
    cases f with
    | func fn fa ca =>
      simp only [deferV] at h
      cases hy : isYield fn with
      | true => rw [hy] at h; cases h
      | false =>
      rw [hy] at h; cases h
      generalize hq : a.eval x = q at hv
      cases hv with
      | yield hd => cases hy
      | func hfn ha hb =>
      rename_i xs ys
      refine ⟨⟨.fn fn ys, xs ++ (c.args.toList.map a.eval).toArray⟩, ?_, .fn hfn (by simpa using ha.append (opnds_ok hg hT has)) hb⟩
      simp only [execOp, ho, resolve, hc, hq, Deferred.ofValue, Sem.run_bind, Sem.run_pure, Result.andThen_ok, args_map]
    | _ => simp [deferV] at h
  · exact SOk.bad

omit he in
theorem ok_recover {o : Oper} {c : Call} (ho : o.op = .call c) (hc : c.callee = .builtin .recover) : SOk E P o .recover := by
  intro C T a S w hg hT hS
  simp [execOp, ho, resolve, hc, invoke, builtin]

omit he in
theorem fold_ok {f : AV → AV → Option AV} {G : Value → Value → Sem Value} (hf : ∀ (C : Cx) (w : World) v u y z r, VR C v y → VR C u z → f v u = some r → ∃ q, (G y z).run P w = .ok q w ∧ VR C r q) {C : Cx} {w : World} :
    ∀ {l : List AV} {xs : List Value} {v r : AV} {x : Value}, VRs C l xs → VR C v x → foldV f l v = some r → ∃ q, (xs.foldlM G x).run P w = .ok q w ∧ VR C r q
  | _, _, v, r, x, .nil, hv, h => by cases h; exact ⟨x, rfl, hv⟩
  | _ :: _, _, v, r, x, .cons h1 t, hv, h => by
    simp only [foldV] at h
    obtain ⟨z, hz, h⟩ := Option.bind_eq_some_iff.1 h
    obtain ⟨q, hq, hr⟩ := hf C w _ _ _ _ z hv h1 hz
    obtain ⟨q', hq', hr'⟩ := fold_ok hf (w := w) t hr h
    exact ⟨q', by simp only [List.foldlM_cons, Sem.run_bind, hq, Result.andThen_ok, hq'], hr'⟩

omit he in
theorem ok_max {o : Oper} {c : Call} {xs : List Operand} (ho : o.op = .call c) (hc : c.callee = .builtin .max) (hxs : c.args.toList = xs) : SOk E P o (maxC E max2A xs) := by
  cases xs with
  | nil => exact SOk.bad
  | cons x l =>
    intro C T a S w hg hT hS v h
    obtain ⟨u, hu, h⟩ := Option.bind_eq_some_iff.1 h
    obtain ⟨r, hr, h⟩ := Option.bind_eq_some_iff.1 h
    obtain ⟨q, hq, hvq⟩ := fold_ok (P := P) (f := max2A) (G := Builtin.max2) (fun C w v u y z r hv hu h => by
      unfold max2A at h
      split at h
      · cases h; cases hv; cases hu; exact ⟨_, rfl, .int _ _⟩
      · cases h) (w := w) (opnds_ok hg hT hr) (opnd_ok hg hT hu) h
    refine ⟨q, ?_, hvq⟩
    simp only [execOp, ho, resolve, hc, Sem.run_bind, Sem.run_pure, Result.andThen_ok, invoke, builtin, Builtin.max_, args_map, hxs, List.map_cons, hq]

omit he in
theorem ok_min {o : Oper} {c : Call} {xs : List Operand} (ho : o.op = .call c) (hc : c.callee = .builtin .min) (hxs : c.args.toList = xs) : SOk E P o (maxC E min2A xs) := by
  cases xs with
  | nil => exact SOk.bad
  | cons x l =>
    intro C T a S w hg hT hS v h
    obtain ⟨u, hu, h⟩ := Option.bind_eq_some_iff.1 h
    obtain ⟨r, hr, h⟩ := Option.bind_eq_some_iff.1 h
    obtain ⟨q, hq, hvq⟩ := fold_ok (P := P) (f := min2A) (G := Builtin.min2) (fun C w v u y z r hv hu h => by
      unfold min2A at h
      split at h
      · cases h; cases hv; cases hu; exact ⟨_, rfl, .int _ _⟩
      · cases h) (w := w) (opnds_ok hg hT hr) (opnd_ok hg hT hu) h
    refine ⟨q, ?_, hvq⟩
    simp only [execOp, ho, resolve, hc, Sem.run_bind, Sem.run_pure, Result.andThen_ok, invoke, builtin, Builtin.min_, args_map, hxs, List.map_cons, hq]
end
end Am

/- The abstract machine: its operations are the model's (23): all of them. -/
namespace Am
open Go

/-- What is shown elsewhere: functions without a body; strings over bytes. -/
structure ExtOk (E : Env) (P : Program) : Prop where
  ext : E.ext = true → ∀ {o : Oper} {c : Call} {f : FuncId}, o.op = .call c → c.callee = .value (.func f) → hasBody E f = false → SOk E P o (externC E f (nameOf E f) c.args.toList)
  data : E.ext = true → ∀ {o : Oper} {c : Call} {x : Operand}, o.op = .call c → c.callee = .builtin .unsafeSliceData → c.args.toList = [x] → SOk E P o (dataC E o.type x)
  str : E.ext = true → ∀ {o : Oper} {c : Call} {t : TypeId} {ts : List TypeId} {x y : Operand}, o.op = .call c → c.callee = .builtin .unsafeString → c.argTypes.toList = t :: ts → c.args.toList = [x, y] → SOk E P o (rawStrC E t x y)

section
variable {E : Env} {P : Program} (he : EnvOk E P) (hx : ExtOk E P)
include he hx

theorem ok_builtin {o : Oper} {c : Call} {b : Builtin} (ho : o.op = .call c) (hc : c.callee = .builtin b) : SOk E P o (builtinC E o.type b c.argTypes.toList c.args.toList) := by
  unfold builtinC
  split
  · next h1 h2 => exact ok_append he ho hc h1 h2
  · next h1 h2 => exact ok_len he ho hc (by rw [h1]; rfl) h2
  · next h1 h2 => exact ok_cap he ho hc (by rw [h1]; rfl) h2
  · next h1 h2 => exact ok_copy he ho hc h1 h2
  · next h1 h2 => exact ok_delete he ho hc h1 h2
  · next h1 h2 => exact ok_clear he ho hc h1 h2
  · next h2 =>
    cases he : E.ext with
    | true => exact hx.data he ho hc h2
    | false => exact SOk.bad
  · next h1 h2 =>
    cases he : E.ext with
    | true => exact hx.str he ho hc h1 h2
    | false => exact SOk.bad
  · exact ok_max ho hc rfl
  · exact ok_min ho hc rfl
  · exact ok_recover ho hc
  · exact SOk.bad

theorem ok_call {o : Oper} {c : Call} (ho : o.op = .call c) : SOk E P o (callC E o.type c) := by
  unfold callC
  split
  · next b hc => exact ok_builtin he hx ho hc
  · next f hc =>
    cases hb : hasBody E f with
    | true => exact ok_callFunc he ho hc hb
    | false =>
      cases he : E.ext with
      | true => exact hx.ext he ho hc hb
      | false => exact SOk.bad
  · next x _ hc => exact ok_callV ho hc
  · next r name hc => exact ok_invoke he ho hc

/-- An operation that was made ready is the model's. -/
theorem ok_op (o : Oper) : SOk E P o (opC E o.type o.op) := by
  unfold opC
  split
  · next h => exact ok_move (.inl h)
  · next h => exact ok_move (.inr h)
  · next h => exact ok_pick h
  · next h => exact ok_alloc he h
  · next h => exact ok_box h
  · next h => exact ok_build he h
  · next h => exact ok_buildSlice he h
  · next h => exact ok_load he h
  · next h => exact ok_store he h
  · next h => exact ok_nilCheck he h
  · next h => exact ok_bin he h
  · next h => exact ok_unOp h
  · next h => exact ok_conv he h
  · next h => exact ok_makeIface he h
  · next h => exact ok_makeFunc h
  · next h => exact ok_makeMap he h
  · next h => exact ok_makeSlice he h
  · next h => exact ok_slice he h
  · next h => exact ok_fieldAddr he h
  · next h => exact ok_field he h
  · next h => exact ok_indexAddr he h
  · next h => exact ok_index he h
  · next h => exact ok_lookup he h
  · next h => exact ok_mapSet he (.inl h)
  · next h => exact ok_mapSet he (.inr h)
  · next h => exact ok_mapEntry he h
  · next h => exact ok_entryStore h
  · next h => exact ok_range he h
  · next it isString h =>
    cases isString with
    | true => exact ok_nextStr h
    | false => exact ok_nextMap h
  · next h => exact ok_entry h
  · next h => exact ok_assert he h
  · next h => exact ok_extract h
  · next h => exact ok_call he hx h
  · next h => exact ok_defer h
  · next h => exact ok_panic h
  · exact SOk.bad
end
end Am
