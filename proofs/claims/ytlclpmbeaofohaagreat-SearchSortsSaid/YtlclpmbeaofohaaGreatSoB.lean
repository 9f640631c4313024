/- Sorted answers: both programs; the law. -/
import Derived.Test.YtlclpmbeaofohaaGreatSoA
import Derived.Test.YtlclpmbeaofohaaGreatAmG
set_option linter.unusedSectionVars false
set_option linter.unusedVariables false
set_option linter.unusedSimpArgs false

/- Terms in memory of their own. -/
open Go Am
namespace Go.Proofs.YtlclpmbeaofohaaGreat.So
/-- slices.Clone of a list that is not empty: a new block. -/
theorem clone_run {K : FuncId → List AV → Option AV} {l : List TermT} (hK : K 49 [recs encTm 3 l] = none) (h0 : l ≠ []) (hl : l.length ≤ 4000) {s : St} :
    RunsV (EK K) 49 [recs encTm 3 l] s fun v s' => v = .slice s.next 0 l.length 3 none ∧ s' = s.alloc (.cells (l.flatMap encTm) 34 true) := by
  obtain ⟨t, ts, rfl⟩ : ∃ t ts, l = t :: ts := by cases l with | nil => exact absurd rfl h0 | cons t ts => exact ⟨t, ts, rfl⟩
  refine RunsV.gen (fn := Tryz.f49) hK (by kernel_rfl) rfl rfl rfl rfl ?_
  refine EvtL.seqReg ?_
  refine RegL.q (OpQ.assign rfl rfl) rfl rfl rfl ?_
  refine RegL.done ?_
  refine EvtL.seq ?_
  refine EvtL.seqReg ?_
  refine RegL.q (OpQ.move rfl rfl) rfl rfl rfl ?_
  refine RegL.op (OpL.notNil (neg := false) rfl u_31 rfl (by rw [show recs encTm 3 (t :: ts) = .islice (encTm t ++ ts.flatMap encTm) (ts.length + 1) 3 true from rfl, encTm_eq t]; rfl)) rfl rfl rfl ?_
  refine RegL.done ?_
  refine EvtL.condF rfl rfl ?_
  refine EvtL.skip ?_
  refine EvtL.seqReg ?_
  refine RegL.q (OpQ.buildSlice0 rfl u_31 sz_34 z_34 (by kernel_rfl)) rfl rfl rfl ?_
  refine RegL.q (OpQ.move rfl rfl) rfl rfl rfl ?_
  obtain ⟨a1, a2⟩ := append_recs (e := 34) (by_ := 40) encTm_len (l := t :: ts) (s := s.enter) (by simp) (small_ok (by omega) (by decide))
  refine RegL.op (OpL.append rfl rfl rfl rfl u_31 sz_34 by_34 z_34 (by kernel_rfl) (by kernel_rfl) rfl rfl a1 a2) rfl rfl rfl ?_
  refine RegL.q (OpQ.assign rfl rfl) rfl rfl rfl ?_
  refine RegL.done ?_
  refine EvtL.ret ⟨.inl rfl, _, rfl, _, res_tmp rfl rfl, .val (.slice s.next 0 (t :: ts).length 3 none) (s.alloc (.cells ((t :: ts).flatMap encTm) 34 true)), ?_, rfl, rfl⟩
  have hu : underV s.next 40 (.slice s.next 0 (t :: ts).length 3 none) = false := by
    show Nat.blt s.next s.next = false
    cases h : Nat.blt s.next s.next with
    | false => rfl
    | true => exact absurd (blt_of h) (Nat.lt_irrefl _)
  show some (bif underV s.next 40 (.slice s.next 0 (t :: ts).length 3 none) then _ else _) = _
  rw [hu]; rfl
abbrev LsT := { l : List TermT // sizeTs l ≤ 4000 }
def encLs (l : LsT) : List AV := [recs encTm 3 l.1]
def resLs (l : LsT) : AV := recs encTm 3 l.1
theorem encLs_inj (x y : LsT) (h : encLs x = encLs y) : x = y := Subtype.ext (recs_inj encTm_inj encTm_len (List.cons.inj h).1)
noncomputable abbrev KY := lay K5 25 encLs resLs (fun p => deepTs p.1 + 1)
theorem load_tm {K : FuncId → List AV → Option AV} {st : St} {b : Nat} {l : List TermT} {part : Bool} (hg : st.heap.get b = some (.cells (l.flatMap encTm) 34 part)) {i : Nat} (h : i < l.length) : loadC (EK K) 34 st (.ptr b (0 + i * (2 + 1))) = some (.agg (encTm l[i])) := by
  have := loadAgg_at (E := EK K) ag_34 sz_34 hg (off := 0 + i * (2 + 1)) (by rw [flat_len encTm_len]; omega)
  rw [this, Nat.zero_add, flat_drop encTm_len h, List.take_left' (encTm_len _)]
theorem put_quiet {s : St} {b : Nat} {o : Option AObj} (h : s.bound = 0) : (s.put b o).log = s.log := by
  show (bif Nat.blt b s.bound then _ else _) = _
  rw [h]
  cases hb : Nat.blt b 0 with
  | false => rfl
  | true => exact absurd (blt_of hb) (Nat.not_lt_zero _)
theorem tms_closed : ∀ l : List TermT, (l.flatMap encTm).all (closedV 40) = true
  | [] => rfl
  | t :: l => by rw [List.flatMap_cons, List.all_append, tms_closed l, encTm_eq]; rfl
theorem frz_tms {s : St} {m n : Nat} {ks : List Nat} : ∀ l : List TermT, frzV.many (frzV s m (n + 1)) (l.flatMap encTm) ks = some (l.flatMap encTm, ks)
  | [] => rfl
  | t :: l => by
    rw [List.flatMap_cons, encTm_eq]
    show ((frzV.many (frzV s m (n + 1)) (.int .i64 t.n :: recs encTm 3 t.kids :: l.flatMap encTm) ks).bind _) = _
    have h1 : frzV.many (frzV s m (n + 1)) (recs encTm 3 t.kids :: l.flatMap encTm) ks = some (recs encTm 3 t.kids :: l.flatMap encTm, ks) := by
      show ((frzV.many (frzV s m (n + 1)) (l.flatMap encTm) ks).bind _) = _
      rw [frz_tms l]; rfl
    have h2 : frzV.many (frzV s m (n + 1)) (.int .i64 t.n :: recs encTm 3 t.kids :: l.flatMap encTm) ks = some (.int .i64 t.n :: recs encTm 3 t.kids :: l.flatMap encTm, ks) := by
      show ((frzV.many (frzV s m (n + 1)) (recs encTm 3 t.kids :: l.flatMap encTm) ks).bind _) = _
      rw [h1]; rfl
    rw [h2]; rfl
theorem copied_to (d : Nat) (l : List TermT) (h : deepTs l + 1 = d + 1) (hs : sizeTs l ≤ 4000) (hx : KY d 25 [recs encTm 3 l] = none) : CallTo (EK (KY d)) 25 [recs encTm 3 l] S0 (recs encTm 3 l) := by
  have hl := len_sizes l
  refine CallTo.s0 (fn := Tryz.f25) rfl hx (by kernel_rfl) rfl rfl rfl rfl ?_
  by_cases h0 : l = []
  · subst h0
    have hit_49 : KY d 49 [recs encTm 3 []] = some (.islice [] 0 3 true) := rfl
    refine EvtL.seqReg ?_
    refine RegL.q (OpQ.assign rfl rfl) rfl rfl rfl ?_
    refine RegL.done ?_
    refine EvtL.seqReg ?_
    refine RegL.q (OpQ.move rfl rfl) rfl rfl rfl ?_
    refine RegL.op (OpL.callFn rfl rfl (by kernel_rfl) rfl (CallTo.memo (hit_49))) rfl rfl rfl ?_
    refine RegL.q (OpQ.assign rfl rfl) rfl rfl rfl ?_
    refine RegL.done ?_
    refine EvtL.seq ?_
    refine EvtL.seqReg ?_
    refine RegL.q (OpQ.move rfl rfl) rfl rfl rfl ?_
    refine RegL.q (OpQ.lenSl rfl rfl rfl rfl u_31 rfl) rfl rfl rfl ?_
    refine RegL.q (OpQ.move rfl rfl) rfl rfl rfl ?_
    refine RegL.done ?_
    refine EvtL.block ?_
    refine EvtL.loopI (fun _ : Unit => ([(10, .int .i64 ((0 : Nat) : Int)), (9, .int .i64 ((0 : Nat) : Int)), (8, .islice [] 0 3 true), (3, .islice [] 0 3 true)], mkS 0 0 [] [])) (fun _ => 0) (fun _ => True) () trivial rfl (by (refine Am.sub_of ?_; repeat (first | exact trivial | refine ⟨rfl, ?_⟩))) ?_
    intro _ _
    dsimp only
    refine EvtL.seqReg ?_
    refine RegL.q (OpQ.int2 rfl u_3 rfl rfl rfl rfl) rfl rfl rfl ?_
    refine RegL.done ?_
    refine EvtL.seq ?_
    refine EvtL.condF rfl rfl ?_
    refine EvtL.exit ?_
    refine cond_t rfl ?_
    refine EvtL.seqReg ?_
    refine RegL.q (OpQ.move rfl rfl) rfl rfl rfl ?_
    refine RegL.q (OpQ.assign rfl rfl) rfl rfl rfl ?_
    refine RegL.done ?_
    refine EvtL.ret ⟨.inl rfl, rfl, rfl, rfl, _, _, _, (res_tmp rfl rfl), rfl, rfl, ?_⟩
    rfl
  · have stop_49 : True := trivial
    have hk : KY d 49 [recs encTm 3 l] = none := by
      cases l with
      | nil => exact absurd rfl h0
      | cons t ts => rw [show recs encTm 3 (t :: ts) = .islice (encTm t ++ ts.flatMap encTm) (ts.length + 1) 3 true from rfl, encTm_eq t]; rfl
    refine EvtL.seqReg ?_
    refine RegL.q (OpQ.assign rfl rfl) rfl rfl rfl ?_
    refine RegL.done ?_
    refine EvtL.seqReg ?_
    refine RegL.q (OpQ.move rfl rfl) rfl rfl rfl ?_
    refine RegL.callFn rfl rfl (by kernel_rfl) rfl rfl rfl rfl ((clone_run hk h0 (by omega)).mono ?_)
    rintro v s1 ⟨rfl, rfl⟩
    refine RegL.q (OpQ.assign rfl rfl) rfl rfl rfl ?_
    refine RegL.done ?_
    refine EvtL.seq ?_
    refine EvtL.seqReg ?_
    refine RegL.q (OpQ.move rfl rfl) rfl rfl rfl ?_
    refine RegL.q (OpQ.lenSlM rfl rfl rfl rfl u_31 rfl) rfl rfl rfl ?_
    refine RegL.q (OpQ.move rfl rfl) rfl rfl rfl ?_
    refine RegL.done ?_
    refine EvtL.block ?_
    refine EvtL.loopI (fun x : Nat × St => ([(10, .int .i64 (x.1 : Nat)), (9, .int .i64 (l.length : Nat)), (8, .slice 0 0 l.length 3 none), (3, .slice 0 0 l.length 3 none)], x.2)) (fun x => l.length - x.1)
      (fun x => x.1 ≤ l.length ∧ x.2.heap.get 0 = some (.cells (l.flatMap encTm) 34 true) ∧ 0 < x.2.next ∧ x.2.bound = 0 ∧ x.2.log = []) (0, (mkS 0 0 [] []).alloc (.cells (l.flatMap encTm) 34 true)) ⟨Nat.zero_le _, get_new, Nat.one_pos, rfl, rfl⟩ rfl (by (refine Am.sub_of ?_; repeat (first | exact trivial | refine ⟨rfl, ?_⟩))) ?_
    rintro ⟨i, st⟩ ⟨hi, hg, hn, hb, hlg⟩
    dsimp only at hi hg hn hb hlg ⊢
    by_cases h9 : i < l.length
    · have hld := load_tm (K := KY d) hg h9
      obtain ⟨c1, c2, c3, c4, c5, c6, c7⟩ := copied (st := st) (z := [.int .i64 0, .int .i64 0, .nilslice]) (cs := encTm l[i]) (T := 34)
      have hg2 := (c4 0 hn).trans hg
      have hsk := size_kid (List.getElem_mem h9)
      have hse := sizeT_eq l[i]
      have hde := deepT_eq l[i]
      have hdk := deep_kid (List.getElem_mem h9)
      have hit_25 : KY d 25 [recs encTm 3 l[i].kids] = some (recs encTm 3 l[i].kids) := lay_hit (deep := fun p : LsT => deepTs p.1 + 1) encLs_inj ⟨l[i].kids, by omega⟩ (by dsimp only; omega)
      have hfl : (l.flatMap encTm)[0 + i * (2 + 1) + 2]? = some (recs encTm 3 l[i].kids) := by
        have := flat_drop encTm_len h9
        rw [Nat.zero_add, ← List.getElem?_drop, this, encTm_eq]; rfl
      have hov : over [recs encTm 3 l[i].kids] (0 + i * (2 + 1) + 2) (l.flatMap encTm) = some (l.flatMap encTm) := by
        have hlt : 0 + i * (2 + 1) + 2 < (l.flatMap encTm).length := (List.getElem?_eq_some_iff.1 hfl).1
        have he := (List.getElem?_eq_some_iff.1 hfl).2
        rw [over_one hlt, ← he, List.set_getElem_self]
      have hl2 := (c6 (by omega)).trans hlg
      have hb2 := c5.trans hb
      have hn2 := Nat.lt_of_lt_of_eq (Nat.succ_pos st.next) c7.symm
      simp only [encTm_eq] at hld c2 hg2 hl2 hb2 hn2
      focus
        refine EvtL.seqReg ?_
        refine RegL.q (OpQ.int2 rfl u_3 rfl rfl rfl rfl) rfl rfl rfl ?_
        refine RegL.done ?_
        refine EvtL.seq ?_
        refine EvtL.cond rfl (fun g1 => ?_) (fun g1 => ?_)
        have h1 := of_decide_eq_true g1
        refine EvtL.skip ?_
        refine EvtL.seq ?_
        refine EvtL.block ?_
        refine EvtL.seqReg ?_
        refine RegL.q (OpQ.move rfl rfl) rfl rfl rfl ?_
        refine RegL.q (OpQ.indexAddrM rfl u_31 sz_34 rfl rfl (by first | assumption | omega | (simp only [List.length_append, List.length_cons, List.length_nil, List.length_take, List.length_drop]; omega))) rfl rfl rfl ?_
        refine RegL.op (OpL.load rfl rfl (by assumption)) rfl rfl rfl ?_
        refine RegL.op (OpL.alloc rfl z_34) rfl rfl rfl ?_
        refine RegL.q (OpQ.assign rfl rfl) rfl rfl rfl ?_
        refine RegL.opN (OpL.store rfl sz_34 rfl rfl (storeN_at (by assumption) rfl rfl rfl)) rfl rfl ?_
        refine RegL.done ?_
        refine EvtL.reg ?_
        refine RegL.q (OpQ.move rfl rfl) rfl rfl rfl ?_
        refine RegL.q (OpQ.move rfl rfl) rfl rfl rfl ?_
        refine RegL.q (OpQ.fieldAddr rfl f_34_2 rfl) rfl rfl rfl ?_
        refine RegL.op (OpL.load rfl rfl (loadOne_at ag_31 sz_31 (by assumption) rfl)) rfl rfl rfl ?_
        refine RegL.op (OpL.callFn rfl rfl (by kernel_rfl) rfl (CallTo.memo (hit_25))) rfl rfl rfl ?_
        refine RegL.q (OpQ.indexAddrM rfl u_31 sz_34 rfl rfl (by first | assumption | omega | (simp only [List.length_append, List.length_cons, List.length_nil, List.length_take, List.length_drop]; omega))) rfl rfl rfl ?_
        refine RegL.q (OpQ.fieldAddr rfl f_34_2 rfl) rfl rfl rfl ?_
        rotate_left
        have h1 := of_decide_eq_false g1
        exact absurd h1 (by omega)
      refine RegL.opN (OpL.store rfl sz_31 rfl rfl (storeN_at hg2 rfl rfl hov)) rfl rfl ?_
      refine RegL.done ?_
      refine EvtL.reg ?_
      refine RegL.q (OpQ.addN (b := 1) rfl u_3 rfl rfl (by first | assumption | omega | (simp only [List.length_append, List.length_cons, List.length_nil, List.length_take, List.length_drop]; omega))) rfl rfl rfl ?_
      refine RegL.q (OpQ.move rfl rfl) rfl rfl rfl ?_
      refine RegL.done ?_
      refine ⟨(i + 1, _), ?_, ?_, rfl, rfl, by (refine Am.sub_of ?_; repeat (first | exact trivial | refine ⟨rfl, ?_⟩))⟩
      · exact ⟨h9, get_set_same _ _ _, hn2, hb2, (put_quiet hb2).trans hl2⟩
      · show l.length - (i + 1) < l.length - i; omega
    · focus
        refine EvtL.seqReg ?_
        refine RegL.q (OpQ.int2 rfl u_3 rfl rfl rfl rfl) rfl rfl rfl ?_
        refine RegL.done ?_
        refine EvtL.seq ?_
        refine EvtL.cond rfl (fun g1 => ?_) (fun g1 => ?_)
        have h1 := of_decide_eq_true g1
        exact absurd h1 (by omega)
        have h1 := of_decide_eq_false g1
        refine EvtL.exit ?_
        refine cond_t rfl ?_
        refine EvtL.seqReg ?_
        refine RegL.q (OpQ.move rfl rfl) rfl rfl rfl ?_
        refine RegL.q (OpQ.assign rfl rfl) rfl rfl rfl ?_
        refine RegL.done ?_
        rotate_left
      refine EvtL.ret ⟨.inl rfl, rfl, hlg, hb, _, _, _, res_tmp rfl rfl, frz_slice (Nat.zero_le _) hg (flat_len encTm_len l) (frz_tms l), ?_, ?_⟩
      · show ((l.flatMap encTm).all (closedV 40) || _) = true
        rw [tms_closed]; rfl
      · rw [tms_closed]; rfl
noncomputable def K6 := addC K5 25 encLs resLs
theorem all6 (h : Given) : KnownAll Tryz.prog K6 :=
  lay_known (deep := fun p : LsT => deepTs p.1 + 1) h.ins (all5 h) encLs_inj (fun _ => Nat.succ_pos _) (fun _ => rfl) (fun _ => rfl) fun d p hp hx => copied_to d p.1 hp p.2 hx
theorem hit_25 {l : List TermT} (h : sizeTs l ≤ 4000) : K6 25 [recs encTm 3 l] = some (recs encTm 3 l) := addC_hit (enc := encLs) (res := resLs) (fun a b h => by rw [encLs_inj a b h]) ⟨l, h⟩
end Go.Proofs.YtlclpmbeaofohaaGreat.So

/- A term in memory of its own, out of a block. -/
open Go Am
namespace Go.Proofs.YtlclpmbeaofohaaGreat.So
/-- slices.Clone of a block's elements: a new block. -/
theorem cloneB_run {K : FuncId → List AV → Option AV} {s : St} {b : Nat} {t : TermT} (hK : K 49 [.slice b 0 1 3 (some 1)] = none) (hg : s.heap.get b = some (.cells (encTm t) 34 false)) :
    RunsV (EK K) 49 [.slice b 0 1 3 (some 1)] s fun v s' => v = .slice s.next 0 1 3 none ∧ s' = s.alloc (.cells (encTm t) 34 true) := by
  have hg' : s.enter.heap.get b = some (.cells (encTm t) 34 false) := hg
  refine RunsV.gen (fn := Tryz.f49) hK (by kernel_rfl) rfl rfl rfl rfl ?_
  refine EvtL.seqReg ?_
  refine RegL.q (OpQ.assign rfl rfl) rfl rfl rfl ?_
  refine RegL.done ?_
  refine EvtL.seq ?_
  refine EvtL.seqReg ?_
  refine RegL.q (OpQ.move rfl rfl) rfl rfl rfl ?_
  refine RegL.op (OpL.notNil (neg := false) rfl u_31 rfl rfl) rfl rfl rfl ?_
  refine RegL.done ?_
  refine EvtL.condF rfl rfl ?_
  refine EvtL.skip ?_
  refine EvtL.seqReg ?_
  refine RegL.q (OpQ.buildSlice0 rfl u_31 sz_34 z_34 (by kernel_rfl)) rfl rfl rfl ?_
  refine RegL.q (OpQ.move rfl rfl) rfl rfl rfl ?_
  refine RegL.op (OpL.append rfl rfl rfl rfl u_31 sz_34 by_34 z_34 (by kernel_rfl) (by kernel_rfl) rfl rfl (appended_new hg' (encTm_len t)) rfl) rfl rfl rfl ?_
  refine RegL.q (OpQ.assign rfl rfl) rfl rfl rfl ?_
  refine RegL.done ?_
  refine EvtL.ret ⟨.inl rfl, _, rfl, _, res_tmp rfl rfl, .val (.slice s.next 0 1 3 none) (s.alloc (.cells (encTm t) 34 true)), ?_, rfl, rfl⟩
  have hu : underV s.next 40 (.slice s.next 0 1 3 none) = false := by
    show Nat.blt s.next s.next = false
    cases h : Nat.blt s.next s.next with
    | false => rfl
    | true => exact absurd (blt_of h) (Nat.lt_irrefl _)
  show some (bif underV s.next 40 (.slice s.next 0 1 3 none) then _ else _) = _
  rw [hu]; rfl
theorem put_young {s : St} {b : Nat} {o : Option AObj} (h : s.bound ≤ b) : (s.put b o).log = s.log := by
  show (bif Nat.blt b s.bound then _ else _) = _
  cases hb : Nat.blt b s.bound with
  | false => rfl
  | true => have := blt_of hb; omega
theorem copied1_to {s : St} {b : Nat} {t : TermT} (hg : s.heap.get b = some (.cells (encTm t) 34 false)) (hs : sizeT t ≤ 4000) : CallTo (EK K6) 25 [.slice b 0 1 3 (some 1)] s (recs encTm 3 [t]) := by
  have hstop : True := trivial
  have stop_49 := hstop
  have hm : K6 25 [.slice b 0 1 3 (some 1)] = none := addC_none fun p h => AV.noConfusion (List.cons.inj h).1
  refine CallTo.gen (fn := Tryz.f25) hm (by kernel_rfl) rfl rfl rfl rfl ?_
  have hk : K6 49 [.slice b 0 1 3 (some 1)] = none := rfl
  refine EvtL.seqReg ?_
  refine RegL.q (OpQ.assign rfl rfl) rfl rfl rfl ?_
  refine RegL.done ?_
  refine EvtL.seqReg ?_
  refine RegL.q (OpQ.move rfl rfl) rfl rfl rfl ?_
  refine RegL.callFn rfl rfl (by kernel_rfl) rfl rfl rfl rfl ((cloneB_run hk (s := s.enter) hg).mono ?_)
  rintro v s1 ⟨rfl, rfl⟩
  have hse := sizeT_eq t
  obtain ⟨c1, c2, c3, c4, c5, c6, c7⟩ := copied (st := s.enter.alloc (.cells (encTm t) 34 true)) (z := [.int .i64 0, .int .i64 0, .nilslice]) (cs := encTm t) (T := 34)
  have f1 : (s.enter.alloc (.cells (encTm t) 34 true)).heap.get s.next = some (.cells (encTm t) 34 true) := get_new
  have f2 := (c4 s.next (Nat.lt_succ_self _)).trans f1
  have hit_25 : K6 25 [recs encTm 3 t.kids] = some (recs encTm 3 t.kids) := hit_25 (by omega)
  have hl6 := c6 (Nat.le_succ _)
  simp only [encTm_eq] at f1 f2 c1 c2 c7 c5 hl6 ⊢
  have hl7 := put_young (b := s.next) (o := some (.cells [.int .i64 t.op, .int .i64 t.n, recs encTm 3 t.kids] 34 true)) (Nat.le_of_eq c5)
  refine RegL.q (OpQ.assign rfl rfl) rfl rfl rfl ?_
  refine RegL.done ?_
  refine EvtL.seq ?_
  refine EvtL.seqReg ?_
  refine RegL.q (OpQ.move rfl rfl) rfl rfl rfl ?_
  refine RegL.q (OpQ.lenSlM rfl rfl rfl rfl u_31 rfl) rfl rfl rfl ?_
  refine RegL.q (OpQ.move rfl rfl) rfl rfl rfl ?_
  refine RegL.done ?_
  refine EvtL.block ?_
  refine EvtL.loop ?_
  refine EvtL.seqReg ?_
  refine RegL.q (OpQ.int2 rfl u_3 rfl rfl rfl rfl) rfl rfl rfl ?_
  refine RegL.done ?_
  refine EvtL.seq ?_
  refine EvtL.condT rfl rfl ?_
  refine EvtL.skip ?_
  refine EvtL.seq ?_
  refine EvtL.block ?_
  refine EvtL.seqReg ?_
  refine RegL.q (OpQ.move rfl rfl) rfl rfl rfl ?_
  refine RegL.q (OpQ.indexAddrM (k := 0) rfl u_31 sz_34 rfl rfl (by first | assumption | omega | (simp only [List.length_append, List.length_cons, List.length_nil, List.length_take, List.length_drop]; omega))) rfl rfl rfl ?_
  refine RegL.op (OpL.load rfl rfl (loadAgg_at ag_34 sz_34 (by assumption) (Nat.le_of_ble_eq_true rfl))) rfl rfl rfl ?_
  refine RegL.op (OpL.alloc rfl z_34) rfl rfl rfl ?_
  refine RegL.q (OpQ.assign rfl rfl) rfl rfl rfl ?_
  refine RegL.opN (OpL.store rfl sz_34 rfl rfl (storeN_at (by assumption) rfl rfl rfl)) rfl rfl ?_
  refine RegL.done ?_
  refine EvtL.reg ?_
  refine RegL.q (OpQ.move rfl rfl) rfl rfl rfl ?_
  refine RegL.q (OpQ.move rfl rfl) rfl rfl rfl ?_
  refine RegL.q (OpQ.fieldAddr rfl f_34_2 rfl) rfl rfl rfl ?_
  refine RegL.op (OpL.load rfl rfl (loadOne_at ag_31 sz_31 (by assumption) rfl)) rfl rfl rfl ?_
  refine RegL.op (OpL.callFn rfl rfl (by kernel_rfl) rfl (CallTo.memo (hit_25))) rfl rfl rfl ?_
  refine RegL.q (OpQ.indexAddrM (k := 0) rfl u_31 sz_34 rfl rfl (by first | assumption | omega | (simp only [List.length_append, List.length_cons, List.length_nil, List.length_take, List.length_drop]; omega))) rfl rfl rfl ?_
  refine RegL.q (OpQ.fieldAddr rfl f_34_2 rfl) rfl rfl rfl ?_
  refine RegL.opN (OpL.store rfl sz_31 rfl rfl (storeN_at (by assumption) rfl rfl rfl)) rfl rfl ?_
  refine RegL.done ?_
  refine EvtL.reg ?_
  refine RegL.q (OpQ.addN (a := 0) (b := 1) rfl u_3 rfl rfl (by first | assumption | omega | (simp only [List.length_append, List.length_cons, List.length_nil, List.length_take, List.length_drop]; omega))) rfl rfl rfl ?_
  refine RegL.q (OpQ.move rfl rfl) rfl rfl rfl ?_
  refine RegL.done ?_
  refine EvtL.loop ?_
  refine EvtL.seqReg ?_
  refine RegL.q (OpQ.int2 rfl u_3 rfl rfl rfl rfl) rfl rfl rfl ?_
  refine RegL.done ?_
  refine EvtL.seq ?_
  refine EvtL.condF rfl rfl ?_
  refine EvtL.exit ?_
  refine cond_t rfl ?_
  refine EvtL.seqReg ?_
  refine RegL.q (OpQ.move rfl rfl) rfl rfl rfl ?_
  refine RegL.q (OpQ.assign rfl rfl) rfl rfl rfl ?_
  refine RegL.done ?_
  refine EvtL.ret ⟨.inl rfl, _, rfl, _, res_tmp rfl rfl, ?_⟩
  have h1 : recs encTm 3 [t] = .islice [.int .i64 t.op, .int .i64 t.n, recs encTm 3 t.kids] 1 3 true := by
    show AV.islice (encTm t ++ []) 1 3 true = _
    rw [encTm_eq]; rfl
  rw [h1]
  exact leave_list rfl (hl7.trans hl6) (Nat.le_refl _) c5 (get_set_same _ _ _) rfl (fun _ _ => rfl) rfl
end Go.Proofs.YtlclpmbeaofohaaGreat.So

/- The program sorts answers. -/
open Go Am
namespace Go.Proofs.YtlclpmbeaofohaaGreat.So
def encZ (n : Int) : List AV := [.int .i64 n]
theorem encZ_len (n : Int) : (encZ n).length = 0 + 1 := rfl
theorem encZ_inj (a b : Int) (h : encZ a = encZ b) : a = b := by cases h; rfl
structure OutT where
  picks : List Int
  ans : AnsT
  look : Int
def encO (o : OutT) : List AV := [recs encZ 1 o.picks, recs encTm 3 o.ans.vars, .int .i64 o.ans.value.op, .int .i64 o.ans.value.n, recs encTm 3 o.ans.value.kids, .int .i64 o.look]
theorem encO_len (o : OutT) : (encO o).length = 5 + 1 := rfl
structure EndT where
  outs : List OutT
  looks : Int
  fails : Int
  waits : Int
  longs : Int
  left : Int
def encE (e : EndT) : List AV := [recs encO 6 e.outs, .int .i64 e.looks, .int .i64 e.fails, .int .i64 e.waits, .int .i64 e.longs, .int .i64 e.left]
def ansOf (e : EndT) : List AnsT := e.outs.map OutT.ans
def SlimE (e : EndT) : Prop := e.outs.length ≤ 4000 ∧ ∀ a ∈ ansOf e, SlimA a
theorem frz_ans {s : St} {m n : Nat} {ks : List Nat} : ∀ l : List AnsT, frzV.many (frzV s m (n + 1)) (l.flatMap encAn) ks = some (l.flatMap encAn, ks)
  | [] => rfl
  | a :: l => by
    have ih := frz_ans (s := s) (m := m) (n := n) (ks := ks) l
    have h1 : frzV.many (frzV s m (n + 1)) (recs encTm 3 a.value.kids :: l.flatMap encAn) ks = some (recs encTm 3 a.value.kids :: l.flatMap encAn, ks) := by
      show ((frzV.many (frzV s m (n + 1)) (l.flatMap encAn) ks).bind _) = _
      rw [ih]; rfl
    have h2 : frzV.many (frzV s m (n + 1)) (.int .i64 a.value.n :: recs encTm 3 a.value.kids :: l.flatMap encAn) ks = some (.int .i64 a.value.n :: recs encTm 3 a.value.kids :: l.flatMap encAn, ks) := by
      show ((frzV.many (frzV s m (n + 1)) (recs encTm 3 a.value.kids :: l.flatMap encAn) ks).bind _) = _
      rw [h1]; rfl
    have h3 : frzV.many (frzV s m (n + 1)) (.int .i64 a.value.op :: .int .i64 a.value.n :: recs encTm 3 a.value.kids :: l.flatMap encAn) ks = some (.int .i64 a.value.op :: .int .i64 a.value.n :: recs encTm 3 a.value.kids :: l.flatMap encAn, ks) := by
      show ((frzV.many (frzV s m (n + 1)) (.int .i64 a.value.n :: recs encTm 3 a.value.kids :: l.flatMap encAn) ks).bind _) = _
      rw [h2]; rfl
    show ((frzV.many (frzV s m (n + 1)) (.int .i64 a.value.op :: .int .i64 a.value.n :: recs encTm 3 a.value.kids :: l.flatMap encAn) ks).bind _) = _
    rw [h3]; rfl
theorem ans_closed : ∀ l : List AnsT, (l.flatMap encAn).all (closedV 40) = true
  | [] => rfl
  | a :: l => by rw [List.flatMap_cons, List.all_append, ans_closed l]; rfl
def lstAn (l : List AnsT) : AV := match l with
  | [] => .nilslice
  | a :: l => recs encAn 4 (a :: l)
theorem own_new {st : St} {e : TypeId} {sz : Nat} {v : AV} {cs : List AV} {n b : Nat} (h : Grown st e sz v cs n) (hb : st.next ≤ b) : ownB b v = false := by
  cases ho : ownB b v with
  | false => rfl
  | true => have := h.own ho; omega
/-- slices.Insert in a region that draws its order. -/
theorem insert_run {K : FuncId → List AV → Option AV} (hK : ∀ a, K 24 a = none) {st : St} {v : AV} {cs new : List AV} {n k vb : Nat} {e2 : TypeId} (h : Grown st 36 4 v cs n) (hvb : st.heap.get vb = some (.cells new e2 false)) (hnew : new.length = 4) (hown : ownB vb v = false) (hk : k ≤ n) (hn : n ≤ 4000) :
    RunsV (EK K) 24 [v, .int .i64 (k : Nat), .slice vb 0 1 4 (some 1)] (st.sub st.heap) fun w s2 => s2.next = st.next + 1 ∧ (∀ b ∈ s2.log, b < st.next) ∧ Grown (st.merged s2) 36 4 w (cs.take (k * 4) ++ new ++ cs.drop (k * 4)) (n + 1) ∧ (st.bound = 0 → (st.merged s2).log = st.log) := by
  have h' : Grown (st.sub st.heap) 36 4 v cs n := h.keep (Nat.le_refl _) fun _ _ => rfl
  obtain ⟨w, s2, h1, h2, h3, h4, h5, h6, h7⟩ := h'.ins (by_ := 64) (e2 := e2) hvb hnew hown (by decide) (by decide) (small_ok (by omega) (by decide)) hk (by omega)
  have h4' : s2.next = st.next + 1 := h4
  have hown2 : ∀ c, ownB c w = true → c = st.next := fun c hc => by
    rcases h2 with ⟨rfl, h, _⟩ | ⟨b, rfl, _⟩
    · cases hc
    · have e1 := Nat.eq_of_beq_eq_true hc
      have e2 := Nat.eq_of_beq_eq_true h3
      exact e1.symm.trans e2
  have hlog : ∀ b ∈ s2.log, b < st.next ∧ ownB b v = true := fun b hb => by
    rcases h6 b hb with h | h
    · cases h
    · exact h
  refine RunsV.prim (g := insP 36 4 64) (hK _) (show ((trOf 1200 Tryz.prog.funcs.toList).set 24 none).get 24 = none from get_set_same _ _ _) rfl h1 ⟨h4', fun b hb => (hlog b hb).1, h2.keep (Nat.le_refl _) fun c hc => by rw [merged_get h4', if_pos (.inl (hown2 c hc))], fun hb => ?_⟩
  show below st.bound s2.log st.log = _
  rw [hb]
  have : ∀ L l : List Nat, below 0 L l = l := fun L => by
    induction L with
    | nil => intro l; rfl
    | cons b L ih => intro l; exact ih l
  exact this _ _
theorem flat_take {l : List AnsT} {k : Nat} (h : k ≤ l.length) : (l.flatMap encAn).take (k * 4) = (l.take k).flatMap encAn ∧ (l.flatMap encAn).drop (k * 4) = (l.drop k).flatMap encAn := by
  have e : l.flatMap encAn = (l.take k).flatMap encAn ++ (l.drop k).flatMap encAn := by rw [← List.flatMap_append, List.take_append_drop]
  have hl : ((l.take k).flatMap encAn).length = k * 4 := by rw [len_an, List.length_take, Nat.min_eq_left h]
  exact ⟨by rw [e, List.take_left' hl], by rw [e, List.drop_left' hl]⟩
theorem sorted_to (e : EndT) (he : SlimE e) : CallTo (EK K6) 6 [.agg (encE e)] S0 (lstAn (sortA (ansOf e))) := by
  obtain ⟨outs, lk, fa, wa, lo, op⟩ := e
  obtain ⟨he1, he2⟩ := he
  have he1 : outs.length ≤ 4000 := he1
  unfold encE
  refine CallTo.s0 (fn := Tryz.f6) rfl rfl (by kernel_rfl) rfl rfl rfl rfl ?_
  refine EvtL.seqReg ?_
  refine RegL.op (OpL.boxS 1 rfl rfl rfl rfl) rfl rfl rfl ?_
  refine RegL.q (OpQ.assign rfl rfl) rfl rfl rfl ?_
  refine RegL.done ?_
  refine EvtL.seqReg ?_
  refine RegL.q (OpQ.assign rfl rfl) rfl rfl rfl ?_
  refine RegL.done ?_
  refine EvtL.seq ?_
  refine EvtL.seqReg ?_
  refine RegL.q (OpQ.fieldAddr rfl f_24_0 rfl) rfl rfl rfl ?_
  refine RegL.op (OpL.loadS1 rfl ag_22 sz_22 rfl rfl rfl) rfl rfl rfl ?_
  refine RegL.q (OpQ.lenSl rfl rfl rfl rfl u_22 rfl) rfl rfl rfl ?_
  refine RegL.q (OpQ.move rfl rfl) rfl rfl rfl ?_
  refine RegL.done ?_
  refine EvtL.block ?_
  refine EvtL.loopI (fun x : Nat × AV × St => ([(11, .int .i64 (x.1 : Nat)), (10, .int .i64 (outs.length : Nat)), (9, recs encO 6 outs), (3, x.2.1)], x.2.2)) (fun x => outs.length - x.1)
    (fun x => x.1 ≤ outs.length ∧ Grown x.2.2 36 4 x.2.1 ((sortA ((outs.map OutT.ans).take x.1)).flatMap encAn) (sortA ((outs.map OutT.ans).take x.1)).length ∧ x.2.2.bound = 0 ∧ x.2.2.log = []) (0, .nilslice, _) ⟨Nat.zero_le _, Grown.nil _ _ _, rfl, rfl⟩ rfl (by (refine Am.sub_of ?_; repeat (first | exact trivial | refine ⟨rfl, ?_⟩))) ?_
  rintro ⟨i, v, st⟩ ⟨hi, hg, hb, hl⟩
  dsimp only at hi hg hb hl ⊢
  by_cases h : i < outs.length
  · have hid := recs_idx encO_len h
    obtain ⟨c1, c2, c3, c4, c5, c6, c7⟩ := copied (st := st) (z := [.nilslice, .nilslice, .int .i64 0, .int .i64 0, .nilslice, .int .i64 0]) (cs := encO outs[i]) (T := 38)
    have hlm : i < (outs.map OutT.ans).length := by rw [List.length_map]; exact h
    have hx : SlimA outs[i].ans := he2 _ (List.mem_map_of_mem (List.getElem_mem h))
    obtain ⟨s1, s2, s3⟩ := sort_inv (outs.map OutT.ans) i (Nat.le_of_lt hlm)
    have hsucc := sort_succ hlm
    rw [List.getElem_map] at hsucc
    have hg2 : Grown ((st.alloc (.cells [.nilslice, .nilslice, .int .i64 0, .int .i64 0, .nilslice, .int .i64 0] 38 false)).put st.next (some (.cells (encO outs[i]) 38 false))) 36 4 v ((sortA ((outs.map OutT.ans).take i)).flatMap encAn) (sortA ((outs.map OutT.ans).take i)).length := hg.keep (by rw [c7]; omega) fun c hc => c4 c (hg.own hc)
    have run_22 := bsf_any (K := K6) (fun _ => rfl) (fun a b ha hb => hit_23 ha hb) hg2 s1 (fun a ha => he2 a (s3 a ha)) hx (by omega)
    have hl2 := (c6 (by omega)).trans hl
    have hb2 := c5.trans hb
    generalize hL : sortA ((outs.map OutT.ans).take i) = L at *
    have hit_25 : K6 25 [recs encTm 3 outs[i].ans.vars] = some (recs encTm 3 outs[i].ans.vars) := hit_25 hx.1
    focus
      refine EvtL.seqReg ?_
      refine RegL.q (OpQ.int2 rfl u_3 rfl rfl rfl rfl) rfl rfl rfl ?_
      refine RegL.done ?_
      refine EvtL.seq ?_
      refine EvtL.cond rfl (fun g1 => ?_) (fun g1 => ?_)
      have h1 := of_decide_eq_true g1
      refine EvtL.skip ?_
      refine EvtL.seq ?_
      refine EvtL.block ?_
      refine EvtL.seqReg ?_
      refine RegL.q (OpQ.indexAddrV rfl u_22 sz_38 rfl rfl (by assumption)) rfl rfl rfl ?_
      refine RegL.q (OpQ.loadI rfl rfl ag_38 sz_38 (Nat.le_of_ble_eq_true rfl)) rfl rfl rfl ?_
      refine RegL.op (OpL.alloc rfl z_38) rfl rfl rfl ?_
      refine RegL.opN (OpL.store rfl sz_38 rfl rfl (storeN_at (by assumption) rfl rfl rfl)) rfl rfl ?_
      refine RegL.done ?_
      refine EvtL.seqReg ?_
      refine RegL.q (OpQ.move rfl rfl) rfl rfl rfl ?_
      refine RegL.q (OpQ.fieldAddr rfl f_38_1 rfl) rfl rfl rfl ?_
      refine RegL.op (OpL.load rfl rfl (loadAgg_at ag_36 sz_36 (by assumption) (Nat.le_of_ble_eq_true rfl))) rfl rfl rfl ?_
      refine RegL.op (OpL.callFn rfl rfl (by kernel_rfl) rfl (run_22)) rfl rfl rfl ?_
      refine RegL.q (OpQ.move rfl rfl) rfl rfl rfl ?_
      refine RegL.q (OpQ.extract rfl rfl rfl) rfl rfl rfl ?_
      refine RegL.q (OpQ.extract rfl rfl rfl) rfl rfl rfl ?_
      refine RegL.q (OpQ.assign rfl rfl) rfl rfl rfl ?_
      refine RegL.q (OpQ.assign rfl rfl) rfl rfl rfl ?_
      refine RegL.done ?_
      refine EvtL.seqReg ?_
      refine RegL.q (OpQ.move rfl rfl) rfl rfl rfl ?_
      refine RegL.q (OpQ.not rfl rfl) rfl rfl rfl ?_
      refine RegL.done ?_
      refine EvtL.cond rfl (fun g2 => ?_) (fun g2 => ?_)
      have h2 := notT g2
      refine EvtL.drawN (by kernel_rfl) ?_
      refine RegN.qG (OpQ.move rfl rfl) (.inl rfl) rfl rfl ?_
      refine RegN.qG (OpQ.move rfl rfl) (.inl rfl) rfl rfl ?_
      refine RegN.qG (OpQ.fieldAddr rfl f_38_1 rfl) (.inl rfl) rfl rfl ?_
      refine RegN.qG (OpQ.fieldAddr rfl f_36_0 rfl) (.inl rfl) rfl rfl ?_
      refine RegN.load rfl rfl (loadOne_at ag_31 sz_31 (by assumption) rfl) rfl (.inl rfl) rfl rfl ?_
      refine RegN.aG (OpA.callFn rfl rfl (by kernel_rfl) rfl (hit_25)) (.inl rfl) rfl rfl ?_
      refine RegN.qG (OpQ.fieldAddr rfl f_38_1 rfl) (.inl rfl) rfl rfl ?_
      refine RegN.qG (OpQ.fieldAddr rfl f_36_1 rfl) (.inl rfl) rfl rfl ?_
      refine RegN.load rfl rfl (loadAgg_at ag_34 sz_34 (by assumption) (Nat.le_of_ble_eq_true rfl)) rfl (.inl rfl) rfl rfl ?_
      refine RegN.buildSlice rfl u_31 sz_34 z_34 rfl rfl rfl (.inl rfl) rfl rfl ?_
      rotate_left
      have h2 := notF g2
      refine EvtL.skip ?_
      refine EvtL.reg ?_
      refine RegL.q (OpQ.addN (b := 1) rfl u_3 rfl rfl (by first | assumption | omega | (simp only [List.length_append, List.length_cons, List.length_nil, List.length_take, List.length_drop]; omega))) rfl rfl rfl ?_
      refine RegL.q (OpQ.move rfl rfl) rfl rfl rfl ?_
      refine RegL.done ?_
      rotate_left
      have h1 := of_decide_eq_false g1
      exact absurd h1 (by omega)
    · refine RegN.lookF (by kernel_rfl) rfl rfl rfl (copied1_to (t := outs[i].ans.value) (by rw [encTm_eq]; exact get_new) hx.2).runsR (by kernel_rfl) (.inl rfl) rfl rfl ?_
      have hid1 : idxSliceV (2 + 1) 0 (recs encTm 3 [outs[i].ans.value]) = some (.iptr [.int .i64 outs[i].ans.value.op, .int .i64 outs[i].ans.value.n, recs encTm 3 outs[i].ans.value.kids]) := by
        have := idx_tm (l := [outs[i].ans.value]) (i := 0) Nat.one_pos
        rw [this, show ([outs[i].ans.value].drop (0 + 1)).flatMap encTm = [] from rfl, List.append_nil, show [outs[i].ans.value][0] = outs[i].ans.value from rfl, encTm_eq]
      refine RegN.qG (OpQ.indexAddrV (k := 0) rfl u_31 sz_34 rfl rfl (by assumption)) (.inl rfl) rfl rfl ?_
      refine RegN.qG (OpQ.loadI rfl rfl ag_34 sz_34 (Nat.le_of_ble_eq_true rfl)) (.inl rfl) rfl rfl ?_
      refine RegN.qG (OpQ.build rfl pl_36 rfl rfl) (.inl rfl) rfl rfl ?_
      refine RegN.buildSlice rfl u_27 sz_36 z_36 rfl rfl rfl (.inl rfl) rfl rfl ?_
      refine RegN.runsF2 (by kernel_rfl) rfl rfl rfl (insert_run (K := K6) (fun _ => rfl) (new := encAn outs[i].ans) (e2 := 36) (k := firstA outs[i].ans L) (hg2.keep (Nat.le_trans (Nat.le_succ _) (Nat.le_succ _)) fun c hc => (get_old (Nat.lt_succ_of_lt (hg2.own hc))).trans (get_old (hg2.own hc))) get_new rfl (own_new hg2 (Nat.le_succ _)) (first_le _ _) (by omega)) (by kernel_rfl) (by kernel_rfl) (.inl rfl) rfl rfl ?_
      rintro w s3 ⟨d1, d2, d3, d4⟩
      refine ⟨by rw [d1]; exact Nat.le_succ _, ⟨d2, fun nl2 _ => ?_⟩⟩
      refine RegN.qG (OpQ.assign rfl rfl) (.inl rfl) rfl rfl ?_
      refine RegN.done ?_
      refine EvtL.reg ?_
      refine RegL.q (OpQ.addN (b := 1) rfl u_3 rfl rfl (by first | assumption | omega | (simp only [List.length_append, List.length_cons, List.length_nil, List.length_take, List.length_drop]; omega))) rfl rfl rfl ?_
      refine RegL.q (OpQ.move rfl rfl) rfl rfl rfl ?_
      refine RegL.done ?_
      have hins : insA L outs[i].ans = L.take (firstA outs[i].ans L) ++ outs[i].ans :: L.drop (firstA outs[i].ans L) := if_neg (by rw [h2]; decide)
      obtain ⟨q1, q2⟩ := flat_take (first_le outs[i].ans L)
      rw [q1, q2] at d3
      refine ⟨(i + 1, w, _), ?_, ?_, rfl, rfl, by (refine Am.sub_of ?_; repeat (first | exact trivial | refine ⟨rfl, ?_⟩))⟩
      · refine ⟨h, ?_, hb2, (d4 hb2).trans hl2⟩
        dsimp only
        rw [hsucc, hins, List.flatMap_append, List.flatMap_cons, ← List.append_assoc, List.length_append, List.length_cons, List.length_take, List.length_drop,
          show min (firstA outs[i].ans L) L.length + (L.length - firstA outs[i].ans L + 1) = L.length + 1 by have := first_le outs[i].ans L; omega]
        exact d3
      · show outs.length - (i + 1) < outs.length - i; omega
    · have hins : insA L outs[i].ans = L := if_pos h2
      refine ⟨(i + 1, v, _), ?_, ?_, rfl, rfl, by (refine Am.sub_of ?_; repeat (first | exact trivial | refine ⟨rfl, ?_⟩))⟩
      · exact ⟨h, by dsimp only; rw [hsucc, hins]; exact hg2, hb2, hl2⟩
      · show outs.length - (i + 1) < outs.length - i; omega
  · focus
      refine EvtL.seqReg ?_
      refine RegL.q (OpQ.int2 rfl u_3 rfl rfl rfl rfl) rfl rfl rfl ?_
      refine RegL.done ?_
      refine EvtL.seq ?_
      refine EvtL.cond rfl (fun g1 => ?_) (fun g1 => ?_)
      have h1 := of_decide_eq_true g1
      exact absurd h1 (by omega)
      have h1 := of_decide_eq_false g1
      refine EvtL.exit ?_
      refine cond_t rfl ?_
      refine EvtL.seqReg ?_
      refine RegL.q (OpQ.move rfl rfl) rfl rfl rfl ?_
      refine RegL.q (OpQ.assign rfl rfl) rfl rfl rfl ?_
      refine RegL.done ?_
      rotate_left
    obtain rfl : i = outs.length := by omega
    rw [List.take_of_length_le (by rw [List.length_map]; omega)] at hg
    rcases hg with ⟨rfl, hn, _⟩ | ⟨b, rfl, hbn, hg, hln, h0⟩
    · refine EvtL.ret ⟨.inl rfl, rfl, hl, hb, _, _, _, res_tmp rfl rfl, rfl, rfl, ?_⟩
      rw [show sortA (ansOf ⟨outs, lk, fa, wa, lo, op⟩) = [] from List.eq_nil_of_length_eq_zero hn]; rfl
    · refine EvtL.ret ⟨.inl rfl, rfl, hl, hb, _, _, _, res_tmp rfl rfl, frz_slice (Nat.zero_le _) hg hln (frz_ans _), ?_, ?_⟩
      · show (_ || _) = true
        rw [ans_closed]; rfl
      · rw [ans_closed]
        show _ = lstAn (sortA (outs.map OutT.ans))
        generalize sortA (outs.map OutT.ans) = L at *
        cases L with
        | nil => exact absurd rfl h0
        | cons a L => rfl
end Go.Proofs.YtlclpmbeaofohaaGreat.So

/- How the document orders terms and answers. -/
open Go Am
namespace Go.Proofs.YtlclpmbeaofohaaGreat.So
theorem sign_to (a b : Int) : CallTo (EK K6) 77 [.int .i64 a, .int .i64 b] S0 (.int .i64 (sgn a b)) := by
  refine CallTo.s0 (fn := Tryz.f77) rfl rfl (by kernel_rfl) rfl rfl rfl rfl ?_
  focus
    refine EvtL.seqReg ?_
    refine RegL.q (OpQ.assign rfl rfl) rfl rfl rfl ?_
    refine RegL.done ?_
    refine EvtL.seq ?_
    refine EvtL.seqReg ?_
    refine RegL.q (OpQ.move rfl rfl) rfl rfl rfl ?_
    refine RegL.q (OpQ.move rfl rfl) rfl rfl rfl ?_
    refine RegL.q (OpQ.int2 rfl u_3 rfl rfl rfl rfl) rfl rfl rfl ?_
    refine RegL.done ?_
    refine EvtL.cond rfl (fun g1 => ?_) (fun g1 => ?_)
    have h1 := of_decide_eq_true g1
    refine EvtL.seqReg ?_
    refine RegL.q (OpQ.assign rfl rfl) rfl rfl rfl ?_
    refine RegL.done ?_
    refine EvtL.ret ⟨.inl rfl, rfl, rfl, rfl, _, _, _, (res_tmp rfl rfl), rfl, rfl, ?_⟩
    rotate_left
    have h1 := of_decide_eq_false g1
    refine EvtL.skip ?_
    refine EvtL.seq ?_
    refine EvtL.seqReg ?_
    refine RegL.q (OpQ.move rfl rfl) rfl rfl rfl ?_
    refine RegL.q (OpQ.move rfl rfl) rfl rfl rfl ?_
    refine RegL.q (OpQ.int2 rfl u_3 rfl rfl rfl rfl) rfl rfl rfl ?_
    refine RegL.done ?_
    refine EvtL.cond rfl (fun g2 => ?_) (fun g2 => ?_)
    have h2 := of_decide_eq_true g2
    refine EvtL.seqReg ?_
    refine RegL.q (OpQ.assign rfl rfl) rfl rfl rfl ?_
    refine RegL.done ?_
    refine EvtL.ret ⟨.inl rfl, rfl, rfl, rfl, _, _, _, (res_tmp rfl rfl), rfl, rfl, ?_⟩
    rotate_left
    have h2 := of_decide_eq_false g2
    refine EvtL.skip ?_
    refine EvtL.seqReg ?_
    refine RegL.q (OpQ.assign rfl rfl) rfl rfl rfl ?_
    refine RegL.done ?_
    refine EvtL.ret ⟨.inl rfl, rfl, rfl, rfl, _, _, _, (res_tmp rfl rfl), rfl, rfl, ?_⟩
    rotate_left
  · rw [sgn_lt (by assumption)]; rfl
  · rw [sgn_gt (by assumption)]; rfl
  · rw [sgn_eq (by assumption) (by assumption)]; rfl
noncomputable def K7 := addC K6 77 encII resII
theorem all7 (h : Given) : KnownAll Tryz.prog K7 := addC_allI h.ins (all6 h) (fun p => sign_to p.1 p.2) (fun _ => rfl) (fun _ => rfl)
theorem hit_77 {a b : Int} : K7 77 [.int .i64 a, .int .i64 b] = some (.int .i64 (sgn a b)) := addC_hit (enc := encII) (res := resII) (fun x y h => by rw [encII_inj x y h]) (a, b)
noncomputable abbrev KQ := lay K7 51 encPr resPr (fun p => deepT p.1.1)
theorem orL_ne {a : Int} {l : List Int} (h : ¬ a = 0) : orL (a :: l) = a := if_neg h
theorem cmps_sgn {a b : List TermT} (h : a = [] ∨ b = []) : cmpTs a b = sgn (a.length : Nat) (b.length : Nat) := by
  cases a with
  | nil => cases b with
    | nil => rfl
    | cons u b => rw [sgn_lt (by simp only [List.length_cons, List.length_nil]; omega)]; rfl
  | cons t a => cases b with
    | nil => rw [sgn_gt (by simp only [List.length_cons, List.length_nil]; omega)]; rfl
    | cons u b => rcases h with h | h <;> cases h
theorem sgn_sub {a b c d : Nat} (h : a + d = b + c) : sgn (a : Nat) (b : Nat) = sgn (c : Nat) (d : Nat) := by
  unfold sgn
  repeat' split
  all_goals omega
theorem orL_one (a : Int) : orL [a] = a := by
  unfold orL
  split
  · next h => exact h.symm
  · rfl
theorem compareR_to (d : Nat) (t u : TermT) (h : deepT t = d + 1) (ht : sizeT t ≤ 4000) (hu : sizeT u ≤ 4000) (hx : KQ d 51 [.agg (encTm t), .agg (encTm u)] = none) :
    CallTo (EK (KQ d)) 51 [.agg (encTm t), .agg (encTm u)] S0 (.int .i64 (cmpT t u)) := by
  have hitb_78 : KQ d 78 [.agg (encTm u)] = some (.int .i64 (sizeT u : Nat)) := hit_78 hu
  have hit_78 : KQ d 78 [.agg (encTm t)] = some (.int .i64 (sizeT t : Nat)) := So.hit_78 ht
  have hit_77 : ∀ a b, KQ d 77 [.int .i64 a, .int .i64 b] = some (.int .i64 (sgn a b)) := fun a b => So.hit_77
  have hC : cmpT t u = orL [sgn (sizeT t : Nat) (sizeT u : Nat), sgn t.op u.op, sgn t.n u.n, cmpTs t.kids u.kids] := cmpT_eq t u
  have hdk : deepTs t.kids ≤ d := by rw [deepT_eq] at h; omega
  have hs1 := sizeT_eq t
  have hs2 := sizeT_eq u
  have hl1 := len_sizes t.kids
  have hl2 := len_sizes u.kids
  rw [encTm_eq] at hx hit_78 hitb_78
  rw [encTm_eq u] at hx
  simp only [encTm_eq]
  generalize hks : t.kids = ks at *
  generalize hus : u.kids = us at *
  refine CallTo.s0 (fn := Tryz.f51) rfl hx (by kernel_rfl) rfl rfl rfl rfl ?_
  focus
    refine EvtL.seqReg ?_
    refine RegL.op (OpL.boxS 1 rfl rfl rfl rfl) rfl rfl rfl ?_
    refine RegL.op (OpL.boxS 2 rfl rfl rfl rfl) rfl rfl rfl ?_
    refine RegL.q (OpQ.assign rfl rfl) rfl rfl rfl ?_
    refine RegL.done ?_
    refine EvtL.seq ?_
    refine EvtL.seqDrawN (by kernel_rfl) ?_
    refine RegN.loadSA rfl ag_34 sz_34 rfl rfl (Nat.le_of_ble_eq_true rfl) (by kernel_rfl) (.inl rfl) rfl rfl ?_
    refine RegN.aG (OpA.callFn rfl rfl (by kernel_rfl) rfl (hit_78)) (.inl rfl) rfl rfl ?_
    refine RegN.loadSA rfl ag_34 sz_34 rfl rfl (Nat.le_of_ble_eq_true rfl) (by kernel_rfl) (.inl rfl) rfl rfl ?_
    refine RegN.aG (OpA.callFn rfl rfl (by kernel_rfl) rfl (hitb_78)) (.inl rfl) rfl rfl ?_
    refine RegN.aG (OpA.callFn rfl rfl (by kernel_rfl) rfl (hit_77 _ _)) (.inl rfl) rfl rfl ?_
    refine RegN.qG (OpQ.assign rfl rfl) (.inl rfl) rfl rfl ?_
    refine RegN.done ?_
    refine EvtL.seqReg ?_
    refine RegL.q (OpQ.move rfl rfl) rfl rfl rfl ?_
    refine RegL.q (OpQ.int2 rfl u_3 rfl rfl rfl rfl) rfl rfl rfl ?_
    refine RegL.done ?_
    refine EvtL.cond rfl (fun g1 => ?_) (fun g1 => ?_)
    have h1 := nT g1
    refine EvtL.seqReg ?_
    refine RegL.q (OpQ.move rfl rfl) rfl rfl rfl ?_
    refine RegL.q (OpQ.assign rfl rfl) rfl rfl rfl ?_
    refine RegL.done ?_
    refine EvtL.ret ⟨.inl rfl, rfl, rfl, rfl, _, _, _, (res_tmp rfl rfl), rfl, rfl, ?_⟩
    rotate_left
    have h1 := nF g1
    refine EvtL.skip ?_
    refine EvtL.seq ?_
    refine EvtL.seqReg ?_
    refine RegL.q (OpQ.fieldAddr rfl f_34_0 rfl) rfl rfl rfl ?_
    refine RegL.op (OpL.loadS1 rfl ag_32 sz_32 rfl rfl rfl) rfl rfl rfl ?_
    refine RegL.q (OpQ.fieldAddr rfl f_34_0 rfl) rfl rfl rfl ?_
    refine RegL.op (OpL.loadS1 rfl ag_32 sz_32 rfl rfl rfl) rfl rfl rfl ?_
    refine RegL.op (OpL.callFn rfl rfl (by kernel_rfl) rfl (CallTo.memo (hit_77 _ _))) rfl rfl rfl ?_
    refine RegL.q (OpQ.assign rfl rfl) rfl rfl rfl ?_
    refine RegL.done ?_
    refine EvtL.seqReg ?_
    refine RegL.q (OpQ.move rfl rfl) rfl rfl rfl ?_
    refine RegL.q (OpQ.int2 rfl u_3 rfl rfl rfl rfl) rfl rfl rfl ?_
    refine RegL.done ?_
    refine EvtL.cond rfl (fun g2 => ?_) (fun g2 => ?_)
    have h2 := nT g2
    refine EvtL.seqReg ?_
    refine RegL.q (OpQ.move rfl rfl) rfl rfl rfl ?_
    refine RegL.q (OpQ.assign rfl rfl) rfl rfl rfl ?_
    refine RegL.done ?_
    refine EvtL.ret ⟨.inl rfl, rfl, rfl, rfl, _, _, _, (res_tmp rfl rfl), rfl, rfl, ?_⟩
    rotate_left
    have h2 := nF g2
    refine EvtL.skip ?_
    refine EvtL.seq ?_
    refine EvtL.seqReg ?_
    refine RegL.q (OpQ.fieldAddr rfl f_34_1 rfl) rfl rfl rfl ?_
    refine RegL.op (OpL.loadS1 rfl ag_3 sz_3 rfl rfl rfl) rfl rfl rfl ?_
    refine RegL.q (OpQ.fieldAddr rfl f_34_1 rfl) rfl rfl rfl ?_
    refine RegL.op (OpL.loadS1 rfl ag_3 sz_3 rfl rfl rfl) rfl rfl rfl ?_
    refine RegL.op (OpL.callFn rfl rfl (by kernel_rfl) rfl (CallTo.memo (hit_77 _ _))) rfl rfl rfl ?_
    refine RegL.q (OpQ.assign rfl rfl) rfl rfl rfl ?_
    refine RegL.done ?_
    refine EvtL.seqReg ?_
    refine RegL.q (OpQ.move rfl rfl) rfl rfl rfl ?_
    refine RegL.q (OpQ.int2 rfl u_3 rfl rfl rfl rfl) rfl rfl rfl ?_
    refine RegL.done ?_
    refine EvtL.cond rfl (fun g3 => ?_) (fun g3 => ?_)
    have h3 := nT g3
    refine EvtL.seqReg ?_
    refine RegL.q (OpQ.move rfl rfl) rfl rfl rfl ?_
    refine RegL.q (OpQ.assign rfl rfl) rfl rfl rfl ?_
    refine RegL.done ?_
    refine EvtL.ret ⟨.inl rfl, rfl, rfl, rfl, _, _, _, (res_tmp rfl rfl), rfl, rfl, ?_⟩
    rotate_left
    have h3 := nF g3
    refine EvtL.skip ?_
    refine EvtL.seq ?_
    refine EvtL.seqReg ?_
    refine RegL.q (OpQ.assign rfl rfl) rfl rfl rfl ?_
    refine RegL.done ?_
    refine EvtL.block ?_
    rotate_left
  · rw [hC, orL_ne (by assumption)]; rfl
  · rw [hC, orL_eq (by omega), orL_ne (by assumption)]; rfl
  · rw [hC, orL_eq (by omega), orL_eq (by omega), orL_ne (by assumption)]; rfl
  · refine EvtL.loopI (fun i : Nat => ([(8, .int .i64 (i : Nat)), (2, .ptr 0 0), (3, .ptr 1 0)], mkS 2 0 [] [(1, some (.cells [.int .i64 u.op, .int .i64 u.n, recs encTm 3 us] 34 false)), (0, some (.cells [.int .i64 t.op, .int .i64 t.n, recs encTm 3 ks] 34 false))])) (fun i => ks.length - i)
      (fun i => i ≤ ks.length ∧ i ≤ us.length ∧ cmpTs ks us = cmpTs (ks.drop i) (us.drop i)) 0 ⟨Nat.zero_le _, Nat.zero_le _, rfl⟩ rfl (by (refine Am.sub_of ?_; repeat (first | exact trivial | refine ⟨rfl, ?_⟩))) ?_
    rintro i ⟨hi, hi2, ho⟩
    dsimp only at hi hi2 ho ⊢
    have hend : cmpTs ks us = cmpT t u := by rw [hC, orL_eq (by omega), orL_eq (by omega), orL_eq (by omega)]; exact (orL_one _).symm
    by_cases h9 : i < ks.length
    · by_cases h8 : i < us.length
      · have hid := idx_tm h9
        have hid2 := idx_tm h8
        have hd := List.drop_eq_getElem_cons h9
        have hd2 := List.drop_eq_getElem_cons h8
        have hk1 := size_kid (List.getElem_mem h9)
        have hk2 := size_kid (List.getElem_mem h8)
        have hit_51 : KQ d 51 [.agg (encTm ks[i]), .agg (encTm us[i])] = some (.int .i64 (cmpT ks[i] us[i])) := lay_hit (deep := fun p : PrT => deepT p.1.1) encPr_inj ⟨(ks[i], us[i]), by dsimp only; omega, by dsimp only; omega⟩ (Nat.le_trans (deep_kid (List.getElem_mem h9)) hdk)
        rw [encTm_eq ks[i], encTm_eq us[i]] at hit_51
        rw [encTm_eq] at hid hid2
        focus
          refine EvtL.seq ?_
          refine EvtL.seqReg ?_
          refine RegL.q (OpQ.move rfl rfl) rfl rfl rfl ?_
          refine RegL.q (OpQ.fieldAddr rfl f_34_2 rfl) rfl rfl rfl ?_
          refine RegL.op (OpL.loadS1 rfl ag_31 sz_31 rfl rfl rfl) rfl rfl rfl ?_
          refine RegL.q (OpQ.lenSl rfl rfl rfl rfl u_31 rfl) rfl rfl rfl ?_
          refine RegL.q (OpQ.int2 rfl u_3 rfl rfl rfl rfl) rfl rfl rfl ?_
          refine RegL.q (OpQ.move rfl rfl) rfl rfl rfl ?_
          refine RegL.both rfl rfl rfl rfl (fun g4 => ?_) (fun g4 => ?_)
          have h4 := of_decide_eq_true g4
          refine RegL.go rfl rfl rfl rfl (by assumption) (OpL.q (OpQ.move rfl rfl)) rfl rfl ?_
          refine RegL.go rfl rfl rfl rfl (by assumption) (OpL.q (OpQ.fieldAddr rfl f_34_2 rfl)) rfl rfl ?_
          refine RegL.go rfl rfl rfl rfl (by assumption) (OpL.loadS1 rfl ag_31 sz_31 rfl rfl rfl) rfl rfl ?_
          refine RegL.go rfl rfl rfl rfl (by assumption) (OpL.q (OpQ.lenSl rfl rfl rfl rfl u_31 rfl)) rfl rfl ?_
          refine RegL.go rfl rfl rfl rfl (by assumption) (OpL.q (OpQ.int2 rfl u_3 rfl rfl rfl rfl)) rfl rfl ?_
          refine RegL.q (OpQ.pickT rfl rfl (by assumption) rfl) rfl rfl rfl ?_
          refine RegL.done ?_
          refine EvtL.cond rfl (fun g5 => ?_) (fun g5 => ?_)
          have h5 := of_decide_eq_true g5
          refine EvtL.skip ?_
          refine EvtL.seq ?_
          refine EvtL.block ?_
          refine EvtL.seqDrawN (by kernel_rfl) ?_
          refine RegN.qG (OpQ.fieldAddr rfl f_34_2 rfl) (.inl rfl) rfl rfl ?_
          refine RegN.loadS1 rfl ag_31 sz_31 rfl rfl rfl (by kernel_rfl) (.inl rfl) rfl rfl ?_
          refine RegN.qG (OpQ.move rfl rfl) (.inl rfl) rfl rfl ?_
          refine RegN.qG (OpQ.indexAddrV rfl u_31 sz_34 rfl rfl (by assumption)) (.inl rfl) rfl rfl ?_
          refine RegN.qG (OpQ.loadI rfl rfl ag_34 sz_34 (Nat.le_of_ble_eq_true rfl)) (.inl rfl) rfl rfl ?_
          refine RegN.qG (OpQ.fieldAddr rfl f_34_2 rfl) (.inl rfl) rfl rfl ?_
          refine RegN.loadS1 rfl ag_31 sz_31 rfl rfl rfl (by kernel_rfl) (.inl rfl) rfl rfl ?_
          refine RegN.qG (OpQ.move rfl rfl) (.inl rfl) rfl rfl ?_
          refine RegN.qG (OpQ.indexAddrV rfl u_31 sz_34 rfl rfl (by assumption)) (.inl rfl) rfl rfl ?_
          refine RegN.qG (OpQ.loadI rfl rfl ag_34 sz_34 (Nat.le_of_ble_eq_true rfl)) (.inl rfl) rfl rfl ?_
          refine RegN.aG (OpA.callFn rfl rfl (by kernel_rfl) rfl (hit_51)) (.inl rfl) rfl rfl ?_
          refine RegN.qG (OpQ.assign rfl rfl) (.inl rfl) rfl rfl ?_
          refine RegN.done ?_
          refine EvtL.seqReg ?_
          refine RegL.q (OpQ.move rfl rfl) rfl rfl rfl ?_
          refine RegL.q (OpQ.int2 rfl u_3 rfl rfl rfl rfl) rfl rfl rfl ?_
          refine RegL.done ?_
          refine EvtL.cond rfl (fun g6 => ?_) (fun g6 => ?_)
          have h6 := nT g6
          refine EvtL.seqReg ?_
          refine RegL.q (OpQ.move rfl rfl) rfl rfl rfl ?_
          refine RegL.q (OpQ.assign rfl rfl) rfl rfl rfl ?_
          refine RegL.done ?_
          refine EvtL.ret ⟨.inl rfl, rfl, rfl, rfl, _, _, _, (res_tmp rfl rfl), rfl, rfl, ?_⟩
          rotate_left
          have h6 := nF g6
          refine EvtL.skip ?_
          refine EvtL.reg ?_
          refine RegL.q (OpQ.move rfl rfl) rfl rfl rfl ?_
          refine RegL.q (OpQ.addN (b := 1) rfl u_3 rfl rfl (by first | assumption | omega | (simp only [List.length_append, List.length_cons, List.length_nil, List.length_take, List.length_drop]; omega))) rfl rfl rfl ?_
          refine RegL.q (OpQ.assign rfl rfl) rfl rfl rfl ?_
          refine RegL.done ?_
          rotate_left
          have h5 := of_decide_eq_false g5
          exact absurd h5 (by omega)
          have h4 := of_decide_eq_false g4
          exact absurd h4 (by omega)
        · rw [← hend, ho, hd, hd2]
          show _ = AV.int .i64 (if _ then _ else _)
          rw [if_neg (by assumption)]; rfl
        · exact ⟨i + 1, ⟨h9, h8, by
            rw [ho, hd, hd2]
            show (if _ then _ else _) = _
            rw [if_pos (by assumption)]⟩, by show ks.length - (i + 1) < ks.length - i; omega, rfl, rfl, by (refine Am.sub_of ?_; repeat (first | exact trivial | refine ⟨rfl, ?_⟩))⟩
      · focus
          refine EvtL.seq ?_
          refine EvtL.seqReg ?_
          refine RegL.q (OpQ.move rfl rfl) rfl rfl rfl ?_
          refine RegL.q (OpQ.fieldAddr rfl f_34_2 rfl) rfl rfl rfl ?_
          refine RegL.op (OpL.loadS1 rfl ag_31 sz_31 rfl rfl rfl) rfl rfl rfl ?_
          refine RegL.q (OpQ.lenSl rfl rfl rfl rfl u_31 rfl) rfl rfl rfl ?_
          refine RegL.q (OpQ.int2 rfl u_3 rfl rfl rfl rfl) rfl rfl rfl ?_
          refine RegL.q (OpQ.move rfl rfl) rfl rfl rfl ?_
          refine RegL.both rfl rfl rfl rfl (fun g4 => ?_) (fun g4 => ?_)
          have h4 := of_decide_eq_true g4
          refine RegL.go rfl rfl rfl rfl (by assumption) (OpL.q (OpQ.move rfl rfl)) rfl rfl ?_
          refine RegL.go rfl rfl rfl rfl (by assumption) (OpL.q (OpQ.fieldAddr rfl f_34_2 rfl)) rfl rfl ?_
          refine RegL.go rfl rfl rfl rfl (by assumption) (OpL.loadS1 rfl ag_31 sz_31 rfl rfl rfl) rfl rfl ?_
          refine RegL.go rfl rfl rfl rfl (by assumption) (OpL.q (OpQ.lenSl rfl rfl rfl rfl u_31 rfl)) rfl rfl ?_
          refine RegL.go rfl rfl rfl rfl (by assumption) (OpL.q (OpQ.int2 rfl u_3 rfl rfl rfl rfl)) rfl rfl ?_
          refine RegL.q (OpQ.pickT rfl rfl (by assumption) rfl) rfl rfl rfl ?_
          refine RegL.done ?_
          refine EvtL.cond rfl (fun g5 => ?_) (fun g5 => ?_)
          have h5 := of_decide_eq_true g5
          exact absurd h5 (by omega)
          have h5 := of_decide_eq_false g5
          refine EvtL.exit ?_
          refine cond_t rfl ?_
          refine EvtL.seqReg ?_
          refine RegL.q (OpQ.fieldAddr rfl f_34_2 rfl) rfl rfl rfl ?_
          refine RegL.op (OpL.loadS1 rfl ag_31 sz_31 rfl rfl rfl) rfl rfl rfl ?_
          refine RegL.q (OpQ.lenSl rfl rfl rfl rfl u_31 rfl) rfl rfl rfl ?_
          refine RegL.q (OpQ.fieldAddr rfl f_34_2 rfl) rfl rfl rfl ?_
          refine RegL.op (OpL.loadS1 rfl ag_31 sz_31 rfl rfl rfl) rfl rfl rfl ?_
          refine RegL.q (OpQ.lenSl rfl rfl rfl rfl u_31 rfl) rfl rfl rfl ?_
          refine RegL.op (OpL.callFn rfl rfl (by kernel_rfl) rfl (CallTo.memo (hit_77 _ _))) rfl rfl rfl ?_
          refine RegL.q (OpQ.assign rfl rfl) rfl rfl rfl ?_
          refine RegL.done ?_
          refine EvtL.ret ⟨.inl rfl, rfl, rfl, rfl, _, _, _, (res_tmp rfl rfl), rfl, rfl, ?_⟩
          rotate_left
          have h4 := of_decide_eq_false g4
          exact absurd h4 (by omega)
        rw [← hend, ho, cmps_sgn (.inr (List.drop_eq_nil_of_le (by omega))), List.length_drop, List.length_drop, sgn_sub (a := ks.length - i) (b := us.length - i) (c := ks.length) (d := us.length) (by omega)]; rfl
    · focus
        refine EvtL.seq ?_
        refine EvtL.seqReg ?_
        refine RegL.q (OpQ.move rfl rfl) rfl rfl rfl ?_
        refine RegL.q (OpQ.fieldAddr rfl f_34_2 rfl) rfl rfl rfl ?_
        refine RegL.op (OpL.loadS1 rfl ag_31 sz_31 rfl rfl rfl) rfl rfl rfl ?_
        refine RegL.q (OpQ.lenSl rfl rfl rfl rfl u_31 rfl) rfl rfl rfl ?_
        refine RegL.q (OpQ.int2 rfl u_3 rfl rfl rfl rfl) rfl rfl rfl ?_
        refine RegL.q (OpQ.move rfl rfl) rfl rfl rfl ?_
        refine RegL.both rfl rfl rfl rfl (fun g4 => ?_) (fun g4 => ?_)
        have h4 := of_decide_eq_true g4
        exact absurd h4 (by omega)
        have h4 := of_decide_eq_false g4
        refine RegL.skip rfl rfl rfl rfl (by assumption) rfl rfl ?_
        refine RegL.skip rfl rfl rfl rfl (by assumption) rfl rfl ?_
        refine RegL.skip rfl rfl rfl rfl (by assumption) rfl rfl ?_
        refine RegL.skip rfl rfl rfl rfl (by assumption) rfl rfl ?_
        refine RegL.skip rfl rfl rfl rfl (by assumption) rfl rfl ?_
        refine RegL.q (OpQ.pickF rfl rfl (by assumption) rfl) rfl rfl rfl ?_
        refine RegL.done ?_
        refine EvtL.condF rfl rfl ?_
        refine EvtL.exit ?_
        refine cond_t rfl ?_
        refine EvtL.seqReg ?_
        refine RegL.q (OpQ.fieldAddr rfl f_34_2 rfl) rfl rfl rfl ?_
        refine RegL.op (OpL.loadS1 rfl ag_31 sz_31 rfl rfl rfl) rfl rfl rfl ?_
        refine RegL.q (OpQ.lenSl rfl rfl rfl rfl u_31 rfl) rfl rfl rfl ?_
        refine RegL.q (OpQ.fieldAddr rfl f_34_2 rfl) rfl rfl rfl ?_
        refine RegL.op (OpL.loadS1 rfl ag_31 sz_31 rfl rfl rfl) rfl rfl rfl ?_
        refine RegL.q (OpQ.lenSl rfl rfl rfl rfl u_31 rfl) rfl rfl rfl ?_
        refine RegL.op (OpL.callFn rfl rfl (by kernel_rfl) rfl (CallTo.memo (hit_77 _ _))) rfl rfl rfl ?_
        refine RegL.q (OpQ.assign rfl rfl) rfl rfl rfl ?_
        refine RegL.done ?_
        refine EvtL.ret ⟨.inl rfl, rfl, rfl, rfl, _, _, _, (res_tmp rfl rfl), rfl, rfl, ?_⟩
        rotate_left
      rw [← hend, ho, cmps_sgn (.inl (List.drop_eq_nil_of_le (by omega))), List.length_drop, List.length_drop, sgn_sub (a := ks.length - i) (b := us.length - i) (c := ks.length) (d := us.length) (by omega)]; rfl
noncomputable def K8 := addC K7 51 encPr resPr
theorem all8 (h : Given) : KnownAll Tryz.prog K8 :=
  lay_known (deep := fun p : PrT => deepT p.1.1) h.ins (all7 h) encPr_inj (fun p => deep_pos p.1.1) encPr_closed (fun _ => rfl) fun d p hp hx => compareR_to d p.1.1 p.1.2 hp p.2.1 p.2.2 hx
theorem hit_51 {t u : TermT} (ht : sizeT t ≤ 4000) (hu : sizeT u ≤ 4000) : K8 51 [.agg (encTm t), .agg (encTm u)] = some (.int .i64 (cmpT t u)) := addC_hit (enc := encPr) (res := resPr) (fun a b h => by rw [encPr_inj a b h]) ⟨(t, u), ht, hu⟩
end Go.Proofs.YtlclpmbeaofohaaGreat.So

/- How the document orders answers. -/
open Go Am
namespace Go.Proofs.YtlclpmbeaofohaaGreat.So
theorem orderR_to (a b : AnsT) (ha : SlimA a) (hb : SlimA b) : CallTo (EK K8) 27 [.agg (encAn a), .agg (encAn b)] S0 (.int .i64 (ordA a b)) := by
  obtain ⟨v, t⟩ := a
  obtain ⟨w, u⟩ := b
  have hC : ordA ⟨v, t⟩ ⟨w, u⟩ = orL [cmpT t u, sgn (v.length : Nat) (w.length : Nat), cmpTs v w] := rfl
  have hit_51 : K8 51 [.agg (encTm t), .agg (encTm u)] = some (.int .i64 (cmpT t u)) := So.hit_51 ha.2 hb.2
  have hv := len_sizes v
  have hw := len_sizes w
  have hv2 := ha.1
  have hw2 := hb.1
  dsimp only at hv2 hw2
  have e1 : (AnsT.mk v t).vars.length = v.length := rfl
  have e2 : (AnsT.mk w u).vars.length = w.length := rfl
  rw [encTm_eq, encTm_eq u] at hit_51
  unfold encAn
  refine CallTo.s0 (fn := Tryz.f27) rfl rfl (by kernel_rfl) rfl rfl rfl rfl ?_
  focus
    refine EvtL.seqReg ?_
    refine RegL.op (OpL.boxS 1 rfl rfl rfl rfl) rfl rfl rfl ?_
    refine RegL.op (OpL.boxS 2 rfl rfl rfl rfl) rfl rfl rfl ?_
    refine RegL.q (OpQ.assign rfl rfl) rfl rfl rfl ?_
    refine RegL.done ?_
    refine EvtL.seq ?_
    refine EvtL.seqReg ?_
    refine RegL.q (OpQ.fieldAddr rfl f_36_1 rfl) rfl rfl rfl ?_
    refine RegL.op (OpL.loadSA rfl ag_34 sz_34 rfl rfl (Nat.le_of_ble_eq_true rfl)) rfl rfl rfl ?_
    refine RegL.q (OpQ.fieldAddr rfl f_36_1 rfl) rfl rfl rfl ?_
    refine RegL.op (OpL.loadSA rfl ag_34 sz_34 rfl rfl (Nat.le_of_ble_eq_true rfl)) rfl rfl rfl ?_
    refine RegL.op (OpL.callFn rfl rfl (by kernel_rfl) rfl (CallTo.memo (hit_51))) rfl rfl rfl ?_
    refine RegL.q (OpQ.assign rfl rfl) rfl rfl rfl ?_
    refine RegL.done ?_
    refine EvtL.seqReg ?_
    refine RegL.q (OpQ.move rfl rfl) rfl rfl rfl ?_
    refine RegL.q (OpQ.int2 rfl u_3 rfl rfl rfl rfl) rfl rfl rfl ?_
    refine RegL.done ?_
    refine EvtL.cond rfl (fun g1 => ?_) (fun g1 => ?_)
    have h1 := nT g1
    refine EvtL.seqReg ?_
    refine RegL.q (OpQ.move rfl rfl) rfl rfl rfl ?_
    refine RegL.q (OpQ.assign rfl rfl) rfl rfl rfl ?_
    refine RegL.done ?_
    refine EvtL.ret ⟨.inl rfl, rfl, rfl, rfl, _, _, _, (res_tmp rfl rfl), rfl, rfl, ?_⟩
    rotate_left
    have h1 := nF g1
    refine EvtL.skip ?_
    refine EvtL.seq ?_
    refine EvtL.seqReg ?_
    refine RegL.q (OpQ.fieldAddr rfl f_36_0 rfl) rfl rfl rfl ?_
    refine RegL.op (OpL.loadS1 rfl ag_31 sz_31 rfl rfl rfl) rfl rfl rfl ?_
    refine RegL.q (OpQ.lenSl rfl rfl rfl rfl u_31 rfl) rfl rfl rfl ?_
    refine RegL.q (OpQ.fieldAddr rfl f_36_0 rfl) rfl rfl rfl ?_
    refine RegL.op (OpL.loadS1 rfl ag_31 sz_31 rfl rfl rfl) rfl rfl rfl ?_
    refine RegL.q (OpQ.lenSl rfl rfl rfl rfl u_31 rfl) rfl rfl rfl ?_
    refine RegL.q (OpQ.int2 rfl u_3 rfl rfl rfl rfl) rfl rfl rfl ?_
    refine RegL.done ?_
    refine EvtL.cond rfl (fun g2 => ?_) (fun g2 => ?_)
    have h2 := nT g2
    refine EvtL.seq ?_
    refine EvtL.seqReg ?_
    refine RegL.q (OpQ.fieldAddr rfl f_36_0 rfl) rfl rfl rfl ?_
    refine RegL.op (OpL.loadS1 rfl ag_31 sz_31 rfl rfl rfl) rfl rfl rfl ?_
    refine RegL.q (OpQ.lenSl rfl rfl rfl rfl u_31 rfl) rfl rfl rfl ?_
    refine RegL.q (OpQ.fieldAddr rfl f_36_0 rfl) rfl rfl rfl ?_
    refine RegL.op (OpL.loadS1 rfl ag_31 sz_31 rfl rfl rfl) rfl rfl rfl ?_
    refine RegL.q (OpQ.lenSl rfl rfl rfl rfl u_31 rfl) rfl rfl rfl ?_
    refine RegL.q (OpQ.int2 rfl u_3 rfl rfl rfl rfl) rfl rfl rfl ?_
    refine RegL.done ?_
    refine EvtL.cond rfl (fun g3 => ?_) (fun g3 => ?_)
    have h3 := of_decide_eq_true g3
    refine EvtL.seqReg ?_
    refine RegL.q (OpQ.assign rfl rfl) rfl rfl rfl ?_
    refine RegL.done ?_
    refine EvtL.ret ⟨.inl rfl, rfl, rfl, rfl, _, _, _, (res_tmp rfl rfl), rfl, rfl, ?_⟩
    rotate_left
    have h3 := of_decide_eq_false g3
    refine EvtL.skip ?_
    refine EvtL.seqReg ?_
    refine RegL.q (OpQ.assign rfl rfl) rfl rfl rfl ?_
    refine RegL.done ?_
    refine EvtL.ret ⟨.inl rfl, rfl, rfl, rfl, _, _, _, (res_tmp rfl rfl), rfl, rfl, ?_⟩
    rotate_left
    have h2 := nF g2
    refine EvtL.skip ?_
    refine EvtL.seq ?_
    refine EvtL.seqReg ?_
    refine RegL.q (OpQ.assign rfl rfl) rfl rfl rfl ?_
    refine RegL.done ?_
    refine EvtL.block ?_
    rotate_left
  · rw [hC, orL_ne (by assumption)]; rfl
  · rw [hC, orL_eq (by assumption), sgn_lt (by assumption)]; rfl
  · rw [hC, orL_eq (by assumption), sgn_gt (by omega)]; rfl
  · refine EvtL.loopI (fun i : Nat => ([(6, .int .i64 (i : Nat)), (2, .ptr 0 0), (3, .ptr 1 0)], mkS 2 0 [] [(1, some (.cells [recs encTm 3 w, .int .i64 u.op, .int .i64 u.n, recs encTm 3 u.kids] 36 false)), (0, some (.cells [recs encTm 3 v, .int .i64 t.op, .int .i64 t.n, recs encTm 3 t.kids] 36 false))])) (fun i => v.length - i)
      (fun i => i ≤ v.length ∧ cmpTs v w = cmpTs (v.drop i) (w.drop i)) 0 ⟨Nat.zero_le _, rfl⟩ rfl (by (refine Am.sub_of ?_; repeat (first | exact trivial | refine ⟨rfl, ?_⟩))) ?_
    rintro i ⟨hi, ho⟩
    dsimp only at hi ho ⊢
    have hle : v.length = w.length := by omega
    have hend : ordA ⟨v, t⟩ ⟨w, u⟩ = cmpTs v w := by rw [hC, orL_eq (by assumption), orL_eq (sgn_eq (by omega) (by omega)), orL_one]
    by_cases h9 : i < v.length
    · have h8 : i < w.length := by omega
      have hid := idx_tm h9
      have hid2 := idx_tm h8
      have hd := List.drop_eq_getElem_cons h9
      have hd2 := List.drop_eq_getElem_cons h8
      have hk1 := size_kid (List.getElem_mem h9)
      have hk2 := size_kid (List.getElem_mem h8)
      have hit_51 : K8 51 [.agg (encTm v[i]), .agg (encTm w[i])] = some (.int .i64 (cmpT v[i] w[i])) := So.hit_51 (by omega) (by omega)
      rw [encTm_eq v[i], encTm_eq w[i]] at hit_51
      rw [encTm_eq] at hid hid2
      focus
        refine EvtL.seq ?_
        refine EvtL.seqReg ?_
        refine RegL.q (OpQ.move rfl rfl) rfl rfl rfl ?_
        refine RegL.q (OpQ.fieldAddr rfl f_36_0 rfl) rfl rfl rfl ?_
        refine RegL.op (OpL.loadS1 rfl ag_31 sz_31 rfl rfl rfl) rfl rfl rfl ?_
        refine RegL.q (OpQ.lenSl rfl rfl rfl rfl u_31 rfl) rfl rfl rfl ?_
        refine RegL.q (OpQ.int2 rfl u_3 rfl rfl rfl rfl) rfl rfl rfl ?_
        refine RegL.done ?_
        refine EvtL.cond rfl (fun g3 => ?_) (fun g3 => ?_)
        have h3 := of_decide_eq_true g3
        refine EvtL.skip ?_
        refine EvtL.seq ?_
        refine EvtL.block ?_
        refine EvtL.seqDrawN (by kernel_rfl) ?_
        refine RegN.qG (OpQ.fieldAddr rfl f_36_0 rfl) (.inl rfl) rfl rfl ?_
        refine RegN.loadS1 rfl ag_31 sz_31 rfl rfl rfl (by kernel_rfl) (.inl rfl) rfl rfl ?_
        refine RegN.qG (OpQ.move rfl rfl) (.inl rfl) rfl rfl ?_
        refine RegN.qG (OpQ.indexAddrV rfl u_31 sz_34 rfl rfl (by assumption)) (.inl rfl) rfl rfl ?_
        refine RegN.qG (OpQ.loadI rfl rfl ag_34 sz_34 (Nat.le_of_ble_eq_true rfl)) (.inl rfl) rfl rfl ?_
        refine RegN.qG (OpQ.fieldAddr rfl f_36_0 rfl) (.inl rfl) rfl rfl ?_
        refine RegN.loadS1 rfl ag_31 sz_31 rfl rfl rfl (by kernel_rfl) (.inl rfl) rfl rfl ?_
        refine RegN.qG (OpQ.move rfl rfl) (.inl rfl) rfl rfl ?_
        refine RegN.qG (OpQ.indexAddrV rfl u_31 sz_34 rfl rfl (by assumption)) (.inl rfl) rfl rfl ?_
        refine RegN.qG (OpQ.loadI rfl rfl ag_34 sz_34 (Nat.le_of_ble_eq_true rfl)) (.inl rfl) rfl rfl ?_
        refine RegN.aG (OpA.callFn rfl rfl (by kernel_rfl) rfl (hit_51)) (.inl rfl) rfl rfl ?_
        refine RegN.qG (OpQ.assign rfl rfl) (.inl rfl) rfl rfl ?_
        refine RegN.done ?_
        refine EvtL.seqReg ?_
        refine RegL.q (OpQ.move rfl rfl) rfl rfl rfl ?_
        refine RegL.q (OpQ.int2 rfl u_3 rfl rfl rfl rfl) rfl rfl rfl ?_
        refine RegL.done ?_
        refine EvtL.cond rfl (fun g4 => ?_) (fun g4 => ?_)
        have h4 := nT g4
        refine EvtL.seqReg ?_
        refine RegL.q (OpQ.move rfl rfl) rfl rfl rfl ?_
        refine RegL.q (OpQ.assign rfl rfl) rfl rfl rfl ?_
        refine RegL.done ?_
        refine EvtL.ret ⟨.inl rfl, rfl, rfl, rfl, _, _, _, (res_tmp rfl rfl), rfl, rfl, ?_⟩
        rotate_left
        have h4 := nF g4
        refine EvtL.skip ?_
        refine EvtL.reg ?_
        refine RegL.q (OpQ.move rfl rfl) rfl rfl rfl ?_
        refine RegL.q (OpQ.addN (b := 1) rfl u_3 rfl rfl (by first | assumption | omega | (simp only [List.length_append, List.length_cons, List.length_nil, List.length_take, List.length_drop]; omega))) rfl rfl rfl ?_
        refine RegL.q (OpQ.assign rfl rfl) rfl rfl rfl ?_
        refine RegL.done ?_
        rotate_left
        have h3 := of_decide_eq_false g3
        exact absurd h3 (by omega)
      · rw [hend, ho, hd, hd2]
        show _ = AV.int .i64 (if _ then _ else _)
        rw [if_neg (by assumption)]; rfl
      · exact ⟨i + 1, ⟨h9, by
          rw [ho, hd, hd2]
          show (if _ then _ else _) = _
          rw [if_pos (by assumption)]⟩, by show v.length - (i + 1) < v.length - i; omega, rfl, rfl, by (refine Am.sub_of ?_; repeat (first | exact trivial | refine ⟨rfl, ?_⟩))⟩
    · focus
        refine EvtL.seq ?_
        refine EvtL.seqReg ?_
        refine RegL.q (OpQ.move rfl rfl) rfl rfl rfl ?_
        refine RegL.q (OpQ.fieldAddr rfl f_36_0 rfl) rfl rfl rfl ?_
        refine RegL.op (OpL.loadS1 rfl ag_31 sz_31 rfl rfl rfl) rfl rfl rfl ?_
        refine RegL.q (OpQ.lenSl rfl rfl rfl rfl u_31 rfl) rfl rfl rfl ?_
        refine RegL.q (OpQ.int2 rfl u_3 rfl rfl rfl rfl) rfl rfl rfl ?_
        refine RegL.done ?_
        refine EvtL.cond rfl (fun g3 => ?_) (fun g3 => ?_)
        have h3 := of_decide_eq_true g3
        exact absurd h3 (by omega)
        have h3 := of_decide_eq_false g3
        refine EvtL.exit ?_
        refine cond_t rfl ?_
        refine EvtL.seqReg ?_
        refine RegL.q (OpQ.assign rfl rfl) rfl rfl rfl ?_
        refine RegL.done ?_
        refine EvtL.ret ⟨.inl rfl, rfl, rfl, rfl, _, _, _, (res_tmp rfl rfl), rfl, rfl, ?_⟩
        rotate_left
      rw [hend, ho, List.drop_eq_nil_of_le (by omega), List.drop_eq_nil_of_le (by omega)]; rfl
noncomputable def K9 := addC K8 27 encOr resOr
theorem all9 (h : Given) : KnownAll Tryz.prog K9 := addC_allI h.ins (all8 h) (fun p => orderR_to p.1.1 p.1.2 p.2.1 p.2.2) (fun _ => rfl) (fun _ => rfl)
theorem hit_27 {a b : AnsT} (ha : SlimA a) (hb : SlimA b) : K9 27 [.agg (encAn a), .agg (encAn b)] = some (.int .i64 (ordA a b)) := addC_hit (enc := encOr) (res := resOr) (fun a b h => by rw [encOr_inj a b h]) ⟨(a, b), ha, hb⟩
end Go.Proofs.YtlclpmbeaofohaaGreat.So

/- The document sorts answers. -/
open Go Am
namespace Go.Proofs.YtlclpmbeaofohaaGreat.So
theorem grown_load {K : FuncId → List AV → Option AV} {st : St} {v : AV} {L : List AnsT} (h : Grown st 36 4 v (L.flatMap encAn) L.length) {k : Nat} (hk : k < L.length) : ∃ b, v = .slice b 0 L.length 4 none ∧ b < st.next ∧ st.heap.get b = some (.cells (L.flatMap encAn) 36 true) ∧ loadC (EK K) 36 st (.ptr b (0 + k * (3 + 1))) = some (.agg (encAn L[k])) := by
  rcases h with ⟨_, hn, _⟩ | ⟨b, rfl, hb, hg, _, _⟩
  · omega
  · exact ⟨b, rfl, hb, hg, load_an hg hk⟩
theorem sortedR_to (e : EndT) (he : SlimE e) : CallTo (EK K9) 8 [.agg (encE e)] S0 (lstAn (sortA (ansOf e))) := by
  obtain ⟨outs, lk, fa, wa, lo, op⟩ := e
  obtain ⟨he1, he2⟩ := he
  have he1 : outs.length ≤ 4000 := he1
  unfold encE
  refine CallTo.s0 (fn := Tryz.f8) rfl rfl (by kernel_rfl) rfl rfl rfl rfl ?_
  refine EvtL.seqReg ?_
  refine RegL.op (OpL.boxS 1 rfl rfl rfl rfl) rfl rfl rfl ?_
  refine RegL.q (OpQ.assign rfl rfl) rfl rfl rfl ?_
  refine RegL.done ?_
  refine EvtL.seqReg ?_
  refine RegL.q (OpQ.assign rfl rfl) rfl rfl rfl ?_
  refine RegL.done ?_
  refine EvtL.seq ?_
  refine EvtL.seqReg ?_
  refine RegL.q (OpQ.assign rfl rfl) rfl rfl rfl ?_
  refine RegL.done ?_
  refine EvtL.block ?_
  refine EvtL.loopI (fun x : Nat × AV × St => ([(4, .int .i64 (x.1 : Nat)), (1, .ptr 0 0), (3, x.2.1)], x.2.2)) (fun x => outs.length - x.1)
    (fun x => x.1 ≤ outs.length ∧ Grown x.2.2 36 4 x.2.1 ((sortA ((outs.map OutT.ans).take x.1)).flatMap encAn) (sortA ((outs.map OutT.ans).take x.1)).length ∧ x.2.2.bound = 0 ∧ x.2.2.log = [] ∧ 0 < x.2.2.next ∧ ownB 0 x.2.1 = false ∧
      x.2.2.heap.get 0 = some (.cells [recs encO 6 outs, .int .i64 lk, .int .i64 fa, .int .i64 wa, .int .i64 lo, .int .i64 op] 24 false)) (0, .nilslice, _) ⟨Nat.zero_le _, Grown.nil _ _ _, rfl, rfl, Nat.one_pos, rfl, rfl⟩ rfl (by (refine Am.sub_of ?_; repeat (first | exact trivial | refine ⟨rfl, ?_⟩))) ?_
  rintro ⟨i, v, st⟩ ⟨hi, hg, hb, hl, hn0, hv0, h00⟩
  dsimp only at hi hg hb hl hn0 hv0 h00 ⊢
  by_cases h : i < outs.length
  · have hid := recs_idx encO_len h
    have hlm : i < (outs.map OutT.ans).length := by rw [List.length_map]; exact h
    have hx : SlimA outs[i].ans := he2 _ (List.mem_map_of_mem (List.getElem_mem h))
    obtain ⟨s1, s2, s3⟩ := sort_inv (outs.map OutT.ans) i (Nat.le_of_lt hlm)
    have hsucc := sort_succ hlm
    rw [List.getElem_map] at hsucc
    generalize hL : sortA ((outs.map OutT.ans).take i) = L at *
    have hsl : ∀ a ∈ L, SlimA a := fun a ha => he2 a (s3 a ha)
    obtain ⟨c1, c2, c3, c4, c5, c6, c7⟩ := copied (st := st) (z := [.nilslice, .int .i64 0, .int .i64 0, .nilslice]) (cs := encAn outs[i].ans) (T := 36)
    have hg2 : Grown ((st.alloc (.cells [.nilslice, .int .i64 0, .int .i64 0, .nilslice] 36 false)).put st.next (some (.cells (encAn outs[i].ans) 36 false))) 36 4 v (L.flatMap encAn) L.length := hg.keep (by rw [c7]; omega) fun c hc => c4 c (hg.own hc)
    have h02 := (c4 0 hn0).trans h00
    have hl2 := (c6 (by omega)).trans hl
    have hb2 := c5.trans hb
    have hlen := hg.len
    have hnx : st.next < ((st.alloc (.cells [.nilslice, .int .i64 0, .int .i64 0, .nilslice] 36 false)).put st.next (some (.cells (encAn outs[i].ans) 36 false))).next := by rw [c7]; omega
    have hfl := first_le outs[i].ans L
    have hvn : ownB st.next v = false := by
      cases ho : ownB st.next v with
      | false => rfl
      | true => have := hg.own ho; omega
    focus
      refine EvtL.seq ?_
      refine EvtL.seqReg ?_
      refine RegL.q (OpQ.move rfl rfl) rfl rfl rfl ?_
      refine RegL.q (OpQ.fieldAddr rfl f_24_0 rfl) rfl rfl rfl ?_
      refine RegL.op (OpL.load rfl rfl (loadOne_at ag_22 sz_22 (by assumption) rfl)) rfl rfl rfl ?_
      refine RegL.q (OpQ.lenSl rfl rfl rfl rfl u_22 rfl) rfl rfl rfl ?_
      refine RegL.q (OpQ.int2 rfl u_3 rfl rfl rfl rfl) rfl rfl rfl ?_
      refine RegL.done ?_
      refine EvtL.cond rfl (fun g1 => ?_) (fun g1 => ?_)
      have h1 := of_decide_eq_true g1
      refine EvtL.skip ?_
      refine EvtL.seq ?_
      refine EvtL.block ?_
      refine EvtL.seqReg ?_
      refine RegL.q (OpQ.fieldAddr rfl f_24_0 rfl) rfl rfl rfl ?_
      refine RegL.op (OpL.load rfl rfl (loadOne_at ag_22 sz_22 (by assumption) rfl)) rfl rfl rfl ?_
      refine RegL.q (OpQ.move rfl rfl) rfl rfl rfl ?_
      refine RegL.q (OpQ.indexAddrV rfl u_22 sz_38 rfl rfl (by assumption)) rfl rfl rfl ?_
      refine RegL.q (OpQ.fieldAddrI rfl f_38_1 rfl (Nat.le_of_ble_eq_true rfl)) rfl rfl rfl ?_
      refine RegL.q (OpQ.loadI rfl rfl ag_36 sz_36 (Nat.le_of_ble_eq_true rfl)) rfl rfl rfl ?_
      refine RegL.op (OpL.alloc rfl z_36) rfl rfl rfl ?_
      refine RegL.opN (OpL.store rfl sz_36 rfl rfl (storeN_at (by assumption) rfl rfl rfl)) rfl rfl ?_
      refine RegL.done ?_
      refine EvtL.seqReg ?_
      refine RegL.q (OpQ.assign rfl rfl) rfl rfl rfl ?_
      refine RegL.done ?_
      rotate_left
      have h1 := of_decide_eq_false g1
      exact absurd h1 (by omega)
    refine EvtL.seq (EvtL.cutEX (fun S : St => ([(6, .int .i64 (firstA outs[i].ans L : Nat)), (4, .int .i64 (i : Nat)), (1, .ptr 0 0), (3, v), (5, .ptr st.next 0)], S))
      (fun S => Grown S 36 4 v (L.flatMap encAn) L.length ∧ S.heap.get st.next = some (.cells (encAn outs[i].ans) 36 false) ∧ S.bound = 0 ∧ S.log = [] ∧ st.next < S.next ∧
        S.heap.get 0 = some (.cells [recs encO 6 outs, .int .i64 lk, .int .i64 fa, .int .i64 wa, .int .i64 lo, .int .i64 op] 24 false)) ?_ ?_)
    · refine EvtL.block ?_
      refine EvtL.loopI (fun x : Nat × St => ([(6, .int .i64 (x.1 : Nat)), (4, .int .i64 (i : Nat)), (1, .ptr 0 0), (3, v), (5, .ptr st.next 0)], x.2)) (fun x => L.length - x.1)
        (fun x => x.1 ≤ firstA outs[i].ans L ∧ Grown x.2 36 4 v (L.flatMap encAn) L.length ∧ x.2.heap.get st.next = some (.cells (encAn outs[i].ans) 36 false) ∧ x.2.bound = 0 ∧ x.2.log = [] ∧ st.next < x.2.next ∧
          x.2.heap.get 0 = some (.cells [recs encO 6 outs, .int .i64 lk, .int .i64 fa, .int .i64 wa, .int .i64 lo, .int .i64 op] 24 false)) (0, _) ⟨Nat.zero_le _, hg2, c2, hb2, hl2, hnx, h02⟩ rfl (by (refine Am.sub_of ?_; repeat (first | exact trivial | refine ⟨rfl, ?_⟩))) ?_
      clear c1 c2 c3 c4 c5 c6 c7 hg2 h02 hl2 hb2 hnx
      rintro ⟨k, S⟩ ⟨hk, hg2, c2, hb2, hl2, hnx, h02⟩
      dsimp only at hk hg2 c2 hb2 hl2 hnx h02 ⊢
      by_cases h9 : k < L.length
      · obtain ⟨b, rfl, hbn, hgb, hld⟩ := grown_load (K := K9) hg2 h9
        have hit_27 := hit_27 (hsl _ (List.getElem_mem h9)) hx
        focus
          refine EvtL.seq ?_
          refine EvtL.seqDrawN (by kernel_rfl) ?_
          refine RegN.qG (OpQ.move rfl rfl) (.inl rfl) rfl rfl ?_
          refine RegN.qG (OpQ.move rfl rfl) (.inl rfl) rfl rfl ?_
          refine RegN.qG (OpQ.lenSlM rfl rfl rfl rfl u_27 rfl) (.inl rfl) rfl rfl ?_
          refine RegN.qG (OpQ.int2 rfl u_3 rfl rfl rfl rfl) (.inl rfl) rfl rfl ?_
          refine RegN.qG (OpQ.move rfl rfl) (.inl rfl) rfl rfl ?_
          refine RegN.both rfl rfl rfl rfl (fun g2 => ?_) (fun g2 => ?_)
          have h2 := of_decide_eq_true g2
          refine RegN.qG (OpQ.move rfl rfl) (guardOn_go rfl rfl rfl rfl (by assumption)) rfl rfl ?_
          refine RegN.qG (OpQ.move rfl rfl) (guardOn_go rfl rfl rfl rfl (by assumption)) rfl rfl ?_
          refine RegN.qG (OpQ.indexAddrM rfl u_27 sz_36 rfl rfl (by first | assumption | omega | (simp only [List.length_append, List.length_cons, List.length_nil, List.length_take, List.length_drop]; omega))) (guardOn_go rfl rfl rfl rfl (by assumption)) rfl rfl ?_
          refine RegN.load rfl rfl (by assumption) rfl (guardOn_go rfl rfl rfl rfl (by assumption)) rfl rfl ?_
          refine RegN.load rfl rfl (loadAgg_at ag_36 sz_36 (by assumption) (Nat.le_of_ble_eq_true rfl)) rfl (guardOn_go rfl rfl rfl rfl (by assumption)) rfl rfl ?_
          refine RegN.aG (OpA.callFn rfl rfl (by kernel_rfl) rfl (hit_27)) (guardOn_go rfl rfl rfl rfl (by assumption)) rfl rfl ?_
          refine RegN.qG (OpQ.int2 rfl u_3 rfl rfl rfl rfl) (guardOn_go rfl rfl rfl rfl (by assumption)) rfl rfl ?_
          refine RegN.qG (OpQ.pickT rfl rfl (by assumption) rfl) (.inl rfl) rfl rfl ?_
          refine RegN.done ?_
          refine EvtL.cond rfl (fun g3 => ?_) (fun g3 => ?_)
          have h3 := of_decide_eq_true g3
          refine EvtL.skip ?_
          refine EvtL.block ?_
          refine EvtL.reg ?_
          refine RegL.q (OpQ.move rfl rfl) rfl rfl rfl ?_
          refine RegL.q (OpQ.addN (b := 1) rfl u_3 rfl rfl (by first | assumption | omega | (simp only [List.length_append, List.length_cons, List.length_nil, List.length_take, List.length_drop]; omega))) rfl rfl rfl ?_
          refine RegL.q (OpQ.assign rfl rfl) rfl rfl rfl ?_
          refine RegL.done ?_
          rotate_left
          have h3 := of_decide_eq_false g3
          refine EvtL.exit ?_
          refine cond_t rfl ?_
          rotate_left
          have h2 := of_decide_eq_false g2
          exact absurd h2 (by omega)
        · have hlt : k < firstA outs[i].ans L := by
            rcases Nat.lt_or_eq_of_le hk with h | e
            · exact h
            · subst e
              exact absurd (by assumption) (first_at h9)
          exact ⟨(k + 1, S), ⟨hlt, hg2, c2, hb2, hl2, hnx, h02⟩, by show L.length - (k + 1) < L.length - k; omega, rfl, rfl, by (refine Am.sub_of ?_; repeat (first | exact trivial | refine ⟨rfl, ?_⟩))⟩
        · obtain e : k = firstA outs[i].ans L := by
            rcases Nat.lt_or_eq_of_le hk with h | e
            · exact absurd (first_lt h9 h) (by assumption)
            · exact e
          subst e
          exact ⟨rfl, S, ⟨hg2, c2, hb2, hl2, hnx, h02⟩, rfl, by (refine Am.sub_of ?_; repeat (first | exact trivial | refine ⟨rfl, ?_⟩))⟩
      · focus
          refine EvtL.seq ?_
          refine EvtL.seqDrawN (by kernel_rfl) ?_
          refine RegN.qG (OpQ.move rfl rfl) (.inl rfl) rfl rfl ?_
          refine RegN.qG (OpQ.move rfl rfl) (.inl rfl) rfl rfl ?_
          refine RegN.qG (OpQ.lenV rfl rfl rfl rfl u_27 rfl (by assumption)) (.inl rfl) rfl rfl ?_
          refine RegN.qG (OpQ.int2 rfl u_3 rfl rfl rfl rfl) (.inl rfl) rfl rfl ?_
          refine RegN.qG (OpQ.move rfl rfl) (.inl rfl) rfl rfl ?_
          refine RegN.both rfl rfl rfl rfl (fun g2 => ?_) (fun g2 => ?_)
          have h2 := of_decide_eq_true g2
          exact absurd h2 (by omega)
          have h2 := of_decide_eq_false g2
          refine RegN.skip rfl rfl rfl rfl (by assumption) rfl rfl ?_
          refine RegN.skip rfl rfl rfl rfl (by assumption) rfl rfl ?_
          refine RegN.skip rfl rfl rfl rfl (by assumption) rfl rfl ?_
          refine RegN.skip rfl rfl rfl rfl (by assumption) rfl rfl ?_
          refine RegN.skip rfl rfl rfl rfl (by assumption) rfl rfl ?_
          refine RegN.skip rfl rfl rfl rfl (by assumption) rfl rfl ?_
          refine RegN.skip rfl rfl rfl rfl (by assumption) rfl rfl ?_
          refine RegN.qG (OpQ.pickF rfl rfl (by assumption) rfl) (.inl rfl) rfl rfl ?_
          refine RegN.done ?_
          refine EvtL.condF rfl rfl ?_
          refine EvtL.exit ?_
          refine cond_t rfl ?_
          rotate_left
        obtain e : k = firstA outs[i].ans L := by omega
        subst e
        exact ⟨rfl, S, ⟨hg2, c2, hb2, hl2, hnx, h02⟩, rfl, by (refine Am.sub_of ?_; repeat (first | exact trivial | refine ⟨rfl, ?_⟩))⟩
    · rintro S ⟨hg3, c3, hb3, hl3, hn3, h03⟩
      dsimp only
      skip
      refine EvtL.seq (EvtL.cutEX (fun b : Bool => ([(47, .bool b), (6, .int .i64 (firstA outs[i].ans L : Nat)), (4, .int .i64 (i : Nat)), (1, .ptr 0 0), (3, v), (5, .ptr st.next 0)], S)) (fun b => b = !metA L outs[i].ans) ?_ ?_)
      · by_cases h9 : firstA outs[i].ans L < L.length
        · obtain ⟨b, rfl, hbn, hgb, hld⟩ := grown_load (K := K9) hg3 h9
          have hit_27 := hit_27 (hsl _ (List.getElem_mem h9)) hx
          focus
            refine EvtL.drawN (by kernel_rfl) ?_
            refine RegN.qG (OpQ.move rfl rfl) (.inl rfl) rfl rfl ?_
            refine RegN.qG (OpQ.move rfl rfl) (.inl rfl) rfl rfl ?_
            refine RegN.qG (OpQ.lenSlM rfl rfl rfl rfl u_27 rfl) (.inl rfl) rfl rfl ?_
            refine RegN.qG (OpQ.int2 rfl u_3 rfl rfl rfl rfl) (.inl rfl) rfl rfl ?_
            refine RegN.qG (OpQ.move rfl rfl) (.inl rfl) rfl rfl ?_
            refine RegN.both rfl rfl rfl rfl (fun g2 => ?_) (fun g2 => ?_)
            have h2 := of_decide_eq_true g2
            exact absurd h2 (by omega)
            have h2 := of_decide_eq_false g2
            refine RegN.qG (OpQ.move rfl rfl) (guardOn_go rfl rfl rfl rfl (by assumption)) rfl rfl ?_
            refine RegN.qG (OpQ.move rfl rfl) (guardOn_go rfl rfl rfl rfl (by assumption)) rfl rfl ?_
            refine RegN.qG (OpQ.indexAddrM rfl u_27 sz_36 rfl rfl (by first | assumption | omega | (simp only [List.length_append, List.length_cons, List.length_nil, List.length_take, List.length_drop]; omega))) (guardOn_go rfl rfl rfl rfl (by assumption)) rfl rfl ?_
            refine RegN.load rfl rfl (by assumption) rfl (guardOn_go rfl rfl rfl rfl (by assumption)) rfl rfl ?_
            refine RegN.load rfl rfl (loadAgg_at ag_36 sz_36 (by assumption) (Nat.le_of_ble_eq_true rfl)) rfl (guardOn_go rfl rfl rfl rfl (by assumption)) rfl rfl ?_
            refine RegN.aG (OpA.callFn rfl rfl (by kernel_rfl) rfl (hit_27)) (guardOn_go rfl rfl rfl rfl (by assumption)) rfl rfl ?_
            refine RegN.qG (OpQ.int2 rfl u_3 rfl rfl rfl rfl) (guardOn_go rfl rfl rfl rfl (by assumption)) rfl rfl ?_
            refine RegN.qG (OpQ.pickF rfl rfl (by assumption) rfl) (.inl rfl) rfl rfl ?_
            refine RegN.done ?_
            rotate_left
          exact ⟨rfl, _, by rw [met_at h9], rfl, by (refine Am.sub_of ?_; repeat (first | exact trivial | refine ⟨rfl, ?_⟩))⟩
        · focus
            refine EvtL.drawN (by kernel_rfl) ?_
            refine RegN.qG (OpQ.move rfl rfl) (.inl rfl) rfl rfl ?_
            refine RegN.qG (OpQ.move rfl rfl) (.inl rfl) rfl rfl ?_
            refine RegN.qG (OpQ.lenV rfl rfl rfl rfl u_27 rfl (by assumption)) (.inl rfl) rfl rfl ?_
            refine RegN.qG (OpQ.int2 rfl u_3 rfl rfl rfl rfl) (.inl rfl) rfl rfl ?_
            refine RegN.qG (OpQ.move rfl rfl) (.inl rfl) rfl rfl ?_
            refine RegN.both rfl rfl rfl rfl (fun g2 => ?_) (fun g2 => ?_)
            have h2 := of_decide_eq_true g2
            refine RegN.skip rfl rfl rfl rfl (by assumption) rfl rfl ?_
            refine RegN.skip rfl rfl rfl rfl (by assumption) rfl rfl ?_
            refine RegN.skip rfl rfl rfl rfl (by assumption) rfl rfl ?_
            refine RegN.skip rfl rfl rfl rfl (by assumption) rfl rfl ?_
            refine RegN.skip rfl rfl rfl rfl (by assumption) rfl rfl ?_
            refine RegN.skip rfl rfl rfl rfl (by assumption) rfl rfl ?_
            refine RegN.skip rfl rfl rfl rfl (by assumption) rfl rfl ?_
            refine RegN.qG (OpQ.pickT rfl rfl (by assumption) rfl) (.inl rfl) rfl rfl ?_
            refine RegN.done ?_
            rotate_left
            have h2 := of_decide_eq_false g2
            exact absurd h2 (by omega)
          exact ⟨rfl, true, by rw [met_end (by omega)]; rfl, rfl, by (refine Am.sub_of ?_; repeat (first | exact trivial | refine ⟨rfl, ?_⟩))⟩
      · rintro b rfl
        dsimp only
        focus
          refine EvtL.cond rfl (fun g2 => ?_) (fun g2 => ?_)
          have h2 := notT g2
          refine EvtL.drawN (by kernel_rfl) ?_
          refine RegN.qG (OpQ.move rfl rfl) (.inl rfl) rfl rfl ?_
          refine RegN.qG (OpQ.move rfl rfl) (.inl rfl) rfl rfl ?_
          rotate_left
          have h2 := notF g2
          refine EvtL.skip ?_
          refine EvtL.reg ?_
          refine RegL.q (OpQ.move rfl rfl) rfl rfl rfl ?_
          refine RegL.q (OpQ.addN (b := 1) rfl u_3 rfl rfl (by first | assumption | omega | (simp only [List.length_append, List.length_cons, List.length_nil, List.length_take, List.length_drop]; omega))) rfl rfl rfl ?_
          refine RegL.q (OpQ.assign rfl rfl) rfl rfl rfl ?_
          refine RegL.done ?_
          rotate_left
        · obtain ⟨p1, hp1⟩ := hg3.cutTo (by decide) hfl
          obtain ⟨p2, hp2⟩ := hg3.cutFrom (by decide) hfl
          obtain ⟨q1, q2⟩ := flat_take hfl
          rw [q1] at hp1
          rw [q2] at hp2
          refine RegN.sliceG hg3 rfl u_27 sz_36 rfl rfl rfl (fun s' hs => (hp1 s' hs).1) (fun b _ => rfl) (.inl rfl) rfl rfl ?_
          refine RegN.growAll (m := firstA outs[i].ans L) (Grown.nil S 36 4) hb3 (by rw [len_an, List.length_take, Nat.min_eq_left hfl]) (by decide) (small_ok (by omega) (by decide)) rfl rfl rfl rfl u_27 sz_36 by_36 z_36 (by kernel_rfl) (by kernel_rfl) rfl rfl (hp1 (S.sub S.heap) (fun _ _ => rfl)).2 (by kernel_rfl) rfl (.inl rfl) rfl rfl ?_
          intro v1 S1 n1 gr1 ow1 nx1 bd1 lg1 hh1 nw1
          have c31 := (hh1 st.next hn3 rfl).trans c3
          refine RegN.load rfl rfl (loadAgg_at ag_36 sz_36 c31 (by rw [encAn_len]; decide)) (nw1.clear rfl hn3 rfl) (.inl rfl) rfl rfl ?_
          refine RegN.buildSlice rfl u_27 sz_36 z_36 rfl rfl rfl (.inl rfl) rfl rfl ?_
          rw [List.nil_append, Nat.zero_add] at gr1
          have o1 : ∀ c, c < S.next → ownB c v1 = false := fun c hc => by
            cases ho : ownB c v1 with
            | false => rfl
            | true =>
              rcases ow1 c ho with h | h
              · cases h
              · omega
          have grA : Grown (S1.alloc (.cells (encAn outs[i].ans) 36 false)) 36 4 v1 ((L.take (firstA outs[i].ans L)).flatMap encAn) (firstA outs[i].ans L) := gr1.keep (Nat.le_succ _) fun c hc => get_old (gr1.own hc)
          refine RegN.growAll (m := 1) (new := encAn outs[i].ans) grA bd1 rfl (by decide) (small_ok (by omega) (by decide)) rfl rfl rfl rfl u_27 sz_36 by_36 z_36 (by kernel_rfl) (by kernel_rfl) rfl rfl (appended_new (e := 36) (part := false) get_new rfl) (by kernel_rfl) (by rw [List.all_cons, nw1.all rfl (by kernel_rfl)]; kernel_rfl) (.inl rfl) rfl rfl ?_
          intro v2 S2 n2 gr2 ow2 nx2 bd2 lg2 hh2 nw2
          have nx3 : S.next < S2.next := Nat.lt_of_le_of_lt nx1 nx2
          have o2 : ∀ c, c < S.next → ownB c v2 = false := fun c hc => by
            cases ho : ownB c v2 with
            | false => rfl
            | true =>
              rcases ow2 c ho with h | h
              · rw [o1 c hc] at h; cases h
              · have h : c = S1.next + 1 := h
                omega
          have hs2 : ∀ c, c < S.next → S2.heap.get c = S.heap.get c := fun c hc => (hh2 c (Nat.lt_succ_of_lt (Nat.lt_of_lt_of_le hc nx1)) (o1 c hc)).trans ((get_old (Nat.lt_of_lt_of_le hc nx1)).trans (hh1 c hc rfl))
          refine RegN.qG (OpQ.move rfl rfl) (.inl rfl) rfl rfl ?_
          refine RegN.qG (OpQ.move rfl rfl) (.inl rfl) rfl rfl ?_
          have grB : Grown S2 36 4 v (L.flatMap encAn) L.length := hg3.keep (Nat.le_of_lt nx3) fun c hc => hs2 c (hg3.own hc)
          refine RegN.sliceG grB rfl u_27 sz_36 rfl rfl rfl (fun s' hs => (hp2 s' fun c hc => (hs c hc).trans (hs2 c (hg3.own hc))).1) (fun b hb => nw2.clear (clear_ne (Nat.ne_of_lt (Nat.lt_of_lt_of_le (hg3.own hb) nx1)) (nw1.clear rfl (hg3.own hb) rfl)) (Nat.lt_succ_of_lt (Nat.lt_of_lt_of_le (hg3.own hb) nx1)) (o1 b (hg3.own hb))) (.inl rfl) rfl rfl ?_
          refine RegN.growAll (m := L.length - firstA outs[i].ans L) gr2 bd2 (by rw [len_an, List.length_drop]) (by decide) (small_ok (by omega) (by decide)) rfl rfl rfl rfl u_27 sz_36 by_36 z_36 (by kernel_rfl) (by kernel_rfl) rfl rfl (hp2 (S2.sub S2.heap) (fun c hc => hs2 c (hg3.own hc))).2 (by kernel_rfl) (nw2.all (by rw [List.all_cons, nw1.all rfl (by kernel_rfl)]; kernel_rfl) (by kernel_rfl)) (.inl rfl) rfl rfl ?_
          intro v4 S4 n4 gr4 ow4 nx4 bd4 lg4 hh4 nw4
          refine RegN.qG (OpQ.assign rfl rfl) (.inl rfl) rfl rfl ?_
          refine RegN.done ?_
          refine EvtL.reg ?_
          refine RegL.q (OpQ.move rfl rfl) rfl rfl rfl ?_
          refine RegL.q (OpQ.addN (b := 1) rfl u_3 rfl rfl (by first | assumption | omega | (simp only [List.length_append, List.length_cons, List.length_nil, List.length_take, List.length_drop]; omega))) rfl rfl rfl ?_
          refine RegL.q (OpQ.assign rfl rfl) rfl rfl rfl ?_
          refine RegL.done ?_
          have hins : insA L outs[i].ans = L.take (firstA outs[i].ans L) ++ outs[i].ans :: L.drop (firstA outs[i].ans L) := if_neg (by rw [h2]; decide)
          refine ⟨(i + 1, v4, S4), ?_, ?_, rfl, rfl, by (refine Am.sub_of ?_; repeat (first | exact trivial | refine ⟨rfl, ?_⟩))⟩
          · refine ⟨h, ?_, bd4, lg4.trans (lg2.trans (lg1.trans hl3)), by dsimp only; omega, ?_, (hh4 0 (by omega) (o2 0 (by omega))).trans ((hs2 0 (by omega)).trans h03)⟩
            · dsimp only
              rw [hsucc, hins, List.flatMap_append, List.flatMap_cons, ← List.append_assoc, List.length_append, List.length_cons, List.length_take, List.length_drop,
                show min (firstA outs[i].ans L) L.length + (L.length - firstA outs[i].ans L + 1) = firstA outs[i].ans L + 1 + (L.length - firstA outs[i].ans L) by omega]
              exact gr4
            · cases ho : ownB 0 v4 with
              | false => rfl
              | true =>
                rcases ow4 0 ho with h | h
                · rw [o2 0 (by omega)] at h; cases h
                · omega
          · show outs.length - (i + 1) < outs.length - i; omega
        · have hins : insA L outs[i].ans = L := if_pos h2
          refine ⟨(i + 1, v, S), ?_, ?_, rfl, rfl, by (refine Am.sub_of ?_; repeat (first | exact trivial | refine ⟨rfl, ?_⟩))⟩
          · exact ⟨h, by dsimp only; rw [hsucc, hins]; exact hg3, hb3, hl3, by dsimp only; omega, hv0, h03⟩
          · show outs.length - (i + 1) < outs.length - i; omega
  · focus
      refine EvtL.seq ?_
      refine EvtL.seqReg ?_
      refine RegL.q (OpQ.move rfl rfl) rfl rfl rfl ?_
      refine RegL.q (OpQ.fieldAddr rfl f_24_0 rfl) rfl rfl rfl ?_
      refine RegL.op (OpL.load rfl rfl (loadOne_at ag_22 sz_22 (by assumption) rfl)) rfl rfl rfl ?_
      refine RegL.q (OpQ.lenSl rfl rfl rfl rfl u_22 rfl) rfl rfl rfl ?_
      refine RegL.q (OpQ.int2 rfl u_3 rfl rfl rfl rfl) rfl rfl rfl ?_
      refine RegL.done ?_
      refine EvtL.cond rfl (fun g1 => ?_) (fun g1 => ?_)
      have h1 := of_decide_eq_true g1
      exact absurd h1 (by omega)
      have h1 := of_decide_eq_false g1
      refine EvtL.exit ?_
      refine cond_t rfl ?_
      refine EvtL.seqReg ?_
      refine RegL.q (OpQ.move rfl rfl) rfl rfl rfl ?_
      refine RegL.q (OpQ.assign rfl rfl) rfl rfl rfl ?_
      refine RegL.done ?_
      rotate_left
    obtain rfl : i = outs.length := by omega
    rw [List.take_of_length_le (by rw [List.length_map]; omega)] at hg
    rcases hg with ⟨rfl, hn, _⟩ | ⟨b, rfl, hbn, hg, hln, h0⟩
    · refine EvtL.ret ⟨.inl rfl, rfl, hl, hb, _, _, _, res_tmp rfl rfl, rfl, rfl, ?_⟩
      rw [show sortA (ansOf ⟨outs, lk, fa, wa, lo, op⟩) = [] from List.eq_nil_of_length_eq_zero hn]; rfl
    · refine EvtL.ret ⟨.inl rfl, rfl, hl, hb, _, _, _, res_tmp rfl rfl, frz_slice (Nat.zero_le _) hg hln (frz_ans _), ?_, ?_⟩
      · show (_ || _) = true
        rw [ans_closed]; rfl
      · rw [ans_closed]
        show _ = lstAn (sortA (outs.map OutT.ans))
        generalize sortA (outs.map OutT.ans) = L at *
        cases L with
        | nil => exact absurd rfl h0
        | cons a L => rfl
end Go.Proofs.YtlclpmbeaofohaaGreat.So

/- Terms, answers and lists of them are equal to themselves. -/
open Go Am
namespace Go.Proofs.YtlclpmbeaofohaaGreat.So
abbrev ScT := { t : TermT // sizeT t ≤ 5000 }
def encSc (t : ScT) : List AV := [.agg (encTm t.1), .agg (encTm t.1)]
def resTr {α : Type} (_ : α) : AV := .bool true
theorem encSc_inj (x y : ScT) (h : encSc x = encSc y) : x = y := Subtype.ext (encTm_inj _ _ (AV.agg.inj (List.cons.inj h).1))
noncomputable abbrev KE := lay K9 21 encSc resTr (fun p => deepT p.1)
theorem same_to (d : Nat) (t : TermT) (h : deepT t = d + 1) (hs : sizeT t ≤ 5000) (hx : KE d 21 [.agg (encTm t), .agg (encTm t)] = none) : CallTo (EK (KE d)) 21 [.agg (encTm t), .agg (encTm t)] S0 (.bool true) := by
  obtain ⟨o, n, ks⟩ := t
  have hdk : deepTs ks ≤ d := by have : deepTs ks + 1 = d + 1 := h; omega
  have hsz : sizeTs ks + 1 ≤ 5000 := hs
  have hlen := len_sizes ks
  rw [encTm_mk] at hx ⊢
  refine CallTo.s0 (fn := Tryz.f21) rfl hx (by kernel_rfl) rfl rfl rfl rfl ?_
  focus
    refine EvtL.seqReg ?_
    refine RegL.op (OpL.boxS 1 rfl rfl rfl rfl) rfl rfl rfl ?_
    refine RegL.op (OpL.boxS 2 rfl rfl rfl rfl) rfl rfl rfl ?_
    refine RegL.q (OpQ.assign rfl rfl) rfl rfl rfl ?_
    refine RegL.done ?_
    refine EvtL.seq ?_
    refine EvtL.seqReg ?_
    refine RegL.q (OpQ.fieldAddr rfl f_34_0 rfl) rfl rfl rfl ?_
    refine RegL.op (OpL.loadS1 rfl ag_32 sz_32 rfl rfl rfl) rfl rfl rfl ?_
    refine RegL.q (OpQ.fieldAddr rfl f_34_0 rfl) rfl rfl rfl ?_
    refine RegL.op (OpL.loadS1 rfl ag_32 sz_32 rfl rfl rfl) rfl rfl rfl ?_
    refine RegL.q (OpQ.int2 rfl u_32 rfl rfl rfl rfl) rfl rfl rfl ?_
    refine RegL.q (OpQ.move rfl rfl) rfl rfl rfl ?_
    refine RegL.both rfl rfl rfl rfl (fun g1 => ?_) (fun g1 => ?_)
    have h1 := nT g1
    exact absurd h1 (by omega)
    have h1 := nF g1
    refine RegL.go rfl rfl rfl rfl (by assumption) (OpL.q (OpQ.fieldAddr rfl f_34_1 rfl)) rfl rfl ?_
    refine RegL.go rfl rfl rfl rfl (by assumption) (OpL.loadS1 rfl ag_3 sz_3 rfl rfl rfl) rfl rfl ?_
    refine RegL.go rfl rfl rfl rfl (by assumption) (OpL.q (OpQ.fieldAddr rfl f_34_1 rfl)) rfl rfl ?_
    refine RegL.go rfl rfl rfl rfl (by assumption) (OpL.loadS1 rfl ag_3 sz_3 rfl rfl rfl) rfl rfl ?_
    refine RegL.go rfl rfl rfl rfl (by assumption) (OpL.q (OpQ.int2 rfl u_3 rfl rfl rfl rfl)) rfl rfl ?_
    refine RegL.q (OpQ.pickF rfl rfl (by assumption) rfl) rfl rfl rfl ?_
    refine RegL.q (OpQ.move rfl rfl) rfl rfl rfl ?_
    refine RegL.both rfl rfl rfl rfl (fun g2 => ?_) (fun g2 => ?_)
    have h2 := nT g2
    exact absurd h2 (by omega)
    have h2 := nF g2
    refine RegL.go rfl rfl rfl rfl (by assumption) (OpL.q (OpQ.fieldAddr rfl f_34_2 rfl)) rfl rfl ?_
    refine RegL.go rfl rfl rfl rfl (by assumption) (OpL.loadS1 rfl ag_31 sz_31 rfl rfl rfl) rfl rfl ?_
    refine RegL.go rfl rfl rfl rfl (by assumption) (OpL.q (OpQ.lenSl rfl rfl rfl rfl u_31 rfl)) rfl rfl ?_
    refine RegL.go rfl rfl rfl rfl (by assumption) (OpL.q (OpQ.fieldAddr rfl f_34_2 rfl)) rfl rfl ?_
    refine RegL.go rfl rfl rfl rfl (by assumption) (OpL.loadS1 rfl ag_31 sz_31 rfl rfl rfl) rfl rfl ?_
    refine RegL.go rfl rfl rfl rfl (by assumption) (OpL.q (OpQ.lenSl rfl rfl rfl rfl u_31 rfl)) rfl rfl ?_
    refine RegL.go rfl rfl rfl rfl (by assumption) (OpL.q (OpQ.int2 rfl u_3 rfl rfl rfl rfl)) rfl rfl ?_
    refine RegL.q (OpQ.pickF rfl rfl (by assumption) rfl) rfl rfl rfl ?_
    refine RegL.done ?_
    refine EvtL.cond rfl (fun g3 => ?_) (fun g3 => ?_)
    have h3 := nT g3
    exact absurd h3 (by omega)
    have h3 := nF g3
    refine EvtL.skip ?_
    refine EvtL.seq ?_
    refine EvtL.seqReg ?_
    refine RegL.q (OpQ.assign rfl rfl) rfl rfl rfl ?_
    refine RegL.done ?_
    refine EvtL.block ?_
    rotate_left
  refine EvtL.loopI (fun i : Nat => ([(5, .int .i64 (i : Nat)), (3, .ptr 1 0), (2, .ptr 0 0)], mkS 2 0 [] [(1, some (.cells [.int .i64 o, .int .i64 n, recs encTm 3 ks] 34 false)), (0, some (.cells [.int .i64 o, .int .i64 n, recs encTm 3 ks] 34 false))])) (fun i => ks.length - i)
    (fun i => i ≤ ks.length) 0 (Nat.zero_le _) rfl (by (refine Am.sub_of ?_; repeat (first | exact trivial | refine ⟨rfl, ?_⟩))) ?_
  rintro i hi
  dsimp only at hi ⊢
  by_cases h : i < ks.length
  · have hid := idx_tm h
    have hsk := size_kid (List.getElem_mem h)
    have hit_21 : KE d 21 [.agg (encTm ks[i]), .agg (encTm ks[i])] = some (.bool true) := lay_hit (res := resTr) (deep := fun p : ScT => deepT p.1) encSc_inj ⟨ks[i], by omega⟩ (Nat.le_trans (deep_kid (List.getElem_mem h)) hdk)
    rw [encTm_eq] at hit_21 hid
    focus
      refine EvtL.seq ?_
      refine EvtL.seqReg ?_
      refine RegL.q (OpQ.move rfl rfl) rfl rfl rfl ?_
      refine RegL.q (OpQ.fieldAddr rfl f_34_2 rfl) rfl rfl rfl ?_
      refine RegL.op (OpL.loadS1 rfl ag_31 sz_31 rfl rfl rfl) rfl rfl rfl ?_
      refine RegL.q (OpQ.lenSl rfl rfl rfl rfl u_31 rfl) rfl rfl rfl ?_
      refine RegL.q (OpQ.int2 rfl u_3 rfl rfl rfl rfl) rfl rfl rfl ?_
      refine RegL.done ?_
      refine EvtL.cond rfl (fun g4 => ?_) (fun g4 => ?_)
      have h4 := of_decide_eq_true g4
      refine EvtL.skip ?_
      refine EvtL.seq ?_
      refine EvtL.block ?_
      refine EvtL.seqDrawN (by kernel_rfl) ?_
      refine RegN.qG (OpQ.fieldAddr rfl f_34_2 rfl) (.inl rfl) rfl rfl ?_
      refine RegN.loadS1 rfl ag_31 sz_31 rfl rfl rfl (by kernel_rfl) (.inl rfl) rfl rfl ?_
      refine RegN.qG (OpQ.move rfl rfl) (.inl rfl) rfl rfl ?_
      refine RegN.qG (OpQ.indexAddrV rfl u_31 sz_34 rfl rfl (by assumption)) (.inl rfl) rfl rfl ?_
      refine RegN.qG (OpQ.loadI rfl rfl ag_34 sz_34 (Nat.le_of_ble_eq_true rfl)) (.inl rfl) rfl rfl ?_
      refine RegN.qG (OpQ.fieldAddr rfl f_34_2 rfl) (.inl rfl) rfl rfl ?_
      refine RegN.loadS1 rfl ag_31 sz_31 rfl rfl rfl (by kernel_rfl) (.inl rfl) rfl rfl ?_
      refine RegN.qG (OpQ.move rfl rfl) (.inl rfl) rfl rfl ?_
      refine RegN.qG (OpQ.indexAddrV rfl u_31 sz_34 rfl rfl (by assumption)) (.inl rfl) rfl rfl ?_
      refine RegN.qG (OpQ.loadI rfl rfl ag_34 sz_34 (Nat.le_of_ble_eq_true rfl)) (.inl rfl) rfl rfl ?_
      refine RegN.aG (OpA.callFn rfl rfl (by kernel_rfl) rfl (hit_21)) (.inl rfl) rfl rfl ?_
      refine RegN.qG (OpQ.not rfl rfl) (.inl rfl) rfl rfl ?_
      refine RegN.done ?_
      refine EvtL.condF rfl rfl ?_
      refine EvtL.skip ?_
      refine EvtL.reg ?_
      refine RegL.q (OpQ.move rfl rfl) rfl rfl rfl ?_
      refine RegL.q (OpQ.addN (b := 1) rfl u_3 rfl rfl (by first | assumption | omega | (simp only [List.length_append, List.length_cons, List.length_nil, List.length_take, List.length_drop]; omega))) rfl rfl rfl ?_
      refine RegL.q (OpQ.assign rfl rfl) rfl rfl rfl ?_
      refine RegL.done ?_
      rotate_left
      have h4 := of_decide_eq_false g4
      exact absurd h4 (by omega)
    exact ⟨i + 1, h, by show ks.length - (i + 1) < ks.length - i; omega, rfl, rfl, by (refine Am.sub_of ?_; repeat (first | exact trivial | refine ⟨rfl, ?_⟩))⟩
  · focus
      refine EvtL.seq ?_
      refine EvtL.seqReg ?_
      refine RegL.q (OpQ.move rfl rfl) rfl rfl rfl ?_
      refine RegL.q (OpQ.fieldAddr rfl f_34_2 rfl) rfl rfl rfl ?_
      refine RegL.op (OpL.loadS1 rfl ag_31 sz_31 rfl rfl rfl) rfl rfl rfl ?_
      refine RegL.q (OpQ.lenSl rfl rfl rfl rfl u_31 rfl) rfl rfl rfl ?_
      refine RegL.q (OpQ.int2 rfl u_3 rfl rfl rfl rfl) rfl rfl rfl ?_
      refine RegL.done ?_
      refine EvtL.cond rfl (fun g4 => ?_) (fun g4 => ?_)
      have h4 := of_decide_eq_true g4
      exact absurd h4 (by omega)
      have h4 := of_decide_eq_false g4
      refine EvtL.exit ?_
      refine cond_t rfl ?_
      refine EvtL.seqReg ?_
      refine RegL.q (OpQ.assign rfl rfl) rfl rfl rfl ?_
      refine RegL.done ?_
      refine EvtL.ret ⟨.inl rfl, rfl, rfl, rfl, _, _, _, (res_tmp rfl rfl), rfl, rfl, ?_⟩
      exact boolRes rfl
noncomputable def Ka := addC K9 21 encSc resTr
theorem alla (h : Given) : KnownAll Tryz.prog Ka :=
  lay_known (deep := fun p : ScT => deepT p.1) h.ins (all9 h) encSc_inj (fun p => deep_pos p.1) (fun p => by
    show (closedV 40 (.agg (encTm p.1)) && (closedV 40 (.agg (encTm p.1)) && true)) = true
    rw [tm_closed]; rfl) (fun _ => rfl) fun d p hp hx => same_to d p.1 hp p.2 hx
theorem hit_21 {t : TermT} (h : sizeT t ≤ 5000) : Ka 21 [.agg (encTm t), .agg (encTm t)] = some (.bool true) := addC_hit (enc := encSc) (res := resTr) (fun a b _ => rfl) ⟨t, h⟩
def encLL (l : LsT) : List AV := [recs encTm 3 l.1, recs encTm 3 l.1]
theorem terms_to (l : List TermT) (h : sizeTs l ≤ 4000) : CallTo (EK Ka) 50 [recs encTm 3 l, recs encTm 3 l] S0 (.bool true) := by
  have hit_21 := hit_21 (t := .mk 0 0 l) (by show sizeTs l + 1 ≤ 5000; omega)
  rw [encTm_mk] at hit_21
  refine CallTo.s0 (fn := Tryz.f50) rfl rfl (by kernel_rfl) rfl rfl rfl rfl ?_
  refine EvtL.seqReg ?_
  refine RegL.q (OpQ.assign rfl rfl) rfl rfl rfl ?_
  refine RegL.done ?_
  refine EvtL.seqReg ?_
  refine RegL.q (OpQ.move rfl rfl) rfl rfl rfl ?_
  refine RegL.q (OpQ.move rfl rfl) rfl rfl rfl ?_
  refine RegL.inl (fn := Tryz.f76) (by kernel_rfl) (by kernel_rfl) rfl rfl rfl rfl rfl rfl rfl rfl rfl rfl rfl ?_
  refine EvtL.seqReg ?_
  refine RegL.q (OpQ.assign rfl rfl) rfl rfl rfl ?_
  refine RegL.done ?_
  refine EvtL.seqReg ?_
  refine RegL.q (OpQ.move rfl rfl) rfl rfl rfl ?_
  refine RegL.inl (fn := Tryz.f103) (by kernel_rfl) (by kernel_rfl) rfl rfl rfl rfl rfl rfl rfl rfl rfl rfl rfl ?_
  refine EvtL.seqReg ?_
  refine RegL.op (OpL.allocS 1 rfl z_34 rfl) rfl rfl rfl ?_
  refine RegL.done ?_
  refine EvtL.seqReg ?_
  refine RegL.q (OpQ.move rfl rfl) rfl rfl rfl ?_
  refine RegL.q (OpQ.build rfl pl_34 rfl rfl) rfl rfl rfl ?_
  refine RegL.opN (OpL.storeS rfl sz_34 rfl rfl rfl rfl rfl rfl) rfl rfl ?_
  refine RegL.done ?_
  refine EvtL.ret (InlX.r (InlQ.same rfl (res_cellA rfl ag_34 sz_34 rfl (Nat.le_of_ble_eq_true rfl) rfl) rfl rfl rfl rfl ?_))
  refine RegL.q (OpQ.move rfl rfl) rfl rfl rfl ?_
  refine RegL.inl (fn := Tryz.f103) (by kernel_rfl) (by kernel_rfl) rfl rfl rfl rfl rfl rfl rfl rfl rfl rfl rfl ?_
  refine EvtL.seqReg ?_
  refine RegL.op (OpL.allocS 1 rfl z_34 rfl) rfl rfl rfl ?_
  refine RegL.done ?_
  refine EvtL.seqReg ?_
  refine RegL.q (OpQ.move rfl rfl) rfl rfl rfl ?_
  refine RegL.q (OpQ.build rfl pl_34 rfl rfl) rfl rfl rfl ?_
  refine RegL.opN (OpL.storeS rfl sz_34 rfl rfl rfl rfl rfl rfl) rfl rfl ?_
  refine RegL.done ?_
  refine EvtL.ret (InlX.r (InlQ.same rfl (res_cellA rfl ag_34 sz_34 rfl (Nat.le_of_ble_eq_true rfl) rfl) rfl rfl rfl rfl ?_))
  refine RegL.op (OpL.callFn rfl rfl (by kernel_rfl) rfl (CallTo.memo (hit_21))) rfl rfl rfl ?_
  refine RegL.q (OpQ.assign rfl rfl) rfl rfl rfl ?_
  refine RegL.done ?_
  refine EvtL.ret (InlX.r (InlQ.same rfl (res_tmp rfl rfl) rfl rfl rfl rfl ?_))
  refine RegL.q (OpQ.assign rfl rfl) rfl rfl rfl ?_
  refine RegL.done ?_
  refine EvtL.ret ⟨.inl rfl, rfl, rfl, rfl, _, _, _, (res_tmp rfl rfl), rfl, rfl, ?_⟩
  exact boolRes rfl
noncomputable def Kb := addC Ka 50 encLL resTr
theorem allb (h : Given) : KnownAll Tryz.prog Kb := addC_allI h.ins (alla h) (fun p => terms_to p.1 p.2) (fun _ => rfl) (fun _ => rfl)
abbrev SaT := { a : AnsT // SlimA a }
def encSa (a : SaT) : List AV := [.agg (encAn a.1), .agg (encAn a.1)]
theorem answer_to (a : AnsT) (h : SlimA a) : CallTo (EK Kb) 26 [.agg (encAn a), .agg (encAn a)] S0 (.bool true) := by
  obtain ⟨v, t⟩ := a
  have hit_21 : Kb 21 [.agg (encTm t), .agg (encTm t)] = some (.bool true) := hit_21 (Nat.le_trans h.2 (by decide))
  have hit_50 : Kb 50 [recs encTm 3 v, recs encTm 3 v] = some (.bool true) := addC_hit (enc := encLL) (res := resTr) (fun a b _ => rfl) ⟨v, h.1⟩
  rw [encTm_eq] at hit_21
  unfold encAn
  refine CallTo.s0 (fn := Tryz.f26) rfl rfl (by kernel_rfl) rfl rfl rfl rfl ?_
  refine EvtL.seqReg ?_
  refine RegL.op (OpL.boxS 1 rfl rfl rfl rfl) rfl rfl rfl ?_
  refine RegL.op (OpL.boxS 2 rfl rfl rfl rfl) rfl rfl rfl ?_
  refine RegL.q (OpQ.assign rfl rfl) rfl rfl rfl ?_
  refine RegL.done ?_
  refine EvtL.seqReg ?_
  refine RegL.q (OpQ.fieldAddr rfl f_36_1 rfl) rfl rfl rfl ?_
  refine RegL.op (OpL.loadSA rfl ag_34 sz_34 rfl rfl (Nat.le_of_ble_eq_true rfl)) rfl rfl rfl ?_
  refine RegL.q (OpQ.fieldAddr rfl f_36_1 rfl) rfl rfl rfl ?_
  refine RegL.op (OpL.loadSA rfl ag_34 sz_34 rfl rfl (Nat.le_of_ble_eq_true rfl)) rfl rfl rfl ?_
  refine RegL.op (OpL.callFn rfl rfl (by kernel_rfl) rfl (CallTo.memo (hit_21))) rfl rfl rfl ?_
  refine RegL.q (OpQ.move rfl rfl) rfl rfl rfl ?_
  refine RegL.go rfl rfl rfl rfl rfl (OpL.q (OpQ.fieldAddr rfl f_36_0 rfl)) rfl rfl ?_
  refine RegL.go rfl rfl rfl rfl rfl (OpL.loadS1 rfl ag_31 sz_31 rfl rfl rfl) rfl rfl ?_
  refine RegL.go rfl rfl rfl rfl rfl (OpL.q (OpQ.fieldAddr rfl f_36_0 rfl)) rfl rfl ?_
  refine RegL.go rfl rfl rfl rfl rfl (OpL.loadS1 rfl ag_31 sz_31 rfl rfl rfl) rfl rfl ?_
  refine RegL.go rfl rfl rfl rfl rfl (OpL.callFn rfl rfl (by kernel_rfl) rfl (CallTo.memo (hit_50))) rfl rfl ?_
  refine RegL.q (OpQ.pickT rfl rfl rfl rfl) rfl rfl rfl ?_
  refine RegL.q (OpQ.assign rfl rfl) rfl rfl rfl ?_
  refine RegL.done ?_
  refine EvtL.ret ⟨.inl rfl, rfl, rfl, rfl, _, _, _, (res_tmp rfl rfl), rfl, rfl, ?_⟩
  exact boolRes rfl
noncomputable def Kc := addC Kb 26 encSa resTr
theorem allc (h : Given) : KnownAll Tryz.prog Kc := addC_allI h.ins (allb h) (fun p => answer_to p.1 p.2) (fun _ => rfl) (fun _ => rfl)
abbrev SlT := { l : List AnsT // l.length ≤ 4000 ∧ ∀ a ∈ l, SlimA a }
def encSl (l : SlT) : List AV := [recs encAn 4 l.1, recs encAn 4 l.1]
theorem answers_to (l : List AnsT) (h : l.length ≤ 4000) (hs : ∀ a ∈ l, SlimA a) : CallTo (EK Kc) 7 [recs encAn 4 l, recs encAn 4 l] S0 (.bool true) := by
  refine CallTo.s0 (fn := Tryz.f7) rfl rfl (by kernel_rfl) rfl rfl rfl rfl ?_
  focus
    refine EvtL.seqReg ?_
    refine RegL.q (OpQ.assign rfl rfl) rfl rfl rfl ?_
    refine RegL.done ?_
    refine EvtL.seq ?_
    refine EvtL.seqReg ?_
    refine RegL.q (OpQ.move rfl rfl) rfl rfl rfl ?_
    refine RegL.q (OpQ.lenSl rfl rfl rfl rfl u_27 rfl) rfl rfl rfl ?_
    refine RegL.q (OpQ.move rfl rfl) rfl rfl rfl ?_
    refine RegL.q (OpQ.lenSl rfl rfl rfl rfl u_27 rfl) rfl rfl rfl ?_
    refine RegL.q (OpQ.int2 rfl u_3 rfl rfl rfl rfl) rfl rfl rfl ?_
    refine RegL.done ?_
    refine EvtL.cond rfl (fun g1 => ?_) (fun g1 => ?_)
    have h1 := nT g1
    exact absurd h1 (by omega)
    have h1 := nF g1
    refine EvtL.skip ?_
    refine EvtL.seq ?_
    refine EvtL.seqReg ?_
    refine RegL.q (OpQ.assign rfl rfl) rfl rfl rfl ?_
    refine RegL.done ?_
    refine EvtL.block ?_
    rotate_left
  refine EvtL.loopI (fun i : Nat => ([(5, .int .i64 (i : Nat)), (0, recs encAn 4 l), (1, recs encAn 4 l)], mkS 0 0 [] [])) (fun i => l.length - i) (fun i => i ≤ l.length) 0 (Nat.zero_le _) rfl (by (refine Am.sub_of ?_; repeat (first | exact trivial | refine ⟨rfl, ?_⟩))) ?_
  rintro i hi
  dsimp only at hi ⊢
  by_cases h : i < l.length
  · have hid : idxSliceV (3 + 1) i (recs encAn (3 + 1) l) = _ := recs_idx encAn_len h
    have hit_26 : Kc 26 [.agg (encAn l[i]), .agg (encAn l[i])] = some (.bool true) := addC_hit (enc := encSa) (res := resTr) (fun a b _ => rfl) ⟨l[i], hs _ (List.getElem_mem h)⟩
    unfold encAn at hit_26 hid
    focus
      refine EvtL.seq ?_
      refine EvtL.seqReg ?_
      refine RegL.q (OpQ.move rfl rfl) rfl rfl rfl ?_
      refine RegL.q (OpQ.move rfl rfl) rfl rfl rfl ?_
      refine RegL.q (OpQ.lenSl rfl rfl rfl rfl u_27 rfl) rfl rfl rfl ?_
      refine RegL.q (OpQ.int2 rfl u_3 rfl rfl rfl rfl) rfl rfl rfl ?_
      refine RegL.done ?_
      refine EvtL.cond rfl (fun g2 => ?_) (fun g2 => ?_)
      have h2 := of_decide_eq_true g2
      refine EvtL.skip ?_
      refine EvtL.seq ?_
      refine EvtL.block ?_
      refine EvtL.seqDrawN (by kernel_rfl) ?_
      refine RegN.qG (OpQ.move rfl rfl) (.inl rfl) rfl rfl ?_
      refine RegN.qG (OpQ.move rfl rfl) (.inl rfl) rfl rfl ?_
      refine RegN.qG (OpQ.indexAddrV rfl u_27 sz_36 rfl rfl (by assumption)) (.inl rfl) rfl rfl ?_
      refine RegN.qG (OpQ.loadI rfl rfl ag_36 sz_36 (Nat.le_of_ble_eq_true rfl)) (.inl rfl) rfl rfl ?_
      refine RegN.qG (OpQ.move rfl rfl) (.inl rfl) rfl rfl ?_
      refine RegN.qG (OpQ.move rfl rfl) (.inl rfl) rfl rfl ?_
      refine RegN.qG (OpQ.indexAddrV rfl u_27 sz_36 rfl rfl (by assumption)) (.inl rfl) rfl rfl ?_
      refine RegN.qG (OpQ.loadI rfl rfl ag_36 sz_36 (Nat.le_of_ble_eq_true rfl)) (.inl rfl) rfl rfl ?_
      refine RegN.aG (OpA.callFn rfl rfl (by kernel_rfl) rfl (hit_26)) (.inl rfl) rfl rfl ?_
      refine RegN.qG (OpQ.not rfl rfl) (.inl rfl) rfl rfl ?_
      refine RegN.done ?_
      refine EvtL.condF rfl rfl ?_
      refine EvtL.skip ?_
      refine EvtL.reg ?_
      refine RegL.q (OpQ.move rfl rfl) rfl rfl rfl ?_
      refine RegL.q (OpQ.addN (b := 1) rfl u_3 rfl rfl (by first | assumption | omega | (simp only [List.length_append, List.length_cons, List.length_nil, List.length_take, List.length_drop]; omega))) rfl rfl rfl ?_
      refine RegL.q (OpQ.assign rfl rfl) rfl rfl rfl ?_
      refine RegL.done ?_
      rotate_left
      have h2 := of_decide_eq_false g2
      exact absurd h2 (by omega)
    exact ⟨i + 1, h, by show l.length - (i + 1) < l.length - i; omega, rfl, rfl, by (refine Am.sub_of ?_; repeat (first | exact trivial | refine ⟨rfl, ?_⟩))⟩
  · focus
      refine EvtL.seq ?_
      refine EvtL.seqReg ?_
      refine RegL.q (OpQ.move rfl rfl) rfl rfl rfl ?_
      refine RegL.q (OpQ.move rfl rfl) rfl rfl rfl ?_
      refine RegL.q (OpQ.lenSl rfl rfl rfl rfl u_27 rfl) rfl rfl rfl ?_
      refine RegL.q (OpQ.int2 rfl u_3 rfl rfl rfl rfl) rfl rfl rfl ?_
      refine RegL.done ?_
      refine EvtL.cond rfl (fun g2 => ?_) (fun g2 => ?_)
      have h2 := of_decide_eq_true g2
      exact absurd h2 (by omega)
      have h2 := of_decide_eq_false g2
      refine EvtL.exit ?_
      refine cond_t rfl ?_
      refine EvtL.seqReg ?_
      refine RegL.q (OpQ.assign rfl rfl) rfl rfl rfl ?_
      refine RegL.done ?_
      refine EvtL.ret ⟨.inl rfl, rfl, rfl, rfl, _, _, _, (res_tmp rfl rfl), rfl, rfl, ?_⟩
      exact boolRes rfl
noncomputable def Kd := addC Kc 7 encSl resTr
theorem alld (h : Given) : KnownAll Tryz.prog Kd := addC_allI h.ins (allc h) (fun p => answers_to p.1 p.2.1 p.2.2) (fun _ => rfl) (fun _ => rfl)
end Go.Proofs.YtlclpmbeaofohaaGreat.So

/- Few and small answers. -/
open Go Am
namespace Go.Proofs.YtlclpmbeaofohaaGreat.So
def smallT (t : TermT) : Bool := decide (0 ≤ weighT t 50 14)
theorem small_to (t : TermT) : CallTo (EK Kd) 28 [.agg (encTm t)] S0 (.bool (smallT t)) := by
  have hit_52 : Kd 52 [.agg (encTm t), .int .i64 50, .int .i64 14] = some (.int .i64 (weighT t 50 14)) := hit_52 (by decide) (by decide)
  unfold smallT
  rw [encTm_eq] at hit_52
  generalize weighT t 50 14 = w at *
  rw [encTm_eq]
  refine CallTo.s0 (fn := Tryz.f28) rfl rfl (by kernel_rfl) rfl rfl rfl rfl ?_
  refine EvtL.seqReg ?_
  refine RegL.op (OpL.boxS 1 rfl rfl rfl rfl) rfl rfl rfl ?_
  refine RegL.q (OpQ.assign rfl rfl) rfl rfl rfl ?_
  refine RegL.done ?_
  refine EvtL.seqReg ?_
  refine RegL.op (OpL.loadSA rfl ag_34 sz_34 rfl rfl (Nat.le_of_ble_eq_true rfl)) rfl rfl rfl ?_
  refine RegL.op (OpL.callFn rfl rfl (by kernel_rfl) rfl (CallTo.memo (hit_52))) rfl rfl rfl ?_
  refine RegL.q (OpQ.int2 rfl u_3 rfl rfl rfl rfl) rfl rfl rfl ?_
  refine RegL.q (OpQ.assign rfl rfl) rfl rfl rfl ?_
  refine RegL.done ?_
  refine EvtL.ret ⟨.inl rfl, rfl, rfl, rfl, _, _, _, (res_tmp rfl rfl), rfl, rfl, ?_⟩
  exact boolRes rfl
def encT1 (t : TermT) : List AV := [.agg (encTm t)]
theorem encT1_inj (x y : TermT) (h : encT1 x = encT1 y) : x = y := encTm_inj _ _ (AV.agg.inj (List.cons.inj h).1)
noncomputable def Ke := addC Kd 28 encT1 (fun t => .bool (smallT t))
theorem alle (h : Given) : KnownAll Tryz.prog Ke := addC_allI h.ins (alld h) (fun t => small_to t) (fun t => by
  show (closedV 40 (.agg (encTm t)) && true) = true
  rw [tm_closed]; rfl) (fun _ => rfl)
theorem hit_28 {t : TermT} : Ke 28 [.agg (encTm t)] = some (.bool (smallT t)) := addC_hit (enc := encT1) (res := fun t => .bool (smallT t)) (fun a b h => by rw [encT1_inj a b h]) t
def smallA (a : AnsT) : Bool := (a.vars.take 26).all smallT && (smallT a.value && decide ((a.vars.length : Int) ≤ 25))
theorem take_no {α : Type} {l : List α} {f : α → Bool} {i n : Nat} (h : i < l.length) (hi : i < n) (hf : f l[i] = false) : (l.take n).all f = false := by
  cases hb : (l.take n).all f with
  | false => rfl
  | true =>
    have := List.all_eq_true.1 hb l[i] (List.mem_take_iff_getElem.2 ⟨i, by omega, rfl⟩)
    rw [hf] at this; cases this
theorem take_yes {α : Type} {l : List α} {f : α → Bool} {i n : Nat} (h : ∀ j (hj : j < l.length), j < i → f l[j] = true) (hi : i = l.length ∨ i = n) (hle : i ≤ n) : (l.take n).all f = true :=
  List.all_eq_true.2 fun x hx => by
    obtain ⟨j, hj, rfl⟩ := List.mem_take_iff_getElem.1 hx
    exact h j (by omega) (by omega)
theorem smallA_to (a : AnsT) : CallTo (EK Ke) 9 [.agg (encAn a)] S0 (.bool (smallA a)) := by
  obtain ⟨v, t⟩ := a
  have hitb_28 : Ke 28 [.agg (encTm t)] = some (.bool (smallT t)) := hit_28
  rw [encTm_eq] at hitb_28
  unfold encAn
  refine CallTo.s0 (fn := Tryz.f9) rfl rfl (by kernel_rfl) rfl rfl rfl rfl ?_
  refine EvtL.seqReg ?_
  refine RegL.op (OpL.boxS 1 rfl rfl rfl rfl) rfl rfl rfl ?_
  refine RegL.q (OpQ.assign rfl rfl) rfl rfl rfl ?_
  refine RegL.done ?_
  refine EvtL.seq ?_
  refine EvtL.seqReg ?_
  refine RegL.q (OpQ.assign rfl rfl) rfl rfl rfl ?_
  refine RegL.done ?_
  refine EvtL.block ?_
  refine EvtL.loopI (fun i : Nat => ([(3, .int .i64 (i : Nat)), (1, .ptr 0 0)], mkS 1 0 [] [(0, some (.cells [recs encTm 3 v, .int .i64 t.op, .int .i64 t.n, recs encTm 3 t.kids] 36 false))])) (fun i => 26 - i)
    (fun i => i ≤ 26 ∧ i ≤ v.length ∧ ∀ j (hj : j < v.length), j < i → smallT v[j] = true) 0 ⟨Nat.zero_le _, Nat.zero_le _, fun _ _ h => absurd h (Nat.not_lt_zero _)⟩ rfl (by (refine Am.sub_of ?_; repeat (first | exact trivial | refine ⟨rfl, ?_⟩))) ?_
  rintro i ⟨hi, hi2, ha⟩
  dsimp only at hi hi2 ha ⊢
  by_cases h : i < v.length
  · have hid := idx_tm h
    by_cases h6 : i < 26
    · have hit_28 : Ke 28 [.agg (encTm v[i])] = some (.bool (smallT v[i])) := So.hit_28
      rw [encTm_eq] at hit_28 hid
      focus
        refine EvtL.seq ?_
        refine EvtL.seqReg ?_
        refine RegL.q (OpQ.move rfl rfl) rfl rfl rfl ?_
        refine RegL.q (OpQ.fieldAddr rfl f_36_0 rfl) rfl rfl rfl ?_
        refine RegL.op (OpL.loadS1 rfl ag_31 sz_31 rfl rfl rfl) rfl rfl rfl ?_
        refine RegL.q (OpQ.lenSl rfl rfl rfl rfl u_31 rfl) rfl rfl rfl ?_
        refine RegL.q (OpQ.int2 rfl u_3 rfl rfl rfl rfl) rfl rfl rfl ?_
        refine RegL.q (OpQ.move rfl rfl) rfl rfl rfl ?_
        refine RegL.both rfl rfl rfl rfl (fun g1 => ?_) (fun g1 => ?_)
        have h1 := of_decide_eq_true g1
        refine RegL.go rfl rfl rfl rfl (by assumption) (OpL.q (OpQ.move rfl rfl)) rfl rfl ?_
        refine RegL.go rfl rfl rfl rfl (by assumption) (OpL.q (OpQ.int2 rfl u_3 rfl rfl rfl rfl)) rfl rfl ?_
        refine RegL.q (OpQ.pickT rfl rfl (by assumption) rfl) rfl rfl rfl ?_
        refine RegL.done ?_
        refine EvtL.cond rfl (fun g2 => ?_) (fun g2 => ?_)
        have h2 := of_decide_eq_true g2
        refine EvtL.skip ?_
        refine EvtL.seq ?_
        refine EvtL.block ?_
        refine EvtL.seqReg ?_
        refine RegL.q (OpQ.fieldAddr rfl f_36_0 rfl) rfl rfl rfl ?_
        refine RegL.op (OpL.loadS1 rfl ag_31 sz_31 rfl rfl rfl) rfl rfl rfl ?_
        refine RegL.q (OpQ.move rfl rfl) rfl rfl rfl ?_
        refine RegL.q (OpQ.indexAddrV rfl u_31 sz_34 rfl rfl (by assumption)) rfl rfl rfl ?_
        refine RegL.q (OpQ.loadI rfl rfl ag_34 sz_34 (Nat.le_of_ble_eq_true rfl)) rfl rfl rfl ?_
        refine RegL.op (OpL.callFn rfl rfl (by kernel_rfl) rfl (CallTo.memo (hit_28))) rfl rfl rfl ?_
        refine RegL.q (OpQ.not rfl rfl) rfl rfl rfl ?_
        refine RegL.done ?_
        refine EvtL.cond rfl (fun g3 => ?_) (fun g3 => ?_)
        have h3 := notT g3
        refine EvtL.seqReg ?_
        refine RegL.q (OpQ.assign rfl rfl) rfl rfl rfl ?_
        refine RegL.done ?_
        refine EvtL.ret ⟨.inl rfl, rfl, rfl, rfl, _, _, _, (res_tmp rfl rfl), rfl, rfl, ?_⟩
        refine boolRes ?_
        rotate_left
        have h3 := notF g3
        refine EvtL.skip ?_
        refine EvtL.reg ?_
        refine RegL.q (OpQ.move rfl rfl) rfl rfl rfl ?_
        refine RegL.q (OpQ.addN (b := 1) rfl u_3 rfl rfl (by first | assumption | omega | (simp only [List.length_append, List.length_cons, List.length_nil, List.length_take, List.length_drop]; omega))) rfl rfl rfl ?_
        refine RegL.q (OpQ.assign rfl rfl) rfl rfl rfl ?_
        refine RegL.done ?_
        rotate_left
        have h2 := of_decide_eq_false g2
        exact absurd h2 (by omega)
        have h1 := of_decide_eq_false g1
        exact absurd h1 (by omega)
      · unfold smallA
        rw [take_no h h6 (by assumption)]; rfl
      · exact ⟨i + 1, ⟨by omega, h, fun j hj hlt => by
          rcases Nat.lt_or_ge j i with h9 | h9
          · exact ha j hj h9
          · obtain rfl : j = i := by omega
            assumption⟩, by show 26 - (i + 1) < 26 - i; omega, rfl, rfl, by (refine Am.sub_of ?_; repeat (first | exact trivial | refine ⟨rfl, ?_⟩))⟩
    · have hyes : (v.take 26).all smallT = true := take_yes ha (.inr (by omega)) hi
      unfold smallA
      dsimp only
      rw [hyes]
      focus
        refine EvtL.seq ?_
        refine EvtL.seqReg ?_
        refine RegL.q (OpQ.move rfl rfl) rfl rfl rfl ?_
        refine RegL.q (OpQ.fieldAddr rfl f_36_0 rfl) rfl rfl rfl ?_
        refine RegL.op (OpL.loadS1 rfl ag_31 sz_31 rfl rfl rfl) rfl rfl rfl ?_
        refine RegL.q (OpQ.lenSl rfl rfl rfl rfl u_31 rfl) rfl rfl rfl ?_
        refine RegL.q (OpQ.int2 rfl u_3 rfl rfl rfl rfl) rfl rfl rfl ?_
        refine RegL.q (OpQ.move rfl rfl) rfl rfl rfl ?_
        refine RegL.both rfl rfl rfl rfl (fun g1 => ?_) (fun g1 => ?_)
        have h1 := of_decide_eq_true g1
        refine RegL.go rfl rfl rfl rfl (by assumption) (OpL.q (OpQ.move rfl rfl)) rfl rfl ?_
        refine RegL.go rfl rfl rfl rfl (by assumption) (OpL.q (OpQ.int2 rfl u_3 rfl rfl rfl rfl)) rfl rfl ?_
        refine RegL.q (OpQ.pickT rfl rfl (by assumption) rfl) rfl rfl rfl ?_
        refine RegL.done ?_
        refine EvtL.cond rfl (fun g2 => ?_) (fun g2 => ?_)
        have h2 := of_decide_eq_true g2
        exact absurd h2 (by omega)
        have h2 := of_decide_eq_false g2
        refine EvtL.exit ?_
        refine cond_t rfl ?_
        refine EvtL.seqReg ?_
        refine RegL.q (OpQ.fieldAddr rfl f_36_1 rfl) rfl rfl rfl ?_
        refine RegL.op (OpL.loadSA rfl ag_34 sz_34 rfl rfl (Nat.le_of_ble_eq_true rfl)) rfl rfl rfl ?_
        refine RegL.op (OpL.callFn rfl rfl (by kernel_rfl) rfl (CallTo.memo (hitb_28))) rfl rfl rfl ?_
        refine RegL.q (OpQ.move rfl rfl) rfl rfl rfl ?_
        refine RegL.both rfl rfl rfl rfl (fun g3 => ?_) (fun g3 => ?_)
        refine RegL.go rfl rfl rfl rfl (by assumption) (OpL.q (OpQ.fieldAddr rfl f_36_0 rfl)) rfl rfl ?_
        refine RegL.go rfl rfl rfl rfl (by assumption) (OpL.loadS1 rfl ag_31 sz_31 rfl rfl rfl) rfl rfl ?_
        refine RegL.go rfl rfl rfl rfl (by assumption) (OpL.q (OpQ.lenSl rfl rfl rfl rfl u_31 rfl)) rfl rfl ?_
        refine RegL.go rfl rfl rfl rfl (by assumption) (OpL.q (OpQ.int2 rfl u_3 rfl rfl rfl rfl)) rfl rfl ?_
        refine RegL.q (OpQ.pickT rfl rfl (by assumption) rfl) rfl rfl rfl ?_
        refine RegL.q (OpQ.assign rfl rfl) rfl rfl rfl ?_
        refine RegL.done ?_
        refine EvtL.ret ⟨.inl rfl, rfl, rfl, rfl, _, _, _, (res_tmp rfl rfl), rfl, rfl, ?_⟩
        refine boolRes ?_
        rotate_left
        refine RegL.skip rfl rfl rfl rfl (by assumption) rfl rfl ?_
        refine RegL.skip rfl rfl rfl rfl (by assumption) rfl rfl ?_
        refine RegL.skip rfl rfl rfl rfl (by assumption) rfl rfl ?_
        refine RegL.skip rfl rfl rfl rfl (by assumption) rfl rfl ?_
        refine RegL.q (OpQ.pickF rfl rfl (by assumption) rfl) rfl rfl rfl ?_
        refine RegL.q (OpQ.assign rfl rfl) rfl rfl rfl ?_
        refine RegL.done ?_
        refine EvtL.ret ⟨.inl rfl, rfl, rfl, rfl, _, _, _, (res_tmp rfl rfl), rfl, rfl, ?_⟩
        refine boolRes ?_
        rotate_left
        have h1 := of_decide_eq_false g1
        exact absurd h1 (by omega)
      · rw [g3]; rfl
      · rw [g3]; rfl
  · have hyes : (v.take 26).all smallT = true := take_yes ha (.inl (by omega)) hi
    unfold smallA
    dsimp only
    rw [hyes]
    focus
      refine EvtL.seq ?_
      refine EvtL.seqReg ?_
      refine RegL.q (OpQ.move rfl rfl) rfl rfl rfl ?_
      refine RegL.q (OpQ.fieldAddr rfl f_36_0 rfl) rfl rfl rfl ?_
      refine RegL.op (OpL.loadS1 rfl ag_31 sz_31 rfl rfl rfl) rfl rfl rfl ?_
      refine RegL.q (OpQ.lenSl rfl rfl rfl rfl u_31 rfl) rfl rfl rfl ?_
      refine RegL.q (OpQ.int2 rfl u_3 rfl rfl rfl rfl) rfl rfl rfl ?_
      refine RegL.q (OpQ.move rfl rfl) rfl rfl rfl ?_
      refine RegL.both rfl rfl rfl rfl (fun g1 => ?_) (fun g1 => ?_)
      have h1 := of_decide_eq_true g1
      exact absurd h1 (by omega)
      have h1 := of_decide_eq_false g1
      refine RegL.skip rfl rfl rfl rfl (by assumption) rfl rfl ?_
      refine RegL.skip rfl rfl rfl rfl (by assumption) rfl rfl ?_
      refine RegL.q (OpQ.pickF rfl rfl (by assumption) rfl) rfl rfl rfl ?_
      refine RegL.done ?_
      refine EvtL.condF rfl rfl ?_
      refine EvtL.exit ?_
      refine cond_t rfl ?_
      refine EvtL.seqReg ?_
      refine RegL.q (OpQ.fieldAddr rfl f_36_1 rfl) rfl rfl rfl ?_
      refine RegL.op (OpL.loadSA rfl ag_34 sz_34 rfl rfl (Nat.le_of_ble_eq_true rfl)) rfl rfl rfl ?_
      refine RegL.op (OpL.callFn rfl rfl (by kernel_rfl) rfl (CallTo.memo (hitb_28))) rfl rfl rfl ?_
      refine RegL.q (OpQ.move rfl rfl) rfl rfl rfl ?_
      refine RegL.both rfl rfl rfl rfl (fun g2 => ?_) (fun g2 => ?_)
      refine RegL.go rfl rfl rfl rfl (by assumption) (OpL.q (OpQ.fieldAddr rfl f_36_0 rfl)) rfl rfl ?_
      refine RegL.go rfl rfl rfl rfl (by assumption) (OpL.loadS1 rfl ag_31 sz_31 rfl rfl rfl) rfl rfl ?_
      refine RegL.go rfl rfl rfl rfl (by assumption) (OpL.q (OpQ.lenSl rfl rfl rfl rfl u_31 rfl)) rfl rfl ?_
      refine RegL.go rfl rfl rfl rfl (by assumption) (OpL.q (OpQ.int2 rfl u_3 rfl rfl rfl rfl)) rfl rfl ?_
      refine RegL.q (OpQ.pickT rfl rfl (by assumption) rfl) rfl rfl rfl ?_
      refine RegL.q (OpQ.assign rfl rfl) rfl rfl rfl ?_
      refine RegL.done ?_
      refine EvtL.ret ⟨.inl rfl, rfl, rfl, rfl, _, _, _, (res_tmp rfl rfl), rfl, rfl, ?_⟩
      refine boolRes ?_
      rotate_left
      refine RegL.skip rfl rfl rfl rfl (by assumption) rfl rfl ?_
      refine RegL.skip rfl rfl rfl rfl (by assumption) rfl rfl ?_
      refine RegL.skip rfl rfl rfl rfl (by assumption) rfl rfl ?_
      refine RegL.skip rfl rfl rfl rfl (by assumption) rfl rfl ?_
      refine RegL.q (OpQ.pickF rfl rfl (by assumption) rfl) rfl rfl rfl ?_
      refine RegL.q (OpQ.assign rfl rfl) rfl rfl rfl ?_
      refine RegL.done ?_
      refine EvtL.ret ⟨.inl rfl, rfl, rfl, rfl, _, _, _, (res_tmp rfl rfl), rfl, rfl, ?_⟩
      refine boolRes ?_
      rotate_left
    · rw [g2]; rfl
    · rw [g2]; rfl
def encA1 (a : AnsT) : List AV := [.agg (encAn a)]
noncomputable def Kf := addC Ke 9 encA1 (fun a => .bool (smallA a))
theorem allf (h : Given) : KnownAll Tryz.prog Kf := addC_allI h.ins (alle h) (fun a => smallA_to a) (fun _ => rfl) (fun _ => rfl)
theorem hit_9 {a : AnsT} : Kf 9 [.agg (encAn a)] = some (.bool (smallA a)) := addC_hit (enc := encA1) (res := fun a => .bool (smallA a)) (fun a b h => by rw [encAn_inj a b (AV.agg.inj (List.cons.inj h).1)]) a
def smallO (o : OutT) : Bool := !decide (90 < (o.picks.length : Int)) && smallA o.ans
def smallE (e : EndT) : Bool := (e.outs.take 91).all smallO && decide ((e.outs.length : Int) ≤ 90)
theorem smallE_to (e : EndT) : CallTo (EK Kf) 4 [.agg (encE e)] S0 (.bool (smallE e)) := by
  obtain ⟨outs, lk, fa, wa, lo, op⟩ := e
  unfold encE
  refine CallTo.s0 (fn := Tryz.f4) rfl rfl (by kernel_rfl) rfl rfl rfl rfl ?_
  refine EvtL.seqReg ?_
  refine RegL.op (OpL.boxS 1 rfl rfl rfl rfl) rfl rfl rfl ?_
  refine RegL.q (OpQ.assign rfl rfl) rfl rfl rfl ?_
  refine RegL.done ?_
  refine EvtL.seq ?_
  refine EvtL.seqReg ?_
  refine RegL.q (OpQ.assign rfl rfl) rfl rfl rfl ?_
  refine RegL.done ?_
  refine EvtL.block ?_
  refine EvtL.loopI (fun i : Nat => ([(3, .int .i64 (i : Nat)), (1, .ptr 0 0)], mkS 1 0 [] [(0, some (.cells [recs encO 6 outs, .int .i64 lk, .int .i64 fa, .int .i64 wa, .int .i64 lo, .int .i64 op] 24 false))])) (fun i => 91 - i)
    (fun i => i ≤ 91 ∧ i ≤ outs.length ∧ ∀ j (hj : j < outs.length), j < i → smallO outs[j] = true) 0 ⟨Nat.zero_le _, Nat.zero_le _, fun _ _ h => absurd h (Nat.not_lt_zero _)⟩ rfl (by (refine Am.sub_of ?_; repeat (first | exact trivial | refine ⟨rfl, ?_⟩))) ?_
  rintro i ⟨hi, hi2, ha⟩
  dsimp only at hi hi2 ha ⊢
  by_cases h : i < outs.length
  · have hid := recs_idx encO_len h
    by_cases h6 : i < 91
    · have hit_9 := hit_9 (a := outs[i].ans)
      unfold encAn at hit_9
      unfold encO at hid
      focus
        refine EvtL.seq ?_
        refine EvtL.seqReg ?_
        refine RegL.q (OpQ.move rfl rfl) rfl rfl rfl ?_
        refine RegL.q (OpQ.fieldAddr rfl f_24_0 rfl) rfl rfl rfl ?_
        refine RegL.op (OpL.loadS1 rfl ag_22 sz_22 rfl rfl rfl) rfl rfl rfl ?_
        refine RegL.q (OpQ.lenSl rfl rfl rfl rfl u_22 rfl) rfl rfl rfl ?_
        refine RegL.q (OpQ.int2 rfl u_3 rfl rfl rfl rfl) rfl rfl rfl ?_
        refine RegL.q (OpQ.move rfl rfl) rfl rfl rfl ?_
        refine RegL.both rfl rfl rfl rfl (fun g1 => ?_) (fun g1 => ?_)
        have h1 := of_decide_eq_true g1
        refine RegL.go rfl rfl rfl rfl (by assumption) (OpL.q (OpQ.move rfl rfl)) rfl rfl ?_
        refine RegL.go rfl rfl rfl rfl (by assumption) (OpL.q (OpQ.int2 rfl u_3 rfl rfl rfl rfl)) rfl rfl ?_
        refine RegL.q (OpQ.pickT rfl rfl (by assumption) rfl) rfl rfl rfl ?_
        refine RegL.done ?_
        refine EvtL.cond rfl (fun g2 => ?_) (fun g2 => ?_)
        have h2 := of_decide_eq_true g2
        refine EvtL.skip ?_
        refine EvtL.seq ?_
        refine EvtL.block ?_
        refine EvtL.seqReg ?_
        refine RegL.q (OpQ.fieldAddr rfl f_24_0 rfl) rfl rfl rfl ?_
        refine RegL.op (OpL.loadS1 rfl ag_22 sz_22 rfl rfl rfl) rfl rfl rfl ?_
        refine RegL.q (OpQ.move rfl rfl) rfl rfl rfl ?_
        refine RegL.q (OpQ.indexAddrV rfl u_22 sz_38 rfl rfl (by assumption)) rfl rfl rfl ?_
        refine RegL.q (OpQ.fieldAddrI rfl f_38_0 rfl (Nat.le_of_ble_eq_true rfl)) rfl rfl rfl ?_
        refine RegL.q (OpQ.loadI1 rfl rfl ag_30 sz_30) rfl rfl rfl ?_
        refine RegL.q (OpQ.lenSl rfl rfl rfl rfl u_30 rfl) rfl rfl rfl ?_
        refine RegL.q (OpQ.int2 rfl u_3 rfl rfl rfl rfl) rfl rfl rfl ?_
        refine RegL.q (OpQ.move rfl rfl) rfl rfl rfl ?_
        refine RegL.both rfl rfl rfl rfl (fun g3 => ?_) (fun g3 => ?_)
        have h3 := of_decide_eq_true g3
        refine RegL.skip rfl rfl rfl rfl (by assumption) rfl rfl ?_
        refine RegL.skip rfl rfl rfl rfl (by assumption) rfl rfl ?_
        refine RegL.skip rfl rfl rfl rfl (by assumption) rfl rfl ?_
        refine RegL.skip rfl rfl rfl rfl (by assumption) rfl rfl ?_
        refine RegL.skip rfl rfl rfl rfl (by assumption) rfl rfl ?_
        refine RegL.skip rfl rfl rfl rfl (by assumption) rfl rfl ?_
        refine RegL.skip rfl rfl rfl rfl (by assumption) rfl rfl ?_
        refine RegL.skip rfl rfl rfl rfl (by assumption) rfl rfl ?_
        refine RegL.q (OpQ.pickT rfl rfl (by assumption) rfl) rfl rfl rfl ?_
        refine RegL.done ?_
        refine EvtL.condT rfl rfl ?_
        refine EvtL.seqReg ?_
        refine RegL.q (OpQ.assign rfl rfl) rfl rfl rfl ?_
        refine RegL.done ?_
        refine EvtL.ret ⟨.inl rfl, rfl, rfl, rfl, _, _, _, (res_tmp rfl rfl), rfl, rfl, ?_⟩
        refine boolRes ?_
        rotate_left
        have h3 := of_decide_eq_false g3
        refine RegL.go rfl rfl rfl rfl (by assumption) (OpL.q (OpQ.fieldAddr rfl f_24_0 rfl)) rfl rfl ?_
        refine RegL.go rfl rfl rfl rfl (by assumption) (OpL.loadS1 rfl ag_22 sz_22 rfl rfl rfl) rfl rfl ?_
        refine RegL.go rfl rfl rfl rfl (by assumption) (OpL.q (OpQ.move rfl rfl)) rfl rfl ?_
        refine RegL.go rfl rfl rfl rfl (by assumption) (OpL.q (OpQ.indexAddrV rfl u_22 sz_38 rfl rfl (by assumption))) rfl rfl ?_
        refine RegL.go rfl rfl rfl rfl (by assumption) (OpL.q (OpQ.fieldAddrI rfl f_38_1 rfl (Nat.le_of_ble_eq_true rfl))) rfl rfl ?_
        refine RegL.go rfl rfl rfl rfl (by assumption) (OpL.q (OpQ.loadI rfl rfl ag_36 sz_36 (Nat.le_of_ble_eq_true rfl))) rfl rfl ?_
        refine RegL.go rfl rfl rfl rfl (by assumption) (OpL.callFn rfl rfl (by kernel_rfl) rfl (CallTo.memo (hit_9))) rfl rfl ?_
        refine RegL.go rfl rfl rfl rfl (by assumption) (OpL.q (OpQ.not rfl rfl)) rfl rfl ?_
        refine RegL.q (OpQ.pickF rfl rfl (by assumption) rfl) rfl rfl rfl ?_
        refine RegL.done ?_
        refine EvtL.cond rfl (fun g4 => ?_) (fun g4 => ?_)
        have h4 := notT g4
        refine EvtL.seqReg ?_
        refine RegL.q (OpQ.assign rfl rfl) rfl rfl rfl ?_
        refine RegL.done ?_
        refine EvtL.ret ⟨.inl rfl, rfl, rfl, rfl, _, _, _, (res_tmp rfl rfl), rfl, rfl, ?_⟩
        refine boolRes ?_
        rotate_left
        have h4 := notF g4
        refine EvtL.skip ?_
        refine EvtL.reg ?_
        refine RegL.q (OpQ.move rfl rfl) rfl rfl rfl ?_
        refine RegL.q (OpQ.addN (b := 1) rfl u_3 rfl rfl (by first | assumption | omega | (simp only [List.length_append, List.length_cons, List.length_nil, List.length_take, List.length_drop]; omega))) rfl rfl rfl ?_
        refine RegL.q (OpQ.assign rfl rfl) rfl rfl rfl ?_
        refine RegL.done ?_
        rotate_left
        have h2 := of_decide_eq_false g2
        exact absurd h2 (by omega)
        have h1 := of_decide_eq_false g1
        exact absurd h1 (by omega)
      · have : smallO outs[i] = false := by unfold smallO; rw [show decide (90 < (outs[i].picks.length : Int)) = true by assumption]; rfl
        unfold smallE
        rw [take_no h h6 this]; rfl
      · have : smallO outs[i] = false := by unfold smallO; rw [show smallA outs[i].ans = false by assumption, Bool.and_false]
        unfold smallE
        rw [take_no h h6 this]; rfl
      · exact ⟨i + 1, ⟨by omega, h, fun j hj hlt => by
          rcases Nat.lt_or_ge j i with h9 | h9
          · exact ha j hj h9
          · obtain rfl : j = i := by omega
            unfold smallO
            rw [show smallA outs[j].ans = true by assumption, show decide (90 < (outs[j].picks.length : Int)) = false by assumption]; rfl⟩, by show 91 - (i + 1) < 91 - i; omega, rfl, rfl, by (refine Am.sub_of ?_; repeat (first | exact trivial | refine ⟨rfl, ?_⟩))⟩
    · have hyes : (outs.take 91).all smallO = true := take_yes ha (.inr (by omega)) hi
      unfold smallE
      dsimp only
      rw [hyes]
      focus
        refine EvtL.seq ?_
        refine EvtL.seqReg ?_
        refine RegL.q (OpQ.move rfl rfl) rfl rfl rfl ?_
        refine RegL.q (OpQ.fieldAddr rfl f_24_0 rfl) rfl rfl rfl ?_
        refine RegL.op (OpL.loadS1 rfl ag_22 sz_22 rfl rfl rfl) rfl rfl rfl ?_
        refine RegL.q (OpQ.lenSl rfl rfl rfl rfl u_22 rfl) rfl rfl rfl ?_
        refine RegL.q (OpQ.int2 rfl u_3 rfl rfl rfl rfl) rfl rfl rfl ?_
        refine RegL.q (OpQ.move rfl rfl) rfl rfl rfl ?_
        refine RegL.both rfl rfl rfl rfl (fun g1 => ?_) (fun g1 => ?_)
        have h1 := of_decide_eq_true g1
        refine RegL.go rfl rfl rfl rfl (by assumption) (OpL.q (OpQ.move rfl rfl)) rfl rfl ?_
        refine RegL.go rfl rfl rfl rfl (by assumption) (OpL.q (OpQ.int2 rfl u_3 rfl rfl rfl rfl)) rfl rfl ?_
        refine RegL.q (OpQ.pickT rfl rfl (by assumption) rfl) rfl rfl rfl ?_
        refine RegL.done ?_
        refine EvtL.cond rfl (fun g2 => ?_) (fun g2 => ?_)
        have h2 := of_decide_eq_true g2
        exact absurd h2 (by omega)
        have h2 := of_decide_eq_false g2
        refine EvtL.exit ?_
        refine cond_t rfl ?_
        refine EvtL.seqReg ?_
        refine RegL.q (OpQ.fieldAddr rfl f_24_0 rfl) rfl rfl rfl ?_
        refine RegL.op (OpL.loadS1 rfl ag_22 sz_22 rfl rfl rfl) rfl rfl rfl ?_
        refine RegL.q (OpQ.lenSl rfl rfl rfl rfl u_22 rfl) rfl rfl rfl ?_
        refine RegL.q (OpQ.int2 rfl u_3 rfl rfl rfl rfl) rfl rfl rfl ?_
        refine RegL.q (OpQ.assign rfl rfl) rfl rfl rfl ?_
        refine RegL.done ?_
        refine EvtL.ret ⟨.inl rfl, rfl, rfl, rfl, _, _, _, (res_tmp rfl rfl), rfl, rfl, ?_⟩
        exact boolRes rfl
        have h1 := of_decide_eq_false g1
        exact absurd h1 (by omega)
  · have hyes : (outs.take 91).all smallO = true := take_yes ha (.inl (by omega)) hi
    unfold smallE
    dsimp only
    rw [hyes]
    focus
      refine EvtL.seq ?_
      refine EvtL.seqReg ?_
      refine RegL.q (OpQ.move rfl rfl) rfl rfl rfl ?_
      refine RegL.q (OpQ.fieldAddr rfl f_24_0 rfl) rfl rfl rfl ?_
      refine RegL.op (OpL.loadS1 rfl ag_22 sz_22 rfl rfl rfl) rfl rfl rfl ?_
      refine RegL.q (OpQ.lenSl rfl rfl rfl rfl u_22 rfl) rfl rfl rfl ?_
      refine RegL.q (OpQ.int2 rfl u_3 rfl rfl rfl rfl) rfl rfl rfl ?_
      refine RegL.q (OpQ.move rfl rfl) rfl rfl rfl ?_
      refine RegL.both rfl rfl rfl rfl (fun g1 => ?_) (fun g1 => ?_)
      have h1 := of_decide_eq_true g1
      exact absurd h1 (by omega)
      have h1 := of_decide_eq_false g1
      refine RegL.skip rfl rfl rfl rfl (by assumption) rfl rfl ?_
      refine RegL.skip rfl rfl rfl rfl (by assumption) rfl rfl ?_
      refine RegL.q (OpQ.pickF rfl rfl (by assumption) rfl) rfl rfl rfl ?_
      refine RegL.done ?_
      refine EvtL.condF rfl rfl ?_
      refine EvtL.exit ?_
      refine cond_t rfl ?_
      refine EvtL.seqReg ?_
      refine RegL.q (OpQ.fieldAddr rfl f_24_0 rfl) rfl rfl rfl ?_
      refine RegL.op (OpL.loadS1 rfl ag_22 sz_22 rfl rfl rfl) rfl rfl rfl ?_
      refine RegL.q (OpQ.lenSl rfl rfl rfl rfl u_22 rfl) rfl rfl rfl ?_
      refine RegL.q (OpQ.int2 rfl u_3 rfl rfl rfl rfl) rfl rfl rfl ?_
      refine RegL.q (OpQ.assign rfl rfl) rfl rfl rfl ?_
      refine RegL.done ?_
      refine EvtL.ret ⟨.inl rfl, rfl, rfl, rfl, _, _, _, (res_tmp rfl rfl), rfl, rfl, ?_⟩
      exact boolRes rfl
theorem sizes_le : ∀ {l : List TermT}, (∀ t ∈ l, sizeT t ≤ 50) → sizeTs l ≤ 50 * l.length
  | [], _ => Nat.le_refl _
  | t :: l, h => by
    have h1 := h t (List.mem_cons_self ..)
    have h2 := sizes_le (l := l) fun u hu => h u (List.mem_cons_of_mem _ hu)
    show sizeT t + sizeTs l ≤ 50 * (l.length + 1)
    omega
theorem small_size {t : TermT} (h : smallT t = true) : sizeT t ≤ 50 := by
  have h := of_decide_eq_true h
  have := weigh_size t 50 14 h
  omega
theorem slim_ans {a : AnsT} (h : smallA a = true) : SlimA a := by
  unfold smallA at h
  rw [Bool.and_eq_true, Bool.and_eq_true] at h
  obtain ⟨h1, h2, h3⟩ := h
  have h3 := of_decide_eq_true h3
  have := sizes_le (l := a.vars) fun t ht => by
    obtain ⟨i, hi, rfl⟩ := List.mem_iff_getElem.1 ht
    exact small_size (List.all_eq_true.1 h1 _ (List.mem_take_iff_getElem.2 ⟨i, by omega, rfl⟩))
  exact ⟨by omega, Nat.le_trans (small_size h2) (by decide)⟩
theorem slim_end {e : EndT} (h : smallE e = true) : SlimE e := by
  unfold smallE at h
  rw [Bool.and_eq_true] at h
  obtain ⟨h1, h2⟩ := h
  have h2 := of_decide_eq_true h2
  refine ⟨by omega, fun a ha => ?_⟩
  obtain ⟨o, ho, rfl⟩ := List.mem_map.1 ha
  obtain ⟨i, hi, rfl⟩ := List.mem_iff_getElem.1 ho
  have := List.all_eq_true.1 h1 _ (List.mem_take_iff_getElem.2 ⟨i, by omega, rfl⟩)
  unfold smallO at this
  rw [Bool.and_eq_true] at this
  exact slim_ans this.2
end Go.Proofs.YtlclpmbeaofohaaGreat.So

/- The law of sorted answers. -/
open Go Am
namespace Go.Proofs.YtlclpmbeaofohaaGreat.So
theorem encO_inj (a b : OutT) (h : encO a = encO b) : a = b := by
  obtain ⟨p, ⟨v, o, n, k⟩, l⟩ := a
  obtain ⟨p', ⟨v', o', n', k'⟩, l'⟩ := b
  simp only [encO, List.cons.injEq, AV.int.injEq, and_true, true_and] at h
  obtain ⟨h1, h2, h3, h4, h5, h6⟩ := h
  obtain rfl := recs_inj encZ_inj encZ_len h1
  obtain rfl := recs_inj encTm_inj encTm_len h2
  obtain rfl := recs_inj encTm_inj encTm_len h5
  have h3 : o = o' := h3
  have h4 : n = n' := h4
  rw [h3, h4, h6]; rfl
theorem encE_inj (a b : EndT) (h : encE a = encE b) : a = b := by
  obtain ⟨a1, a2, a3, a4, a5, a6⟩ := a
  obtain ⟨b1, b2, b3, b4, b5, b6⟩ := b
  simp only [encE, List.cons.injEq, AV.int.injEq, and_true, true_and] at h
  obtain ⟨h1, rfl, rfl, rfl, rfl, rfl⟩ := h
  rw [recs_inj encO_inj encO_len h1]
def encE1 (e : EndT) : List AV := [.agg (encE e)]
noncomputable def Kg := addC Kf 4 encE1 (fun e => .bool (smallE e))
theorem allg (h : Given) : KnownAll Tryz.prog Kg := addC_allI h.ins (allf h) (fun e => smallE_to e) (fun _ => rfl) (fun _ => rfl)
abbrev EnT := { e : EndT // SlimE e }
def encEn (e : EnT) : List AV := [.agg (encE e.1)]
def resEn (e : EnT) : AV := recs encAn 4 (sortA (ansOf e.1))
theorem encEn_inj (x y : EnT) (h : encEn x = encEn y) : x = y := Subtype.ext (encE_inj _ _ (AV.agg.inj (List.cons.inj h).1))
theorem lst_weak (l : List AnsT) : Weak (lstAn l) (recs encAn 4 l) := by
  cases l with
  | nil => exact .nil 4
  | cons a l => exact .refl _
theorem lst_closed (l : List AnsT) : closedV 40 (lstAn l) = true := by cases l <;> rfl
noncomputable def Kh := addC Kg 6 encEn resEn
theorem allh (h : Given) : KnownAll Tryz.prog Kh :=
  addC_known (allg h) fun e => (known_ofI h.ins (all6 h) (sorted_to e.1 e.2) rfl (lst_closed _)).weak (.refl _) (lst_weak _)
noncomputable def Ki := addC Kh 8 encEn resEn
theorem alli (h : Given) : KnownAll Tryz.prog Ki :=
  addC_known (allh h) fun e => (known_ofI h.ins (all9 h) (sortedR_to e.1 e.2) rfl (lst_closed _)).weak (.refl _) (lst_weak _)
theorem hit_4 (e : EndT) : Kg 4 [.agg (encE e)] = some (.bool (smallE e)) := addC_hit (enc := encE1) (res := fun e => .bool (smallE e)) (fun a b h => by rw [encE_inj a b (AV.agg.inj (List.cons.inj h).1)]) e
theorem hit_6 {e : EndT} (h : SlimE e) : Kh 6 [.agg (encE e)] = some (recs encAn 4 (sortA (ansOf e))) := addC_hit (enc := encEn) (res := resEn) (fun a b h => by rw [encEn_inj a b h]) ⟨e, h⟩
theorem hit_8 {e : EndT} (h : SlimE e) : Ki 8 [.agg (encE e)] = some (recs encAn 4 (sortA (ansOf e))) := addC_hit (enc := encEn) (res := resEn) (fun a b h => by rw [encEn_inj a b h]) ⟨e, h⟩
theorem hit_7 {l : List AnsT} (h : l.length ≤ 4000) (hs : ∀ a ∈ l, SlimA a) : Kd 7 [recs encAn 4 l, recs encAn 4 l] = some (.bool true) := addC_hit (enc := encSl) (res := resTr) (fun a b _ => rfl) ⟨l, h, hs⟩
theorem law_to (e : EndT) : CallTo (EK Ki) 3 [.agg (encE e)] S0 (.bool true) := by
  have hit_4 : Ki 4 [.agg (encE e)] = some (.bool (smallE e)) := hit_4 e
  have hit_5 : Ki 5 [] = some (.bool true) := rfl
  cases hs : smallE e with
  | false =>
    obtain ⟨outs, lk, fa, wa, lo, op⟩ := e
    rw [hs] at hit_4
    unfold encE at *
    refine CallTo.s0 (fn := Tryz.f3) rfl rfl (by kernel_rfl) rfl rfl rfl rfl ?_
    refine EvtL.seqReg ?_
    refine RegL.op (OpL.boxS 1 rfl rfl rfl rfl) rfl rfl rfl ?_
    refine RegL.q (OpQ.assign rfl rfl) rfl rfl rfl ?_
    refine RegL.done ?_
    refine EvtL.seq ?_
    refine EvtL.seqReg ?_
    refine RegL.op (OpL.loadSA rfl ag_24 sz_24 rfl rfl (Nat.le_of_ble_eq_true rfl)) rfl rfl rfl ?_
    refine RegL.op (OpL.callFn rfl rfl (by kernel_rfl) rfl (CallTo.memo (hit_4))) rfl rfl rfl ?_
    refine RegL.q (OpQ.not rfl rfl) rfl rfl rfl ?_
    refine RegL.done ?_
    refine EvtL.condT rfl rfl ?_
    refine EvtL.seqReg ?_
    refine RegL.op (OpL.callFn rfl rfl (by kernel_rfl) rfl (CallTo.memo (hit_5))) rfl rfl rfl ?_
    refine RegL.q (OpQ.assign rfl rfl) rfl rfl rfl ?_
    refine RegL.done ?_
    refine EvtL.ret ⟨.inl rfl, rfl, rfl, rfl, _, _, _, (res_tmp rfl rfl), rfl, rfl, ?_⟩
    exact boolRes rfl
  | true =>
    have hsl := slim_end hs
    have hit_6 : Ki 6 [.agg (encE e)] = some (recs encAn 4 (sortA (ansOf e))) := hit_6 hsl
    have hit_8 : Ki 8 [.agg (encE e)] = some (recs encAn 4 (sortA (ansOf e))) := hit_8 hsl
    obtain ⟨i1, i2, i3⟩ := sort_inv (ansOf e) (ansOf e).length (Nat.le_refl _)
    rw [List.take_length] at i1 i2 i3
    have hle : (ansOf e).length = e.outs.length := List.length_map ..
    have hlo := hsl.1
    have hit_7 : Ki 7 [recs encAn 4 (sortA (ansOf e)), recs encAn 4 (sortA (ansOf e))] = some (.bool true) := hit_7 (by omega) fun a ha => hsl.2 a (i3 a ha)
    generalize sortA (ansOf e) = L at *
    obtain ⟨outs, lk, fa, wa, lo, op⟩ := e
    rw [hs] at hit_4
    have hL : L.length ≤ outs.length := by rw [hle] at i2; exact i2
    unfold encE at *
    refine CallTo.s0 (fn := Tryz.f3) rfl rfl (by kernel_rfl) rfl rfl rfl rfl ?_
    focus
      refine EvtL.seqReg ?_
      refine RegL.op (OpL.boxS 1 rfl rfl rfl rfl) rfl rfl rfl ?_
      refine RegL.q (OpQ.assign rfl rfl) rfl rfl rfl ?_
      refine RegL.done ?_
      refine EvtL.seq ?_
      refine EvtL.seqReg ?_
      refine RegL.op (OpL.loadSA rfl ag_24 sz_24 rfl rfl (Nat.le_of_ble_eq_true rfl)) rfl rfl rfl ?_
      refine RegL.op (OpL.callFn rfl rfl (by kernel_rfl) rfl (CallTo.memo (hit_4))) rfl rfl rfl ?_
      refine RegL.q (OpQ.not rfl rfl) rfl rfl rfl ?_
      refine RegL.done ?_
      refine EvtL.condF rfl rfl ?_
      refine EvtL.skip ?_
      refine EvtL.seqReg ?_
      refine RegL.op (OpL.loadSA rfl ag_24 sz_24 rfl rfl (Nat.le_of_ble_eq_true rfl)) rfl rfl rfl ?_
      refine RegL.op (OpL.callFn rfl rfl (by kernel_rfl) rfl (CallTo.memo (hit_6))) rfl rfl rfl ?_
      refine RegL.q (OpQ.assign rfl rfl) rfl rfl rfl ?_
      refine RegL.done ?_
      refine EvtL.seqReg ?_
      refine RegL.q (OpQ.move rfl rfl) rfl rfl rfl ?_
      refine RegL.q (OpQ.lenSl rfl rfl rfl rfl u_27 rfl) rfl rfl rfl ?_
      refine RegL.q (OpQ.fieldAddr rfl f_24_0 rfl) rfl rfl rfl ?_
      refine RegL.op (OpL.loadS1 rfl ag_22 sz_22 rfl rfl rfl) rfl rfl rfl ?_
      refine RegL.q (OpQ.lenSl rfl rfl rfl rfl u_22 rfl) rfl rfl rfl ?_
      refine RegL.q (OpQ.int2 rfl u_3 rfl rfl rfl rfl) rfl rfl rfl ?_
      refine RegL.q (OpQ.move rfl rfl) rfl rfl rfl ?_
      refine RegL.both rfl rfl rfl rfl (fun g1 => ?_) (fun g1 => ?_)
      have h1 := of_decide_eq_true g1
      refine RegL.go rfl rfl rfl rfl (by assumption) (OpL.q (OpQ.move rfl rfl)) rfl rfl ?_
      refine RegL.go rfl rfl rfl rfl (by assumption) (OpL.loadSA rfl ag_24 sz_24 rfl rfl (Nat.le_of_ble_eq_true rfl)) rfl rfl ?_
      refine RegL.go rfl rfl rfl rfl (by assumption) (OpL.callFn rfl rfl (by kernel_rfl) rfl (CallTo.memo (hit_8))) rfl rfl ?_
      refine RegL.go rfl rfl rfl rfl (by assumption) (OpL.callFn rfl rfl (by kernel_rfl) rfl (CallTo.memo (hit_7))) rfl rfl ?_
      refine RegL.q (OpQ.pickT rfl rfl (by assumption) rfl) rfl rfl rfl ?_
      refine RegL.q (OpQ.move rfl rfl) rfl rfl rfl ?_
      refine RegL.go rfl rfl rfl rfl rfl (OpL.callFn rfl rfl (by kernel_rfl) rfl (CallTo.memo (hit_5))) rfl rfl ?_
      refine RegL.q (OpQ.pickT rfl rfl rfl rfl) rfl rfl rfl ?_
      refine RegL.q (OpQ.assign rfl rfl) rfl rfl rfl ?_
      refine RegL.done ?_
      refine EvtL.ret ⟨.inl rfl, rfl, rfl, rfl, _, _, _, (res_tmp rfl rfl), rfl, rfl, ?_⟩
      exact boolRes rfl
      have h1 := of_decide_eq_false g1
      exact absurd h1 (by omega)
end Go.Proofs.YtlclpmbeaofohaaGreat.So

/- The law of sorted answers, as a whole call; ends as arguments. -/
open Go Am
namespace Go.Proofs.YtlclpmbeaofohaaGreat.So
section
variable {P : Program}
theorem data_int {t : TypeId} {k : IntKind} {l : List AV} (h : Am.Data P t l) (hu : P.underlying t = some (.int k)) : ∃ n, l = [.int k n] := by
  cases h with
  | int h => rw [hu] at h; cases h; exact ⟨_, rfl⟩
  | bool h | str h | sl h | st h => rw [hu] at h; cases h
theorem data_sl {t e : TypeId} {l : List AV} (h : Am.Data P t l) (hu : P.underlying t = some (.slice e)) : ∃ ls : List (List AV), l = [.islice ls.flatten ls.length (P.cellsOf e) true] ∧ ∀ x ∈ ls, Am.Data P e x := by
  cases h with
  | sl h hn hl hd => rw [hu] at h; cases h; exact ⟨_, rfl, hd⟩
  | bool h | int h | str h | st h => rw [hu] at h; cases h
theorem data_st {t : TypeId} {fs : Array Field} {l : List AV} (h : Am.Data P t l) (hu : P.underlying t = some (.struct fs)) : ∃ ls : List (List AV), l = ls.flatten ∧ ls.length = fs.toList.length ∧ ∀ (i : Nat) f x, fs.toList[i]? = some f → ls[i]? = some x → Am.Data P f.type x := by
  cases h with
  | st h hl hd => rw [hu] at h; cases h; exact ⟨_, rfl, hl, hd⟩
  | bool h | int h | str h | sl h => rw [hu] at h; cases h
theorem list_dec {α : Type} {enc : α → List AV} : ∀ {ls : List (List AV)}, (∀ l ∈ ls, ∃ a, l = enc a) → ∃ xs : List α, ls = xs.map enc
  | [], _ => ⟨[], rfl⟩
  | l :: ls, h => by
    obtain ⟨a, rfl⟩ := h l (List.mem_cons_self ..)
    obtain ⟨xs, rfl⟩ := list_dec (ls := ls) fun x hx => h x (List.mem_cons_of_mem _ hx)
    exact ⟨a :: xs, rfl⟩
/-- A slice of records. -/
theorem data_recs {α : Type} {enc : α → List AV} {t e : TypeId} {k : Nat} {l : List AV} (h : Am.Data P t l) (hu : P.underlying t = some (.slice e)) (hk : P.cellsOf e = k) (hd : ∀ x, Am.Data P e x → ∃ a, x = enc a) : ∃ xs : List α, l = [recs enc k xs] := by
  obtain ⟨ls, rfl, hm⟩ := data_sl h hu
  obtain ⟨xs, rfl⟩ := list_dec fun x hx => hd x (hm x hx)
  refine ⟨xs, ?_⟩
  unfold recs
  rw [hk, List.length_map, List.flatMap_def]
end
/-- A type's fields. -/
noncomputable def fieldsOf (t : TypeId) : Array Field := match Tryz.prog.underlying t with
  | some (.struct fs) => fs
  | _ => #[]
noncomputable def ftype (t : TypeId) (i : Nat) : Option TypeId := ((fieldsOf t).toList[i]?).map Field.type
theorem data_field {t : TypeId} {ls : List (List AV)} (hd : ∀ (i : Nat) f x, (fieldsOf t).toList[i]? = some f → ls[i]? = some x → Am.Data Tryz.prog f.type x) {i : Nat} {u : TypeId} {x : List AV} (h : ftype t i = some u) (hx : ls[i]? = some x) : Am.Data Tryz.prog u x := by
  unfold ftype at h
  obtain ⟨f, hf, rfl⟩ := Option.map_eq_some_iff.1 h
  exact hd i f x hf hx
theorem und_term : Tryz.prog.underlying 34 = some (.struct (fieldsOf 34)) := by kernel_rfl
theorem und_terms : Tryz.prog.underlying 31 = some (.slice 34) := by kernel_rfl
/-- Terms, and lists of terms. -/
theorem data_tm {t : TypeId} {x : List AV} (h : Am.Data Tryz.prog t x) : (t = 34 → ∃ u, x = encTm u) ∧ (t = 31 → ∃ us, x = [recs encTm 3 us]) := by
  induction h with
  | bool h | int h | str h =>
    refine ⟨fun e => ?_, fun e => ?_⟩
    · subst e; rw [und_term] at h; cases h
    · subst e; rw [und_terms] at h; cases h
  | sl h hn hl hd ih =>
    refine ⟨fun e => (by subst e; rw [und_term] at h; cases h), fun e => ?_⟩
    subst e
    rw [und_terms] at h
    cases h
    obtain ⟨xs, rfl⟩ := list_dec (enc := encTm) fun l hl => (ih l hl).1 rfl
    refine ⟨xs, ?_⟩
    unfold recs
    rw [show Tryz.prog.cellsOf 34 = 3 by kernel_rfl, List.length_map, List.flatMap_def]
  | st h hl hd ih =>
    refine ⟨fun e => ?_, fun e => (by subst e; rw [und_terms] at h; cases h)⟩
    subst e
    rw [und_term] at h
    obtain rfl := TypeDesc.struct.inj (Option.some.inj h)
    rw [show (fieldsOf 34).toList.length = 3 by kernel_rfl] at hl
    rename_i ls
    obtain ⟨a, b, c, rfl⟩ : ∃ a b c, ls = [a, b, c] := by
      match ls, hl with
      | [a, b, c], _ => exact ⟨a, b, c, rfl⟩
    obtain ⟨o, rfl⟩ := data_int (k := .i64) (data_field hd (i := 0) (u := 32) (by kernel_rfl) rfl) (by kernel_rfl)
    obtain ⟨n, rfl⟩ := data_int (k := .i64) (data_field hd (i := 1) (u := 3) (by kernel_rfl) rfl) (by kernel_rfl)
    obtain ⟨f, hf, ht⟩ := Option.map_eq_some_iff.1 (show ftype 34 2 = some 31 by kernel_rfl)
    obtain ⟨ks, rfl⟩ := (ih 2 f c hf rfl).2 ht
    exact ⟨.mk o n ks, (encTm_mk o n ks).symm⟩
theorem data_T {x : List AV} (h : Am.Data Tryz.prog 34 x) : ∃ t, x = encTm t := (data_tm h).1 rfl
theorem data_Ts {x : List AV} (h : Am.Data Tryz.prog 31 x) : ∃ ts, x = [recs encTm 3 ts] := (data_tm h).2 rfl
theorem data_A {x : List AV} (h : Am.Data Tryz.prog 36 x) : ∃ a, x = encAn a := by
  obtain ⟨ls, rfl, hl, hd⟩ := data_st (fs := fieldsOf 36) h (by kernel_rfl)
  have hl : ls.length = 2 := hl.trans (by kernel_rfl)
  match ls, hl, hd with
  | [a, b], _, hd =>
    obtain ⟨v, rfl⟩ := data_Ts (data_field hd (i := 0) (u := 31) (by kernel_rfl) rfl)
    obtain ⟨t, rfl⟩ := data_T (data_field hd (i := 1) (u := 34) (by kernel_rfl) rfl)
    exact ⟨⟨v, t⟩, by rw [encTm_eq]; rfl⟩
theorem data_Z {x : List AV} (h : Am.Data Tryz.prog 3 x) : ∃ n, x = encZ n := data_int h (by kernel_rfl)
theorem data_Zs {x : List AV} (h : Am.Data Tryz.prog 30 x) : ∃ ns, x = [recs encZ 1 ns] := data_recs h (e := 3) (by kernel_rfl) (by kernel_rfl) fun _ h => data_Z h
theorem data_O {x : List AV} (h : Am.Data Tryz.prog 38 x) : ∃ o, x = encO o := by
  obtain ⟨ls, rfl, hl, hd⟩ := data_st (fs := fieldsOf 38) h (by kernel_rfl)
  have hl : ls.length = 3 := hl.trans (by kernel_rfl)
  match ls, hl, hd with
  | [a, b, c], _, hd =>
    obtain ⟨p, rfl⟩ := data_Zs (data_field hd (i := 0) (u := 30) (by kernel_rfl) rfl)
    obtain ⟨t, rfl⟩ := data_A (data_field hd (i := 1) (u := 36) (by kernel_rfl) rfl)
    obtain ⟨n, rfl⟩ := data_Z (data_field hd (i := 2) (u := 3) (by kernel_rfl) rfl)
    exact ⟨⟨p, t, n⟩, rfl⟩
theorem data_E {x : List AV} (h : Am.Data Tryz.prog 24 x) : ∃ e, x = encE e := by
  obtain ⟨ls, rfl, hl, hd⟩ := data_st (fs := fieldsOf 24) h (by kernel_rfl)
  have hl : ls.length = 6 := hl.trans (by kernel_rfl)
  match ls, hl, hd with
  | [a, b, c, d, e, f], _, hd =>
    obtain ⟨os, rfl⟩ := data_recs (enc := encO) (data_field hd (i := 0) (u := 22) (by kernel_rfl) rfl) (e := 38) (k := 6) (by kernel_rfl) (by kernel_rfl) fun _ h => data_O h
    obtain ⟨n1, rfl⟩ := data_Z (data_field hd (i := 1) (u := 3) (by kernel_rfl) rfl)
    obtain ⟨n2, rfl⟩ := data_Z (data_field hd (i := 2) (u := 3) (by kernel_rfl) rfl)
    obtain ⟨n3, rfl⟩ := data_Z (data_field hd (i := 3) (u := 3) (by kernel_rfl) rfl)
    obtain ⟨n4, rfl⟩ := data_Z (data_field hd (i := 4) (u := 3) (by kernel_rfl) rfl)
    obtain ⟨n5, rfl⟩ := data_Z (data_field hd (i := 5) (u := 3) (by kernel_rfl) rfl)
    exact ⟨⟨os, n1, n2, n3, n4, n5⟩, rfl⟩
theorem sorts_calls (h : Given) (w : World) (e : EndT) {x : Value} (hx : VR (Cx.memory w) (.agg (encE e)) x) :
    Calls Tryz.prog 3 #[x] w fun e w' => e = .returned (.bool true) ∧ Go.RowKit.Below w.heap.size w w' :=
  callsI_of h.ins (alli h) (args := [.agg (encE e)]) (by rfl) (law_to e) (.cons hx .nil)
end Go.Proofs.YtlclpmbeaofohaaGreat.So
