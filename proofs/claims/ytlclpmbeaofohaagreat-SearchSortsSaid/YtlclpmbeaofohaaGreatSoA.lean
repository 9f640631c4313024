/- Sorted answers: terms, their order, binary search. -/
import Derived.Test.YtlclpmbeaofohaaGreatAmH
import Derived.Test.YtlclpmbeaofohaaGreatProg
import Derived.KernelRfl
set_option linter.unusedSectionVars false
set_option linter.unusedVariables false
set_option linter.unusedSimpArgs false

/- What holds of the program's types. -/
open Go Am
namespace Go.Proofs.YtlclpmbeaofohaaGreat.So
/-- What slices.Clone hands back may still be written. -/
def frzS (f : FuncId) : Nat := bif Nat.beq f 49 then 0 else 1
/-- The environment in which slices.Insert is one step. -/
noncomputable abbrev EK (K : FuncId → List AV → Option AV) : Env := envI Tryz.prog 1200 1200 frzS K 24 36 4 64
section
variable {K : FuncId → List AV → Option AV}
theorem u_3 : und (EK K) 3 = some (.int .i64) := by kernel_rfl
theorem sz_3 : Am.sizeOf (EK K) 3 = some 1 := by kernel_rfl
theorem ag_3 : Am.isAgg (EK K) 3 = some false := by kernel_rfl
theorem z_3 : Am.zeroOf (EK K) 3 = some (.int .i64 0) := by kernel_rfl
theorem u_22 : und (EK K) 22 = some (.slice 38) := by kernel_rfl
theorem sz_22 : Am.sizeOf (EK K) 22 = some 1 := by kernel_rfl
theorem ag_22 : Am.isAgg (EK K) 22 = some false := by kernel_rfl
theorem f_24_0 : fieldOf (EK K) 24 0 = some (0, 1, false) := by kernel_rfl
theorem sz_24 : Am.sizeOf (EK K) 24 = some 6 := by kernel_rfl
theorem ag_24 : Am.isAgg (EK K) 24 = some true := by kernel_rfl
theorem u_27 : und (EK K) 27 = some (.slice 36) := by kernel_rfl
theorem u_30 : und (EK K) 30 = some (.slice 3) := by kernel_rfl
theorem sz_30 : Am.sizeOf (EK K) 30 = some 1 := by kernel_rfl
theorem ag_30 : Am.isAgg (EK K) 30 = some false := by kernel_rfl
theorem u_31 : und (EK K) 31 = some (.slice 34) := by kernel_rfl
theorem sz_31 : Am.sizeOf (EK K) 31 = some 1 := by kernel_rfl
theorem ag_31 : Am.isAgg (EK K) 31 = some false := by kernel_rfl
theorem u_32 : und (EK K) 32 = some (.int .i64) := by kernel_rfl
theorem sz_32 : Am.sizeOf (EK K) 32 = some 1 := by kernel_rfl
theorem ag_32 : Am.isAgg (EK K) 32 = some false := by kernel_rfl
theorem f_34_0 : fieldOf (EK K) 34 0 = some (0, 1, false) := by kernel_rfl
theorem f_34_1 : fieldOf (EK K) 34 1 = some (1, 1, false) := by kernel_rfl
theorem f_34_2 : fieldOf (EK K) 34 2 = some (2, 1, false) := by kernel_rfl
theorem sz_34 : Am.sizeOf (EK K) 34 = some 3 := by kernel_rfl
theorem ag_34 : Am.isAgg (EK K) 34 = some true := by kernel_rfl
theorem z_34 : Am.zeroOf (EK K) 34 = some (.agg [.int .i64 0, .int .i64 0, .nilslice]) := by kernel_rfl
theorem by_34 : bytesOf (EK K) 34 = some 40 := by kernel_rfl
theorem pl_34 : Am.buildPlan (EK K) 34 = some ([.int .i64 0, .int .i64 0, .nilslice], nth [(0, 1), (1, 1), (2, 1)]) := by kernel_rfl
theorem f_36_0 : fieldOf (EK K) 36 0 = some (0, 1, false) := by kernel_rfl
theorem f_36_1 : fieldOf (EK K) 36 1 = some (1, 3, true) := by kernel_rfl
theorem sz_36 : Am.sizeOf (EK K) 36 = some 4 := by kernel_rfl
theorem ag_36 : Am.isAgg (EK K) 36 = some true := by kernel_rfl
theorem z_36 : Am.zeroOf (EK K) 36 = some (.agg [.nilslice, .int .i64 0, .int .i64 0, .nilslice]) := by kernel_rfl
theorem by_36 : bytesOf (EK K) 36 = some 64 := by kernel_rfl
theorem pl_36 : Am.buildPlan (EK K) 36 = some ([.nilslice, .int .i64 0, .int .i64 0, .nilslice], nth [(0, 1), (1, 3)]) := by kernel_rfl
theorem f_38_0 : fieldOf (EK K) 38 0 = some (0, 1, false) := by kernel_rfl
theorem f_38_1 : fieldOf (EK K) 38 1 = some (1, 4, true) := by kernel_rfl
theorem sz_38 : Am.sizeOf (EK K) 38 = some 6 := by kernel_rfl
theorem ag_38 : Am.isAgg (EK K) 38 = some true := by kernel_rfl
theorem z_38 : Am.zeroOf (EK K) 38 = some (.agg [.nilslice, .nilslice, .int .i64 0, .int .i64 0, .nilslice, .int .i64 0]) := by kernel_rfl
theorem u_114 : und (EK K) 114 = some (.int .u64) := by kernel_rfl
end
end Go.Proofs.YtlclpmbeaofohaaGreat.So

/- Terms: how heavy they are. -/
open Go Am
namespace Go.Proofs.YtlclpmbeaofohaaGreat.So
theorem flat_inj {α : Type} {enc : α → List AV} {k : Nat} (hi : ∀ a b, enc a = enc b → a = b) (hl : ∀ a, (enc a).length = k + 1) : ∀ {l m : List α}, l.flatMap enc = m.flatMap enc → l = m
  | [], [], _ => rfl
  | [], b :: m, h => by
    have := congrArg List.length h
    rw [List.flatMap_cons, List.length_append, hl b, List.flatMap_nil, List.length_nil] at this
    omega
  | a :: l, [], h => by
    have := congrArg List.length h
    rw [List.flatMap_cons, List.length_append, hl a, List.flatMap_nil, List.length_nil] at this
    omega
  | a :: l, b :: m, h => by
    rw [List.flatMap_cons, List.flatMap_cons] at h
    obtain ⟨h1, h2⟩ := List.append_inj h ((hl a).trans (hl b).symm)
    rw [hi a b h1, flat_inj hi hl h2]
theorem recs_inj {α : Type} {enc : α → List AV} {k : Nat} (hi : ∀ a b, enc a = enc b → a = b) (hl : ∀ a, (enc a).length = k + 1) {l m : List α} (h : recs enc (k + 1) l = recs enc (k + 1) m) : l = m := by
  unfold recs at h
  exact flat_inj hi hl (AV.islice.inj h).1
inductive TermT where
  | mk (op n : Int) (kids : List TermT)
def TermT.op : TermT → Int | .mk o _ _ => o
def TermT.n : TermT → Int | .mk _ n _ => n
def TermT.kids : TermT → List TermT | .mk _ _ k => k
mutual
def encTm : TermT → List AV
  | .mk o n ks => [.int .i64 o, .int .i64 n, .islice (encTms ks) ks.length 3 true]
def encTms : List TermT → List AV
  | [] => []
  | t :: ts => encTm t ++ encTms ts
end
theorem encTms_flat : ∀ l : List TermT, encTms l = l.flatMap encTm
  | [] => rfl
  | t :: ts => by rw [List.flatMap_cons, ← encTms_flat ts]; rfl
theorem encTm_mk (o n : Int) (ks : List TermT) : encTm (.mk o n ks) = [.int .i64 o, .int .i64 n, recs encTm 3 ks] := by
  show [_, _, AV.islice (encTms ks) _ _ _] = _
  rw [encTms_flat]; rfl
theorem encTm_eq (t : TermT) : encTm t = [.int .i64 t.op, .int .i64 t.n, recs encTm 3 t.kids] := by
  obtain ⟨o, n, ks⟩ := t
  exact encTm_mk o n ks
theorem encTm_len (t : TermT) : (encTm t).length = 2 + 1 := by rw [encTm_eq]; rfl
mutual
def deepT : TermT → Nat
  | .mk _ _ ks => deepTs ks + 1
def deepTs : List TermT → Nat
  | [] => 0
  | t :: ts => max (deepT t) (deepTs ts)
end
mutual
def sizeT : TermT → Nat
  | .mk _ _ ks => sizeTs ks + 1
def sizeTs : List TermT → Nat
  | [] => 0
  | t :: ts => sizeT t + sizeTs ts
end
mutual
def weighT : TermT → Int → Int → Int
  | .mk _ _ ks, l, d => if l < 1 ∨ d < 1 then -1 else weighTs ks (l - 1) (d - 1)
def weighTs : List TermT → Int → Int → Int
  | [], l, _ => l
  | t :: ts, l, d => if 0 ≤ l then weighTs ts (weighT t l d) d else l
end
theorem deepT_eq (t : TermT) : deepT t = deepTs t.kids + 1 := by cases t; rfl
theorem deep_kid : ∀ {l : List TermT} {t : TermT}, t ∈ l → deepT t ≤ deepTs l
  | u :: l, t, h => by
    show deepT t ≤ max (deepT u) (deepTs l)
    rcases List.mem_cons.1 h with rfl | h
    · exact Nat.le_max_left _ _
    · exact Nat.le_trans (deep_kid h) (Nat.le_max_right _ _)
theorem sizeT_eq (t : TermT) : sizeT t = sizeTs t.kids + 1 := by cases t; rfl
theorem size_kid : ∀ {l : List TermT} {t : TermT}, t ∈ l → sizeT t ≤ sizeTs l
  | u :: l, t, h => by
    show sizeT t ≤ sizeT u + sizeTs l
    rcases List.mem_cons.1 h with rfl | h
    · omega
    · have := size_kid h; omega
mutual
theorem weigh_le : ∀ (t : TermT) (l d : Int), -1 ≤ l → -1 ≤ weighT t l d ∧ weighT t l d ≤ max (l - 1) (-1)
  | .mk _ _ ks, l, d, h => by
    unfold weighT
    split
    · omega
    · have := weighs_le ks (l - 1) (d - 1) (by omega)
      omega
theorem weighs_le : ∀ (ts : List TermT) (l d : Int), -1 ≤ l → -1 ≤ weighTs ts l d ∧ weighTs ts l d ≤ l
  | [], l, d, h => by
    unfold weighTs
    omega
  | t :: ts, l, d, h => by
    unfold weighTs
    split
    · have h1 := weigh_le t l d h
      have h2 := weighs_le ts (weighT t l d) d h1.1
      omega
    · omega
end
mutual
/-- A term that is not too heavy has so many nodes. -/
theorem weigh_size : ∀ (t : TermT) (l d : Int), 0 ≤ weighT t l d → weighT t l d + sizeT t = l
  | .mk _ _ ks, l, d, h => by
    unfold weighT at h ⊢
    rw [sizeT_eq]
    split at h
    · omega
    · next hn =>
      rw [if_neg hn]
      have := weighs_size ks (l - 1) (d - 1) h
      show _ + ((sizeTs ks + 1 : Nat) : Int) = _
      omega
theorem weighs_size : ∀ (ts : List TermT) (l d : Int), 0 ≤ weighTs ts l d → weighTs ts l d + sizeTs ts = l
  | [], l, d, _ => by
    show l + ((0 : Nat) : Int) = l
    omega
  | t :: ts, l, d, h => by
    unfold weighTs at h ⊢
    split at h
    · next hl =>
      rw [if_pos hl]
      have h2 := weighs_size ts _ d h
      have h1 := weigh_size t l d (by omega)
      show _ + ((sizeT t + sizeTs ts : Nat) : Int) = _
      omega
    · omega
end
theorem weighs_stop : ∀ {ts : List TermT} {l d : Int}, ¬ 0 ≤ l → weighTs ts l d = l
  | [], _, _, _ => rfl
  | _ :: _, _, _, h => by unfold weighTs; rw [if_neg h]
theorem encTm_injN : ∀ (n : Nat) (t u : TermT), deepT t ≤ n → encTm t = encTm u → t = u
  | 0, t, u, h, _ => by rw [deepT_eq] at h; omega
  | n + 1, t, u, h, e => by
    rw [deepT_eq] at h
    rw [encTm_eq, encTm_eq] at e
    obtain ⟨o, m, ks⟩ := t
    obtain ⟨o', m', ks'⟩ := u
    simp only [List.cons.injEq, AV.int.injEq, true_and, and_true] at e
    obtain ⟨e1, e2, e3⟩ := e
    have e1 : o = o' := e1
    have e2 : m = m' := e2
    have e3 : ks.flatMap encTm = ks'.flatMap encTm := (AV.islice.inj e3).1
    have key : ∀ {a b : List TermT}, (∀ t ∈ a, deepT t ≤ n) → a.flatMap encTm = b.flatMap encTm → a = b := by
      intro a
      induction a with
      | nil => intro b _ h; cases b with
        | nil => rfl
        | cons u b => rw [List.flatMap_cons, encTm_eq u] at h; cases h
      | cons t a ih => intro b hd h; cases b with
        | nil => rw [List.flatMap_cons, encTm_eq t] at h; cases h
        | cons u b =>
          rw [List.flatMap_cons, List.flatMap_cons] at h
          obtain ⟨h1, h2⟩ := List.append_inj h (by rw [encTm_len, encTm_len])
          rw [encTm_injN n t u (hd t (List.mem_cons_self ..)) h1, ih (fun x hx => hd x (List.mem_cons_of_mem _ hx)) h2]
    rw [e1, e2, key (fun t ht => by have := deep_kid ht; have : deepTs ks + 1 ≤ n + 1 := h; omega) e3]
theorem encTm_inj (t u : TermT) (h : encTm t = encTm u) : t = u := encTm_injN _ t u (Nat.le_refl _) h
theorem tm_closed (t : TermT) : closedV 40 (.agg (encTm t)) = true := by rw [encTm_eq]; rfl
/-- What is known from elsewhere: the closed part, and what slices.Clone makes of nothing. -/
def K0 : FuncId → List AV → Option AV := fun f args => match f with
  | 5 => match args with
    | [] => some (.bool true)
    | _ => none
  | 49 => match args with
    | [.islice [] 0 3 true] => some (.islice [] 0 3 true)
    | _ => none
  | _ => none
abbrev WgT := { p : TermT × Int × Int // (-1 ≤ p.2.1 ∧ p.2.1 ≤ 1000) ∧ 0 ≤ p.2.2 ∧ p.2.2 ≤ 1000 }
def encWg (p : WgT) : List AV := [.agg (encTm p.1.1), .int .i64 p.1.2.1, .int .i64 p.1.2.2]
def resWg (p : WgT) : AV := .int .i64 (weighT p.1.1 p.1.2.1 p.1.2.2)
theorem encWg_inj (x y : WgT) (h : encWg x = encWg y) : x = y := by
  obtain ⟨⟨a, b, c⟩, _⟩ := x
  obtain ⟨⟨a', b', c'⟩, _⟩ := y
  simp only [encWg, List.cons.injEq, AV.int.injEq, AV.agg.injEq, true_and, and_true] at h
  obtain ⟨h1, rfl, rfl⟩ := h
  obtain rfl := encTm_inj _ _ h1
  rfl
noncomputable abbrev KW := lay K0 52 encWg resWg (fun p => deepT p.1.1)
theorem idx_tm {l : List TermT} {i : Nat} (h : i < l.length) : idxSliceV (2 + 1) i (recs encTm 3 l) = some (.iptr (encTm l[i] ++ (l.drop (i + 1)).flatMap encTm)) := recs_idx encTm_len h
theorem weigh_to (d : Nat) (t : TermT) (l m : Int) (h : deepT t = d + 1) (hl : -1 ≤ l ∧ l ≤ 1000) (hm : 0 ≤ m) (hm2 : m ≤ 1000) (hx : KW d 52 [.agg (encTm t), .int .i64 l, .int .i64 m] = none) : CallTo (EK (KW d)) 52 [.agg (encTm t), .int .i64 l, .int .i64 m] S0 (.int .i64 (weighT t l m)) := by
  rw [encTm_eq] at hx ⊢
  refine CallTo.s0 (fn := Tryz.f52) rfl hx (by kernel_rfl) rfl rfl rfl rfl ?_
  obtain ⟨o, n, ks⟩ := t
  have hdk : deepTs ks ≤ d := by have : deepTs ks + 1 = d + 1 := h; omega
  focus
    refine EvtL.seqReg ?_
    refine RegL.op (OpL.boxS 1 rfl rfl rfl rfl) rfl rfl rfl ?_
    refine RegL.q (OpQ.assign rfl rfl) rfl rfl rfl ?_
    refine RegL.done ?_
    refine EvtL.seq ?_
    refine EvtL.seqReg ?_
    refine RegL.q (OpQ.move rfl rfl) rfl rfl rfl ?_
    refine RegL.q (OpQ.int2 rfl u_3 rfl rfl rfl rfl) rfl rfl rfl ?_
    refine RegL.q (OpQ.move rfl rfl) rfl rfl rfl ?_
    refine RegL.both rfl rfl rfl rfl (fun g1 => ?_) (fun g1 => ?_)
    have h1 := of_decide_eq_true g1
    refine RegL.skip rfl rfl rfl rfl (by assumption) rfl rfl ?_
    refine RegL.skip rfl rfl rfl rfl (by assumption) rfl rfl ?_
    refine RegL.q (OpQ.pickT rfl rfl (by assumption) rfl) rfl rfl rfl ?_
    refine RegL.done ?_
    refine EvtL.condT rfl rfl ?_
    refine EvtL.seqReg ?_
    refine RegL.q (OpQ.assign rfl rfl) rfl rfl rfl ?_
    refine RegL.done ?_
    refine EvtL.ret ⟨.inl rfl, rfl, rfl, rfl, _, _, _, (res_tmp rfl rfl), rfl, rfl, ?_⟩
    rotate_left
    have h1 := of_decide_eq_false g1
    refine RegL.go rfl rfl rfl rfl (by assumption) (OpL.q (OpQ.move rfl rfl)) rfl rfl ?_
    refine RegL.go rfl rfl rfl rfl (by assumption) (OpL.q (OpQ.int2 rfl u_3 rfl rfl rfl rfl)) rfl rfl ?_
    refine RegL.q (OpQ.pickF rfl rfl (by assumption) rfl) rfl rfl rfl ?_
    refine RegL.done ?_
    refine EvtL.cond rfl (fun g2 => ?_) (fun g2 => ?_)
    have h2 := of_decide_eq_true g2
    refine EvtL.seqReg ?_
    refine RegL.q (OpQ.assign rfl rfl) rfl rfl rfl ?_
    refine RegL.done ?_
    refine EvtL.ret ⟨.inl rfl, rfl, rfl, rfl, _, _, _, (res_tmp rfl rfl), rfl, rfl, ?_⟩
    rotate_left
    have h2 := of_decide_eq_false g2
    refine EvtL.skip ?_
    refine EvtL.seqReg ?_
    refine RegL.q (OpQ.move rfl rfl) rfl rfl rfl ?_
    refine RegL.q (OpQ.sub rfl u_3 rfl rfl (by omega)) rfl rfl rfl ?_
    refine RegL.q (OpQ.assign rfl rfl) rfl rfl rfl ?_
    refine RegL.done ?_
    refine EvtL.seq ?_
    refine EvtL.seqReg ?_
    refine RegL.q (OpQ.assign rfl rfl) rfl rfl rfl ?_
    refine RegL.done ?_
    refine EvtL.block ?_
    rotate_left
  · show AV.int .i64 (-1) = .int .i64 (weighT (.mk o n ks) l m)
    rw [weighT, if_pos (.inl h1)]
  · show AV.int .i64 (-1) = .int .i64 (weighT (.mk o n ks) l m)
    rw [weighT, if_pos (.inr h2)]
  refine EvtL.loopI (fun x : Nat × Int => ([(7, .int .i64 (x.1 : Nat)), (1, .int .i64 x.2), (2, .int .i64 m), (3, .ptr 0 0)], mkS 1 0 [] [(0, some (.cells [.int .i64 o, .int .i64 n, recs encTm 3 ks] 34 false))])) (fun x => ks.length - x.1)
    (fun x => x.1 ≤ ks.length ∧ weighTs ks (l - 1) (m - 1) = weighTs (ks.drop x.1) x.2 (m - 1) ∧ -1 ≤ x.2 ∧ (x.1 : Int) + x.2 ≤ 1000) (0, l - 1) ⟨Nat.zero_le _, rfl, by dsimp only; omega, by dsimp only; omega⟩ rfl (by (refine Am.sub_of ?_; repeat (first | exact trivial | refine ⟨rfl, ?_⟩))) ?_
  rintro ⟨i, li⟩ ⟨hi, hw, h5, h6⟩
  dsimp only at hi hw h5 h6 ⊢
  by_cases h : i < ks.length
  · have hid := idx_tm h
    by_cases h0 : 0 ≤ li
    · have hit_52 : KW d 52 [.agg (encTm ks[i]), .int .i64 li, .int .i64 (m - 1)] = some (.int .i64 (weighT ks[i] li (m - 1))) := lay_hit encWg_inj ⟨(ks[i], li, m - 1), ⟨h5, by dsimp only; omega⟩, by dsimp only; omega, by dsimp only; omega⟩ (Nat.le_trans (deep_kid (List.getElem_mem h)) hdk)
      have hle := weigh_le ks[i] li (m - 1) h5
      rw [encTm_eq] at hit_52 hid
      focus
        refine EvtL.seq ?_
        refine EvtL.seqReg ?_
        refine RegL.q (OpQ.move rfl rfl) rfl rfl rfl ?_
        refine RegL.q (OpQ.fieldAddr rfl f_34_2 rfl) rfl rfl rfl ?_
        refine RegL.op (OpL.loadS1 rfl ag_31 sz_31 rfl rfl rfl) rfl rfl rfl ?_
        refine RegL.q (OpQ.lenSl rfl rfl rfl rfl u_31 rfl) rfl rfl rfl ?_
        refine RegL.q (OpQ.int2 rfl u_3 rfl rfl rfl rfl) rfl rfl rfl ?_
        refine RegL.q (OpQ.move rfl rfl) rfl rfl rfl ?_
        refine RegL.both rfl rfl rfl rfl (fun g3 => ?_) (fun g3 => ?_)
        have h3 := of_decide_eq_true g3
        refine RegL.go rfl rfl rfl rfl (by assumption) (OpL.q (OpQ.move rfl rfl)) rfl rfl ?_
        refine RegL.go rfl rfl rfl rfl (by assumption) (OpL.q (OpQ.int2 rfl u_3 rfl rfl rfl rfl)) rfl rfl ?_
        refine RegL.q (OpQ.pickT rfl rfl (by assumption) rfl) rfl rfl rfl ?_
        refine RegL.done ?_
        refine EvtL.cond rfl (fun g4 => ?_) (fun g4 => ?_)
        have h4 := of_decide_eq_true g4
        refine EvtL.skip ?_
        refine EvtL.seq ?_
        refine EvtL.block ?_
        refine EvtL.reg ?_
        refine RegL.q (OpQ.fieldAddr rfl f_34_2 rfl) rfl rfl rfl ?_
        refine RegL.op (OpL.loadS1 rfl ag_31 sz_31 rfl rfl rfl) rfl rfl rfl ?_
        refine RegL.q (OpQ.move rfl rfl) rfl rfl rfl ?_
        refine RegL.q (OpQ.indexAddrV rfl u_31 sz_34 rfl rfl (by assumption)) rfl rfl rfl ?_
        refine RegL.q (OpQ.loadI rfl rfl ag_34 sz_34 (Nat.le_of_ble_eq_true rfl)) rfl rfl rfl ?_
        refine RegL.q (OpQ.move rfl rfl) rfl rfl rfl ?_
        refine RegL.q (OpQ.move rfl rfl) rfl rfl rfl ?_
        refine RegL.q (OpQ.sub rfl u_3 rfl rfl (by omega)) rfl rfl rfl ?_
        refine RegL.op (OpL.callFn rfl rfl (by kernel_rfl) rfl (CallTo.memo (hit_52))) rfl rfl rfl ?_
        refine RegL.q (OpQ.assign rfl rfl) rfl rfl rfl ?_
        refine RegL.done ?_
        refine EvtL.reg ?_
        refine RegL.q (OpQ.move rfl rfl) rfl rfl rfl ?_
        refine RegL.q (OpQ.addN (b := 1) rfl u_3 rfl rfl (by first | assumption | omega | (simp only [List.length_append, List.length_cons, List.length_nil, List.length_take, List.length_drop]; omega))) rfl rfl rfl ?_
        refine RegL.q (OpQ.assign rfl rfl) rfl rfl rfl ?_
        refine RegL.done ?_
        rotate_left
        have h4 := of_decide_eq_false g4
        exact absurd h4 (by omega)
        have h3 := of_decide_eq_false g3
        exact absurd h3 (by omega)
      exact ⟨(i + 1, weighT ks[i] li (m - 1)), ⟨h, by
        rw [hw, List.drop_eq_getElem_cons h, weighTs, if_pos h0], hle.1, by dsimp only; omega⟩, by show ks.length - (i + 1) < ks.length - i; omega, rfl, rfl, by (refine Am.sub_of ?_; repeat (first | exact trivial | refine ⟨rfl, ?_⟩))⟩
    · focus
        refine EvtL.seq ?_
        refine EvtL.seqReg ?_
        refine RegL.q (OpQ.move rfl rfl) rfl rfl rfl ?_
        refine RegL.q (OpQ.fieldAddr rfl f_34_2 rfl) rfl rfl rfl ?_
        refine RegL.op (OpL.loadS1 rfl ag_31 sz_31 rfl rfl rfl) rfl rfl rfl ?_
        refine RegL.q (OpQ.lenSl rfl rfl rfl rfl u_31 rfl) rfl rfl rfl ?_
        refine RegL.q (OpQ.int2 rfl u_3 rfl rfl rfl rfl) rfl rfl rfl ?_
        refine RegL.q (OpQ.move rfl rfl) rfl rfl rfl ?_
        refine RegL.both rfl rfl rfl rfl (fun g3 => ?_) (fun g3 => ?_)
        have h3 := of_decide_eq_true g3
        refine RegL.go rfl rfl rfl rfl (by assumption) (OpL.q (OpQ.move rfl rfl)) rfl rfl ?_
        refine RegL.go rfl rfl rfl rfl (by assumption) (OpL.q (OpQ.int2 rfl u_3 rfl rfl rfl rfl)) rfl rfl ?_
        refine RegL.q (OpQ.pickT rfl rfl (by assumption) rfl) rfl rfl rfl ?_
        refine RegL.done ?_
        refine EvtL.cond rfl (fun g4 => ?_) (fun g4 => ?_)
        have h4 := of_decide_eq_true g4
        exact absurd h4 (by omega)
        have h4 := of_decide_eq_false g4
        refine EvtL.exit ?_
        refine cond_t rfl ?_
        refine EvtL.seqReg ?_
        refine RegL.q (OpQ.move rfl rfl) rfl rfl rfl ?_
        refine RegL.q (OpQ.assign rfl rfl) rfl rfl rfl ?_
        refine RegL.done ?_
        refine EvtL.ret ⟨.inl rfl, rfl, rfl, rfl, _, _, _, (res_tmp rfl rfl), rfl, rfl, ?_⟩
        rotate_left
        have h3 := of_decide_eq_false g3
        exact absurd h3 (by omega)
      show AV.int .i64 li = .int .i64 (weighT (.mk o n ks) l m)
      rw [weighT, if_neg (by omega), hw, weighs_stop h0]
  · focus
      refine EvtL.seq ?_
      refine EvtL.seqReg ?_
      refine RegL.q (OpQ.move rfl rfl) rfl rfl rfl ?_
      refine RegL.q (OpQ.fieldAddr rfl f_34_2 rfl) rfl rfl rfl ?_
      refine RegL.op (OpL.loadS1 rfl ag_31 sz_31 rfl rfl rfl) rfl rfl rfl ?_
      refine RegL.q (OpQ.lenSl rfl rfl rfl rfl u_31 rfl) rfl rfl rfl ?_
      refine RegL.q (OpQ.int2 rfl u_3 rfl rfl rfl rfl) rfl rfl rfl ?_
      refine RegL.q (OpQ.move rfl rfl) rfl rfl rfl ?_
      refine RegL.both rfl rfl rfl rfl (fun g3 => ?_) (fun g3 => ?_)
      have h3 := of_decide_eq_true g3
      exact absurd h3 (by omega)
      have h3 := of_decide_eq_false g3
      refine RegL.skip rfl rfl rfl rfl (by assumption) rfl rfl ?_
      refine RegL.skip rfl rfl rfl rfl (by assumption) rfl rfl ?_
      refine RegL.q (OpQ.pickF rfl rfl (by assumption) rfl) rfl rfl rfl ?_
      refine RegL.done ?_
      refine EvtL.condF rfl rfl ?_
      refine EvtL.exit ?_
      refine cond_t rfl ?_
      refine EvtL.seqReg ?_
      refine RegL.q (OpQ.move rfl rfl) rfl rfl rfl ?_
      refine RegL.q (OpQ.assign rfl rfl) rfl rfl rfl ?_
      refine RegL.done ?_
      refine EvtL.ret ⟨.inl rfl, rfl, rfl, rfl, _, _, _, (res_tmp rfl rfl), rfl, rfl, ?_⟩
      rotate_left
    show AV.int .i64 li = .int .i64 (weighT (.mk o n ks) l m)
    rw [weighT, if_neg (by omega), hw, List.drop_eq_nil_of_le (by omega)]; rfl
theorem progOk : ProgOk Tryz.prog 1200 1200 := ⟨of_decide_eq_true (by kernel_rfl), of_decide_eq_true (by kernel_rfl), by kernel_rfl, by kernel_rfl⟩
theorem insFn (h : InsRun Tryz.prog 24 27 3 4) : InsFn Tryz.prog 1200 1200 24 27 3 36 4 64 (.agg [.nilslice, .int .i64 0, .int .i64 0, .nilslice]) :=
  ⟨progOk, ⟨Tryz.f24, _, by kernel_rfl, rfl, by kernel_rfl⟩, h, fun F K => ⟨by kernel_rfl, by kernel_rfl, by kernel_rfl, by kernel_rfl, by kernel_rfl, rfl, by decide⟩⟩
/-- What all that follows leans on. -/
structure Given : Prop where
  known : KnownF Tryz.prog 5 [] (.bool true)
  clone : KnownF Tryz.prog 49 [.islice [] 0 3 true] (.islice [] 0 3 true)
  ins : InsFn Tryz.prog 1200 1200 24 27 3 36 4 64 (.agg [.nilslice, .int .i64 0, .int .i64 0, .nilslice])
theorem K0_known (h : Given) : KnownAll Tryz.prog K0 := by
  intro f args v hv
  unfold K0 at hv
  split at hv
  · split at hv
    · cases hv; exact h.known
    · cases hv
  · split at hv
    · cases hv; exact h.clone
    · cases hv
  · cases hv
noncomputable def K1 := addC K0 52 encWg resWg
theorem all1 (h : Given) : KnownAll Tryz.prog K1 :=
  lay_known (deep := fun p : WgT => deepT p.1.1) h.ins (K0_known h) encWg_inj (fun p => by rw [deepT_eq]; omega) (fun p => by
    show (closedV 40 (.agg (encTm p.1.1)) && (true && (true && true))) = true
    rw [tm_closed]; rfl) (fun _ => rfl) fun d p hp hx => weigh_to d p.1.1 p.1.2.1 p.1.2.2 hp p.2.1 p.2.2.1 p.2.2.2 hx
theorem hit_52 {t : TermT} {l m : Int} (hl : -1 ≤ l ∧ l ≤ 1000) (hm : 0 ≤ m ∧ m ≤ 1000) : K1 52 [.agg (encTm t), .int .i64 l, .int .i64 m] = some (.int .i64 (weighT t l m)) :=
  addC_hit (enc := encWg) (res := resWg) (fun a b h => by rw [encWg_inj a b h]) ⟨(t, l, m), hl, hm⟩
end Go.Proofs.YtlclpmbeaofohaaGreat.So

/- Terms: how many nodes they have. -/
open Go Am
namespace Go.Proofs.YtlclpmbeaofohaaGreat.So
/-- A copy in a new block. -/
structure Copied (st s1 s2 : St) (z cs : List AV) (T : TypeId) : Prop where
  new : s1.heap.get st.next = some (.cells z T false)
  put : s2.heap.get st.next = some (.cells cs T false)
  old1 : ∀ c, c < st.next → s1.heap.get c = st.heap.get c
  old : ∀ c, c < st.next → s2.heap.get c = st.heap.get c
  bound : s2.bound = st.bound
  log : st.bound ≤ st.next → s2.log = st.log
  next : s2.next = st.next + 1
theorem copied {st : St} {z cs : List AV} {T : TypeId} : Copied st (st.alloc (.cells z T false)) ((st.alloc (.cells z T false)).put st.next (some (.cells cs T false))) z cs T :=
  ⟨get_new, by rw [get_putS, if_pos rfl], fun _ h => get_old h, fun c h => by rw [get_putS, if_neg (Nat.ne_of_lt h), get_old h], rfl, fun h => by
    show (bif Nat.blt st.next st.bound then _ else st.log) = st.log
    cases hb : Nat.blt st.next st.bound with
    | false => rfl
    | true =>
      have : st.next < st.bound := Nat.le_of_ble_eq_true hb
      omega, rfl⟩
abbrev SzT := { t : TermT // sizeT t ≤ 4000 }
def encSz (t : SzT) : List AV := [.agg (encTm t.1)]
def resSz (t : SzT) : AV := .int .i64 (sizeT t.1 : Nat)
theorem encSz_inj (x y : SzT) (h : encSz x = encSz y) : x = y := Subtype.ext (encTm_inj _ _ (AV.agg.inj (List.cons.inj h).1))
theorem encSz_closed (t : SzT) : (encSz t).all (closedV 40) = true := by
  show (closedV 40 (.agg (encTm t.1)) && true) = true
  rw [tm_closed]; rfl
theorem deep_pos (t : TermT) : 0 < deepT t := by rw [deepT_eq]; omega
theorem sizes_drop {ks : List TermT} {i : Nat} (h : i < ks.length) : sizeTs (ks.drop i) = sizeT ks[i] + sizeTs (ks.drop (i + 1)) := by rw [List.drop_eq_getElem_cons h]; rfl
theorem len_sizes : ∀ ks : List TermT, ks.length ≤ sizeTs ks
  | [] => Nat.le_refl _
  | t :: ts => by
    have := len_sizes ts
    have h : 0 < sizeT t := by rw [sizeT_eq]; omega
    show ts.length + 1 ≤ sizeT t + sizeTs ts
    omega
theorem size_to (d : Nat) (t : TermT) (h : deepT t = d + 1) (hs : sizeT t ≤ 4000) (hx : lay K1 72 encSz resSz (fun p => deepT p.1) d 72 [.agg (encTm t)] = none) :
    CallTo (EK (lay K1 72 encSz resSz (fun p => deepT p.1) d)) 72 [.agg (encTm t)] S0 (.int .i64 (sizeT t : Nat)) := by
  obtain ⟨o, n, ks⟩ := t
  have hdk : deepTs ks ≤ d := by have : deepTs ks + 1 = d + 1 := h; omega
  have hsz : sizeTs ks + 1 ≤ 4000 := hs
  have hlen := len_sizes ks
  rw [encTm_mk] at hx ⊢
  refine CallTo.s0 (fn := Tryz.f72) rfl hx (by kernel_rfl) rfl rfl rfl rfl ?_
  refine EvtL.seqReg ?_
  refine RegL.op (OpL.boxS 1 rfl rfl rfl rfl) rfl rfl rfl ?_
  refine RegL.q (OpQ.assign rfl rfl) rfl rfl rfl ?_
  refine RegL.done ?_
  refine EvtL.seqReg ?_
  refine RegL.q (OpQ.assign rfl rfl) rfl rfl rfl ?_
  refine RegL.done ?_
  refine EvtL.seq ?_
  refine EvtL.seqReg ?_
  refine RegL.q (OpQ.fieldAddr rfl f_34_2 rfl) rfl rfl rfl ?_
  refine RegL.op (OpL.loadS1 rfl ag_31 sz_31 rfl rfl rfl) rfl rfl rfl ?_
  refine RegL.q (OpQ.lenSl rfl rfl rfl rfl u_31 rfl) rfl rfl rfl ?_
  refine RegL.q (OpQ.move rfl rfl) rfl rfl rfl ?_
  refine RegL.done ?_
  refine EvtL.block ?_
  refine EvtL.loopI (fun x : Nat × Nat × St => ([(9, .int .i64 (x.1 : Nat)), (3, .int .i64 (x.2.1 : Nat)), (7, recs encTm 3 ks), (8, .int .i64 (ks.length : Nat))], x.2.2)) (fun x => ks.length - x.1)
    (fun x => x.1 ≤ ks.length ∧ x.2.1 + sizeTs (ks.drop x.1) = sizeTs ks + 1 ∧ x.2.2.bound = 0 ∧ x.2.2.log = []) (0, 1, _) ⟨Nat.zero_le _, by dsimp only; rw [List.drop_zero]; omega, rfl, rfl⟩ rfl (by (refine Am.sub_of ?_; repeat (first | exact trivial | refine ⟨rfl, ?_⟩))) ?_
  rintro ⟨i, a, st⟩ ⟨hi, ha, hb, hl⟩
  dsimp only at hi ha hb hl ⊢
  by_cases h : i < ks.length
  · have hid := idx_tm h
    obtain ⟨hc1, hc2, hc3, hc4, hc5, hc6, hc7⟩ := copied (st := st) (z := [.int .i64 0, .int .i64 0, .nilslice]) (cs := encTm ks[i]) (T := 34)
    have hbd := hc5.trans hb
    have hlog := (hc6 (by omega)).trans hl
    have hsk := size_kid (List.getElem_mem h)
    have hsd := sizes_drop h
    have hit_72 : lay K1 72 encSz resSz (fun p => deepT p.1) d 72 [.agg (encTm ks[i])] = some (.int .i64 (sizeT ks[i] : Nat)) := lay_hit encSz_inj ⟨ks[i], by omega⟩ (Nat.le_trans (deep_kid (List.getElem_mem h)) hdk)
    rw [encTm_eq] at hit_72 hid hc2 hlog hbd
    focus
      refine EvtL.seqReg ?_
      refine RegL.q (OpQ.int2 rfl u_3 rfl rfl rfl rfl) rfl rfl rfl ?_
      refine RegL.done ?_
      refine EvtL.seq ?_
      refine EvtL.cond rfl (fun g1 => ?_) (fun g1 => ?_)
      have h1 := of_decide_eq_true g1
      refine EvtL.skip ?_
      refine EvtL.seq ?_
      refine EvtL.block ?_
      refine EvtL.seqReg ?_
      refine RegL.q (OpQ.indexAddrV rfl u_31 sz_34 rfl rfl (by assumption)) rfl rfl rfl ?_
      refine RegL.q (OpQ.loadI rfl rfl ag_34 sz_34 (Nat.le_of_ble_eq_true rfl)) rfl rfl rfl ?_
      refine RegL.op (OpL.alloc rfl z_34) rfl rfl rfl ?_
      refine RegL.opN (OpL.store rfl sz_34 rfl rfl (storeN_at (by assumption) rfl rfl rfl)) rfl rfl ?_
      refine RegL.done ?_
      refine EvtL.reg ?_
      refine RegL.q (OpQ.move rfl rfl) rfl rfl rfl ?_
      refine RegL.op (OpL.load rfl rfl (loadAgg_at ag_34 sz_34 (by assumption) (Nat.le_of_ble_eq_true rfl))) rfl rfl rfl ?_
      refine RegL.op (OpL.callFn rfl rfl (by kernel_rfl) rfl (CallTo.memo (hit_72))) rfl rfl rfl ?_
      refine RegL.q (OpQ.addN rfl u_3 rfl rfl (by first | assumption | omega | (simp only [List.length_append, List.length_cons, List.length_nil, List.length_take, List.length_drop]; omega))) rfl rfl rfl ?_
      refine RegL.q (OpQ.assign rfl rfl) rfl rfl rfl ?_
      refine RegL.done ?_
      refine EvtL.reg ?_
      refine RegL.q (OpQ.addN (b := 1) rfl u_3 rfl rfl (by first | assumption | omega | (simp only [List.length_append, List.length_cons, List.length_nil, List.length_take, List.length_drop]; omega))) rfl rfl rfl ?_
      refine RegL.q (OpQ.move rfl rfl) rfl rfl rfl ?_
      refine RegL.done ?_
      rotate_left
      have h1 := of_decide_eq_false g1
      exact absurd h1 (by omega)
    exact ⟨(i + 1, a + sizeT ks[i], _), ⟨h, by dsimp only; omega, hbd, hlog⟩, by show ks.length - (i + 1) < ks.length - i; omega, rfl, rfl, by (refine Am.sub_of ?_; repeat (first | exact trivial | refine ⟨rfl, ?_⟩))⟩
  · focus
      refine EvtL.seqReg ?_
      refine RegL.q (OpQ.int2 rfl u_3 rfl rfl rfl rfl) rfl rfl rfl ?_
      refine RegL.done ?_
      refine EvtL.seq ?_
      refine EvtL.cond rfl (fun g1 => ?_) (fun g1 => ?_)
      have h1 := of_decide_eq_true g1
      exact absurd h1 (by omega)
      have h1 := of_decide_eq_false g1
      refine EvtL.exit ?_
      refine cond_t rfl ?_
      refine EvtL.seqReg ?_
      refine RegL.q (OpQ.move rfl rfl) rfl rfl rfl ?_
      refine RegL.q (OpQ.assign rfl rfl) rfl rfl rfl ?_
      refine RegL.done ?_
      refine EvtL.ret ⟨.inl rfl, rfl, (by assumption), (by assumption), _, _, _, (res_tmp rfl rfl), rfl, rfl, ?_⟩
      rotate_left
    rw [List.drop_eq_nil_of_le (by omega)] at ha
    show AV.int .i64 (a : Int) = .int .i64 ((sizeTs ks + 1 : Nat) : Int)
    rw [show a = sizeTs ks + 1 from ha]
noncomputable def K2a := addC K1 72 encSz resSz
theorem all2a (h : Given) : KnownAll Tryz.prog K2a :=
  lay_known (deep := fun p : SzT => deepT p.1) h.ins (all1 h) encSz_inj (fun p => deep_pos p.1) encSz_closed (fun _ => rfl) fun d p hp hx => size_to d p.1 hp p.2 hx
theorem size2_to (d : Nat) (t : TermT) (h : deepT t = d + 1) (hs : sizeT t ≤ 4000) (hx : lay K2a 78 encSz resSz (fun p => deepT p.1) d 78 [.agg (encTm t)] = none) :
    CallTo (EK (lay K2a 78 encSz resSz (fun p => deepT p.1) d)) 78 [.agg (encTm t)] S0 (.int .i64 (sizeT t : Nat)) := by
  obtain ⟨o, n, ks⟩ := t
  have hdk : deepTs ks ≤ d := by have : deepTs ks + 1 = d + 1 := h; omega
  have hsz : sizeTs ks + 1 ≤ 4000 := hs
  have hlen := len_sizes ks
  rw [encTm_mk] at hx ⊢
  refine CallTo.s0 (fn := Tryz.f78) rfl hx (by kernel_rfl) rfl rfl rfl rfl ?_
  refine EvtL.seqReg ?_
  refine RegL.op (OpL.boxS 1 rfl rfl rfl rfl) rfl rfl rfl ?_
  refine RegL.q (OpQ.assign rfl rfl) rfl rfl rfl ?_
  refine RegL.done ?_
  refine EvtL.seqReg ?_
  refine RegL.q (OpQ.assign rfl rfl) rfl rfl rfl ?_
  refine RegL.done ?_
  refine EvtL.seq ?_
  refine EvtL.seqReg ?_
  refine RegL.q (OpQ.assign rfl rfl) rfl rfl rfl ?_
  refine RegL.done ?_
  refine EvtL.block ?_
  refine EvtL.loopI (fun x : Nat × Nat => ([(4, .int .i64 (x.1 : Nat)), (3, .int .i64 (x.2 : Nat)), (1, .ptr 0 0)], mkS 1 0 [] [(0, some (.cells [.int .i64 o, .int .i64 n, recs encTm 3 ks] 34 false))])) (fun x => ks.length - x.1)
    (fun x => x.1 ≤ ks.length ∧ x.2 + sizeTs (ks.drop x.1) = sizeTs ks + 1) (0, 1) ⟨Nat.zero_le _, by dsimp only; rw [List.drop_zero]; omega⟩ rfl (by (refine Am.sub_of ?_; repeat (first | exact trivial | refine ⟨rfl, ?_⟩))) ?_
  rintro ⟨i, a⟩ ⟨hi, ha⟩
  dsimp only at hi ha ⊢
  by_cases h : i < ks.length
  · have hid := idx_tm h
    have hsk := size_kid (List.getElem_mem h)
    have hsd := sizes_drop h
    have hit_78 : lay K2a 78 encSz resSz (fun p => deepT p.1) d 78 [.agg (encTm ks[i])] = some (.int .i64 (sizeT ks[i] : Nat)) := lay_hit encSz_inj ⟨ks[i], by omega⟩ (Nat.le_trans (deep_kid (List.getElem_mem h)) hdk)
    rw [encTm_eq] at hit_78 hid
    focus
      refine EvtL.seq ?_
      refine EvtL.seqReg ?_
      refine RegL.q (OpQ.move rfl rfl) rfl rfl rfl ?_
      refine RegL.q (OpQ.fieldAddr rfl f_34_2 rfl) rfl rfl rfl ?_
      refine RegL.op (OpL.loadS1 rfl ag_31 sz_31 rfl rfl rfl) rfl rfl rfl ?_
      refine RegL.q (OpQ.lenSl rfl rfl rfl rfl u_31 rfl) rfl rfl rfl ?_
      refine RegL.q (OpQ.int2 rfl u_3 rfl rfl rfl rfl) rfl rfl rfl ?_
      refine RegL.done ?_
      refine EvtL.cond rfl (fun g1 => ?_) (fun g1 => ?_)
      have h1 := of_decide_eq_true g1
      refine EvtL.skip ?_
      refine EvtL.seq ?_
      refine EvtL.block ?_
      refine EvtL.reg ?_
      refine RegL.q (OpQ.move rfl rfl) rfl rfl rfl ?_
      refine RegL.q (OpQ.fieldAddr rfl f_34_2 rfl) rfl rfl rfl ?_
      refine RegL.op (OpL.loadS1 rfl ag_31 sz_31 rfl rfl rfl) rfl rfl rfl ?_
      refine RegL.q (OpQ.move rfl rfl) rfl rfl rfl ?_
      refine RegL.q (OpQ.indexAddrV rfl u_31 sz_34 rfl rfl (by assumption)) rfl rfl rfl ?_
      refine RegL.q (OpQ.loadI rfl rfl ag_34 sz_34 (Nat.le_of_ble_eq_true rfl)) rfl rfl rfl ?_
      refine RegL.op (OpL.callFn rfl rfl (by kernel_rfl) rfl (CallTo.memo (hit_78))) rfl rfl rfl ?_
      refine RegL.q (OpQ.addN rfl u_3 rfl rfl (by first | assumption | omega | (simp only [List.length_append, List.length_cons, List.length_nil, List.length_take, List.length_drop]; omega))) rfl rfl rfl ?_
      refine RegL.q (OpQ.assign rfl rfl) rfl rfl rfl ?_
      refine RegL.done ?_
      refine EvtL.reg ?_
      refine RegL.q (OpQ.move rfl rfl) rfl rfl rfl ?_
      refine RegL.q (OpQ.addN (b := 1) rfl u_3 rfl rfl (by first | assumption | omega | (simp only [List.length_append, List.length_cons, List.length_nil, List.length_take, List.length_drop]; omega))) rfl rfl rfl ?_
      refine RegL.q (OpQ.assign rfl rfl) rfl rfl rfl ?_
      refine RegL.done ?_
      rotate_left
      have h1 := of_decide_eq_false g1
      exact absurd h1 (by omega)
    exact ⟨(i + 1, a + sizeT ks[i]), ⟨h, by dsimp only; omega⟩, by show ks.length - (i + 1) < ks.length - i; omega, rfl, rfl, by (refine Am.sub_of ?_; repeat (first | exact trivial | refine ⟨rfl, ?_⟩))⟩
  · focus
      refine EvtL.seq ?_
      refine EvtL.seqReg ?_
      refine RegL.q (OpQ.move rfl rfl) rfl rfl rfl ?_
      refine RegL.q (OpQ.fieldAddr rfl f_34_2 rfl) rfl rfl rfl ?_
      refine RegL.op (OpL.loadS1 rfl ag_31 sz_31 rfl rfl rfl) rfl rfl rfl ?_
      refine RegL.q (OpQ.lenSl rfl rfl rfl rfl u_31 rfl) rfl rfl rfl ?_
      refine RegL.q (OpQ.int2 rfl u_3 rfl rfl rfl rfl) rfl rfl rfl ?_
      refine RegL.done ?_
      refine EvtL.cond rfl (fun g1 => ?_) (fun g1 => ?_)
      have h1 := of_decide_eq_true g1
      exact absurd h1 (by omega)
      have h1 := of_decide_eq_false g1
      refine EvtL.exit ?_
      refine cond_t rfl ?_
      refine EvtL.seqReg ?_
      refine RegL.q (OpQ.move rfl rfl) rfl rfl rfl ?_
      refine RegL.q (OpQ.assign rfl rfl) rfl rfl rfl ?_
      refine RegL.done ?_
      refine EvtL.ret ⟨.inl rfl, rfl, rfl, rfl, _, _, _, (res_tmp rfl rfl), rfl, rfl, ?_⟩
      rotate_left
    rw [List.drop_eq_nil_of_le (by omega)] at ha
    show AV.int .i64 (a : Int) = .int .i64 ((sizeTs ks + 1 : Nat) : Int)
    rw [show a = sizeTs ks + 1 from ha]
noncomputable def K2 := addC K2a 78 encSz resSz
theorem all2 (h : Given) : KnownAll Tryz.prog K2 :=
  lay_known (deep := fun p : SzT => deepT p.1) h.ins (all2a h) encSz_inj (fun p => deep_pos p.1) encSz_closed (fun _ => rfl) fun d p hp hx => size2_to d p.1 hp p.2 hx
theorem hit_78 {t : TermT} (h : sizeT t ≤ 4000) : K2 78 [.agg (encTm t)] = some (.int .i64 (sizeT t : Nat)) := addC_hit (enc := encSz) (res := resSz) (fun a b h => by rw [encSz_inj a b h]) ⟨t, h⟩
theorem hit_72 {t : TermT} (h : sizeT t ≤ 4000) : K2 72 [.agg (encTm t)] = some (.int .i64 (sizeT t : Nat)) :=
  (show K2 72 [.agg (encTm t)] = K2a 72 [.agg (encTm t)] from rfl).trans (addC_hit (enc := encSz) (res := resSz) (fun a b h => by rw [encSz_inj a b h]) ⟨t, h⟩)
end Go.Proofs.YtlclpmbeaofohaaGreat.So

/- Comparing: cmp.Or, and how terms are ordered. -/
open Go Am
namespace Go.Proofs.YtlclpmbeaofohaaGreat.So
def orL : List Int → Int
  | [] => 0
  | a :: l => if a = 0 then orL l else a
theorem or_to {K : FuncId → List AV → Option AV} (hK : ∀ a, K 43 a = none) {s : St} {b : Nat} {l : List Int} (hg : s.heap.get b = some (.cells (l.map (.int .i64)) 3 false)) (hn : l.length ≤ 4000) :
    CallTo (EK K) 43 [.slice b 0 l.length 1 (some l.length)] s (.int .i64 (orL l)) := by
  refine CallTo.flat (fn := Tryz.f43) (hK _) (by kernel_rfl) rfl rfl rfl rfl (fun _ _ => rfl) (fun _ => rfl) ?_
  have hg' : s.enter.heap.get b = some (.cells (l.map (.int .i64)) 3 false) := hg
  refine EvtL.seqReg ?_
  refine RegL.q (OpQ.assign rfl rfl) rfl rfl rfl ?_
  refine RegL.done ?_
  refine EvtL.seqReg ?_
  refine RegL.q (OpQ.assign rfl rfl) rfl rfl rfl ?_
  refine RegL.done ?_
  refine EvtL.seq ?_
  refine EvtL.seqReg ?_
  refine RegL.q (OpQ.move rfl rfl) rfl rfl rfl ?_
  refine RegL.q (OpQ.lenSlM rfl rfl rfl rfl u_30 rfl) rfl rfl rfl ?_
  refine RegL.q (OpQ.move rfl rfl) rfl rfl rfl ?_
  refine RegL.done ?_
  refine EvtL.block ?_
  refine EvtL.loopI (fun i : Nat => ([(8, .int .i64 (i : Nat)), (7, .int .i64 (l.length : Nat)), (6, .slice b 0 l.length 1 (some l.length)), (3, .int .i64 0)], s.enter)) (fun i => l.length - i) (fun i => i ≤ l.length ∧ orL l = orL (l.drop i)) 0 ⟨Nat.zero_le _, rfl⟩ rfl (by (refine Am.sub_of ?_; repeat (first | exact trivial | refine ⟨rfl, ?_⟩))) ?_
  rintro i ⟨hi, ho⟩
  dsimp only at hi ho ⊢
  by_cases h : i < l.length
  · have hd := List.drop_eq_getElem_cons h
    have hq : loadC (EK K) 3 s.enter (.ptr b (0 + i * (0 + 1))) = some (.int .i64 l[i]) := loadOne_at ag_3 sz_3 hg' (by rw [Nat.zero_add, Nat.zero_add, Nat.mul_one, List.getElem?_map, List.getElem?_eq_getElem h]; rfl)
    focus
      refine EvtL.seqReg ?_
      refine RegL.q (OpQ.int2 rfl u_3 rfl rfl rfl rfl) rfl rfl rfl ?_
      refine RegL.done ?_
      refine EvtL.seq ?_
      refine EvtL.cond rfl (fun g1 => ?_) (fun g1 => ?_)
      have h1 := of_decide_eq_true g1
      refine EvtL.skip ?_
      refine EvtL.seq ?_
      refine EvtL.block ?_
      refine EvtL.seqReg ?_
      refine RegL.q (OpQ.indexAddrM rfl u_30 sz_3 rfl rfl (by first | assumption | omega | (simp only [List.length_append, List.length_cons, List.length_nil, List.length_take, List.length_drop]; omega))) rfl rfl rfl ?_
      refine RegL.op (OpL.load rfl rfl (by assumption)) rfl rfl rfl ?_
      refine RegL.q (OpQ.assign rfl rfl) rfl rfl rfl ?_
      refine RegL.done ?_
      refine EvtL.seqReg ?_
      refine RegL.q (OpQ.move rfl rfl) rfl rfl rfl ?_
      refine RegL.q (OpQ.move rfl rfl) rfl rfl rfl ?_
      refine RegL.q (OpQ.int2 rfl u_3 rfl rfl rfl rfl) rfl rfl rfl ?_
      refine RegL.done ?_
      refine EvtL.cond rfl (fun g2 => ?_) (fun g2 => ?_)
      have h2 := nT g2
      refine EvtL.seqReg ?_
      refine RegL.q (OpQ.move rfl rfl) rfl rfl rfl ?_
      refine RegL.q (OpQ.assign rfl rfl) rfl rfl rfl ?_
      refine RegL.done ?_
      rotate_left
      have h2 := nF g2
      refine EvtL.skip ?_
      refine EvtL.reg ?_
      refine RegL.q (OpQ.addN (b := 1) rfl u_3 rfl rfl (by first | assumption | omega | (simp only [List.length_append, List.length_cons, List.length_nil, List.length_take, List.length_drop]; omega))) rfl rfl rfl ?_
      refine RegL.q (OpQ.move rfl rfl) rfl rfl rfl ?_
      refine RegL.done ?_
      rotate_left
      have h1 := of_decide_eq_false g1
      exact absurd h1 (by omega)
    · refine EvtL.ret ⟨.inl rfl, rfl, rfl, _, res_tmp rfl rfl, ?_⟩
      rw [ho, hd]
      unfold orL
      rw [if_neg (by assumption)]; rfl
    · exact ⟨i + 1, ⟨h, by
        rw [ho, hd]
        show (if l[i] = 0 then _ else _) = _
        rw [if_pos (by assumption)]⟩, by show l.length - (i + 1) < l.length - i; omega, rfl, rfl, by (refine Am.sub_of ?_; repeat (first | exact trivial | refine ⟨rfl, ?_⟩))⟩
  · focus
      refine EvtL.seqReg ?_
      refine RegL.q (OpQ.int2 rfl u_3 rfl rfl rfl rfl) rfl rfl rfl ?_
      refine RegL.done ?_
      refine EvtL.seq ?_
      refine EvtL.cond rfl (fun g1 => ?_) (fun g1 => ?_)
      have h1 := of_decide_eq_true g1
      exact absurd h1 (by omega)
      have h1 := of_decide_eq_false g1
      refine EvtL.exit ?_
      refine cond_t rfl ?_
      refine EvtL.seqReg ?_
      refine RegL.q (OpQ.move rfl rfl) rfl rfl rfl ?_
      refine RegL.q (OpQ.assign rfl rfl) rfl rfl rfl ?_
      refine RegL.done ?_
      rotate_left
    refine EvtL.ret ⟨.inl rfl, rfl, rfl, _, res_tmp rfl rfl, ?_⟩
    rw [ho, List.drop_eq_nil_of_le (by omega)]; rfl
def sgn (a b : Int) : Int := if a < b then -1 else if b < a then 1 else 0
mutual
/-- How two terms are ordered. -/
def cmpT : TermT → TermT → Int
  | .mk o n ks, u => orL [sgn (sizeT (.mk o n ks) : Nat) (sizeT u : Nat), sgn o u.op, sgn n u.n, cmpTs ks u.kids]
def cmpTs : List TermT → List TermT → Int
  | [], [] => 0
  | [], _ :: _ => -1
  | _ :: _, [] => 1
  | t :: ts, u :: us => if cmpT t u = 0 then cmpTs ts us else cmpT t u
end
theorem cmps_nil (us : List TermT) : cmpTs [] us = if us.length = 0 then 0 else -1 := by cases us <;> rfl
theorem cmpf_to {K : FuncId → List AV → Option AV} (hK : ∀ a, K 46 a = none) (a b : List TermT) (ha : a.length ≤ 4000) (hb : b.length ≤ 4000) (hit : ∀ t ∈ a, ∀ u ∈ b, K 44 [.agg (encTm t), .agg (encTm u)] = some (.int .i64 (cmpT t u))) {s : St} :
    CallTo (EK K) 46 [recs encTm 3 a, recs encTm 3 b, .func (.func 44) [] []] s (.int .i64 (cmpTs a b)) := by
  refine CallTo.flat (fn := Tryz.f46) (hK _) (by kernel_rfl) rfl rfl rfl rfl (fun _ _ => rfl) (fun _ => rfl) ?_
  refine EvtL.seqReg ?_
  refine RegL.q (OpQ.assign rfl rfl) rfl rfl rfl ?_
  refine RegL.done ?_
  refine EvtL.seq ?_
  refine EvtL.seqReg ?_
  refine RegL.q (OpQ.move rfl rfl) rfl rfl rfl ?_
  refine RegL.q (OpQ.lenSl rfl rfl rfl rfl u_31 rfl) rfl rfl rfl ?_
  refine RegL.q (OpQ.move rfl rfl) rfl rfl rfl ?_
  refine RegL.done ?_
  refine EvtL.block ?_
  refine EvtL.loopI (fun x : Nat × St => ([(13, .int .i64 (x.1 : Nat)), (12, .int .i64 (a.length : Nat)), (11, recs encTm 3 a), (0, recs encTm 3 a), (1, recs encTm 3 b), (2, .func (.func 44) [] [])], x.2)) (fun x => a.length - x.1)
    (fun x => x.1 ≤ a.length ∧ x.1 ≤ b.length ∧ cmpTs a b = cmpTs (a.drop x.1) (b.drop x.1) ∧ x.2.bound ≤ x.2.next ∧ x.2.log = []) (0, s.enter) ⟨Nat.zero_le _, Nat.zero_le _, rfl, Nat.le_refl _, rfl⟩ rfl (by (refine Am.sub_of ?_; repeat (first | exact trivial | refine ⟨rfl, ?_⟩))) ?_
  rintro ⟨i, st⟩ ⟨hi, hi2, ho, hbd, hl⟩
  dsimp only at hi hi2 ho hbd hl ⊢
  by_cases h : i < a.length
  · have hid := idx_tm h
    have hd := List.drop_eq_getElem_cons h
    obtain ⟨hc1, hc2, hc3, hc4, hc5, hc6, hc7⟩ := copied (st := st) (z := [.int .i64 0, .int .i64 0, .nilslice]) (cs := encTm a[i]) (T := 34)
    have hl2 := (hc6 hbd).trans hl
    by_cases h9 : i < b.length
    · have hid2 := idx_tm h9
      have hd2 := List.drop_eq_getElem_cons h9
      obtain ⟨e1, e2, e3, e4, e5, e6, e7⟩ := copied (st := (st.alloc (.cells [.int .i64 0, .int .i64 0, .nilslice] 34 false)).put st.next (some (.cells (encTm a[i]) 34 false))) (z := [.int .i64 0, .int .i64 0, .nilslice]) (cs := encTm b[i]) (T := 34)
      have hb2 := Nat.le_trans (Nat.le_of_eq hc5) (Nat.le_trans hbd (Nat.le_trans (Nat.le_succ _) (Nat.le_of_eq hc7.symm)))
      have hl3 := (e6 hb2).trans hl2
      have hb3 := Nat.le_trans (Nat.le_of_eq e5) (Nat.le_trans hb2 (Nat.le_trans (Nat.le_succ _) (Nat.le_of_eq e7.symm)))
      have hg8 := (e4 st.next (by rw [hc7]; omega)).trans hc2
      have hh := hit a[i] (List.getElem_mem h) b[i] (List.getElem_mem h9)
      simp only [encTm_eq] at hid hid2 hc2 hl2 hc7 hc5 hb2 hl3 hb3 hg8 hh e1 e2 e5 e7
      focus
        refine EvtL.seqReg ?_
        refine RegL.q (OpQ.int2 rfl u_3 rfl rfl rfl rfl) rfl rfl rfl ?_
        refine RegL.done ?_
        refine EvtL.seq ?_
        refine EvtL.cond rfl (fun g1 => ?_) (fun g1 => ?_)
        have h1 := of_decide_eq_true g1
        refine EvtL.skip ?_
        refine EvtL.seq ?_
        refine EvtL.block ?_
        refine EvtL.seqReg ?_
        refine RegL.q (OpQ.move rfl rfl) rfl rfl rfl ?_
        refine RegL.q (OpQ.indexAddrV rfl u_31 sz_34 rfl rfl (by assumption)) rfl rfl rfl ?_
        refine RegL.q (OpQ.loadI rfl rfl ag_34 sz_34 (Nat.le_of_ble_eq_true rfl)) rfl rfl rfl ?_
        refine RegL.op (OpL.alloc rfl z_34) rfl rfl rfl ?_
        refine RegL.q (OpQ.assign rfl rfl) rfl rfl rfl ?_
        refine RegL.opN (OpL.store rfl sz_34 rfl rfl (storeN_at (by assumption) rfl rfl rfl)) rfl rfl ?_
        refine RegL.done ?_
        refine EvtL.seq ?_
        refine EvtL.seqReg ?_
        refine RegL.q (OpQ.move rfl rfl) rfl rfl rfl ?_
        refine RegL.q (OpQ.move rfl rfl) rfl rfl rfl ?_
        refine RegL.q (OpQ.lenSl rfl rfl rfl rfl u_31 rfl) rfl rfl rfl ?_
        refine RegL.q (OpQ.int2 rfl u_3 rfl rfl rfl rfl) rfl rfl rfl ?_
        refine RegL.done ?_
        refine EvtL.cond rfl (fun g2 => ?_) (fun g2 => ?_)
        have h2 := of_decide_eq_true g2
        exact absurd h2 (by omega)
        have h2 := of_decide_eq_false g2
        refine EvtL.skip ?_
        refine EvtL.seqReg ?_
        refine RegL.q (OpQ.move rfl rfl) rfl rfl rfl ?_
        refine RegL.q (OpQ.move rfl rfl) rfl rfl rfl ?_
        refine RegL.q (OpQ.indexAddrV rfl u_31 sz_34 rfl rfl (by assumption)) rfl rfl rfl ?_
        refine RegL.q (OpQ.loadI rfl rfl ag_34 sz_34 (Nat.le_of_ble_eq_true rfl)) rfl rfl rfl ?_
        refine RegL.op (OpL.alloc rfl z_34) rfl rfl rfl ?_
        refine RegL.opN (OpL.store rfl sz_34 rfl rfl (storeN_at (by assumption) rfl rfl rfl)) rfl rfl ?_
        refine RegL.done ?_
        refine EvtL.seqReg ?_
        refine RegL.q (OpQ.move rfl rfl) rfl rfl rfl ?_
        refine RegL.op (OpL.load rfl rfl (loadAgg_at ag_34 sz_34 (by assumption) (Nat.le_of_ble_eq_true rfl))) rfl rfl rfl ?_
        refine RegL.op (OpL.load rfl rfl (loadAgg_at ag_34 sz_34 (by assumption) (Nat.le_of_ble_eq_true rfl))) rfl rfl rfl ?_
        rotate_left
        have h1 := of_decide_eq_false g1
        exact absurd h1 (by omega)
      refine RegL.op (OpL.callVal rfl rfl rfl (by kernel_rfl) rfl (CallTo.memo hh)) rfl rfl rfl ?_
      focus
        refine RegL.q (OpQ.assign rfl rfl) rfl rfl rfl ?_
        refine RegL.done ?_
        refine EvtL.seqReg ?_
        refine RegL.q (OpQ.move rfl rfl) rfl rfl rfl ?_
        refine RegL.q (OpQ.int2 rfl u_3 rfl rfl rfl rfl) rfl rfl rfl ?_
        refine RegL.done ?_
        refine EvtL.cond rfl (fun g3 => ?_) (fun g3 => ?_)
        have h3 := nT g3
        refine EvtL.seqReg ?_
        refine RegL.q (OpQ.move rfl rfl) rfl rfl rfl ?_
        refine RegL.q (OpQ.assign rfl rfl) rfl rfl rfl ?_
        refine RegL.done ?_
        rotate_left
        have h3 := nF g3
        refine EvtL.skip ?_
        refine EvtL.reg ?_
        refine RegL.q (OpQ.addN (b := 1) rfl u_3 rfl rfl (by first | assumption | omega | (simp only [List.length_append, List.length_cons, List.length_nil, List.length_take, List.length_drop]; omega))) rfl rfl rfl ?_
        refine RegL.q (OpQ.move rfl rfl) rfl rfl rfl ?_
        refine RegL.done ?_
        rotate_left
      · refine EvtL.ret ⟨.inl rfl, rfl, hl3, _, res_tmp rfl rfl, ?_⟩
        rw [ho, hd, hd2]
        show _ = AV.int .i64 (if _ then _ else _)
        rw [if_neg (by assumption)]; rfl
      · exact ⟨(i + 1, _), ⟨h, h9, by
          rw [ho, hd, hd2]
          show (if _ then _ else _) = _
          rw [if_pos (by assumption)], hb3, hl3⟩, by show a.length - (i + 1) < a.length - i; omega, rfl, rfl, by (refine Am.sub_of ?_; repeat (first | exact trivial | refine ⟨rfl, ?_⟩))⟩
    · rw [encTm_eq] at hc2 hl2 hid
      focus
        refine EvtL.seqReg ?_
        refine RegL.q (OpQ.int2 rfl u_3 rfl rfl rfl rfl) rfl rfl rfl ?_
        refine RegL.done ?_
        refine EvtL.seq ?_
        refine EvtL.cond rfl (fun g1 => ?_) (fun g1 => ?_)
        have h1 := of_decide_eq_true g1
        refine EvtL.skip ?_
        refine EvtL.seq ?_
        refine EvtL.block ?_
        refine EvtL.seqReg ?_
        refine RegL.q (OpQ.move rfl rfl) rfl rfl rfl ?_
        refine RegL.q (OpQ.indexAddrV rfl u_31 sz_34 rfl rfl (by assumption)) rfl rfl rfl ?_
        refine RegL.q (OpQ.loadI rfl rfl ag_34 sz_34 (Nat.le_of_ble_eq_true rfl)) rfl rfl rfl ?_
        refine RegL.op (OpL.alloc rfl z_34) rfl rfl rfl ?_
        refine RegL.q (OpQ.assign rfl rfl) rfl rfl rfl ?_
        refine RegL.opN (OpL.store rfl sz_34 rfl rfl (storeN_at (by assumption) rfl rfl rfl)) rfl rfl ?_
        refine RegL.done ?_
        refine EvtL.seq ?_
        refine EvtL.seqReg ?_
        refine RegL.q (OpQ.move rfl rfl) rfl rfl rfl ?_
        refine RegL.q (OpQ.move rfl rfl) rfl rfl rfl ?_
        refine RegL.q (OpQ.lenSl rfl rfl rfl rfl u_31 rfl) rfl rfl rfl ?_
        refine RegL.q (OpQ.int2 rfl u_3 rfl rfl rfl rfl) rfl rfl rfl ?_
        refine RegL.done ?_
        refine EvtL.cond rfl (fun g2 => ?_) (fun g2 => ?_)
        have h2 := of_decide_eq_true g2
        refine EvtL.seqReg ?_
        refine RegL.q (OpQ.assign rfl rfl) rfl rfl rfl ?_
        refine RegL.done ?_
        rotate_left
        have h2 := of_decide_eq_false g2
        exact absurd h2 (by omega)
        have h1 := of_decide_eq_false g1
        exact absurd h1 (by omega)
      refine EvtL.ret ⟨.inl rfl, rfl, hl2, _, res_tmp rfl rfl, ?_⟩
      have h0 : b.drop i = [] := List.drop_eq_nil_of_le (by omega)
      rw [ho, hd, h0]; rfl
  · focus
      refine EvtL.seqReg ?_
      refine RegL.q (OpQ.int2 rfl u_3 rfl rfl rfl rfl) rfl rfl rfl ?_
      refine RegL.done ?_
      refine EvtL.seq ?_
      refine EvtL.cond rfl (fun g1 => ?_) (fun g1 => ?_)
      have h1 := of_decide_eq_true g1
      exact absurd h1 (by omega)
      have h1 := of_decide_eq_false g1
      refine EvtL.exit ?_
      refine cond_t rfl ?_
      refine EvtL.seq ?_
      refine EvtL.seqReg ?_
      refine RegL.q (OpQ.move rfl rfl) rfl rfl rfl ?_
      refine RegL.q (OpQ.lenSl rfl rfl rfl rfl u_31 rfl) rfl rfl rfl ?_
      refine RegL.q (OpQ.move rfl rfl) rfl rfl rfl ?_
      refine RegL.q (OpQ.lenSl rfl rfl rfl rfl u_31 rfl) rfl rfl rfl ?_
      refine RegL.q (OpQ.int2 rfl u_3 rfl rfl rfl rfl) rfl rfl rfl ?_
      refine RegL.done ?_
      refine EvtL.cond rfl (fun g2 => ?_) (fun g2 => ?_)
      have h2 := of_decide_eq_true g2
      refine EvtL.seqReg ?_
      refine RegL.q (OpQ.assign rfl rfl) rfl rfl rfl ?_
      refine RegL.done ?_
      rotate_left
      have h2 := of_decide_eq_false g2
      refine EvtL.skip ?_
      refine EvtL.seqReg ?_
      refine RegL.q (OpQ.assign rfl rfl) rfl rfl rfl ?_
      refine RegL.done ?_
      rotate_left
    · refine EvtL.ret ⟨.inl rfl, rfl, hl, _, res_tmp rfl rfl, ?_⟩
      rw [ho, List.drop_eq_nil_of_le (by omega), cmps_nil, if_neg (by rw [List.length_drop]; omega)]; rfl
    · refine EvtL.ret ⟨.inl rfl, rfl, hl, _, res_tmp rfl rfl, ?_⟩
      rw [ho, List.drop_eq_nil_of_le (by omega), cmps_nil, if_pos (by rw [List.length_drop]; omega)]; rfl
end Go.Proofs.YtlclpmbeaofohaaGreat.So

/- How the program orders terms. -/
open Go Am
namespace Go.Proofs.YtlclpmbeaofohaaGreat.So
abbrev PrT := { p : TermT × TermT // sizeT p.1 ≤ 4000 ∧ sizeT p.2 ≤ 4000 }
def encPr (p : PrT) : List AV := [.agg (encTm p.1.1), .agg (encTm p.1.2)]
def resPr (p : PrT) : AV := .int .i64 (cmpT p.1.1 p.1.2)
theorem encPr_inj (x y : PrT) (h : encPr x = encPr y) : x = y := by
  obtain ⟨⟨a, b⟩, _⟩ := x
  obtain ⟨⟨a', b'⟩, _⟩ := y
  simp only [encPr, List.cons.injEq, AV.agg.injEq, and_true] at h
  obtain rfl := encTm_inj _ _ h.1
  obtain rfl := encTm_inj _ _ h.2
  rfl
theorem encPr_closed (p : PrT) : (encPr p).all (closedV 40) = true := by
  show (closedV 40 (.agg (encTm p.1.1)) && (closedV 40 (.agg (encTm p.1.2)) && true)) = true
  rw [tm_closed, tm_closed]; rfl
theorem cmpT_eq (t u : TermT) : cmpT t u = orL [sgn (sizeT t : Nat) (sizeT u : Nat), sgn t.op u.op, sgn t.n u.n, cmpTs t.kids u.kids] := by
  obtain ⟨o, n, ks⟩ := t
  rw [cmpT]; rfl
abbrev encII (p : Int × Int) : List AV := [.int .i64 p.1, .int .i64 p.2]
abbrev resII (p : Int × Int) : AV := .int .i64 (sgn p.1 p.2)
theorem encII_inj (x y : Int × Int) (h : encII x = encII y) : x = y := by
  obtain ⟨a, b⟩ := x
  obtain ⟨c, d⟩ := y
  cases h; rfl
theorem sgn_lt {a b : Int} (h : a < b) : sgn a b = -1 := if_pos h
theorem sgn_gt {a b : Int} (h : b < a) : sgn a b = 1 := by unfold sgn; rw [if_neg (by omega), if_pos h]
theorem sgn_eq {a b : Int} (h1 : ¬ a < b) (h2 : ¬ b < a) : sgn a b = 0 := by unfold sgn; rw [if_neg h1, if_neg h2]
theorem cmpi_to (a b : Int) : CallTo (EK K2) 45 [.int .i64 a, .int .i64 b] S0 (.int .i64 (sgn a b)) := by
  refine CallTo.s0 (fn := Tryz.f45) rfl rfl (by kernel_rfl) rfl rfl rfl rfl ?_
  focus
    refine EvtL.seqReg ?_
    refine RegL.q (OpQ.assign rfl rfl) rfl rfl rfl ?_
    refine RegL.done ?_
    refine EvtL.seqReg ?_
    refine RegL.q (OpQ.move rfl rfl) rfl rfl rfl ?_
    refine RegL.inl (fn := Tryz.f74) (by kernel_rfl) (by kernel_rfl) rfl rfl rfl rfl rfl rfl rfl rfl rfl rfl rfl ?_
    refine EvtL.seqReg ?_
    refine RegL.q (OpQ.assign rfl rfl) rfl rfl rfl ?_
    refine RegL.done ?_
    refine EvtL.seqReg ?_
    refine RegL.q (OpQ.move rfl rfl) rfl rfl rfl ?_
    refine RegL.q (OpQ.move rfl rfl) rfl rfl rfl ?_
    refine RegL.q (OpQ.int2 rfl u_3 rfl rfl rfl rfl) rfl rfl rfl ?_
    refine RegL.q (OpQ.assign rfl rfl) rfl rfl rfl ?_
    refine RegL.done ?_
    refine EvtL.ret (InlX.r (InlQ.same rfl (res_tmp rfl rfl) rfl rfl rfl rfl ?_))
    refine RegL.q (OpQ.assign rfl rfl) rfl rfl rfl ?_
    refine RegL.done ?_
    refine EvtL.seqReg ?_
    refine RegL.q (OpQ.move rfl rfl) rfl rfl rfl ?_
    refine RegL.inl (fn := Tryz.f74) (by kernel_rfl) (by kernel_rfl) rfl rfl rfl rfl rfl rfl rfl rfl rfl rfl rfl ?_
    refine EvtL.seqReg ?_
    refine RegL.q (OpQ.assign rfl rfl) rfl rfl rfl ?_
    refine RegL.done ?_
    refine EvtL.seqReg ?_
    refine RegL.q (OpQ.move rfl rfl) rfl rfl rfl ?_
    refine RegL.q (OpQ.move rfl rfl) rfl rfl rfl ?_
    refine RegL.q (OpQ.int2 rfl u_3 rfl rfl rfl rfl) rfl rfl rfl ?_
    refine RegL.q (OpQ.assign rfl rfl) rfl rfl rfl ?_
    refine RegL.done ?_
    refine EvtL.ret (InlX.r (InlQ.same rfl (res_tmp rfl rfl) rfl rfl rfl rfl ?_))
    refine RegL.q (OpQ.assign rfl rfl) rfl rfl rfl ?_
    refine RegL.done ?_
    refine EvtL.seq ?_
    refine EvtL.seqReg ?_
    refine RegL.q (OpQ.move rfl rfl) rfl rfl rfl ?_
    refine RegL.done ?_
    refine EvtL.cond rfl (fun g1 => ?_) (fun g1 => ?_)
    have h1 := nT g1
    exact absurd h1 (by omega)
    have h1 := nF g1
    refine EvtL.skip ?_
    refine EvtL.seq ?_
    refine EvtL.seqReg ?_
    refine RegL.q (OpQ.move rfl rfl) rfl rfl rfl ?_
    refine RegL.done ?_
    refine EvtL.cond rfl (fun g2 => ?_) (fun g2 => ?_)
    have h2 := nT g2
    exact absurd h2 (by omega)
    have h2 := nF g2
    refine EvtL.skip ?_
    refine EvtL.seq ?_
    refine EvtL.seqReg ?_
    refine RegL.q (OpQ.move rfl rfl) rfl rfl rfl ?_
    refine RegL.q (OpQ.move rfl rfl) rfl rfl rfl ?_
    refine RegL.q (OpQ.int2 rfl u_3 rfl rfl rfl rfl) rfl rfl rfl ?_
    refine RegL.done ?_
    refine EvtL.cond rfl (fun g3 => ?_) (fun g3 => ?_)
    have h3 := of_decide_eq_true g3
    refine EvtL.seqReg ?_
    refine RegL.q (OpQ.assign rfl rfl) rfl rfl rfl ?_
    refine RegL.done ?_
    refine EvtL.ret ⟨.inl rfl, rfl, rfl, rfl, _, _, _, (res_tmp rfl rfl), rfl, rfl, ?_⟩
    rotate_left
    have h3 := of_decide_eq_false g3
    refine EvtL.skip ?_
    refine EvtL.seq ?_
    refine EvtL.seqReg ?_
    refine RegL.q (OpQ.move rfl rfl) rfl rfl rfl ?_
    refine RegL.q (OpQ.move rfl rfl) rfl rfl rfl ?_
    refine RegL.q (OpQ.int2 rfl u_3 rfl rfl rfl rfl) rfl rfl rfl ?_
    refine RegL.done ?_
    refine EvtL.cond rfl (fun g4 => ?_) (fun g4 => ?_)
    have h4 := of_decide_eq_true g4
    refine EvtL.seqReg ?_
    refine RegL.q (OpQ.assign rfl rfl) rfl rfl rfl ?_
    refine RegL.done ?_
    refine EvtL.ret ⟨.inl rfl, rfl, rfl, rfl, _, _, _, (res_tmp rfl rfl), rfl, rfl, ?_⟩
    rotate_left
    have h4 := of_decide_eq_false g4
    refine EvtL.skip ?_
    refine EvtL.seqReg ?_
    refine RegL.q (OpQ.assign rfl rfl) rfl rfl rfl ?_
    refine RegL.done ?_
    refine EvtL.ret ⟨.inl rfl, rfl, rfl, rfl, _, _, _, (res_tmp rfl rfl), rfl, rfl, ?_⟩
    rotate_left
  · rw [sgn_lt (by assumption)]; rfl
  · rw [sgn_gt (by assumption)]; rfl
  · rw [sgn_eq (by assumption) (by assumption)]; rfl
noncomputable def K3a := addC K2 45 encII resII
theorem cmpo_to (a b : Int) : CallTo (EK K3a) 73 [.int .i64 a, .int .i64 b] S0 (.int .i64 (sgn a b)) := by
  refine CallTo.s0 (fn := Tryz.f73) rfl rfl (by kernel_rfl) rfl rfl rfl rfl ?_
  focus
    refine EvtL.seqReg ?_
    refine RegL.q (OpQ.assign rfl rfl) rfl rfl rfl ?_
    refine RegL.done ?_
    refine EvtL.seqReg ?_
    refine RegL.q (OpQ.move rfl rfl) rfl rfl rfl ?_
    refine RegL.inl (fn := Tryz.f101) (by kernel_rfl) (by kernel_rfl) rfl rfl rfl rfl rfl rfl rfl rfl rfl rfl rfl ?_
    refine EvtL.seqReg ?_
    refine RegL.q (OpQ.assign rfl rfl) rfl rfl rfl ?_
    refine RegL.done ?_
    refine EvtL.seqReg ?_
    refine RegL.q (OpQ.move rfl rfl) rfl rfl rfl ?_
    refine RegL.q (OpQ.move rfl rfl) rfl rfl rfl ?_
    refine RegL.q (OpQ.int2 rfl u_32 rfl rfl rfl rfl) rfl rfl rfl ?_
    refine RegL.q (OpQ.assign rfl rfl) rfl rfl rfl ?_
    refine RegL.done ?_
    refine EvtL.ret (InlX.r (InlQ.same rfl (res_tmp rfl rfl) rfl rfl rfl rfl ?_))
    refine RegL.q (OpQ.assign rfl rfl) rfl rfl rfl ?_
    refine RegL.done ?_
    refine EvtL.seqReg ?_
    refine RegL.q (OpQ.move rfl rfl) rfl rfl rfl ?_
    refine RegL.inl (fn := Tryz.f101) (by kernel_rfl) (by kernel_rfl) rfl rfl rfl rfl rfl rfl rfl rfl rfl rfl rfl ?_
    refine EvtL.seqReg ?_
    refine RegL.q (OpQ.assign rfl rfl) rfl rfl rfl ?_
    refine RegL.done ?_
    refine EvtL.seqReg ?_
    refine RegL.q (OpQ.move rfl rfl) rfl rfl rfl ?_
    refine RegL.q (OpQ.move rfl rfl) rfl rfl rfl ?_
    refine RegL.q (OpQ.int2 rfl u_32 rfl rfl rfl rfl) rfl rfl rfl ?_
    refine RegL.q (OpQ.assign rfl rfl) rfl rfl rfl ?_
    refine RegL.done ?_
    refine EvtL.ret (InlX.r (InlQ.same rfl (res_tmp rfl rfl) rfl rfl rfl rfl ?_))
    refine RegL.q (OpQ.assign rfl rfl) rfl rfl rfl ?_
    refine RegL.done ?_
    refine EvtL.seq ?_
    refine EvtL.seqReg ?_
    refine RegL.q (OpQ.move rfl rfl) rfl rfl rfl ?_
    refine RegL.done ?_
    refine EvtL.cond rfl (fun g1 => ?_) (fun g1 => ?_)
    have h1 := nT g1
    exact absurd h1 (by omega)
    have h1 := nF g1
    refine EvtL.skip ?_
    refine EvtL.seq ?_
    refine EvtL.seqReg ?_
    refine RegL.q (OpQ.move rfl rfl) rfl rfl rfl ?_
    refine RegL.done ?_
    refine EvtL.cond rfl (fun g2 => ?_) (fun g2 => ?_)
    have h2 := nT g2
    exact absurd h2 (by omega)
    have h2 := nF g2
    refine EvtL.skip ?_
    refine EvtL.seq ?_
    refine EvtL.seqReg ?_
    refine RegL.q (OpQ.move rfl rfl) rfl rfl rfl ?_
    refine RegL.q (OpQ.move rfl rfl) rfl rfl rfl ?_
    refine RegL.q (OpQ.int2 rfl u_32 rfl rfl rfl rfl) rfl rfl rfl ?_
    refine RegL.done ?_
    refine EvtL.cond rfl (fun g3 => ?_) (fun g3 => ?_)
    have h3 := of_decide_eq_true g3
    refine EvtL.seqReg ?_
    refine RegL.q (OpQ.assign rfl rfl) rfl rfl rfl ?_
    refine RegL.done ?_
    refine EvtL.ret ⟨.inl rfl, rfl, rfl, rfl, _, _, _, (res_tmp rfl rfl), rfl, rfl, ?_⟩
    rotate_left
    have h3 := of_decide_eq_false g3
    refine EvtL.skip ?_
    refine EvtL.seq ?_
    refine EvtL.seqReg ?_
    refine RegL.q (OpQ.move rfl rfl) rfl rfl rfl ?_
    refine RegL.q (OpQ.move rfl rfl) rfl rfl rfl ?_
    refine RegL.q (OpQ.int2 rfl u_32 rfl rfl rfl rfl) rfl rfl rfl ?_
    refine RegL.done ?_
    refine EvtL.cond rfl (fun g4 => ?_) (fun g4 => ?_)
    have h4 := of_decide_eq_true g4
    refine EvtL.seqReg ?_
    refine RegL.q (OpQ.assign rfl rfl) rfl rfl rfl ?_
    refine RegL.done ?_
    refine EvtL.ret ⟨.inl rfl, rfl, rfl, rfl, _, _, _, (res_tmp rfl rfl), rfl, rfl, ?_⟩
    rotate_left
    have h4 := of_decide_eq_false g4
    refine EvtL.skip ?_
    refine EvtL.seqReg ?_
    refine RegL.q (OpQ.assign rfl rfl) rfl rfl rfl ?_
    refine RegL.done ?_
    refine EvtL.ret ⟨.inl rfl, rfl, rfl, rfl, _, _, _, (res_tmp rfl rfl), rfl, rfl, ?_⟩
    rotate_left
  · rw [sgn_lt (by assumption)]; rfl
  · rw [sgn_gt (by assumption)]; rfl
  · rw [sgn_eq (by assumption) (by assumption)]; rfl
noncomputable def K3 := addC K3a 73 encII resII
theorem all3 (h : Given) : KnownAll Tryz.prog K3 :=
  addC_allI h.ins (addC_allI h.ins (all2 h) (fun p => cmpi_to p.1 p.2) (fun _ => rfl) (fun _ => rfl)) (fun p => cmpo_to p.1 p.2) (fun _ => rfl) (fun _ => rfl)
theorem hit_73 {a b : Int} : K3 73 [.int .i64 a, .int .i64 b] = some (.int .i64 (sgn a b)) := addC_hit (enc := encII) (res := resII) (fun x y h => by rw [encII_inj x y h]) (a, b)
theorem hit_45 {a b : Int} : K3 45 [.int .i64 a, .int .i64 b] = some (.int .i64 (sgn a b)) := (show K3 45 [.int .i64 a, .int .i64 b] = K3a 45 [.int .i64 a, .int .i64 b] from rfl).trans (addC_hit (enc := encII) (res := resII) (fun x y h => by rw [encII_inj x y h]) (a, b))
noncomputable abbrev KC := lay K3 44 encPr resPr (fun p => deepT p.1.1)
abbrev LlT (d : Nat) := { p : List TermT × List TermT // deepTs p.1 ≤ d ∧ sizeTs p.1 ≤ 4000 ∧ sizeTs p.2 ≤ 4000 }
def encLl {d : Nat} (p : LlT d) : List AV := [recs encTm 3 p.1.1, recs encTm 3 p.1.2, .func (.func 44) [] []]
theorem encLl_inj {d : Nat} (x y : LlT d) (h : encLl x = encLl y) : x = y := by
  obtain ⟨⟨a, b⟩, _⟩ := x
  obtain ⟨⟨a', b'⟩, _⟩ := y
  simp only [encLl, List.cons.injEq, and_true] at h
  obtain rfl := recs_inj encTm_inj encTm_len h.1
  obtain rfl := recs_inj encTm_inj encTm_len h.2
  rfl
noncomputable abbrev KD (d : Nat) := addC (KC d) 46 (encLl (d := d)) (fun p => .int .i64 (cmpTs p.1.1 p.1.2))
theorem KD_known {d : Nat} (h : Given) (hK : KnownAll Tryz.prog (KC d)) : KnownAll Tryz.prog (KD d) :=
  addC_allI h.ins hK (fun p => cmpf_to (fun _ => rfl) p.1.1 p.1.2 (by have := len_sizes p.1.1; have := p.2.2.1; omega) (by have := len_sizes p.1.2; have := p.2.2.2; omega) (fun a ha b hb => lay_hit (deep := fun p : PrT => deepT p.1.1) encPr_inj ⟨(a, b), by have := size_kid ha; have := p.2.2.1; dsimp only; omega, by have := size_kid hb; have := p.2.2.2; dsimp only; omega⟩ (Nat.le_trans (deep_kid ha) p.2.1)))
    (fun _ => rfl) (fun _ => rfl)
theorem compare_to (d : Nat) (t u : TermT) (h : deepT t = d + 1) (ht : sizeT t ≤ 4000) (hu : sizeT u ≤ 4000) (hx : KC d 44 [.agg (encTm t), .agg (encTm u)] = none) :
    CallTo (EK (KD d)) 44 [.agg (encTm t), .agg (encTm u)] S0 (.int .i64 (cmpT t u)) := by
  have hdk : deepTs t.kids ≤ d := by rw [deepT_eq] at h; omega
  have hs1 := sizeT_eq t
  have hs2 := sizeT_eq u
  have hl1 := len_sizes t.kids
  have hl2 := len_sizes u.kids
  have hx : KD d 44 [.agg (encTm t), .agg (encTm u)] = none := hx
  have hit_46 : KD d 46 [recs encTm 3 t.kids, recs encTm 3 u.kids, .func (.func 44) [] []] = some (.int .i64 (cmpTs t.kids u.kids)) := addC_hit (enc := encLl (d := d)) (res := fun p => .int .i64 (cmpTs p.1.1 p.1.2)) (fun a b h => by rw [encLl_inj a b h]) ⟨(t.kids, u.kids), hdk, by dsimp only; omega, by dsimp only; omega⟩
  have hit_45 : ∀ a b, KD d 45 [.int .i64 a, .int .i64 b] = some (.int .i64 (sgn a b)) := fun a b => So.hit_45
  have hit_73 : ∀ a b, KD d 73 [.int .i64 a, .int .i64 b] = some (.int .i64 (sgn a b)) := fun a b => So.hit_73
  have hitb_72 : KD d 72 [.agg (encTm u)] = some (.int .i64 (sizeT u : Nat)) := So.hit_72 hu
  have hit_72 : KD d 72 [.agg (encTm t)] = some (.int .i64 (sizeT t : Nat)) := So.hit_72 ht
  rw [cmpT_eq]
  rw [encTm_eq] at hx hit_72 hitb_72
  rw [encTm_eq u] at hx
  simp only [encTm_eq]
  refine CallTo.s0 (fn := Tryz.f44) rfl hx (by kernel_rfl) rfl rfl rfl rfl ?_
  refine EvtL.seqReg ?_
  refine RegL.op (OpL.boxS 1 rfl rfl rfl rfl) rfl rfl rfl ?_
  refine RegL.op (OpL.boxS 2 rfl rfl rfl rfl) rfl rfl rfl ?_
  refine RegL.q (OpQ.assign rfl rfl) rfl rfl rfl ?_
  refine RegL.done ?_
  refine EvtL.seqDrawN (by kernel_rfl) ?_
  refine RegN.loadSA rfl ag_34 sz_34 rfl rfl (Nat.le_of_ble_eq_true rfl) (by kernel_rfl) (.inl rfl) rfl rfl ?_
  refine RegN.aG (OpA.callFn rfl rfl (by kernel_rfl) rfl (hit_72)) (.inl rfl) rfl rfl ?_
  refine RegN.loadSA rfl ag_34 sz_34 rfl rfl (Nat.le_of_ble_eq_true rfl) (by kernel_rfl) (.inl rfl) rfl rfl ?_
  refine RegN.aG (OpA.callFn rfl rfl (by kernel_rfl) rfl (hitb_72)) (.inl rfl) rfl rfl ?_
  refine RegN.aG (OpA.callFn rfl rfl (by kernel_rfl) rfl (hit_45 _ _)) (.inl rfl) rfl rfl ?_
  refine RegN.qG (OpQ.fieldAddr rfl f_34_0 rfl) (.inl rfl) rfl rfl ?_
  refine RegN.loadS1 rfl ag_32 sz_32 rfl rfl rfl (by kernel_rfl) (.inl rfl) rfl rfl ?_
  refine RegN.qG (OpQ.fieldAddr rfl f_34_0 rfl) (.inl rfl) rfl rfl ?_
  refine RegN.loadS1 rfl ag_32 sz_32 rfl rfl rfl (by kernel_rfl) (.inl rfl) rfl rfl ?_
  refine RegN.aG (OpA.callFn rfl rfl (by kernel_rfl) rfl (hit_73 _ _)) (.inl rfl) rfl rfl ?_
  refine RegN.qG (OpQ.fieldAddr rfl f_34_1 rfl) (.inl rfl) rfl rfl ?_
  refine RegN.loadS1 rfl ag_3 sz_3 rfl rfl rfl (by kernel_rfl) (.inl rfl) rfl rfl ?_
  refine RegN.qG (OpQ.fieldAddr rfl f_34_1 rfl) (.inl rfl) rfl rfl ?_
  refine RegN.loadS1 rfl ag_3 sz_3 rfl rfl rfl (by kernel_rfl) (.inl rfl) rfl rfl ?_
  refine RegN.aG (OpA.callFn rfl rfl (by kernel_rfl) rfl (hit_45 _ _)) (.inl rfl) rfl rfl ?_
  refine RegN.qG (OpQ.fieldAddr rfl f_34_2 rfl) (.inl rfl) rfl rfl ?_
  refine RegN.loadS1 rfl ag_31 sz_31 rfl rfl rfl (by kernel_rfl) (.inl rfl) rfl rfl ?_
  refine RegN.qG (OpQ.fieldAddr rfl f_34_2 rfl) (.inl rfl) rfl rfl ?_
  refine RegN.loadS1 rfl ag_31 sz_31 rfl rfl rfl (by kernel_rfl) (.inl rfl) rfl rfl ?_
  refine RegN.aG (OpA.callFn rfl rfl (by kernel_rfl) rfl (hit_46)) (.inl rfl) rfl rfl ?_
  refine RegN.buildSlice rfl u_30 sz_3 z_3 rfl rfl rfl (.inl rfl) rfl rfl ?_
  refine RegN.runsF2 (by kernel_rfl) rfl rfl rfl (or_to (K := KD d) (b := 2) (l := [sgn (sizeT t : Nat) (sizeT u : Nat), sgn t.op u.op, sgn t.n u.n, cmpTs t.kids u.kids]) (fun _ => rfl) get_new (by show 4 ≤ 4000; omega)).runsR (by kernel_rfl) (by kernel_rfl) (.inl rfl) rfl rfl ?_
  rintro v s2 ⟨rfl, rfl⟩
  refine ⟨Nat.le_refl _, ⟨fun b hb => absurd hb List.not_mem_nil, fun nl2 _ => ?_⟩⟩
  refine RegN.qG (OpQ.assign rfl rfl) (.inl rfl) rfl rfl ?_
  refine RegN.done ?_
  refine EvtL.ret ⟨.inl rfl, rfl, rfl, rfl, _, _, _, (res_tmp rfl rfl), rfl, rfl, ?_⟩
  rfl
noncomputable def K4 := addC K3 44 encPr resPr
theorem all4 (h : Given) : KnownAll Tryz.prog K4 :=
  lay_all (deep := fun p : PrT => deepT p.1.1) (all3 h) encPr_inj (fun p => deep_pos p.1.1) fun d p hp hx hK => known_ofI h.ins (KD_known h hK) (compare_to d p.1.1 p.1.2 hp p.2.1 p.2.2 hx) (encPr_closed p) rfl
theorem hit_44 {t u : TermT} (ht : sizeT t ≤ 4000) (hu : sizeT u ≤ 4000) : K4 44 [.agg (encTm t), .agg (encTm u)] = some (.int .i64 (cmpT t u)) := addC_hit (enc := encPr) (res := resPr) (fun a b h => by rw [encPr_inj a b h]) ⟨(t, u), ht, hu⟩
end Go.Proofs.YtlclpmbeaofohaaGreat.So

/- Answers; how the program orders them. -/
open Go Am
namespace Go.Proofs.YtlclpmbeaofohaaGreat.So
abbrev LrT := { p : List TermT × List TermT // sizeTs p.1 ≤ 4000 ∧ sizeTs p.2 ≤ 4000 }
def encLr (p : LrT) : List AV := [recs encTm 3 p.1.1, recs encTm 3 p.1.2, .func (.func 44) [] []]
def resLr (p : LrT) : AV := .int .i64 (cmpTs p.1.1 p.1.2)
theorem encLr_inj (x y : LrT) (h : encLr x = encLr y) : x = y := by
  obtain ⟨⟨a, b⟩, _⟩ := x
  obtain ⟨⟨a', b'⟩, _⟩ := y
  simp only [encLr, List.cons.injEq, and_true] at h
  obtain rfl := recs_inj encTm_inj encTm_len h.1
  obtain rfl := recs_inj encTm_inj encTm_len h.2
  rfl
noncomputable def K5a := addC K4 46 encLr resLr
theorem all5a (h : Given) : KnownAll Tryz.prog K5a :=
  addC_allI h.ins (all4 h) (fun p => cmpf_to (fun _ => rfl) p.1.1 p.1.2 (by have := len_sizes p.1.1; have := p.2.1; omega) (by have := len_sizes p.1.2; have := p.2.2; omega) (fun a ha b hb => hit_44 (by have := size_kid ha; have := p.2.1; omega) (by have := size_kid hb; have := p.2.2; omega)))
    (fun _ => rfl) (fun _ => rfl)
/-- An answer: what the variables are, and the value. -/
structure AnsT where
  vars : List TermT
  value : TermT
def encAn (a : AnsT) : List AV := [recs encTm 3 a.vars, .int .i64 a.value.op, .int .i64 a.value.n, recs encTm 3 a.value.kids]
theorem encAn_len (a : AnsT) : (encAn a).length = 3 + 1 := rfl
theorem encAn_inj (a b : AnsT) (h : encAn a = encAn b) : a = b := by
  obtain ⟨v, o, n, k⟩ := a
  obtain ⟨v', o', n', k'⟩ := b
  simp only [encAn, List.cons.injEq, AV.int.injEq, and_true, true_and] at h
  obtain ⟨h1, h2, h3, h4⟩ := h
  obtain rfl := recs_inj encTm_inj encTm_len h1
  obtain rfl := recs_inj encTm_inj encTm_len h4
  have h2 : o = o' := h2
  have h3 : n = n' := h3
  rw [h2, h3]; rfl
def SlimA (a : AnsT) : Prop := sizeTs a.vars ≤ 4000 ∧ sizeT a.value ≤ 4000
def ordA (a b : AnsT) : Int := orL [cmpT a.value b.value, sgn (a.vars.length : Nat) (b.vars.length : Nat), cmpTs a.vars b.vars]
abbrev OrT := { p : AnsT × AnsT // SlimA p.1 ∧ SlimA p.2 }
def encOr (p : OrT) : List AV := [.agg (encAn p.1.1), .agg (encAn p.1.2)]
def resOr (p : OrT) : AV := .int .i64 (ordA p.1.1 p.1.2)
theorem encOr_inj (x y : OrT) (h : encOr x = encOr y) : x = y := by
  obtain ⟨⟨a, b⟩, _⟩ := x
  obtain ⟨⟨a', b'⟩, _⟩ := y
  simp only [encOr, List.cons.injEq, AV.agg.injEq, and_true] at h
  obtain rfl := encAn_inj _ _ h.1
  obtain rfl := encAn_inj _ _ h.2
  rfl
theorem order_to (a b : AnsT) (ha : SlimA a) (hb : SlimA b) : CallTo (EK K5a) 23 [.agg (encAn a), .agg (encAn b)] S0 (.int .i64 (ordA a b)) := by
  obtain ⟨v, t⟩ := a
  obtain ⟨w, u⟩ := b
  have hit_46 : K5a 46 [recs encTm 3 v, recs encTm 3 w, .func (.func 44) [] []] = some (.int .i64 (cmpTs v w)) := addC_hit (enc := encLr) (res := resLr) (fun a b h => by rw [encLr_inj a b h]) ⟨(v, w), ha.1, hb.1⟩
  have hit_45 : ∀ a b, K5a 45 [.int .i64 a, .int .i64 b] = some (.int .i64 (sgn a b)) := fun a b => So.hit_45
  have hit_44 : K5a 44 [.agg (encTm t), .agg (encTm u)] = some (.int .i64 (cmpT t u)) := So.hit_44 ha.2 hb.2
  have hv := len_sizes v
  have hw := len_sizes w
  have hv2 := ha.1
  have hw2 := hb.1
  dsimp only at hv2 hw2
  rw [encTm_eq, encTm_eq u] at hit_44
  unfold encAn
  refine CallTo.s0 (fn := Tryz.f23) rfl rfl (by kernel_rfl) rfl rfl rfl rfl ?_
  refine EvtL.seqReg ?_
  refine RegL.op (OpL.boxS 1 rfl rfl rfl rfl) rfl rfl rfl ?_
  refine RegL.op (OpL.boxS 2 rfl rfl rfl rfl) rfl rfl rfl ?_
  refine RegL.q (OpQ.assign rfl rfl) rfl rfl rfl ?_
  refine RegL.done ?_
  refine EvtL.seqDrawN (by kernel_rfl) ?_
  refine RegN.qG (OpQ.fieldAddr rfl f_36_1 rfl) (.inl rfl) rfl rfl ?_
  refine RegN.loadSA rfl ag_34 sz_34 rfl rfl (Nat.le_of_ble_eq_true rfl) (by kernel_rfl) (.inl rfl) rfl rfl ?_
  refine RegN.qG (OpQ.fieldAddr rfl f_36_1 rfl) (.inl rfl) rfl rfl ?_
  refine RegN.loadSA rfl ag_34 sz_34 rfl rfl (Nat.le_of_ble_eq_true rfl) (by kernel_rfl) (.inl rfl) rfl rfl ?_
  refine RegN.aG (OpA.callFn rfl rfl (by kernel_rfl) rfl (hit_44)) (.inl rfl) rfl rfl ?_
  refine RegN.qG (OpQ.fieldAddr rfl f_36_0 rfl) (.inl rfl) rfl rfl ?_
  refine RegN.loadS1 rfl ag_31 sz_31 rfl rfl rfl (by kernel_rfl) (.inl rfl) rfl rfl ?_
  refine RegN.qG (OpQ.lenSl rfl rfl rfl rfl u_31 rfl) (.inl rfl) rfl rfl ?_
  refine RegN.qG (OpQ.fieldAddr rfl f_36_0 rfl) (.inl rfl) rfl rfl ?_
  refine RegN.loadS1 rfl ag_31 sz_31 rfl rfl rfl (by kernel_rfl) (.inl rfl) rfl rfl ?_
  refine RegN.qG (OpQ.lenSl rfl rfl rfl rfl u_31 rfl) (.inl rfl) rfl rfl ?_
  refine RegN.aG (OpA.callFn rfl rfl (by kernel_rfl) rfl (hit_45 _ _)) (.inl rfl) rfl rfl ?_
  refine RegN.qG (OpQ.fieldAddr rfl f_36_0 rfl) (.inl rfl) rfl rfl ?_
  refine RegN.loadS1 rfl ag_31 sz_31 rfl rfl rfl (by kernel_rfl) (.inl rfl) rfl rfl ?_
  refine RegN.qG (OpQ.fieldAddr rfl f_36_0 rfl) (.inl rfl) rfl rfl ?_
  refine RegN.loadS1 rfl ag_31 sz_31 rfl rfl rfl (by kernel_rfl) (.inl rfl) rfl rfl ?_
  refine RegN.aG (OpA.callFn rfl rfl (by kernel_rfl) rfl (hit_46)) (.inl rfl) rfl rfl ?_
  refine RegN.buildSlice rfl u_30 sz_3 z_3 rfl rfl rfl (.inl rfl) rfl rfl ?_
  refine RegN.runsF2 (by kernel_rfl) rfl rfl rfl (or_to (K := K5a) (b := 2) (l := [cmpT t u, sgn (v.length : Nat) (w.length : Nat), cmpTs v w]) (fun _ => rfl) get_new (by show 3 ≤ 4000; omega)).runsR (by kernel_rfl) (by kernel_rfl) (.inl rfl) rfl rfl ?_
  rintro v s2 ⟨rfl, rfl⟩
  refine ⟨Nat.le_refl _, ⟨fun b hb => absurd hb List.not_mem_nil, fun nl2 _ => ?_⟩⟩
  refine RegN.qG (OpQ.assign rfl rfl) (.inl rfl) rfl rfl ?_
  refine RegN.done ?_
  refine EvtL.ret ⟨.inl rfl, rfl, rfl, rfl, _, _, _, (res_tmp rfl rfl), rfl, rfl, ?_⟩
  rfl
noncomputable def K5 := addC K5a 23 encOr resOr
theorem all5 (h : Given) : KnownAll Tryz.prog K5 := addC_allI h.ins (all5a h) (fun p => order_to p.1.1 p.1.2 p.2.1 p.2.2) (fun _ => rfl) (fun _ => rfl)
theorem hit_23 {a b : AnsT} (ha : SlimA a) (hb : SlimA b) : K5 23 [.agg (encAn a), .agg (encAn b)] = some (.int .i64 (ordA a b)) := addC_hit (enc := encOr) (res := resOr) (fun a b h => by rw [encOr_inj a b h]) ⟨(a, b), ha, hb⟩
end Go.Proofs.YtlclpmbeaofohaaGreat.So

/- The order of answers is one. -/
open Go Am
namespace Go.Proofs.YtlclpmbeaofohaaGreat.So
theorem sgn_zero {a b : Int} (h : sgn a b = 0) : a = b := by
  unfold sgn at h
  split at h
  · omega
  · split at h <;> omega
theorem sgn_neg {a b : Int} (h : sgn a b < 0) : a < b := by
  unfold sgn at h
  split at h
  · assumption
  · split at h <;> omega
theorem sgn_anti (a b : Int) : sgn b a = -sgn a b := by
  unfold sgn
  split <;> split <;> first | omega | (split <;> omega)
theorem orL_zero {a : Int} {l : List Int} (h : orL (a :: l) = 0) : a = 0 ∧ orL l = 0 := by
  unfold orL at h
  split at h
  · next e => exact ⟨e, h⟩
  · next e => exact absurd h e
theorem orL_neg {a : Int} {l : List Int} (h : orL (a :: l) < 0) : a < 0 ∨ (a = 0 ∧ orL l < 0) := by
  unfold orL at h
  split at h
  · next e => exact .inr ⟨e, h⟩
  · exact .inl h
theorem orL_lt {a : Int} {l : List Int} (h : a < 0) : orL (a :: l) < 0 := by
  unfold orL
  rw [if_neg (by omega)]; exact h
theorem orL_eq {a : Int} {l : List Int} (h : a = 0) : orL (a :: l) = orL l := if_pos h
theorem orL_anti : ∀ {l m : List Int}, l.map (fun a => -a) = m → orL m = -orL l
  | [], _, h => by subst h; rfl
  | a :: l, _, h => by
    subst h
    rw [List.map_cons]
    unfold orL
    by_cases e : a = 0
    · rw [if_pos (by omega), if_pos e, orL_anti (l := l) rfl]
    · rw [if_neg (by omega), if_neg e]
theorem orL_trans {a b c : Int} {l m n : List Int} (h1 : orL (a :: l) < 0) (h2 : orL (b :: m) < 0) (ht : a < 0 → b < 0 → c < 0) (hl : a = 0 → c = b) (hr : b = 0 → c = a) (hn : a = 0 → b = 0 → orL l < 0 → orL m < 0 → orL n < 0) : orL (c :: n) < 0 := by
  rcases orL_neg h1 with h1 | ⟨a1, h1⟩
  · rcases orL_neg h2 with h2 | ⟨a2, h2⟩
    · exact orL_lt (ht h1 h2)
    · exact orL_lt (by rw [hr a2]; exact h1)
  · rcases orL_neg h2 with h2 | ⟨a2, h2⟩
    · exact orL_lt (by rw [hl a1]; exact h2)
    · rw [orL_eq (by rw [hl a1, a2])]; exact hn a1 a2 h1 h2
theorem sgn_trans {a b c : Int} : (sgn a b < 0 → sgn b c < 0 → sgn a c < 0) ∧ (sgn a b = 0 → sgn a c = sgn b c) ∧ (sgn b c = 0 → sgn a c = sgn a b) :=
  ⟨fun h1 h2 => by rw [sgn_lt (Int.lt_trans (sgn_neg h1) (sgn_neg h2))]; omega, fun h => by rw [sgn_zero h], fun h => by rw [sgn_zero h]⟩
mutual
theorem cmpT_zero : ∀ (t u : TermT), cmpT t u = 0 → t = u
  | .mk o n ks, .mk o' n' ks', h => by
    rw [cmpT_eq] at h
    obtain ⟨_, h⟩ := orL_zero h
    obtain ⟨h1, h⟩ := orL_zero h
    obtain ⟨h2, h⟩ := orL_zero h
    obtain ⟨h3, _⟩ := orL_zero h
    have h1 : o = o' := sgn_zero h1
    have h2 : n = n' := sgn_zero h2
    rw [h1, h2, cmps_zero ks ks' h3]
theorem cmps_zero : ∀ (ts us : List TermT), cmpTs ts us = 0 → ts = us
  | [], [], _ => rfl
  | [], _ :: _, h => by cases h
  | _ :: _, [], h => by cases h
  | t :: ts, u :: us, h => by
    rw [cmpTs] at h
    split at h
    · next e => rw [cmpT_zero t u e, cmps_zero ts us h]
    · next e => exact absurd h e
end
mutual
theorem cmpT_anti : ∀ (t u : TermT), cmpT u t = -cmpT t u
  | .mk o n ks, u => by
    rw [cmpT_eq (.mk o n ks), cmpT_eq u]
    refine orL_anti ?_
    simp only [List.map_cons, List.map_nil]
    rw [← sgn_anti, ← sgn_anti, ← sgn_anti, show -cmpTs (TermT.mk o n ks).kids u.kids = cmpTs u.kids (TermT.mk o n ks).kids from (cmps_anti ks u.kids).symm]
theorem cmps_anti : ∀ (ts us : List TermT), cmpTs us ts = -cmpTs ts us
  | [], [] => rfl
  | [], _ :: _ => rfl
  | _ :: _, [] => rfl
  | t :: ts, u :: us => by
    have h := cmpT_anti t u
    rw [cmpTs, cmpTs, h]
    by_cases e : cmpT t u = 0
    · rw [if_pos (by omega), if_pos e, cmps_anti ts us]
    · rw [if_neg (by omega), if_neg e]
end
mutual
theorem cmpT_trans : ∀ (t u v : TermT), cmpT t u < 0 → cmpT u v < 0 → cmpT t v < 0
  | .mk o n ks, u, v, h1, h2 => by
    rw [cmpT_eq] at h1 h2 ⊢
    have hk := cmps_trans ks u.kids v.kids
    refine orL_trans h1 h2 sgn_trans.1 sgn_trans.2.1 sgn_trans.2.2 fun _ _ h1 h2 => ?_
    refine orL_trans h1 h2 sgn_trans.1 sgn_trans.2.1 sgn_trans.2.2 fun _ _ h1 h2 => ?_
    refine orL_trans h1 h2 sgn_trans.1 sgn_trans.2.1 sgn_trans.2.2 fun _ _ h1 h2 => ?_
    exact orL_trans h1 h2 hk (fun h => by rw [cmps_zero _ _ h]) (fun h => by rw [cmps_zero _ _ h]) fun _ _ h _ => absurd h (Int.lt_irrefl 0)
theorem cmps_trans : ∀ (ts us vs : List TermT), cmpTs ts us < 0 → cmpTs us vs < 0 → cmpTs ts vs < 0
  | [], [], _, h, _ => by cases h
  | [], _ :: _, [], _, h => by cases h
  | [], _ :: _, _ :: _, _, _ => by show (-1 : Int) < 0; omega
  | _ :: _, [], _, h, _ => by cases h
  | _ :: _, _ :: _, [], _, h => by cases h
  | t :: ts, u :: us, v :: vs, h1, h2 => by
    rw [cmpTs] at h1 h2 ⊢
    split at h1
    · next e =>
      obtain rfl := cmpT_zero t u e
      split at h2
      · next e2 => rw [if_pos e2]; exact cmps_trans ts us vs h1 h2
      · next e2 => rw [if_neg e2]; exact h2
    · next e =>
      split at h2
      · next e2 =>
        obtain rfl := cmpT_zero u v e2
        rw [if_neg e]; exact h1
      · have := cmpT_trans t u v h1 h2
        rw [if_neg (by omega)]; exact this
end
theorem ordA_anti (a b : AnsT) : ordA b a = -ordA a b := by
  unfold ordA
  refine orL_anti ?_
  simp only [List.map_cons, List.map_nil]
  rw [← sgn_anti, ← cmpT_anti, ← cmps_anti]
theorem ordA_trans {a b c : AnsT} (h1 : ordA a b < 0) (h2 : ordA b c < 0) : ordA a c < 0 := by
  refine orL_trans h1 h2 (cmpT_trans _ _ _) (fun h => by rw [cmpT_zero _ _ h]) (fun h => by rw [cmpT_zero _ _ h]) fun _ _ h1 h2 => ?_
  refine orL_trans h1 h2 sgn_trans.1 sgn_trans.2.1 sgn_trans.2.2 fun _ _ h1 h2 => ?_
  exact orL_trans h1 h2 (cmps_trans _ _ _) (fun h => by rw [cmps_zero _ _ h]) (fun h => by rw [cmps_zero _ _ h]) fun _ _ h _ => absurd h (Int.lt_irrefl 0)
end Go.Proofs.YtlclpmbeaofohaaGreat.So

/- A sorted list, and one more. -/
open Go Am
namespace Go.Proofs.YtlclpmbeaofohaaGreat.So
def firstA (x : AnsT) : List AnsT → Nat
  | [] => 0
  | a :: l => if ordA a x < 0 then firstA x l + 1 else 0
theorem first_le (x : AnsT) : ∀ l : List AnsT, firstA x l ≤ l.length
  | [] => Nat.le_refl _
  | a :: l => by
    have := first_le x l
    unfold firstA
    split <;> simp only [List.length_cons] <;> omega
theorem first_lt {x : AnsT} : ∀ {l : List AnsT} {p : Nat} (hp : p < l.length), p < firstA x l → ordA l[p] x < 0
  | a :: l, p, hp, h => by
    unfold firstA at h
    split at h
    · next ha =>
      cases p with
      | zero => exact ha
      | succ p => exact first_lt (l := l) (by simpa using hp) (by omega)
    · omega
theorem first_at {x : AnsT} : ∀ {l : List AnsT} (h : firstA x l < l.length), ¬ ordA l[firstA x l] x < 0
  | a :: l, h => by
    unfold firstA at h
    split at h
    · next ha =>
      have := first_at (x := x) (l := l) (by simpa using h)
      simp only [firstA, if_pos ha, List.getElem_cons_succ]
      exact this
    · next ha => simp only [firstA, if_neg ha, List.getElem_cons_zero]; exact ha
theorem first_eq {x : AnsT} {l : List AnsT} {k : Nat} (hk : k ≤ l.length) (h1 : ∀ p (hp : p < l.length), p < k → ordA l[p] x < 0) (h2 : ∀ h : k < l.length, ¬ ordA l[k] x < 0) : firstA x l = k := by
  rcases Nat.lt_trichotomy (firstA x l) k with h | h | h
  · exact absurd (h1 _ (by omega) h) (first_at (by omega))
  · exact h
  · have := first_le x l
    exact absurd (first_lt (by omega) h) (h2 (by omega))
def SortedA (l : List AnsT) : Prop := l.Pairwise fun a b => ordA a b < 0
theorem sorted_lt {l : List AnsT} (h : SortedA l) {p q : Nat} (hq : q < l.length) (hpq : p < q) : ordA l[p] l[q] < 0 := List.pairwise_iff_getElem.1 h p q (by omega) hq hpq
/-- What comes ahead of less is less. -/
theorem sorted_down {l : List AnsT} (h : SortedA l) {x : AnsT} {p q : Nat} (hq : q < l.length) (hpq : p ≤ q) (hl : ordA l[q] x < 0) : ordA l[p] x < 0 := by
  rcases Nat.lt_or_eq_of_le hpq with h1 | rfl
  · exact ordA_trans (sorted_lt h hq h1) hl
  · exact hl
def metA (l : List AnsT) (x : AnsT) : Bool := match l[firstA x l]? with
  | some a => decide (ordA a x = 0)
  | none => false
theorem met_at {l : List AnsT} {x : AnsT} (h : firstA x l < l.length) : metA l x = decide (ordA l[firstA x l] x = 0) := by unfold metA; rw [List.getElem?_eq_getElem h]
theorem met_end {l : List AnsT} {x : AnsT} (h : firstA x l = l.length) : metA l x = false := by unfold metA; rw [List.getElem?_eq_none (by omega)]
/-- One more, each once, in order. -/
def insA (l : List AnsT) (x : AnsT) : List AnsT := if metA l x = true then l else l.take (firstA x l) ++ x :: l.drop (firstA x l)
theorem ins_len (l : List AnsT) (x : AnsT) : (insA l x).length ≤ l.length + 1 := by
  have := first_le x l
  unfold insA
  split
  · omega
  · rw [List.length_append, List.length_take, List.length_cons, List.length_drop]; omega
theorem ins_mem {l : List AnsT} {x a : AnsT} (h : a ∈ insA l x) : a ∈ l ∨ a = x := by
  unfold insA at h
  split at h
  · exact .inl h
  · rcases List.mem_append.1 h with h | h
    · exact .inl (List.mem_of_mem_take h)
    · rcases List.mem_cons.1 h with h | h
      · exact .inr h
      · exact .inl (List.mem_of_mem_drop h)
theorem ins_sorted {l : List AnsT} (h : SortedA l) (x : AnsT) : SortedA (insA l x) := by
  unfold insA
  split
  · exact h
  · next hm =>
    have hf := first_le x l
    have gt : ∀ q (hq : q < l.length), firstA x l ≤ q → ordA x l[q] < 0 := fun q hq hle => by
      have h0 : ordA x l[firstA x l] < 0 := by
        have h1 := first_at (x := x) (l := l) (by omega)
        have h2 : ¬ ordA l[firstA x l] x = 0 := fun e => hm (by rw [met_at (by omega)]; exact decide_eq_true e)
        have := ordA_anti l[firstA x l] x
        omega
      rcases Nat.lt_or_eq_of_le hle with h1 | h1
      · exact ordA_trans h0 (sorted_lt h hq h1)
      · have : ∀ {k : Nat} (hk : k < l.length), firstA x l = k → ordA x l[k] < 0 := fun hk e => by subst e; exact h0
        exact this hq h1
    refine List.pairwise_append.2 ⟨h.sublist (List.take_sublist ..), List.pairwise_cons.2 ⟨fun b hb => ?_, h.sublist (List.drop_sublist ..)⟩, fun a ha b hb => ?_⟩
    · obtain ⟨i, hi, rfl⟩ := List.mem_iff_getElem.1 hb
      rw [List.length_drop] at hi
      rw [List.getElem_drop]
      exact gt _ (by omega) (by omega)
    · obtain ⟨i, hi, rfl⟩ := List.mem_iff_getElem.1 ha
      rw [List.length_take] at hi
      rw [List.getElem_take]
      rcases List.mem_cons.1 hb with rfl | hb
      · exact first_lt (by omega) (by omega)
      · obtain ⟨j, hj, rfl⟩ := List.mem_iff_getElem.1 hb
        rw [List.length_drop] at hj
        rw [List.getElem_drop]
        exact sorted_lt h _ (by omega)
/-- The answers, sorted. -/
def sortA (l : List AnsT) : List AnsT := l.foldl insA []
theorem sort_succ {l : List AnsT} {i : Nat} (h : i < l.length) : sortA (l.take (i + 1)) = insA (sortA (l.take i)) l[i] := by
  unfold sortA
  rw [List.take_succ_eq_append_getElem h, List.foldl_append]; rfl
theorem sort_inv (l : List AnsT) : ∀ i, i ≤ l.length → SortedA (sortA (l.take i)) ∧ (sortA (l.take i)).length ≤ i ∧ ∀ a ∈ sortA (l.take i), a ∈ l
  | 0, _ => ⟨.nil, Nat.le_refl _, fun a h => by cases h⟩
  | i + 1, h => by
    obtain ⟨h1, h2, h3⟩ := sort_inv l i (by omega)
    rw [sort_succ (by omega)]
    refine ⟨ins_sorted h1 _, by have := ins_len (sortA (l.take i)) l[i]; omega, fun a ha => ?_⟩
    rcases ins_mem ha with ha | rfl
    · exact h3 a ha
    · exact List.getElem_mem _
end Go.Proofs.YtlclpmbeaofohaaGreat.So

/- Binary search in a sorted list of answers. -/
open Go Am
namespace Go.Proofs.YtlclpmbeaofohaaGreat.So
theorem len_an (l : List AnsT) : (l.flatMap encAn).length = l.length * 4 := flat_len encAn_len l
theorem load_an {K : FuncId → List AV → Option AV} {st : St} {b : Nat} {l : List AnsT} {part : Bool} (hg : st.heap.get b = some (.cells (l.flatMap encAn) 36 part)) {i : Nat} (h : i < l.length) : loadC (EK K) 36 st (.ptr b (0 + i * (3 + 1))) = some (.agg (encAn l[i])) := by
  have := loadAgg_at (E := EK K) ag_36 sz_36 hg (off := 0 + i * (3 + 1)) (by rw [len_an]; omega)
  rw [this, Nat.zero_add, flat_drop encAn_len h, List.take_left' (encAn_len _)]
theorem bsf_to {K : FuncId → List AV → Option AV} (hK : ∀ a, K 22 a = none) (hit : ∀ a b, SlimA a → SlimA b → K 23 [.agg (encAn a), .agg (encAn b)] = some (.int .i64 (ordA a b))) {s : St} {b : Nat} {l : List AnsT} {x : AnsT} (hg : s.heap.get b = some (.cells (l.flatMap encAn) 36 true)) (hb : b < s.next) (hs : SortedA l) (hsl : ∀ a ∈ l, SlimA a) (hx : SlimA x) (hl : l.length ≤ 4000) :
    CallTo (EK K) 22 [.slice b 0 l.length 4 none, .agg (encAn x), .func (.func 23) [] []] s (.tuple [.int .i64 (firstA x l : Nat), .bool (metA l x)]) := by
  refine CallTo.flat (fn := Tryz.f22) (hK _) (by kernel_rfl) rfl rfl rfl rfl (fun _ _ => rfl) (fun _ => rfl) ?_
  have g1 : (s.enter.alloc (.cells (encAn x) 36 false)).heap.get b = some (.cells (l.flatMap encAn) 36 true) := (get_old hb).trans hg
  have g2 : (s.enter.alloc (.cells (encAn x) 36 false)).heap.get s.next = some (.cells (encAn x) 36 false) := get_new
  refine EvtL.seqReg ?_
  refine RegL.op (OpL.box rfl rfl rfl) rfl rfl rfl ?_
  refine RegL.q (OpQ.assign rfl rfl) rfl rfl rfl ?_
  refine RegL.q (OpQ.assign rfl rfl) rfl rfl rfl ?_
  refine RegL.done ?_
  refine EvtL.seqReg ?_
  refine RegL.q (OpQ.move rfl rfl) rfl rfl rfl ?_
  refine RegL.q (OpQ.lenSlM rfl rfl rfl rfl u_27 rfl) rfl rfl rfl ?_
  refine RegL.q (OpQ.assign rfl rfl) rfl rfl rfl ?_
  refine RegL.done ?_
  refine EvtL.seqReg ?_
  refine RegL.q (OpQ.move rfl rfl) rfl rfl rfl ?_
  refine RegL.q (OpQ.assign rfl rfl) rfl rfl rfl ?_
  refine RegL.q (OpQ.assign rfl rfl) rfl rfl rfl ?_
  refine RegL.done ?_
  refine EvtL.seq ?_
  refine EvtL.block ?_
  refine EvtL.loopI (fun p : Nat × Nat => ([(9, .int .i64 (p.1 : Nat)), (10, .int .i64 (p.2 : Nat)), (8, .int .i64 (l.length : Nat)), (0, .slice b 0 l.length 4 none), (4, .ptr s.next 0), (2, .func (.func 23) [] [])], s.enter.alloc (.cells (encAn x) 36 false))) (fun p => p.2 - p.1)
    (fun p => p.1 ≤ p.2 ∧ p.2 ≤ l.length ∧ (∀ q (hq : q < l.length), q < p.1 → ordA l[q] x < 0) ∧ ∀ q (hq : q < l.length), p.2 ≤ q → ¬ ordA l[q] x < 0) (0, l.length) ⟨Nat.zero_le _, Nat.le_refl _, fun q _ h => absurd h (Nat.not_lt_zero _), fun q hq h => absurd hq (by omega)⟩ rfl (by (refine Am.sub_of ?_; repeat (first | exact trivial | refine ⟨rfl, ?_⟩))) ?_
  rintro ⟨i, j⟩ ⟨h1, h2, hlo, hhi⟩
  dsimp only at h1 h2 hlo hhi ⊢
  by_cases h : i < j
  · have hh : (i + j) / 2 ^ 1 < l.length := by omega
    have hit_23 := hit _ _ (hsl _ (List.getElem_mem hh)) hx
    focus
      refine EvtL.seq ?_
      refine EvtL.seqReg ?_
      refine RegL.q (OpQ.move rfl rfl) rfl rfl rfl ?_
      refine RegL.q (OpQ.move rfl rfl) rfl rfl rfl ?_
      refine RegL.q (OpQ.int2 rfl u_3 rfl rfl rfl rfl) rfl rfl rfl ?_
      refine RegL.done ?_
      refine EvtL.cond rfl (fun g3 => ?_) (fun g3 => ?_)
      have h3 := of_decide_eq_true g3
      refine EvtL.skip ?_
      refine EvtL.block ?_
      refine EvtL.seqReg ?_
      refine RegL.q (OpQ.move rfl rfl) rfl rfl rfl ?_
      refine RegL.q (OpQ.move rfl rfl) rfl rfl rfl ?_
      refine RegL.q (OpQ.addN rfl u_3 rfl rfl (by first | assumption | omega | (simp only [List.length_append, List.length_cons, List.length_nil, List.length_take, List.length_drop]; omega))) rfl rfl rfl ?_
      refine RegL.q (OpQ.convU rfl u_3 u_114 rfl ⟨by omega, by omega⟩) rfl rfl rfl ?_
      refine RegL.q (OpQ.shrK (b := 1) rfl u_114 rfl rfl (by decide)) rfl rfl rfl ?_
      refine RegL.q (OpQ.convI rfl u_114 u_3 rfl ⟨by omega, by omega⟩) rfl rfl rfl ?_
      refine RegL.q (OpQ.assign rfl rfl) rfl rfl rfl ?_
      refine RegL.done ?_
      refine EvtL.seqDrawN (by kernel_rfl) ?_
      refine RegN.qG (OpQ.move rfl rfl) (.inl rfl) rfl rfl ?_
      refine RegN.qG (OpQ.move rfl rfl) (.inl rfl) rfl rfl ?_
      refine RegN.qG (OpQ.move rfl rfl) (.inl rfl) rfl rfl ?_
      refine RegN.qG (OpQ.indexAddrM rfl u_27 sz_36 rfl rfl (by first | assumption | omega | (simp only [List.length_append, List.length_cons, List.length_nil, List.length_take, List.length_drop]; omega))) (.inl rfl) rfl rfl ?_
      rotate_left
      have h3 := of_decide_eq_false g3
      exact absurd h3 (by omega)
    refine RegN.load rfl rfl (load_an g1 hh) rfl (.inl rfl) rfl rfl ?_
    focus
      refine RegN.load rfl rfl (loadAgg_at ag_36 sz_36 (by assumption) (Nat.le_of_ble_eq_true rfl)) rfl (.inl rfl) rfl rfl ?_
      refine RegN.aG (OpA.callVal rfl rfl rfl (by kernel_rfl) rfl (hit_23)) (.inl rfl) rfl rfl ?_
      refine RegN.qG (OpQ.int2 rfl u_3 rfl rfl rfl rfl) (.inl rfl) rfl rfl ?_
      refine RegN.done ?_
      refine EvtL.cond rfl (fun g4 => ?_) (fun g4 => ?_)
      have h4 := of_decide_eq_true g4
      refine EvtL.reg ?_
      refine RegL.q (OpQ.move rfl rfl) rfl rfl rfl ?_
      refine RegL.q (OpQ.addN (b := 1) rfl u_3 rfl rfl (by first | assumption | omega | (simp only [List.length_append, List.length_cons, List.length_nil, List.length_take, List.length_drop]; omega))) rfl rfl rfl ?_
      refine RegL.q (OpQ.assign rfl rfl) rfl rfl rfl ?_
      refine RegL.done ?_
      rotate_left
      have h4 := of_decide_eq_false g4
      refine EvtL.reg ?_
      refine RegL.q (OpQ.move rfl rfl) rfl rfl rfl ?_
      refine RegL.q (OpQ.assign rfl rfl) rfl rfl rfl ?_
      refine RegL.done ?_
      rotate_left
    · exact ⟨((i + j) / 2 ^ 1 + 1, j), ⟨by dsimp only; omega, h2, fun q hq hlt => sorted_down hs hh (by omega) (by assumption), hhi⟩, by dsimp only; omega, rfl, rfl, by (refine Am.sub_of ?_; repeat (first | exact trivial | refine ⟨rfl, ?_⟩))⟩
    · exact ⟨(i, (i + j) / 2 ^ 1), ⟨by dsimp only; omega, by dsimp only; omega, hlo, fun q hq hle hlt => absurd (sorted_down hs hq hle hlt) (by assumption)⟩, by dsimp only; omega, rfl, rfl, by (refine Am.sub_of ?_; repeat (first | exact trivial | refine ⟨rfl, ?_⟩))⟩
  · obtain rfl : i = j := by omega
    have hf : firstA x l = i := first_eq h2 hlo fun h => hhi i h (Nat.le_refl _)
    by_cases h9 : i < l.length
    · have hit_23 := hit _ _ (hsl _ (List.getElem_mem h9)) hx
      focus
        refine EvtL.seq ?_
        refine EvtL.seqReg ?_
        refine RegL.q (OpQ.move rfl rfl) rfl rfl rfl ?_
        refine RegL.q (OpQ.move rfl rfl) rfl rfl rfl ?_
        refine RegL.q (OpQ.int2 rfl u_3 rfl rfl rfl rfl) rfl rfl rfl ?_
        refine RegL.done ?_
        refine EvtL.cond rfl (fun g3 => ?_) (fun g3 => ?_)
        have h3 := of_decide_eq_true g3
        exact absurd h3 (by omega)
        have h3 := of_decide_eq_false g3
        refine EvtL.exit ?_
        refine cond_t rfl ?_
        refine EvtL.seqDrawN (by kernel_rfl) ?_
        refine RegN.qG (OpQ.move rfl rfl) (.inl rfl) rfl rfl ?_
        refine RegN.qG (OpQ.move rfl rfl) (.inl rfl) rfl rfl ?_
        refine RegN.qG (OpQ.move rfl rfl) (.inl rfl) rfl rfl ?_
        refine RegN.qG (OpQ.int2 rfl u_3 rfl rfl rfl rfl) (.inl rfl) rfl rfl ?_
        refine RegN.qG (OpQ.move rfl rfl) (.inl rfl) rfl rfl ?_
        refine RegN.both rfl rfl rfl rfl (fun g4 => ?_) (fun g4 => ?_)
        have h4 := of_decide_eq_true g4
        refine RegN.qG (OpQ.move rfl rfl) (guardOn_go rfl rfl rfl rfl (by assumption)) rfl rfl ?_
        refine RegN.qG (OpQ.move rfl rfl) (guardOn_go rfl rfl rfl rfl (by assumption)) rfl rfl ?_
        refine RegN.qG (OpQ.move rfl rfl) (guardOn_go rfl rfl rfl rfl (by assumption)) rfl rfl ?_
        refine RegN.qG (OpQ.indexAddrM rfl u_27 sz_36 rfl rfl (by first | assumption | omega | (simp only [List.length_append, List.length_cons, List.length_nil, List.length_take, List.length_drop]; omega))) (guardOn_go rfl rfl rfl rfl (by assumption)) rfl rfl ?_
        rotate_left
        have h4 := of_decide_eq_false g4
        exact absurd h4 (by omega)
      refine RegN.load rfl rfl (load_an g1 h9) rfl (guardOn_go rfl rfl rfl rfl (by assumption)) rfl rfl ?_
      refine RegN.load rfl rfl (loadAgg_at ag_36 sz_36 (by assumption) (Nat.le_of_ble_eq_true rfl)) rfl (guardOn_go rfl rfl rfl rfl (by assumption)) rfl rfl ?_
      refine RegN.aG (OpA.callVal rfl rfl rfl (by kernel_rfl) rfl (hit_23)) (guardOn_go rfl rfl rfl rfl (by assumption)) rfl rfl ?_
      refine RegN.qG (OpQ.int2 rfl u_3 rfl rfl rfl rfl) (guardOn_go rfl rfl rfl rfl (by assumption)) rfl rfl ?_
      refine RegN.qG (OpQ.pickT rfl rfl (by assumption) rfl) (.inl rfl) rfl rfl ?_
      refine RegN.qG (OpQ.assign rfl rfl) (.inl rfl) rfl rfl ?_
      refine RegN.qG (OpQ.assign rfl rfl) (.inl rfl) rfl rfl ?_
      refine RegN.done ?_
      refine EvtL.ret ⟨.inl rfl, rfl, rfl, _, res_tmp rfl (res_tmp rfl rfl), ?_⟩
      rw [met_at (by omega)]
      subst hf; rfl
    · focus
        refine EvtL.seq ?_
        refine EvtL.seqReg ?_
        refine RegL.q (OpQ.move rfl rfl) rfl rfl rfl ?_
        refine RegL.q (OpQ.move rfl rfl) rfl rfl rfl ?_
        refine RegL.q (OpQ.int2 rfl u_3 rfl rfl rfl rfl) rfl rfl rfl ?_
        refine RegL.done ?_
        refine EvtL.cond rfl (fun g3 => ?_) (fun g3 => ?_)
        have h3 := of_decide_eq_true g3
        exact absurd h3 (by omega)
        have h3 := of_decide_eq_false g3
        refine EvtL.exit ?_
        refine cond_t rfl ?_
        refine EvtL.seqDrawN (by kernel_rfl) ?_
        refine RegN.qG (OpQ.move rfl rfl) (.inl rfl) rfl rfl ?_
        refine RegN.qG (OpQ.move rfl rfl) (.inl rfl) rfl rfl ?_
        refine RegN.qG (OpQ.move rfl rfl) (.inl rfl) rfl rfl ?_
        refine RegN.qG (OpQ.int2 rfl u_3 rfl rfl rfl rfl) (.inl rfl) rfl rfl ?_
        refine RegN.qG (OpQ.move rfl rfl) (.inl rfl) rfl rfl ?_
        refine RegN.both rfl rfl rfl rfl (fun g4 => ?_) (fun g4 => ?_)
        have h4 := of_decide_eq_true g4
        exact absurd h4 (by omega)
        have h4 := of_decide_eq_false g4
        refine RegN.skip rfl rfl rfl rfl (by assumption) rfl rfl ?_
        refine RegN.skip rfl rfl rfl rfl (by assumption) rfl rfl ?_
        refine RegN.skip rfl rfl rfl rfl (by assumption) rfl rfl ?_
        refine RegN.skip rfl rfl rfl rfl (by assumption) rfl rfl ?_
        refine RegN.skip rfl rfl rfl rfl (by assumption) rfl rfl ?_
        refine RegN.skip rfl rfl rfl rfl (by assumption) rfl rfl ?_
        refine RegN.skip rfl rfl rfl rfl (by assumption) rfl rfl ?_
        refine RegN.skip rfl rfl rfl rfl (by assumption) rfl rfl ?_
        refine RegN.qG (OpQ.pickF rfl rfl (by assumption) rfl) (.inl rfl) rfl rfl ?_
        refine RegN.qG (OpQ.assign rfl rfl) (.inl rfl) rfl rfl ?_
        refine RegN.qG (OpQ.assign rfl rfl) (.inl rfl) rfl rfl ?_
        refine RegN.done ?_
        rotate_left
      refine EvtL.ret ⟨.inl rfl, rfl, rfl, _, res_tmp rfl (res_tmp rfl rfl), ?_⟩
      rw [met_end (by omega), hf]; rfl
/-- Binary search in a list that grows. -/
theorem bsf_any {K : FuncId → List AV → Option AV} (hK : ∀ a, K 22 a = none) (hit : ∀ a b, SlimA a → SlimA b → K 23 [.agg (encAn a), .agg (encAn b)] = some (.int .i64 (ordA a b))) {s : St} {v : AV} {l : List AnsT} {x : AnsT} (hg : Grown s 36 4 v (l.flatMap encAn) l.length) (hs : SortedA l) (hsl : ∀ a ∈ l, SlimA a) (hx : SlimA x) (hl : l.length ≤ 4000) :
    CallTo (EK K) 22 [v, .agg (encAn x), .func (.func 23) [] []] s (.tuple [.int .i64 (firstA x l : Nat), .bool (metA l x)]) := by
  rcases hg with ⟨rfl, hn, _⟩ | ⟨b, rfl, hb, hg, _, _⟩
  · obtain rfl : l = [] := List.eq_nil_of_length_eq_zero hn
    refine CallTo.flat (fn := Tryz.f22) (hK _) (by kernel_rfl) rfl rfl rfl rfl (fun _ _ => rfl) (fun _ => rfl) ?_
    refine EvtL.seqReg ?_
    refine RegL.op (OpL.box rfl rfl rfl) rfl rfl rfl ?_
    refine RegL.q (OpQ.assign rfl rfl) rfl rfl rfl ?_
    refine RegL.q (OpQ.assign rfl rfl) rfl rfl rfl ?_
    refine RegL.done ?_
    refine EvtL.seqReg ?_
    refine RegL.q (OpQ.move rfl rfl) rfl rfl rfl ?_
    refine RegL.q (OpQ.lenNil rfl rfl rfl rfl u_27 rfl) rfl rfl rfl ?_
    refine RegL.q (OpQ.assign rfl rfl) rfl rfl rfl ?_
    refine RegL.done ?_
    refine EvtL.seqReg ?_
    refine RegL.q (OpQ.move rfl rfl) rfl rfl rfl ?_
    refine RegL.q (OpQ.assign rfl rfl) rfl rfl rfl ?_
    refine RegL.q (OpQ.assign rfl rfl) rfl rfl rfl ?_
    refine RegL.done ?_
    refine EvtL.seq ?_
    refine EvtL.block ?_
    refine EvtL.loop ?_
    refine EvtL.seq ?_
    refine EvtL.seqReg ?_
    refine RegL.q (OpQ.move rfl rfl) rfl rfl rfl ?_
    refine RegL.q (OpQ.move rfl rfl) rfl rfl rfl ?_
    refine RegL.q (OpQ.int2 rfl u_3 rfl rfl rfl rfl) rfl rfl rfl ?_
    refine RegL.done ?_
    refine EvtL.condF rfl rfl ?_
    refine EvtL.exit ?_
    refine cond_t rfl ?_
    refine EvtL.seqDrawN (by kernel_rfl) ?_
    refine RegN.qG (OpQ.move rfl rfl) (.inl rfl) rfl rfl ?_
    refine RegN.qG (OpQ.move rfl rfl) (.inl rfl) rfl rfl ?_
    refine RegN.qG (OpQ.move rfl rfl) (.inl rfl) rfl rfl ?_
    refine RegN.qG (OpQ.int2 rfl u_3 rfl rfl rfl rfl) (.inl rfl) rfl rfl ?_
    refine RegN.qG (OpQ.move rfl rfl) (.inl rfl) rfl rfl ?_
    refine RegN.skip rfl rfl rfl rfl rfl rfl rfl ?_
    refine RegN.skip rfl rfl rfl rfl rfl rfl rfl ?_
    refine RegN.skip rfl rfl rfl rfl rfl rfl rfl ?_
    refine RegN.skip rfl rfl rfl rfl rfl rfl rfl ?_
    refine RegN.skip rfl rfl rfl rfl rfl rfl rfl ?_
    refine RegN.skip rfl rfl rfl rfl rfl rfl rfl ?_
    refine RegN.skip rfl rfl rfl rfl rfl rfl rfl ?_
    refine RegN.skip rfl rfl rfl rfl rfl rfl rfl ?_
    refine RegN.qG (OpQ.pickF rfl rfl rfl rfl) (.inl rfl) rfl rfl ?_
    refine RegN.qG (OpQ.assign rfl rfl) (.inl rfl) rfl rfl ?_
    refine RegN.qG (OpQ.assign rfl rfl) (.inl rfl) rfl rfl ?_
    refine RegN.done ?_
    exact EvtL.ret ⟨.inl rfl, rfl, rfl, _, res_tmp rfl (res_tmp rfl rfl), rfl⟩
  · exact bsf_to hK hit hg hb hs hsl hx hl
end Go.Proofs.YtlclpmbeaofohaaGreat.So
