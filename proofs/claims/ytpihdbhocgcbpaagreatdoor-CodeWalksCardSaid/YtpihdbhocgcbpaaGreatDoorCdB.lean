/- Code: what comes before; what follows. -/
import Derived.Test.YtpihdbhocgcbpaaGreatDoorCdA
set_option linter.unusedSectionVars false
set_option linter.unusedVariables false
set_option linter.unusedSimpArgs false

/- Which codes are as the document has them. -/
open Go Am
namespace Go.Proofs.YtpihdbhocgcbpaaGreatDoor
noncomputable def K9 := addC K8 60 (fun p : AtT => [.agg (encC p.1.1),.int .i64 (p.1.2 : Nat)]) (fun p => .bool (insV p.1.1 p.1.2 p.x))
theorem hit_60 {c : CodeT} {k : Nat} (h : Fits c) (hk : k < c.ins.length) : K9 60 [.agg (encC c),.int .i64 (k : Nat)] = some (.bool (insV c k c.ins[k])) :=
 addC_hit (f := 60) (enc := fun p : AtT => [.agg (encC p.1.1),.int .i64 (p.1.2 : Nat)]) (res := fun p => .bool (insV p.1.1 p.1.2 p.x)) (fun p q h => by rw [encAt_inj h]) ⟨(c,k),h,hk⟩
theorem all9 (h : KnownF Tryz.prog 10 [] (.bool true)) : KnownAll Tryz.prog K9 := addC_all progOk (all8 h) (fun p : AtT => ins_to p.1.1 p.1.2 p.2.1 p.2.2) (fun _ => rfl) (fun _ => rfl)
def startAt (c : CodeT) (i : Nat) : Bool := inV (c.starts.getD i 0) 0 (c.ins.length - 1)
def insAt (c : CodeT) (i : Nat) : Bool := insV c i (iAt c i)
def headV (c : CodeT) : Bool := sigV c.cons c.funs && !(decide (1000 < (c.ins.length : Int)) || !decide ((c.starts.length : Int) = c.funs.length))
def codeV (c : CodeT) : Bool := headV c && ((List.range c.starts.length).all (startAt c) && (List.range c.ins.length).all (insAt c))
theorem code_to (c : CodeT) (hf : Fits c) : CallTo (EK K9) 24 [.agg (encC c)] S0 (.bool (codeV c)) := by
 refine CallTo.s0 (fn := Tryz.f24) rfl rfl (by kernel_rfl) rfl rfl rfl rfl ?_
 have hno : headV c = false → codeV c = false := fun h => by unfold codeV; rw [h]; rfl
 have hcn := hf.cnames
 have hfn := hf.fnames
 have hl1 := hf.starts
 have hl2 := hf.ins
 focus
  refine Es<|Lo (OpL.boxS 1 rfl rfl rfl rfl) rfl<|qa rfl<|Ld<|EvtL.seq<|Es<|Lq (of f_28_0 rfl) rfl<|Lo (OpL.loadSA rfl ag_24 sz_24 rfl rfl (Nat.le_of_ble_eq_true rfl)) rfl ?_
  refine Lo (OpL.callFn rfl rfl (by kernel_rfl) rfl (CallTo.memo (hit_59 (by first | assumption | omega | (simp only [LL]; omega)) (by first | assumption | omega | (simp only [LL]; omega))))) rfl ?_
  refine Lq (on rfl) rfl<|qm rfl ?_
  refine Lb rfl (fun g1 => ?_) (fun g1 => ?_)
  have h1 := notT g1
  iterate 4 refine Lk rfl ‹_› ?_
  refine Lq (oT rfl ‹_› rfl) rfl<|qm rfl ?_
  iterate 8 refine Lk rfl rfl ?_
  refine Lq (oT rfl rfl rfl) rfl<|Ld<|EvtL.condT rfl rfl<|Es<|qa rfl<|Ld ?_
  refine EvtL.ret (Er rfl ?_)
  refine boolRes ?_
  rotate_left
  have h1 := notF g1
  refine Lh rfl ‹_› (of f_28_1 rfl)<|Lg rfl ‹_› (l1 ag_25 sz_25 rfl)<|Lh rfl ‹_› (ol u_25 rfl)<|Lh rfl ‹_› (o2 u_3 rfl rfl)<|Lq (oF rfl ‹_› rfl) rfl<|qm rfl ?_
  refine Lb rfl (fun g2 => ?_) (fun g2 => ?_)
  have h2 := dT g2
  iterate 8 refine Lk rfl ‹_› ?_
  refine Lq (oT rfl ‹_› rfl) rfl<|Ld<|EvtL.condT rfl rfl<|Es<|qa rfl<|Ld ?_
  refine EvtL.ret (Er rfl ?_)
  refine boolRes ?_
  rotate_left
  have h2 := dF g2
  refine Lh rfl ‹_› (of f_28_2 rfl)<|Lg rfl ‹_› (l1 ag_26 sz_26 rfl)<|Lh rfl ‹_› (ol u_26 rfl)<|Lh rfl ‹_› (of f_28_0 rfl)<|Lh rfl ‹_› (of f_24_1 rfl)<|Lg rfl ‹_› (l1 ag_22 sz_22 rfl)<|Lh rfl ‹_› (ol u_22 rfl)<|Lh rfl ‹_› (o2 u_3 rfl rfl) ?_
  refine Lq (oF rfl ‹_› rfl) rfl<|Ld ?_
  refine Ec rfl (fun g3 => ?_) (fun g3 => ?_)
  have h3 := nT g3
  refine Es<|qa rfl<|Ld ?_
  refine EvtL.ret (Er rfl ?_)
  refine boolRes ?_
  rotate_left
  have h3 := nF g3
  refine EvtL.skip<|EvtL.seq<|Es<|qa rfl<|Ld<|EvtL.block ?_
  rotate_left
 ·rw [hno (by unfold headV; rw [h1]; rfl)]
 ·rw [hno (by unfold headV; rw [g2]; simp)]
 ·rw [hno (by unfold headV; rw [decide_eq_false h3]; simp)]
 have hhd : headV c = true := by unfold headV; rw [h1,g2,decide_eq_true h3]; rfl
 refine EvtL.loopI (fun i : Nat => ([(3,.int .i64 (i : Nat)),(1,.ptr 0 0)],mkS 1 0 [] [(0,some (.cells (encC c) 28 false))])) (fun i => c.starts.length - i) (fun i => i ≤ c.starts.length ∧ (List.range i).all (startAt c) = true) 0 ⟨Nat.zero_le _,rfl⟩ rfl (by (refine Am.sub_of ?_; repeat (first | exact trivial | refine ⟨rfl,?_⟩))) ?_
 rintro i ⟨hi,hs⟩
 dsimp only at hi hs ⊢
 by_cases h : i < c.starts.length
 ·have hp := recs_idx encZ_len h
  have hat : startAt c i = inV c.starts[i] 0 (c.ins.length - 1) := by unfold startAt; rw [getD_at h]
  focus
   refine EvtL.seq<|Es<|qm rfl<|Lq (of f_28_2 rfl) rfl<|Lo (l1 ag_26 sz_26 rfl) rfl<|Lq (ol u_26 rfl) rfl<|Lq (o2 u_3 rfl rfl) rfl<|Ld ?_
   refine Ec rfl (fun g4 => ?_) (fun g4 => ?_)
   have h4 := dT g4
   refine EvtL.skip<|EvtL.seq<|EvtL.block<|EvtL.seqDrawN (by kernel_rfl)<|Nq (of f_28_2 rfl) rfl<|RegN.loadS1 rfl ag_26 sz_26 rfl rfl rfl (by kernel_rfl) (.inl rfl) rfl rfl<|Nq (om rfl) rfl<|Nq (OpQ.indexAddrV rfl u_26 sz_3 rfl rfl ‹_›) rfl ?_
   refine Nq (OpQ.loadI1 rfl rfl ag_3 sz_3) rfl<|Nq (of f_28_1 rfl) rfl<|RegN.loadS1 rfl ag_25 sz_25 rfl rfl rfl (by kernel_rfl) (.inl rfl) rfl rfl<|Nq (ol u_25 rfl) rfl<|Nq (OpQ.sub rfl u_3 rfl rfl (by omega)) rfl<|RegN.aG (OpA.callFn rfl rfl (by kernel_rfl) rfl (hit_43)) (.inl rfl) rfl rfl<|Nq (on rfl) rfl<|RegN.done ?_
   refine Ec rfl (fun g5 => ?_) (fun g5 => ?_)
   have h5 := notT g5
   refine Es<|qa rfl<|Ld ?_
   refine EvtL.ret (Er rfl ?_)
   refine boolRes ?_
   rotate_left
   have h5 := notF g5
   refine EvtL.skip<|EvtL.reg<|qm rfl ?_
   refine Lq (OpQ.addN (b := 1) rfl u_3 rfl rfl (by first | assumption | omega | (simp only [LL]; omega))) rfl ?_
   refine qa rfl<|Ld ?_
   rotate_left
   have h4 := dF g4
   exact absurd h4 (by omega)
  ·unfold codeV; rw [ra_no h (hat.trans h5),Bool.false_and,Bool.and_false]
  ·exact ⟨i + 1,⟨h,ra_succ hs (hat.trans h5)⟩,by show c.starts.length - (i + 1) < c.starts.length - i; omega,rfl,rfl,by (refine Am.sub_of ?_; repeat (first | exact trivial | refine ⟨rfl,?_⟩))⟩
 ·focus
   refine EvtL.seq<|Es<|qm rfl<|Lq (of f_28_2 rfl) rfl<|Lo (l1 ag_26 sz_26 rfl) rfl<|Lq (ol u_26 rfl) rfl<|Lq (o2 u_3 rfl rfl) rfl<|Ld ?_
   refine Ec rfl (fun g4 => ?_) (fun g4 => ?_)
   have h4 := dT g4
   exact absurd h4 (by omega)
   have h4 := dF g4
   refine EvtL.exit<|cond_t rfl<|EvtL.seq<|Es<|qa rfl<|Ld<|EvtL.block ?_
   rotate_left
  obtain rfl : i = c.starts.length := by omega
  refine EvtL.loopI (fun i : Nat => ([(4,.int .i64 (i : Nat)),(1,.ptr 0 0)],mkS 1 0 [] [(0,some (.cells (encC c) 28 false))])) (fun i => c.ins.length - i) (fun i => i ≤ c.ins.length ∧ (List.range i).all (insAt c) = true) 0 ⟨Nat.zero_le _,rfl⟩ rfl (by (refine Am.sub_of ?_; repeat (first | exact trivial | refine ⟨rfl,?_⟩))) ?_
  rintro j ⟨hj,hs2⟩
  dsimp only at hj hs2 ⊢
  by_cases h' : j < c.ins.length
  ·have hat : insAt c j = insV c j c.ins[j] := by unfold insAt; rw [iAt_eq h']
   focus
    refine EvtL.seq<|Es<|qm rfl<|Lq (of f_28_1 rfl) rfl<|Lo (l1 ag_25 sz_25 rfl) rfl<|Lq (ol u_25 rfl) rfl<|Lq (o2 u_3 rfl rfl) rfl<|Ld ?_
    refine Ec rfl (fun g5 => ?_) (fun g5 => ?_)
    have h5 := dT g5
    refine EvtL.skip<|EvtL.seq<|EvtL.block<|Es<|Lo (OpL.loadSA rfl ag_28 sz_28 rfl rfl (Nat.le_of_ble_eq_true rfl)) rfl<|qm rfl ?_
    refine Lo (OpL.callFn rfl rfl (by kernel_rfl) rfl (CallTo.memo (hit_60 (by first | assumption | omega | (simp only [LL]; omega)) (by first | assumption | omega | (simp only [LL]; omega))))) rfl ?_
    refine Lq (on rfl) rfl<|Ld ?_
    refine Ec rfl (fun g6 => ?_) (fun g6 => ?_)
    have h6 := notT g6
    refine Es<|qa rfl<|Ld ?_
    refine EvtL.ret (Er rfl ?_)
    refine boolRes ?_
    rotate_left
    have h6 := notF g6
    refine EvtL.skip<|EvtL.reg<|qm rfl ?_
    refine Lq (OpQ.addN (b := 1) rfl u_3 rfl rfl (by first | assumption | omega | (simp only [LL]; omega))) rfl ?_
    refine qa rfl<|Ld ?_
    rotate_left
    have h5 := dF g5
    exact absurd h5 (by omega)
   ·unfold codeV; rw [ra_no h' (hat.trans h6),Bool.and_false,Bool.and_false]
   ·exact ⟨j + 1,⟨h',ra_succ hs2 (hat.trans h6)⟩,by show c.ins.length - (j + 1) < c.ins.length - j; omega,rfl,rfl,by (refine Am.sub_of ?_; repeat (first | exact trivial | refine ⟨rfl,?_⟩))⟩
  ·focus
    refine EvtL.seq<|Es<|qm rfl<|Lq (of f_28_1 rfl) rfl<|Lo (l1 ag_25 sz_25 rfl) rfl<|Lq (ol u_25 rfl) rfl<|Lq (o2 u_3 rfl rfl) rfl<|Ld ?_
    refine Ec rfl (fun g5 => ?_) (fun g5 => ?_)
    have h5 := dT g5
    exact absurd h5 (by omega)
    have h5 := dF g5
    refine EvtL.exit<|cond_t rfl<|Es<|qa rfl<|Ld ?_
    refine EvtL.ret (Er rfl ?_)
    refine boolRes ?_
    rotate_left
   obtain rfl : j = c.ins.length := by omega
   unfold codeV; rw [hs,hs2,hhd]; rfl
abbrev FitT := { c : CodeT // Fits c }
theorem encF_inj {p q : FitT} (h : ([.agg (encC p.1)] : List AV) = [.agg (encC q.1)]) : p = q := by
 obtain ⟨a,_⟩ := p
 obtain ⟨b,_⟩ := q
 obtain rfl := encC_inj (List.cons.inj h).1
 rfl
noncomputable def K10a := addC K9 24 (fun p : FitT => [.agg (encC p.1)]) (fun p => .bool (codeV p.1))
theorem hit_24 {c : CodeT} (h : Fits c) : K10a 24 [.agg (encC c)] = some (.bool (codeV c)) :=
 addC_hit (f := 24) (enc := fun p : FitT => [.agg (encC p.1)]) (res := fun p => .bool (codeV p.1)) (fun p q h => by rw [encF_inj h]) ⟨c,h⟩
theorem rcheck_to (c : CodeT) (hf : Fits c) : CallTo (EK K10a) 14 [.agg (encC c)] S0 (.int .i64 (if codeV c then 0 else 2)) := by
 refine CallTo.s0 (fn := Tryz.f14) rfl rfl (by kernel_rfl) rfl rfl rfl rfl ?_
 focus
  refine Es<|Lo (OpL.boxS 1 rfl rfl rfl rfl) rfl<|qa rfl<|Ld<|EvtL.seq<|Es<|Lo (OpL.loadSA rfl ag_28 sz_28 rfl rfl (Nat.le_of_ble_eq_true rfl)) rfl ?_
  refine Lo (OpL.callFn rfl rfl (by kernel_rfl) rfl (CallTo.memo (hit_24 (by first | assumption | omega | (simp only [LL]; omega))))) rfl ?_
  refine Lq (on rfl) rfl<|Ld ?_
  refine Ec rfl (fun g1 => ?_) (fun g1 => ?_)
  have h1 := notT g1
  refine Es<|qa rfl<|Ld ?_
  refine EvtL.ret (Er rfl ?_)
  rotate_left
  have h1 := notF g1
  refine EvtL.skip<|Es<|qa rfl<|Ld ?_
  refine EvtL.ret (Er rfl ?_)
  rotate_left
 ·rw [h1]; rfl
 ·rw [h1]; rfl
noncomputable def K10 := addC K10a 14 (fun p : FitT => [.agg (encC p.1)]) (fun p => .int .i64 (if codeV p.1 then 0 else 2))
theorem all10 (h : KnownF Tryz.prog 10 [] (.bool true)) : KnownAll Tryz.prog K10 :=
 addC_all progOk (addC_all progOk (all9 h) (fun p : FitT => code_to p.1 p.2) (fun _ => rfl) (fun _ => rfl)) (fun p : FitT => rcheck_to p.1 p.2) (fun _ => rfl) (fun _ => rfl)
end Go.Proofs.YtpihdbhocgcbpaaGreatDoor

/- The shapes of instructions. -/
open Go Am
namespace Go.Proofs.YtpihdbhocgcbpaaGreatDoor
def rgV (x : InsT) : Bool := !decide (x.a = 0)
def csV (x : InsT) : Bool := decide (0 < (x.alts.length : Int))
def tgV (x : InsT) : Bool := decide (0 < (x.to.length : Int))
def ndV (x : InsT) : Bool := !nodeV x
def sh1 (x : InsT) : Bool := decide (x.op = 1) && (!tgV x && !ndV x)
def sh2 (x : InsT) : Bool := decide (x.op = 2) && (!rgV x && (!csV x && !ndV x))
def sh3 (x : InsT) : Bool := decide (x.op = 3) && (!rgV x && (!csV x && (!tgV x && !ndV x)))
def sh4 (x : InsT) : Bool := decide (x.op = 4) && (!rgV x && (!csV x && (!tgV x && !ndV x)))
def sh5 (x : InsT) : Bool := decide (x.op = 5) && (!rgV x && (!csV x && !tgV x))
def sh6 (x : InsT) : Bool := decide (x.op = 6) && (!csV x && (!tgV x && !ndV x))
inductive ShT where
 | looks (reg : Int) (alts : List AltT)
 | goes (to : List Int)
 | fails
 | frees
 | makes (op n : Int) (args : List Int)
 | enters (reg : Int)
 | no
def shA : ShT → AV
 | .looks r l => .iface 114 (.agg [.int .i64 r,recs encA 2 l])
 | .goes l => .iface 117 (.agg [recs encZ 1 l])
 | .fails => .iface 166 (.agg [])
 | .frees => .iface 167 (.agg [])
 | .makes o n l => .iface 119 (.agg [.int .i64 o,.int .i64 n,recs encZ 1 l])
 | .enters r => .iface 121 (.agg [.int .i64 r])
 | .no => .niliface
def shapeV (x : InsT) : ShT :=
 if sh1 x then .looks x.a x.alts else if sh2 x then .goes x.to else if sh3 x then .fails else if sh4 x then .frees else if sh5 x then .makes x.term x.n x.args else if sh6 x then .enters x.a else .no
theorem len_pos {α : Type} {l : List α} : decide (0 < (l.length : Int)) = !decide ((l.length : Int) = 0) := by
 cases l with
 | nil => rfl
 | cons a l => simp; omega
theorem shaped_to (x : InsT) : CallTo (EK K10) 51 [.agg (encI x)] S0 (shA (shapeV x)) := by
 refine CallTo.s0 (fn := Tryz.f51) rfl rfl (by kernel_rfl) rfl rfl rfl rfl<|Es<|Lo (OpL.boxS 1 rfl rfl rfl rfl) rfl<|qa rfl<|Ld ?_
 refine EvtL.cut [(6,.bool (ndV x)),(5,.bool (tgV x)),(4,.bool (csV x)),(3,.bool (rgV x)),(2,.niliface),(1,.ptr 0 0)] (mkS 1 0 [] [(0,some (.cells (encI x) 58 false))]) ?_ ?_
 ·focus
   refine EvtL.drawN (by kernel_rfl)<|Nq (of f_58_1 rfl) rfl<|RegN.loadS1 rfl ag_3 sz_3 rfl rfl rfl (by kernel_rfl) (.inl rfl) rfl rfl<|Nq (o2 u_3 rfl rfl) rfl<|Nq (of f_58_2 rfl) rfl<|RegN.loadS1 rfl ag_56 sz_56 rfl rfl rfl (by kernel_rfl) (.inl rfl) rfl rfl<|Nq (ol u_56 rfl) rfl<|Nq (o2 u_3 rfl rfl) rfl ?_
   refine Nq (of f_58_3 rfl) rfl<|RegN.loadS1 rfl ag_26 sz_26 rfl rfl rfl (by kernel_rfl) (.inl rfl) rfl rfl<|Nq (ol u_26 rfl) rfl<|Nq (o2 u_3 rfl rfl) rfl<|Nq (of f_58_4 rfl) rfl<|RegN.loadS1 rfl ag_37 sz_37 rfl rfl rfl (by kernel_rfl) (.inl rfl) rfl rfl<|Nq (o2 u_37 rfl rfl) rfl<|Nq (om rfl) rfl ?_
   refine RegN.both rfl rfl rfl rfl (fun g1 => ?_) (fun g1 => ?_)
   have h1 := nT g1
   iterate 3 refine Nk rfl ‹_› ?_
   refine Nq (oT rfl ‹_› rfl) rfl<|Nq (om rfl) rfl ?_
   iterate 4 refine Nk rfl rfl ?_
   refine Nq (oT rfl rfl rfl) rfl ?_
   iterate 4 refine Nq (oa rfl) rfl ?_
   refine RegN.done ?_
   rotate_left
   have h1 := nF g1
   refine Ng rfl ‹_› (of f_58_5 rfl)<|RegN.loadS1 rfl ag_3 sz_3 rfl rfl rfl (by kernel_rfl) (guardOn_go rfl rfl rfl rfl ‹_›) rfl rfl<|Ng rfl ‹_› (o2 u_3 rfl rfl)<|Nq (oF rfl ‹_› rfl) rfl<|Nq (om rfl) rfl ?_
   refine RegN.both rfl rfl rfl rfl (fun g2 => ?_) (fun g2 => ?_)
   have h2 := nT g2
   iterate 4 refine Nk rfl ‹_› ?_
   refine Nq (oT rfl ‹_› rfl) rfl ?_
   iterate 4 refine Nq (oa rfl) rfl ?_
   refine RegN.done ?_
   rotate_left
   have h2 := nF g2
   refine Ng rfl ‹_› (of f_58_6 rfl)<|RegN.loadS1 rfl ag_26 sz_26 rfl rfl rfl (by kernel_rfl) (guardOn_go rfl rfl rfl rfl ‹_›) rfl rfl<|Ng rfl ‹_› (ol u_26 rfl)<|Ng rfl ‹_› (o2 u_3 rfl rfl)<|Nq (oF rfl ‹_› rfl) rfl ?_
   iterate 4 refine Nq (oa rfl) rfl ?_
   refine RegN.done ?_
   rotate_left
  ·refine ⟨rfl,rfl,rfl,?_⟩
   have e : ndV x = true := by unfold ndV nodeV; rw [decide_eq_false h1]; rfl
   rw [e]
   (refine Am.sub_of ?_; repeat (first | exact trivial | refine ⟨rfl,?_⟩))
  ·refine ⟨rfl,rfl,rfl,?_⟩
   have e : ndV x = true := by unfold ndV nodeV; rw [decide_eq_true h1,decide_eq_false h2]; rfl
   rw [e]
   (refine Am.sub_of ?_; repeat (first | exact trivial | refine ⟨rfl,?_⟩))
  ·refine ⟨rfl,rfl,rfl,?_⟩
   have e : ndV x = decide (0 < (x.args.length : Int)) := by unfold ndV nodeV; rw [decide_eq_true h1,decide_eq_true h2,len_pos]; rfl
   rw [e]
   (refine Am.sub_of ?_; repeat (first | exact trivial | refine ⟨rfl,?_⟩))
 refine EvtL.seq<|EvtL.block ?_
 refine EvtL.cut [(32,.bool (sh1 x)),(6,.bool (ndV x)),(5,.bool (tgV x)),(4,.bool (csV x)),(3,.bool (rgV x)),(2,.niliface),(1,.ptr 0 0)] (mkS 1 0 [] [(0,some (.cells (encI x) 58 false))]) ?_ ?_
 ·focus
   refine EvtL.reg<|Lq (of f_58_0 rfl) rfl<|Lo (l1 ag_55 sz_55 rfl) rfl<|Lq (o2 u_55 rfl rfl) rfl<|qm rfl ?_
   refine Lb rfl (fun g1 => ?_) (fun g1 => ?_)
   have h1 := dT g1
   refine Lh rfl ‹_› (om rfl)<|Lh rfl ‹_› (on rfl)<|Lq (oT rfl ‹_› rfl) rfl<|qm rfl ?_
   refine Lb rfl (fun g2 => ?_) (fun g2 => ?_)
   have h2 := notT g2
   refine Lh rfl ‹_› (om rfl)<|Lh rfl ‹_› (on rfl)<|Lq (oT rfl ‹_› rfl) rfl<|qa rfl<|Ld ?_
   rotate_left
   have h2 := notF g2
   iterate 2 refine Lk rfl ‹_› ?_
   refine Lq (oF rfl ‹_› rfl) rfl<|qa rfl<|Ld ?_
   rotate_left
   have h1 := dF g1
   iterate 2 refine Lk rfl ‹_› ?_
   refine Lq (oF rfl ‹_› rfl) rfl<|qm rfl ?_
   iterate 2 refine Lk rfl rfl ?_
   refine Lq (oF rfl rfl rfl) rfl<|qa rfl<|Ld ?_
   rotate_left
  ·refine ⟨rfl,rfl,rfl,?_⟩
   have e : sh1 x = (!ndV x) := by unfold sh1; rw [g1,g2]; rfl
   rw [e]
   (refine Am.sub_of ?_; repeat (first | exact trivial | refine ⟨rfl,?_⟩))
  ·refine ⟨rfl,rfl,rfl,?_⟩
   have e : sh1 x = (false) := by unfold sh1; rw [g1,g2]; rfl
   rw [e]
   (refine Am.sub_of ?_; repeat (first | exact trivial | refine ⟨rfl,?_⟩))
  ·refine ⟨rfl,rfl,rfl,?_⟩
   have e : sh1 x = (false) := by unfold sh1; rw [g1]; rfl
   rw [e]
   (refine Am.sub_of ?_; repeat (first | exact trivial | refine ⟨rfl,?_⟩))
 refine Ec rfl (fun g1 => ?_) (fun g1 => ?_)
 ·refine Es ?_
  refine Lq (of f_58_1 rfl) rfl<|Lo (l1 ag_3 sz_3 rfl) rfl<|Lq (of f_58_2 rfl) rfl<|Lo (l1 ag_56 sz_56 rfl) rfl<|Lq (OpQ.build rfl pl_114 rfl rfl) rfl<|Lq (OpQ.mkIface rfl if_114 rfl) rfl<|qa rfl<|Ld ?_
  refine EvtL.ret (Er rfl ?_)
  unfold shapeV
  rw [g1]; rfl
 skip
 refine EvtL.cut [(50,.bool (sh2 x)),(6,.bool (ndV x)),(5,.bool (tgV x)),(4,.bool (csV x)),(3,.bool (rgV x)),(2,.niliface),(1,.ptr 0 0)] (mkS 1 0 [] [(0,some (.cells (encI x) 58 false))]) ?_ ?_
 ·focus
   refine EvtL.reg<|Lq (of f_58_0 rfl) rfl<|Lo (l1 ag_55 sz_55 rfl) rfl<|Lq (o2 u_55 rfl rfl) rfl<|qm rfl ?_
   refine Lb rfl (fun g2 => ?_) (fun g2 => ?_)
   have h2 := dT g2
   refine Lh rfl ‹_› (om rfl)<|Lh rfl ‹_› (on rfl)<|Lq (oT rfl ‹_› rfl) rfl<|qm rfl ?_
   refine Lb rfl (fun g3 => ?_) (fun g3 => ?_)
   have h3 := notT g3
   refine Lh rfl ‹_› (om rfl)<|Lh rfl ‹_› (on rfl)<|Lq (oT rfl ‹_› rfl) rfl<|qm rfl ?_
   refine Lb rfl (fun g4 => ?_) (fun g4 => ?_)
   have h4 := notT g4
   refine Lh rfl ‹_› (om rfl)<|Lh rfl ‹_› (on rfl)<|Lq (oT rfl ‹_› rfl) rfl<|qa rfl<|Ld ?_
   rotate_left
   have h4 := notF g4
   iterate 2 refine Lk rfl ‹_› ?_
   refine Lq (oF rfl ‹_› rfl) rfl<|qa rfl<|Ld ?_
   rotate_left
   have h3 := notF g3
   iterate 2 refine Lk rfl ‹_› ?_
   refine Lq (oF rfl ‹_› rfl) rfl<|qm rfl ?_
   iterate 2 refine Lk rfl rfl ?_
   refine Lq (oF rfl rfl rfl) rfl<|qa rfl<|Ld ?_
   rotate_left
   have h2 := dF g2
   iterate 2 refine Lk rfl ‹_› ?_
   refine Lq (oF rfl ‹_› rfl) rfl<|qm rfl ?_
   iterate 2 refine Lk rfl rfl ?_
   refine Lq (oF rfl rfl rfl) rfl<|qm rfl ?_
   iterate 2 refine Lk rfl rfl ?_
   refine Lq (oF rfl rfl rfl) rfl<|qa rfl<|Ld ?_
   rotate_left
  ·refine ⟨rfl,rfl,rfl,?_⟩
   have e : sh2 x = (!ndV x) := by unfold sh2; rw [g2,g3,g4]; rfl
   rw [e]
   (refine Am.sub_of ?_; repeat (first | exact trivial | refine ⟨rfl,?_⟩))
  ·refine ⟨rfl,rfl,rfl,?_⟩
   have e : sh2 x = (false) := by unfold sh2; rw [g2,g3,g4]; rfl
   rw [e]
   (refine Am.sub_of ?_; repeat (first | exact trivial | refine ⟨rfl,?_⟩))
  ·refine ⟨rfl,rfl,rfl,?_⟩
   have e : sh2 x = (false) := by unfold sh2; rw [g2,g3]; rfl
   rw [e]
   (refine Am.sub_of ?_; repeat (first | exact trivial | refine ⟨rfl,?_⟩))
  ·refine ⟨rfl,rfl,rfl,?_⟩
   have e : sh2 x = (false) := by unfold sh2; rw [g2]; rfl
   rw [e]
   (refine Am.sub_of ?_; repeat (first | exact trivial | refine ⟨rfl,?_⟩))
 refine Ec rfl (fun g2 => ?_) (fun g2 => ?_)
 ·refine Es ?_
  refine Lq (of f_58_3 rfl) rfl<|Lo (l1 ag_26 sz_26 rfl) rfl<|Lq (OpQ.build rfl pl_117 rfl rfl) rfl<|Lq (OpQ.mkIface rfl if_117 rfl) rfl<|qa rfl<|Ld ?_
  refine EvtL.ret (Er rfl ?_)
  unfold shapeV
  rw [g1,g2]; rfl
 skip
 refine EvtL.cut [(70,.bool (sh3 x)),(6,.bool (ndV x)),(5,.bool (tgV x)),(4,.bool (csV x)),(3,.bool (rgV x)),(2,.niliface),(1,.ptr 0 0)] (mkS 1 0 [] [(0,some (.cells (encI x) 58 false))]) ?_ ?_
 ·focus
   refine EvtL.reg<|Lq (of f_58_0 rfl) rfl<|Lo (l1 ag_55 sz_55 rfl) rfl<|Lq (o2 u_55 rfl rfl) rfl<|qm rfl ?_
   refine Lb rfl (fun g3 => ?_) (fun g3 => ?_)
   have h3 := dT g3
   refine Lh rfl ‹_› (om rfl)<|Lh rfl ‹_› (on rfl)<|Lq (oT rfl ‹_› rfl) rfl<|qm rfl ?_
   refine Lb rfl (fun g4 => ?_) (fun g4 => ?_)
   have h4 := notT g4
   refine Lh rfl ‹_› (om rfl)<|Lh rfl ‹_› (on rfl)<|Lq (oT rfl ‹_› rfl) rfl<|qm rfl ?_
   refine Lb rfl (fun g5 => ?_) (fun g5 => ?_)
   have h5 := notT g5
   refine Lh rfl ‹_› (om rfl)<|Lh rfl ‹_› (on rfl)<|Lq (oT rfl ‹_› rfl) rfl<|qm rfl ?_
   refine Lb rfl (fun g6 => ?_) (fun g6 => ?_)
   have h6 := notT g6
   refine Lh rfl ‹_› (om rfl)<|Lh rfl ‹_› (on rfl)<|Lq (oT rfl ‹_› rfl) rfl<|qa rfl<|Ld ?_
   rotate_left
   have h6 := notF g6
   iterate 2 refine Lk rfl ‹_› ?_
   refine Lq (oF rfl ‹_› rfl) rfl<|qa rfl<|Ld ?_
   rotate_left
   have h5 := notF g5
   iterate 2 refine Lk rfl ‹_› ?_
   refine Lq (oF rfl ‹_› rfl) rfl<|qm rfl ?_
   iterate 2 refine Lk rfl rfl ?_
   refine Lq (oF rfl rfl rfl) rfl<|qa rfl<|Ld ?_
   rotate_left
   have h4 := notF g4
   iterate 2 refine Lk rfl ‹_› ?_
   refine Lq (oF rfl ‹_› rfl) rfl<|qm rfl ?_
   iterate 2 refine Lk rfl rfl ?_
   refine Lq (oF rfl rfl rfl) rfl<|qm rfl ?_
   iterate 2 refine Lk rfl rfl ?_
   refine Lq (oF rfl rfl rfl) rfl<|qa rfl<|Ld ?_
   rotate_left
   have h3 := dF g3
   iterate 2 refine Lk rfl ‹_› ?_
   refine Lq (oF rfl ‹_› rfl) rfl<|qm rfl ?_
   iterate 2 refine Lk rfl rfl ?_
   refine Lq (oF rfl rfl rfl) rfl<|qm rfl ?_
   iterate 2 refine Lk rfl rfl ?_
   refine Lq (oF rfl rfl rfl) rfl<|qm rfl ?_
   iterate 2 refine Lk rfl rfl ?_
   refine Lq (oF rfl rfl rfl) rfl<|qa rfl<|Ld ?_
   rotate_left
  ·refine ⟨rfl,rfl,rfl,?_⟩
   have e : sh3 x = (!ndV x) := by unfold sh3; rw [g3,g4,g5,g6]; rfl
   rw [e]
   (refine Am.sub_of ?_; repeat (first | exact trivial | refine ⟨rfl,?_⟩))
  ·refine ⟨rfl,rfl,rfl,?_⟩
   have e : sh3 x = (false) := by unfold sh3; rw [g3,g4,g5,g6]; rfl
   rw [e]
   (refine Am.sub_of ?_; repeat (first | exact trivial | refine ⟨rfl,?_⟩))
  ·refine ⟨rfl,rfl,rfl,?_⟩
   have e : sh3 x = (false) := by unfold sh3; rw [g3,g4,g5]; rfl
   rw [e]
   (refine Am.sub_of ?_; repeat (first | exact trivial | refine ⟨rfl,?_⟩))
  ·refine ⟨rfl,rfl,rfl,?_⟩
   have e : sh3 x = (false) := by unfold sh3; rw [g3,g4]; rfl
   rw [e]
   (refine Am.sub_of ?_; repeat (first | exact trivial | refine ⟨rfl,?_⟩))
  ·refine ⟨rfl,rfl,rfl,?_⟩
   have e : sh3 x = (false) := by unfold sh3; rw [g3]; rfl
   rw [e]
   (refine Am.sub_of ?_; repeat (first | exact trivial | refine ⟨rfl,?_⟩))
 refine Ec rfl (fun g3 => ?_) (fun g3 => ?_)
 ·refine Es ?_
  refine Lq (OpQ.build rfl pl_166 rfl rfl) rfl<|Lq (OpQ.mkIface rfl if_166 rfl) rfl<|qa rfl<|Ld ?_
  refine EvtL.ret (Er rfl ?_)
  unfold shapeV
  rw [g1,g2,g3]; rfl
 skip
 refine EvtL.cut [(92,.bool (sh4 x)),(6,.bool (ndV x)),(5,.bool (tgV x)),(4,.bool (csV x)),(3,.bool (rgV x)),(2,.niliface),(1,.ptr 0 0)] (mkS 1 0 [] [(0,some (.cells (encI x) 58 false))]) ?_ ?_
 ·focus
   refine EvtL.reg<|Lq (of f_58_0 rfl) rfl<|Lo (l1 ag_55 sz_55 rfl) rfl<|Lq (o2 u_55 rfl rfl) rfl<|qm rfl ?_
   refine Lb rfl (fun g4 => ?_) (fun g4 => ?_)
   have h4 := dT g4
   refine Lh rfl ‹_› (om rfl)<|Lh rfl ‹_› (on rfl)<|Lq (oT rfl ‹_› rfl) rfl<|qm rfl ?_
   refine Lb rfl (fun g5 => ?_) (fun g5 => ?_)
   have h5 := notT g5
   refine Lh rfl ‹_› (om rfl)<|Lh rfl ‹_› (on rfl)<|Lq (oT rfl ‹_› rfl) rfl<|qm rfl ?_
   refine Lb rfl (fun g6 => ?_) (fun g6 => ?_)
   have h6 := notT g6
   refine Lh rfl ‹_› (om rfl)<|Lh rfl ‹_› (on rfl)<|Lq (oT rfl ‹_› rfl) rfl<|qm rfl ?_
   refine Lb rfl (fun g7 => ?_) (fun g7 => ?_)
   have h7 := notT g7
   refine Lh rfl ‹_› (om rfl)<|Lh rfl ‹_› (on rfl)<|Lq (oT rfl ‹_› rfl) rfl<|qa rfl<|Ld ?_
   rotate_left
   have h7 := notF g7
   iterate 2 refine Lk rfl ‹_› ?_
   refine Lq (oF rfl ‹_› rfl) rfl<|qa rfl<|Ld ?_
   rotate_left
   have h6 := notF g6
   iterate 2 refine Lk rfl ‹_› ?_
   refine Lq (oF rfl ‹_› rfl) rfl<|qm rfl ?_
   iterate 2 refine Lk rfl rfl ?_
   refine Lq (oF rfl rfl rfl) rfl<|qa rfl<|Ld ?_
   rotate_left
   have h5 := notF g5
   iterate 2 refine Lk rfl ‹_› ?_
   refine Lq (oF rfl ‹_› rfl) rfl<|qm rfl ?_
   iterate 2 refine Lk rfl rfl ?_
   refine Lq (oF rfl rfl rfl) rfl<|qm rfl ?_
   iterate 2 refine Lk rfl rfl ?_
   refine Lq (oF rfl rfl rfl) rfl<|qa rfl<|Ld ?_
   rotate_left
   have h4 := dF g4
   iterate 2 refine Lk rfl ‹_› ?_
   refine Lq (oF rfl ‹_› rfl) rfl<|qm rfl ?_
   iterate 2 refine Lk rfl rfl ?_
   refine Lq (oF rfl rfl rfl) rfl<|qm rfl ?_
   iterate 2 refine Lk rfl rfl ?_
   refine Lq (oF rfl rfl rfl) rfl<|qm rfl ?_
   iterate 2 refine Lk rfl rfl ?_
   refine Lq (oF rfl rfl rfl) rfl<|qa rfl<|Ld ?_
   rotate_left
  ·refine ⟨rfl,rfl,rfl,?_⟩
   have e : sh4 x = (!ndV x) := by unfold sh4; rw [g4,g5,g6,g7]; rfl
   rw [e]
   (refine Am.sub_of ?_; repeat (first | exact trivial | refine ⟨rfl,?_⟩))
  ·refine ⟨rfl,rfl,rfl,?_⟩
   have e : sh4 x = (false) := by unfold sh4; rw [g4,g5,g6,g7]; rfl
   rw [e]
   (refine Am.sub_of ?_; repeat (first | exact trivial | refine ⟨rfl,?_⟩))
  ·refine ⟨rfl,rfl,rfl,?_⟩
   have e : sh4 x = (false) := by unfold sh4; rw [g4,g5,g6]; rfl
   rw [e]
   (refine Am.sub_of ?_; repeat (first | exact trivial | refine ⟨rfl,?_⟩))
  ·refine ⟨rfl,rfl,rfl,?_⟩
   have e : sh4 x = (false) := by unfold sh4; rw [g4,g5]; rfl
   rw [e]
   (refine Am.sub_of ?_; repeat (first | exact trivial | refine ⟨rfl,?_⟩))
  ·refine ⟨rfl,rfl,rfl,?_⟩
   have e : sh4 x = (false) := by unfold sh4; rw [g4]; rfl
   rw [e]
   (refine Am.sub_of ?_; repeat (first | exact trivial | refine ⟨rfl,?_⟩))
 refine Ec rfl (fun g4 => ?_) (fun g4 => ?_)
 ·refine Es ?_
  refine Lq (OpQ.build rfl pl_167 rfl rfl) rfl<|Lq (OpQ.mkIface rfl if_167 rfl) rfl<|qa rfl<|Ld ?_
  refine EvtL.ret (Er rfl ?_)
  unfold shapeV
  rw [g1,g2,g3,g4]; rfl
 skip
 refine EvtL.cut [(114,.bool (sh5 x)),(6,.bool (ndV x)),(5,.bool (tgV x)),(4,.bool (csV x)),(3,.bool (rgV x)),(2,.niliface),(1,.ptr 0 0)] (mkS 1 0 [] [(0,some (.cells (encI x) 58 false))]) ?_ ?_
 ·focus
   refine EvtL.reg<|Lq (of f_58_0 rfl) rfl<|Lo (l1 ag_55 sz_55 rfl) rfl<|Lq (o2 u_55 rfl rfl) rfl<|qm rfl ?_
   refine Lb rfl (fun g5 => ?_) (fun g5 => ?_)
   have h5 := dT g5
   refine Lh rfl ‹_› (om rfl)<|Lh rfl ‹_› (on rfl)<|Lq (oT rfl ‹_› rfl) rfl<|qm rfl ?_
   refine Lb rfl (fun g6 => ?_) (fun g6 => ?_)
   have h6 := notT g6
   refine Lh rfl ‹_› (om rfl)<|Lh rfl ‹_› (on rfl)<|Lq (oT rfl ‹_› rfl) rfl<|qm rfl ?_
   refine Lb rfl (fun g7 => ?_) (fun g7 => ?_)
   have h7 := notT g7
   refine Lh rfl ‹_› (om rfl)<|Lh rfl ‹_› (on rfl)<|Lq (oT rfl ‹_› rfl) rfl<|qa rfl<|Ld ?_
   rotate_left
   have h7 := notF g7
   iterate 2 refine Lk rfl ‹_› ?_
   refine Lq (oF rfl ‹_› rfl) rfl<|qa rfl<|Ld ?_
   rotate_left
   have h6 := notF g6
   iterate 2 refine Lk rfl ‹_› ?_
   refine Lq (oF rfl ‹_› rfl) rfl<|qm rfl ?_
   iterate 2 refine Lk rfl rfl ?_
   refine Lq (oF rfl rfl rfl) rfl<|qa rfl<|Ld ?_
   rotate_left
   have h5 := dF g5
   iterate 2 refine Lk rfl ‹_› ?_
   refine Lq (oF rfl ‹_› rfl) rfl<|qm rfl ?_
   iterate 2 refine Lk rfl rfl ?_
   refine Lq (oF rfl rfl rfl) rfl<|qm rfl ?_
   iterate 2 refine Lk rfl rfl ?_
   refine Lq (oF rfl rfl rfl) rfl<|qa rfl<|Ld ?_
   rotate_left
  ·refine ⟨rfl,rfl,rfl,?_⟩
   have e : sh5 x = (!tgV x) := by unfold sh5; rw [g5,g6,g7]; rfl
   rw [e]
   (refine Am.sub_of ?_; repeat (first | exact trivial | refine ⟨rfl,?_⟩))
  ·refine ⟨rfl,rfl,rfl,?_⟩
   have e : sh5 x = (false) := by unfold sh5; rw [g5,g6,g7]; rfl
   rw [e]
   (refine Am.sub_of ?_; repeat (first | exact trivial | refine ⟨rfl,?_⟩))
  ·refine ⟨rfl,rfl,rfl,?_⟩
   have e : sh5 x = (false) := by unfold sh5; rw [g5,g6]; rfl
   rw [e]
   (refine Am.sub_of ?_; repeat (first | exact trivial | refine ⟨rfl,?_⟩))
  ·refine ⟨rfl,rfl,rfl,?_⟩
   have e : sh5 x = (false) := by unfold sh5; rw [g5]; rfl
   rw [e]
   (refine Am.sub_of ?_; repeat (first | exact trivial | refine ⟨rfl,?_⟩))
 refine Ec rfl (fun g5 => ?_) (fun g5 => ?_)
 ·refine Es ?_
  refine Lq (of f_58_4 rfl) rfl<|Lo (l1 ag_37 sz_37 rfl) rfl<|Lq (of f_58_5 rfl) rfl<|Lo (l1 ag_3 sz_3 rfl) rfl<|Lq (of f_58_6 rfl) rfl<|Lo (l1 ag_26 sz_26 rfl) rfl<|Lq (OpQ.build rfl pl_119 rfl rfl) rfl<|Lq (OpQ.mkIface rfl if_119 rfl) rfl ?_
  refine qa rfl<|Ld ?_
  refine EvtL.ret (Er rfl ?_)
  unfold shapeV
  rw [g1,g2,g3,g4,g5]; rfl
 skip
 refine EvtL.cut [(138,.bool (sh6 x)),(6,.bool (ndV x)),(5,.bool (tgV x)),(4,.bool (csV x)),(3,.bool (rgV x)),(2,.niliface),(1,.ptr 0 0)] (mkS 1 0 [] [(0,some (.cells (encI x) 58 false))]) ?_ ?_
 ·focus
   refine EvtL.reg<|Lq (of f_58_0 rfl) rfl<|Lo (l1 ag_55 sz_55 rfl) rfl<|Lq (o2 u_55 rfl rfl) rfl<|qm rfl ?_
   refine Lb rfl (fun g6 => ?_) (fun g6 => ?_)
   have h6 := dT g6
   refine Lh rfl ‹_› (om rfl)<|Lh rfl ‹_› (on rfl)<|Lq (oT rfl ‹_› rfl) rfl<|qm rfl ?_
   refine Lb rfl (fun g7 => ?_) (fun g7 => ?_)
   have h7 := notT g7
   refine Lh rfl ‹_› (om rfl)<|Lh rfl ‹_› (on rfl)<|Lq (oT rfl ‹_› rfl) rfl<|qm rfl ?_
   refine Lb rfl (fun g8 => ?_) (fun g8 => ?_)
   have h8 := notT g8
   refine Lh rfl ‹_› (om rfl)<|Lh rfl ‹_› (on rfl)<|Lq (oT rfl ‹_› rfl) rfl<|qa rfl<|Ld ?_
   rotate_left
   have h8 := notF g8
   iterate 2 refine Lk rfl ‹_› ?_
   refine Lq (oF rfl ‹_› rfl) rfl<|qa rfl<|Ld ?_
   rotate_left
   have h7 := notF g7
   iterate 2 refine Lk rfl ‹_› ?_
   refine Lq (oF rfl ‹_› rfl) rfl<|qm rfl ?_
   iterate 2 refine Lk rfl rfl ?_
   refine Lq (oF rfl rfl rfl) rfl<|qa rfl<|Ld ?_
   rotate_left
   have h6 := dF g6
   iterate 2 refine Lk rfl ‹_› ?_
   refine Lq (oF rfl ‹_› rfl) rfl<|qm rfl ?_
   iterate 2 refine Lk rfl rfl ?_
   refine Lq (oF rfl rfl rfl) rfl<|qm rfl ?_
   iterate 2 refine Lk rfl rfl ?_
   refine Lq (oF rfl rfl rfl) rfl<|qa rfl<|Ld ?_
   rotate_left
  ·refine ⟨rfl,rfl,rfl,?_⟩
   have e : sh6 x = (!ndV x) := by unfold sh6; rw [g6,g7,g8]; rfl
   rw [e]
   (refine Am.sub_of ?_; repeat (first | exact trivial | refine ⟨rfl,?_⟩))
  ·refine ⟨rfl,rfl,rfl,?_⟩
   have e : sh6 x = (false) := by unfold sh6; rw [g6,g7,g8]; rfl
   rw [e]
   (refine Am.sub_of ?_; repeat (first | exact trivial | refine ⟨rfl,?_⟩))
  ·refine ⟨rfl,rfl,rfl,?_⟩
   have e : sh6 x = (false) := by unfold sh6; rw [g6,g7]; rfl
   rw [e]
   (refine Am.sub_of ?_; repeat (first | exact trivial | refine ⟨rfl,?_⟩))
  ·refine ⟨rfl,rfl,rfl,?_⟩
   have e : sh6 x = (false) := by unfold sh6; rw [g6]; rfl
   rw [e]
   (refine Am.sub_of ?_; repeat (first | exact trivial | refine ⟨rfl,?_⟩))
 refine Ec rfl (fun g6 => ?_) (fun g6 => ?_)
 ·refine Es ?_
  refine Lq (of f_58_1 rfl) rfl<|Lo (l1 ag_3 sz_3 rfl) rfl<|Lq (OpQ.build rfl pl_121 rfl rfl) rfl<|Lq (OpQ.mkIface rfl if_121 rfl) rfl<|qa rfl<|Ld ?_
  refine EvtL.ret (Er rfl ?_)
  unfold shapeV
  rw [g1,g2,g3,g4,g5,g6]; rfl
 refine EvtL.skip<|Es<|qa rfl<|Ld ?_
 refine EvtL.ret (Er rfl ?_)
 unfold shapeV
 rw [g1,g2,g3,g4,g5,g6]; rfl
end Go.Proofs.YtpihdbhocgcbpaaGreatDoor

/- slices.ContainsFunc. -/
open Go Am
namespace Go.Proofs.YtpihdbhocgcbpaaGreatDoor
section
variable {K : FuncId → List AV → Option AV} {m : Nat}
def idxP (p : Int → Bool) (l : List Int) : Int := if twA (fun x => !p x) l < l.length then ((twA (fun x => !p x) l : Nat) : Int) else -1
theorem idxP_any {p : Int → Bool} {l : List Int} : decide (0 ≤ idxP p l) = l.any p := by
 rw [twA_any]
 unfold idxP
 by_cases h : twA (fun x => !p x) l < l.length
 ·rw [if_pos h,decide_eq_true h,decide_eq_true (by omega)]
 ·rw [if_neg h,decide_eq_false h]; rfl
theorem index_to (hK : K 120 = fun _ => none) {g : FuncId} {cap : List AV} {p : Int → Bool} {st : St} (hb : hasBody (EKm m K) g = true)
  (hcl : ∀ s',s'.heap = st.heap → s'.next = st.next → ∀ r,CallTo (EKm m K) g (.int .i64 r :: cap) s' (.bool (p r))) (l : List Int) (hn : l.length ≤ 4000) :
  CallTo (EKm m K) 120 [recs encZ 1 l,.func (.func g) [] cap] st (.int .i64 (idxP p l)) := by
 refine CallTo.flat (fn := Tryz.f120) (by show K 120 _ = none; rw [hK]) (by kernel_rfl) rfl rfl rfl rfl (fun _ _ => rfl) (fun _ => rfl) ?_
 have hle := twA_le (fun x => !p x) l
 refine Es<|qa rfl<|Ld<|EvtL.seq<|Es<|qm rfl<|Lq (ol u_26 rfl) rfl<|qm rfl ?_
 refine Ld<|EvtL.block ?_
 refine EvtL.loopI (fun i : Nat => ([(8,.int .i64 (i : Nat)),(7,.int .i64 (l.length : Nat)),(1,.func (.func g) [] cap),(0,recs encZ 1 l)],st.enter)) (fun i => l.length - i) (fun i => i ≤ twA (fun x => !p x) l) 0 (Nat.zero_le _) rfl (by (refine Am.sub_of ?_; repeat (first | exact trivial | refine ⟨rfl,?_⟩))) ?_
 intro i hi
 dsimp only at hi ⊢
 by_cases h : i < l.length
 ·have hp := recs_idx encZ_len h
  have hs := twA_step (p := fun x => !p x) hi (List.getElem?_eq_getElem h)
  focus
   refine Es<|Lq (o2 u_3 rfl rfl) rfl<|Ld<|EvtL.seq ?_
   refine Ec rfl (fun g1 => ?_) (fun g1 => ?_)
   have h1 := dT g1
   refine EvtL.skip<|EvtL.seq<|EvtL.block<|Es<|qm rfl<|qa rfl<|Ld<|Es ?_
   iterate 3 refine qm rfl ?_
   refine Lq (OpQ.indexAddrV rfl u_26 sz_3 rfl rfl ‹_›) rfl<|Lq (OpQ.loadI1 rfl rfl ag_3 sz_3) rfl ?_
   rotate_left
   have h1 := dF g1
   exact absurd h1 (by omega)
  refine Lo (OpL.callVal rfl rfl rfl hb rfl (hcl st.enter rfl rfl l[i])) rfl ?_
  focus
   refine Ld ?_
   refine Ec rfl (fun g2 => ?_) (fun g2 => ?_)
   refine Es<|qm rfl<|qa rfl<|Ld ?_
   rotate_left
   refine EvtL.skip<|EvtL.reg ?_
   refine Lq (OpQ.addN (b := 1) rfl u_3 rfl rfl (by first | assumption | omega | (simp only [LL]; omega))) rfl ?_
   refine qm rfl<|Ld ?_
   rotate_left
  ·refine EvtL.ret ⟨.inl rfl,rfl,rfl,_,res_tmp rfl rfl,?_⟩
   have e : i = twA (fun x => !p x) l := by
    rw [g2] at hs
    have := mt hs.2 (by simp); omega
   unfold idxP
   rw [← e,if_pos h]; rfl
  ·refine ⟨i + 1,?_,by show l.length - (i + 1) < l.length - i; omega,rfl,rfl,by (refine Am.sub_of ?_; repeat (first | exact trivial | refine ⟨rfl,?_⟩))⟩
   rw [g2] at hs
   have := hs.1 rfl
   omega
 ·focus
   refine Es<|Lq (o2 u_3 rfl rfl) rfl<|Ld<|EvtL.seq ?_
   refine Ec rfl (fun g1 => ?_) (fun g1 => ?_)
   have h1 := dT g1
   exact absurd h1 (by omega)
   have h1 := dF g1
   refine EvtL.exit<|cond_t rfl<|Es<|qa rfl<|Ld ?_
   rotate_left
  refine EvtL.ret ⟨.inl rfl,rfl,rfl,_,res_tmp rfl rfl,?_⟩
  unfold idxP
  rw [if_neg (by omega)]; rfl
theorem containsN_to (hK : K 120 = fun _ => none) (hK2 : K 70 = fun _ => none) {g : FuncId} {cap : List AV} {st : St} :
  CallTo (EKm m K) 70 [.nilslice,.func (.func g) [] cap] st (.bool false) := by
 refine CallTo.flat (fn := Tryz.f70) (by show K 70 _ = none; rw [hK2]) (by kernel_rfl) rfl rfl rfl rfl (fun _ _ => rfl) (fun _ => rfl) ?_
 have hi : CallTo (EKm m K) 120 [.nilslice,.func (.func g) [] cap] st.enter (.int .i64 (-1)) := by
  refine CallTo.flat (fn := Tryz.f120) (by show K 120 _ = none; rw [hK]) (by kernel_rfl) rfl rfl rfl rfl (fun _ _ => rfl) (fun _ => rfl) ?_
  refine Es<|qa rfl<|Ld<|EvtL.seq<|Es<|qm rfl<|Lq (OpQ.lenNil rfl rfl rfl rfl u_26 rfl) rfl<|qm rfl ?_
  refine Ld<|EvtL.block<|EvtL.loop<|Es<|Lq (o2 u_3 rfl rfl) rfl<|Ld<|EvtL.seq<|EvtL.condF rfl rfl ?_
  refine EvtL.exit<|cond_t rfl<|Es<|qa rfl<|Ld ?_
  exact EvtL.ret ⟨.inl rfl,rfl,rfl,_,res_tmp rfl rfl,rfl⟩
 refine Es<|qa rfl<|Ld<|Es ?_
 iterate 2 refine qm rfl ?_
 refine Lo (OpL.callFn rfl rfl (by kernel_rfl) rfl hi) rfl<|Lq (o2 u_3 rfl rfl) rfl<|qa rfl<|Ld ?_
 exact EvtL.ret ⟨.inl rfl,rfl,rfl,_,res_tmp rfl rfl,rfl⟩
theorem contains_to (hK : K 120 = fun _ => none) (hK2 : K 70 = fun _ => none) {g : FuncId} {cap : List AV} {p : Int → Bool} {st : St} (hb : hasBody (EKm m K) g = true)
  (hcl : ∀ s',s'.heap = st.heap → s'.next = st.next → ∀ r,CallTo (EKm m K) g (.int .i64 r :: cap) s' (.bool (p r))) (l : List Int) (hn : l.length ≤ 4000) :
  CallTo (EKm m K) 70 [recs encZ 1 l,.func (.func g) [] cap] st (.bool (l.any p)) := by
 refine CallTo.flat (fn := Tryz.f70) (by show K 70 _ = none; rw [hK2]) (by kernel_rfl) rfl rfl rfl rfl (fun _ _ => rfl) (fun _ => rfl) ?_
 have hi := index_to hK (st := st.enter) hb (fun s' h1 h2 r => hcl s' h1 h2 r) l hn
 refine Es<|qa rfl<|Ld<|Es ?_
 iterate 2 refine qm rfl ?_
 refine Lo (OpL.callFn rfl rfl (by kernel_rfl) rfl hi) rfl<|Lq (o2 u_3 rfl rfl) rfl<|qa rfl<|Ld ?_
 refine EvtL.ret ⟨.inl rfl,rfl,rfl,_,res_tmp rfl rfl,?_⟩
 rw [← idxP_any]; rfl
end
end Go.Proofs.YtpihdbhocgcbpaaGreatDoor

/- Instructions,as the code has them. -/
open Go Am
namespace Go.Proofs.YtpihdbhocgcbpaaGreatDoor
noncomputable def K11 := addC K10 51 (fun x : InsT => [.agg (encI x)]) (fun x => shA (shapeV x))
theorem hit_51 {x : InsT} : K11 51 [.agg (encI x)] = some (shA (shapeV x)) :=
 addC_hit (f := 51) (enc := fun x : InsT => [.agg (encI x)]) (res := fun x => shA (shapeV x)) (fun a b h => by rw [encI_inj _ _ (AV.agg.inj (List.cons.inj h).1)]) x
theorem shA_closed (s : ShT) : closedV 40 (shA s) = true := by cases s <;> rfl
theorem all11 (h : KnownF Tryz.prog 10 [] (.bool true)) : KnownAll Tryz.prog K11 := addC_all progOk (all10 h) (fun x => shaped_to x) (fun _ => rfl) (fun _ => shA_closed _)
def encM (op n : Int) (args : List Int) : AV := .agg [.int .i64 op,.int .i64 n,recs encZ 1 args]
theorem mv_pair {cons funs : List NameT} {t n : Int} {k : Nat} (ht : t = 6 ∨ t = 7 ∨ 9 ≤ t ∧ t ≤ 15) : madeV cons funs t n k = (decide (n = 0) && decide ((k : Int) = 2)) := by
 unfold madeV
 rw [if_neg (by omega),if_neg (by omega),if_neg (by omega),if_neg (by omega),if_pos ht]
theorem mv_pairT {cons funs : List NameT} {t n : Int} {k : Nat} (ht : t = 6 ∨ t = 7 ∨ 9 ≤ t ∧ t ≤ 15) (hn : n = 0) : decide ((k : Int) = 2) = madeV cons funs t n k := by rw [mv_pair ht,decide_eq_true hn]; rfl
theorem mv_pairF {cons funs : List NameT} {t n : Int} {k : Nat} (ht : t = 6 ∨ t = 7 ∨ 9 ≤ t ∧ t ≤ 15) (hn : ¬ n = 0) : false = madeV cons funs t n k := by rw [mv_pair ht,decide_eq_false hn]; rfl
theorem mv_none {cons funs : List NameT} {t n : Int} {k : Nat} (ht : ¬ (t = 2 ∨ t = 3 ∨ t = 4 ∨ t = 5 ∨ t = 6 ∨ t = 7 ∨ 9 ≤ t ∧ t ≤ 15)) : false = madeV cons funs t n k := by
 unfold madeV
 rw [if_neg (by omega),if_neg (by omega),if_neg (by omega),if_neg (by omega),if_neg (by omega)]
theorem named_to (cons funs : List NameT) (op n : Int) (args : List Int) (hc : cons.length ≤ 4000) (hf : funs.length ≤ 4000) : CallTo (EK K11) 81 [.agg [recs encN 2 cons,recs encN 2 funs],encM op n args] S0 (.bool (madeV cons funs op n args.length)) := by
 refine CallTo.s0 (fn := Tryz.f81) rfl rfl (by kernel_rfl) rfl rfl rfl rfl ?_
 focus
  refine Es<|Lo (OpL.boxS 1 rfl rfl rfl rfl) rfl<|Lo (OpL.boxS 2 rfl rfl rfl rfl) rfl<|qa rfl<|Ld<|Es<|Lq (of f_119_2 rfl) rfl<|Lo (l1 ag_26 sz_26 rfl) rfl ?_
  refine Lq (ol u_26 rfl) rfl<|qa rfl<|Ld<|EvtL.seq<|Es<|Lq (of f_119_0 rfl) rfl<|Lo (l1 ag_37 sz_37 rfl) rfl<|Ld ?_
  refine EvtL.block<|Es<|Lq (o2 u_37 rfl rfl) rfl<|qa rfl<|Ld ?_
  refine Ec rfl (fun g1 => ?_) (fun g1 => ?_)
  have h1 := dT g1
  refine Es<|Lq (of f_119_1 rfl) rfl<|Lo (l1 ag_3 sz_3 rfl) rfl<|Lo (OpL.callFn rfl rfl (by kernel_rfl) rfl (CallTo.memo (hit_37))) rfl<|qm rfl ?_
  refine Lb rfl (fun g2 => ?_) (fun g2 => ?_)
  refine Lh rfl ‹_› (om rfl)<|Lh rfl ‹_› (o2 u_3 rfl rfl)<|Lq (oT rfl ‹_› rfl) rfl<|qa rfl<|Ld ?_
  refine EvtL.ret (Er rfl ?_)
  refine boolRes ?_
  rotate_left
  iterate 2 refine Lk rfl ‹_› ?_
  refine Lq (oF rfl ‹_› rfl) rfl<|qa rfl<|Ld ?_
  refine EvtL.ret (Er rfl ?_)
  refine boolRes ?_
  rotate_left
  have h1 := dF g1
  refine Es<|Lq (o2 u_37 rfl rfl) rfl<|qa rfl<|Ld ?_
  refine Ec rfl (fun g3 => ?_) (fun g3 => ?_)
  have h3 := dT g3
  refine Es<|Lq (of f_119_1 rfl) rfl<|Lo (l1 ag_3 sz_3 rfl) rfl<|Lq (of f_24_0 rfl) rfl<|Lo (l1 ag_22 sz_22 rfl) rfl<|Lq (ol u_22 rfl) rfl<|Lq (OpQ.sub rfl u_3 rfl rfl (by omega)) rfl<|Lo (OpL.callFn rfl rfl (by kernel_rfl) rfl (CallTo.memo (hit_37))) rfl ?_
  refine qm rfl ?_
  refine Lb rfl (fun g4 => ?_) (fun g4 => ?_)
  refine Lh rfl ‹_› (om rfl)<|Lh rfl ‹_› (of f_24_0 rfl)<|Lg rfl ‹_› (l1 ag_22 sz_22 rfl)<|Lh rfl ‹_› (of f_119_1 rfl)<|Lg rfl ‹_› (l1 ag_3 sz_3 rfl) ?_
  rotate_left
  iterate 9 refine Lk rfl ‹_› ?_
  refine Lq (oF rfl ‹_› rfl) rfl<|qa rfl<|Ld ?_
  refine EvtL.ret (Er rfl ?_)
  refine boolRes ?_
  rotate_left
  have h3 := dF g3
  refine Es<|Lq (o2 u_37 rfl rfl) rfl<|qa rfl<|Ld ?_
  refine Ec rfl (fun g5 => ?_) (fun g5 => ?_)
  have h5 := dT g5
  refine Es<|Lq (of f_119_1 rfl) rfl<|Lo (l1 ag_3 sz_3 rfl) rfl<|Lq (of f_24_1 rfl) rfl<|Lo (l1 ag_22 sz_22 rfl) rfl<|Lq (ol u_22 rfl) rfl<|Lq (OpQ.sub rfl u_3 rfl rfl (by omega)) rfl<|Lo (OpL.callFn rfl rfl (by kernel_rfl) rfl (CallTo.memo (hit_37))) rfl ?_
  refine qm rfl ?_
  refine Lb rfl (fun g6 => ?_) (fun g6 => ?_)
  refine Lh rfl ‹_› (om rfl)<|Lh rfl ‹_› (of f_24_1 rfl)<|Lg rfl ‹_› (l1 ag_22 sz_22 rfl)<|Lh rfl ‹_› (of f_119_1 rfl)<|Lg rfl ‹_› (l1 ag_3 sz_3 rfl) ?_
  rotate_left
  iterate 9 refine Lk rfl ‹_› ?_
  refine Lq (oF rfl ‹_› rfl) rfl<|qa rfl<|Ld ?_
  refine EvtL.ret (Er rfl ?_)
  refine boolRes ?_
  rotate_left
  have h5 := dF g5
  refine Es<|Lq (o2 u_37 rfl rfl) rfl<|qa rfl<|Ld ?_
  refine Ec rfl (fun g7 => ?_) (fun g7 => ?_)
  have h7 := dT g7
  refine Es<|Lq (of f_119_1 rfl) rfl<|Lo (l1 ag_3 sz_3 rfl) rfl<|Lq (of f_24_1 rfl) rfl<|Lo (l1 ag_22 sz_22 rfl) rfl<|Lq (ol u_22 rfl) rfl<|Lq (OpQ.sub rfl u_3 rfl rfl (by omega)) rfl<|Lo (OpL.callFn rfl rfl (by kernel_rfl) rfl (CallTo.memo (hit_37))) rfl ?_
  refine qm rfl ?_
  refine Lb rfl (fun g8 => ?_) (fun g8 => ?_)
  refine Lh rfl ‹_› (om rfl)<|Lh rfl ‹_› (of f_24_1 rfl)<|Lg rfl ‹_› (l1 ag_22 sz_22 rfl)<|Lh rfl ‹_› (of f_119_1 rfl)<|Lg rfl ‹_› (l1 ag_3 sz_3 rfl) ?_
  rotate_left
  iterate 9 refine Lk rfl ‹_› ?_
  refine Lq (oF rfl ‹_› rfl) rfl<|qa rfl<|Ld ?_
  refine EvtL.ret (Er rfl ?_)
  refine boolRes ?_
  rotate_left
  have h7 := dF g7
  refine EvtL.seq<|Es<|Lq (o2 u_37 rfl rfl) rfl<|qa rfl<|Ld ?_
  refine Ec rfl (fun g9 => ?_) (fun g9 => ?_)
  have h9 := dT g9
  refine EvtL.skip<|EvtL.condT rfl ‹_›<|Es<|Lq (of f_119_1 rfl) rfl<|Lo (l1 ag_3 sz_3 rfl) rfl<|Lq (o2 u_3 rfl rfl) rfl<|qm rfl ?_
  refine Lb rfl (fun g10 => ?_) (fun g10 => ?_)
  have h10 := dT g10
  refine Lh rfl ‹_› (om rfl)<|Lh rfl ‹_› (o2 u_3 rfl rfl)<|Lq (oT rfl ‹_› rfl) rfl<|qa rfl<|Ld ?_
  refine EvtL.ret (Er rfl ?_)
  refine boolRes ?_
  rotate_left
  have h10 := dF g10
  iterate 2 refine Lk rfl ‹_› ?_
  refine Lq (oF rfl ‹_› rfl) rfl<|qa rfl<|Ld ?_
  refine EvtL.ret (Er rfl ?_)
  refine boolRes ?_
  rotate_left
  have h9 := dF g9
  refine Es<|Lq (o2 u_37 rfl rfl) rfl<|qa rfl<|Ld ?_
  refine Ec rfl (fun g11 => ?_) (fun g11 => ?_)
  have h11 := dT g11
  refine EvtL.skip<|EvtL.condT rfl ‹_›<|Es<|Lq (of f_119_1 rfl) rfl<|Lo (l1 ag_3 sz_3 rfl) rfl<|Lq (o2 u_3 rfl rfl) rfl<|qm rfl ?_
  refine Lb rfl (fun g12 => ?_) (fun g12 => ?_)
  have h12 := dT g12
  refine Lh rfl ‹_› (om rfl)<|Lh rfl ‹_› (o2 u_3 rfl rfl)<|Lq (oT rfl ‹_› rfl) rfl<|qa rfl<|Ld ?_
  refine EvtL.ret (Er rfl ?_)
  refine boolRes ?_
  rotate_left
  have h12 := dF g12
  iterate 2 refine Lk rfl ‹_› ?_
  refine Lq (oF rfl ‹_› rfl) rfl<|qa rfl<|Ld ?_
  refine EvtL.ret (Er rfl ?_)
  refine boolRes ?_
  rotate_left
  have h11 := dF g11
  refine Es<|Lq (o2 u_37 rfl rfl) rfl<|qa rfl<|Ld ?_
  refine Ec rfl (fun g13 => ?_) (fun g13 => ?_)
  have h13 := dT g13
  refine EvtL.skip<|EvtL.condT rfl ‹_›<|Es<|Lq (of f_119_1 rfl) rfl<|Lo (l1 ag_3 sz_3 rfl) rfl<|Lq (o2 u_3 rfl rfl) rfl<|qm rfl ?_
  refine Lb rfl (fun g14 => ?_) (fun g14 => ?_)
  have h14 := dT g14
  refine Lh rfl ‹_› (om rfl)<|Lh rfl ‹_› (o2 u_3 rfl rfl)<|Lq (oT rfl ‹_› rfl) rfl<|qa rfl<|Ld ?_
  refine EvtL.ret (Er rfl ?_)
  refine boolRes ?_
  rotate_left
  have h14 := dF g14
  iterate 2 refine Lk rfl ‹_› ?_
  refine Lq (oF rfl ‹_› rfl) rfl<|qa rfl<|Ld ?_
  refine EvtL.ret (Er rfl ?_)
  refine boolRes ?_
  rotate_left
  have h13 := dF g13
  refine Es<|Lq (o2 u_37 rfl rfl) rfl<|qa rfl<|Ld ?_
  refine Ec rfl (fun g15 => ?_) (fun g15 => ?_)
  have h15 := dT g15
  refine EvtL.skip<|EvtL.condT rfl ‹_›<|Es<|Lq (of f_119_1 rfl) rfl<|Lo (l1 ag_3 sz_3 rfl) rfl<|Lq (o2 u_3 rfl rfl) rfl<|qm rfl ?_
  refine Lb rfl (fun g16 => ?_) (fun g16 => ?_)
  have h16 := dT g16
  refine Lh rfl ‹_› (om rfl)<|Lh rfl ‹_› (o2 u_3 rfl rfl)<|Lq (oT rfl ‹_› rfl) rfl<|qa rfl<|Ld ?_
  refine EvtL.ret (Er rfl ?_)
  refine boolRes ?_
  rotate_left
  have h16 := dF g16
  iterate 2 refine Lk rfl ‹_› ?_
  refine Lq (oF rfl ‹_› rfl) rfl<|qa rfl<|Ld ?_
  refine EvtL.ret (Er rfl ?_)
  refine boolRes ?_
  rotate_left
  have h15 := dF g15
  refine Es<|Lq (o2 u_37 rfl rfl) rfl<|qa rfl<|Ld ?_
  refine Ec rfl (fun g17 => ?_) (fun g17 => ?_)
  have h17 := dT g17
  refine EvtL.skip<|EvtL.condT rfl ‹_›<|Es<|Lq (of f_119_1 rfl) rfl<|Lo (l1 ag_3 sz_3 rfl) rfl<|Lq (o2 u_3 rfl rfl) rfl<|qm rfl ?_
  refine Lb rfl (fun g18 => ?_) (fun g18 => ?_)
  have h18 := dT g18
  refine Lh rfl ‹_› (om rfl)<|Lh rfl ‹_› (o2 u_3 rfl rfl)<|Lq (oT rfl ‹_› rfl) rfl<|qa rfl<|Ld ?_
  refine EvtL.ret (Er rfl ?_)
  refine boolRes ?_
  rotate_left
  have h18 := dF g18
  iterate 2 refine Lk rfl ‹_› ?_
  refine Lq (oF rfl ‹_› rfl) rfl<|qa rfl<|Ld ?_
  refine EvtL.ret (Er rfl ?_)
  refine boolRes ?_
  rotate_left
  have h17 := dF g17
  refine Es<|Lq (o2 u_37 rfl rfl) rfl<|qa rfl<|Ld ?_
  refine Ec rfl (fun g19 => ?_) (fun g19 => ?_)
  have h19 := dT g19
  refine EvtL.skip<|EvtL.condT rfl ‹_›<|Es<|Lq (of f_119_1 rfl) rfl<|Lo (l1 ag_3 sz_3 rfl) rfl<|Lq (o2 u_3 rfl rfl) rfl<|qm rfl ?_
  refine Lb rfl (fun g20 => ?_) (fun g20 => ?_)
  have h20 := dT g20
  refine Lh rfl ‹_› (om rfl)<|Lh rfl ‹_› (o2 u_3 rfl rfl)<|Lq (oT rfl ‹_› rfl) rfl<|qa rfl<|Ld ?_
  refine EvtL.ret (Er rfl ?_)
  refine boolRes ?_
  rotate_left
  have h20 := dF g20
  iterate 2 refine Lk rfl ‹_› ?_
  refine Lq (oF rfl ‹_› rfl) rfl<|qa rfl<|Ld ?_
  refine EvtL.ret (Er rfl ?_)
  refine boolRes ?_
  rotate_left
  have h19 := dF g19
  refine Es<|Lq (o2 u_37 rfl rfl) rfl<|qa rfl<|Ld ?_
  refine Ec rfl (fun g21 => ?_) (fun g21 => ?_)
  have h21 := dT g21
  refine EvtL.skip<|EvtL.condT rfl ‹_›<|Es<|Lq (of f_119_1 rfl) rfl<|Lo (l1 ag_3 sz_3 rfl) rfl<|Lq (o2 u_3 rfl rfl) rfl<|qm rfl ?_
  refine Lb rfl (fun g22 => ?_) (fun g22 => ?_)
  have h22 := dT g22
  refine Lh rfl ‹_› (om rfl)<|Lh rfl ‹_› (o2 u_3 rfl rfl)<|Lq (oT rfl ‹_› rfl) rfl<|qa rfl<|Ld ?_
  refine EvtL.ret (Er rfl ?_)
  refine boolRes ?_
  rotate_left
  have h22 := dF g22
  iterate 2 refine Lk rfl ‹_› ?_
  refine Lq (oF rfl ‹_› rfl) rfl<|qa rfl<|Ld ?_
  refine EvtL.ret (Er rfl ?_)
  refine boolRes ?_
  rotate_left
  have h21 := dF g21
  refine Es<|Lq (o2 u_37 rfl rfl) rfl<|qa rfl<|Ld ?_
  refine Ec rfl (fun g23 => ?_) (fun g23 => ?_)
  have h23 := dT g23
  refine EvtL.skip<|EvtL.condT rfl ‹_›<|Es<|Lq (of f_119_1 rfl) rfl<|Lo (l1 ag_3 sz_3 rfl) rfl<|Lq (o2 u_3 rfl rfl) rfl<|qm rfl ?_
  refine Lb rfl (fun g24 => ?_) (fun g24 => ?_)
  have h24 := dT g24
  refine Lh rfl ‹_› (om rfl)<|Lh rfl ‹_› (o2 u_3 rfl rfl)<|Lq (oT rfl ‹_› rfl) rfl<|qa rfl<|Ld ?_
  refine EvtL.ret (Er rfl ?_)
  refine boolRes ?_
  rotate_left
  have h24 := dF g24
  iterate 2 refine Lk rfl ‹_› ?_
  refine Lq (oF rfl ‹_› rfl) rfl<|qa rfl<|Ld ?_
  refine EvtL.ret (Er rfl ?_)
  refine boolRes ?_
  rotate_left
  have h23 := dF g23
  refine EvtL.reg<|Lq (o2 u_37 rfl rfl) rfl<|qa rfl<|Ld ?_
  refine Ec rfl (fun g25 => ?_) (fun g25 => ?_)
  have h25 := dT g25
  refine Es<|Lq (of f_119_1 rfl) rfl<|Lo (l1 ag_3 sz_3 rfl) rfl<|Lq (o2 u_3 rfl rfl) rfl<|qm rfl ?_
  refine Lb rfl (fun g26 => ?_) (fun g26 => ?_)
  have h26 := dT g26
  refine Lh rfl ‹_› (om rfl)<|Lh rfl ‹_› (o2 u_3 rfl rfl)<|Lq (oT rfl ‹_› rfl) rfl<|qa rfl<|Ld ?_
  refine EvtL.ret (Er rfl ?_)
  refine boolRes ?_
  rotate_left
  have h26 := dF g26
  iterate 2 refine Lk rfl ‹_› ?_
  refine Lq (oF rfl ‹_› rfl) rfl<|qa rfl<|Ld ?_
  refine EvtL.ret (Er rfl ?_)
  refine boolRes ?_
  rotate_left
  have h25 := dF g25
  refine EvtL.skip<|Es<|qa rfl<|Ld ?_
  refine EvtL.ret (Er rfl ?_)
  refine boolRes ?_
  rotate_left
 ·simp only [madeV,h1,if_true,g2,Bool.and_true]
 ·simp only [madeV,h1,if_true,g2,Bool.and_false]
 ·obtain ⟨hz,hlt⟩ := inV_iff.1 g4
  have hp := recs_idx encN_len (l := cons) (i := n.toNat) (by omega)
  refine Lh rfl ‹_› (OpQ.indexAddrZ rfl u_22 sz_54 rfl rfl (by first | assumption | omega) ‹_›)<|Lh rfl ‹_› (OpQ.fieldAddrI rfl f_54_1 rfl (Nat.le_of_ble_eq_true rfl))<|Lh rfl ‹_› (OpQ.loadI1 rfl rfl ag_3 sz_3)<|Lh rfl ‹_› (o2 u_3 rfl rfl)<|Lq (oT rfl ‹_› rfl) rfl<|qa rfl<|Ld ?_
  refine EvtL.ret (Er rfl ?_)
  refine boolRes ?_
  simp only [madeV,h3,g4,arity,getD_at (l := cons) (i := n.toNat) (d := ([],0)) (by omega)]; rfl
 ·simp only [madeV,h3,g4]; rfl
 ·obtain ⟨hz,hlt⟩ := inV_iff.1 g6
  have hp := recs_idx encN_len (l := funs) (i := n.toNat) (by omega)
  refine Lh rfl ‹_› (OpQ.indexAddrZ rfl u_22 sz_54 rfl rfl (by first | assumption | omega) ‹_›)<|Lh rfl ‹_› (OpQ.fieldAddrI rfl f_54_1 rfl (Nat.le_of_ble_eq_true rfl))<|Lh rfl ‹_› (OpQ.loadI1 rfl rfl ag_3 sz_3)<|Lh rfl ‹_› (o2 u_3 rfl rfl)<|Lq (oT rfl ‹_› rfl) rfl<|qa rfl<|Ld ?_
  refine EvtL.ret (Er rfl ?_)
  refine boolRes ?_
  simp only [madeV,h5,g6,arity,getD_at (l := funs) (i := n.toNat) (d := ([],0)) (by omega)]; rfl
 ·simp only [madeV,h5,g6]; rfl
 ·obtain ⟨hz,hlt⟩ := inV_iff.1 g8
  have hp := recs_idx encN_len (l := funs) (i := n.toNat) (by omega)
  refine Lh rfl ‹_› (OpQ.indexAddrZ rfl u_22 sz_54 rfl rfl (by first | assumption | omega) ‹_›)<|Lh rfl ‹_› (OpQ.fieldAddrI rfl f_54_1 rfl (Nat.le_of_ble_eq_true rfl))<|Lh rfl ‹_› (OpQ.loadI1 rfl rfl ag_3 sz_3)<|Lh rfl ‹_› (o2 u_3 rfl rfl)<|Lq (oT rfl ‹_› rfl) rfl<|qa rfl<|Ld ?_
  refine EvtL.ret (Er rfl ?_)
  refine boolRes ?_
  simp only [madeV,h7,g8,arity,getD_at (l := funs) (i := n.toNat) (d := ([],0)) (by omega)]; rfl
 ·simp only [madeV,h7,g8]; rfl
 all_goals first | exact mv_pairT (by omega) ‹_› | exact mv_pairF (by omega) ‹_› | exact mv_none (by omega)
abbrev MakT := { p : List NameT × List NameT × Int × Int × List Int // p.1.length ≤ 4000 ∧ p.2.1.length ≤ 4000 }
noncomputable def K12 := addC K11 81 (fun p : MakT => [.agg [recs encN 2 p.1.1,recs encN 2 p.1.2.1],encM p.1.2.2.1 p.1.2.2.2.1 p.1.2.2.2.2]) (fun p => .bool (madeV p.1.1 p.1.2.1 p.1.2.2.1 p.1.2.2.2.1 p.1.2.2.2.2.length))
theorem hit_81 {cons funs : List NameT} {op n : Int} {args : List Int} (h1 : cons.length ≤ 4000) (h2 : funs.length ≤ 4000) : K12 81 [.agg [recs encN 2 cons,recs encN 2 funs],encM op n args] = some (.bool (madeV cons funs op n args.length)) :=
 addC_hit (f := 81) (enc := fun p : MakT => [.agg [recs encN 2 p.1.1,recs encN 2 p.1.2.1],encM p.1.2.2.1 p.1.2.2.2.1 p.1.2.2.2.2]) (res := fun p => .bool (madeV p.1.1 p.1.2.1 p.1.2.2.1 p.1.2.2.2.1 p.1.2.2.2.2.length)) (by
  rintro ⟨⟨a,b,c,d,e⟩,_⟩ ⟨⟨a',b',c',d',e'⟩,_⟩ h
  simp only [List.cons.injEq,and_true,AV.agg.injEq,encM,AV.int.injEq,true_and] at h
  obtain ⟨⟨h1,h2⟩,rfl,rfl,h5⟩ := h
  obtain rfl := recs_inj encN_inj encN_len h1
  obtain rfl := recs_inj encN_inj encN_len h2
  obtain rfl := recs_inj encZ_inj encZ_len h5
  rfl) ⟨(cons,funs,op,n,args),h1,h2⟩
theorem all12 (h : KnownF Tryz.prog 10 [] (.bool true)) : KnownAll Tryz.prog K12 := addC_all progOk (all11 h) (fun p : MakT => named_to p.1.1 p.1.2.1 p.1.2.2.1 p.1.2.2.2.1 p.1.2.2.2.2 p.2.1 p.2.2) (fun _ => rfl) (fun _ => rfl)
theorem regs1_to (r : Int) (l : List AltT) : CallTo (EK K12) 341 [.agg [.int .i64 r,recs encA 2 l]] S0 (recs encZ 1 [r]) := by
 refine CallTo.s0 (fn := Tryz.f341) rfl rfl (by kernel_rfl) rfl rfl rfl rfl<|Es<|Lo (OpL.boxS 1 rfl rfl rfl rfl) rfl<|qa rfl<|Ld<|Es<|Lq (of f_114_0 rfl) rfl<|Lo (l1 ag_3 sz_3 rfl) rfl ?_
 refine Lo (OpL.buildSliceS 2 rfl u_26 sz_3 z_3 rfl rfl rfl rfl) rfl<|qa rfl<|Ld ?_
 refine EvtL.ret (Er rfl ?_)
 rfl
noncomputable def K12a := addC K12 341 (fun p : Int × List AltT => [.agg [.int .i64 p.1,recs encA 2 p.2]]) (fun p => recs encZ 1 [p.1])
theorem hit_341 {r : Int} {l : List AltT} : K12a 341 [.agg [.int .i64 r,recs encA 2 l]] = some (recs encZ 1 [r]) :=
 addC_hit (f := 341) (enc := fun p : Int × List AltT => [.agg [.int .i64 p.1,recs encA 2 p.2]]) (res := fun p => recs encZ 1 [p.1]) (by
  rintro ⟨a,b⟩ ⟨c,d⟩ h
  simp only [List.cons.injEq,and_true,AV.agg.injEq,AV.int.injEq,true_and] at h
  obtain ⟨rfl,_⟩ := h
  rfl) (r,l)
theorem regs6_to (r : Int) : CallTo (EK K12a) 344 [.agg [.int .i64 r]] S0 (recs encZ 1 [r]) := by
 refine CallTo.s0 (fn := Tryz.f344) rfl rfl (by kernel_rfl) rfl rfl rfl rfl<|Es<|Lo (OpL.boxS 1 rfl rfl rfl rfl) rfl<|qa rfl<|Ld<|Es<|Lq (of f_121_0 rfl) rfl<|Lo (l1 ag_3 sz_3 rfl) rfl ?_
 refine Lo (OpL.buildSliceS 2 rfl u_26 sz_3 z_3 rfl rfl rfl rfl) rfl<|qa rfl<|Ld ?_
 refine EvtL.ret (Er rfl ?_)
 rfl
noncomputable def K13 := addC K12a 344 (fun r : Int => [.agg [.int .i64 r]]) (fun r => recs encZ 1 [r])
theorem hit_344 {r : Int} : K13 344 [.agg [.int .i64 r]] = some (recs encZ 1 [r]) :=
 addC_hit (f := 344) (enc := fun r : Int => [.agg [.int .i64 r]]) (res := fun r => recs encZ 1 [r]) (by
  intro a b h
  simp only [List.cons.injEq,and_true,AV.agg.injEq,AV.int.injEq,true_and] at h
  rw [h]) r
theorem all13 (h : KnownF Tryz.prog 10 [] (.bool true)) : KnownAll Tryz.prog K13 :=
 addC_all progOk (addC_all progOk (all12 h) (fun p : Int × List AltT => regs1_to p.1 p.2) (fun _ => rfl) (fun _ => rfl)) (fun r => regs6_to r) (fun _ => rfl) (fun _ => rfl)
end Go.Proofs.YtpihdbhocgcbpaaGreatDoor

/- Instructions,as the code has them. -/
open Go Am
namespace Go.Proofs.YtpihdbhocgcbpaaGreatDoor
theorem all_range {α : Type} (l : List α) (d : α) (f : α → Bool) : l.all f = (List.range l.length).all fun i => f (l.getD i d) := by
 rw [Bool.eq_iff_iff,List.all_eq_true,List.all_eq_true]
 constructor
 ·intro h i hi
  rw [getD_at (List.mem_range.1 hi)]
  exact h _ (List.getElem_mem _)
 ·intro h x hx
  obtain ⟨i,hi,rfl⟩ := List.mem_iff_getElem.1 hx
  have := h i (List.mem_range.2 hi)
  rwa [getD_at hi] at this
theorem bad_to (r : Int) (s : St) : CallTo (EK K13) 78 [.int .i64 r] s (.bool (!inV r 0 59)) := by
 refine CallTo.flat (fn := Tryz.f78) rfl (by kernel_rfl) rfl rfl rfl rfl (fun _ _ => rfl) (fun _ => rfl)<|Es<|qa rfl<|Ld<|Es<|qm rfl ?_
 refine Lo (OpL.callFn rfl rfl (by kernel_rfl) rfl (CallTo.memo (hit_37))) rfl<|Lq (on rfl) rfl<|qa rfl<|Ld ?_
 exact EvtL.ret ⟨.inl rfl,rfl,rfl,_,res_tmp rfl rfl,rfl⟩
def tgt (c : CodeT) (k : Nat) (n : Int) : Bool := inV n ((k + 1 : Nat) : Int) ((c.ins.length - 1 : Nat) : Int)
theorem target_to {c : CodeT} {k : Nat} (hk : k < c.ins.length) (hn : c.ins.length ≤ 4000) {s : St} {b0 b1 : Nat} (h0 : s.heap.get b0 = some (.cells (encC c) 28 false)) (h1 : s.heap.get b1 = some (.cells [.int .i64 (k : Nat)] 3 false)) (n : Int) :
  CallTo (EK K13) 79 [.int .i64 n,.ptr b1 0,.ptr b0 0] s (.bool (tgt c k n)) := by
 refine CallTo.flat (fn := Tryz.f79) rfl (by kernel_rfl) rfl rfl rfl rfl (fun _ _ => rfl) (fun _ => rfl) ?_
 have h0' : s.enter.heap.get b0 = some (.cells (encC c) 28 false) := h0
 have h1' : s.enter.heap.get b1 = some (.cells [.int .i64 (k : Nat)] 3 false) := h1
 refine Es<|qa rfl<|Ld<|Es<|qm rfl<|Lo (OpL.load rfl rfl (loadOne_at ag_3 sz_3 ‹_› rfl)) rfl ?_
 refine Lq (OpQ.addN (b := 1) rfl u_3 rfl rfl (by first | assumption | omega | (simp only [LL]; omega))) rfl ?_
 refine Lq (of f_28_1 rfl) rfl<|Lo (OpL.load rfl rfl (loadOne_at ag_25 sz_25 ‹_› rfl)) rfl<|Lq (ol u_25 rfl) rfl<|Lq (OpQ.subN (b := 1) rfl u_3 rfl rfl (by omega)) rfl ?_
 refine Lo (OpL.callFn rfl rfl (by kernel_rfl) rfl (CallTo.memo (hit_37))) rfl<|qa rfl<|Ld ?_
 exact EvtL.ret ⟨.inl rfl,rfl,rfl,_,res_tmp rfl rfl,rfl⟩
theorem untarget_to {c : CodeT} {k : Nat} (hk : k < c.ins.length) (hn : c.ins.length ≤ 4000) {s : St} {b0 b1 b2 : Nat} (h0 : s.heap.get b0 = some (.cells (encC c) 28 false)) (h1 : s.heap.get b1 = some (.cells [.int .i64 (k : Nat)] 3 false))
  (h2 : s.heap.get b2 = some (.cells [.func (.func 79) [] [.ptr b1 0,.ptr b0 0]] 146 false)) (n : Int) :
  CallTo (EK K13) 80 [.int .i64 n,.ptr b2 0] s (.bool (!tgt c k n)) := by
 refine CallTo.flat (fn := Tryz.f80) rfl (by kernel_rfl) rfl rfl rfl rfl (fun _ _ => rfl) (fun _ => rfl) ?_
 have h2' : s.enter.heap.get b2 = some (.cells [.func (.func 79) [] [.ptr b1 0,.ptr b0 0]] 146 false) := h2
 have ht := target_to hk hn (s := s.enter) h0 h1 n
 refine Es<|qa rfl<|Ld<|Es<|Lo (OpL.load rfl rfl (loadOne_at ag_146 sz_146 ‹_› rfl)) rfl<|qm rfl<|Lo (OpL.callVal rfl rfl rfl (by kernel_rfl) rfl ht) rfl<|Lq (on rfl) rfl ?_
 refine qa rfl<|Ld ?_
 exact EvtL.ret ⟨.inl rfl,rfl,rfl,_,res_tmp rfl rfl,rfl⟩
theorem regsV_any (l : List Int) : (l.any fun r => !inV r 0 59) = !regsV l := by
 unfold regsV
 rw [← List.not_all_eq_any_not]
 congr 1
 exact all_range l 0 (fun r => inV r 0 59)
theorem run_70 {l : List Int} {s : St} (hn : l.length ≤ 4000) : CallTo (EK K13) 70 [recs encZ 1 l,.func (.func 78) [] []] s (.bool (!regsV l)) := by
 rw [← regsV_any]
 exact contains_to rfl rfl (by kernel_rfl) (fun s' _ _ r => bad_to r s') l hn
def insS (c : CodeT) (k : Nat) : ShT → Bool
 | .looks r l => inV r 0 59 && altsV c.cons.length c.ins.length k l
 | .goes l => targetsV c.ins.length k l
 | .fails => true
 | .frees => true
 | .makes o n l => regsV l && madeV c.cons c.funs o n l.length
 | .enters r => inV r 0 59
 | .no => false
theorem tg_eq (x : InsT) : (!tgV x) = decide ((x.to.length : Int) = 0) := by unfold tgV; rw [len_pos,Bool.not_not]
theorem cs_eq (x : InsT) : (!csV x) = decide ((x.alts.length : Int) = 0) := by unfold csV; rw [len_pos,Bool.not_not]
theorem rg_eq (x : InsT) : (!rgV x) = decide (x.a = 0) := by unfold rgV; rw [Bool.not_not]
theorem nd_eq (x : InsT) : (!ndV x) = nodeV x := by unfold ndV; rw [Bool.not_not]
theorem insV_shape (c : CodeT) (k : Nat) (x : InsT) : insV c k x = insS c k (shapeV x) := by
 unfold shapeV
 unfold sh1 sh2 sh3 sh4 sh5 sh6
 simp only [tg_eq,cs_eq,rg_eq,nd_eq]
 by_cases h1 : x.op = 1
 ·rw [insV_1 h1]; simp only [h1]
  cases nodeV x <;> cases decide ((x.to.length : Int) = 0) <;> rfl
 by_cases h2 : x.op = 2
 ·rw [insV_2 h2]; simp only [h2]
  cases nodeV x <;> cases decide ((x.alts.length : Int) = 0) <;> cases decide (x.a = 0) <;> rfl
 by_cases h3 : x.op = 3
 ·rw [insV_3 (.inl h3)]; simp only [h3]
  cases nodeV x <;> cases decide ((x.alts.length : Int) = 0) <;> cases decide (x.a = 0) <;> cases decide ((x.to.length : Int) = 0) <;> rfl
 by_cases h4 : x.op = 4
 ·rw [insV_3 (.inr h4)]; simp only [h4]
  cases nodeV x <;> cases decide ((x.alts.length : Int) = 0) <;> cases decide (x.a = 0) <;> cases decide ((x.to.length : Int) = 0) <;> rfl
 by_cases h5 : x.op = 5
 ·rw [insV_5 h5]; simp only [h5]
  cases decide ((x.alts.length : Int) = 0) <;> cases decide (x.a = 0) <;> cases decide ((x.to.length : Int) = 0) <;> rfl
 by_cases h6 : x.op = 6
 ·rw [insV_6 h6]; simp only [h6]
  cases nodeV x <;> cases decide ((x.alts.length : Int) = 0) <;> cases decide ((x.to.length : Int) = 0) <;> first | rfl | (cases inV x.a 0 59 <;> rfl)
 rw [insV_0 (by omega)]; simp only [h1,h2,h3,h4,h5,h6,decide_false,Bool.false_and]
 rfl
theorem regsV_one (r : Int) : regsV [r] = inV r 0 59 := by
 show ((List.range 1).all _) = _
 simp [List.range_succ]
theorem runb_70 {s : St} : CallTo (EK K13) 70 [.nilslice,.func (.func 78) [] []] s (.bool false) := containsN_to rfl rfl
theorem shape_looks {x : InsT} {r : Int} {l : List AltT} (h : shapeV x = .looks r l) : l = x.alts := by
 unfold shapeV at h
 repeat (split at h; first | (cases h; rfl) | cases h | skip)
 all_goals cases h
theorem shape_goes {x : InsT} {l : List Int} (h : shapeV x = .goes l) : l = x.to := by
 unfold shapeV at h
 repeat (split at h; first | (cases h; rfl) | cases h | skip)
 all_goals cases h
theorem shape_makes {x : InsT} {o n : Int} {l : List Int} (h : shapeV x = .makes o n l) : l = x.args := by
 unfold shapeV at h
 repeat (split at h; first | (cases h; rfl) | cases h | skip)
 all_goals cases h
theorem instr_looks (c : CodeT) (k : Nat) (hf : Fits c) (hk : k < c.ins.length) (r : Int) (l : List AltT) (hs : shapeV c.ins[k] = .looks r l) : CallTo (EK K13) 38 [.agg (encC c),.int .i64 (k : Nat)] S0 (.bool (insV c k c.ins[k])) := by
 refine CallTo.s0 (fn := Tryz.f38) rfl rfl (by kernel_rfl) rfl rfl rfl rfl ?_
 have hp0 := recs_idx encI_len hk
 have ha := hf.args _ (List.getElem_mem hk)
 have hk1 := hf.cons
 have hk2 := hf.funs
 have hk3 := hf.ins
 have hto := hf.to _ (List.getElem_mem hk)
 have hal := hf.alts _ (List.getElem_mem hk)
 generalize hx : c.ins[k] = x at *
 refine Es<|Lo (OpL.boxS 1 rfl rfl rfl rfl) rfl<|Lo (OpL.boxS 2 rfl rfl rfl rfl) rfl<|qa rfl<|Ld<|Es<|Lq (of f_28_1 rfl) rfl<|Lo (l1 ag_25 sz_25 rfl) rfl ?_
 refine Lo (l1 ag_3 sz_3 rfl) rfl<|Lq (OpQ.indexAddrV rfl u_25 sz_58 rfl rfl ‹_›) rfl<|Lq (OpQ.loadI rfl rfl ag_58 sz_58 (Nat.le_of_ble_eq_true rfl)) rfl ?_
 refine Lo (OpL.callFn rfl rfl (by kernel_rfl) rfl (CallTo.memo (hit_51))) rfl<|qa rfl<|Ld<|EvtL.seq ?_
 rw [hs]
 obtain rfl := shape_looks hs
 have hes := insV_shape c k x
 rw [hs] at hes
 generalize x.alts = l at *
 focus
  refine Es<|qm rfl<|Lq (OpQ.eqIf (neg := false) rfl if_111 rfl rfl rfl) rfl<|qm rfl<|Lh rfl rfl (om rfl) ?_
  refine Lg rfl rfl (OpL.invoke rfl rfl rfl rfl m_114_registers (by kernel_rfl) rfl (CallTo.memo (hit_341))) ?_
  refine Lg rfl rfl (OpL.callFn rfl rfl (by kernel_rfl) rfl (run_70 (by first | assumption | omega | (simp only [LL]; omega)))) ?_
  refine Lq (oF rfl rfl rfl) rfl<|Ld ?_
  refine Ec rfl (fun g1 => ?_) (fun g1 => ?_)
  have h1 := notT g1
  refine Es<|qa rfl<|Ld ?_
  refine EvtL.ret (Er rfl ?_)
  refine boolRes ?_
  rotate_left
  have h1 := notF g1
  refine EvtL.skip<|Es<|Lq (OpQ.makeFunc rfl rfl rfl) rfl<|Lo (OpL.allocS 3 rfl z_146 rfl) rfl<|RegL.opN (OpL.storeS rfl sz_146 rfl rfl rfl rfl rfl rfl) rfl rfl<|Ld<|EvtL.seq<|Es ?_
  refine qm rfl<|Ld<|EvtL.block<|Es<|Lq (OpQ.typeAs rfl if_114 z_114 rfl rfl) rfl ?_
  iterate 2 refine Lq (oe rfl) rfl ?_
  refine Ld<|EvtL.condT rfl rfl<|Es<|Lo (OpL.allocS 4 rfl z_114 rfl) rfl<|RegL.opN (OpL.storeS rfl sz_114 rfl rfl rfl rfl rfl rfl) rfl rfl<|Ld<|Es<|Lq (of f_114_1 rfl) rfl ?_
  refine Lo (l1 ag_56 sz_56 rfl) rfl<|Lq (ol u_56 rfl) rfl<|qm rfl<|Ld<|EvtL.block ?_
  rotate_left
 ·rw [hes,insS,← regsV_one,h1]; rfl
 refine EvtL.loopI (fun y : Nat × St => ([(33,.int .i64 (y.1 : Nat)),(32,.int .i64 (l.length : Nat)),(31,recs encA 2 l),(7,.ptr 3 0),(6,.ptr 2 0),(4,.bool false),(2,.ptr 0 0)],y.2)) (fun y => l.length - y.1)
  (fun y => y.1 ≤ l.length ∧ (List.range y.1).all (altAt c.cons.length c.ins.length k l) = true ∧ (y.2.heap.get 0 = some (.cells (encC c) 28 false) ∧ y.2.heap.get 1 = some (.cells [.int .i64 (k : Nat)] 3 false) ∧ y.2.heap.get 2 = some (.cells [.func (.func 79) [] [.ptr 1 0,.ptr 0 0]] 146 false) ∧ y.2.heap.get 3 = some (.cells [.int .i64 r,recs encA 2 l] 114 false)) ∧ 4 ≤ y.2.next ∧ y.2.bound = 0 ∧ y.2.log = [])
  (0,mkS 4 0 [] [(3,some (.cells [.int .i64 r,recs encA 2 l] 114 false)),(3,some (.cells [.int .i64 0,.nilslice] 114 false)),(2,some (.cells [.func (.func 79) [] [.ptr 1 0,.ptr 0 0]] 146 false)),(2,some (.cells [.nilfunc] 146 false)),(1,some (.cells [.int .i64 (k : Nat)] 3 false)),(0,some (.cells (encC c) 28 false))]) ⟨Nat.zero_le _,rfl,⟨get_mkS 0,get_mkS 1,get_mkS 2,get_mkS 3⟩,Nat.le_refl _,rfl,rfl⟩ rfl (by (refine Am.sub_of ?_; repeat (first | exact trivial | refine ⟨rfl,?_⟩))) ?_
 rintro ⟨i,st⟩ ⟨hi,hall,⟨hg0,hg1,hg2,hg3⟩,hn,hb,hlg⟩
 dsimp only at hi hall hg0 hg1 hg2 hg3 hn hb hlg ⊢
 by_cases h : i < l.length
 ·have hp := recs_idx encA_len h
  have hp1 := recs_idx encA_len (l := l) (i := i - 1) (by omega)
  have hat : altAt c.cons.length c.ins.length k l i = ((inV l[i].1 0 (c.cons.length - 1) && !(decide (0 < (i : Int)) && decide (l[i].1 ≤ l[i - 1].1))) && tgt c k l[i].2) := by
   unfold altAt
   rw [getD_at h,getD_at (by omega)]; rfl
  have hno : altAt c.cons.length c.ins.length k l i = false → false = altsV c.cons.length c.ins.length k l := fun hf => (ra_no h hf).symm
  obtain ⟨hc1,hc2,hc3,hc4,hc5,hc6,hc7⟩ := copied (st := st) (z := [.int .i64 0,.int .i64 0]) (cs := encA l[i]) (T := 60)
  have hlog := (hc6 (by omega)).trans hlg
  have hbd := hc5.trans hb
  have hg0' := (hc4 0 (by omega)).trans hg0
  have hg1' := (hc4 1 (by omega)).trans hg1
  have hg2' := (hc4 2 (by omega)).trans hg2
  have hg3' := (hc4 3 (by omega)).trans hg3
  have hno2 : altAt c.cons.length c.ins.length k l i = false → false = insV c k x := fun hf => by rw [hes,insS,← hno hf,Bool.and_false]
  focus
   refine Es<|Lq (o2 u_3 rfl rfl) rfl<|Ld<|EvtL.seq ?_
   refine Ec rfl (fun g2 => ?_) (fun g2 => ?_)
   have h2 := dT g2
   refine EvtL.skip<|EvtL.seq<|EvtL.block<|Es<|qm rfl<|Lq (OpQ.indexAddrV rfl u_56 sz_60 rfl rfl ‹_›) rfl<|Lq (OpQ.loadI rfl rfl ag_60 sz_60 (Nat.le_of_ble_eq_true rfl)) rfl<|Lo (OpL.alloc rfl z_60) rfl ?_
   refine qa rfl<|RegL.opN (OpL.store rfl sz_60 rfl rfl (storeN_at ‹_› rfl rfl rfl)) rfl rfl<|Ld<|EvtL.seqDrawN (by kernel_rfl)<|Nq (of f_60_0 rfl) rfl<|RegN.load rfl rfl (loadOne_at ag_3 sz_3 ‹_› rfl) rfl (.inl rfl) rfl rfl<|Nq (of f_28_0 rfl) rfl<|Nq (of f_24_0 rfl) rfl ?_
   refine RegN.load rfl rfl (loadOne_at ag_22 sz_22 ‹_› rfl) rfl (.inl rfl) rfl rfl<|Nq (ol u_22 rfl) rfl<|Nq (OpQ.sub rfl u_3 rfl rfl (by omega)) rfl ?_
   refine RegN.aG (OpA.callFn rfl rfl (by kernel_rfl) rfl (hit_37)) (.inl rfl) rfl rfl<|Nq (on rfl) rfl<|Nq (om rfl) rfl ?_
   refine RegN.both rfl rfl rfl rfl (fun g3 => ?_) (fun g3 => ?_)
   have h3 := notT g3
   iterate 3 refine Nk rfl ‹_› ?_
   iterate 10 refine Nt rfl ?_
   refine Nk rfl ‹_›<|Nq (oT rfl ‹_› rfl) rfl<|Nq (om rfl) rfl ?_
   iterate 5 refine Nk rfl rfl ?_
   refine Nq (oT rfl rfl rfl) rfl<|RegN.done<|EvtL.condT rfl rfl<|Es<|qa rfl<|Ld ?_
   refine EvtL.ret ⟨.inl rfl,rfl,‹_›,‹_›,_,_,_,(res_tmp rfl rfl),rfl,rfl,?_⟩
   refine boolRes ?_
   rotate_left
   have h3 := notF g3
   refine Ng rfl ‹_› (om rfl)<|Ng rfl ‹_› (o2 u_3 rfl rfl)<|Ng rfl ‹_› (om rfl) ?_
   refine RegN.both rfl rfl rfl rfl (fun g4 => ?_) (fun g4 => ?_)
   have h4 := dT g4
   refine Ng rfl ‹_› (of f_60_0 rfl)<|RegN.load rfl rfl (loadOne_at ag_3 sz_3 ‹_› rfl) rfl (guardOn_go rfl rfl rfl rfl ‹_›) rfl rfl<|Ng rfl ‹_› (of f_114_1 rfl)<|RegN.load rfl rfl (loadOne_at ag_56 sz_56 ‹_› rfl) rfl (guardOn_go rfl rfl rfl rfl ‹_›) rfl rfl<|Ng rfl ‹_› (om rfl)<|Ng rfl ‹_› (OpQ.subN (b := 1) rfl u_3 rfl rfl (by omega))<|Ng rfl ‹_› (OpQ.indexAddrV rfl u_56 sz_60 rfl rfl ‹_›)<|Ng rfl ‹_› (OpQ.fieldAddrI rfl f_60_0 rfl (Nat.le_of_ble_eq_true rfl)) ?_
   refine Ng rfl ‹_› (OpQ.loadI1 rfl rfl ag_3 sz_3)<|Ng rfl ‹_› (o2 u_3 rfl rfl)<|Ng rfl ‹_› (oT rfl ‹_› rfl)<|Nq (oF rfl ‹_› rfl) rfl<|Nq (om rfl) rfl ?_
   refine RegN.both rfl rfl rfl rfl (fun g5 => ?_) (fun g5 => ?_)
   have h5 := dT g5
   iterate 5 refine Nk rfl ‹_› ?_
   refine Nq (oT rfl ‹_› rfl) rfl<|RegN.done<|EvtL.condT rfl rfl<|Es<|qa rfl<|Ld ?_
   refine EvtL.ret ⟨.inl rfl,rfl,‹_›,‹_›,_,_,_,(res_tmp rfl rfl),rfl,rfl,?_⟩
   refine boolRes ?_
   rotate_left
   have h5 := dF g5
   refine RegN.load rfl rfl (loadOne_at ag_146 sz_146 ‹_› rfl) rfl (guardOn_go rfl rfl rfl rfl ‹_›) rfl rfl<|Ng rfl ‹_› (of f_60_1 rfl)<|RegN.load rfl rfl (loadOne_at ag_3 sz_3 ‹_› rfl) rfl (guardOn_go rfl rfl rfl rfl ‹_›) rfl rfl ?_
   rotate_left
   have h4 := dF g4
   iterate 10 refine Nk rfl ‹_› ?_
   refine Ng rfl ‹_› (oF rfl ‹_› rfl)<|Nq (oF rfl ‹_› rfl) rfl<|Nq (om rfl) rfl<|RegN.load rfl rfl (loadOne_at ag_146 sz_146 ‹_› rfl) rfl (guardOn_go rfl rfl rfl rfl rfl) rfl rfl<|Ng rfl rfl (of f_60_1 rfl)<|RegN.load rfl rfl (loadOne_at ag_3 sz_3 ‹_› rfl) rfl (guardOn_go rfl rfl rfl rfl rfl) rfl rfl ?_
   rotate_left
   have h2 := dF g2
   exact absurd h2 (by omega)
  ·exact hno2 (by rw [hat,h3]; rfl)
  ·exact hno2 (by rw [hat,h3,g4,g5]; rfl)
  ·refine RegN.look (by kernel_rfl) (fun _ _ => rfl) (OpL.callVal rfl rfl rfl (by kernel_rfl) rfl (target_to (s := St.sub _ _) hk hk3 hg0' hg1' l[i].2)) rfl (guardOn_go rfl rfl rfl rfl g5) rfl rfl ?_
   focus
    refine Ng rfl ‹_› (on rfl)<|Nq (oF rfl ‹_› rfl) rfl<|RegN.done ?_
    refine Ec rfl (fun g6 => ?_) (fun g6 => ?_)
    have h6 := notT g6
    refine Es<|qa rfl<|Ld ?_
    refine EvtL.ret ⟨.inl rfl,rfl,‹_›,‹_›,_,_,_,(res_tmp rfl rfl),rfl,rfl,?_⟩
    refine boolRes ?_
    rotate_left
    have h6 := notF g6
    refine EvtL.skip<|EvtL.reg ?_
    refine Lq (OpQ.addN (b := 1) rfl u_3 rfl rfl (by first | assumption | omega | (simp only [LL]; omega))) rfl ?_
    refine qm rfl<|Ld ?_
    rotate_left
   ·exact hno2 (by rw [hat,h6,Bool.and_false])
   ·exact ⟨(i + 1,_),⟨h,ra_succ hall (by rw [hat,h3,g4,g5,h6]; rfl),⟨hg0',hg1',hg2',hg3'⟩,Nat.le_succ_of_le hn,hbd,hlog⟩,by show l.length - (i + 1) < l.length - i; omega,rfl,rfl,by (refine Am.sub_of ?_; repeat (first | exact trivial | refine ⟨rfl,?_⟩))⟩
  ·refine RegN.look (by kernel_rfl) (fun _ _ => rfl) (OpL.callVal rfl rfl rfl (by kernel_rfl) rfl (target_to (s := St.sub _ _) hk hk3 hg0' hg1' l[i].2)) rfl (guardOn_go rfl rfl rfl rfl rfl) rfl rfl ?_
   focus
    refine Ng rfl rfl (on rfl)<|Nq (oF rfl rfl rfl) rfl<|RegN.done ?_
    refine Ec rfl (fun g5 => ?_) (fun g5 => ?_)
    have h5 := notT g5
    refine Es<|qa rfl<|Ld ?_
    refine EvtL.ret ⟨.inl rfl,rfl,‹_›,‹_›,_,_,_,(res_tmp rfl rfl),rfl,rfl,?_⟩
    refine boolRes ?_
    rotate_left
    have h5 := notF g5
    refine EvtL.skip<|EvtL.reg ?_
    refine Lq (OpQ.addN (b := 1) rfl u_3 rfl rfl (by first | assumption | omega | (simp only [LL]; omega))) rfl ?_
    refine qm rfl<|Ld ?_
    rotate_left
   ·exact hno2 (by rw [hat,h5,Bool.and_false])
   ·exact ⟨(i + 1,_),⟨h,ra_succ hall (by rw [hat,h3,g4,h5]; rfl),⟨hg0',hg1',hg2',hg3'⟩,Nat.le_succ_of_le hn,hbd,hlog⟩,by show l.length - (i + 1) < l.length - i; omega,rfl,rfl,by (refine Am.sub_of ?_; repeat (first | exact trivial | refine ⟨rfl,?_⟩))⟩
 ·focus
   refine Es<|Lq (o2 u_3 rfl rfl) rfl<|Ld<|EvtL.seq ?_
   refine Ec rfl (fun g2 => ?_) (fun g2 => ?_)
   have h2 := dT g2
   exact absurd h2 (by omega)
   have h2 := dF g2
   refine EvtL.exit<|cond_t rfl<|Es<|qa rfl<|Ld ?_
   refine EvtL.ret ⟨.inl rfl,rfl,‹_›,‹_›,_,_,_,(res_tmp rfl rfl),rfl,rfl,?_⟩
   refine boolRes ?_
   rotate_left
  obtain rfl : i = l.length := by omega
  rw [hes,insS,← regsV_one,h1]
  exact hall.symm
theorem instr_goes (c : CodeT) (k : Nat) (hf : Fits c) (hk : k < c.ins.length) (l : List Int) (hs : shapeV c.ins[k] = .goes l) : CallTo (EK K13) 38 [.agg (encC c),.int .i64 (k : Nat)] S0 (.bool (insV c k c.ins[k])) := by
 refine CallTo.s0 (fn := Tryz.f38) rfl rfl (by kernel_rfl) rfl rfl rfl rfl ?_
 have hp0 := recs_idx encI_len hk
 have ha := hf.args _ (List.getElem_mem hk)
 have hk1 := hf.cons
 have hk2 := hf.funs
 have hk3 := hf.ins
 have hto := hf.to _ (List.getElem_mem hk)
 have hal := hf.alts _ (List.getElem_mem hk)
 generalize hx : c.ins[k] = x at *
 refine Es<|Lo (OpL.boxS 1 rfl rfl rfl rfl) rfl<|Lo (OpL.boxS 2 rfl rfl rfl rfl) rfl<|qa rfl<|Ld<|Es<|Lq (of f_28_1 rfl) rfl<|Lo (l1 ag_25 sz_25 rfl) rfl ?_
 refine Lo (l1 ag_3 sz_3 rfl) rfl<|Lq (OpQ.indexAddrV rfl u_25 sz_58 rfl rfl ‹_›) rfl<|Lq (OpQ.loadI rfl rfl ag_58 sz_58 (Nat.le_of_ble_eq_true rfl)) rfl ?_
 refine Lo (OpL.callFn rfl rfl (by kernel_rfl) rfl (CallTo.memo (hit_51))) rfl<|qa rfl<|Ld<|EvtL.seq ?_
 rw [hs]
 obtain rfl := shape_goes hs
 have hes := insV_shape c k x
 rw [hs] at hes
 generalize x.to = l at *
 focus
  refine Es<|qm rfl<|Lq (OpQ.eqIf (neg := false) rfl if_111 rfl rfl rfl) rfl<|qm rfl<|Lh rfl rfl (om rfl)<|RegL.un rfl rfl rfl rfl rfl<|RegL.inlInv (fn := Tryz.f342) (by kernel_rfl) m_117_registers (by kernel_rfl) rfl rfl rfl rfl rfl rfl rfl rfl rfl rfl rfl rfl rfl<|Es ?_
  refine Lo (OpL.boxS 3 rfl rfl rfl rfl) rfl<|qa rfl<|Ld<|Es<|qa rfl<|Ld ?_
  refine EvtL.ret (InlQ.same rfl (res_tmp rfl rfl) rfl rfl rfl rfl ?_)
  refine Lg rfl rfl (OpL.callFn rfl rfl (by kernel_rfl) rfl (runb_70))<|Lq (oF rfl rfl rfl) rfl<|Ld<|EvtL.condF rfl rfl<|EvtL.skip<|Es<|Lq (OpQ.makeFunc rfl rfl rfl) rfl<|Lo (OpL.allocS 3 rfl z_146 rfl) rfl ?_
  refine RegL.opN (OpL.storeS rfl sz_146 rfl rfl rfl rfl rfl rfl) rfl rfl<|Ld<|EvtL.seq<|Es<|qm rfl<|Ld<|EvtL.block<|Es ?_
  refine Lq (OpQ.typeAs rfl if_114 z_114 rfl rfl) rfl ?_
  iterate 2 refine Lq (oe rfl) rfl ?_
  refine Ld<|EvtL.condF rfl rfl<|Es<|Lq (OpQ.typeAs rfl if_117 z_117 rfl rfl) rfl ?_
  iterate 2 refine Lq (oe rfl) rfl ?_
  refine Ld<|EvtL.condT rfl rfl<|Es<|Lo (OpL.allocS 4 rfl z_117 rfl) rfl<|RegL.opN (OpL.storeS rfl sz_117 rfl rfl rfl rfl rfl rfl) rfl rfl<|Ld<|Es<|Lq (of f_117_0 rfl) rfl ?_
  refine Lo (l1 ag_26 sz_26 rfl) rfl<|Lq (ol u_26 rfl) rfl<|Lq (o2 u_3 rfl rfl) rfl<|qm rfl ?_
  refine Lb rfl (fun g1 => ?_) (fun g1 => ?_)
  have h1 := dT g1
  refine Lh rfl ‹_› (of f_117_0 rfl)<|Lg rfl ‹_› (l1 ag_26 sz_26 rfl)<|Lh rfl ‹_› (OpQ.makeFunc rfl rfl rfl) ?_
  rotate_left
  have h1 := dF g1
  iterate 5 refine Lk rfl ‹_› ?_
  refine Lq (oF rfl ‹_› rfl) rfl<|qa rfl<|Ld ?_
  refine EvtL.ret (Er rfl ?_)
  refine boolRes ?_
  rotate_left
 ·refine RegL.un rfl rfl rfl rfl g1 ?_
  refine Lo (OpL.callFn rfl rfl (by kernel_rfl) rfl (contains_to rfl rfl (p := fun r => !tgt c k r) (by kernel_rfl) (fun s' h1 h2 r => untarget_to hk hk3 (by rw [h1]; exact get_mkS 0) (by rw [h1]; exact get_mkS 1) (by rw [h1]; exact get_mkS 2) r) l hto)) rfl ?_
  refine Lh rfl ‹_› (on rfl)<|Lq (oT rfl ‹_› rfl) rfl<|qa rfl<|Ld ?_
  refine EvtL.ret (Er rfl ?_)
  refine boolRes ?_
  rw [hes,insS,targetsV,g1,Bool.and_true,← List.not_all_eq_any_not,Bool.not_not]
  exact all_range l 0 (tgt c k)
 ·rw [hes,insS,targetsV,g1,Bool.and_false]
theorem instr_fails (c : CodeT) (k : Nat) (hf : Fits c) (hk : k < c.ins.length) (hs : shapeV c.ins[k] = .fails) : CallTo (EK K13) 38 [.agg (encC c),.int .i64 (k : Nat)] S0 (.bool (insV c k c.ins[k])) := by
 refine CallTo.s0 (fn := Tryz.f38) rfl rfl (by kernel_rfl) rfl rfl rfl rfl ?_
 have hp0 := recs_idx encI_len hk
 have ha := hf.args _ (List.getElem_mem hk)
 have hk1 := hf.cons
 have hk2 := hf.funs
 have hk3 := hf.ins
 have hto := hf.to _ (List.getElem_mem hk)
 have hal := hf.alts _ (List.getElem_mem hk)
 generalize hx : c.ins[k] = x at *
 refine Es<|Lo (OpL.boxS 1 rfl rfl rfl rfl) rfl<|Lo (OpL.boxS 2 rfl rfl rfl rfl) rfl<|qa rfl<|Ld<|Es<|Lq (of f_28_1 rfl) rfl<|Lo (l1 ag_25 sz_25 rfl) rfl ?_
 refine Lo (l1 ag_3 sz_3 rfl) rfl<|Lq (OpQ.indexAddrV rfl u_25 sz_58 rfl rfl ‹_›) rfl<|Lq (OpQ.loadI rfl rfl ag_58 sz_58 (Nat.le_of_ble_eq_true rfl)) rfl ?_
 refine Lo (OpL.callFn rfl rfl (by kernel_rfl) rfl (CallTo.memo (hit_51))) rfl<|qa rfl<|Ld<|EvtL.seq ?_
 rw [hs]
 have hes := insV_shape c k x
 rw [hs] at hes
 refine Es<|qm rfl<|Lq (OpQ.eqIf (neg := false) rfl if_111 rfl rfl rfl) rfl<|qm rfl<|Lh rfl rfl (om rfl)<|RegL.un rfl rfl rfl rfl rfl<|RegL.inlInv (fn := Tryz.f345) (by kernel_rfl) m_166_registers (by kernel_rfl) rfl rfl rfl rfl rfl rfl rfl rfl rfl rfl rfl rfl rfl<|Es ?_
 refine Lo (OpL.boxS 3 rfl rfl rfl rfl) rfl<|qa rfl<|Ld<|Es<|qa rfl<|Ld ?_
 refine EvtL.ret (InlQ.same rfl (res_tmp rfl rfl) rfl rfl rfl rfl ?_)
 refine Lg rfl rfl (OpL.callFn rfl rfl (by kernel_rfl) rfl (runb_70))<|Lq (oF rfl rfl rfl) rfl<|Ld<|EvtL.condF rfl rfl<|EvtL.skip<|Es<|Lq (OpQ.makeFunc rfl rfl rfl) rfl<|Lo (OpL.allocS 3 rfl z_146 rfl) rfl ?_
 refine RegL.opN (OpL.storeS rfl sz_146 rfl rfl rfl rfl rfl rfl) rfl rfl<|Ld<|EvtL.seq<|Es<|qm rfl<|Ld<|EvtL.block<|Es ?_
 refine Lq (OpQ.typeAs rfl if_114 z_114 rfl rfl) rfl ?_
 iterate 2 refine Lq (oe rfl) rfl ?_
 refine Ld<|EvtL.condF rfl rfl<|Es<|Lq (OpQ.typeAs rfl if_117 z_117 rfl rfl) rfl ?_
 iterate 2 refine Lq (oe rfl) rfl ?_
 refine Ld<|EvtL.condF rfl rfl<|Es<|Lq (OpQ.typeAs rfl if_119 z_119 rfl rfl) rfl ?_
 iterate 2 refine Lq (oe rfl) rfl ?_
 refine Ld<|EvtL.condF rfl rfl<|EvtL.skip<|Es<|qa rfl<|Ld ?_
 refine EvtL.ret (Er rfl ?_)
 refine boolRes ?_
 exact hes.symm
theorem instr_frees (c : CodeT) (k : Nat) (hf : Fits c) (hk : k < c.ins.length) (hs : shapeV c.ins[k] = .frees) : CallTo (EK K13) 38 [.agg (encC c),.int .i64 (k : Nat)] S0 (.bool (insV c k c.ins[k])) := by
 refine CallTo.s0 (fn := Tryz.f38) rfl rfl (by kernel_rfl) rfl rfl rfl rfl ?_
 have hp0 := recs_idx encI_len hk
 have ha := hf.args _ (List.getElem_mem hk)
 have hk1 := hf.cons
 have hk2 := hf.funs
 have hk3 := hf.ins
 have hto := hf.to _ (List.getElem_mem hk)
 have hal := hf.alts _ (List.getElem_mem hk)
 generalize hx : c.ins[k] = x at *
 refine Es<|Lo (OpL.boxS 1 rfl rfl rfl rfl) rfl<|Lo (OpL.boxS 2 rfl rfl rfl rfl) rfl<|qa rfl<|Ld<|Es<|Lq (of f_28_1 rfl) rfl<|Lo (l1 ag_25 sz_25 rfl) rfl ?_
 refine Lo (l1 ag_3 sz_3 rfl) rfl<|Lq (OpQ.indexAddrV rfl u_25 sz_58 rfl rfl ‹_›) rfl<|Lq (OpQ.loadI rfl rfl ag_58 sz_58 (Nat.le_of_ble_eq_true rfl)) rfl ?_
 refine Lo (OpL.callFn rfl rfl (by kernel_rfl) rfl (CallTo.memo (hit_51))) rfl<|qa rfl<|Ld<|EvtL.seq ?_
 rw [hs]
 have hes := insV_shape c k x
 rw [hs] at hes
 refine Es<|qm rfl<|Lq (OpQ.eqIf (neg := false) rfl if_111 rfl rfl rfl) rfl<|qm rfl<|Lh rfl rfl (om rfl)<|RegL.un rfl rfl rfl rfl rfl<|RegL.inlInv (fn := Tryz.f346) (by kernel_rfl) m_167_registers (by kernel_rfl) rfl rfl rfl rfl rfl rfl rfl rfl rfl rfl rfl rfl rfl<|Es ?_
 refine Lo (OpL.boxS 3 rfl rfl rfl rfl) rfl<|qa rfl<|Ld<|Es<|qa rfl<|Ld ?_
 refine EvtL.ret (InlQ.same rfl (res_tmp rfl rfl) rfl rfl rfl rfl ?_)
 refine Lg rfl rfl (OpL.callFn rfl rfl (by kernel_rfl) rfl (runb_70))<|Lq (oF rfl rfl rfl) rfl<|Ld<|EvtL.condF rfl rfl<|EvtL.skip<|Es<|Lq (OpQ.makeFunc rfl rfl rfl) rfl<|Lo (OpL.allocS 3 rfl z_146 rfl) rfl ?_
 refine RegL.opN (OpL.storeS rfl sz_146 rfl rfl rfl rfl rfl rfl) rfl rfl<|Ld<|EvtL.seq<|Es<|qm rfl<|Ld<|EvtL.block<|Es ?_
 refine Lq (OpQ.typeAs rfl if_114 z_114 rfl rfl) rfl ?_
 iterate 2 refine Lq (oe rfl) rfl ?_
 refine Ld<|EvtL.condF rfl rfl<|Es<|Lq (OpQ.typeAs rfl if_117 z_117 rfl rfl) rfl ?_
 iterate 2 refine Lq (oe rfl) rfl ?_
 refine Ld<|EvtL.condF rfl rfl<|Es<|Lq (OpQ.typeAs rfl if_119 z_119 rfl rfl) rfl ?_
 iterate 2 refine Lq (oe rfl) rfl ?_
 refine Ld<|EvtL.condF rfl rfl<|EvtL.skip<|Es<|qa rfl<|Ld ?_
 refine EvtL.ret (Er rfl ?_)
 refine boolRes ?_
 exact hes.symm
theorem instr_makes (c : CodeT) (k : Nat) (hf : Fits c) (hk : k < c.ins.length) (o n : Int) (l : List Int) (hs : shapeV c.ins[k] = .makes o n l) : CallTo (EK K13) 38 [.agg (encC c),.int .i64 (k : Nat)] S0 (.bool (insV c k c.ins[k])) := by
 refine CallTo.s0 (fn := Tryz.f38) rfl rfl (by kernel_rfl) rfl rfl rfl rfl ?_
 have hp0 := recs_idx encI_len hk
 have ha := hf.args _ (List.getElem_mem hk)
 have hk1 := hf.cons
 have hk2 := hf.funs
 have hk3 := hf.ins
 have hto := hf.to _ (List.getElem_mem hk)
 have hal := hf.alts _ (List.getElem_mem hk)
 generalize hx : c.ins[k] = x at *
 refine Es<|Lo (OpL.boxS 1 rfl rfl rfl rfl) rfl<|Lo (OpL.boxS 2 rfl rfl rfl rfl) rfl<|qa rfl<|Ld<|Es<|Lq (of f_28_1 rfl) rfl<|Lo (l1 ag_25 sz_25 rfl) rfl ?_
 refine Lo (l1 ag_3 sz_3 rfl) rfl<|Lq (OpQ.indexAddrV rfl u_25 sz_58 rfl rfl ‹_›) rfl<|Lq (OpQ.loadI rfl rfl ag_58 sz_58 (Nat.le_of_ble_eq_true rfl)) rfl ?_
 refine Lo (OpL.callFn rfl rfl (by kernel_rfl) rfl (CallTo.memo (hit_51))) rfl<|qa rfl<|Ld<|EvtL.seq ?_
 rw [hs]
 obtain rfl := shape_makes hs
 have hes := insV_shape c k x
 rw [hs] at hes
 generalize x.args = l at *
 focus
  refine Es<|qm rfl<|Lq (OpQ.eqIf (neg := false) rfl if_111 rfl rfl rfl) rfl<|qm rfl<|Lh rfl rfl (om rfl)<|RegL.un rfl rfl rfl rfl rfl<|RegL.inlInv (fn := Tryz.f343) (by kernel_rfl) m_119_registers (by kernel_rfl) rfl rfl rfl rfl rfl rfl rfl rfl rfl rfl rfl rfl rfl<|Es ?_
  refine Lo (OpL.boxS 3 rfl rfl rfl rfl) rfl<|qa rfl<|Ld<|Es<|Lq (of f_119_2 rfl) rfl<|Lo (l1 ag_26 sz_26 rfl) rfl<|qa rfl<|Ld ?_
  refine EvtL.ret (InlQ.same rfl (res_tmp rfl rfl) rfl rfl rfl rfl ?_)
  refine Lg rfl rfl (OpL.callFn rfl rfl (by kernel_rfl) rfl (run_70 (by first | assumption | omega | (simp only [LL]; omega)))) ?_
  refine Lq (oF rfl rfl rfl) rfl<|Ld ?_
  refine Ec rfl (fun g1 => ?_) (fun g1 => ?_)
  have h1 := notT g1
  refine Es<|qa rfl<|Ld ?_
  refine EvtL.ret (Er rfl ?_)
  refine boolRes ?_
  rotate_left
  have h1 := notF g1
  refine EvtL.skip<|Es<|Lq (OpQ.makeFunc rfl rfl rfl) rfl<|Lo (OpL.allocS 3 rfl z_146 rfl) rfl<|RegL.opN (OpL.storeS rfl sz_146 rfl rfl rfl rfl rfl rfl) rfl rfl<|Ld<|EvtL.seq<|Es ?_
  refine qm rfl<|Ld<|EvtL.block<|Es<|Lq (OpQ.typeAs rfl if_114 z_114 rfl rfl) rfl ?_
  iterate 2 refine Lq (oe rfl) rfl ?_
  refine Ld<|EvtL.condF rfl rfl<|Es<|Lq (OpQ.typeAs rfl if_117 z_117 rfl rfl) rfl ?_
  iterate 2 refine Lq (oe rfl) rfl ?_
  refine Ld<|EvtL.condF rfl rfl<|Es<|Lq (OpQ.typeAs rfl if_119 z_119 rfl rfl) rfl ?_
  iterate 2 refine Lq (oe rfl) rfl ?_
  refine Ld<|EvtL.condT rfl rfl<|Es<|Lo (OpL.allocS 4 rfl z_119 rfl) rfl<|RegL.opN (OpL.storeS rfl sz_119 rfl rfl rfl rfl rfl rfl) rfl rfl<|Ld<|Es<|Lq (of f_28_0 rfl) rfl ?_
  refine Lo (OpL.loadSA rfl ag_24 sz_24 rfl rfl (Nat.le_of_ble_eq_true rfl)) rfl<|Lo (OpL.loadSA rfl ag_119 sz_119 rfl rfl (Nat.le_of_ble_eq_true rfl)) rfl ?_
  refine Lo (OpL.callFn rfl rfl (by kernel_rfl) rfl (CallTo.memo (hit_81 (by first | assumption | omega | (simp only [LL]; omega)) (by first | assumption | omega | (simp only [LL]; omega))))) rfl ?_
  refine qa rfl<|Ld ?_
  refine EvtL.ret (Er rfl ?_)
  refine boolRes ?_
  rotate_left
 ·rw [hes,insS,h1]; rfl
 ·rw [hes,insS,h1]; rfl
theorem instr_enters (c : CodeT) (k : Nat) (hf : Fits c) (hk : k < c.ins.length) (r : Int) (hs : shapeV c.ins[k] = .enters r) : CallTo (EK K13) 38 [.agg (encC c),.int .i64 (k : Nat)] S0 (.bool (insV c k c.ins[k])) := by
 refine CallTo.s0 (fn := Tryz.f38) rfl rfl (by kernel_rfl) rfl rfl rfl rfl ?_
 have hp0 := recs_idx encI_len hk
 have ha := hf.args _ (List.getElem_mem hk)
 have hk1 := hf.cons
 have hk2 := hf.funs
 have hk3 := hf.ins
 have hto := hf.to _ (List.getElem_mem hk)
 have hal := hf.alts _ (List.getElem_mem hk)
 generalize hx : c.ins[k] = x at *
 refine Es<|Lo (OpL.boxS 1 rfl rfl rfl rfl) rfl<|Lo (OpL.boxS 2 rfl rfl rfl rfl) rfl<|qa rfl<|Ld<|Es<|Lq (of f_28_1 rfl) rfl<|Lo (l1 ag_25 sz_25 rfl) rfl ?_
 refine Lo (l1 ag_3 sz_3 rfl) rfl<|Lq (OpQ.indexAddrV rfl u_25 sz_58 rfl rfl ‹_›) rfl<|Lq (OpQ.loadI rfl rfl ag_58 sz_58 (Nat.le_of_ble_eq_true rfl)) rfl ?_
 refine Lo (OpL.callFn rfl rfl (by kernel_rfl) rfl (CallTo.memo (hit_51))) rfl<|qa rfl<|Ld<|EvtL.seq ?_
 rw [hs]
 have hes := insV_shape c k x
 rw [hs] at hes
 focus
  refine Es<|qm rfl<|Lq (OpQ.eqIf (neg := false) rfl if_111 rfl rfl rfl) rfl<|qm rfl<|Lh rfl rfl (om rfl) ?_
  refine Lg rfl rfl (OpL.invoke rfl rfl rfl rfl m_121_registers (by kernel_rfl) rfl (CallTo.memo (hit_344))) ?_
  refine Lg rfl rfl (OpL.callFn rfl rfl (by kernel_rfl) rfl (run_70 (by first | assumption | omega | (simp only [LL]; omega)))) ?_
  refine Lq (oF rfl rfl rfl) rfl<|Ld ?_
  refine Ec rfl (fun g1 => ?_) (fun g1 => ?_)
  have h1 := notT g1
  refine Es<|qa rfl<|Ld ?_
  refine EvtL.ret (Er rfl ?_)
  refine boolRes ?_
  rotate_left
  have h1 := notF g1
  refine EvtL.skip<|Es<|Lq (OpQ.makeFunc rfl rfl rfl) rfl<|Lo (OpL.allocS 3 rfl z_146 rfl) rfl<|RegL.opN (OpL.storeS rfl sz_146 rfl rfl rfl rfl rfl rfl) rfl rfl<|Ld<|EvtL.seq<|Es ?_
  refine qm rfl<|Ld<|EvtL.block<|Es<|Lq (OpQ.typeAs rfl if_114 z_114 rfl rfl) rfl ?_
  iterate 2 refine Lq (oe rfl) rfl ?_
  refine Ld<|EvtL.condF rfl rfl<|Es<|Lq (OpQ.typeAs rfl if_117 z_117 rfl rfl) rfl ?_
  iterate 2 refine Lq (oe rfl) rfl ?_
  refine Ld<|EvtL.condF rfl rfl<|Es<|Lq (OpQ.typeAs rfl if_119 z_119 rfl rfl) rfl ?_
  iterate 2 refine Lq (oe rfl) rfl ?_
  refine Ld<|EvtL.condF rfl rfl<|EvtL.skip<|Es<|qa rfl<|Ld ?_
  refine EvtL.ret (Er rfl ?_)
  refine boolRes ?_
  rotate_left
 ·rw [hes,insS,← regsV_one,h1]
 ·rw [hes,insS,← regsV_one,h1]
theorem instr_no (c : CodeT) (k : Nat) (hf : Fits c) (hk : k < c.ins.length) (hs : shapeV c.ins[k] = .no) : CallTo (EK K13) 38 [.agg (encC c),.int .i64 (k : Nat)] S0 (.bool (insV c k c.ins[k])) := by
 refine CallTo.s0 (fn := Tryz.f38) rfl rfl (by kernel_rfl) rfl rfl rfl rfl ?_
 have hp0 := recs_idx encI_len hk
 have ha := hf.args _ (List.getElem_mem hk)
 have hk1 := hf.cons
 have hk2 := hf.funs
 have hk3 := hf.ins
 have hto := hf.to _ (List.getElem_mem hk)
 have hal := hf.alts _ (List.getElem_mem hk)
 generalize hx : c.ins[k] = x at *
 refine Es<|Lo (OpL.boxS 1 rfl rfl rfl rfl) rfl<|Lo (OpL.boxS 2 rfl rfl rfl rfl) rfl<|qa rfl<|Ld<|Es<|Lq (of f_28_1 rfl) rfl<|Lo (l1 ag_25 sz_25 rfl) rfl ?_
 refine Lo (l1 ag_3 sz_3 rfl) rfl<|Lq (OpQ.indexAddrV rfl u_25 sz_58 rfl rfl ‹_›) rfl<|Lq (OpQ.loadI rfl rfl ag_58 sz_58 (Nat.le_of_ble_eq_true rfl)) rfl ?_
 refine Lo (OpL.callFn rfl rfl (by kernel_rfl) rfl (CallTo.memo (hit_51))) rfl<|qa rfl<|Ld<|EvtL.seq ?_
 rw [hs]
 have hes := insV_shape c k x
 rw [hs] at hes
 refine Es<|qm rfl<|Lq (OpQ.eqIf (neg := false) rfl if_111 rfl rfl rfl) rfl<|qm rfl ?_
 iterate 3 refine Lk rfl rfl ?_
 refine Lq (oT rfl rfl rfl) rfl<|Ld<|EvtL.condT rfl rfl<|Es<|qa rfl<|Ld ?_
 refine EvtL.ret (Er rfl ?_)
 refine boolRes ?_
 exact hes.symm
theorem instruction_to (c : CodeT) (k : Nat) (hf : Fits c) (hk : k < c.ins.length) : CallTo (EK K13) 38 [.agg (encC c),.int .i64 (k : Nat)] S0 (.bool (insV c k c.ins[k])) := by
 rcases hs : shapeV c.ins[k] with ⟨r,l⟩ | l | _ | _ | ⟨o,n,l⟩ | r | _
 ·exact instr_looks c k hf hk r l hs
 ·exact instr_goes c k hf hk l hs
 ·exact instr_fails c k hf hk hs
 ·exact instr_frees c k hf hk hs
 ·exact instr_makes c k hf hk o n l hs
 ·exact instr_enters c k hf hk r hs
 ·exact instr_no c k hf hk hs
end Go.Proofs.YtpihdbhocgcbpaaGreatDoor

/- code.Check. -/
open Go Am
namespace Go.Proofs.YtpihdbhocgcbpaaGreatDoor
noncomputable def K14 := addC K13 38 (fun p : AtT => [.agg (encC p.1.1),.int .i64 (p.1.2 : Nat)]) (fun p => .bool (insV p.1.1 p.1.2 p.x))
theorem hit_38 {c : CodeT} {k : Nat} (h : Fits c) (hk : k < c.ins.length) : K14 38 [.agg (encC c),.int .i64 (k : Nat)] = some (.bool (insV c k c.ins[k])) :=
 addC_hit (f := 38) (enc := fun p : AtT => [.agg (encC p.1.1),.int .i64 (p.1.2 : Nat)]) (res := fun p => .bool (insV p.1.1 p.1.2 p.x)) (fun p q h => by rw [encAt_inj h]) ⟨(c,k),h,hk⟩
theorem all14 (h : KnownF Tryz.prog 10 [] (.bool true)) : KnownAll Tryz.prog K14 := addC_all progOk (all13 h) (fun p : AtT => instruction_to p.1.1 p.1.2 p.2.1 p.2.2) (fun _ => rfl) (fun _ => rfl)
theorem err0 {b : Bool} (h : (if b = true then (0 : Int) else 2) = 0) : b = true := by cases b with
 | true => rfl
 | false => cases h
theorem err2 {b : Bool} (h : ¬ (if b = true then (0 : Int) else 2) = 0) : b = false := by cases b with
 | true => exact absurd rfl h
 | false => rfl
theorem check_to (c : CodeT) (hf : Fits c) : CallTo (EK K14) 13 [.agg (encC c)] S0 (.int .i64 (if codeV c then 0 else 2)) := by
 refine CallTo.s0 (fn := Tryz.f13) rfl rfl (by kernel_rfl) rfl rfl rfl rfl ?_
 have hno : headV c = false → codeV c = false := fun h => by unfold codeV; rw [h]; rfl
 have hcn := hf.cnames
 have hfn := hf.fnames
 have hl1 := hf.starts
 have hl2 := hf.ins
 focus
  refine Es<|Lo (OpL.boxS 1 rfl rfl rfl rfl) rfl<|qa rfl<|Ld<|EvtL.seq<|Es<|Lq (of f_28_0 rfl) rfl<|Lo (OpL.loadSA rfl ag_24 sz_24 rfl rfl (Nat.le_of_ble_eq_true rfl)) rfl ?_
  refine Lo (OpL.callFn rfl rfl (by kernel_rfl) rfl (CallTo.memo (hit_36 (by first | assumption | omega | (simp only [LL]; omega)) (by first | assumption | omega | (simp only [LL]; omega))))) rfl ?_
  refine Lq (o2 u_31 rfl rfl) rfl<|qm rfl ?_
  refine Lb rfl (fun g1 => ?_) (fun g1 => ?_)
  have h1 := nT g1
  iterate 4 refine Lk rfl ‹_› ?_
  refine Lq (oT rfl ‹_› rfl) rfl<|qm rfl ?_
  iterate 8 refine Lk rfl rfl ?_
  refine Lq (oT rfl rfl rfl) rfl<|Ld<|EvtL.condT rfl rfl<|Es<|qa rfl<|Ld ?_
  refine EvtL.ret (Er rfl ?_)
  rotate_left
  have h1 := nF g1
  refine Lh rfl ‹_› (of f_28_1 rfl)<|Lg rfl ‹_› (l1 ag_25 sz_25 rfl)<|Lh rfl ‹_› (ol u_25 rfl)<|Lh rfl ‹_› (o2 u_3 rfl rfl)<|Lq (oF rfl ‹_› rfl) rfl<|qm rfl ?_
  refine Lb rfl (fun g2 => ?_) (fun g2 => ?_)
  have h2 := dT g2
  iterate 8 refine Lk rfl ‹_› ?_
  refine Lq (oT rfl ‹_› rfl) rfl<|Ld<|EvtL.condT rfl rfl<|Es<|qa rfl<|Ld ?_
  refine EvtL.ret (Er rfl ?_)
  rotate_left
  have h2 := dF g2
  refine Lh rfl ‹_› (of f_28_2 rfl)<|Lg rfl ‹_› (l1 ag_26 sz_26 rfl)<|Lh rfl ‹_› (ol u_26 rfl)<|Lh rfl ‹_› (of f_28_0 rfl)<|Lh rfl ‹_› (of f_24_1 rfl)<|Lg rfl ‹_› (l1 ag_22 sz_22 rfl)<|Lh rfl ‹_› (ol u_22 rfl)<|Lh rfl ‹_› (o2 u_3 rfl rfl) ?_
  refine Lq (oF rfl ‹_› rfl) rfl<|Ld ?_
  refine Ec rfl (fun g3 => ?_) (fun g3 => ?_)
  have h3 := nT g3
  refine Es<|qa rfl<|Ld ?_
  refine EvtL.ret (Er rfl ?_)
  rotate_left
  have h3 := nF g3
  refine EvtL.skip<|EvtL.seq<|Es<|Lq (of f_28_2 rfl) rfl<|Lo (l1 ag_26 sz_26 rfl) rfl<|Lq (ol u_26 rfl) rfl<|qm rfl<|Ld ?_
  refine EvtL.block ?_
  rotate_left
 ·rw [hno (by unfold headV; rw [err2 h1]; rfl)]; rfl
 ·rw [hno (by unfold headV; rw [g2]; simp)]; rfl
 ·rw [hno (by unfold headV; rw [decide_eq_false h3]; simp)]; rfl
 have hhd : headV c = true := by unfold headV; rw [err0 h1,g2,decide_eq_true h3]; rfl
 refine EvtL.loopI (fun i : Nat => ([(29,.int .i64 (i : Nat)),(28,.int .i64 (c.starts.length : Nat)),(27,recs encZ 1 c.starts),(2,.int .i64 0),(1,.ptr 0 0)],mkS 1 0 [] [(0,some (.cells (encC c) 28 false))])) (fun i => c.starts.length - i) (fun i => i ≤ c.starts.length ∧ (List.range i).all (startAt c) = true) 0 ⟨Nat.zero_le _,rfl⟩ rfl (by (refine Am.sub_of ?_; repeat (first | exact trivial | refine ⟨rfl,?_⟩))) ?_
 rintro i ⟨hi,hs⟩
 dsimp only at hi hs ⊢
 by_cases h : i < c.starts.length
 ·have hp := recs_idx encZ_len h
  have hat : startAt c i = inV c.starts[i] 0 (c.ins.length - 1) := by unfold startAt; rw [getD_at h]
  focus
   refine Es<|Lq (o2 u_3 rfl rfl) rfl<|Ld<|EvtL.seq ?_
   refine Ec rfl (fun g4 => ?_) (fun g4 => ?_)
   have h4 := dT g4
   refine EvtL.skip<|EvtL.seq<|EvtL.block<|Es<|Lq (OpQ.indexAddrV rfl u_26 sz_3 rfl rfl ‹_›) rfl<|Lq (OpQ.loadI1 rfl rfl ag_3 sz_3) rfl<|qa rfl<|Ld ?_
   refine Es<|qm rfl<|Lq (of f_28_1 rfl) rfl<|Lo (l1 ag_25 sz_25 rfl) rfl<|Lq (ol u_25 rfl) rfl<|Lq (OpQ.sub rfl u_3 rfl rfl (by omega)) rfl<|Lo (OpL.callFn rfl rfl (by kernel_rfl) rfl (CallTo.memo (hit_37))) rfl<|Lq (on rfl) rfl ?_
   refine Ld ?_
   refine Ec rfl (fun g5 => ?_) (fun g5 => ?_)
   have h5 := notT g5
   refine Es<|qa rfl<|Ld ?_
   refine EvtL.ret (Er rfl ?_)
   rotate_left
   have h5 := notF g5
   refine EvtL.skip<|EvtL.reg ?_
   refine Lq (OpQ.addN (b := 1) rfl u_3 rfl rfl (by first | assumption | omega | (simp only [LL]; omega))) rfl ?_
   refine qm rfl<|Ld ?_
   rotate_left
   have h4 := dF g4
   exact absurd h4 (by omega)
  ·have : codeV c = false := by unfold codeV; rw [ra_no h (hat.trans h5),Bool.false_and,Bool.and_false]
   rw [this]; rfl
  ·exact ⟨i + 1,⟨h,ra_succ hs (hat.trans h5)⟩,by show c.starts.length - (i + 1) < c.starts.length - i; omega,rfl,rfl,by (refine Am.sub_of ?_; repeat (first | exact trivial | refine ⟨rfl,?_⟩))⟩
 ·focus
   refine Es<|Lq (o2 u_3 rfl rfl) rfl<|Ld<|EvtL.seq ?_
   refine Ec rfl (fun g4 => ?_) (fun g4 => ?_)
   have h4 := dT g4
   exact absurd h4 (by omega)
   have h4 := dF g4
   refine EvtL.exit<|cond_t rfl<|EvtL.seq<|Es<|Lq (of f_28_1 rfl) rfl<|Lo (l1 ag_25 sz_25 rfl) rfl<|Lq (ol u_25 rfl) rfl<|qm rfl ?_
   refine Ld<|EvtL.block ?_
   rotate_left
  obtain rfl : i = c.starts.length := by omega
  refine EvtL.loopI (fun i : Nat => ([(44,.int .i64 (i : Nat)),(43,.int .i64 (c.ins.length : Nat)),(2,.int .i64 0),(1,.ptr 0 0)],mkS 1 0 [] [(0,some (.cells (encC c) 28 false))])) (fun i => c.ins.length - i) (fun i => i ≤ c.ins.length ∧ (List.range i).all (insAt c) = true) 0 ⟨Nat.zero_le _,rfl⟩ rfl (by (refine Am.sub_of ?_; repeat (first | exact trivial | refine ⟨rfl,?_⟩))) ?_
  rintro j ⟨hj,hs2⟩
  dsimp only at hj hs2 ⊢
  by_cases h' : j < c.ins.length
  ·have hat : insAt c j = insV c j c.ins[j] := by unfold insAt; rw [iAt_eq h']
   focus
    refine Es<|Lq (o2 u_3 rfl rfl) rfl<|Ld<|EvtL.seq ?_
    refine Ec rfl (fun g5 => ?_) (fun g5 => ?_)
    have h5 := dT g5
    refine EvtL.skip<|EvtL.seq<|EvtL.block<|Es<|qm rfl<|qa rfl<|Ld<|Es ?_
    refine Lo (OpL.loadSA rfl ag_28 sz_28 rfl rfl (Nat.le_of_ble_eq_true rfl)) rfl<|qm rfl ?_
    refine Lo (OpL.callFn rfl rfl (by kernel_rfl) rfl (CallTo.memo (hit_38 (by first | assumption | omega | (simp only [LL]; omega)) (by first | assumption | omega | (simp only [LL]; omega))))) rfl ?_
    refine Lq (on rfl) rfl<|Ld ?_
    refine Ec rfl (fun g6 => ?_) (fun g6 => ?_)
    have h6 := notT g6
    refine Es<|qa rfl<|Ld ?_
    refine EvtL.ret (Er rfl ?_)
    rotate_left
    have h6 := notF g6
    refine EvtL.skip<|EvtL.reg ?_
    refine Lq (OpQ.addN (b := 1) rfl u_3 rfl rfl (by first | assumption | omega | (simp only [LL]; omega))) rfl ?_
    refine qm rfl<|Ld ?_
    rotate_left
    have h5 := dF g5
    exact absurd h5 (by omega)
   ·have : codeV c = false := by unfold codeV; rw [ra_no h' (hat.trans h6),Bool.and_false,Bool.and_false]
    rw [this]; rfl
   ·exact ⟨j + 1,⟨h',ra_succ hs2 (hat.trans h6)⟩,by show c.ins.length - (j + 1) < c.ins.length - j; omega,rfl,rfl,by (refine Am.sub_of ?_; repeat (first | exact trivial | refine ⟨rfl,?_⟩))⟩
  ·focus
    refine Es<|Lq (o2 u_3 rfl rfl) rfl<|Ld<|EvtL.seq ?_
    refine Ec rfl (fun g5 => ?_) (fun g5 => ?_)
    have h5 := dT g5
    exact absurd h5 (by omega)
    have h5 := dF g5
    refine EvtL.exit<|cond_t rfl<|Es<|qa rfl<|Ld ?_
    refine EvtL.ret (Er rfl ?_)
    rotate_left
   obtain rfl : j = c.ins.length := by omega
   have : codeV c = true := by unfold codeV; rw [hs,hs2,hhd]; rfl
   rw [this]; rfl
noncomputable def K15 := addC K14 13 (fun p : FitT => [.agg (encC p.1)]) (fun p => .int .i64 (if codeV p.1 then 0 else 2))
theorem hit_13 {c : CodeT} (h : Fits c) : K15 13 [.agg (encC c)] = some (.int .i64 (if codeV c then 0 else 2)) :=
 addC_hit (f := 13) (enc := fun p : FitT => [.agg (encC p.1)]) (res := fun p => .int .i64 (if codeV p.1 then 0 else 2)) (fun p q h => by rw [encF_inj h]) ⟨c,h⟩
theorem all15 (h : KnownF Tryz.prog 10 [] (.bool true)) : KnownAll Tryz.prog K15 := addC_all progOk (all14 h) (fun p : FitT => check_to p.1 p.2) (fun _ => rfl) (fun _ => rfl)
end Go.Proofs.YtpihdbhocgcbpaaGreatDoor

/- What follows an instruction,as the document has it. -/
open Go Am
namespace Go.Proofs.YtpihdbhocgcbpaaGreatDoor
structure OkC (c : CodeT) : Prop where
 fits : Fits c
 code : codeV c = true
theorem OkC.head {c : CodeT} (h : OkC c) : headV c = true := by
 have := h.code
 unfold codeV at this
 simp only [Bool.and_eq_true] at this
 exact this.1
theorem OkC.ins {c : CodeT} (h : OkC c) {k : Nat} (hk : k < c.ins.length) : insV c k c.ins[k] = true := by
 have := h.code
 unfold codeV at this
 simp only [Bool.and_eq_true] at this
 have := ra_at this.2.2 hk
 unfold insAt at this
 rwa [iAt_eq hk] at this
theorem OkC.start {c : CodeT} (h : OkC c) {k : Nat} (hk : k < c.starts.length) : 0 ≤ c.starts[k] ∧ c.starts[k] < c.ins.length := by
 have := h.code
 unfold codeV at this
 simp only [Bool.and_eq_true] at this
 have := ra_at this.2.1 hk
 unfold startAt at this
 rw [getD_at hk,inV_iff] at this
 omega
theorem OkC.sig {c : CodeT} (h : OkC c) : sigV c.cons c.funs = true := by
 have := h.head
 unfold headV at this
 simp only [Bool.and_eq_true] at this
 exact this.1
theorem OkC.long {c : CodeT} (h : OkC c) : c.ins.length ≤ 1000 := by
 have := h.head
 unfold headV at this
 simp only [Bool.and_eq_true,Bool.not_eq_true',Bool.or_eq_false_iff,decide_eq_false_iff_not] at this
 omega
theorem OkC.funs {c : CodeT} (h : OkC c) : c.starts.length = c.funs.length := by
 have := h.head
 unfold headV at this
 simp only [Bool.and_eq_true,Bool.not_eq_true',Bool.or_eq_false_iff,Bool.not_eq_false',decide_eq_true_eq] at this
 omega
theorem namesV_in : ∀ {l : List NameT} {bs cs : List (List UInt8)},namesV bs l = some cs → ∀ p ∈ l,0 ≤ p.2 ∧ p.2 ≤ 4
 | [],_,_,_,p,hp => by cases hp
 | q :: l,bs,cs,h,p,hp => by
  unfold namesV at h
  split at h
  ·next hq =>
   rcases List.mem_cons.1 hp with rfl | hp
   ·unfold okN at hq
    simp only [Bool.and_eq_true] at hq
    exact inV_iff.1 hq.2.2
   ·exact namesV_in h p hp
  ·cases h
theorem OkC.cons {c : CodeT} (h : OkC c) : ∀ p ∈ c.cons,0 ≤ p.2 ∧ p.2 ≤ 4 := by
 have := h.sig
 unfold sigV at this
 rw [Bool.and_eq_true] at this
 have := this.2
 split at this
 ·next l hl => exact namesV_in hl
 ·cases this
theorem OkC.funs2 {c : CodeT} (h : OkC c) : ∀ p ∈ c.funs,0 ≤ p.2 ∧ p.2 ≤ 4 := by
 have := h.sig
 unfold sigV at this
 rw [Bool.and_eq_true] at this
 have := this.2
 split at this
 ·next l hl =>
  cases hn : namesV l c.funs with
  | none => rw [hn] at this; cases this
  | some m => exact namesV_in hn
 ·cases this
theorem arity_in {l : List NameT} (h : ∀ p ∈ l,0 ≤ p.2 ∧ p.2 ≤ 4) (n : Int) : 0 ≤ arity l n ∧ arity l n ≤ 4 := by
 unfold arity
 rcases Nat.lt_or_ge n.toNat l.length with hn | hn
 ·rw [getD_at hn]; exact h _ (List.getElem_mem hn)
 ·rw [List.getD_eq_getElem?_getD,List.getElem?_eq_none hn]; simp
def belowV (l : List Int) (n : Int) : Bool := (List.range l.length).all fun i => !decide (n ≤ l.getD i 0)
theorem below_to (l : List Int) (n : Int) (hn : l.length ≤ 4000) : CallTo (EK K15) 122 [recs encZ 1 l,.int .i64 n] S0 (.bool (belowV l n)) := by
 refine CallTo.s0 (fn := Tryz.f122) rfl rfl (by kernel_rfl) rfl rfl rfl rfl<|Es<|qa rfl<|Ld<|EvtL.seq<|Es<|qa rfl<|Ld ?_
 refine EvtL.block ?_
 refine EvtL.loopI (fun i : Nat => ([(5,.int .i64 (i : Nat)),(1,.int .i64 n),(0,recs encZ 1 l)],mkS 0 0 [] [])) (fun i => l.length - i) (fun i => i ≤ l.length ∧ (List.range i).all (fun i => !decide (n ≤ l.getD i 0)) = true) 0 ⟨Nat.zero_le _,rfl⟩ rfl (by (refine Am.sub_of ?_; repeat (first | exact trivial | refine ⟨rfl,?_⟩))) ?_
 rintro i ⟨hi,hs⟩
 dsimp only at hi hs ⊢
 by_cases h : i < l.length
 ·have hp := recs_idx encZ_len h
  focus
   refine EvtL.seq<|Es ?_
   iterate 2 refine qm rfl ?_
   refine Lq (ol u_26 rfl) rfl<|Lq (o2 u_3 rfl rfl) rfl<|Ld ?_
   refine Ec rfl (fun g1 => ?_) (fun g1 => ?_)
   have h1 := dT g1
   refine EvtL.skip<|EvtL.seq<|EvtL.block<|Es ?_
   iterate 2 refine qm rfl ?_
   refine Lq (OpQ.indexAddrV rfl u_26 sz_3 rfl rfl ‹_›) rfl<|Lq (OpQ.loadI1 rfl rfl ag_3 sz_3) rfl<|qm rfl<|Lq (o2 u_3 rfl rfl) rfl<|Ld ?_
   refine Ec rfl (fun g2 => ?_) (fun g2 => ?_)
   have h2 := dT g2
   refine Es<|qa rfl<|Ld ?_
   refine EvtL.ret (Er rfl ?_)
   refine boolRes ?_
   rotate_left
   have h2 := dF g2
   refine EvtL.skip<|EvtL.reg<|qm rfl ?_
   refine Lq (OpQ.addN (b := 1) rfl u_3 rfl rfl (by first | assumption | omega | (simp only [LL]; omega))) rfl ?_
   refine qa rfl<|Ld ?_
   rotate_left
   have h1 := dF g1
   exact absurd h1 (by omega)
  ·unfold belowV; rw [ra_no (i := i) h (by rw [getD_at h,g2]; rfl)]
  ·exact ⟨i + 1,⟨h,ra_succ hs (by rw [getD_at h,g2]; rfl)⟩,by show l.length - (i + 1) < l.length - i; omega,rfl,rfl,by (refine Am.sub_of ?_; repeat (first | exact trivial | refine ⟨rfl,?_⟩))⟩
 ·focus
   refine EvtL.seq<|Es ?_
   iterate 2 refine qm rfl ?_
   refine Lq (ol u_26 rfl) rfl<|Lq (o2 u_3 rfl rfl) rfl<|Ld ?_
   refine Ec rfl (fun g1 => ?_) (fun g1 => ?_)
   have h1 := dT g1
   exact absurd h1 (by omega)
   have h1 := dF g1
   refine EvtL.exit<|cond_t rfl<|Es<|qa rfl<|Ld ?_
   refine EvtL.ret (Er rfl ?_)
   refine boolRes ?_
   rotate_left
  obtain rfl : i = l.length := by omega
  exact hs.symm
abbrev BelT := { p : List Int × Int // p.1.length ≤ 4000 }
noncomputable def K16 := addC K15 122 (fun p : BelT => [recs encZ 1 p.1.1,.int .i64 p.1.2]) (fun p => .bool (belowV p.1.1 p.1.2))
theorem hit_122 {l : List Int} {n : Int} (h : l.length ≤ 4000) : K16 122 [recs encZ 1 l,.int .i64 n] = some (.bool (belowV l n)) :=
 addC_hit (f := 122) (enc := fun p : BelT => [recs encZ 1 p.1.1,.int .i64 p.1.2]) (res := fun p => .bool (belowV p.1.1 p.1.2)) (by
  rintro ⟨⟨a,b⟩,_⟩ ⟨⟨c,d⟩,_⟩ h
  simp only [List.cons.injEq,and_true,AV.int.injEq,true_and] at h
  obtain rfl := recs_inj encZ_inj encZ_len h.1
  obtain rfl := h.2
  rfl) ⟨(l,n),h⟩
theorem all16 (h : KnownF Tryz.prog 10 [] (.bool true)) : KnownAll Tryz.prog K16 := addC_all progOk (all15 h) (fun p : BelT => below_to p.1.1 p.1.2 p.2) (fun _ => rfl) (fun _ => rfl)
def succs (c : CodeT) (k : Nat) (x : InsT) (n : Int) : List AltT :=
 if x.op = 1 then x.alts.map fun a => (a.2,n + arity c.cons a.1)
 else if x.op = 2 then x.to.map fun t => (t,n)
 else if x.op = 4 ∨ x.op = 5 then [(((k + 1 : Nat) : Int),n + 1)]
 else []
def safeV (x : InsT) (n : Int) : Bool :=
 if x.op = 1 ∨ x.op = 6 then decide (x.a < n) else if x.op = 5 then belowV x.args n else true
def spotsA (l : List AltT) : AV := outA (l.flatMap encA) l.length 2
theorem encA_plain (l : List AltT) : (l.flatMap encA).all plainV = true := by
 rw [List.all_flatMap]; exact List.all_eq_true.2 fun _ _ => rfl
theorem encA_closed (l : List AltT) : (l.flatMap encA).all (closedV 40) = true := by
 rw [List.all_flatMap]; exact List.all_eq_true.2 fun _ _ => rfl
theorem follow_to (c : CodeT) (k : Nat) (n : Int) (hc : OkC c) (hk : k < c.ins.length) (hn : 0 ≤ n ∧ n ≤ 60) : CallTo (EK K16) 73 [.agg (encC c),.int .i64 (k : Nat),.int .i64 n] S0 (.tuple [spotsA (succs c k c.ins[k] n),.bool (safeV c.ins[k] n)]) := by
 refine CallTo.s0 (fn := Tryz.f73) rfl rfl (by kernel_rfl) rfl rfl rfl rfl ?_
 have hp0 := recs_idx encI_len hk
 have ha := hc.fits.args _ (List.getElem_mem hk)
 have hto := hc.fits.to _ (List.getElem_mem hk)
 have hal := hc.fits.alts _ (List.getElem_mem hk)
 have hins := hc.ins hk
 have hl := hc.long
 generalize hx : c.ins[k] = x at *
 focus
  refine Es<|Lo (OpL.boxS 1 rfl rfl rfl rfl) rfl ?_
  iterate 2 refine qa rfl ?_
  refine Ld<|Es<|Lq (of f_28_1 rfl) rfl<|Lo (l1 ag_25 sz_25 rfl) rfl<|qm rfl<|Lq (OpQ.indexAddrV rfl u_25 sz_58 rfl rfl ‹_›) rfl<|Lq (OpQ.loadI rfl rfl ag_58 sz_58 (Nat.le_of_ble_eq_true rfl)) rfl<|Lo (OpL.allocS 2 rfl z_58 rfl) rfl ?_
  refine RegL.opN (OpL.storeS rfl sz_58 rfl rfl rfl rfl rfl rfl) rfl rfl<|Ld<|Es<|qa rfl<|Ld<|EvtL.seq<|Es<|Lq (of f_58_0 rfl) rfl ?_
  refine Lo (l1 ag_55 sz_55 rfl) rfl<|Ld<|EvtL.block<|Es<|Lq (o2 u_55 rfl rfl) rfl<|qa rfl<|Ld ?_
  refine Ec rfl (fun g1 => ?_) (fun g1 => ?_)
  have h1 := dT g1
  refine EvtL.seq<|Es<|qa rfl<|Ld<|EvtL.block ?_
  rotate_left
  have h1 := dF g1
  refine Es<|Lq (o2 u_55 rfl rfl) rfl<|qa rfl<|Ld ?_
  refine Ec rfl (fun g2 => ?_) (fun g2 => ?_)
  have h2 := dT g2
  refine EvtL.seq<|Es<|qa rfl<|Ld<|EvtL.block ?_
  rotate_left
  have h2 := dF g2
  refine Es<|Lq (o2 u_55 rfl rfl) rfl<|qa rfl<|Ld ?_
  refine Ec rfl (fun g3 => ?_) (fun g3 => ?_)
  have h3 := dT g3
  refine Es<|qm rfl ?_
  refine Lq (OpQ.addN (b := 1) rfl u_3 rfl rfl (by first | assumption | omega | (simp only [LL]; omega))) rfl ?_
  refine qm rfl<|Lq (OpQ.add rfl u_3 rfl rfl (by omega)) rfl<|Lq (OpQ.build rfl pl_152 rfl rfl) rfl<|Lo (OpL.buildSliceS 3 rfl u_150 sz_152 z_152 rfl rfl rfl rfl) rfl ?_
  iterate 2 refine qa rfl ?_
  refine Ld ?_
  rotate_left
  have h3 := dF g3
  refine Es<|Lq (o2 u_55 rfl rfl) rfl<|qa rfl<|Ld ?_
  refine Ec rfl (fun g4 => ?_) (fun g4 => ?_)
  have h4 := dT g4
  refine Es<|qm rfl ?_
  refine Lq (OpQ.addN (b := 1) rfl u_3 rfl rfl (by first | assumption | omega | (simp only [LL]; omega))) rfl ?_
  refine qm rfl<|Lq (OpQ.add rfl u_3 rfl rfl (by omega)) rfl<|Lq (OpQ.build rfl pl_152 rfl rfl) rfl<|Lo (OpL.buildSliceS 3 rfl u_150 sz_152 z_152 rfl rfl rfl rfl) rfl<|Lq (of f_58_6 rfl) rfl<|Lo (l1 ag_26 sz_26 rfl) rfl<|qm rfl ?_
  refine Lo (OpL.callFn rfl rfl (by kernel_rfl) rfl (CallTo.memo (hit_122 (by first | assumption | omega | (simp only [LL]; omega))))) rfl ?_
  iterate 2 refine qa rfl ?_
  refine Ld ?_
  rotate_left
  have h4 := dF g4
  refine Es<|Lq (o2 u_55 rfl rfl) rfl<|qa rfl<|Ld ?_
  refine Ec rfl (fun g5 => ?_) (fun g5 => ?_)
  have h5 := dT g5
  refine EvtL.seqDrawN (by kernel_rfl)<|Nq (of f_58_1 rfl) rfl<|RegN.loadS1 rfl ag_3 sz_3 rfl rfl rfl (by kernel_rfl) (.inl rfl) rfl rfl<|Nq (om rfl) rfl<|Nq (o2 u_3 rfl rfl) rfl ?_
  iterate 2 refine Nq (oa rfl) rfl ?_
  refine RegN.done ?_
  refine EvtL.ret ⟨.inl rfl,rfl,rfl,rfl,_,_,_,(res_tmp rfl (res_tmp rfl rfl)),rfl,rfl,?_⟩
  rotate_left
  have h5 := dF g5
  refine EvtL.skip<|Es ?_
  iterate 2 refine qa rfl ?_
  refine Ld ?_
  refine EvtL.ret ⟨.inl rfl,rfl,rfl,rfl,_,_,_,(res_tmp rfl (res_tmp rfl rfl)),rfl,rfl,?_⟩
  rotate_left
 ·have hL : succs c k x n = x.alts.map fun a => (a.2,n + arity c.cons a.1) := by unfold succs; rw [if_pos h1]
  rw [hL]
  have halt := hins
  rw [insV_1 h1] at halt
  simp only [Bool.and_eq_true] at halt
  replace halt := halt.2.2.2
  generalize hLL : (x.alts.map fun a => (a.2,n + arity c.cons a.1)) = L
  have hLl : L.length = x.alts.length := by rw [← hLL,List.length_map]
  refine EvtL.loopI (fun y : Nat × AV × St => ([(10,.int .i64 (y.1 : Nat)),(9,y.2.1),(8,.ptr 1 0),(3,.ptr 0 0),(2,.int .i64 n)],y.2.2)) (fun y => L.length - y.1)
   (fun y => y.1 ≤ L.length ∧ Grown y.2.2 152 2 y.2.1 ((L.take y.1).flatMap encA) y.1 ∧ (y.2.2.heap.get 0 = some (.cells (encC c) 28 false) ∧ y.2.2.heap.get 1 = some (.cells (encI x) 58 false)) ∧ 2 ≤ y.2.2.next ∧ (∀ d,ownB d y.2.1 = true → 2 ≤ d) ∧ y.2.2.bound = 0 ∧ y.2.2.log = [])
   (0,.nilslice,mkS 2 0 [] [(1,some (.cells (encI x) 58 false)),(1,some (.cells [.int .i64 0,.int .i64 0,.nilslice,.nilslice,.int .i64 0,.int .i64 0,.nilslice] 58 false)),(0,some (.cells (encC c) 28 false))]) ⟨Nat.zero_le _,Grown.nil ..,⟨get_mkS 0,get_mkS 1⟩,Nat.le_refl _,fun d h => (by cases h),rfl,rfl⟩ rfl (by (refine Am.sub_of ?_; repeat (first | exact trivial | refine ⟨rfl,?_⟩))) ?_
  rintro ⟨i,v,st⟩ ⟨hi,hgr,⟨hg0,hg1⟩,hnx,hown,hbd,hlg⟩
  dsimp only at hi hgr hg0 hg1 hnx hown hbd hlg ⊢
  by_cases h : i < L.length
  ·have hi' : i < x.alts.length := by omega
   have hp := recs_idx encA_len hi'
   have hat := ra_at (n := x.alts.length) halt hi'
   unfold altAt at hat
   rw [getD_at hi'] at hat
   simp only [Bool.and_eq_true] at hat
   obtain ⟨hz,hlt⟩ := inV_iff.1 hat.1.1
   have hp2 := recs_idx encN_len (l := c.cons) (i := x.alts[i].1.toNat) (by omega)
   have har := hc.cons _ (List.getElem_mem (show x.alts[i].1.toNat < c.cons.length by omega))
   focus
    refine EvtL.seq<|Es<|qm rfl<|Lq (of f_58_2 rfl) rfl<|Lo (OpL.load rfl rfl (loadOne_at ag_56 sz_56 ‹_› rfl)) rfl<|Lq (ol u_56 rfl) rfl<|Lq (o2 u_3 rfl rfl) rfl<|Ld ?_
    refine Ec rfl (fun g2 => ?_) (fun g2 => ?_)
    have h2 := dT g2
    refine EvtL.skip<|EvtL.seq<|EvtL.block<|EvtL.drawN (by kernel_rfl)<|Nq (om rfl) rfl<|Nq (of f_58_2 rfl) rfl<|RegN.load rfl rfl (loadOne_at ag_56 sz_56 ‹_› rfl) rfl (.inl rfl) rfl rfl<|Nq (om rfl) rfl ?_
    refine Nq (OpQ.indexAddrV rfl u_56 sz_60 rfl rfl ‹_›) rfl<|Nq (OpQ.fieldAddrI rfl f_60_1 rfl (Nat.le_of_ble_eq_true rfl)) rfl<|Nq (OpQ.loadI1 rfl rfl ag_3 sz_3) rfl<|Nq (om rfl) rfl<|Nq (of f_28_0 rfl) rfl<|Nq (of f_24_0 rfl) rfl<|RegN.load rfl rfl (loadOne_at ag_22 sz_22 ‹_› rfl) rfl (.inl rfl) rfl rfl<|Nq (of f_58_2 rfl) rfl ?_
    refine RegN.load rfl rfl (loadOne_at ag_56 sz_56 ‹_› rfl) rfl (.inl rfl) rfl rfl<|Nq (om rfl) rfl<|Nq (OpQ.indexAddrV rfl u_56 sz_60 rfl rfl ‹_›) rfl<|Nq (OpQ.fieldAddrI rfl f_60_0 rfl (Nat.le_of_ble_eq_true rfl)) rfl<|Nq (OpQ.loadI1 rfl rfl ag_3 sz_3) rfl<|Nq (OpQ.indexAddrZ rfl u_22 sz_54 rfl rfl (by first | assumption | omega) ‹_›) rfl<|Nq (OpQ.fieldAddrI rfl f_54_1 rfl (Nat.le_of_ble_eq_true rfl)) rfl<|Nq (OpQ.loadI1 rfl rfl ag_3 sz_3) rfl ?_
    refine Nq (OpQ.add rfl u_3 rfl rfl (by omega)) rfl<|Nq (OpQ.build rfl pl_152 rfl rfl) rfl<|RegN.buildSlice rfl u_150 sz_152 z_152 rfl rfl rfl (.inl rfl) rfl rfl ?_
    rotate_left
    have h2 := dF g2
    exact absurd h2 (by omega)
   refine RegN.growOne (by_ := 16) hgr hbd rfl (by decide) rfl (small_ok (by omega) (by decide)) rfl rfl rfl rfl u_150 sz_152 by_152 z_152 rfl rfl rfl rfl (by kernel_rfl) (cons_all (by kernel_rfl) rfl) (.inl rfl) rfl rfl ?_
   intro v2 st2 nl2 hG2 ho2 hn2 hh2 hlg2 hb2
   have hno : ∀ b,b < 2 → ownB b v = false := fun b hb => by
    cases ho : ownB b v with
    | false => rfl
    | true => have := hown b ho; omega
   refine Nq (oa rfl) rfl<|RegN.done<|EvtL.reg<|qm rfl ?_
   refine Lq (OpQ.addN (b := 1) rfl u_3 rfl rfl (by first | assumption | omega | (simp only [LL]; omega))) rfl ?_
   refine qa rfl<|Ld ?_
   refine ⟨(i + 1,v2,st2),⟨h,?_,⟨(hh2 0 (by omega) (hno 0 (by decide))).trans hg0,(hh2 1 (by omega) (hno 1 (by decide))).trans hg1⟩,Nat.le_trans hnx hn2,fun d hd => Nat.le_trans hnx (ho2 d hd),hb2,hlg2.trans hlg⟩,by show L.length - (i + 1) < L.length - i; omega,rfl,rfl,by (refine Am.sub_of ?_; repeat (first | exact trivial | refine ⟨rfl,?_⟩))⟩
   rw [List.take_add_one,List.getElem?_eq_getElem h,Option.toList_some,List.flatMap_append]
   have hLi : L[i] = (x.alts[i].2,n + arity c.cons x.alts[i].1) := by simp only [← hLL,List.getElem_map]
   have har2 : arity c.cons x.alts[i].1 = c.cons[x.alts[i].1.toNat].2 := by unfold arity; rw [getD_at]
   rw [hLi,har2]
   exact hG2
  ·obtain rfl : i = L.length := by omega
   rw [List.take_length] at hgr
   focus
    refine EvtL.seq<|Es<|qm rfl<|Lq (of f_58_2 rfl) rfl<|Lo (OpL.load rfl rfl (loadOne_at ag_56 sz_56 ‹_› rfl)) rfl<|Lq (ol u_56 rfl) rfl<|Lq (o2 u_3 rfl rfl) rfl<|Ld ?_
    refine Ec rfl (fun g2 => ?_) (fun g2 => ?_)
    have h2 := dT g2
    exact absurd h2 (by omega)
    have h2 := dF g2
    refine EvtL.exit<|cond_t rfl<|EvtL.seqDrawN (by kernel_rfl)<|Nq (om rfl) rfl<|Nq (of f_58_1 rfl) rfl<|RegN.load rfl rfl (loadOne_at ag_3 sz_3 ‹_› rfl) rfl (.inl rfl) rfl rfl<|Nq (om rfl) rfl<|Nq (o2 u_3 rfl rfl) rfl ?_
    iterate 2 refine Nq (oa rfl) rfl ?_
    refine RegN.done ?_
    rotate_left
   obtain ⟨ks,hf,hu⟩ := hgr.ret2 (encA_plain L) (encA_closed L) (decide (x.a < n))
   refine EvtL.ret ⟨.inl rfl,rfl,hlg,hbd,_,_,ks,(res_tmp rfl (res_tmp rfl rfl)),hf,hu,?_⟩
   unfold safeV; rw [if_pos (.inl h1)]; rfl
 ·have hL : succs c k x n = x.to.map fun t => (t,n) := by unfold succs; rw [if_neg h1,if_pos h2]
  rw [hL]
  generalize hLL : (x.to.map fun t => (t,n)) = L
  have hLl : L.length = x.to.length := by rw [← hLL,List.length_map]
  refine EvtL.loopI (fun y : Nat × AV × St => ([(11,.int .i64 (y.1 : Nat)),(9,y.2.1),(8,.ptr 1 0),(3,.ptr 0 0),(2,.int .i64 n)],y.2.2)) (fun y => L.length - y.1)
   (fun y => y.1 ≤ L.length ∧ Grown y.2.2 152 2 y.2.1 ((L.take y.1).flatMap encA) y.1 ∧ y.2.2.heap.get 1 = some (.cells (encI x) 58 false) ∧ 2 ≤ y.2.2.next ∧ (∀ d,ownB d y.2.1 = true → 2 ≤ d) ∧ y.2.2.bound = 0 ∧ y.2.2.log = [])
   (0,.nilslice,mkS 2 0 [] [(1,some (.cells (encI x) 58 false)),(1,some (.cells [.int .i64 0,.int .i64 0,.nilslice,.nilslice,.int .i64 0,.int .i64 0,.nilslice] 58 false)),(0,some (.cells (encC c) 28 false))]) ⟨Nat.zero_le _,Grown.nil ..,get_mkS 1,Nat.le_refl _,fun d h => (by cases h),rfl,rfl⟩ rfl (by (refine Am.sub_of ?_; repeat (first | exact trivial | refine ⟨rfl,?_⟩))) ?_
  rintro ⟨i,v,st⟩ ⟨hi,hgr,hg1,hnx,hown,hbd,hlg⟩
  dsimp only at hi hgr hg1 hnx hown hbd hlg ⊢
  by_cases h : i < L.length
  ·have hi' : i < x.to.length := by omega
   have hp := recs_idx encZ_len hi'
   focus
    refine EvtL.seq<|Es<|qm rfl<|Lq (of f_58_3 rfl) rfl<|Lo (OpL.load rfl rfl (loadOne_at ag_26 sz_26 ‹_› rfl)) rfl<|Lq (ol u_26 rfl) rfl<|Lq (o2 u_3 rfl rfl) rfl<|Ld ?_
    refine Ec rfl (fun g3 => ?_) (fun g3 => ?_)
    have h3 := dT g3
    refine EvtL.skip<|EvtL.seq<|EvtL.block<|EvtL.reg<|qm rfl<|Lq (of f_58_3 rfl) rfl<|Lo (OpL.load rfl rfl (loadOne_at ag_26 sz_26 ‹_› rfl)) rfl<|qm rfl ?_
    refine Lq (OpQ.indexAddrV rfl u_26 sz_3 rfl rfl ‹_›) rfl<|Lq (OpQ.loadI1 rfl rfl ag_3 sz_3) rfl<|qm rfl<|Lq (OpQ.build rfl pl_152 rfl rfl) rfl<|Lo (OpL.buildSlice rfl u_150 sz_152 z_152 rfl rfl rfl) rfl ?_
    rotate_left
    have h3 := dF g3
    exact absurd h3 (by omega)
   refine RegL.growOne (by_ := 16) hgr hbd rfl (by decide) rfl (small_ok (by omega) (by decide)) rfl rfl rfl rfl u_150 sz_152 by_152 z_152 rfl rfl rfl rfl rfl rfl rfl ?_
   intro v2 st2 hG2 ho2 hn2 hh2 hlg2 hb2
   have hno : ownB 1 v = false := by
    cases ho : ownB 1 v with
    | false => rfl
    | true => have := hown 1 ho; omega
   have hlg3 : st2.log = [] := List.eq_nil_iff_forall_not_mem.2 fun c hc => by have := hlg2 c hc; rw [hlg] at this; cases this
   refine qa rfl<|Ld<|EvtL.reg<|qm rfl ?_
   refine Lq (OpQ.addN (b := 1) rfl u_3 rfl rfl (by first | assumption | omega | (simp only [LL]; omega))) rfl ?_
   refine qa rfl<|Ld ?_
   refine ⟨(i + 1,v2,st2),⟨h,?_,(hh2 1 (by omega) hno).trans hg1,Nat.le_trans hnx hn2,fun d hd => Nat.le_trans hnx (ho2 d hd),hb2,hlg3⟩,by show L.length - (i + 1) < L.length - i; omega,rfl,rfl,by (refine Am.sub_of ?_; repeat (first | exact trivial | refine ⟨rfl,?_⟩))⟩
   rw [List.take_add_one,List.getElem?_eq_getElem h,Option.toList_some,List.flatMap_append]
   have hLi : L[i] = (x.to[i],n) := by simp only [← hLL,List.getElem_map]
   rw [hLi]
   exact hG2
  ·obtain rfl : i = L.length := by omega
   rw [List.take_length] at hgr
   focus
    refine EvtL.seq<|Es<|qm rfl<|Lq (of f_58_3 rfl) rfl<|Lo (OpL.load rfl rfl (loadOne_at ag_26 sz_26 ‹_› rfl)) rfl<|Lq (ol u_26 rfl) rfl<|Lq (o2 u_3 rfl rfl) rfl<|Ld ?_
    refine Ec rfl (fun g3 => ?_) (fun g3 => ?_)
    have h3 := dT g3
    exact absurd h3 (by omega)
    have h3 := dF g3
    refine EvtL.exit<|cond_t rfl<|Es<|qm rfl ?_
    iterate 2 refine qa rfl ?_
    refine Ld ?_
    rotate_left
   obtain ⟨ks,hf,hu⟩ := hgr.ret2 (encA_plain L) (encA_closed L) true
   refine EvtL.ret ⟨.inl rfl,rfl,hlg,hbd,_,_,ks,(res_tmp rfl (res_tmp rfl rfl)),hf,hu,?_⟩
   unfold safeV; rw [if_neg (by omega),if_neg (by omega)]; rfl
 ·refine EvtL.ret ⟨.inl rfl,rfl,rfl,rfl,_,.tuple [.islice [.int .i64 ((k + 1 : Nat) : Int),.int .i64 (n + 1)] 1 2 true,.bool true],[2],(res_tmp rfl (res_tmp rfl rfl)),by kernel_rfl,by kernel_rfl,?_⟩
  unfold succs safeV
  rw [if_neg (by omega),if_neg (by omega),if_pos (by omega),if_neg (by omega),if_neg (by omega)]; rfl
 ·refine EvtL.ret ⟨.inl rfl,rfl,rfl,rfl,_,.tuple [.islice [.int .i64 ((k + 1 : Nat) : Int),.int .i64 (n + 1)] 1 2 true,.bool (belowV x.args n)],[2],(res_tmp rfl (res_tmp rfl rfl)),by kernel_rfl,by kernel_rfl,?_⟩
  unfold succs safeV
  rw [if_neg (by omega),if_neg (by omega),if_pos (by omega),if_neg (by omega),if_pos (by omega)]; rfl
 ·unfold succs safeV
  rw [if_neg (by omega),if_neg (by omega),if_neg (by omega),if_pos (by omega)]; rfl
 ·unfold succs safeV
  rw [if_neg (by omega),if_neg (by omega),if_neg (by omega),if_neg (by omega),if_neg (by omega)]; rfl
abbrev FolT := { p : CodeT × Nat × Int // OkC p.1 ∧ p.2.1 < p.1.ins.length ∧ 0 ≤ p.2.2 ∧ p.2.2 ≤ 60 }
def FolT.x (p : FolT) : InsT := p.1.1.ins[p.1.2.1]'p.2.2.1
noncomputable def K17 := addC K16 73 (fun p : FolT => [.agg (encC p.1.1),.int .i64 (p.1.2.1 : Nat),.int .i64 p.1.2.2]) (fun p => .tuple [spotsA (succs p.1.1 p.1.2.1 p.x p.1.2.2),.bool (safeV p.x p.1.2.2)])
theorem hit_73 {c : CodeT} {k : Nat} {n : Int} (hc : OkC c) (hk : k < c.ins.length) (h0 : 0 ≤ n) (hn : n ≤ 60) : K17 73 [.agg (encC c),.int .i64 (k : Nat),.int .i64 n] = some (.tuple [spotsA (succs c k c.ins[k] n),.bool (safeV c.ins[k] n)]) :=
 addC_hit (f := 73) (enc := fun p : FolT => [.agg (encC p.1.1),.int .i64 (p.1.2.1 : Nat),.int .i64 p.1.2.2]) (res := fun p => .tuple [spotsA (succs p.1.1 p.1.2.1 p.x p.1.2.2),.bool (safeV p.x p.1.2.2)]) (by
  rintro ⟨⟨a,b,c⟩,_⟩ ⟨⟨a',b',c'⟩,_⟩ h
  simp only [List.cons.injEq,and_true,AV.int.injEq,true_and] at h
  obtain ⟨h1,h2,rfl⟩ := h
  obtain rfl := encC_inj h1
  obtain rfl : b = b' := by omega
  rfl) ⟨(c,k,n),hc,hk,h0,hn⟩
theorem spots_closed (l : List AltT) (b : Bool) : closedV 40 (.tuple [spotsA l,.bool b]) = true := by
 unfold spotsA outA
 cases Nat.beq l.length 0 <;> rfl
theorem all17 (h : KnownF Tryz.prog 10 [] (.bool true)) : KnownAll Tryz.prog K17 := addC_all progOk (all16 h) (fun p : FolT => follow_to p.1.1 p.1.2.1 p.1.2.2 p.2.1 p.2.2.1 p.2.2.2) (fun _ => rfl) (fun _ => spots_closed _ _)
end Go.Proofs.YtpihdbhocgcbpaaGreatDoor

/- The plain law of registers: there is at most one way to have them. -/
open Go Am
namespace Go.Proofs.YtpihdbhocgcbpaaGreatDoor
def oA (l : List Int) (i : Nat) : Int := l.getD i (-1)
theorem oA_set {l : List Int} {i j : Nat} {v : Int} (h : i < l.length) : oA (l.set i v) j = if j = i then v else oA l j := by
 unfold oA
 rw [List.getD_eq_getElem?_getD,List.getD_eq_getElem?_getD,List.getElem?_set]
 by_cases hj : j = i
 ·subst hj; rw [if_pos rfl,if_pos rfl,if_pos h]; rfl
 ·rw [if_neg (fun e => hj e.symm),if_neg hj]
theorem oA_at {l : List Int} {i : Nat} (h : i < l.length) : oA l i = l[i] := getD_at h
structure Sol (c : CodeT) (S : List Int) : Prop where
 len : S.length = c.ins.length
 lo : ∀ i,oA S i = -1 ∨ 0 ≤ oA S i
 start : ∀ f,f < c.starts.length → oA S (c.starts.getD f 0).toNat = arity c.funs f
 safe : ∀ i,i < c.ins.length → 0 ≤ oA S i → safeV (iAt c i) (oA S i) = true
 step : ∀ i,i < c.ins.length → 0 ≤ oA S i → ∀ p ∈ succs c i (iAt c i) (oA S i),p.1 < c.ins.length ∧ p.2 ≤ 60 ∧ oA S p.1.toNat = p.2
 why : ∀ i,i < c.ins.length → 0 ≤ oA S i → (∃ f,f < c.starts.length ∧ (c.starts.getD f 0).toNat = i) ∨ ∃ j,j < i ∧ 0 ≤ oA S j ∧ ∃ p ∈ succs c j (iAt c j) (oA S j),p.1.toNat = i
theorem sol_le {c : CodeT} {a b : List Int} (ha : Sol c a) (hb : Sol c b) : ∀ i,i < c.ins.length → 0 ≤ oA a i → oA b i = oA a i := by
 intro i
 induction i using Nat.strongRecOn with
 | _ i ih =>
  intro hi h0
  rcases ha.why i hi h0 with ⟨f,hf,rfl⟩ | ⟨j,hj,hj0,p,hp,rfl⟩
  ·rw [ha.start f hf,hb.start f hf]
  ·have e := ih j hj (by omega) hj0
   rw [(ha.step j (by omega) hj0 p hp).2.2]
   exact (hb.step j (by omega) (by rw [e]; exact hj0) p (by rw [e]; exact hp)).2.2
theorem sol_one {c : CodeT} {a b : List Int} (ha : Sol c a) (hb : Sol c b) : a = b := by
 apply List.ext_getElem (ha.len.trans hb.len.symm)
 intro i h1 h2
 have hi : i < c.ins.length := ha.len ▸ h1
 rw [← oA_at h1,← oA_at h2]
 rcases ha.lo i with h | h
 ·rcases hb.lo i with h' | h'
  ·rw [h,h']
  ·exact sol_le hb ha i hi h'
 ·exact (sol_le ha hb i hi h).symm
noncomputable def beforeV (c : CodeT) : Option (List Int) := by
 classical exact if h : ∃ S,Sol c S then some h.choose else none
theorem beforeV_some {c : CodeT} {S : List Int} (h : Sol c S) : beforeV c = some S := by
 unfold beforeV
 have he : ∃ S,Sol c S := ⟨S,h⟩
 rw [dif_pos he,sol_one he.choose_spec h]
theorem beforeV_none {c : CodeT} (h : ∀ S,¬ Sol c S) : beforeV c = none := by
 unfold beforeV
 rw [dif_neg (fun ⟨S,hS⟩ => h S hS)]
theorem succs_mem {c : CodeT} {k : Nat} {x : InsT} {n : Int} (hc : OkC c) (hi : insV c k x = true) (hk : k < c.ins.length) (hn : 0 ≤ n) {p : AltT} (hp : p ∈ succs c k x n) : (k : Int) < p.1 ∧ p.1 ≤ c.ins.length ∧ 0 ≤ p.2 := by
 unfold succs at hp
 split at hp
 ·next h1 =>
  rw [insV_1 h1] at hi
  simp only [Bool.and_eq_true] at hi
  obtain ⟨a,ha,rfl⟩ := List.mem_map.1 hp
  obtain ⟨i,hl,rfl⟩ := List.mem_iff_getElem.1 ha
  have hat := ra_at (n := x.alts.length) hi.2.2.2 hl
  unfold altAt at hat
  rw [getD_at hl] at hat
  simp only [Bool.and_eq_true] at hat
  have h2 := inV_iff.1 hat.2
  have h3 := arity_in hc.cons x.alts[i].1
  refine ⟨?_,?_,?_⟩ <;> dsimp only <;> omega
 ·split at hp
  ·next h1 h2 =>
   rw [insV_2 h2] at hi
   simp only [Bool.and_eq_true] at hi
   obtain ⟨a,ha,rfl⟩ := List.mem_map.1 hp
   obtain ⟨i,hl,rfl⟩ := List.mem_iff_getElem.1 ha
   have hi2 := hi.2.2.2
   unfold targetsV at hi2
   rw [Bool.and_eq_true] at hi2
   have hat := ra_at (n := x.to.length) hi2.1 hl
   unfold targetAt at hat
   rw [getD_at hl] at hat
   have h2 := inV_iff.1 hat
   refine ⟨?_,?_,?_⟩ <;> dsimp only <;> omega
  ·split at hp
   ·rw [List.mem_singleton] at hp
    subst hp
    refine ⟨?_,?_,?_⟩ <;> dsimp only <;> omega
   ·cases hp
theorem succs_len {c : CodeT} {k : Nat} {n : Int} (hc : OkC c) (hk : k < c.ins.length) : (succs c k (iAt c k) n).length ≤ 4000 := by
 have h1 := hc.fits.alts _ (List.getElem_mem hk)
 have h2 := hc.fits.to _ (List.getElem_mem hk)
 rw [iAt_eq hk]
 unfold succs
 split
 ·rw [List.length_map]; exact h1
 ·split
  ·rw [List.length_map]; exact h2
  ·split
   ·exact Nat.le_of_ble_eq_true rfl
   ·exact Nat.zero_le _
structure Wl (c : CodeT) (out : List Int) (todo : List AltT) (i : Nat) : Prop where
 len : out.length = c.ins.length
 lo : ∀ a,oA out a = -1 ∨ (0 ≤ oA out a ∧ oA out a ≤ 60)
 todo0 : ∀ p ∈ todo,0 ≤ p.1 ∧ 0 ≤ p.2
 sound : ∀ S,Sol c S → (∀ a,0 ≤ oA out a → oA S a = oA out a) ∧ ∀ p ∈ todo,p.1 < c.ins.length ∧ p.2 ≤ 60 ∧ oA S p.1.toNat = p.2
 done : ∀ k,k < i → ∀ (h : k < todo.length),todo[k].1 < c.ins.length ∧ todo[k].2 ≤ 60 ∧ oA out todo[k].1.toNat = todo[k].2
 closed : ∀ a,a < c.ins.length → 0 ≤ oA out a → safeV (iAt c a) (oA out a) = true ∧ ∀ p ∈ succs c a (iAt c a) (oA out a),p ∈ todo
 starts : ∀ f,f < c.starts.length → (c.starts.getD f 0,arity c.funs f) ∈ todo
 why : ∀ p ∈ todo,(∃ f,f < c.starts.length ∧ (c.starts.getD f 0).toNat = p.1.toNat) ∨ ∃ j : Nat,(j : Int) < p.1 ∧ j < c.ins.length ∧ 0 ≤ oA out j ∧ p ∈ succs c j (iAt c j) (oA out j)
 whyO : ∀ a,a < c.ins.length → 0 ≤ oA out a → ∃ p ∈ todo,p.1.toNat = a
theorem oA_rep (n a : Nat) : oA (List.replicate n (-1)) a = -1 := by
 unfold oA
 rw [List.getD_eq_getElem?_getD,List.getElem?_replicate]
 split <;> rfl
def startsL (c : CodeT) : List AltT := (List.range c.starts.length).map fun f => (c.starts.getD f 0,arity c.funs f)
theorem startsL_mem {c : CodeT} {p : AltT} (hc : OkC c) (hp : p ∈ startsL c) : ∃ f,f < c.starts.length ∧ p = (c.starts.getD f 0,arity c.funs f) ∧ 0 ≤ p.1 ∧ p.1 < c.ins.length ∧ 0 ≤ p.2 ∧ p.2 ≤ 4 := by
 obtain ⟨f,hf,rfl⟩ := List.mem_map.1 hp
 have hf := List.mem_range.1 hf
 have h1 := hc.start hf
 have h2 := arity_in hc.funs2 f
 rw [← getD_at (d := 0) hf] at h1
 exact ⟨f,hf,rfl,h1.1,h1.2,h2.1,h2.2⟩
theorem Wl.init {c : CodeT} (hc : OkC c) : Wl c (List.replicate c.ins.length (-1)) (startsL c) 0 where
 len := List.length_replicate
 lo := fun a => .inl (oA_rep _ a)
 todo0 := fun p hp => by obtain ⟨f,_,_,h1,_,h2,_⟩ := startsL_mem hc hp; exact ⟨h1,h2⟩
 sound := fun S hS => ⟨fun a h => by rw [oA_rep] at h; omega,fun p hp => by
  obtain ⟨f,hf,he,h1,h2,h3,h4⟩ := startsL_mem hc hp
  refine ⟨h2,by omega,?_⟩
  rw [he]; exact hS.start f hf⟩
 done := fun k hk => absurd hk (Nat.not_lt_zero _)
 closed := fun a _ h => by rw [oA_rep] at h; omega
 starts := fun f hf => List.mem_map.2 ⟨f,List.mem_range.2 hf,rfl⟩
 why := fun p hp => by obtain ⟨f,hf,he,_⟩ := startsL_mem hc hp; exact .inl ⟨f,hf,by rw [he]⟩
 whyO := fun a _ h => by rw [oA_rep] at h; omega
theorem Wl.bad {c : CodeT} {out : List Int} {todo : List AltT} {i : Nat} (h : Wl c out todo i) {p : AltT} (hp : p ∈ todo)
  (hb : ¬ p.1 < c.ins.length ∨ 60 < p.2 ∨ (0 ≤ oA out p.1.toNat ∧ oA out p.1.toNat ≠ p.2) ∨ safeV (iAt c p.1.toNat) p.2 = false) : beforeV c = none :=
 beforeV_none fun S hS => by
  obtain ⟨h1,h2⟩ := h.sound S hS
  obtain ⟨h3,h4,h5⟩ := h2 p hp
  have h0 := h.todo0 p hp
  rcases hb with hb | hb | ⟨hb,hb'⟩ | hb
  ·exact hb h3
  ·omega
  ·rw [← h1 _ hb,h5] at hb'; exact hb' rfl
  ·have := hS.safe p.1.toNat (by omega) (by rw [h5]; exact h0.2)
   rw [h5,hb] at this; cases this
theorem Wl.skip {c : CodeT} {out : List Int} {todo : List AltT} {i : Nat} (h : Wl c out todo i) (hi : i < todo.length) (h1 : todo[i].1 < c.ins.length) (h2 : todo[i].2 ≤ 60) (h3 : oA out todo[i].1.toNat = todo[i].2) : Wl c out todo (i + 1) :=
 ⟨h.len,h.lo,h.todo0,h.sound,fun k hk hl => by
  rcases Nat.lt_or_ge k i with hlt | hge
  ·exact h.done k hlt hl
  ·obtain rfl : k = i := by omega
   exact ⟨h1,h2,h3⟩,h.closed,h.starts,h.why,h.whyO⟩
theorem Wl.set {c : CodeT} {out : List Int} {todo : List AltT} {i : Nat} (hc : OkC c) (h : Wl c out todo i) (hi : i < todo.length) (h1 : todo[i].1 < c.ins.length) (h2 : todo[i].2 ≤ 60) (h3 : ¬ 0 ≤ oA out todo[i].1.toNat) (h4 : safeV (iAt c todo[i].1.toNat) todo[i].2 = true) :
  Wl c (out.set todo[i].1.toNat todo[i].2) (todo ++ succs c todo[i].1.toNat (iAt c todo[i].1.toNat) todo[i].2) (i + 1) := by
 have hm := List.getElem_mem hi
 generalize hq : todo[i] = q at *
 obtain ⟨q0,q1⟩ := h.todo0 q hm
 have hql : q.1.toNat < c.ins.length := by omega
 have hqo : q.1.toNat < out.length := by rw [h.len]; exact hql
 have hset := fun j => oA_set (l := out) (i := q.1.toNat) (j := j) (v := q.2) hqo
 have hins : insV c q.1.toNat (iAt c q.1.toNat) = true := by rw [iAt_eq hql]; exact hc.ins hql
 have keep : ∀ a,0 ≤ oA out a → oA (out.set q.1.toNat q.2) a = oA out a := fun a ha => by
  rw [hset,if_neg (fun e => by subst e; exact h3 ha)]
 refine ⟨by rw [List.length_set]; exact h.len,fun a => ?_,fun p hp => ?_,fun S hS => ⟨fun a ha => ?_,fun p hp => ?_⟩,fun k hk hl => ?_,fun a ha h0 => ?_,fun f hf => List.mem_append_left _ (h.starts f hf),fun p hp => ?_,fun a ha h0 => ?_⟩
 ·rw [hset]
  split
  ·exact .inr ⟨q1,h2⟩
  ·exact h.lo a
 ·rcases List.mem_append.1 hp with hp | hp
  ·exact h.todo0 p hp
  ·have := succs_mem hc hins hql q1 hp
   exact ⟨by omega,this.2.2⟩
 ·rw [hset] at ha ⊢
  split at ha
  ·next e => subst e; rw [if_pos rfl]; exact ((h.sound S hS).2 q hm).2.2
  ·next e => rw [if_neg e]; exact (h.sound S hS).1 a ha
 ·rcases List.mem_append.1 hp with hp | hp
  ·exact (h.sound S hS).2 p hp
  ·have e := ((h.sound S hS).2 q hm).2.2
   exact hS.step q.1.toNat hql (by rw [e]; exact q1) p (by rw [e]; exact hp)
 ·have hk' : k < todo.length := by omega
  rw [List.getElem_append_left hk']
  rcases Nat.lt_or_ge k i with hlt | hge
  ·obtain ⟨d1,d2,d3⟩ := h.done k hlt hk'
   have d0 := h.todo0 _ (List.getElem_mem hk')
   exact ⟨d1,d2,by rw [keep _ (by rw [d3]; exact d0.2)]; exact d3⟩
  ·obtain rfl : k = i := by omega
   rw [hq]
   exact ⟨h1,h2,by rw [hset,if_pos rfl]⟩
 ·rw [hset] at h0 ⊢
  split at h0
  ·next e =>
   subst e; rw [if_pos rfl]
   exact ⟨h4,fun p hp => List.mem_append_right _ hp⟩
  ·next e =>
   rw [if_neg e]
   exact ⟨(h.closed a ha h0).1,fun p hp => List.mem_append_left _ ((h.closed a ha h0).2 p hp)⟩
 ·rcases List.mem_append.1 hp with hp | hp
  ·rcases h.why p hp with w | ⟨j,j1,j2,j3,j4⟩
   ·exact .inl w
   ·exact .inr ⟨j,j1,j2,by rw [keep j j3]; exact j3,by rw [keep j j3]; exact j4⟩
  ·have := succs_mem hc hins hql q1 hp
   exact .inr ⟨q.1.toNat,this.1,hql,by rw [hset,if_pos rfl]; exact q1,by rw [hset,if_pos rfl]; exact hp⟩
 ·rw [hset] at h0
  split at h0
  ·next e => exact ⟨q,List.mem_append_left _ hm,e.symm⟩
  ·obtain ⟨p,hp,e⟩ := h.whyO a ha h0
   exact ⟨p,List.mem_append_left _ hp,e⟩
theorem Wl.fin {c : CodeT} {out : List Int} {todo : List AltT} (h : Wl c out todo todo.length) : Sol c out where
 len := h.len
 lo := fun a => (h.lo a).imp id fun h => h.1
 start := fun f hf => by
  obtain ⟨k,hk,e⟩ := List.mem_iff_getElem.1 (h.starts f hf)
  have := (h.done k hk hk).2.2
  rw [e] at this; exact this
 safe := fun i hi h0 => (h.closed i hi h0).1
 step := fun i hi h0 p hp => by
  obtain ⟨k,hk,e⟩ := List.mem_iff_getElem.1 ((h.closed i hi h0).2 p hp)
  have := h.done k hk hk
  rw [e] at this; exact this
 why := fun i hi h0 => by
  obtain ⟨p,hp,rfl⟩ := h.whyO i hi h0
  rcases h.why p hp with w | ⟨j,j1,j2,j3,j4⟩
  ·exact .inl w
  ·exact .inr ⟨j,by omega,j3,p,j4,rfl⟩
end Go.Proofs.YtpihdbhocgcbpaaGreatDoor

/- ref.Before. -/
open Go Am
namespace Go.Proofs.YtpihdbhocgcbpaaGreatDoor
def zs (l : List Int) : List AV := l.map (AV.int .i64)
theorem zs_len (l : List Int) : (zs l).length = l.length := List.length_map ..
theorem zs_plain (l : List Int) : (zs l).all plainV = true := by
 unfold zs; rw [List.all_map]; exact List.all_eq_true.2 fun _ _ => rfl
theorem zs_closed (l : List Int) : (zs l).all (closedV 40) = true := by
 unfold zs; rw [List.all_map]; exact List.all_eq_true.2 fun _ _ => rfl
theorem zs_at {l : List Int} {k : Nat} (h : k < l.length) : (zs l)[k]? = some (.int .i64 (oA l k)) := by
 unfold zs
 rw [List.getElem?_map,List.getElem?_eq_getElem h,oA_at h]; rfl
theorem zs_set {l : List Int} {k : Nat} {v : Int} : (zs l).set k (.int .i64 v) = zs (l.set k v) := by
 unfold zs; rw [List.map_set]
noncomputable def beforeA (c : CodeT) : AV := match beforeV c with
 | some S => .tuple [outA (zs S) S.length 1,.bool true]
 | none => .tuple [.nilslice,.bool false]
def unset (l : List Int) : Nat := l.countP fun v => decide (v < 0)
theorem unset_set {l : List Int} {k : Nat} {v : Int} (hk : k < l.length) (h : ¬ 0 ≤ oA l k) (hv : 0 ≤ v) : unset (l.set k v) + 1 = unset l := by
 unfold unset
 rw [oA_at hk] at h
 have hp : decide (l[k] < 0) = true := decide_eq_true (by omega)
 rw [List.countP_set hk,hp,decide_eq_false (by omega)]
 have : 0 < l.countP (fun v => decide (v < 0)) := List.countP_pos_iff.2 ⟨_,List.getElem_mem hk,hp⟩
 simp; omega
theorem unset_le (l : List Int) : unset l ≤ l.length := List.countP_le_length
theorem not_own {d : Nat} {v : AV} (h : ownB d v = true → False) : ownB d v = false := by
 cases ho : ownB d v with
 | false => rfl
 | true => exact (h ho).elim
theorem rbefore_to (c : CodeT) (hc : OkC c) : CallTo (EK K17) 35 [.agg (encC c)] S0 (beforeA c) := by
 refine CallTo.s0 (fn := Tryz.f35) rfl rfl (by kernel_rfl) rfl rfl rfl rfl ?_
 have hl := hc.long
 have hst := hc.fits.starts
 have hfu := hc.funs
 refine Es<|Lo (OpL.boxS 1 rfl rfl rfl rfl) rfl ?_
 iterate 2 refine qa rfl ?_
 refine Ld<|Es<|qa rfl<|Ld<|EvtL.seq<|Es<|qa rfl<|Ld ?_
 refine EvtL.block ?_
 refine EvtL.loopI (fun y : Nat × AV × St => ([(5,.int .i64 (y.1 : Nat)),(4,y.2.1),(1,.ptr 0 0)],y.2.2)) (fun y => c.ins.length - y.1)
  (fun y => y.1 ≤ c.ins.length ∧ Grown y.2.2 3 1 y.2.1 (zs (List.replicate y.1 (-1))) y.1 ∧ y.2.2.heap.get 0 = some (.cells (encC c) 28 false) ∧ 1 ≤ y.2.2.next ∧ (∀ d,ownB d y.2.1 = true → 1 ≤ d) ∧ y.2.2.bound = 0 ∧ y.2.2.log = [])
  (0,.nilslice,mkS 1 0 [] [(0,some (.cells (encC c) 28 false))]) ⟨Nat.zero_le _,Grown.nil ..,get_mkS 0,Nat.le_refl _,fun d h => (by cases h),rfl,rfl⟩ rfl (by (refine Am.sub_of ?_; repeat (first | exact trivial | refine ⟨rfl,?_⟩))) ?_
 rintro ⟨i,v,st⟩ ⟨hi,hgr,hg0,hnx,hown,hbd,hlg⟩
 dsimp only at hi hgr hg0 hnx hown hbd hlg ⊢
 by_cases h : i < c.ins.length
 ·focus
   refine EvtL.seq<|Es<|qm rfl<|Lq (of f_28_1 rfl) rfl<|Lo (OpL.load rfl rfl (loadOne_at ag_25 sz_25 ‹_› rfl)) rfl<|Lq (ol u_25 rfl) rfl<|Lq (o2 u_3 rfl rfl) rfl<|Ld ?_
   refine Ec rfl (fun g1 => ?_) (fun g1 => ?_)
   have h1 := dT g1
   refine EvtL.skip<|EvtL.seq<|EvtL.block<|EvtL.reg<|qm rfl<|Lo (OpL.buildSlice rfl u_26 sz_3 z_3 rfl rfl rfl) rfl ?_
   rotate_left
   have h1 := dF g1
   exact absurd h1 (by omega)
  refine RegL.growOne (by_ := 8) hgr hbd rfl (by decide) rfl (small_ok (by omega) (by decide)) rfl rfl rfl rfl u_26 sz_3 by_3 z_3 rfl rfl rfl rfl rfl rfl rfl ?_
  intro v2 st2 hG2 ho2 hn2 hh2 hlg2 hb2
  have hlg3 : st2.log = [] := List.eq_nil_iff_forall_not_mem.2 fun c hc => by have := hlg2 c hc; rw [hlg] at this; cases this
  refine qa rfl<|Ld<|EvtL.reg<|qm rfl ?_
  refine Lq (OpQ.addN (b := 1) rfl u_3 rfl rfl (by first | assumption | omega | (simp only [LL]; omega))) rfl ?_
  refine qa rfl<|Ld ?_
  refine ⟨(i + 1,v2,st2),⟨h,?_,(hh2 0 hnx (not_own fun ho => by have := hown 0 ho; omega)).trans hg0,Nat.le_trans hnx hn2,fun d hd => Nat.le_trans hnx (ho2 d hd),hb2,hlg3⟩,by show c.ins.length - (i + 1) < c.ins.length - i; omega,rfl,rfl,by (refine Am.sub_of ?_; repeat (first | exact trivial | refine ⟨rfl,?_⟩))⟩
  have e : zs (List.replicate (i + 1) (-1)) = zs (List.replicate i (-1)) ++ [.int .i64 (-1)] := by
   unfold zs
   rw [List.replicate_succ',List.map_append]; rfl
  show Grown st2 _ 1 v2 (zs (List.replicate (i + 1) (-1))) (i + 1)
  rw [e]; exact hG2
 obtain rfl : i = c.ins.length := by omega
 focus
  refine EvtL.seq<|Es<|qm rfl<|Lq (of f_28_1 rfl) rfl<|Lo (OpL.load rfl rfl (loadOne_at ag_25 sz_25 ‹_› rfl)) rfl<|Lq (ol u_25 rfl) rfl<|Lq (o2 u_3 rfl rfl) rfl<|Ld ?_
  refine Ec rfl (fun g1 => ?_) (fun g1 => ?_)
  have h1 := dT g1
  exact absurd h1 (by omega)
  have h1 := dF g1
  refine EvtL.exit<|cond_t rfl<|Es<|qa rfl<|Ld<|EvtL.seq<|Es<|qa rfl ?_
  refine Ld<|EvtL.block ?_
  rotate_left
 refine EvtL.loopI (fun y : Nat × AV × St => ([(7,.int .i64 (y.1 : Nat)),(6,y.2.1),(4,v),(1,.ptr 0 0)],y.2.2)) (fun y => c.starts.length - y.1)
  (fun y => y.1 ≤ c.starts.length ∧ Grown y.2.2 3 1 v (zs (List.replicate c.ins.length (-1))) c.ins.length ∧ Grown y.2.2 152 2 y.2.1 (((startsL c).take y.1).flatMap encA) y.1 ∧ y.2.2.heap.get 0 = some (.cells (encC c) 28 false) ∧ 1 ≤ y.2.2.next ∧ (∀ d,ownB d y.2.1 = true → 1 ≤ d) ∧ (∀ d,ownB d v = true → ownB d y.2.1 = false) ∧ y.2.2.bound = 0 ∧ y.2.2.log = [])
  (0,.nilslice,st) ⟨Nat.zero_le _,hgr,Grown.nil ..,hg0,hnx,fun d h => (by cases h),fun d h => rfl,hbd,hlg⟩ rfl (by (refine Am.sub_of ?_; repeat (first | exact trivial | refine ⟨rfl,?_⟩))) ?_
 clear hgr hg0 hnx hbd hlg
 rintro ⟨i,w,st⟩ ⟨hi,hgr,hgt,hg0,hnx,hownw,hdis,hbd,hlg⟩
 dsimp only at hi hgr hgt hg0 hnx hownw hdis hbd hlg ⊢
 by_cases h : i < c.starts.length
 ·have hp := recs_idx encZ_len h
  have h' : i < c.funs.length := by omega
  have hp2 := recs_idx encN_len h'
  focus
   refine EvtL.seq<|Es<|qm rfl<|Lq (of f_28_2 rfl) rfl<|Lo (OpL.load rfl rfl (loadOne_at ag_26 sz_26 ‹_› rfl)) rfl<|Lq (ol u_26 rfl) rfl<|Lq (o2 u_3 rfl rfl) rfl<|Ld ?_
   refine Ec rfl (fun g2 => ?_) (fun g2 => ?_)
   have h2 := dT g2
   refine EvtL.skip<|EvtL.seq<|EvtL.block<|EvtL.drawN (by kernel_rfl)<|Nq (om rfl) rfl<|Nq (of f_28_2 rfl) rfl<|RegN.load rfl rfl (loadOne_at ag_26 sz_26 ‹_› rfl) rfl (.inl rfl) rfl rfl<|Nq (om rfl) rfl ?_
   refine Nq (OpQ.indexAddrV rfl u_26 sz_3 rfl rfl ‹_›) rfl<|Nq (OpQ.loadI1 rfl rfl ag_3 sz_3) rfl<|Nq (of f_28_0 rfl) rfl<|Nq (of f_24_1 rfl) rfl<|RegN.load rfl rfl (loadOne_at ag_22 sz_22 ‹_› rfl) rfl (.inl rfl) rfl rfl<|Nq (om rfl) rfl<|Nq (OpQ.indexAddrV rfl u_22 sz_54 rfl rfl ‹_›) rfl<|Nq (OpQ.fieldAddrI rfl f_54_1 rfl (Nat.le_of_ble_eq_true rfl)) rfl ?_
   refine Nq (OpQ.loadI1 rfl rfl ag_3 sz_3) rfl<|Nq (OpQ.build rfl pl_152 rfl rfl) rfl<|RegN.buildSlice rfl u_150 sz_152 z_152 rfl rfl rfl (.inl rfl) rfl rfl ?_
   rotate_left
   have h2 := dF g2
   exact absurd h2 (by omega)
  refine RegN.growOne (by_ := 16) hgt hbd rfl (by decide) rfl (small_ok (by omega) (by decide)) rfl rfl rfl rfl u_150 sz_152 by_152 z_152 rfl rfl rfl rfl (by kernel_rfl) (cons_all (by kernel_rfl) rfl) (.inl rfl) rfl rfl ?_
  intro w2 st2 nl2 hG2 ho2 hn2 hh2 hlg2 hb2
  refine Nq (oa rfl) rfl<|RegN.done<|EvtL.reg<|qm rfl ?_
  refine Lq (OpQ.addN (b := 1) rfl u_3 rfl rfl (by first | assumption | omega | (simp only [LL]; omega))) rfl ?_
  refine qa rfl<|Ld ?_
  have hkeep : ∀ d,d < st.next → ownB d w = false → st2.heap.get d = st.heap.get d := hh2
  refine ⟨(i + 1,w2,st2),⟨h,hgr.keep hn2 fun d hd => hkeep d (hgr.own hd) (hdis d hd),?_,(hkeep 0 hnx (not_own fun ho => by have := hownw 0 ho; omega)).trans hg0,Nat.le_trans hnx hn2,fun d hd => Nat.le_trans hnx (ho2 d hd),fun d hd => not_own fun ho => by have := ho2 d ho; have := hgr.own hd; omega,hb2,hlg2.trans hlg⟩,by show c.starts.length - (i + 1) < c.starts.length - i; omega,rfl,rfl,by (refine Am.sub_of ?_; repeat (first | exact trivial | refine ⟨rfl,?_⟩))⟩
  have hsl : i < (startsL c).length := by unfold startsL; rw [List.length_map,List.length_range]; exact h
  rw [List.take_add_one,List.getElem?_eq_getElem hsl,Option.toList_some,List.flatMap_append]
  have hLi : (startsL c)[i] = (c.starts[i],c.funs[i].2) := by
   simp only [startsL,List.getElem_map,List.getElem_range,getD_at h]
   unfold arity
   rw [Int.toNat_natCast,getD_at h']
  rw [hLi]
  exact hG2
 obtain rfl : i = c.starts.length := by omega
 have hsl : (startsL c).length = c.starts.length := by unfold startsL; rw [List.length_map,List.length_range]
 rw [List.take_of_length_le (by omega)] at hgt
 focus
  refine EvtL.seq<|Es<|qm rfl<|Lq (of f_28_2 rfl) rfl<|Lo (OpL.load rfl rfl (loadOne_at ag_26 sz_26 ‹_› rfl)) rfl<|Lq (ol u_26 rfl) rfl<|Lq (o2 u_3 rfl rfl) rfl<|Ld ?_
  refine Ec rfl (fun g2 => ?_) (fun g2 => ?_)
  have h2 := dT g2
  exact absurd h2 (by omega)
  have h2 := dF g2
  refine EvtL.exit<|cond_t rfl<|EvtL.seq<|Es<|qa rfl<|Ld<|EvtL.block ?_
  rotate_left
 refine EvtL.loopI (fun y : Nat × List Int × List AltT × AV × St => ([(8,.int .i64 (y.1 : Nat)),(6,y.2.2.2.1),(4,v),(1,.ptr 0 0)],y.2.2.2.2)) (fun y => unset y.2.1 * 4001 + (y.2.2.1.length - y.1))
  (fun y => Wl c y.2.1 y.2.2.1 y.1 ∧ y.1 ≤ y.2.2.1.length ∧ y.2.2.1.length + unset y.2.1 * 4000 ≤ 4004000 ∧ Grown y.2.2.2.2 3 1 v (zs y.2.1) c.ins.length ∧ Grown y.2.2.2.2 152 2 y.2.2.2.1 (y.2.2.1.flatMap encA) y.2.2.1.length ∧ y.2.2.2.2.heap.get 0 = some (.cells (encC c) 28 false) ∧ 1 ≤ y.2.2.2.2.next ∧ (∀ d,ownB d v = true → ownB d y.2.2.2.1 = false) ∧ (∀ d,ownB d y.2.2.2.1 = true → 1 ≤ d) ∧ y.2.2.2.2.bound = 0 ∧ y.2.2.2.2.log = [])
  (0,List.replicate c.ins.length (-1),startsL c,w,st) ⟨Wl.init hc,Nat.zero_le _,?_,hgr,by rw [hsl]; exact hgt,hg0,hnx,hdis,hownw,hbd,hlg⟩ rfl (by (refine Am.sub_of ?_; repeat (first | exact trivial | refine ⟨rfl,?_⟩))) ?_
 ·have := unset_le (List.replicate c.ins.length (-1))
  rw [List.length_replicate] at this
  show (startsL c).length + unset (List.replicate c.ins.length (-1)) * 4000 ≤ _
  omega
 clear hgr hgt hg0 hnx hdis hbd hlg hownw
 rintro ⟨i,out,todo,w,st⟩ ⟨hwl,hi,hsz,hgr,hgt,hg0,hnx,hdis,hownw,hbd,hlg⟩
 dsimp only at hwl hi hsz hgr hgt hg0 hnx hdis hownw hbd hlg ⊢
 have hlen := hgt.len
 by_cases h : i < todo.length
 ·obtain ⟨bt,rfl,hbt,hgbt,hidx⟩ := Grown.at (sz := 1) hgt h
  rcases hq : todo[i] with ⟨a,r⟩
  have hmem : (a,r) ∈ todo := hq ▸ List.getElem_mem h
  obtain ⟨ha0,hr0⟩ := hwl.todo0 _ hmem
  dsimp only at ha0 hr0
  obtain ⟨k,rfl⟩ : ∃ k : Nat,a = k := ⟨a.toNat,by omega⟩
  obtain ⟨hc1,hc2,hc3,hc4,hc5,hc6,hc7⟩ := copied (st := st) (z := [.int .i64 0,.int .i64 0]) (cs := [.int .i64 (k : Nat),.int .i64 r]) (T := 152)
  have hlog := (hc6 (by omega)).trans hlg
  have hbd2 := hc5.trans hbd
  have hg0' := (hc4 0 (by omega)).trans hg0
  have hgr' := hgr.keep (s' := (st.alloc (.cells [.int .i64 0,.int .i64 0] 152 false)).put st.next (some (.cells [.int .i64 (k : Nat),.int .i64 r] 152 false))) (Nat.le_succ _) fun d hd => hc4 d (hgr.own hd)
  have hgt' := hgt.keep (s' := (st.alloc (.cells [.int .i64 0,.int .i64 0] 152 false)).put st.next (some (.cells [.int .i64 (k : Nat),.int .i64 r] 152 false))) (Nat.le_succ _) fun d hd => hc4 d (hgt.own hd)
  have hlt1 : loadC (EK K17) 152 st (.ptr bt (0 + i * (1 + 1))) = some (.agg [.int .i64 (k : Nat),.int .i64 r]) := by
   rw [Nat.zero_add,loadAgg_at ag_152 sz_152 hgbt (by rw [flat_len encA_len]; omega),flat_drop encA_len h,hq]; rfl
  have hnone : beforeV c = none → AV.tuple [.nilslice,.bool false] = beforeA c := fun h => by unfold beforeA; rw [h]
  by_cases hkn : k < c.ins.length
  ·obtain ⟨b,rfl,hb,hgb,hidxb⟩ := Grown.at (sz := 0) hgr hkn
   have hol : out.length = c.ins.length := hwl.len
   have hgb' := (hc4 b hb).trans hgb
   have hld : loadC (EK K17) 3 ((st.alloc (.cells [.int .i64 0,.int .i64 0] 152 false)).put st.next (some (.cells [.int .i64 (k : Nat),.int .i64 r] 152 false))) (.ptr b (0 + k * (0 + 1))) = some (.int .i64 (oA out k)) :=
    loadOne_at ag_3 sz_3 hgb' (by rw [Nat.zero_add,Nat.mul_one]; exact zs_at (by omega))
   have hq1 : todo[i].1 < c.ins.length := by rw [hq]; show (k : Int) < _; omega
   have hkl : 0 + k * (0 + 1) < (zs out).length := by rw [zs_len]; omega
   focus
    refine EvtL.seq<|Es ?_
    iterate 2 refine qm rfl ?_
    refine Lq (OpQ.lenSlM rfl rfl rfl rfl u_150 rfl) rfl<|Lq (o2 u_3 rfl rfl) rfl<|Ld ?_
    refine Ec rfl (fun g3 => ?_) (fun g3 => ?_)
    have h3 := dT g3
    refine EvtL.skip<|EvtL.seq<|EvtL.block<|Es ?_
    iterate 2 refine qm rfl ?_
    refine Lq (OpQ.indexAddrM rfl u_150 sz_152 rfl rfl (by first | assumption | omega | (simp only [LL]; omega))) rfl ?_
    refine Lo (OpL.load rfl rfl ‹_›) rfl<|Lo (OpL.alloc rfl z_152) rfl<|RegL.opN (OpL.store rfl sz_152 rfl rfl (storeN_at ‹_› rfl rfl rfl)) rfl rfl<|Ld<|EvtL.seq<|EvtL.seqDrawN (by kernel_rfl)<|Nq (of f_152_0 rfl) rfl<|RegN.load rfl rfl (loadOne_at ag_3 sz_3 ‹_› rfl) rfl (.inl rfl) rfl rfl ?_
    refine Nq (of f_28_1 rfl) rfl<|RegN.load rfl rfl (loadOne_at ag_25 sz_25 ‹_› rfl) rfl (.inl rfl) rfl rfl<|Nq (ol u_25 rfl) rfl<|Nq (o2 u_3 rfl rfl) rfl<|Nq (om rfl) rfl ?_
    refine RegN.both rfl rfl rfl rfl (fun g4 => ?_) (fun g4 => ?_)
    have h4 := dT g4
    exact absurd h4 (by omega)
    have h4 := dF g4
    refine Ng rfl ‹_› (of f_152_1 rfl)<|RegN.load rfl rfl (loadOne_at ag_3 sz_3 ‹_› rfl) rfl (guardOn_go rfl rfl rfl rfl ‹_›) rfl rfl<|Ng rfl ‹_› (o2 u_3 rfl rfl)<|Nq (oF rfl ‹_› rfl) rfl<|Nq (om rfl) rfl ?_
    refine RegN.both rfl rfl rfl rfl (fun g5 => ?_) (fun g5 => ?_)
    have h5 := dT g5
    iterate 7 refine Nk rfl ‹_› ?_
    iterate 8 refine Nt rfl ?_
    refine Nk rfl ‹_›<|Nq (oT rfl ‹_› rfl) rfl<|RegN.done<|EvtL.condT rfl rfl<|Es ?_
    iterate 2 refine qa rfl ?_
    refine Ld ?_
    refine EvtL.ret ⟨.inl rfl,rfl,‹_›,‹_›,_,_,_,(res_tmp rfl (res_tmp rfl rfl)),rfl,rfl,?_⟩
    rotate_left
    have h5 := dF g5
    refine Ng rfl ‹_› (om rfl)<|Ng rfl ‹_› (of f_152_0 rfl)<|RegN.load rfl rfl (loadOne_at ag_3 sz_3 ‹_› rfl) rfl (guardOn_go rfl rfl rfl rfl ‹_›) rfl rfl ?_
    refine Ng rfl ‹_› (OpQ.indexAddrM rfl u_26 sz_3 rfl rfl (by first | assumption | omega | (simp only [LL]; omega))) ?_
    refine RegN.load rfl rfl ‹_› rfl (guardOn_go rfl rfl rfl rfl ‹_›) rfl rfl<|Ng rfl ‹_› (o2 u_3 rfl rfl)<|Ng rfl ‹_› (om rfl) ?_
    refine RegN.both rfl rfl rfl rfl (fun g6 => ?_) (fun g6 => ?_)
    have h6 := dT g6
    refine Ng rfl ‹_› (om rfl)<|Ng rfl ‹_› (of f_152_0 rfl)<|RegN.load rfl rfl (loadOne_at ag_3 sz_3 ‹_› rfl) rfl (guardOn_go rfl rfl rfl rfl ‹_›) rfl rfl ?_
    refine Ng rfl ‹_› (OpQ.indexAddrM rfl u_26 sz_3 rfl rfl (by first | assumption | omega | (simp only [LL]; omega))) ?_
    refine RegN.load rfl rfl ‹_› rfl (guardOn_go rfl rfl rfl rfl ‹_›) rfl rfl<|Ng rfl ‹_› (of f_152_1 rfl)<|RegN.load rfl rfl (loadOne_at ag_3 sz_3 ‹_› rfl) rfl (guardOn_go rfl rfl rfl rfl ‹_›) rfl rfl<|Ng rfl ‹_› (o2 u_3 rfl rfl)<|Ng rfl ‹_› (oT rfl ‹_› rfl)<|Nq (oF rfl ‹_› rfl) rfl<|RegN.done ?_
    refine Ec rfl (fun g7 => ?_) (fun g7 => ?_)
    have h7 := nT g7
    refine Es ?_
    iterate 2 refine qa rfl ?_
    refine Ld ?_
    refine EvtL.ret ⟨.inl rfl,rfl,‹_›,‹_›,_,_,_,(res_tmp rfl (res_tmp rfl rfl)),rfl,rfl,?_⟩
    rotate_left
    have h7 := nF g7
    refine EvtL.skip<|EvtL.seq<|Es<|qm rfl<|Lq (of f_152_0 rfl) rfl<|Lo (OpL.load rfl rfl (loadOne_at ag_3 sz_3 ‹_› rfl)) rfl ?_
    refine Lq (OpQ.indexAddrM rfl u_26 sz_3 rfl rfl (by first | assumption | omega | (simp only [LL]; omega))) rfl ?_
    refine Lo (OpL.load rfl rfl ‹_›) rfl<|Lq (o2 u_3 rfl rfl) rfl<|Ld<|EvtL.condT rfl ‹_›<|EvtL.exit<|cond_t rfl<|EvtL.reg<|qm rfl ?_
    refine Lq (OpQ.addN (b := 1) rfl u_3 rfl rfl (by first | assumption | omega | (simp only [LL]; omega))) rfl ?_
    refine qa rfl<|Ld ?_
    rotate_left
    have h6 := dF g6
    iterate 8 refine Nk rfl ‹_› ?_
    refine Ng rfl ‹_› (oF rfl ‹_› rfl)<|Nq (oF rfl ‹_› rfl) rfl<|RegN.done<|EvtL.condF rfl rfl<|EvtL.skip<|EvtL.seq<|Es<|qm rfl ?_
    refine Lq (of f_152_0 rfl) rfl<|Lo (OpL.load rfl rfl (loadOne_at ag_3 sz_3 ‹_› rfl)) rfl ?_
    refine Lq (OpQ.indexAddrM rfl u_26 sz_3 rfl rfl (by first | assumption | omega | (simp only [LL]; omega))) rfl ?_
    refine Lo (OpL.load rfl rfl ‹_›) rfl<|Lq (o2 u_3 rfl rfl) rfl<|Ld<|EvtL.condF rfl ‹_›<|EvtL.skip<|Es<|qm rfl<|Lq (of f_152_0 rfl) rfl ?_
    refine Lo (OpL.load rfl rfl (loadOne_at ag_3 sz_3 ‹_› rfl)) rfl<|Lq (of f_152_1 rfl) rfl<|Lo (OpL.load rfl rfl (loadOne_at ag_3 sz_3 ‹_› rfl)) rfl ?_
    refine Lq (OpQ.indexAddrM rfl u_26 sz_3 rfl rfl (by first | assumption | omega | (simp only [LL]; omega))) rfl ?_
    rotate_left
    have h3 := dF g3
    exact absurd h3 (by omega)
   ·exact hnone (hwl.bad hmem (.inr (.inl h5)))
   ·exact hnone (hwl.bad hmem (.inr (.inr (.inl ⟨h6,h7⟩))))
   ·refine ⟨(i + 1,out,todo,_,_),⟨hwl.skip h hq1 (by rw [hq]; show r ≤ 60; omega) (by rw [hq]; exact h7),h,hsz,hgr',hgt',hg0',Nat.succ_pos _,hdis,hownw,hbd2,hlog⟩,by show unset out * 4001 + (todo.length - (i + 1)) < unset out * 4001 + (todo.length - i); omega,rfl,rfl,by (refine Am.sub_of ?_; repeat (first | exact trivial | refine ⟨rfl,?_⟩))⟩
   ·have hset : (zs out).set k (.int .i64 r) = zs (out.set k r) := zs_set
    refine RegL.opN (OpL.store (s' := (((st.alloc (.cells [.int .i64 0,.int .i64 0] 152 false)).put st.next (some (.cells [.int .i64 (k : Nat),.int .i64 r] 152 false))).put b (some (.cells (zs (out.set k r)) 3 true)))) rfl sz_3 rfl rfl (storeN_at hgb' rfl rfl (by
     show over [AV.int .i64 r] (0 + k * (0 + 1)) (zs out) = _
     rw [over_one hkl,show 0 + k * (0 + 1) = k by omega,hset]))) rfl rfl ?_
    have hbv : 1 ≤ b := hown b (Nat.beq_refl b)
    have hbbt : b ≠ bt := fun e => by
     have h1 := hdis b (Nat.beq_refl b)
     have h2 : Nat.beq bt b = true := by rw [e]; exact Nat.beq_refl _
     have h3 : Nat.beq bt b = false := h1
     rw [h2] at h3; cases h3
    have hput : ∀ d,d ≠ b → (((st.alloc (.cells [.int .i64 0,.int .i64 0] 152 false)).put st.next (some (.cells [.int .i64 (k : Nat),.int .i64 r] 152 false))).put b (some (.cells (zs (out.set k r)) 3 true))).heap.get d = ((st.alloc (.cells [.int .i64 0,.int .i64 0] 152 false)).put st.next (some (.cells [.int .i64 (k : Nat),.int .i64 r] 152 false))).heap.get d := fun d hd => by rw [get_putS,if_neg hd]
    have hg0'' := (hput 0 (by omega)).trans hg0'
    have hc2'' := (hput st.next (by omega)).trans hc2
    have hlog2 : (((st.alloc (.cells [.int .i64 0,.int .i64 0] 152 false)).put st.next (some (.cells [.int .i64 (k : Nat),.int .i64 r] 152 false))).put b (some (.cells (zs (out.set k r)) 3 true))).log = [] := (put_low hbd2).trans hlog
    have hgt2 : Grown (((st.alloc (.cells [.int .i64 0,.int .i64 0] 152 false)).put st.next (some (.cells [.int .i64 (k : Nat),.int .i64 r] 152 false))).put b (some (.cells (zs (out.set k r)) 3 true))) 152 2 (.slice bt 0 todo.length (1 + 1) none) (todo.flatMap encA) todo.length := hgt'.keep (Nat.le_refl _) fun d hd => hput d (fun e => by
     have h2 : bt = d := Nat.eq_of_beq_eq_true hd
     omega)
    have hgr2 : Grown (((st.alloc (.cells [.int .i64 0,.int .i64 0] 152 false)).put st.next (some (.cells [.int .i64 (k : Nat),.int .i64 r] 152 false))).put b (some (.cells (zs (out.set k r)) 3 true))) 3 1 (.slice b 0 c.ins.length 1 none) (zs (out.set k r)) c.ins.length := hset ▸ Grown.write hgr'
    have hbd3 : (((st.alloc (.cells [.int .i64 0,.int .i64 0] 152 false)).put st.next (some (.cells [.int .i64 (k : Nat),.int .i64 r] 152 false))).put b (some (.cells (zs (out.set k r)) 3 true))).bound = 0 := hbd2
    have hn3 : (((st.alloc (.cells [.int .i64 0,.int .i64 0] 152 false)).put st.next (some (.cells [.int .i64 (k : Nat),.int .i64 r] 152 false))).put b (some (.cells (zs (out.set k r)) 3 true))).next = st.next + 1 := hc7
    generalize (((st.alloc (.cells [.int .i64 0,.int .i64 0] 152 false)).put st.next (some (.cells [.int .i64 (k : Nat),.int .i64 r] 152 false))).put b (some (.cells (zs (out.set k r)) 3 true))) = st2 at *
    focus
     refine Ld<|Es<|Lo (OpL.load rfl rfl (loadAgg_at ag_28 sz_28 ‹_› (Nat.le_of_ble_eq_true rfl))) rfl<|Lq (of f_152_0 rfl) rfl<|Lo (OpL.load rfl rfl (loadOne_at ag_3 sz_3 ‹_› rfl)) rfl<|Lq (of f_152_1 rfl) rfl<|Lo (OpL.load rfl rfl (loadOne_at ag_3 sz_3 ‹_› rfl)) rfl ?_
     refine Lo (OpL.callFn rfl rfl (by kernel_rfl) rfl (CallTo.memo (hit_73 (by first | assumption | omega | (simp only [LL]; omega)) (by first | assumption | omega | (simp only [LL]; omega)) (by first | assumption | omega | (simp only [LL]; omega)) (by first | assumption | omega | (simp only [LL]; omega))))) rfl ?_
     refine qm rfl ?_
     iterate 2 refine Lq (oe rfl) rfl ?_
     iterate 2 refine qa rfl ?_
     refine Ld<|EvtL.seq<|Es<|qm rfl<|Lq (on rfl) rfl<|Ld ?_
     refine Ec rfl (fun g7 => ?_) (fun g7 => ?_)
     have h7 := notT g7
     refine Es ?_
     iterate 2 refine qa rfl ?_
     refine Ld ?_
     refine EvtL.ret ⟨.inl rfl,rfl,‹_›,‹_›,_,_,_,(res_tmp rfl (res_tmp rfl rfl)),rfl,rfl,?_⟩
     rotate_left
     have h7 := notF g7
     refine EvtL.skip<|EvtL.reg ?_
     iterate 2 refine qm rfl ?_
     rotate_left
    ·refine hnone (hwl.bad hmem (.inr (.inr (.inr ?_))))
     show safeV (iAt c k) r = false
     rw [iAt_eq hkn]; exact h7
    ·have hm4 := succs_len (n := r) hc hkn
     rw [iAt_eq hkn] at hm4
     have hsafe : safeV (iAt c k) r = true := by rw [iAt_eq hkn]; exact h7
     have hus := unset_set (k := k) (v := r) (by omega) h6 hr0
     refine RegL.growMany (by_ := 16) hgt2 hbd3 (flat_len encA_len _) (by decide) (small_ok (by omega) (by decide)) rfl rfl rfl rfl u_150 sz_152 by_152 z_152 rfl rfl rfl rfl rfl rfl rfl ?_
     intro w3 st3 hG3 ho3 hn4 hh3 hlg3 hb3
     have hlog3 : st3.log = [] := List.eq_nil_iff_forall_not_mem.2 fun c hc => by have := hlg3 c hc; rw [hlog2] at this; cases this
     refine qa rfl<|Ld<|EvtL.reg<|qm rfl ?_
     refine Lq (OpQ.addN (b := 1) rfl u_3 rfl rfl (by first | assumption | omega | (simp only [LL]; omega))) rfl ?_
     refine qa rfl<|Ld ?_
     have hw := Wl.set hc hwl h hq1 (by rw [hq]; show r ≤ 60; omega) (by rw [hq]; exact h6) (by rw [hq]; exact hsafe)
     rw [hq] at hw
     have hw : Wl c (out.set k r) (todo ++ succs c k c.ins[k] r) (i + 1) := by rw [← iAt_eq hkn]; exact hw
     refine ⟨(i + 1,out.set k r,todo ++ succs c k c.ins[k] r,w3,st3),⟨hw,?_,?_,?_,?_,?_,?_,?_,?_,hb3,hlog3⟩,?_,rfl,rfl,by (refine Am.sub_of ?_; repeat (first | exact trivial | refine ⟨rfl,?_⟩))⟩
     ·show i + 1 ≤ (todo ++ _).length
      rw [List.length_append]; omega
     ·show (todo ++ succs c k c.ins[k] r).length + unset (out.set k r) * 4000 ≤ 4004000
      rw [List.length_append]; omega
     ·exact hgr2.keep hn4 fun d hd => hh3 d (hgr2.own hd) (hdis d hd)
     ·show Grown st3 _ 2 w3 ((todo ++ _).flatMap encA) (todo ++ _).length
      rw [List.flatMap_append,List.length_append]; exact hG3
     ·exact (hh3 0 (by omega) (not_own fun ho => by have := hownw 0 ho; omega)).trans hg0''
     ·show 1 ≤ st3.next
      omega
     ·intro d hd
      refine not_own fun ho => ?_
      rcases ho3 d ho with ho | ho
      ·rw [hdis d hd] at ho; cases ho
      ·have := hgr.own hd; omega
     ·intro d hd
      rcases ho3 d hd with ho | ho
      ·exact hownw d ho
      ·omega
     ·show unset (out.set k r) * 4001 + ((todo ++ succs c k c.ins[k] r).length - (i + 1)) < unset out * 4001 + (todo.length - i)
      rw [List.length_append]; omega
  ·focus
    refine EvtL.seq<|Es ?_
    iterate 2 refine qm rfl ?_
    refine Lq (OpQ.lenSlM rfl rfl rfl rfl u_150 rfl) rfl<|Lq (o2 u_3 rfl rfl) rfl<|Ld ?_
    refine Ec rfl (fun g3 => ?_) (fun g3 => ?_)
    have h3 := dT g3
    refine EvtL.skip<|EvtL.seq<|EvtL.block<|Es ?_
    iterate 2 refine qm rfl ?_
    refine Lq (OpQ.indexAddrM rfl u_150 sz_152 rfl rfl (by first | assumption | omega | (simp only [LL]; omega))) rfl ?_
    refine Lo (OpL.load rfl rfl ‹_›) rfl<|Lo (OpL.alloc rfl z_152) rfl<|RegL.opN (OpL.store rfl sz_152 rfl rfl (storeN_at ‹_› rfl rfl rfl)) rfl rfl<|Ld<|EvtL.seq<|EvtL.seqDrawN (by kernel_rfl)<|Nq (of f_152_0 rfl) rfl<|RegN.load rfl rfl (loadOne_at ag_3 sz_3 ‹_› rfl) rfl (.inl rfl) rfl rfl ?_
    refine Nq (of f_28_1 rfl) rfl<|RegN.load rfl rfl (loadOne_at ag_25 sz_25 ‹_› rfl) rfl (.inl rfl) rfl rfl<|Nq (ol u_25 rfl) rfl<|Nq (o2 u_3 rfl rfl) rfl<|Nq (om rfl) rfl ?_
    refine RegN.both rfl rfl rfl rfl (fun g4 => ?_) (fun g4 => ?_)
    have h4 := dT g4
    iterate 3 refine Nk rfl ‹_› ?_
    refine Nq (oT rfl ‹_› rfl) rfl<|Nq (om rfl) rfl ?_
    iterate 7 refine Nk rfl rfl ?_
    iterate 8 refine Nt rfl ?_
    refine Nk rfl rfl<|Nq (oT rfl rfl rfl) rfl<|RegN.done<|EvtL.condT rfl rfl<|Es ?_
    iterate 2 refine qa rfl ?_
    refine Ld ?_
    refine EvtL.ret ⟨.inl rfl,rfl,‹_›,‹_›,_,_,_,(res_tmp rfl (res_tmp rfl rfl)),rfl,rfl,?_⟩
    rotate_left
    have h4 := dF g4
    exact absurd h4 (by omega)
    have h3 := dF g3
    exact absurd h3 (by omega)
   exact hnone (hwl.bad hmem (.inl (by show ¬ (k : Int) < _; omega)))
 ·focus
   refine EvtL.seq<|Es ?_
   iterate 2 refine qm rfl ?_
   refine Lq (OpQ.lenV rfl rfl rfl rfl u_150 rfl ‹_›) rfl<|Lq (o2 u_3 rfl rfl) rfl<|Ld ?_
   refine Ec rfl (fun g3 => ?_) (fun g3 => ?_)
   have h3 := dT g3
   exact absurd h3 (by omega)
   have h3 := dF g3
   refine EvtL.exit<|cond_t rfl<|Es<|qm rfl ?_
   iterate 2 refine qa rfl ?_
   refine Ld ?_
   rotate_left
  obtain rfl : i = todo.length := by omega
  have hsol := hwl.fin
  obtain ⟨ks,hf,hu⟩ := hgr.ret2 (zs_plain out) (zs_closed out) true
  refine EvtL.ret ⟨.inl rfl,rfl,hlg,hbd,_,_,ks,(res_tmp rfl (res_tmp rfl rfl)),hf,hu,?_⟩
  unfold beforeA
  rw [beforeV_some hsol,← hwl.len]
end Go.Proofs.YtpihdbhocgcbpaaGreatDoor
