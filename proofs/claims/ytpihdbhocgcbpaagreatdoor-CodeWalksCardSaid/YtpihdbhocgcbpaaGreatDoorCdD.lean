/- Code: the law of walks. -/
import Derived.Test.YtpihdbhocgcbpaaGreatDoorCdC
import Derived.Test.YtpihdbhocgcbpaaGreatDoorAmG
set_option linter.unusedSectionVars false
set_option linter.unusedVariables false
set_option linter.unusedSimpArgs false

/- The law of walks. -/
open Go Am
namespace Go.Proofs.YtpihdbhocgcbpaaGreatDoor
def encB (w : Fin 256) : List AV := [.int .u8 (w.1 : Nat)]
theorem encB_len (w : Fin 256) : (encB w).length = 0 + 1 := rfl
theorem before_sol {c : CodeT} {S : List Int} (hb : beforeV c = some S) : Sol c S := by
 unfold beforeV at hb
 split at hb
 ·next h => cases hb; exact h.choose_spec
 ·cases hb
theorem code_start {c : CodeT} (h : codeV c = true) {i : Nat} (hi : i < c.starts.length) : 0 ≤ c.starts[i] ∧ c.starts[i] < c.ins.length := by
 unfold codeV at h
 rw [Bool.and_eq_true,Bool.and_eq_true] at h
 have := ra_at h.2.1 hi
 unfold startAt inV at this
 rw [getD_at hi,Bool.and_eq_true,decide_eq_true_iff,decide_eq_true_iff] at this
 omega
theorem code_len {c : CodeT} (h : codeV c = true) : c.starts.length = c.funs.length := by
 unfold codeV headV at h
 rw [Bool.and_eq_true,Bool.and_eq_true,Bool.not_eq_true',Bool.or_eq_false_iff,Bool.not_eq_false',decide_eq_true_iff] at h
 omega
theorem outA_pos {S : List Int} (h : 0 < S.length) : outA (zs S) S.length 1 = .islice (zs S) S.length 1 true := by
 unfold outA
 rw [show Nat.beq S.length 0 = false from (by cases h' : S.length with
  | zero => omega
  | succ n => rfl)]; rfl
theorem zs_flat (S : List Int) : zs S = S.flatMap encZ := by
 unfold zs
 induction S with
 | nil => rfl
 | cons a S ih => rw [List.map_cons,List.flatMap_cons,ih]; rfl
theorem zs_idx {S : List Int} {k m : Nat} (hk : k < S.length) (hm : S.length = m) : idxSliceV (0 + 1) k (.islice (zs S) m (0 + 1) true) = some (.iptr (encZ (oA S k) ++ (S.drop (k + 1)).flatMap encZ)) := by
 subst hm
 rw [zs_flat,oA_at hk]
 exact recs_idx encZ_len hk
theorem sol_step {c : CodeT} {S : List Int} (hc : OkC c) (hS : Sol c S) {k : Nat} (hk : k < c.ins.length) {n : Int} (hn : n = oA S k) (h0 : 0 ≤ n) {p : AltT} (hp : p ∈ succs c k c.ins[k] n) : 0 ≤ p.1 ∧ p.1 < c.ins.length ∧ oA S p.1.toNat = p.2 ∧ 0 ≤ p.2 ∧ p.2 ≤ 60 := by
 have h1 := succs_mem hc (hc.ins hk) hk h0 hp
 have h2 := hS.step k hk (by omega) p (by rw [iAt_eq hk,← hn]; exact hp)
 exact ⟨by omega,h2.1,h2.2.2,h1.2.2,h2.2.1⟩
theorem below_all {l : List Int} {n : Int} (h : belowV l n = true) : ∀ r ∈ l,r < n := fun r hr => by
 obtain ⟨i,hi,rfl⟩ := List.mem_iff_getElem.1 hr
 have := ra_at h hi
 rw [getD_at hi,Bool.not_eq_true',decide_eq_false_iff_not] at this
 omega
theorem node_args {x : InsT} (h : nodeV x = true) : x.args = [] := by
 unfold nodeV at h
 simp only [Bool.and_eq_true,decide_eq_true_iff] at h
 exact List.eq_nil_of_length_eq_zero (by omega)
theorem args_lt {c : CodeT} {k : Nat} {x : InsT} {n : Int} (hi : insV c k x = true) (hs : safeV x n = true) : ∀ r ∈ x.args,r < n := by
 by_cases h : x.op = 5
 ·unfold safeV at hs
  rw [if_neg (by omega),if_pos h] at hs
  exact below_all hs
 ·have hn : nodeV x = true := by
   unfold insV at hi
   repeat' split at hi
   all_goals first | exact absurd ‹_› h | (simp only [Bool.and_eq_true] at hi; exact hi.1) | cases hi
  rw [node_args hn]
  exact fun r hr => by cases hr
theorem walks_to (c : CodeT) (f : Fin 256) (ws : List (Fin 256)) : CallTo (EK K23) 7 [.agg (encC c),.int .u8 (f.1 : Nat),recs encB 1 ws] S0 (.bool true) := by
 refine CallTo.s0 (fn := Tryz.f7) rfl rfl (by kernel_rfl) rfl rfl rfl rfl ?_
 cases hs : smallCodeV c with
 | false =>
  focus
   refine Es<|Lo (OpL.boxS 1 rfl rfl rfl rfl) rfl<|qa rfl<|Ld<|EvtL.seq<|Es<|Lo (OpL.loadSA rfl ag_28 sz_28 rfl rfl (Nat.le_of_ble_eq_true rfl)) rfl ?_
   refine Lo (OpL.callFn rfl rfl (by kernel_rfl) rfl (CallTo.memo (hit_9))) rfl<|Lq (on rfl) rfl<|qm rfl ?_
   refine Lb rfl (fun g1 => ?_) (fun g1 => ?_)
   have h1 := notT g1
   iterate 3 refine Lk rfl ‹_› ?_
   refine Lq (oT rfl ‹_› rfl) rfl<|qm rfl ?_
   iterate 4 refine Lk rfl rfl ?_
   refine Lq (oT rfl rfl rfl) rfl<|qm rfl ?_
   iterate 3 refine Lk rfl rfl ?_
   refine Lq (oT rfl rfl rfl) rfl<|Ld<|EvtL.condT rfl rfl<|Es ?_
   refine Lo (OpL.callFn rfl rfl (by kernel_rfl) rfl (CallTo.memo (hit_10))) rfl<|qa rfl<|Ld ?_
   refine EvtL.ret (Er rfl ?_)
   exact boolRes rfl
   have h1 := notF g1
   refine Lg rfl ‹_› (OpL.loadSA rfl ag_28 sz_28 rfl rfl (Nat.le_of_ble_eq_true rfl))<|RegL.un rfl rfl rfl rfl ‹_› ?_
   rotate_left
  all_goals exact absurd h1 (by rw [hs]; decide)
 | true =>
 have hf := fits_of hs
 focus
  refine Es<|Lo (OpL.boxS 1 rfl rfl rfl rfl) rfl<|qa rfl<|Ld<|EvtL.seq<|Es<|Lo (OpL.loadSA rfl ag_28 sz_28 rfl rfl (Nat.le_of_ble_eq_true rfl)) rfl ?_
  refine Lo (OpL.callFn rfl rfl (by kernel_rfl) rfl (CallTo.memo (hit_9))) rfl<|Lq (on rfl) rfl<|qm rfl ?_
  refine Lb rfl (fun g1 => ?_) (fun g1 => ?_)
  have h1 := notT g1
  iterate 3 refine Lk rfl ‹_› ?_
  refine Lq (oT rfl ‹_› rfl) rfl<|qm rfl ?_
  iterate 4 refine Lk rfl rfl ?_
  refine Lq (oT rfl rfl rfl) rfl<|qm rfl ?_
  iterate 3 refine Lk rfl rfl ?_
  refine Lq (oT rfl rfl rfl) rfl<|Ld<|EvtL.condT rfl rfl<|Es ?_
  refine Lo (OpL.callFn rfl rfl (by kernel_rfl) rfl (CallTo.memo (hit_10))) rfl<|qa rfl<|Ld ?_
  refine EvtL.ret (Er rfl ?_)
  exact boolRes rfl
  have h1 := notF g1
  refine Lg rfl ‹_› (OpL.loadSA rfl ag_28 sz_28 rfl rfl (Nat.le_of_ble_eq_true rfl)) ?_
  refine Lg rfl ‹_› (OpL.callFn rfl rfl (by kernel_rfl) rfl (CallTo.memo (hit_24 (by first | assumption | omega | (simp only [LL]; omega))))) ?_
  refine Lh rfl ‹_› (on rfl)<|Lq (oF rfl ‹_› rfl) rfl<|qm rfl ?_
  refine Lb rfl (fun g2 => ?_) (fun g2 => ?_)
  have h2 := notT g2
  iterate 4 refine Lk rfl ‹_› ?_
  refine Lq (oT rfl ‹_› rfl) rfl<|qm rfl ?_
  iterate 3 refine Lk rfl rfl ?_
  refine Lq (oT rfl rfl rfl) rfl<|Ld<|EvtL.condT rfl rfl<|Es ?_
  refine Lo (OpL.callFn rfl rfl (by kernel_rfl) rfl (CallTo.memo (hit_10))) rfl<|qa rfl<|Ld ?_
  refine EvtL.ret (Er rfl ?_)
  exact boolRes rfl
  have h2 := notF g2
  refine Lh rfl ‹_› (of f_28_2 rfl)<|Lg rfl ‹_› (l1 ag_26 sz_26 rfl)<|Lh rfl ‹_› (ol u_26 rfl)<|Lh rfl ‹_› (o2 u_3 rfl rfl)<|Lq (oF rfl ‹_› rfl) rfl<|qm rfl ?_
  refine Lb rfl (fun g3 => ?_) (fun g3 => ?_)
  have h3 := dT g3
  iterate 3 refine Lk rfl ‹_› ?_
  refine Lq (oT rfl ‹_› rfl) rfl<|Ld<|EvtL.condT rfl rfl<|Es ?_
  refine Lo (OpL.callFn rfl rfl (by kernel_rfl) rfl (CallTo.memo (hit_10))) rfl<|qa rfl<|Ld ?_
  refine EvtL.ret (Er rfl ?_)
  exact boolRes rfl
  have h3 := dF g3
  refine Lh rfl ‹_› (om rfl)<|Lh rfl ‹_› (ol u_52 rfl)<|Lh rfl ‹_› (o2 u_3 rfl rfl)<|Lq (oF rfl ‹_› rfl) rfl<|Ld ?_
  refine Ec rfl (fun g4 => ?_) (fun g4 => ?_)
  have h4 := dT g4
  refine Es ?_
  refine Lo (OpL.callFn rfl rfl (by kernel_rfl) rfl (CallTo.memo (hit_10))) rfl<|qa rfl<|Ld ?_
  refine EvtL.ret (Er rfl ?_)
  exact boolRes rfl
  have h4 := dF g4
  refine EvtL.skip<|Es<|Lo (OpL.loadSA rfl ag_28 sz_28 rfl rfl (Nat.le_of_ble_eq_true rfl)) rfl ?_
  refine Lo (OpL.callFn rfl rfl (by kernel_rfl) rfl (CallTo.memo (hit_11 (by first | assumption | omega | (simp only [LL]; omega))))) rfl ?_
  refine qm rfl ?_
  rotate_left
 have hl1 := hf.starts
 have hl2 := hf.ins
 cases hb : beforeV c with
 | none => rw [regs2v h2 hb]; refine Lq (oe rfl) rfl ?_; refine Lq (oe rfl) rfl ?_; refine qa rfl ?_; refine qa rfl ?_; refine Ld ?_; refine EvtL.seq ?_; refine Es ?_; refine qm rfl ?_; refine Lq (o2 u_31 rfl rfl) rfl ?_; refine Ld ?_; refine EvtL.condT rfl rfl ?_; refine Es ?_; refine qm rfl ?_; refine Lq (o2 u_31 rfl rfl) rfl ?_; refine qm rfl ?_; refine Lg rfl rfl (OpL.callFn rfl rfl (by kernel_rfl) rfl (CallTo.memo (hit_10))) ?_; refine Lq (oT rfl rfl rfl) rfl ?_; refine qa rfl ?_; refine Ld ?_; refine EvtL.ret (Er rfl ?_); exact boolRes rfl
 | some S =>
 have hS := before_sol hb
 have hp : 0 < c.starts.length := by omega
 have hst := code_start h2 hp
 rw [regs3v h2 hb,outA_pos (by rw [hS.len]; omega),hS.len]
 have hm : f.1 % c.starts.length < c.starts.length := Nat.mod_lt _ hp
 have hm2 : f.1 % c.starts.length < c.funs.length := by rw [← code_len h2]; exact hm
 have q1 := recs_idx encZ_len hm
 have q2 := recs_idx encN_len hm2
 focus
  iterate 2 refine Lq (oe rfl) rfl ?_
  iterate 2 refine qa rfl ?_
  refine Ld<|EvtL.seq<|Es<|qm rfl<|Lq (o2 u_31 rfl rfl) rfl<|Ld<|EvtL.condF rfl rfl<|EvtL.skip ?_
  refine EvtL.seq<|Es<|qm rfl<|Lq (ol u_26 rfl) rfl<|Lq (of f_28_1 rfl) rfl<|Lo (l1 ag_25 sz_25 rfl) rfl<|Lq (ol u_25 rfl) rfl<|Lq (o2 u_3 rfl rfl) rfl ?_
  refine Ld ?_
  refine Ec rfl (fun g5 => ?_) (fun g5 => ?_)
  have h5 := nT g5
  exact absurd h5 (by omega)
  have h5 := nF g5
  refine EvtL.skip<|Es<|qm rfl<|Lq (OpQ.convI rfl u_5 u_3 rfl ⟨by omega,by omega⟩) rfl<|Lq (of f_28_2 rfl) rfl<|Lo (l1 ag_26 sz_26 rfl) rfl<|Lq (ol u_26 rfl) rfl<|Lq (OpQ.remN rfl u_3 rfl rfl (by omega)) rfl ?_
  refine qa rfl<|Ld<|EvtL.seqDrawN (by kernel_rfl)<|Nq (of f_28_2 rfl) rfl<|RegN.loadS1 rfl ag_26 sz_26 rfl rfl rfl (by kernel_rfl) (.inl rfl) rfl rfl<|Nq (om rfl) rfl<|Nq (OpQ.indexAddrV rfl u_26 sz_3 rfl rfl ‹_›) rfl<|Nq (OpQ.loadI1 rfl rfl ag_3 sz_3) rfl ?_
  refine Nq (of f_28_0 rfl) rfl<|Nq (of f_24_1 rfl) rfl<|RegN.loadS1 rfl ag_22 sz_22 rfl rfl rfl (by kernel_rfl) (.inl rfl) rfl rfl<|Nq (om rfl) rfl<|Nq (OpQ.indexAddrV rfl u_22 sz_54 rfl rfl ‹_›) rfl<|Nq (OpQ.fieldAddrI rfl f_54_1 rfl (Nat.le_of_ble_eq_true rfl)) rfl<|Nq (OpQ.loadI1 rfl rfl ag_3 sz_3) rfl ?_
  iterate 2 refine Nq (oa rfl) rfl ?_
  refine RegN.done<|EvtL.seq<|Es<|qm rfl<|Lq (ol u_52 rfl) rfl<|qm rfl<|Ld<|EvtL.block ?_
  rotate_left
 have hc : OkC c := ⟨hf,h2⟩
 obtain ⟨at0,hat0⟩ : ∃ k : Nat,c.starts[f.1 % c.starts.length] = k := ⟨c.starts[f.1 % c.starts.length].toNat,by have := hc.start hm; omega⟩
 rw [hat0]
 refine EvtL.loopI (fun x : Nat × Nat × Int × St => ([(76,.int .i64 (x.1 : Nat)),(75,.int .i64 (ws.length : Nat)),(74,recs encB 1 ws),(11,.int .i64 x.2.2.1),(10,.int .i64 (x.2.1 : Nat)),(7,.islice (zs S) c.ins.length 1 true),(3,.ptr 0 0)],x.2.2.2)) (fun x => ws.length - x.1)
  (fun x => x.1 ≤ ws.length ∧ (x.2.1 < c.ins.length ∧ x.2.2.1 = oA S x.2.1 ∧ 0 ≤ x.2.2.1 ∧ x.2.2.1 ≤ 60) ∧ x.2.2.2.heap.get 0 = some (.cells (encC c) 28 false) ∧ 0 < x.2.2.2.next ∧ x.2.2.2.bound = 0 ∧ x.2.2.2.log = [])
  (0,at0,c.funs[f.1 % c.starts.length].2,mkS 1 0 [] [(0,some (.cells (encC c) 28 false))]) ⟨Nat.zero_le _,?_,rfl,Nat.one_pos,rfl,rfl⟩ rfl (by (refine Am.sub_of ?_; repeat (first | exact trivial | refine ⟨rfl,?_⟩))) ?_
 ·have := hc.start hm
  have h9 := hS.start _ hm
  have h10 := hc.funs2 _ (List.getElem_mem hm2)
  dsimp only
  rw [getD_at hm,hat0] at h9
  unfold arity at h9
  rw [show (((f.1 % c.starts.length : Nat) : Int)).toNat = f.1 % c.starts.length from rfl] at h9
  have h11 : c.funs.getD (f.1 % c.starts.length) ([],0) = c.funs[f.1 % c.starts.length] := getD_at hm2
  rw [h11] at h9
  have h12 : oA S at0 = (c.funs[f.1 % c.starts.length]).2 := h9
  exact ⟨by omega,h12.symm,h10.1,by omega⟩
 clear q1 q2 hat0 hm hm2 hst g1 g2 g3 g4 g5 h5
 rintro ⟨i,k,n,st⟩ ⟨hi,⟨hk,hn,hn0,hn60⟩,hg,hnx,hb,hl⟩
 dsimp only at hi hk hn hn0 hn60 hg hnx hb hl ⊢
 by_cases h : i < ws.length
 ·have q1 := recs_idx encB_len h
  have q2 := recs_idx encI_len hk
  have q3 := zs_idx (S := S) (k := k) (by rw [hS.len]; exact hk) hS.len
  rw [← hn] at q3
  obtain ⟨a1,a2,a3,a4,a5,a6,a7⟩ := copied (st := st) (z := [.int .i64 0,.int .i64 0,.nilslice,.nilslice,.int .i64 0,.int .i64 0,.nilslice]) (cs := encI c.ins[k]) (T := 58)
  have hlog := (a6 (by omega)).trans hl
  have hbd := a5.trans hb
  have hg2 := (a4 0 hnx).trans hg
  have hiv := hc.ins hk
  have hsf := hS.safe k hk (by omega)
  rw [iAt_eq hk,← hn] at hsf
  have hst : ∀ p ∈ succs c k c.ins[k] n,0 ≤ p.1 ∧ p.1 < c.ins.length ∧ oA S p.1.toNat = p.2 ∧ 0 ≤ p.2 ∧ p.2 ≤ 60 := fun p hp => sol_step hc hS hk hn hn0 hp
  have hla := hf.args _ (List.getElem_mem hk)
  have hlt := hf.to _ (List.getElem_mem hk)
  have hll := hf.alts _ (List.getElem_mem hk)
  generalize c.ins[k] = x at *
  have har := args_lt hiv hsf
  focus
   refine Es<|Lq (o2 u_3 rfl rfl) rfl<|Ld<|EvtL.seq ?_
   refine Ec rfl (fun g1 => ?_) (fun g1 => ?_)
   have h1 := dT g1
   refine EvtL.skip<|EvtL.seq<|EvtL.block<|Es<|Lq (OpQ.indexAddrV rfl u_52 sz_5 rfl rfl ‹_›) rfl<|Lq (OpQ.loadI1 rfl rfl ag_5 sz_5) rfl<|qa rfl<|Ld ?_
   refine EvtL.seq<|Es<|qm rfl<|Lq (of f_28_1 rfl) rfl<|Lo (OpL.load rfl rfl (loadOne_at ag_25 sz_25 ‹_› rfl)) rfl<|Lq (ol u_25 rfl) rfl<|Lq (o2 u_3 rfl rfl) rfl<|qm rfl ?_
   refine Lb rfl (fun g2 => ?_) (fun g2 => ?_)
   have h2 := dT g2
   exact absurd h2 (by omega)
   have h2 := dF g2
   iterate 2 refine Lh rfl ‹_› (om rfl) ?_
   refine Lh rfl ‹_› (OpQ.indexAddrV rfl u_26 sz_3 rfl rfl ‹_›)<|Lh rfl ‹_› (OpQ.loadI1 rfl rfl ag_3 sz_3)<|Lh rfl ‹_› (om rfl)<|Lh rfl ‹_› (o2 u_3 rfl rfl)<|Lq (oF rfl ‹_› rfl) rfl<|qm rfl ?_
   refine Lb rfl (fun g3 => ?_) (fun g3 => ?_)
   have h3 := nT g3
   exact absurd h3 (by omega)
   have h3 := nF g3
   refine Lh rfl ‹_› (om rfl)<|Lh rfl ‹_› (o2 u_3 rfl rfl)<|Lq (oF rfl ‹_› rfl) rfl<|Ld ?_
   refine Ec rfl (fun g4 => ?_) (fun g4 => ?_)
   have h4 := dT g4
   exact absurd h4 (by omega)
   have h4 := dF g4
   refine EvtL.skip<|Es<|Lq (of f_28_1 rfl) rfl<|Lo (OpL.load rfl rfl (loadOne_at ag_25 sz_25 ‹_› rfl)) rfl<|qm rfl<|Lq (OpQ.indexAddrV rfl u_25 sz_58 rfl rfl ‹_›) rfl<|Lq (OpQ.loadI rfl rfl ag_58 sz_58 (Nat.le_of_ble_eq_true rfl)) rfl<|Lo (OpL.alloc rfl z_58) rfl ?_
   refine RegL.opN (OpL.store rfl sz_58 rfl rfl (storeN_at ‹_› rfl rfl rfl)) rfl rfl<|Ld<|EvtL.seq<|Es<|Lq (of f_58_6 rfl) rfl<|Lo (OpL.load rfl rfl (loadOne_at ag_26 sz_26 ‹_› rfl)) rfl<|Lq (ol u_26 rfl) rfl<|qm rfl ?_
   refine Ld<|EvtL.block ?_
   rotate_left
   have h1 := dF g1
   exact absurd h1 (by omega)
  clear q1 q3 g1 g2 g3 g4 h3
  refine EvtL.loopI (fun j : Nat => ([(105,.int .i64 (j : Nat)),(104,.int .i64 (x.args.length : Nat)),(103,recs encZ 1 x.args),(14,.ptr st.next 0),(13,.int .u8 (ws[i].1 : Nat)),(76,.int .i64 (i : Nat)),(75,.int .i64 (ws.length : Nat)),(74,recs encB 1 ws),(11,.int .i64 n),(10,.int .i64 (k : Nat)),(7,.islice (zs S) c.ins.length 1 true),(3,.ptr 0 0)],(st.alloc (.cells [.int .i64 0,.int .i64 0,.nilslice,.nilslice,.int .i64 0,.int .i64 0,.nilslice] 58 false)).put st.next (some (.cells (encI x) 58 false)))) (fun j => x.args.length - j) (fun j => j ≤ x.args.length) 0 (Nat.zero_le _) rfl (by (refine Am.sub_of ?_; repeat (first | exact trivial | refine ⟨rfl,?_⟩))) ?_
  intro j hj
  dsimp only at hj ⊢
  generalize (st.alloc (.cells [.int .i64 0,.int .i64 0,.nilslice,.nilslice,.int .i64 0,.int .i64 0,.nilslice] 58 false)).put st.next (some (.cells (encI x) 58 false)) = st2 at *
  by_cases h' : j < x.args.length
  ·have q5 := recs_idx encZ_len h'
   have hr := har _ (List.getElem_mem h')
   focus
    refine Es<|Lq (o2 u_3 rfl rfl) rfl<|Ld<|EvtL.seq ?_
    refine Ec rfl (fun g1 => ?_) (fun g1 => ?_)
    have h1 := dT g1
    refine EvtL.skip<|EvtL.seq<|EvtL.block<|Es<|Lq (OpQ.indexAddrV rfl u_26 sz_3 rfl rfl ‹_›) rfl<|Lq (OpQ.loadI1 rfl rfl ag_3 sz_3) rfl<|qa rfl<|Ld ?_
    refine Es ?_
    iterate 2 refine qm rfl ?_
    refine Lq (o2 u_3 rfl rfl) rfl<|Ld ?_
    refine Ec rfl (fun g2 => ?_) (fun g2 => ?_)
    have h2 := dT g2
    exact absurd h2 (by omega)
    have h2 := dF g2
    refine EvtL.skip<|EvtL.reg ?_
    refine Lq (OpQ.addN (b := 1) rfl u_3 rfl rfl (by first | assumption | omega | (simp only [LL]; omega))) rfl ?_
    refine qm rfl<|Ld ?_
    rotate_left
    have h1 := dF g1
    exact absurd h1 (by omega)
   exact ⟨j + 1,h',by show x.args.length - (j + 1) < x.args.length - j; omega,rfl,rfl,by (refine Am.sub_of ?_; repeat (first | exact trivial | refine ⟨rfl,?_⟩))⟩
  ·have hto : x.op = 2 → 2 ≤ x.to.length := fun h => by
    rw [insV_2 h] at hiv
    simp only [Bool.and_eq_true] at hiv
    have := hiv.2.2.2
    unfold targetsV at this
    rw [Bool.and_eq_true,decide_eq_true_iff] at this
    omega
   have hnn : st2.next = st.next + 1 := a7
   clear a1 a3 a4 a5 a6 a7 q2 har
   focus
    refine Es<|Lq (o2 u_3 rfl rfl) rfl<|Ld<|EvtL.seq ?_
    refine Ec rfl (fun g1 => ?_) (fun g1 => ?_)
    have h1 := dT g1
    exact absurd h1 (by omega)
    have h1 := dF g1
    refine EvtL.exit<|cond_t rfl<|Es<|Lq (of f_58_0 rfl) rfl<|Lo (OpL.load rfl rfl (loadOne_at ag_55 sz_55 ‹_› rfl)) rfl<|Ld<|EvtL.block<|Es ?_
    refine Lq (o2 u_55 rfl rfl) rfl<|qa rfl<|Ld ?_
    refine Ec rfl (fun g2 => ?_) (fun g2 => ?_)
    have h2 := dT g2
    refine EvtL.seq<|Es<|Lq (of f_58_1 rfl) rfl<|Lo (OpL.load rfl rfl (loadOne_at ag_3 sz_3 ‹_› rfl)) rfl<|qm rfl<|Lq (o2 u_3 rfl rfl) rfl<|Ld ?_
    refine Ec rfl (fun g3 => ?_) (fun g3 => ?_)
    have h3 := dT g3
    refine Es<|qa rfl<|Ld ?_
    refine EvtL.ret ⟨.inl rfl,rfl,‹_›,‹_›,_,_,_,(res_tmp rfl rfl),rfl,rfl,?_⟩
    refine boolRes ?_
    rotate_left
    have h3 := dF g3
    refine EvtL.skip<|EvtL.seq<|Es<|Lq (of f_58_2 rfl) rfl<|Lo (OpL.load rfl rfl (loadOne_at ag_56 sz_56 ‹_› rfl)) rfl<|Lq (ol u_56 rfl) rfl<|Lq (o2 u_3 rfl rfl) rfl<|Ld ?_
    refine Ec rfl (fun g4 => ?_) (fun g4 => ?_)
    have h4 := dT g4
    refine Es ?_
    refine Lo (OpL.callFn rfl rfl (by kernel_rfl) rfl (CallTo.memo (hit_10))) rfl<|qa rfl<|Ld ?_
    refine EvtL.ret ⟨.inl rfl,rfl,‹_›,‹_›,_,_,_,(res_tmp rfl rfl),rfl,rfl,?_⟩
    exact boolRes rfl
    have h4 := dF g4
    refine EvtL.skip<|EvtL.seqDrawN (by kernel_rfl)<|Nq (of f_58_2 rfl) rfl<|RegN.load rfl rfl (loadOne_at ag_56 sz_56 ‹_› rfl) rfl (.inl rfl) rfl rfl<|Nq (om rfl) rfl<|Nq (OpQ.convI rfl u_5 u_3 rfl ⟨by omega,by omega⟩) rfl<|Nq (of f_58_2 rfl) rfl<|RegN.load rfl rfl (loadOne_at ag_56 sz_56 ‹_› rfl) rfl (.inl rfl) rfl rfl ?_
    refine Nq (ol u_56 rfl) rfl<|Nq (OpQ.remN rfl u_3 rfl rfl (by omega)) rfl ?_
    rotate_left
    have h2 := dF g2
    refine Es<|Lq (o2 u_55 rfl rfl) rfl<|qa rfl<|Ld ?_
    refine Ec rfl (fun g5 => ?_) (fun g5 => ?_)
    have h5 := dT g5
    refine EvtL.drawN (by kernel_rfl)<|Nq (of f_58_3 rfl) rfl<|RegN.load rfl rfl (loadOne_at ag_26 sz_26 ‹_› rfl) rfl (.inl rfl) rfl rfl<|Nq (om rfl) rfl<|Nq (OpQ.convI rfl u_5 u_3 rfl ⟨by omega,by omega⟩) rfl<|Nq (of f_58_3 rfl) rfl<|RegN.load rfl rfl (loadOne_at ag_26 sz_26 ‹_› rfl) rfl (.inl rfl) rfl rfl<|Nq (ol u_26 rfl) rfl ?_
    refine Nq (OpQ.remN rfl u_3 rfl rfl (by omega)) rfl ?_
    rotate_left
    have h5 := dF g5
    refine EvtL.seq<|Es<|Lq (o2 u_55 rfl rfl) rfl<|qa rfl<|Ld ?_
    refine Ec rfl (fun g6 => ?_) (fun g6 => ?_)
    have h6 := dT g6
    refine EvtL.skip<|EvtL.condT rfl ‹_›<|EvtL.reg<|qm rfl ?_
    refine Lq (OpQ.addN (b := 1) rfl u_3 rfl rfl (by first | assumption | omega | (simp only [LL]; omega))) rfl ?_
    refine qm rfl<|Lq (OpQ.add rfl u_3 rfl rfl (by omega)) rfl ?_
    iterate 2 refine qa rfl ?_
    refine Ld<|EvtL.reg ?_
    refine Lq (OpQ.addN (b := 1) rfl u_3 rfl rfl (by first | assumption | omega | (simp only [LL]; omega))) rfl ?_
    refine qm rfl<|Ld ?_
    rotate_left
    have h6 := dF g6
    refine EvtL.reg<|Lq (o2 u_55 rfl rfl) rfl<|qa rfl<|Ld ?_
    refine Ec rfl (fun g7 => ?_) (fun g7 => ?_)
    have h7 := dT g7
    refine EvtL.reg<|qm rfl ?_
    refine Lq (OpQ.addN (b := 1) rfl u_3 rfl rfl (by first | assumption | omega | (simp only [LL]; omega))) rfl ?_
    refine qm rfl<|Lq (OpQ.add rfl u_3 rfl rfl (by omega)) rfl ?_
    iterate 2 refine qa rfl ?_
    refine Ld<|EvtL.reg ?_
    refine Lq (OpQ.addN (b := 1) rfl u_3 rfl rfl (by first | assumption | omega | (simp only [LL]; omega))) rfl ?_
    refine qm rfl<|Ld ?_
    rotate_left
    have h7 := dF g7
    refine Es<|Lq (o2 u_55 rfl rfl) rfl<|qa rfl<|Ld ?_
    refine Ec rfl (fun g8 => ?_) (fun g8 => ?_)
    have h8 := dT g8
    refine Es<|Lq (of f_58_1 rfl) rfl<|Lo (OpL.load rfl rfl (loadOne_at ag_3 sz_3 ‹_› rfl)) rfl<|qm rfl<|Lq (o2 u_3 rfl rfl) rfl<|qm rfl ?_
    refine Lb rfl (fun g9 => ?_) (fun g9 => ?_)
    have h9 := dT g9
    refine Lg rfl ‹_› (OpL.callFn rfl rfl (by kernel_rfl) rfl (CallTo.memo (hit_10)))<|Lq (oT rfl ‹_› rfl) rfl<|qa rfl<|Ld ?_
    refine EvtL.ret ⟨.inl rfl,rfl,‹_›,‹_›,_,_,_,(res_tmp rfl rfl),rfl,rfl,?_⟩
    exact boolRes rfl
    have h9 := dF g9
    refine Lk rfl ‹_›<|Lq (oF rfl ‹_› rfl) rfl<|qa rfl<|Ld ?_
    refine EvtL.ret ⟨.inl rfl,rfl,‹_›,‹_›,_,_,_,(res_tmp rfl rfl),rfl,rfl,?_⟩
    refine boolRes ?_
    rotate_left
    have h8 := dF g8
    refine Es ?_
    refine Lo (OpL.callFn rfl rfl (by kernel_rfl) rfl (CallTo.memo (hit_10))) rfl<|qa rfl<|Ld ?_
    refine EvtL.ret ⟨.inl rfl,rfl,‹_›,‹_›,_,_,_,(res_tmp rfl rfl),rfl,rfl,?_⟩
    exact boolRes rfl
   ·unfold safeV at hsf
    rw [if_pos (.inl h2),decide_eq_true_iff] at hsf
    exact absurd hsf (by omega)
   ·rw [insV_1 h2] at hiv
    simp only [Bool.and_eq_true] at hiv
    have hm : ws[i].1 % x.alts.length < x.alts.length := Nat.mod_lt _ (by omega)
    have hat := ra_at (n := x.alts.length) hiv.2.2.2 hm
    unfold altAt at hat
    rw [getD_at hm] at hat
    simp only [Bool.and_eq_true] at hat
    have h6 := inV_iff.1 hat.1.1
    have h7 := hst (x.alts[ws[i].1 % x.alts.length].2,n + arity c.cons x.alts[ws[i].1 % x.alts.length].1) (by
     unfold succs; rw [if_pos h2]; exact List.mem_map.2 ⟨_,List.getElem_mem hm,rfl⟩)
    have q6 := recs_idx encA_len hm
    clear hat hiv hst hto
    generalize x.alts[ws[i].1 % x.alts.length] = a at *
    obtain ⟨cn,tg⟩ := a
    dsimp only at h6 h7
    obtain ⟨cn,rfl⟩ : ∃ m : Nat,cn = m := ⟨cn.toNat,by omega⟩
    obtain ⟨tg,rfl⟩ : ∃ m : Nat,tg = m := ⟨tg.toNat,by omega⟩
    have hcn : cn < c.cons.length := by omega
    have q7 := recs_idx encN_len hcn
    have h8 := hc.cons _ (List.getElem_mem hcn)
    have h9 : arity c.cons (cn : Nat) = c.cons[cn].2 := by
     unfold arity
     rw [show ((cn : Nat) : Int).toNat = cn from rfl,show c.cons.getD cn ([],0) = c.cons[cn] from getD_at hcn]
    rw [h9] at h7
    obtain ⟨b1,b2,b3,b4,b5,b6,b7⟩ := copied (st := st2) (z := [.int .i64 0,.int .i64 0]) (cs := encA ((cn : Nat),(tg : Nat))) (T := 60)
    have hg3 := (b4 0 (by omega)).trans hg2
    have hb3 := b5.trans hbd
    have hl3 := (b6 (by omega)).trans hlog
    have hn3 := b7
    refine Nq (OpQ.indexAddrV rfl u_56 sz_60 rfl rfl ‹_›) rfl<|Nq (OpQ.loadI rfl rfl ag_60 sz_60 (Nat.le_of_ble_eq_true rfl)) rfl<|RegN.alloc rfl z_60 rfl rfl rfl rfl<|RegN.store (b := st2.next) (show (st2.alloc _).bound = 0 from hbd) (Nat.lt_succ_self _) rfl sz_60 rfl rfl b1 rfl rfl rfl (clear_all (by kernel_rfl)) (by kernel_rfl) (.inl rfl) rfl rfl<|RegN.done<|EvtL.drawN (by kernel_rfl)<|Nq (of f_60_1 rfl) rfl<|RegN.load rfl rfl (loadOne_at ag_3 sz_3 ‹_› rfl) rfl (.inl rfl) rfl rfl ?_
    refine Nq (om rfl) rfl<|Nq (of f_28_0 rfl) rfl<|Nq (of f_24_0 rfl) rfl<|RegN.load rfl rfl (loadOne_at ag_22 sz_22 ‹_› rfl) rfl (.inl rfl) rfl rfl<|Nq (of f_60_0 rfl) rfl<|RegN.load rfl rfl (loadOne_at ag_3 sz_3 ‹_› rfl) rfl (.inl rfl) rfl rfl<|Nq (OpQ.indexAddrV rfl u_22 sz_54 rfl rfl ‹_›) rfl<|Nq (OpQ.fieldAddrI rfl f_54_1 rfl (Nat.le_of_ble_eq_true rfl)) rfl ?_
    refine Nq (OpQ.loadI1 rfl rfl ag_3 sz_3) rfl<|Nq (OpQ.add rfl u_3 rfl rfl (by omega)) rfl ?_
    iterate 2 refine Nq (oa rfl) rfl ?_
    refine RegN.done<|EvtL.reg ?_
    refine Lq (OpQ.addN (b := 1) rfl u_3 rfl rfl (by first | assumption | omega | (simp only [LL]; omega))) rfl ?_
    refine qm rfl<|Ld ?_
    exact ⟨(i + 1,tg,n + c.cons[cn].2,_),⟨h,⟨Int.ofNat_lt.1 h7.2.1,h7.2.2.1.symm,h7.2.2.2.1,h7.2.2.2.2⟩,hg3,Nat.succ_pos _,hb3,hl3⟩,by show ws.length - (i + 1) < ws.length - i; omega,rfl,rfl,by (refine Am.sub_of ?_; repeat (first | exact trivial | refine ⟨rfl,?_⟩))⟩
   ·have h6 := hto h5
    have hm : ws[i].1 % x.to.length < x.to.length := Nat.mod_lt _ (by omega)
    have h7 := hst (x.to[ws[i].1 % x.to.length],n) (by
     unfold succs; rw [if_neg h2,if_pos h5]; exact List.mem_map.2 ⟨_,List.getElem_mem hm,rfl⟩)
    have q6 := recs_idx encZ_len hm
    clear hst hto hiv
    generalize x.to[ws[i].1 % x.to.length] = tg at *
    dsimp only at h7
    obtain ⟨tg,rfl⟩ : ∃ m : Nat,tg = m := ⟨tg.toNat,by omega⟩
    refine Nq (OpQ.indexAddrV rfl u_26 sz_3 rfl rfl ‹_›) rfl<|Nq (OpQ.loadI1 rfl rfl ag_3 sz_3) rfl<|Nq (oa rfl) rfl<|RegN.done<|EvtL.reg ?_
    refine Lq (OpQ.addN (b := 1) rfl u_3 rfl rfl (by first | assumption | omega | (simp only [LL]; omega))) rfl ?_
    refine qm rfl<|Ld ?_
    exact ⟨(i + 1,tg,n,st2),⟨h,⟨Int.ofNat_lt.1 h7.2.1,h7.2.2.1.symm,hn0,hn60⟩,hg2,(show 0 < st2.next by omega),hbd,hlog⟩,by show ws.length - (i + 1) < ws.length - i; omega,rfl,rfl,by (refine Am.sub_of ?_; repeat (first | exact trivial | refine ⟨rfl,?_⟩))⟩
   ·have h7 := hst (((k + 1 : Nat) : Int),n + 1) (by
     unfold succs; rw [if_neg h2,if_neg h5,if_pos (.inl h6)]; exact List.mem_singleton.2 rfl)
    dsimp only at h7
    exact ⟨(i + 1,k + 1,n + 1,st2),⟨h,⟨Int.ofNat_lt.1 h7.2.1,h7.2.2.1.symm,h7.2.2.2.1,h7.2.2.2.2⟩,hg2,(show 0 < st2.next by omega),hbd,hlog⟩,by show ws.length - (i + 1) < ws.length - i; omega,rfl,rfl,by (refine Am.sub_of ?_; repeat (first | exact trivial | refine ⟨rfl,?_⟩))⟩
   ·have h9 := hst (((k + 1 : Nat) : Int),n + 1) (by
     unfold succs; rw [if_neg h2,if_neg h5,if_pos (.inr h7)]; exact List.mem_singleton.2 rfl)
    dsimp only at h9
    exact ⟨(i + 1,k + 1,n + 1,st2),⟨h,⟨Int.ofNat_lt.1 h9.2.1,h9.2.2.1.symm,h9.2.2.2.1,h9.2.2.2.2⟩,hg2,(show 0 < st2.next by omega),hbd,hlog⟩,by show ws.length - (i + 1) < ws.length - i; omega,rfl,rfl,by (refine Am.sub_of ?_; repeat (first | exact trivial | refine ⟨rfl,?_⟩))⟩
   ·unfold safeV at hsf
    rw [if_pos (.inr h8),decide_eq_true_iff] at hsf
    exact absurd hsf h9
 ·focus
   refine Es<|Lq (o2 u_3 rfl rfl) rfl<|Ld<|EvtL.seq ?_
   refine Ec rfl (fun g1 => ?_) (fun g1 => ?_)
   have h1 := dT g1
   exact absurd h1 (by omega)
   have h1 := dF g1
   refine EvtL.exit<|cond_t rfl<|Es ?_
   refine Lo (OpL.callFn rfl rfl (by kernel_rfl) rfl (CallTo.memo (hit_10))) rfl<|qa rfl<|Ld ?_
   refine EvtL.ret ⟨.inl rfl,rfl,‹_›,‹_›,_,_,_,(res_tmp rfl rfl),rfl,rfl,?_⟩
   exact boolRes rfl
end Go.Proofs.YtpihdbhocgcbpaaGreatDoor

/- The law of walks,as a whole call. -/
open Go Am
namespace Go.Proofs.YtpihdbhocgcbpaaGreatDoor
section
variable {P : Program}
theorem data_u8 {t : TypeId} {l : List AV} (h : Am.Data P t l) (hu : P.underlying t = some (.int .u8)) : ∃ w : Fin 256,l = encB w := by
 cases h with
 | bool h => rw [hu] at h; cases h
 | int h hw =>
  rw [hu] at h; cases h
  rename_i n
  have hn : 0 ≤ n ∧ n < 256 := by
   have hw : (decide (0 ≤ n) && decide (n ≤ 255)) = true := hw
   rw [Bool.and_eq_true,decide_eq_true_iff,decide_eq_true_iff] at hw
   omega
  exact ⟨⟨n.toNat,by omega⟩,by unfold encB; rw [show ((n.toNat : Nat) : Int) = n from by omega]⟩
 | str h => rw [hu] at h; cases h
 | sl h => rw [hu] at h; cases h
 | st h => rw [hu] at h; cases h
end
theorem data_u8s {x : List AV} (h : Am.Data Tryz.prog 52 x) : ∃ l,x = [recs encB 1 l] := data_recs h (e := 5) (by kernel_rfl) (by kernel_rfl) fun _ h => data_u8 h (by kernel_rfl)
theorem walks_calls (h : KnownF Tryz.prog 10 [] (.bool true)) (w : World) (c : CodeT) (f : Fin 256) (ws : List (Fin 256)) {x y z : Value} (hx : VR (Cx.memory w) (.agg (encC c)) x) (hy : VR (Cx.memory w) (.int .u8 (f.1 : Nat)) y) (hz : VR (Cx.memory w) (recs encB 1 ws) z) :
  Calls Tryz.prog 7 #[x,y,z] w fun e w' => e = .returned (.bool true) ∧ Go.RowKit.Below w.heap.size w w' :=
 calls_of progOk (all23 h) (args := [.agg (encC c),.int .u8 (f.1 : Nat),recs encB 1 ws]) (by rfl) (walks_to c f ws) (.cons hx (.cons hy (.cons hz .nil)))
end Go.Proofs.YtpihdbhocgcbpaaGreatDoor
