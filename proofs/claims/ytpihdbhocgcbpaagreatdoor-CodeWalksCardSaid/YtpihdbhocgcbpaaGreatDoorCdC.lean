/- Code: the law of forms. -/
import Derived.Test.YtpihdbhocgcbpaaGreatDoorCdB
import Derived.Test.YtpihdbhocgcbpaaGreatDoorAmG
set_option linter.unusedSectionVars false
set_option linter.unusedVariables false
set_option linter.unusedSimpArgs false

/- math/bits.Mul of 1. -/
open Go Am
namespace Go.Proofs.YtpihdbhocgcbpaaGreatDoor
theorem mul64_to (n : Nat) (hn : n ≤ 4000) : CallTo (EK K17) 160 [.int .u64 ((1 : Nat) : Int),.int .u64 (n : Nat)] S0 (.tuple [.int .u64 0,.int .u64 (n : Nat)]) := by
 refine CallTo.s0 (fn := Tryz.f160) rfl rfl (by kernel_rfl) rfl rfl rfl rfl ?_
 have a1 : some (bitsA (fun _ x y => x &&& y) .u64 ((1 : Nat) : Int) 4294967295) = some (.int .u64 ((1 : Nat) : Int)) := congrArg some (and_mask (n := 1) (by omega))
 have a2 : some (bitsA (fun _ x y => x &&& y) .u64 (n : Nat) 4294967295) = some (.int .u64 (n : Nat)) := congrArg some (and_mask (by omega))
 have a3 : some (bitsA (fun _ x y => x &&& y) .u64 ((0 : Nat) : Int) 4294967295) = some (.int .u64 ((0 : Nat) : Int)) := congrArg some (and_mask (n := 0) (by omega))
 have s1 : shrA .u64 ((1 : Nat) : Int) 32 = some (.int .u64 ((0 : Nat) : Int)) := shr_small (n := 1) (by omega)
 have s2 : shrA .u64 (n : Nat) 32 = some (.int .u64 ((0 : Nat) : Int)) := shr_small (by omega)
 have s3 : shrA .u64 ((0 : Nat) : Int) 32 = some (.int .u64 ((0 : Nat) : Int)) := shr_small (n := 0) (by omega)
 have m1 : some (wrapI .u64 (((1 : Nat) : Int) * (n : Nat))) = some (.int .u64 (n : Nat)) := by rw [show ((1 : Nat) : Int) * (n : Nat) = (n : Nat) by omega,wrapU_in (by omega) (by omega)]
 have m2 : some (wrapI .u64 (((0 : Nat) : Int) * (n : Nat))) = some (.int .u64 ((0 : Nat) : Int)) := by rw [show ((0 : Nat) : Int) * (n : Nat) = ((0 : Nat) : Int) by omega]; rfl
 have m3 : some (wrapI .u64 (((1 : Nat) : Int) * ((0 : Nat) : Int))) = some (.int .u64 ((0 : Nat) : Int)) := rfl
 have m4 : some (wrapI .u64 (((0 : Nat) : Int) * ((0 : Nat) : Int))) = some (.int .u64 ((0 : Nat) : Int)) := rfl
 have p1 : some (wrapI .u64 (((0 : Nat) : Int) + ((0 : Nat) : Int))) = some (.int .u64 ((0 : Nat) : Int)) := rfl
 refine Es ?_
 iterate 2 refine qa rfl ?_
 refine Ld<|Es<|qm rfl<|Lq (OpQ.int2 rfl u_253 rfl rfl rfl ‹_›) rfl<|qa rfl<|Ld<|Es<|qm rfl ?_
 refine Lq (OpQ.shr rfl u_253 rfl rfl ‹_›) rfl<|qa rfl<|Ld<|Es<|qm rfl<|Lq (OpQ.int2 rfl u_253 rfl rfl rfl ‹_›) rfl<|qa rfl<|Ld ?_
 refine Es<|qm rfl<|Lq (OpQ.shr rfl u_253 rfl rfl ‹_›) rfl<|qa rfl<|Ld<|Es ?_
 iterate 2 refine qm rfl ?_
 refine Lq (OpQ.int2 rfl u_253 rfl rfl rfl ‹_›) rfl<|qa rfl<|Ld<|Es ?_
 iterate 2 refine qm rfl ?_
 refine Lq (OpQ.int2 rfl u_253 rfl rfl rfl ‹_›) rfl<|qm rfl<|Lq (OpQ.shr rfl u_253 rfl rfl ‹_›) rfl<|Lq (OpQ.int2 rfl u_253 rfl rfl rfl ‹_›) rfl<|qa rfl<|Ld<|Es<|qm rfl ?_
 refine Lq (OpQ.int2 rfl u_253 rfl rfl rfl ‹_›) rfl<|qa rfl<|Ld<|Es<|qm rfl<|Lq (OpQ.shr rfl u_253 rfl rfl ‹_›) rfl<|qa rfl<|Ld ?_
 refine Es ?_
 iterate 3 refine qm rfl ?_
 iterate 2 refine Lq (OpQ.int2 rfl u_253 rfl rfl rfl ‹_›) rfl ?_
 refine qa rfl<|Ld<|Es ?_
 iterate 2 refine qm rfl ?_
 refine Lq (OpQ.int2 rfl u_253 rfl rfl rfl ‹_›) rfl<|qm rfl<|Lq (OpQ.int2 rfl u_253 rfl rfl rfl ‹_›) rfl<|qm rfl<|Lq (OpQ.shr rfl u_253 rfl rfl ‹_›) rfl<|Lq (OpQ.int2 rfl u_253 rfl rfl rfl ‹_›) rfl<|qa rfl<|Ld ?_
 refine Es ?_
 iterate 2 refine qm rfl ?_
 refine Lq (OpQ.int2 rfl u_253 rfl rfl rfl ‹_›) rfl<|qa rfl<|Ld ?_
 refine EvtL.ret ⟨.inl rfl,rfl,rfl,rfl,_,_,_,(res_tmp rfl (res_tmp rfl rfl)),rfl,rfl,?_⟩
 rfl
abbrev SmallN := { n : Nat // n ≤ 4000 }
noncomputable def K18a := addC K17 160 (fun n : SmallN => [.int .u64 ((1 : Nat) : Int),.int .u64 (n.1 : Nat)]) (fun n => .tuple [.int .u64 0,.int .u64 (n.1 : Nat)])
theorem smallN_inj {a b : SmallN} (h : ([.int .u64 ((1 : Nat) : Int),.int .u64 (a.1 : Nat)] : List AV) = [.int .u64 ((1 : Nat) : Int),.int .u64 (b.1 : Nat)]) : a = b := by
 simp only [List.cons.injEq,and_true,AV.int.injEq,true_and] at h
 exact Subtype.ext (by omega)
theorem hit_160 {n : Nat} (h : n ≤ 4000) : K18a 160 [.int .u64 ((1 : Nat) : Int),.int .u64 (n : Nat)] = some (.tuple [.int .u64 0,.int .u64 (n : Nat)]) :=
 addC_hit (f := 160) (enc := fun n : SmallN => [.int .u64 ((1 : Nat) : Int),.int .u64 (n.1 : Nat)]) (res := fun n => .tuple [.int .u64 0,.int .u64 (n.1 : Nat)]) (fun a b h => by rw [smallN_inj h]) ⟨n,h⟩
theorem mul_to (n : Nat) (hn : n ≤ 4000) : CallTo (EK K18a) 119 [.int .u64 ((1 : Nat) : Int),.int .u64 (n : Nat)] S0 (.tuple [.int .u64 0,.int .u64 (n : Nat)]) := by
 refine CallTo.s0 (fn := Tryz.f119) rfl rfl (by kernel_rfl) rfl rfl rfl rfl<|Es ?_
 iterate 2 refine qa rfl ?_
 refine Ld<|EvtL.seq<|EvtL.condF rfl rfl<|EvtL.skip<|Es ?_
 iterate 2 refine qm rfl ?_
 refine Lo (OpL.callFn rfl rfl (by kernel_rfl) rfl (CallTo.memo (hit_160 (by first | assumption | omega | (simp only [LL]; omega))))) rfl ?_
 refine qm rfl ?_
 iterate 2 refine Lq (oe rfl) rfl ?_
 iterate 2 refine qa rfl ?_
 refine Ld<|Es ?_
 iterate 2 refine qm rfl ?_
 iterate 2 refine qa rfl ?_
 refine Ld ?_
 refine EvtL.ret ⟨.inl rfl,rfl,rfl,rfl,_,_,_,(res_tmp rfl (res_tmp rfl rfl)),rfl,rfl,?_⟩
 rfl
noncomputable def K18 := addC K18a 119 (fun n : SmallN => [.int .u64 ((1 : Nat) : Int),.int .u64 (n.1 : Nat)]) (fun n => .tuple [.int .u64 0,.int .u64 (n.1 : Nat)])
theorem hit_119 {n : Nat} (h : n ≤ 4000) : K18 119 [.int .u64 ((1 : Nat) : Int),.int .u64 (n : Nat)] = some (.tuple [.int .u64 0,.int .u64 (n : Nat)]) :=
 addC_hit (f := 119) (enc := fun n : SmallN => [.int .u64 ((1 : Nat) : Int),.int .u64 (n.1 : Nat)]) (res := fun n => .tuple [.int .u64 0,.int .u64 (n.1 : Nat)]) (fun a b h => by rw [smallN_inj h]) ⟨n,h⟩
theorem beforeA_closed (c : CodeT) : closedV 40 (beforeA c) = true := by
 unfold beforeA
 cases beforeV c with
 | none => rfl
 | some S => unfold outA; dsimp only; cases Nat.beq S.length 0 <;> rfl
theorem all18 (h : KnownF Tryz.prog 10 [] (.bool true)) : KnownAll Tryz.prog K18 :=
 addC_all progOk (addC_all progOk (all17 h) (fun n : SmallN => mul64_to n.1 n.2) (fun _ => rfl) (fun _ => rfl)) (fun n : SmallN => mul_to n.1 n.2) (fun _ => rfl) (fun _ => rfl)
theorem regs2_to (l : List Int) : CallTo (EK K18) 342 [.agg [recs encZ 1 l]] S0 .nilslice := by
 refine CallTo.s0 (fn := Tryz.f342) rfl rfl (by kernel_rfl) rfl rfl rfl rfl<|Es<|Lo (OpL.boxS 1 rfl rfl rfl rfl) rfl<|qa rfl<|Ld<|Es<|qa rfl<|Ld ?_
 refine EvtL.ret (Er rfl ?_)
 rfl
noncomputable def K18b := addC K18 342 (fun l : List Int => [.agg [recs encZ 1 l]]) (fun _ => .nilslice)
theorem hit_342 {l : List Int} : K18b 342 [.agg [recs encZ 1 l]] = some .nilslice :=
 addC_hit (f := 342) (enc := fun l : List Int => [.agg [recs encZ 1 l]]) (res := fun _ => .nilslice) (fun _ _ _ => rfl) l
theorem regs3_to : CallTo (EK K18b) 345 [.agg []] S0 .nilslice := by
 refine CallTo.s0 (fn := Tryz.f345) rfl rfl (by kernel_rfl) rfl rfl rfl rfl<|Es<|Lo (OpL.boxS 1 rfl rfl rfl rfl) rfl<|qa rfl<|Ld<|Es<|qa rfl<|Ld ?_
 refine EvtL.ret (Er rfl ?_)
 rfl
noncomputable def K18c := addC K18b 345 (fun _ : Unit => [.agg []]) (fun _ => .nilslice)
theorem hit_345 : K18c 345 [.agg []] = some .nilslice :=
 addC_hit (f := 345) (enc := fun _ : Unit => [.agg []]) (res := fun _ => .nilslice) (fun _ _ _ => rfl) ()
theorem regs4_to : CallTo (EK K18c) 346 [.agg []] S0 .nilslice := by
 refine CallTo.s0 (fn := Tryz.f346) rfl rfl (by kernel_rfl) rfl rfl rfl rfl<|Es<|Lo (OpL.boxS 1 rfl rfl rfl rfl) rfl<|qa rfl<|Ld<|Es<|qa rfl<|Ld ?_
 refine EvtL.ret (Er rfl ?_)
 rfl
noncomputable def K18d := addC K18c 346 (fun _ : Unit => [.agg []]) (fun _ => .nilslice)
theorem hit_346 : K18d 346 [.agg []] = some .nilslice :=
 addC_hit (f := 346) (enc := fun _ : Unit => [.agg []]) (res := fun _ => .nilslice) (fun _ _ _ => rfl) ()
theorem regs5_to (o n : Int) (l : List Int) : CallTo (EK K18d) 343 [encM o n l] S0 (recs encZ 1 l) := by
 refine CallTo.s0 (fn := Tryz.f343) rfl rfl (by kernel_rfl) rfl rfl rfl rfl<|Es<|Lo (OpL.boxS 1 rfl rfl rfl rfl) rfl<|qa rfl<|Ld<|Es<|Lq (of f_119_2 rfl) rfl<|Lo (l1 ag_26 sz_26 rfl) rfl ?_
 refine qa rfl<|Ld ?_
 refine EvtL.ret (Er rfl ?_)
 all_goals rfl
noncomputable def K18e := addC K18d 343 (fun p : Int × Int × List Int => [encM p.1 p.2.1 p.2.2]) (fun p => recs encZ 1 p.2.2)
theorem hit_343 {o n : Int} {l : List Int} : K18e 343 [encM o n l] = some (recs encZ 1 l) :=
 addC_hit (f := 343) (enc := fun p : Int × Int × List Int => [encM p.1 p.2.1 p.2.2]) (res := fun p => recs encZ 1 p.2.2) (by
  rintro ⟨a,b,c⟩ ⟨d,e,f⟩ h
  simp only [List.cons.injEq,and_true,AV.agg.injEq,encM,AV.int.injEq,true_and] at h
  rw [h.2.2]) (o,n,l)
theorem all18e (h : KnownF Tryz.prog 10 [] (.bool true)) : KnownAll Tryz.prog K18e :=
 addC_all progOk (addC_all progOk (addC_all progOk (addC_all progOk (all18 h) (fun l => regs2_to l) (fun _ => rfl) (fun _ => rfl)) (fun _ => regs3_to) (fun _ => rfl) (fun _ => rfl)) (fun _ => regs4_to) (fun _ => rfl) (fun _ => rfl))
  (fun p : Int × Int × List Int => regs5_to p.1 p.2.1 p.2.2) (fun _ => rfl) (fun _ => rfl)
end Go.Proofs.YtpihdbhocgcbpaaGreatDoor

/- slices.Repeat. -/
open Go Am
namespace Go.Proofs.YtpihdbhocgcbpaaGreatDoor
def MR : Nat := 2 ^ 68
noncomputable abbrev ER : Env := EKm MR K18e
def OutR (s : St) (v : AV) (l : List Int) : Prop := (v = .nilslice ∧ l = []) ∨ ∃ b,v = .slice b 0 l.length 1 (some l.length) ∧ b < s.next ∧ s.heap.get b = some (.cells (zs l) 3 false) ∧ l ≠ []
def halfZ (n k : Nat) : List AV := zs (List.replicate k (-1) ++ List.replicate (n - k) 0)
theorem zs_app (a b : List Int) : zs (a ++ b) = zs a ++ zs b := List.map_append ..
theorem halfZ_split {n k m : Nat} (h : k + m ≤ n) : halfZ n k = zs (List.replicate k (-1)) ++ (zs (List.replicate m 0) ++ zs (List.replicate (n - k - m) 0)) := by
 unfold halfZ
 rw [zs_app,← zs_app (List.replicate m 0),List.replicate_append_replicate,show m + (n - k - m) = n - k by omega]
theorem halfZ_next {n k m : Nat} : zs (List.replicate k (-1)) ++ (zs (List.replicate m (-1)) ++ zs (List.replicate (n - k - m) 0)) = halfZ n (k + m) := by
 unfold halfZ
 rw [← List.append_assoc,← zs_app,← zs_app,List.replicate_append_replicate,Nat.sub_sub]
theorem repeat_run {st : St} {b n : Nat} (hg : st.heap.get b = some (.cells [.int .i64 (-1)] 3 false)) (hb : b < st.next) (hn : n ≤ 4000) {R : AV → St → Prop}
  (hR : ∀ st' v,OutR st' v (List.replicate n (-1)) → (∀ d,ownB d v = true → st.next ≤ d) → Chg st st' (fun _ => False) → R v st') : RunsV ER 68 [.slice b 0 1 1 (some 1),.int .i64 (n : Nat)] st R := by
 refine RunsV.gen (fn := Tryz.f68) rfl (by kernel_rfl) rfl rfl rfl rfl ?_
 focus
  refine Es<|qa rfl<|Ld<|EvtL.seq<|Es<|qm rfl<|Lq (o2 u_3 rfl rfl) rfl<|Ld ?_
  refine EvtL.condF rfl rfl<|EvtL.skip<|Es<|qm rfl<|Lq (OpQ.lenSlM rfl rfl rfl rfl u_26 rfl) rfl<|Lq (OpQ.convU rfl u_3 u_212 rfl ⟨by omega,by omega⟩) rfl<|qm rfl<|Lq (OpQ.convU rfl u_3 u_212 rfl ⟨by omega,by omega⟩) rfl ?_
  refine Lo (OpL.callFn rfl rfl (by kernel_rfl) rfl (CallTo.memo (hit_119 (by first | assumption | omega | (simp only [LL]; omega))))) rfl ?_
  refine qm rfl ?_
  iterate 2 refine Lq (oe rfl) rfl ?_
  iterate 2 refine qa rfl ?_
  refine Ld<|EvtL.seq<|Es<|qm rfl<|Lq (o2 u_212 rfl rfl) rfl<|qm rfl<|Lh rfl rfl (om rfl)<|Lh rfl rfl (o2 u_212 rfl rfl) ?_
  refine Lq (oF rfl rfl rfl) rfl<|Ld ?_
  refine Ec rfl (fun g1 => ?_) (fun g1 => ?_)
  have h1 := dT g1
  exact absurd h1 (by omega)
  have h1 := dF g1
  refine EvtL.skip<|Es<|qm rfl<|Lq (OpQ.convI rfl u_212 u_3 rfl ⟨by omega,by omega⟩) rfl ?_
  rotate_left
 by_cases h0 : n = 0
 ·subst h0
  refine Lq (OpQ.makeSlice0 rfl u_26 sz_3 by_3 z_3 rfl rfl rfl) rfl<|qa rfl<|Ld<|Es ?_
  iterate 2 refine qm rfl ?_
  have hg' : st.enter.heap.get b = some (.cells ([] ++ ([.int .i64 (-1)] ++ [])) 3 false) := hg
  refine Lo (OpL.copy rfl rfl rfl rfl u_26 sz_3 rfl rfl (appended_sl hg' rfl rfl) rfl) rfl<|qa rfl<|Ld<|EvtL.seq<|EvtL.block<|EvtL.loop<|EvtL.seq<|Es ?_
  iterate 2 refine qm rfl ?_
  refine Lq (OpQ.lenNil rfl rfl rfl rfl u_26 rfl) rfl<|Lq (o2 u_3 rfl rfl) rfl<|Ld<|EvtL.condF rfl rfl<|EvtL.exit<|cond_t rfl<|Es<|qm rfl ?_
  refine qa rfl<|Ld<|EvtL.ret ?_
  exact ⟨.inl rfl,_,rfl,_,res_tmp rfl rfl,_,leave_flat (fun _ _ => rfl) (fun _ => rfl) rfl,hR st _ (.inl ⟨rfl,rfl⟩) (fun d h => by cases h) Chg.refl⟩
 refine Lo (OpL.makeSlice rfl u_26 sz_3 by_3 z_3 rfl rfl rfl h0 (small_ok (by omega) (by decide))) rfl ?_
 have hz : repeatA (AV.int .i64 0).cells n = halfZ n 0 := by
  show repeatA [AV.int .i64 0] n = _
  rw [repeat_one]
  unfold halfZ zs
  simp
 rw [hz]
 have hnew := get_new (st := st.enter) (ob := .cells (halfZ n 0) 3 false)
 have hold := fun c hc => get_old (st := st.enter) (ob := .cells (halfZ n 0) 3 false) (c := c) hc
 have hb1 : (st.enter.alloc (.cells (halfZ n 0) 3 false)).bound = st.next := rfl
 have hl1 : (st.enter.alloc (.cells (halfZ n 0) 3 false)).log = [] := rfl
 have hn1 : (st.enter.alloc (.cells (halfZ n 0) 3 false)).next = st.next + 1 := rfl
 generalize st.enter.alloc (.cells (halfZ n 0) 3 false) = st1 at *
 refine qa rfl<|Ld<|Es ?_
 iterate 2 refine qm rfl ?_
 have hg1 : st1.heap.get b = some (.cells ([] ++ ([.int .i64 (-1)] ++ [])) 3 false) := (hold b hb).trans hg
 have hnew0 : st1.heap.get st.next = some (.cells ([] ++ (zs (List.replicate 1 0) ++ zs (List.replicate (n - 0 - 1) 0))) 3 false) := by
  have := halfZ_split (n := n) (k := 0) (m := 1) (by omega)
  rw [← show halfZ n 0 = [] ++ (zs (List.replicate 1 0) ++ zs (List.replicate (n - 0 - 1) 0)) from this]
  exact hnew
 have hcp := copy_sl (s := st1) (len := n) (cap := some n) (m := 1) (src := [.int .i64 (-1)]) hnew0 rfl (show 1 = min 1 n by omega) rfl
 refine Lo (OpL.copy rfl rfl rfl rfl u_26 sz_3 rfl rfl (appended_sl hg1 rfl rfl) hcp) rfl ?_
 have hnx : st.enter.next = st.next := rfl
 have e1 : ([] ++ (List.take 1 [AV.int .i64 (-1)] ++ zs (List.replicate (n - 0 - 1) 0))) = halfZ n 1 := halfZ_next (n := n) (k := 0) (m := 1)
 rw [e1]
 have hl2 : (st1.put st.next (some (.cells (halfZ n 1) 3 false))).log = [] := by
  show (bif Nat.blt st.next st1.bound then _ else st1.log) = []
  rw [hb1]
  have : Nat.blt st.next st.next = false := by
   cases hb : Nat.blt st.next st.next with
   | false => rfl
   | true => have : st.next < st.next := Nat.le_of_ble_eq_true hb; omega
  rw [this]; exact hl1
 refine qa rfl<|Ld<|EvtL.seq<|EvtL.block ?_
 refine EvtL.loopI (fun y : Nat × St => ([(8,.int .i64 (y.1 : Nat)),(7,.slice st.next 0 n 1 (some n))],y.2)) (fun y => n - y.1)
  (fun y => 1 ≤ y.1 ∧ y.1 ≤ n ∧ y.2.heap.get st.next = some (.cells (halfZ n y.1) 3 false) ∧ (∀ c,c < st.next → y.2.heap.get c = st.heap.get c) ∧ y.2.next = st.next + 1 ∧ y.2.bound = st.next ∧ y.2.log = [])
  (1,st1.put st.next (some (.cells (halfZ n 1) 3 false))) ⟨Nat.le_refl _,by show 1 ≤ n; omega,by rw [get_putS,if_pos rfl],fun c hc => by rw [get_putS,if_neg (by omega)]; exact hold c hc,hn1,hb1,hl2⟩ rfl (by (refine Am.sub_of ?_; repeat (first | exact trivial | refine ⟨rfl,?_⟩))) ?_
 clear hnew hold hb1 hl1 hn1 hg1 hnew0 hcp hl2
 rintro ⟨k,st2⟩ ⟨hk1,hkn,hg2,hold,hn2,hb2,hl2⟩
 dsimp only at hk1 hkn hg2 hold hn2 hb2 hl2 ⊢
 by_cases h : k < n
 ·have hsl : (zs (List.replicate k (-1))).length = k := by rw [zs_len,List.length_replicate]
  have hm0 : k + min k (n - k) ≤ n := by omega
  have hgA : (st2.sub st2.heap).heap.get st.next = some (.cells ([] ++ (zs (List.replicate k (-1)) ++ zs (List.replicate (n - k) 0))) 3 false) := by
   show st2.heap.get st.next = _
   rw [hg2]; unfold halfZ; rw [zs_app]; rfl
  have hgB : (st2.sub st2.heap).heap.get st.next = some (.cells (zs (List.replicate k (-1)) ++ (zs (List.replicate (min k (n - k)) 0) ++ zs (List.replicate (n - k - min k (n - k)) 0))) 3 false) := by
   show st2.heap.get st.next = _
   rw [hg2,halfZ_split hm0]
  have hap : appendedV (st2.sub st2.heap) 1 (.slice st.next 0 k 1 (some n)) = some (zs (List.replicate k (-1)),(zs (List.replicate k (-1))).length) := by
   rw [hsl]; exact appended_sl hgA rfl hsl.symm
  have hcp := copy_sl (s := st2.sub st2.heap) (off := k) (len := n - k) (cap := some (n - k)) (m := min k (n - k)) (src := zs (List.replicate k (-1))) hgB hsl.symm (by rw [hsl]) (by rw [zs_len,List.length_replicate])
  have htk : (zs (List.replicate k (-1))).take (min k (n - k)) = zs (List.replicate (min k (n - k)) (-1)) := by
   unfold zs
   rw [← List.map_take,List.take_replicate,Nat.min_eq_left (Nat.min_le_left _ _)]
  rw [htk,halfZ_next] at hcp
  have hlt : st.next < st2.next := by omega
  obtain ⟨mg,mn,mb,ml⟩ := merged_put (st := st2) (ob := .cells (halfZ n (k + min k (n - k))) 3 false) hlt
  focus
   refine EvtL.seq<|Es ?_
   iterate 2 refine qm rfl ?_
   refine Lq (OpQ.lenSlM rfl rfl rfl rfl u_26 rfl) rfl<|Lq (o2 u_3 rfl rfl) rfl<|Ld ?_
   refine Ec rfl (fun g2 => ?_) (fun g2 => ?_)
   have h2 := dT g2
   refine EvtL.skip<|EvtL.block<|EvtL.drawN (by kernel_rfl) ?_
   iterate 3 refine Nq (om rfl) rfl ?_
   rotate_left
   have h2 := dF g2
   exact absurd h2 (by omega)
  refine RegN.sliceM rfl u_26 sz_3 rfl rfl rfl rfl (fun s' hs => slice_from (hs.trans hg2) h) rfl (.inl rfl) rfl rfl ?_
  iterate 2 refine Nq (om rfl) rfl ?_
  refine RegN.sliceM rfl u_26 sz_3 rfl rfl rfl rfl (fun s' hs => slice_to (hs.trans hg2) hkn h0) rfl (.inl rfl) rfl rfl<|RegN.copyM rfl rfl rfl rfl u_26 sz_3 rfl rfl hap hcp hlt (by kernel_rfl) rfl (.inl rfl) rfl rfl fun nl2 => ?_
  generalize st2.merged ((st2.sub st2.heap).put st.next (some (.cells (halfZ n (k + min k (n - k))) 3 false))) = st3 at *
  refine Nq (OpQ.addN rfl u_3 rfl rfl (by first | assumption | omega | (simp only [LL]; omega))) rfl ?_
  refine Nq (oa rfl) rfl<|RegN.done ?_
  refine ⟨(k + min k (n - k),st3),⟨by show 1 ≤ k + _; omega,hm0,by rw [mg,if_pos rfl],fun c hc => by rw [mg,if_neg (by omega)]; exact hold c hc,mn.trans hn2,mb.trans hb2,?_⟩,by show n - (k + min k (n - k)) < n - k; omega,rfl,rfl,by (refine Am.sub_of ?_; repeat (first | exact trivial | refine ⟨rfl,?_⟩))⟩
  refine List.eq_nil_iff_forall_not_mem.2 fun c hc => ?_
  rcases ml c hc with h | ⟨h1,h2⟩
  ·rw [hl2] at h; cases h
  ·omega
 ·obtain rfl : k = n := by omega
  focus
   refine EvtL.seq<|Es ?_
   iterate 2 refine qm rfl ?_
   refine Lq (OpQ.lenSlM rfl rfl rfl rfl u_26 rfl) rfl<|Lq (o2 u_3 rfl rfl) rfl<|Ld ?_
   refine Ec rfl (fun g2 => ?_) (fun g2 => ?_)
   have h2 := dT g2
   exact absurd h2 (by omega)
   have h2 := dF g2
   refine EvtL.exit<|cond_t rfl<|Es<|qm rfl<|qa rfl<|Ld ?_
   rotate_left
  refine EvtL.ret ?_
  have hhalf : halfZ k k = zs (List.replicate k (-1)) := by unfold halfZ; rw [Nat.sub_self,List.replicate_zero,List.append_nil]
  have hlen : (List.replicate k (-1 : Int)).length = k := List.length_replicate
  refine ⟨.inl rfl,st2,rfl,_,res_tmp rfl rfl,_,leave_new (f := 68) rfl hl2 ?_,hR _ _ (.inr ⟨st.next,?_,?_,?_,?_⟩) (fun d hd => Nat.le_of_eq (Nat.eq_of_beq_eq_true hd)) ?_⟩
  ·show Nat.blt st.next st.next = false
   cases hb : Nat.blt st.next st.next with
   | false => rfl
   | true => have : st.next < st.next := Nat.le_of_ble_eq_true hb; omega
  ·rw [hlen]; rfl
  ·show st.next < st2.next
   omega
  ·rw [← hhalf]; exact hg2
  ·intro h
   have := congrArg List.length h
   rw [hlen] at this
   exact h0 this
  ·exact ⟨by show st.next ≤ st2.next; omega,rfl,fun c hc => by
    have hc' : c ∈ below st.bound st2.log st.log := hc
    rw [hl2] at hc'; exact .inl hc',fun c hc _ => hold c hc⟩
end Go.Proofs.YtpihdbhocgcbpaaGreatDoor

/- code.before: one step. -/
open Go Am
namespace Go.Proofs.YtpihdbhocgcbpaaGreatDoor
def reachB (out : List Int) (k : Nat) (r : Int) : Bool := decide ((out.length : Int) ≤ (k : Nat)) || ((decide (0 ≤ oA out k) && !decide (oA out k = r)) || decide (60 < r))
theorem reach_run {st : St} {b4 : Nat} {v : AV} {out : List Int} (hg4 : st.heap.get b4 = some (.cells [v] 26 false)) (ho : OutR st v out) (hl : out.length ≤ 4000) (k : Nat) (r : Int) {R : AV → St → Prop} (hF : reachB out k r = true → R (.bool false) st)
  (hT : reachB out k r = false → ∀ st',OutR st' v (out.set k r) → Chg st st' (fun c => ownB c v = true) → st'.next = st.next → ((∀ d,ownB d v = true → d < st.bound) → st'.log ≠ []) → (∀ c,c < st.bound → c ∉ st'.log → st'.heap.get c = st.heap.get c) → R (.bool true) st') : RunsV ER 69 [.int .i64 (k : Nat),.int .i64 r,.ptr b4 0] st R := by
 refine RunsV.gen (fn := Tryz.f69) rfl (by kernel_rfl) rfl rfl rfl rfl ?_
 have hg4' : st.enter.heap.get b4 = some (.cells [v] 26 false) := hg4
 have hlen : Am.lenSl v = some (.int .i64 (out.length : Nat)) := by
  rcases ho with ⟨rfl,rfl⟩ | ⟨b,rfl,_⟩ <;> rfl
 by_cases hk : k < out.length
 ·rcases ho with ⟨_,rfl⟩ | ⟨b,rfl,hb,hgb,hne⟩
  ·cases hk
  have hgb' : st.enter.heap.get b = some (.cells (zs out) 3 false) := hgb
  have hkl : 0 + k * (0 + 1) < (zs out).length := by rw [zs_len]; omega
  have hset : (zs out).set k (.int .i64 r) = zs (out.set k r) := zs_set
  have hld : loadC ER 3 st.enter (.ptr b (0 + k * (0 + 1))) = some (.int .i64 (oA out k)) :=
   loadOne_at ag_3 sz_3 hgb' (by rw [Nat.zero_add,Nat.mul_one]; exact zs_at hk)
  have hend : reachB out k r = false → R (.bool true) (st.back (st.enter.put b (some (.cells (zs (out.set k r)) 3 false)))) := fun h =>
   hT h _ (.inr ⟨b,by rw [List.length_set],hb,by
    show (st.enter.put b _).heap.get b = _
    rw [get_putS,if_pos rfl],by
    intro e
    exact hne (by simpa using congrArg List.length e)⟩) ⟨Nat.le_refl _,rfl,fun c hc => by
    rcases mem_below (show c ∈ below st.bound (st.enter.put b _).log st.log from hc) with h | ⟨h,h2⟩
    ·exact .inl h
    ·rcases mem_put h with h | ⟨rfl,_⟩
     ·cases h
     ·exact .inr ⟨h2,Nat.beq_refl _⟩,fun c hc ho => by
    show (st.enter.put b _).heap.get c = _
    rw [get_putS,if_neg (fun e => ho (by rw [e]; exact Nat.beq_refl b))]; rfl⟩ rfl (fun h => back_ne (mem_put_self hb) (h b (Nat.beq_refl b))) fun c hc hno => by
    show (st.enter.put b _).heap.get c = _
    rw [get_putS]
    split
    ·next e =>
     subst e
     exact absurd (mem_below_of (n := st.bound) (l := st.log) (mem_put_self (s := st.enter) hb) hc) hno
    ·rfl
  focus
   refine Es<|qa rfl<|Ld<|EvtL.seq<|Es<|qm rfl<|Lo (OpL.load rfl rfl (loadOne_at ag_26 sz_26 ‹_› rfl)) rfl<|Lq (OpQ.lenSlM rfl rfl rfl rfl u_26 rfl) rfl ?_
   refine Lq (o2 u_3 rfl rfl) rfl<|qm rfl ?_
   refine Lb rfl (fun g1 => ?_) (fun g1 => ?_)
   have h1 := dT g1
   exact absurd h1 (by omega)
   have h1 := dF g1
   refine Lg rfl ‹_› (OpL.load rfl rfl (loadOne_at ag_26 sz_26 ‹_› rfl))<|Lh rfl ‹_› (om rfl) ?_
   refine Lh rfl ‹_› (OpQ.indexAddrM rfl u_26 sz_3 rfl rfl (by first | assumption | omega | (simp only [LL]; omega))) ?_
   refine Lg rfl ‹_› (OpL.load rfl rfl ‹_›)<|Lh rfl ‹_› (o2 u_3 rfl rfl)<|Lh rfl ‹_› (om rfl) ?_
   refine Lb rfl (fun g2 => ?_) (fun g2 => ?_)
   have h2 := dT g2
   refine Lg rfl ‹_› (OpL.load rfl rfl (loadOne_at ag_26 sz_26 ‹_› rfl))<|Lh rfl ‹_› (om rfl) ?_
   refine Lh rfl ‹_› (OpQ.indexAddrM rfl u_26 sz_3 rfl rfl (by first | assumption | omega | (simp only [LL]; omega))) ?_
   refine Lg rfl ‹_› (OpL.load rfl rfl ‹_›)<|Lh rfl ‹_› (om rfl)<|Lh rfl ‹_› (o2 u_3 rfl rfl)<|Lh rfl ‹_› (oT rfl ‹_› rfl)<|Lq (oF rfl ‹_› rfl) rfl<|qm rfl ?_
   refine Lb rfl (fun g3 => ?_) (fun g3 => ?_)
   have h3 := nT g3
   iterate 2 refine Lk rfl ‹_› ?_
   refine Lq (oT rfl ‹_› rfl) rfl<|Ld<|EvtL.condT rfl rfl<|Es<|qa rfl<|Ld ?_
   rotate_left
   have h3 := nF g3
   refine Lh rfl ‹_› (om rfl)<|Lh rfl ‹_› (o2 u_3 rfl rfl)<|Lq (oF rfl ‹_› rfl) rfl<|Ld ?_
   refine Ec rfl (fun g4 => ?_) (fun g4 => ?_)
   have h4 := dT g4
   refine Es<|qa rfl<|Ld ?_
   rotate_left
   have h4 := dF g4
   refine EvtL.skip<|Es<|Lo (OpL.load rfl rfl (loadOne_at ag_26 sz_26 ‹_› rfl)) rfl ?_
   iterate 2 refine qm rfl ?_
   refine Lq (OpQ.indexAddrM rfl u_26 sz_3 rfl rfl (by first | assumption | omega | (simp only [LL]; omega))) rfl ?_
   rotate_left
   have h2 := dF g2
   iterate 6 refine Lk rfl ‹_› ?_
   refine Lh rfl ‹_› (oF rfl ‹_› rfl)<|Lq (oF rfl ‹_› rfl) rfl<|qm rfl<|Lh rfl rfl (om rfl)<|Lh rfl rfl (o2 u_3 rfl rfl)<|Lq (oF rfl rfl rfl) rfl<|Ld ?_
   refine Ec rfl (fun g5 => ?_) (fun g5 => ?_)
   have h5 := dT g5
   refine Es<|qa rfl<|Ld ?_
   rotate_left
   have h5 := dF g5
   refine EvtL.skip<|Es<|Lo (OpL.load rfl rfl (loadOne_at ag_26 sz_26 ‹_› rfl)) rfl ?_
   iterate 2 refine qm rfl ?_
   refine Lq (OpQ.indexAddrM rfl u_26 sz_3 rfl rfl (by first | assumption | omega | (simp only [LL]; omega))) rfl ?_
   rotate_left
  ·refine EvtL.ret ?_
   exact ⟨.inl rfl,_,rfl,_,res_tmp rfl rfl,_,leave_flat (fun _ _ => rfl) (fun _ => rfl) rfl,hF (by unfold reachB; simp [h2,h3])⟩
  ·refine EvtL.ret ?_
   exact ⟨.inl rfl,_,rfl,_,res_tmp rfl rfl,_,leave_flat (fun _ _ => rfl) (fun _ => rfl) rfl,hF (by unfold reachB; simp [h4])⟩
  ·refine RegL.opN (OpL.store (s' := st.enter.put b (some (.cells (zs (out.set k r)) 3 false))) rfl sz_3 rfl rfl (storeN_at hgb' rfl rfl (by
    show over [AV.int .i64 r] (0 + k * (0 + 1)) (zs out) = _
    rw [over_one hkl,show 0 + k * (0 + 1) = k by omega,hset]))) rfl rfl ?_
   refine Ld<|Es<|qa rfl<|Ld<|EvtL.ret ?_
   exact ⟨.inl rfl,_,rfl,_,res_tmp rfl rfl,_,leave_val rfl (put_log_ne hb),hend (by unfold reachB; simp [h1,h3,h4])⟩
  ·refine EvtL.ret ?_
   exact ⟨.inl rfl,_,rfl,_,res_tmp rfl rfl,_,leave_flat (fun _ _ => rfl) (fun _ => rfl) rfl,hF (by unfold reachB; simp [h5])⟩
  ·refine RegL.opN (OpL.store (s' := st.enter.put b (some (.cells (zs (out.set k r)) 3 false))) rfl sz_3 rfl rfl (storeN_at hgb' rfl rfl (by
    show over [AV.int .i64 r] (0 + k * (0 + 1)) (zs out) = _
    rw [over_one hkl,show 0 + k * (0 + 1) = k by omega,hset]))) rfl rfl ?_
   refine Ld<|Es<|qa rfl<|Ld<|EvtL.ret ?_
   exact ⟨.inl rfl,_,rfl,_,res_tmp rfl rfl,_,leave_val rfl (put_log_ne hb),hend (by unfold reachB; simp [h1,h2,h5])⟩
 ·focus
   refine Es<|qa rfl<|Ld<|EvtL.seq<|Es<|qm rfl<|Lo (OpL.load rfl rfl (loadOne_at ag_26 sz_26 ‹_› rfl)) rfl<|Lq (OpQ.lenV rfl rfl rfl rfl u_26 rfl ‹_›) rfl ?_
   refine Lq (o2 u_3 rfl rfl) rfl<|qm rfl ?_
   refine Lb rfl (fun g1 => ?_) (fun g1 => ?_)
   have h1 := dT g1
   iterate 6 refine Lk rfl ‹_› ?_
   iterate 6 refine RegL.skipT rfl rfl rfl rfl rfl rfl ?_
   refine Lk rfl ‹_›<|Lq (oT rfl ‹_› rfl) rfl<|qm rfl ?_
   iterate 2 refine Lk rfl rfl ?_
   refine Lq (oT rfl rfl rfl) rfl<|Ld<|EvtL.condT rfl rfl<|Es<|qa rfl<|Ld ?_
   rotate_left
   have h1 := dF g1
   exact absurd h1 (by omega)
  refine EvtL.ret ?_
  exact ⟨.inl rfl,_,rfl,_,res_tmp rfl rfl,_,leave_flat (fun _ _ => rfl) (fun _ => rfl) rfl,hF (by unfold reachB; simp [h1])⟩
end Go.Proofs.YtpihdbhocgcbpaaGreatDoor

/- The plain law of the code's registers. -/
open Go Am
namespace Go.Proofs.YtpihdbhocgcbpaaGreatDoor
def Good (c : CodeT) (p : AltT) : Prop := ∀ S,Sol c S → p.1 < c.ins.length ∧ p.2 ≤ 60 ∧ oA S p.1.toNat = p.2
structure Fw (c : CodeT) (out : List Int) : Prop where
 len : out.length = c.ins.length
 lo : ∀ a,oA out a = -1 ∨ (0 ≤ oA out a ∧ oA out a ≤ 60)
 sound : ∀ S,Sol c S → ∀ a,0 ≤ oA out a → oA S a = oA out a
 why : ∀ a,a < c.ins.length → 0 ≤ oA out a → (∃ f,f < c.starts.length ∧ (c.starts.getD f 0).toNat = a) ∨ ∃ j,j < a ∧ 0 ≤ oA out j ∧ ∃ p ∈ succs c j (iAt c j) (oA out j),p.1.toNat = a
def From (c : CodeT) (out : List Int) (p : AltT) : Prop := (∃ f,f < c.starts.length ∧ (c.starts.getD f 0).toNat = p.1.toNat) ∨ ∃ j,j < p.1.toNat ∧ 0 ≤ oA out j ∧ p ∈ succs c j (iAt c j) (oA out j)
def DoneP (c : CodeT) (out : List Int) (p : AltT) : Prop := p.1 < c.ins.length ∧ p.2 ≤ 60 ∧ oA out p.1.toNat = p.2
theorem reachB_false {out : List Int} {k : Nat} {r : Int} (h : reachB out k r = false) : k < out.length ∧ (0 ≤ oA out k → oA out k = r) ∧ r ≤ 60 := by
 unfold reachB at h
 rw [Bool.or_eq_false_iff,Bool.or_eq_false_iff,decide_eq_false_iff_not,decide_eq_false_iff_not] at h
 obtain ⟨h1,h2,h3⟩ := h
 refine ⟨by omega,fun h0 => ?_,by omega⟩
 rw [decide_eq_true h0,Bool.true_and,Bool.not_eq_false',decide_eq_true_eq] at h2
 exact h2
theorem reach_keep {out : List Int} {k : Nat} {r : Int} (h : reachB out k r = false) (a : Nat) (ha : 0 ≤ oA out a) : oA (out.set k r) a = oA out a := by
 obtain ⟨h1,h2,_⟩ := reachB_false h
 rw [oA_set h1]
 split
 ·next e => subst e; exact (h2 ha).symm
 ·rfl
theorem Fw.init (c : CodeT) : Fw c (List.replicate c.ins.length (-1)) where
 len := List.length_replicate
 lo := fun a => .inl (oA_rep _ a)
 sound := fun S _ a h => by rw [oA_rep] at h; omega
 why := fun a _ h => by rw [oA_rep] at h; omega
theorem Fw.bad {c : CodeT} {out : List Int} (h : Fw c out) {p : AltT} (h0 : 0 ≤ p.1) (hg : Good c p) (hb : reachB out p.1.toNat p.2 = true) : beforeV c = none :=
 beforeV_none fun S hS => by
  obtain ⟨g1,g2,g3⟩ := hg S hS
  have hl := h.len
  unfold reachB at hb
  rw [Bool.or_eq_true,Bool.or_eq_true,decide_eq_true_eq,decide_eq_true_eq,Bool.and_eq_true,decide_eq_true_eq,Bool.not_eq_true',decide_eq_false_iff_not] at hb
  rcases hb with hb | ⟨hb1,hb2⟩ | hb
  ·omega
  ·exact hb2 ((h.sound S hS _ hb1).symm.trans g3)
  ·omega
theorem Fw.set {c : CodeT} {out : List Int} (h : Fw c out) {p : AltT} (hp2 : 0 ≤ p.2) (hg : Good c p) (hf : From c out p) (hb : reachB out p.1.toNat p.2 = false) : Fw c (out.set p.1.toNat p.2) := by
 obtain ⟨k1,k2,k3⟩ := reachB_false hb
 have keep := reach_keep hb
 refine ⟨by rw [List.length_set]; exact h.len,fun a => ?_,fun S hS a ha => ?_,fun a ha h0 => ?_⟩
 ·rw [oA_set k1]
  split
  ·exact .inr ⟨hp2,k3⟩
  ·exact h.lo a
 ·rw [oA_set k1] at ha ⊢
  split at ha
  ·next e => subst e; rw [if_pos rfl]; exact (hg S hS).2.2
  ·next e => rw [if_neg e]; exact h.sound S hS a ha
 ·rw [oA_set k1] at h0
  split at h0
  ·next e =>
   subst e
   rcases hf with w | ⟨j,j1,j2,j3⟩
   ·exact .inl w
   ·exact .inr ⟨j,j1,by rw [keep j j2]; exact j2,p,by rw [keep j j2]; exact j3,rfl⟩
  ·rcases h.why a ha h0 with w | ⟨j,j1,j2,q,j3,j4⟩
   ·exact .inl w
   ·exact .inr ⟨j,j1,by rw [keep j j2]; exact j2,q,by rw [keep j j2]; exact j3,j4⟩
theorem DoneP.keep {c : CodeT} {out : List Int} {q : AltT} (h : DoneP c out q) (hq : 0 ≤ q.2) {k : Nat} {r : Int} (hb : reachB out k r = false) : DoneP c (out.set k r) q :=
 ⟨h.1,h.2.1,by rw [reach_keep hb _ (by rw [h.2.2]; exact hq)]; exact h.2.2⟩
theorem done_set {c : CodeT} {out : List Int} (hl : out.length = c.ins.length) {p : AltT} (h0 : 0 ≤ p.1) (hb : reachB out p.1.toNat p.2 = false) : DoneP c (out.set p.1.toNat p.2) p := by
 obtain ⟨k1,k2,k3⟩ := reachB_false hb
 exact ⟨by omega,k3,by rw [oA_set k1,if_pos rfl]⟩
def StartsD (c : CodeT) (out : List Int) (m : Nat) : Prop := ∀ f,f < m → f < c.starts.length → oA out (c.starts.getD f 0).toNat = arity c.funs f
theorem StartsD.keep {c : CodeT} (hc : OkC c) {out : List Int} {m : Nat} (h : StartsD c out m) {k : Nat} {r : Int} (hb : reachB out k r = false) : StartsD c (out.set k r) m := fun f h1 h2 => by
 have := arity_in hc.funs2 f
 rw [reach_keep hb _ (by rw [h f h1 h2]; exact this.1)]; exact h f h1 h2
theorem start_good {c : CodeT} (hc : OkC c) {f : Nat} (hf : f < c.starts.length) : Good c (c.starts.getD f 0,arity c.funs f) := fun S hS => by
 have h1 := hc.start hf
 rw [← getD_at (d := 0) hf] at h1
 have h2 := arity_in hc.funs2 f
 exact ⟨h1.2,by show arity c.funs f ≤ 60; omega,hS.start f hf⟩
def Cl (c : CodeT) (out : List Int) (k : Nat) : Prop := ∀ a,a < k → a < c.ins.length → 0 ≤ oA out a → safeV (iAt c a) (oA out a) = true ∧ ∀ p ∈ succs c a (iAt c a) (oA out a),DoneP c out p
structure Mn (c : CodeT) (out : List Int) (k : Nat) : Prop where
 fw : Fw c out
 st : StartsD c out c.starts.length
 cl : Cl c out k
structure Inn (c : CodeT) (k : Nat) (n0 : Int) (j : Nat) (out : List Int) : Prop where
 fw : Fw c out
 st : StartsD c out c.starts.length
 cl : Cl c out k
 at_ : oA out k = n0
 done : ∀ i,i < j → ∀ (h : i < (succs c k (iAt c k) n0).length),DoneP c out (succs c k (iAt c k) n0)[i]
theorem Mn.inn {c : CodeT} {out : List Int} {k : Nat} (h : Mn c out k) : Inn c k (oA out k) 0 out := ⟨h.fw,h.st,h.cl,rfl,fun i hi => absurd hi (Nat.not_lt_zero _)⟩
theorem Mn.skip {c : CodeT} {out : List Int} {k : Nat} (h : Mn c out k) (hk : ¬ 0 ≤ oA out k) : Mn c out (k + 1) := ⟨h.fw,h.st,fun a ha hl h0 => by
 rcases Nat.lt_or_ge a k with hlt | hge
 ·exact h.cl a hlt hl h0
 ·obtain rfl : a = k := by omega
  exact absurd h0 hk⟩
theorem Mn.unsafe_ {c : CodeT} {out : List Int} {k : Nat} (h : Mn c out k) (hk : k < c.ins.length) (h0 : 0 ≤ oA out k) (hs : safeV (iAt c k) (oA out k) = false) : beforeV c = none :=
 beforeV_none fun S hS => by
  have e := h.fw.sound S hS k h0
  have := hS.safe k hk (by rw [e]; exact h0)
  rw [e,hs] at this; cases this
theorem Mn.fin {c : CodeT} {out : List Int} (h : Mn c out c.ins.length) : Sol c out where
 len := h.fw.len
 lo := fun a => (h.fw.lo a).imp id And.left
 start := fun f hf => h.st f hf hf
 safe := fun i hi h0 => (h.cl i hi hi h0).1
 step := fun i hi h0 p hp => (h.cl i hi hi h0).2 p hp
 why := h.fw.why
section
variable {c : CodeT} {k j : Nat} {n0 : Int} {out : List Int}
theorem inn_mem (hc : OkC c) (hk : k < c.ins.length) (hn : 0 ≤ n0) {p : AltT} (hp : p ∈ succs c k (iAt c k) n0) : (k : Int) < p.1 ∧ p.1 ≤ c.ins.length ∧ 0 ≤ p.2 :=
 succs_mem hc (by rw [iAt_eq hk]; exact hc.ins hk) hk hn hp
theorem Inn.good (h : Inn c k n0 j out) (hk : k < c.ins.length) (hn : 0 ≤ n0) {p : AltT} (hp : p ∈ succs c k (iAt c k) n0) : Good c p := fun S hS => by
 have e := h.fw.sound S hS k (by rw [h.at_]; exact hn)
 rw [h.at_] at e
 exact hS.step k hk (by rw [e]; exact hn) p (by rw [e]; exact hp)
theorem Inn.bad (h : Inn c k n0 j out) (hc : OkC c) (hk : k < c.ins.length) (hn : 0 ≤ n0) {p : AltT} (hp : p ∈ succs c k (iAt c k) n0) (hb : reachB out p.1.toNat p.2 = true) : beforeV c = none := by
 have := inn_mem hc hk hn hp
 exact h.fw.bad (by omega) (h.good hk hn hp) hb
theorem Inn.step (h : Inn c k n0 j out) (hc : OkC c) (hk : k < c.ins.length) (hn : 0 ≤ n0) (hj : j < (succs c k (iAt c k) n0).length) (hb : reachB out (succs c k (iAt c k) n0)[j].1.toNat (succs c k (iAt c k) n0)[j].2 = false) :
  Inn c k n0 (j + 1) (out.set (succs c k (iAt c k) n0)[j].1.toNat (succs c k (iAt c k) n0)[j].2) := by
 have hm := List.getElem_mem hj
 have hmm := fun q hq => inn_mem (p := q) hc hk hn hq
 have hdone := h.done
 generalize hL : succs c k (iAt c k) n0 = L at *
 generalize hp : L[j] = p at *
 obtain ⟨m1,m2,m3⟩ := hmm p hm
 obtain ⟨k1,k2,k3⟩ := reachB_false hb
 refine ⟨h.fw.set m3 (h.good hk hn (by rw [hL]; exact hm)) (.inr ⟨k,by omega,by rw [h.at_]; exact hn,by rw [h.at_,hL]; exact hm⟩) hb,h.st.keep hc hb,fun a ha hl h0 => ?_,?_,fun i hi hl => ?_⟩
 ·have ne : a ≠ p.1.toNat := by omega
  rw [oA_set k1,if_neg ne] at h0 ⊢
  exact ⟨(h.cl a ha hl h0).1,fun q hq => ((h.cl a ha hl h0).2 q hq).keep (inn_mem hc hl h0 hq).2.2 hb⟩
 ·rw [oA_set k1,if_neg (by omega)]; exact h.at_
 ·rw [hL] at hl
  simp only [hL]
  rcases Nat.lt_or_ge i j with hlt | hge
  ·exact (hdone i hlt hl).keep (hmm _ (List.getElem_mem hl)).2.2 hb
  ·obtain rfl : i = j := by omega
   rw [hp]
   exact done_set h.fw.len (by omega) hb
theorem Inn.fin (h : Inn c k n0 (succs c k (iAt c k) n0).length out) (hs : safeV (iAt c k) n0 = true) : Mn c out (k + 1) := ⟨h.fw,h.st,fun a ha hl h0 => by
 rcases Nat.lt_or_ge a k with hlt | hge
 ·exact h.cl a hlt hl h0
 ·obtain rfl : a = k := by omega
  rw [h.at_]
  refine ⟨hs,fun p hp => ?_⟩
  obtain ⟨i,hi,rfl⟩ := List.mem_iff_getElem.1 hp
  exact h.done i hi hi⟩
end
theorem shape_op {x : InsT} : (∀ r l,shapeV x = .looks r l → x.op = 1 ∧ r = x.a ∧ l = x.alts) ∧ (∀ l,shapeV x = .goes l → x.op = 2 ∧ l = x.to) ∧ (shapeV x = .fails → x.op = 3) ∧ (shapeV x = .frees → x.op = 4) ∧
  (∀ o n l,shapeV x = .makes o n l → x.op = 5 ∧ l = x.args) ∧ (∀ r,shapeV x = .enters r → x.op = 6 ∧ r = x.a) := by
 unfold shapeV
 by_cases h1 : sh1 x = true
 ·rw [if_pos h1]
  have : x.op = 1 := by unfold sh1 at h1; rw [Bool.and_eq_true,decide_eq_true_eq] at h1; exact h1.1
  refine ⟨fun r l h => by cases h; exact ⟨this,rfl,rfl⟩,?_,?_,?_,?_,?_⟩ <;> intros <;> contradiction
 rw [if_neg h1]
 by_cases h2 : sh2 x = true
 ·rw [if_pos h2]
  have : x.op = 2 := by unfold sh2 at h2; rw [Bool.and_eq_true,decide_eq_true_eq] at h2; exact h2.1
  refine ⟨?_,fun l h => by cases h; exact ⟨this,rfl⟩,?_,?_,?_,?_⟩ <;> intros <;> contradiction
 rw [if_neg h2]
 by_cases h3 : sh3 x = true
 ·rw [if_pos h3]
  have : x.op = 3 := by unfold sh3 at h3; rw [Bool.and_eq_true,decide_eq_true_eq] at h3; exact h3.1
  refine ⟨?_,?_,fun _ => this,?_,?_,?_⟩ <;> intros <;> contradiction
 rw [if_neg h3]
 by_cases h4 : sh4 x = true
 ·rw [if_pos h4]
  have : x.op = 4 := by unfold sh4 at h4; rw [Bool.and_eq_true,decide_eq_true_eq] at h4; exact h4.1
  refine ⟨?_,?_,?_,fun _ => this,?_,?_⟩ <;> intros <;> contradiction
 rw [if_neg h4]
 by_cases h5 : sh5 x = true
 ·rw [if_pos h5]
  have : x.op = 5 := by unfold sh5 at h5; rw [Bool.and_eq_true,decide_eq_true_eq] at h5; exact h5.1
  refine ⟨?_,?_,?_,?_,fun o n l h => by cases h; exact ⟨this,rfl⟩,?_⟩ <;> intros <;> contradiction
 rw [if_neg h5]
 by_cases h6 : sh6 x = true
 ·rw [if_pos h6]
  have : x.op = 6 := by unfold sh6 at h6; rw [Bool.and_eq_true,decide_eq_true_eq] at h6; exact h6.1
  refine ⟨?_,?_,?_,?_,?_,fun r h => by cases h; exact ⟨this,rfl⟩⟩ <;> intros <;> contradiction
 rw [if_neg h6]
 refine ⟨?_,?_,?_,?_,?_,?_⟩ <;> intros <;> contradiction
end Go.Proofs.YtpihdbhocgcbpaaGreatDoor

/- What follows,asked for one by one. -/
open Go Am
namespace Go.Proofs.YtpihdbhocgcbpaaGreatDoor
def succS (c : CodeT) (k : Nat) (n : Int) : ShT → List AltT
 | .looks _ l => l.map fun a => (a.2,n + arity c.cons a.1)
 | .goes l => l.map fun t => (t,n)
 | .frees => [(((k + 1 : Nat) : Int),n + 1)]
 | .makes _ _ _ => [(((k + 1 : Nat) : Int),n + 1)]
 | _ => []
theorem succs_shape {c : CodeT} {k : Nat} {x : InsT} {n : Int} (hi : insV c k x = true) : succs c k x n = succS c k n (shapeV x) := by
 have hs := insV_shape c k x
 rw [hi] at hs
 obtain ⟨h1,h2,h3,h4,h5,h6⟩ := shape_op (x := x)
 unfold succs
 rcases h : shapeV x with ⟨r,l⟩ | l | _ | _ | ⟨o,n',l⟩ | r | _
 ·obtain ⟨e,_,rfl⟩ := h1 r l h
  rw [if_pos e]; rfl
 ·obtain ⟨e,rfl⟩ := h2 l h
  rw [if_neg (by omega),if_pos e]; rfl
 ·have e := h3 h
  rw [if_neg (by omega),if_neg (by omega),if_neg (by omega)]; rfl
 ·have e := h4 h
  rw [if_neg (by omega),if_neg (by omega),if_pos (by omega)]; rfl
 ·obtain ⟨e,_⟩ := h5 _ _ _ h
  rw [if_neg (by omega),if_neg (by omega),if_pos (by omega)]; rfl
 ·obtain ⟨e,_⟩ := h6 r h
  rw [if_neg (by omega),if_neg (by omega),if_neg (by omega)]; rfl
 ·rw [h] at hs; cases hs
structure FolH (c : CodeT) (k : Nat) (n0 : Int) (b bc ba br : Nat) (s : St) (L : List AltT) (C : Nat → Nat → Tr AObj → Prop) (D : Nat → Tr AObj → Prop) : Prop where
 c0 : C 0 s.next s.heap
 mono : ∀ j n h n' h',C j n h → n ≤ n' → (∀ d,d < n → h'.get d = h.get d) → C j n' h'
 monoD : ∀ n h n' h',D n h → n ≤ n' → (∀ d,d < n → h'.get d = h.get d) → D n' h'
 box : ∀ j n h,C j n h → h.get bc = some (.cells (encC c) 28 false) ∧ h.get ba = some (.cells [.int .i64 (k : Nat)] 3 false) ∧ h.get br = some (.cells [.int .i64 n0] 3 false)
 yes : ∀ j (hj : j < L.length) (st : St),s.next ≤ st.bound → st.bound ≤ st.next → C j st.next st.heap → Yields ER b [.int .i64 L[j].1,.int .i64 L[j].2] st fun v s' => st.next ≤ s'.next ∧ s'.bound = st.bound ∧ b ∈ s'.log ∧ (∀ d ∈ s'.log,d ∈ st.log ∨ d < st.bound) ∧
  (∀ d,d < st.bound → d ∉ s'.log → s'.heap.get d = st.heap.get d) ∧ (v = true → C (j + 1) s'.next s'.heap) ∧ (v = false → D s'.next s'.heap)
 low : b < s.next
def FolR (s : St) (L : List AltT) (C : Nat → Nat → Tr AObj → Prop) (D : Nat → Tr AObj → Prop) : AV → St → Prop := fun _ s3 => s3.bound = s.bound ∧ (s3.log = s.log ∨ ∃ M,s3.log = below s.bound M s.log) ∧ s.next ≤ s3.next ∧ (C L.length s3.next s3.heap ∨ D s3.next s3.heap)
section
variable {c : CodeT} {k : Nat} {n0 : Int} {b bc ba br : Nat} {s : St} {C : Nat → Nat → Tr AObj → Prop} {D : Nat → Tr AObj → Prop} {L : List AltT}
theorem FolH.fin (st : St) (h1 : s.next ≤ st.next) (h : C L.length st.next st.heap ∨ D st.next st.heap) : FolR s L C D (.tuple []) (s.back st) := ⟨rfl,.inr ⟨_,rfl⟩,h1,h⟩
theorem FolH.fin0 (H : FolH c k n0 b bc ba br s L C D) (hL : L.length = 0) : FolR s L C D (.tuple []) s := ⟨rfl,.inl rfl,Nat.le_refl _,.inl (by rw [hL]; exact H.c0)⟩
theorem fol_goes (hc : OkC c) (hk : k < c.ins.length) (l : List Int) (hs : shapeV c.ins[k] = .goes l) (H : FolH c k n0 b bc ba br s (l.map fun t => (t,n0)) C D) :
  RunsV ER 121 [.func (.yield b) [] [],.ptr bc 0,.ptr ba 0,.ptr br 0] s (FolR s (l.map fun t => (t,n0)) C D) := by
 refine RunsV.unit (fn := Tryz.f121) rfl (by kernel_rfl) rfl rfl rfl rfl ?_
 have hp0 := recs_idx encI_len hk
 obtain ⟨hb0,hb1,_⟩ := H.box 0 _ _ H.c0
 have hb0' : s.enter.heap.get bc = some (.cells (encC c) 28 false) := hb0
 have hb1' : s.enter.heap.get ba = some (.cells [.int .i64 (k : Nat)] 3 false) := hb1
 have hto := hc.fits.to _ (List.getElem_mem hk)
 have hl1 := hc.long
 generalize hx : c.ins[k] = x at *
 refine Es ?_
 refine Lq (of f_28_1 rfl) rfl ?_
 refine Lo (OpL.load rfl rfl (loadOne_at ag_25 sz_25 ‹_› rfl)) rfl ?_
 refine Lo (OpL.load rfl rfl (loadOne_at ag_3 sz_3 ‹_› rfl)) rfl ?_
 refine Lq (OpQ.indexAddrV rfl u_25 sz_58 rfl rfl ‹_›) rfl ?_
 refine Lq (OpQ.loadI rfl rfl ag_58 sz_58 (Nat.le_of_ble_eq_true rfl)) rfl ?_
 refine Lo (OpL.callFn rfl rfl (by kernel_rfl) rfl (CallTo.memo (hit_51))) rfl ?_
 refine Ld ?_
 refine EvtL.block ?_
 rw [hs]
 obtain rfl := shape_goes hs
 generalize x.to = l at *
 have hlen : (l.map fun t => ((t,n0) : AltT)).length = l.length := List.length_map ..
 obtain ⟨hc1,hc2,hc3,hc4,hc5,hc6,hc7⟩ := copied (st := s.enter) (z := [.nilslice]) (cs := [recs encZ 1 l]) (T := 117)
 have hC1 := H.mono 0 _ _ _ _ H.c0 (Nat.le_succ s.next) fun d hd => hc4 d hd
 have hlog := hc6 (Nat.le_refl _)
 refine Es ?_
 refine Lq (OpQ.typeAs rfl if_114 z_114 rfl rfl) rfl ?_
 iterate 2 refine Lq (oe rfl) rfl ?_
 refine Ld ?_
 refine EvtL.condF rfl rfl ?_
 refine Es ?_
 refine Lq (OpQ.typeAs rfl if_117 z_117 rfl rfl) rfl ?_
 iterate 2 refine Lq (oe rfl) rfl ?_
 refine Ld ?_
 refine EvtL.condT rfl rfl ?_
 refine Es ?_
 refine Lo (OpL.alloc rfl z_117) rfl ?_
 refine RegL.opN (OpL.store rfl sz_117 rfl rfl (storeN_at ‹_› rfl rfl rfl)) rfl rfl ?_
 refine Ld ?_
 refine Es ?_
 refine Lq (of f_117_0 rfl) rfl ?_
 refine Lo (OpL.load rfl rfl (loadOne_at ag_26 sz_26 ‹_› rfl)) rfl ?_
 refine Lq (ol u_26 rfl) rfl ?_
 refine qm rfl ?_
 refine Ld ?_
 refine EvtL.block ?_
 refine EvtL.loopI (fun y : Nat × St => ([(50,.int .i64 (y.1 : Nat)),(49,.int .i64 (l.length : Nat)),(48,recs encZ 1 l),(3,.ptr br 0),(0,.func (.yield b) [] [])],y.2)) (fun y => l.length - y.1)
  (fun y => y.1 ≤ l.length ∧ C y.1 y.2.next y.2.heap ∧ y.2.bound = s.next ∧ s.next ≤ y.2.next ∧ (y.2.log = [] ∧ y.1 = 0 ∨ y.2.log ≠ []))
  (0,(s.enter.alloc (.cells [.nilslice] 117 false)).put s.enter.next (some (.cells [recs encZ 1 l] 117 false))) ⟨Nat.zero_le _,hC1,rfl,Nat.le_succ _,.inl ⟨hlog,rfl⟩⟩ rfl (by (refine Am.sub_of ?_; repeat (first | exact trivial | refine ⟨rfl,?_⟩))) ?_
 rintro ⟨j,st⟩ ⟨hj,hC,hbd,hnx,hlg⟩
 dsimp only at hj hC hbd hnx hlg ⊢
 by_cases h : j < l.length
 ·have hp := recs_idx encZ_len h
  obtain ⟨_,_,hbr⟩ := H.box j _ _ hC
  have hy := H.yes j (by rw [hlen]; exact h) st (by omega) (by omega) hC
  rw [List.getElem_map] at hy
  focus
   refine Es ?_
   refine Lq (o2 u_3 rfl rfl) rfl ?_
   refine Ld ?_
   refine EvtL.seq ?_
   refine Ec rfl (fun g1 => ?_) (fun g1 => ?_)
   have h1 := dT g1
   refine EvtL.skip ?_
   refine EvtL.seq ?_
   refine EvtL.block ?_
   refine Es ?_
   refine Lq (OpQ.indexAddrV rfl u_26 sz_3 rfl rfl ‹_›) rfl ?_
   refine Lq (OpQ.loadI1 rfl rfl ag_3 sz_3) rfl ?_
   refine qa rfl ?_
   refine Ld ?_
   refine Es ?_
   iterate 2 refine qm rfl ?_
   refine Lo (OpL.load rfl rfl (loadOne_at ag_3 sz_3 ‹_› rfl)) rfl ?_
   rotate_left
   have h1 := dF g1
   exact absurd h1 (by omega)
  refine RegL.yields rfl rfl rfl rfl rfl rfl rfl hy ?_
  rintro v s' ⟨y1,y2,y3,y4,y5,y6,y7⟩
  cases v with
  | true =>
   refine Lq (on rfl) rfl ?_
   refine Ld ?_
   refine EvtL.condF rfl rfl ?_
   refine EvtL.skip ?_
   refine EvtL.reg ?_
   refine Lq (OpQ.addN (b := 1) rfl u_3 rfl rfl (by first | assumption | omega | (simp only [LL]; omega))) rfl ?_
   refine qm rfl ?_
   refine Ld ?_
   exact ⟨(j + 1,s'),⟨h,y6 rfl,y2.trans hbd,by show s.next ≤ s'.next; omega,.inr (List.ne_nil_of_mem y3)⟩,by show l.length - (j + 1) < l.length - j; omega,rfl,rfl,by (refine Am.sub_of ?_; repeat (first | exact trivial | refine ⟨rfl,?_⟩))⟩
  | false =>
   refine Lq (on rfl) rfl ?_
   refine Ld ?_
   refine EvtL.condT rfl rfl ?_
   refine EvtL.ret ?_
   exact ⟨.inl rfl,rfl,fun h => absurd h (List.ne_nil_of_mem y3),FolH.fin s' (by omega) (.inr (y7 rfl))⟩
 ·focus
   refine Es ?_
   refine Lq (o2 u_3 rfl rfl) rfl ?_
   refine Ld ?_
   refine EvtL.seq ?_
   refine Ec rfl (fun g1 => ?_) (fun g1 => ?_)
   have h1 := dT g1
   exact absurd h1 (by omega)
   have h1 := dF g1
   refine EvtL.exit ?_
   refine cond_t rfl ?_
   rotate_left
  obtain rfl : j = l.length := by omega
  refine ⟨.inr rfl,rfl,fun h => H.fin0 (by rw [hlen]; rcases hlg with ⟨_,e⟩ | e; exact e; exact absurd h e),FolH.fin st hnx (.inl (by rw [hlen]; exact hC))⟩
theorem fol_looks (hc : OkC c) (hk : k < c.ins.length) (hn : 0 ≤ n0 ∧ n0 ≤ 60) (r : Int) (l : List AltT) (hs : shapeV c.ins[k] = .looks r l) (H : FolH c k n0 b bc ba br s (l.map fun a => (a.2,n0 + arity c.cons a.1)) C D) :
  RunsV ER 121 [.func (.yield b) [] [],.ptr bc 0,.ptr ba 0,.ptr br 0] s (FolR s (l.map fun a => (a.2,n0 + arity c.cons a.1)) C D) := by
 refine RunsV.unit (fn := Tryz.f121) rfl (by kernel_rfl) rfl rfl rfl rfl ?_
 have hp0 := recs_idx encI_len hk
 obtain ⟨hb0,hb1,_⟩ := H.box 0 _ _ H.c0
 have hb0' : s.enter.heap.get bc = some (.cells (encC c) 28 false) := hb0
 have hb1' : s.enter.heap.get ba = some (.cells [.int .i64 (k : Nat)] 3 false) := hb1
 have hal := hc.fits.alts _ (List.getElem_mem hk)
 have hl1 := hc.long
 have hins := hc.ins hk
 generalize hx : c.ins[k] = x at *
 refine Es ?_
 refine Lq (of f_28_1 rfl) rfl ?_
 refine Lo (OpL.load rfl rfl (loadOne_at ag_25 sz_25 ‹_› rfl)) rfl ?_
 refine Lo (OpL.load rfl rfl (loadOne_at ag_3 sz_3 ‹_› rfl)) rfl ?_
 refine Lq (OpQ.indexAddrV rfl u_25 sz_58 rfl rfl ‹_›) rfl ?_
 refine Lq (OpQ.loadI rfl rfl ag_58 sz_58 (Nat.le_of_ble_eq_true rfl)) rfl ?_
 refine Lo (OpL.callFn rfl rfl (by kernel_rfl) rfl (CallTo.memo (hit_51))) rfl ?_
 refine Ld ?_
 refine EvtL.block ?_
 rw [hs]
 obtain ⟨hop,rfl,rfl⟩ := (shape_op (x := x)).1 _ _ hs
 rw [insV_1 hop] at hins
 simp only [Bool.and_eq_true] at hins
 replace hins := hins.2.2.2
 generalize x.alts = l at *
 have hlen : (l.map fun a => ((a.2,n0 + arity c.cons a.1) : AltT)).length = l.length := List.length_map ..
 obtain ⟨hc1,hc2,hc3,hc4,hc5,hc6,hc7⟩ := copied (st := s.enter) (z := [.int .i64 0,.nilslice]) (cs := [.int .i64 x.a,recs encA 2 l]) (T := 114)
 have hC1 := H.mono 0 _ _ _ _ H.c0 (Nat.le_succ s.next) fun d hd => hc4 d hd
 have hlog := hc6 (Nat.le_refl _)
 refine Es ?_
 refine Lq (OpQ.typeAs rfl if_114 z_114 rfl rfl) rfl ?_
 iterate 2 refine Lq (oe rfl) rfl ?_
 refine Ld ?_
 refine EvtL.condT rfl rfl ?_
 refine Es ?_
 refine Lo (OpL.alloc rfl z_114) rfl ?_
 refine RegL.opN (OpL.store rfl sz_114 rfl rfl (storeN_at ‹_› rfl rfl rfl)) rfl rfl ?_
 refine Ld ?_
 refine Es ?_
 refine Lq (of f_114_1 rfl) rfl ?_
 refine Lo (OpL.load rfl rfl (loadOne_at ag_56 sz_56 ‹_› rfl)) rfl ?_
 refine Lq (ol u_56 rfl) rfl ?_
 refine qm rfl ?_
 refine Ld ?_
 refine EvtL.block ?_
 refine EvtL.loopI (fun y : Nat × St => ([(24,.int .i64 (y.1 : Nat)),(23,.int .i64 (l.length : Nat)),(22,recs encA 2 l),(3,.ptr br 0),(1,.ptr bc 0),(0,.func (.yield b) [] [])],y.2)) (fun y => l.length - y.1)
  (fun y => y.1 ≤ l.length ∧ C y.1 y.2.next y.2.heap ∧ y.2.bound = s.next ∧ s.next ≤ y.2.next ∧ (y.2.log = [] ∧ y.1 = 0 ∨ y.2.log ≠ []))
  (0,(s.enter.alloc (.cells [.int .i64 0,.nilslice] 114 false)).put s.enter.next (some (.cells [.int .i64 x.a,recs encA 2 l] 114 false))) ⟨Nat.zero_le _,hC1,rfl,Nat.le_succ _,.inl ⟨hlog,rfl⟩⟩ rfl (by (refine Am.sub_of ?_; repeat (first | exact trivial | refine ⟨rfl,?_⟩))) ?_
 clear hC1 hc1 hc2 hc3 hc4 hc5 hc6 hc7 hlog
 rintro ⟨j,st⟩ ⟨hj,hC,hbd,hnx,hlg⟩
 dsimp only at hj hC hbd hnx hlg ⊢
 by_cases h : j < l.length
 ·have hp := recs_idx encA_len h
  have hat := ra_at (n := l.length) hins h
  unfold altAt at hat
  rw [getD_at h] at hat
  simp only [Bool.and_eq_true] at hat
  obtain ⟨hz,hlt⟩ := inV_iff.1 hat.1.1
  have hp2 := recs_idx encN_len (l := c.cons) (i := l[j].1.toNat) (by omega)
  have har := hc.cons _ (List.getElem_mem (show l[j].1.toNat < c.cons.length by omega))
  have har2 : arity c.cons l[j].1 = c.cons[l[j].1.toNat].2 := by unfold arity; rw [getD_at]
  obtain ⟨hc1,hc2,hc3,hc4,hc5,hc6,hc7⟩ := copied (st := st) (z := [.int .i64 0,.int .i64 0]) (cs := [.int .i64 l[j].1,.int .i64 l[j].2]) (T := 60)
  have hC2 := H.mono j _ _ _ _ hC (Nat.le_succ st.next) fun d hd => hc4 d hd
  obtain ⟨hbc,_,hbr⟩ := H.box j _ _ hC2
  have hlog2 := hc6 (by omega)
  have hbd2 : ((st.alloc (.cells [.int .i64 0,.int .i64 0] 60 false)).put st.next (some (.cells [.int .i64 l[j].1,.int .i64 l[j].2] 60 false))).bound = s.next := hc5.trans hbd
  have hn2 : ((st.alloc (.cells [.int .i64 0,.int .i64 0] 60 false)).put st.next (some (.cells [.int .i64 l[j].1,.int .i64 l[j].2] 60 false))).next = st.next + 1 := hc7
  focus
   refine Es ?_
   refine Lq (o2 u_3 rfl rfl) rfl ?_
   refine Ld ?_
   refine EvtL.seq ?_
   refine Ec rfl (fun g1 => ?_) (fun g1 => ?_)
   have h1 := dT g1
   refine EvtL.skip ?_
   refine EvtL.seq ?_
   refine EvtL.block ?_
   refine Es ?_
   refine Lq (OpQ.indexAddrV rfl u_56 sz_60 rfl rfl ‹_›) rfl ?_
   refine Lq (OpQ.loadI rfl rfl ag_60 sz_60 (Nat.le_of_ble_eq_true rfl)) rfl ?_
   refine Lo (OpL.alloc rfl z_60) rfl ?_
   refine RegL.opN (OpL.store rfl sz_60 rfl rfl (storeN_at ‹_› rfl rfl rfl)) rfl rfl ?_
   refine Ld ?_
   refine EvtL.seqDrawN (by kernel_rfl) ?_
   refine Nq (om rfl) rfl ?_
   refine Nq (of f_60_1 rfl) rfl ?_
   iterate 2 refine RegN.load rfl rfl (loadOne_at ag_3 sz_3 ‹_› rfl) rfl (.inl rfl) rfl rfl ?_
   refine Nq (of f_28_0 rfl) rfl ?_
   refine Nq (of f_24_0 rfl) rfl ?_
   refine RegN.load rfl rfl (loadOne_at ag_22 sz_22 ‹_› rfl) rfl (.inl rfl) rfl rfl ?_
   refine Nq (of f_60_0 rfl) rfl ?_
   refine RegN.load rfl rfl (loadOne_at ag_3 sz_3 ‹_› rfl) rfl (.inl rfl) rfl rfl ?_
   refine Nq (OpQ.indexAddrZ rfl u_22 sz_54 rfl rfl (by first | assumption | omega) ‹_›) rfl ?_
   refine Nq (OpQ.fieldAddrI rfl f_54_1 rfl (Nat.le_of_ble_eq_true rfl)) rfl ?_
   refine Nq (OpQ.loadI1 rfl rfl ag_3 sz_3) rfl ?_
   refine Nq (OpQ.add rfl u_3 rfl rfl (by omega)) rfl ?_
   rotate_left
   have h1 := dF g1
   exact absurd h1 (by omega)
  have hy := H.yes j (by rw [hlen]; exact h) (((st.alloc (.cells [.int .i64 0,.int .i64 0] 60 false)).put st.next (some (.cells [.int .i64 l[j].1,.int .i64 l[j].2] 60 false))).sub ((st.alloc (.cells [.int .i64 0,.int .i64 0] 60 false)).put st.next (some (.cells [.int .i64 l[j].1,.int .i64 l[j].2] 60 false))).heap) (by show s.next ≤ st.next + 1; omega) (Nat.le_refl _) hC2
  rw [List.getElem_map,har2] at hy
  refine RegN.yields rfl rfl rfl rfl hy (by kernel_rfl) rfl (.inl rfl) rfl rfl ?_
  rintro v s' ⟨y1,y2,y3,y4,y5,y6,y7⟩
  have y1' : ((st.alloc (.cells [.int .i64 0,.int .i64 0] 60 false)).put st.next (some (.cells [.int .i64 l[j].1,.int .i64 l[j].2] 60 false))).next ≤ s'.next := y1
  refine ⟨y1',fun d hd => (y4 d hd).elim (fun h => by cases h) id,fun nl2 => ?_⟩
  have hme := merged_eq (st := ((st.alloc (.cells [.int .i64 0,.int .i64 0] 60 false)).put st.next (some (.cells [.int .i64 l[j].1,.int .i64 l[j].2] 60 false)))) y1' y5
  have hmn : (((st.alloc (.cells [.int .i64 0,.int .i64 0] 60 false)).put st.next (some (.cells [.int .i64 l[j].1,.int .i64 l[j].2] 60 false))).merged s').next = s'.next := rfl
  have hmb : (((st.alloc (.cells [.int .i64 0,.int .i64 0] 60 false)).put st.next (some (.cells [.int .i64 l[j].1,.int .i64 l[j].2] 60 false))).merged s').bound = s.next := hbd2
  have hml : b ∈ (((st.alloc (.cells [.int .i64 0,.int .i64 0] 60 false)).put st.next (some (.cells [.int .i64 l[j].1,.int .i64 l[j].2] 60 false))).merged s').log := by
   show b ∈ below ((st.alloc (.cells [.int .i64 0,.int .i64 0] 60 false)).put st.next (some (.cells [.int .i64 l[j].1,.int .i64 l[j].2] 60 false))).bound s'.log ((st.alloc (.cells [.int .i64 0,.int .i64 0] 60 false)).put st.next (some (.cells [.int .i64 l[j].1,.int .i64 l[j].2] 60 false))).log
   exact mem_below_of y3 (by rw [hbd2]; exact H.low)
  refine RegN.st (s2 := ((st.alloc (.cells [.int .i64 0,.int .i64 0] 60 false)).put st.next (some (.cells [.int .i64 l[j].1,.int .i64 l[j].2] 60 false))).merged s') rfl ?_
  generalize ((st.alloc (.cells [.int .i64 0,.int .i64 0] 60 false)).put st.next (some (.cells [.int .i64 l[j].1,.int .i64 l[j].2] 60 false))).merged s' = st3 at *
  cases v with
  | true =>
   refine Nq (on rfl) rfl ?_
   refine RegN.done ?_
   refine EvtL.condF rfl rfl ?_
   refine EvtL.skip ?_
   refine EvtL.reg ?_
   refine Lq (OpQ.addN (b := 1) rfl u_3 rfl rfl (by first | assumption | omega | (simp only [LL]; omega))) rfl ?_
   refine qm rfl ?_
   refine Ld ?_
   exact ⟨(j + 1,st3),⟨h,H.mono _ _ _ _ _ (y6 rfl) (Nat.le_of_eq hmn.symm) hme,hmb,by show s.next ≤ st3.next; omega,.inr (List.ne_nil_of_mem hml)⟩,by show l.length - (j + 1) < l.length - j; omega,rfl,rfl,by (refine Am.sub_of ?_; repeat (first | exact trivial | refine ⟨rfl,?_⟩))⟩
  | false =>
   refine Nq (on rfl) rfl ?_
   refine RegN.done ?_
   refine EvtL.condT rfl rfl ?_
   refine EvtL.ret ?_
   exact ⟨.inl rfl,rfl,fun h => absurd h (List.ne_nil_of_mem hml),FolH.fin st3 (by omega) (.inr (H.monoD _ _ _ _ (y7 rfl) (Nat.le_of_eq hmn.symm) hme))⟩
 ·focus
   refine Es ?_
   refine Lq (o2 u_3 rfl rfl) rfl ?_
   refine Ld ?_
   refine EvtL.seq ?_
   refine Ec rfl (fun g1 => ?_) (fun g1 => ?_)
   have h1 := dT g1
   exact absurd h1 (by omega)
   have h1 := dF g1
   refine EvtL.exit ?_
   refine cond_t rfl ?_
   rotate_left
  obtain rfl : j = l.length := by omega
  refine ⟨.inr rfl,rfl,fun h => H.fin0 (by rw [hlen]; rcases hlg with ⟨_,e⟩ | e; exact e; exact absurd h e),FolH.fin st hnx (.inl (by rw [hlen]; exact hC))⟩
theorem fol_next (hc : OkC c) (hk : k < c.ins.length) (hn : 0 ≤ n0 ∧ n0 ≤ 60) (hs : shapeV c.ins[k] = .frees ∨ ∃ o n l,shapeV c.ins[k] = .makes o n l) (H : FolH c k n0 b bc ba br s [(((k + 1 : Nat) : Int),n0 + 1)] C D) :
  RunsV ER 121 [.func (.yield b) [] [],.ptr bc 0,.ptr ba 0,.ptr br 0] s (FolR s [(((k + 1 : Nat) : Int),n0 + 1)] C D) := by
 have hp0 := recs_idx encI_len hk
 obtain ⟨hb0,hb1,hb2⟩ := H.box 0 _ _ H.c0
 have hb0' : s.enter.heap.get bc = some (.cells (encC c) 28 false) := hb0
 have hb1' : s.enter.heap.get ba = some (.cells [.int .i64 (k : Nat)] 3 false) := hb1
 have hb2' : s.enter.heap.get br = some (.cells [.int .i64 n0] 3 false) := hb2
 have hl1 := hc.long
 have hy := H.yes 0 (Nat.succ_pos 0) s.enter (Nat.le_refl _) (Nat.le_refl _) H.c0
 have hfin : ∀ v s',(s.enter.next ≤ s'.next ∧ s'.bound = s.enter.bound ∧ b ∈ s'.log ∧ (∀ d ∈ s'.log,d ∈ s.enter.log ∨ d < s.enter.bound) ∧ (∀ d,d < s.enter.bound → d ∉ s'.log → s'.heap.get d = s.enter.heap.get d) ∧ (v = true → C (0 + 1) s'.next s'.heap) ∧ (v = false → D s'.next s'.heap)) →
   (s'.log = [] → FolR s [(((k + 1 : Nat) : Int),n0 + 1)] C D (.tuple []) s) ∧ FolR s [(((k + 1 : Nat) : Int),n0 + 1)] C D (.tuple []) (s.back s') := by
  rintro v s' ⟨y1,y2,y3,y4,y5,y6,y7⟩
  refine ⟨fun h => absurd h (List.ne_nil_of_mem y3),FolH.fin s' y1 ?_⟩
  cases v with
  | true => exact .inl (y6 rfl)
  | false => exact .inr (y7 rfl)
 generalize hx : c.ins[k] = x at *
 refine RunsV.unit (fn := Tryz.f121) rfl (by kernel_rfl) rfl rfl rfl rfl ?_
 refine Es ?_
 refine Lq (of f_28_1 rfl) rfl ?_
 refine Lo (OpL.load rfl rfl (loadOne_at ag_25 sz_25 ‹_› rfl)) rfl ?_
 refine Lo (OpL.load rfl rfl (loadOne_at ag_3 sz_3 ‹_› rfl)) rfl ?_
 refine Lq (OpQ.indexAddrV rfl u_25 sz_58 rfl rfl ‹_›) rfl ?_
 refine Lq (OpQ.loadI rfl rfl ag_58 sz_58 (Nat.le_of_ble_eq_true rfl)) rfl ?_
 refine Lo (OpL.callFn rfl rfl (by kernel_rfl) rfl (CallTo.memo (hit_51))) rfl ?_
 refine Ld ?_
 refine EvtL.block ?_
 rcases hs with hs | ⟨o,n,l,hs⟩
 ·rw [hs]
  refine Es ?_
  refine Lq (OpQ.typeAs rfl if_114 z_114 rfl rfl) rfl ?_
  iterate 2 refine Lq (oe rfl) rfl ?_
  refine Ld ?_
  refine EvtL.condF rfl rfl ?_
  refine Es ?_
  refine Lq (OpQ.typeAs rfl if_117 z_117 rfl rfl) rfl ?_
  iterate 2 refine Lq (oe rfl) rfl ?_
  refine Ld ?_
  refine EvtL.condF rfl rfl ?_
  refine Es ?_
  refine Lq (OpQ.typeAs rfl if_167 z_167 rfl rfl) rfl ?_
  iterate 2 refine Lq (oe rfl) rfl ?_
  refine Lq (OpQ.typeAs rfl if_119 z_119 rfl rfl) rfl ?_
  iterate 2 refine Lq (oe rfl) rfl ?_
  refine Lq (oT rfl rfl rfl) rfl ?_
  refine Ld ?_
  refine EvtL.condT rfl rfl ?_
  refine Es ?_
  refine qa rfl ?_
  refine Ld ?_
  refine EvtL.reg ?_
  refine qm rfl ?_
  refine Lo (OpL.load rfl rfl (loadOne_at ag_3 sz_3 ‹_› rfl)) rfl ?_
  refine Lq (OpQ.addN (b := 1) rfl u_3 rfl rfl (by first | assumption | omega | (simp only [LL]; omega))) rfl ?_
  refine Lo (OpL.load rfl rfl (loadOne_at ag_3 sz_3 ‹_› rfl)) rfl ?_
  refine Lq (OpQ.add rfl u_3 rfl rfl (by omega)) rfl ?_
  refine RegL.yields rfl rfl rfl rfl rfl rfl rfl hy ?_
  intro v s' h
  refine Ld ?_
  exact ⟨.inr rfl,rfl,(hfin v s' h).1,(hfin v s' h).2⟩
 ·rw [hs]
  refine Es ?_
  refine Lq (OpQ.typeAs rfl if_114 z_114 rfl rfl) rfl ?_
  iterate 2 refine Lq (oe rfl) rfl ?_
  refine Ld ?_
  refine EvtL.condF rfl rfl ?_
  refine Es ?_
  refine Lq (OpQ.typeAs rfl if_117 z_117 rfl rfl) rfl ?_
  iterate 2 refine Lq (oe rfl) rfl ?_
  refine Ld ?_
  refine EvtL.condF rfl rfl ?_
  refine Es ?_
  refine Lq (OpQ.typeAs rfl if_167 z_167 rfl rfl) rfl ?_
  iterate 2 refine Lq (oe rfl) rfl ?_
  refine Lq (OpQ.typeAs rfl if_119 z_119 rfl rfl) rfl ?_
  iterate 2 refine Lq (oe rfl) rfl ?_
  refine Lq (oF rfl rfl rfl) rfl ?_
  refine Ld ?_
  refine EvtL.condT rfl rfl ?_
  refine Es ?_
  refine qa rfl ?_
  refine Ld ?_
  refine EvtL.reg ?_
  refine qm rfl ?_
  refine Lo (OpL.load rfl rfl (loadOne_at ag_3 sz_3 ‹_› rfl)) rfl ?_
  refine Lq (OpQ.addN (b := 1) rfl u_3 rfl rfl (by first | assumption | omega | (simp only [LL]; omega))) rfl ?_
  refine Lo (OpL.load rfl rfl (loadOne_at ag_3 sz_3 ‹_› rfl)) rfl ?_
  refine Lq (OpQ.add rfl u_3 rfl rfl (by omega)) rfl ?_
  refine RegL.yields rfl rfl rfl rfl rfl rfl rfl hy ?_
  intro v s' h
  refine Ld ?_
  exact ⟨.inr rfl,rfl,(hfin v s' h).1,(hfin v s' h).2⟩
theorem fol_none (hc : OkC c) (hk : k < c.ins.length) (hs : shapeV c.ins[k] = .fails ∨ ∃ r,shapeV c.ins[k] = .enters r) (H : FolH c k n0 b bc ba br s [] C D) :
  RunsV ER 121 [.func (.yield b) [] [],.ptr bc 0,.ptr ba 0,.ptr br 0] s (FolR s [] C D) := by
 have hp0 := recs_idx encI_len hk
 obtain ⟨hb0,hb1,hb2⟩ := H.box 0 _ _ H.c0
 have hb0' : s.enter.heap.get bc = some (.cells (encC c) 28 false) := hb0
 have hb1' : s.enter.heap.get ba = some (.cells [.int .i64 (k : Nat)] 3 false) := hb1
 generalize hx : c.ins[k] = x at *
 refine RunsV.unit (fn := Tryz.f121) rfl (by kernel_rfl) rfl rfl rfl rfl ?_
 refine Es ?_
 refine Lq (of f_28_1 rfl) rfl ?_
 refine Lo (OpL.load rfl rfl (loadOne_at ag_25 sz_25 ‹_› rfl)) rfl ?_
 refine Lo (OpL.load rfl rfl (loadOne_at ag_3 sz_3 ‹_› rfl)) rfl ?_
 refine Lq (OpQ.indexAddrV rfl u_25 sz_58 rfl rfl ‹_›) rfl ?_
 refine Lq (OpQ.loadI rfl rfl ag_58 sz_58 (Nat.le_of_ble_eq_true rfl)) rfl ?_
 refine Lo (OpL.callFn rfl rfl (by kernel_rfl) rfl (CallTo.memo (hit_51))) rfl ?_
 refine Ld ?_
 refine EvtL.block ?_
 rcases hs with hs | ⟨r,hs⟩
 ·rw [hs]
  refine Es ?_
  refine Lq (OpQ.typeAs rfl if_114 z_114 rfl rfl) rfl ?_
  iterate 2 refine Lq (oe rfl) rfl ?_
  refine Ld ?_
  refine EvtL.condF rfl rfl ?_
  refine Es ?_
  refine Lq (OpQ.typeAs rfl if_117 z_117 rfl rfl) rfl ?_
  iterate 2 refine Lq (oe rfl) rfl ?_
  refine Ld ?_
  refine EvtL.condF rfl rfl ?_
  refine Es ?_
  refine Lq (OpQ.typeAs rfl if_167 z_167 rfl rfl) rfl ?_
  iterate 2 refine Lq (oe rfl) rfl ?_
  refine Lq (OpQ.typeAs rfl if_119 z_119 rfl rfl) rfl ?_
  iterate 2 refine Lq (oe rfl) rfl ?_
  refine Lq (oF rfl rfl rfl) rfl ?_
  refine Ld ?_
  refine EvtL.condF rfl rfl ?_
  refine EvtL.skip ?_
  exact ⟨.inr rfl,rfl,fun _ => H.fin0 rfl,FolH.fin s.enter (Nat.le_refl _) (.inl H.c0)⟩
 ·rw [hs]
  refine Es ?_
  refine Lq (OpQ.typeAs rfl if_114 z_114 rfl rfl) rfl ?_
  iterate 2 refine Lq (oe rfl) rfl ?_
  refine Ld ?_
  refine EvtL.condF rfl rfl ?_
  refine Es ?_
  refine Lq (OpQ.typeAs rfl if_117 z_117 rfl rfl) rfl ?_
  iterate 2 refine Lq (oe rfl) rfl ?_
  refine Ld ?_
  refine EvtL.condF rfl rfl ?_
  refine Es ?_
  refine Lq (OpQ.typeAs rfl if_167 z_167 rfl rfl) rfl ?_
  iterate 2 refine Lq (oe rfl) rfl ?_
  refine Lq (OpQ.typeAs rfl if_119 z_119 rfl rfl) rfl ?_
  iterate 2 refine Lq (oe rfl) rfl ?_
  refine Lq (oF rfl rfl rfl) rfl ?_
  refine Ld ?_
  refine EvtL.condF rfl rfl ?_
  refine EvtL.skip ?_
  exact ⟨.inr rfl,rfl,fun _ => H.fin0 rfl,FolH.fin s.enter (Nat.le_refl _) (.inl H.c0)⟩
theorem fol_run (hc : OkC c) (hk : k < c.ins.length) (hn : 0 ≤ n0 ∧ n0 ≤ 60) (H : FolH c k n0 b bc ba br s (succs c k c.ins[k] n0) C D) :
  RunsV ER 121 [.func (.yield b) [] [],.ptr bc 0,.ptr ba 0,.ptr br 0] s (FolR s (succs c k c.ins[k] n0) C D) := by
 have hins := hc.ins hk
 have hs0 := insV_shape c k c.ins[k]
 rw [hins] at hs0
 rw [succs_shape hins] at H ⊢
 rcases h : shapeV c.ins[k] with ⟨r,l⟩ | l | _ | _ | ⟨o,n',l⟩ | r | _
 ·rw [h] at H; exact fol_looks hc hk hn r l h H
 ·rw [h] at H; exact fol_goes hc hk l h H
 ·rw [h] at H; exact fol_none hc hk (.inl h) H
 ·rw [h] at H; exact fol_next hc hk hn (.inl h) H
 ·rw [h] at H; exact fol_next hc hk hn (.inr ⟨_,_,_,h⟩) H
 ·rw [h] at H; exact fol_none hc hk (.inr ⟨_,h⟩) H
 ·rw [h] at hs0; cases hs0
theorem follows_run {st : St} {R : AV → St → Prop}
  (hR : ∀ st',st'.next = st.next + 3 → st'.heap.get st.next = some (.cells (encC c) 28 false) → st'.heap.get (st.next + 1) = some (.cells [.int .i64 (k : Nat)] 3 false) → st'.heap.get (st.next + 2) = some (.cells [.int .i64 n0] 3 false) → Chg st st' (fun _ => False) →
   R (.func (.func 121) [] [.ptr st.next 0,.ptr (st.next + 1) 0,.ptr (st.next + 2) 0]) st') : RunsV ER 72 [.agg (encC c),.int .i64 (k : Nat),.int .i64 n0] st R := by
 refine RunsV.gen (fn := Tryz.f72) rfl (by kernel_rfl) rfl rfl rfl rfl ?_
 refine Es ?_
 iterate 3 refine Lo (OpL.box rfl rfl rfl) rfl ?_
 refine qa rfl ?_
 refine Ld ?_
 refine Es ?_
 refine Lq (OpQ.makeFunc rfl rfl rfl) rfl ?_
 refine qa rfl ?_
 refine Ld ?_
 refine EvtL.ret ?_
 have hlt : Nat.blt st.next st.next = false := by
  cases hb : Nat.blt st.next st.next with
  | false => rfl
  | true => have : st.next < st.next := Nat.le_of_ble_eq_true hb; omega
 have hch : Chg st.enter (((st.enter.alloc (.cells (encC c) 28 false)).alloc (.cells [.int .i64 (k : Nat)] 3 false)).alloc (.cells [.int .i64 n0] 3 false)) (fun _ => False) :=
  (Chg.trans (Chg.trans Chg.alloc Chg.alloc (o1 := fun _ => False) (o2 := fun _ => False) (own := fun _ => False) (fun _ h => h) (fun _ h => h.elim) (Nat.le_refl _)) Chg.alloc (o2 := fun _ => False) (own := fun _ => False) (fun _ h => h) (fun _ h => h.elim) (Nat.le_refl _))
 refine ⟨.inl rfl,_,rfl,_,res_tmp rfl rfl,_,leave_clos rfl rfl rfl ?_,hR _ rfl ?_ ?_ ?_ hch.back⟩
 ·show (Nat.blt st.next st.next && _) = false
  rw [hlt]; rfl
 ·show (((st.enter.alloc _).alloc _).alloc _).heap.get st.next = _
  rw [get_allocS,if_neg (by show st.next ≠ st.next + 1 + 1; omega),get_allocS,if_neg (by show st.next ≠ st.next + 1; omega)]
  exact get_new (st := st.enter)
 ·show (((st.enter.alloc _).alloc _).alloc _).heap.get (st.next + 1) = _
  rw [get_allocS,if_neg (by show st.next + 1 ≠ st.next + 1 + 1; omega)]
  exact get_new (st := st.enter.alloc _)
 ·exact get_new (st := (st.enter.alloc _).alloc _)
end
end Go.Proofs.YtpihdbhocgcbpaaGreatDoor

/- code.before: its heap. -/
open Go Am
namespace Go.Proofs.YtpihdbhocgcbpaaGreatDoor
structure BefH (c : CodeT) (v : AV) (b4 b5 : Nat) (out : List Int) (n : Nat) (h : Tr AObj) : Prop where
 g0 : h.get 0 = some (.cells (encC c) 28 false)
 g1 : h.get 1 = some (.cells [.nilslice] 26 false)
 g2 : h.get 2 = some (.cells [.bool false] 4 false)
 g4 : h.get b4 = some (.cells [v] 26 false)
 g5 : h.get b5 = some (.cells [.func (.func 69) [] [.ptr b4 0]] 143 false)
 vo : (v = .nilslice ∧ out = []) ∨ ∃ b,v = .slice b 0 out.length 1 (some out.length) ∧ 4 ≤ b ∧ b < b4 ∧ h.get b = some (.cells (zs out) 3 false) ∧ out ≠ []
 n4 : 4 ≤ b4
 n5 : b4 < b5
 lt : b5 < n
section
variable {c : CodeT} {v : AV} {b4 b5 : Nat} {out : List Int}
theorem BefH.mono {n n' : Nat} {h h' : Tr AObj} (H : BefH c v b4 b5 out n h) (hn : n ≤ n') (hh : ∀ d,d < n → h'.get d = h.get d) : BefH c v b4 b5 out n' h' := by
 have := H.n4
 have := H.n5
 have := H.lt
 refine ⟨(hh 0 (by omega)).trans H.g0,(hh 1 (by omega)).trans H.g1,(hh 2 (by omega)).trans H.g2,(hh b4 (by omega)).trans H.g4,(hh b5 (by omega)).trans H.g5,?_,H.n4,H.n5,by omega⟩
 rcases H.vo with h | ⟨b,h1,h2,h3,h4,h5⟩
 ·exact .inl h
 ·exact .inr ⟨b,h1,h2,h3,(hh b (by omega)).trans h4,h5⟩
theorem BefH.other {n : Nat} {h h' : Tr AObj} (H : BefH c v b4 b5 out n h) (hh : ∀ d,d ≤ b5 → h'.get d = h.get d) : BefH c v b4 b5 out n h' := by
 have := H.n4
 have := H.n5
 refine ⟨(hh 0 (by omega)).trans H.g0,(hh 1 (by omega)).trans H.g1,(hh 2 (by omega)).trans H.g2,(hh b4 (by omega)).trans H.g4,(hh b5 (by omega)).trans H.g5,?_,H.n4,H.n5,H.lt⟩
 rcases H.vo with h | ⟨b,h1,h2,h3,h4,h5⟩
 ·exact .inl h
 ·exact .inr ⟨b,h1,h2,h3,(hh b (by omega)).trans h4,h5⟩
theorem BefH.outR {st : St} (H : BefH c v b4 b5 out st.next st.heap) : OutR st v out := by
 have := H.n5
 have := H.lt
 rcases H.vo with h | ⟨b,h1,h2,h3,h4,h5⟩
 ·exact .inl h
 ·exact .inr ⟨b,h1,by omega,h4,h5⟩
theorem BefH.own {n : Nat} {h : Tr AObj} (H : BefH c v b4 b5 out n h) {d : Nat} (hd : d < 4 ∨ b4 ≤ d) : ¬ ownB d v = true := by
 rcases H.vo with ⟨rfl,_⟩ | ⟨b,rfl,h2,h3,_,_⟩
 ·intro h; cases h
 ·intro h
  have : b = d := Nat.eq_of_beq_eq_true h
  omega
theorem BefH.reach {st s2 : St} {k : Nat} {r : Int} (H : BefH c v b4 b5 out st.next st.heap) (hq : OutR s2 v (out.set k r)) (hc : Chg st s2 (fun d => ownB d v = true)) (hn : s2.next = st.next) : BefH c v b4 b5 (out.set k r) s2.next s2.heap := by
 have n4 := H.n4
 have n5 := H.n5
 have lt := H.lt
 have hk : ∀ d,(d < 4 ∨ b4 ≤ d) → d < st.next → s2.heap.get d = st.heap.get d := fun d hd hlt => hc.heap d hlt (H.own hd)
 refine ⟨(hk 0 (by omega) (by omega)).trans H.g0,(hk 1 (by omega) (by omega)).trans H.g1,(hk 2 (by omega) (by omega)).trans H.g2,(hk b4 (by omega) (by omega)).trans H.g4,(hk b5 (by omega) (by omega)).trans H.g5,?_,n4,n5,by omega⟩
 rcases H.vo with ⟨rfl,rfl⟩ | ⟨b,rfl,h2,h3,h4,h5⟩
 ·exact .inl ⟨rfl,rfl⟩
 ·rcases hq with ⟨h,_⟩ | ⟨b',e,_,hb',hne⟩
  ·cases h
  ·obtain ⟨rfl,_⟩ := AV.slice.inj e
   exact .inr ⟨b,by rw [List.length_set],h2,h3,hb',hne⟩
def ReachQ (st : St) (v : AV) (out : List Int) (k : Nat) (r : Int) (w : AV) (s2 : St) : Prop :=
 (w = .bool false ∧ reachB out k r = true ∧ s2 = st) ∨ (w = .bool true ∧ reachB out k r = false ∧ OutR s2 v (out.set k r) ∧ Chg st s2 (fun d => ownB d v = true) ∧ s2.next = st.next ∧ ∀ d,d < st.bound → d ∉ s2.log → s2.heap.get d = st.heap.get d)
theorem reach_q {st : St} (hg4 : st.heap.get b4 = some (.cells [v] 26 false)) (ho : OutR st v out) (hl : out.length ≤ 4000) (k : Nat) (r : Int) : RunsV ER 69 [.int .i64 (k : Nat),.int .i64 r,.ptr b4 0] st (ReachQ st v out k r) :=
 reach_run hg4 ho hl k r (fun h => .inl ⟨rfl,h,rfl⟩) (fun h st' h1 h2 h3 _ h5 => .inr ⟨rfl,h,h1,h2,h3,h5⟩)
end
theorem over_to {n0 : Int} {b : Nat} {s : St} (hg : s.heap.get b = some (.cells [.int .i64 n0] 3 false)) (r : Int) : CallTo ER 71 [.int .i64 r,.ptr b 0] s (.bool (decide (n0 ≤ r))) := by
 refine CallTo.flat (fn := Tryz.f71) rfl (by kernel_rfl) rfl rfl rfl rfl (fun _ _ => rfl) (fun _ => rfl) ?_
 have hg' : s.enter.heap.get b = some (.cells [.int .i64 n0] 3 false) := hg
 refine Es<|qa rfl<|Ld<|Es<|qm rfl<|Lo (OpL.load rfl rfl (loadOne_at ag_3 sz_3 ‹_› rfl)) rfl<|Lq (o2 u_3 rfl rfl) rfl<|qa rfl ?_
 refine Ld ?_
 exact EvtL.ret ⟨.inl rfl,rfl,rfl,_,res_tmp rfl rfl,rfl⟩
def regsS : ShT → List Int
 | .looks r _ => [r]
 | .makes _ _ l => l
 | .enters r => [r]
 | _ => []
theorem below_any (l : List Int) (n : Int) : (l.any fun r => decide (n ≤ r)) = !belowV l n := by
 have h := all_range l 0 (fun r => !decide (n ≤ r))
 unfold belowV
 rw [← h,List.not_all_eq_any_not]
 simp only [Bool.not_not]
theorem safe_shape {c : CodeT} {k : Nat} {x : InsT} {n : Int} (hi : insV c k x = true) : ((regsS (shapeV x)).any fun r => decide (n ≤ r)) = !safeV x n := by
 have hs := insV_shape c k x
 rw [hi] at hs
 obtain ⟨h1,h2,h3,h4,h5,h6⟩ := shape_op (x := x)
 have one : ∀ r : Int,([r].any fun r => decide (n ≤ r)) = !decide (r < n) := fun r => by
  rw [List.any_cons,List.any_nil,Bool.or_false]
  by_cases h : r < n
  ·rw [decide_eq_true h,decide_eq_false (by omega)]; rfl
  ·rw [decide_eq_false h,decide_eq_true (by omega)]; rfl
 unfold safeV
 rcases h : shapeV x with ⟨r,l⟩ | l | _ | _ | ⟨o,n',l⟩ | r | _
 ·obtain ⟨e,rfl,_⟩ := h1 r l h
  rw [if_pos (.inl e)]; exact one _
 ·obtain ⟨e,_⟩ := h2 l h
  rw [if_neg (by omega),if_neg (by omega)]; rfl
 ·have e := h3 h
  rw [if_neg (by omega),if_neg (by omega)]; rfl
 ·have e := h4 h
  rw [if_neg (by omega),if_neg (by omega)]; rfl
 ·obtain ⟨e,rfl⟩ := h5 _ _ _ h
  rw [if_neg (by omega),if_pos e]; exact below_any _ _
 ·obtain ⟨e,rfl⟩ := h6 r h
  rw [if_pos (.inr e)]; exact one _
 ·rw [h] at hs; cases hs
def BefEnd (c : CodeT) (ex : Ex) (fr : Fr) (l : Sl) (st : St) : Prop := (ex = .ret ∨ ex = .normal) ∧ ∃ st',unwinds fr.defers st = some st' ∧ st'.log = [] ∧ st'.bound = 0 ∧ ∃ vs w ks,resultsL ER st' l (Tryz.f34).results.toList = some vs ∧ frzV st' 0 40 (oneA vs) [] = some (w,ks) ∧ underV 0 40 w = true ∧ w = beforeA c
def dfs (rs : List Nat) : List ADef := rs.map fun r => { target := .collected r,args := [] }
theorem bef_no {c : CodeT} {fr : Fr} {l : Sl} {st : St} {rs : List Nat} (hd : fr.defers = dfs rs) (hnd : rs.Nodup) (hrs : ∀ r ∈ rs,st.heap.get r = some (.defs true) ∧ 4 ≤ r) (h2 : Am.look 2 l = some (.ptr 1 0)) (h3 : Am.look 3 l = some (.ptr 2 0))
  (g1 : st.heap.get 1 = some (.cells [.nilslice] 26 false)) (g2 : st.heap.get 2 = some (.cells [.bool false] 4 false)) (hb : st.bound = 0) (hl : st.log = []) (hn : beforeV c = none) : BefEnd c .ret fr l st := by
 obtain ⟨s',e1,e2,e3,e4,e5⟩ := unwinds_all hnd (fun r hr => (hrs r hr).1)
 have nin : ∀ d,d < 4 → d ∉ rs := fun d hd h => by have := (hrs d h).2; omega
 refine ⟨.inl rfl,s',by rw [hd]; exact e1,(e4 hb).trans hl,e3.trans hb,[.nilslice,.bool false],.tuple [.nilslice,.bool false],[],?_,rfl,rfl,?_⟩
 ·exact res_cellG1 h2 ag_26 sz_26 ((e5 1 (nin 1 (by decide))).trans g1) rfl (res_cellG1 h3 ag_4 sz_4 ((e5 2 (nin 2 (by decide))).trans g2) rfl rfl)
 ·unfold beforeA; rw [hn]
theorem bef_yes {c : CodeT} {fr : Fr} {l : Sl} {st : St} {rs : List Nat} {v : AV} {out : List Int} (hd : fr.defers = dfs rs) (hnd : rs.Nodup) (hrs : ∀ r ∈ rs,st.heap.get r = some (.defs true) ∧ 4 ≤ r) (h2 : Am.look 2 l = some (.ptr 1 0)) (h3 : Am.look 3 l = some (.ptr 2 0))
  (g1 : st.heap.get 1 = some (.cells [v] 26 false)) (g2 : st.heap.get 2 = some (.cells [.bool true] 4 false)) (hv : (v = .nilslice ∧ out = []) ∨ ∃ b,v = .slice b 0 out.length 1 (some out.length) ∧ st.heap.get b = some (.cells (zs out) 3 false) ∧ out ≠ [] ∧ b ∉ rs)
  (hb : st.bound = 0) (hl : st.log = []) (hn : beforeV c = some out) : BefEnd c .ret fr l st := by
 obtain ⟨s',e1,e2,e3,e4,e5⟩ := unwinds_all hnd (fun r hr => (hrs r hr).1)
 have nin : ∀ d,d < 4 → d ∉ rs := fun d hd h => by have := (hrs d h).2; omega
 have hfz : ∃ ks,frzV s' 0 39 v [] = some (outA (zs out) out.length 1,ks) := by
  rcases hv with ⟨rfl,rfl⟩ | ⟨b,rfl,hg,hne,hbr⟩
  ·exact ⟨[],rfl⟩
  ·have hln : out.length ≠ 0 := fun h => hne (List.length_eq_zero_iff.1 h)
   rw [outA_ne hln]
   refine ⟨[b],?_⟩
   show (cellsOf? (s'.heap.get b)).bind _ = _
   rw [e5 b hbr,hg]
   show (cut (zs out) 0 (out.length * 1)).bind _ = _
   rw [cut_eq (by rw [zs_len]; omega),List.drop_zero,List.take_of_length_le (by rw [zs_len]; omega)]
   show (frzV.many (frzV s' 0 38) (zs out) []).bind _ = _
   rw [frz_many (zs_plain out)]
   show some (AV.islice _ _ _ ((zs out).all (closedV 40)),_) = _
   rw [zs_closed]
 obtain ⟨ks,hfz⟩ := hfz
 refine ⟨.inl rfl,s',by rw [hd]; exact e1,(e4 hb).trans hl,e3.trans hb,[v,.bool true],.tuple [outA (zs out) out.length 1,.bool true],ks,?_,?_,?_,?_⟩
 ·exact res_cellG1 h2 ag_26 sz_26 ((e5 1 (nin 1 (by decide))).trans g1) rfl (res_cellG1 h3 ag_4 sz_4 ((e5 2 (nin 2 (by decide))).trans g2) rfl rfl)
 ·show (frzV.many (frzV s' 0 39) [v,.bool true] []).bind _ = _
  unfold frzV.many frzV.many frzV.many
  rw [hfz]; rfl
 ·unfold outA
  cases Nat.beq out.length 0 <;> rfl
 ·unfold beforeA; rw [hn]
structure BC (c : CodeT) (v : AV) (b4 : Nat) (rs : List Nat) (bc k : Nat) (n0 : Int) (sn : Nat) (lp : ALoop) (out : List Int) (j n : Nat) (h : Tr AObj) : Prop where
 inn : Inn c k n0 j out
 bef : BefH c v b4 (b4 + 1) out n h
 x0 : h.get bc = some (.cells (encC c) 28 false)
 x1 : h.get (bc + 1) = some (.cells [.int .i64 (k : Nat)] 3 false)
 x2 : h.get (bc + 2) = some (.cells [.int .i64 n0] 3 false)
 rs : ∀ r ∈ rs,h.get r = some (.defs true) ∧ b4 + 1 < r ∧ r < bc
 df : h.get sn = some (.defs true)
 lp : h.get (sn + 1) = some (.loop lp)
 o1 : b4 + 1 < bc
 o2 : bc + 2 < sn
 o3 : sn + 1 < n
structure BD (c : CodeT) (b4 : Nat) (rs : List Nat) (bc sn n : Nat) (h : Tr AObj) : Prop where
 g1 : h.get 1 = some (.cells [.nilslice] 26 false)
 g2 : h.get 2 = some (.cells [.bool false] 4 false)
 rs : ∀ r ∈ rs,h.get r = some (.defs true) ∧ b4 + 1 < r ∧ r < bc
 df : h.get sn = some (.defs true)
 lp : ∃ lp,h.get (sn + 1) = some (.loop lp) ∧ lp.state = .done ∧ lp.pending = some .ret
 no : beforeV c = none
 o1 : 4 ≤ b4
 o2 : bc + 2 < sn
 o3 : sn + 1 < n
 o4 : b4 + 1 < bc
section
variable {c : CodeT} {v : AV} {b4 : Nat} {rs : List Nat} {bc k : Nat} {n0 : Int} {sn : Nat} {lp : ALoop} {out : List Int} {j n n' : Nat} {h h' : Tr AObj}
theorem BC.mono (H : BC c v b4 rs bc k n0 sn lp out j n h) (hn : n ≤ n') (hh : ∀ d,d < n → h'.get d = h.get d) : BC c v b4 rs bc k n0 sn lp out j n' h' := by
 have := H.o1
 have := H.o2
 have := H.o3
 exact ⟨H.inn,H.bef.mono hn hh,(hh _ (by omega)).trans H.x0,(hh _ (by omega)).trans H.x1,(hh _ (by omega)).trans H.x2,fun r hr => ⟨(hh r (by have := (H.rs r hr).2.2; omega)).trans (H.rs r hr).1,(H.rs r hr).2⟩,(hh _ (by omega)).trans H.df,(hh _ (by omega)).trans H.lp,H.o1,H.o2,by omega⟩
theorem BD.mono (H : BD c b4 rs bc sn n h) (hn : n ≤ n') (hh : ∀ d,d < n → h'.get d = h.get d) : BD c b4 rs bc sn n' h' := by
 have := H.o1
 have := H.o2
 have := H.o3
 have := H.o4
 obtain ⟨lp,l1,l2,l3⟩ := H.lp
 exact ⟨(hh _ (by omega)).trans H.g1,(hh _ (by omega)).trans H.g2,fun r hr => ⟨(hh r (by have := (H.rs r hr).2.2; omega)).trans (H.rs r hr).1,(H.rs r hr).2⟩,(hh _ (by omega)).trans H.df,⟨lp,(hh _ (by omega)).trans l1,l2,l3⟩,H.no,H.o1,H.o2,by omega,H.o4⟩
end
def lp0 (nt : Nat) (T : Tr AV) (ps : List Nat) (as_ bd : Code) : ALoop := { state := .ready,pending := none,fn := 0,nt := nt,tmps := T,params := ps,assign := as_,body := bd }
abbrev YesQ (c : CodeT) (v : AV) (b4 : Nat) (rs : List Nat) (bc k : Nat) (n0 : Int) (sn : Nat) (lp : ALoop) (j : Nat) (st : St) (w : Bool) (s' : St) : Prop :=
 st.next ≤ s'.next ∧ s'.bound = st.bound ∧ sn + 1 ∈ s'.log ∧ (∀ d ∈ s'.log,d ∈ st.log ∨ d < st.bound) ∧ (∀ d,d < st.bound → d ∉ s'.log → s'.heap.get d = st.heap.get d) ∧
  (w = true → ∃ out',BC c v b4 rs bc k n0 sn lp out' (j + 1) s'.next s'.heap) ∧ (w = false → BD c b4 rs bc sn s'.next s'.heap)
theorem fol_range {c : CodeT} {v : AV} {b4 : Nat} {rs : List Nat} {k : Nat} {n0 : Int} {out : List Int} {st3 : St} {bc : Nat} (hc : OkC c) (hk : k < c.ins.length) (hn : 0 ≤ n0 ∧ n0 ≤ 60) (nt : Nat) (T : Tr AV) (ps : List Nat) (as_ bd : Code)
  (hinn : Inn c k n0 0 out) (hbef : BefH c v b4 (b4 + 1) out st3.next st3.heap) (x0 : st3.heap.get bc = some (.cells (encC c) 28 false)) (x1 : st3.heap.get (bc + 1) = some (.cells [.int .i64 (k : Nat)] 3 false)) (x2 : st3.heap.get (bc + 2) = some (.cells [.int .i64 n0] 3 false))
  (hrs : ∀ r ∈ rs,st3.heap.get r = some (.defs true) ∧ b4 + 1 < r ∧ r < bc) (ho1 : b4 + 1 < bc) (ho2 : bc + 2 < st3.next)
  (hyes : ∀ (out' : List Int) (j : Nat) (hj : j < (succs c k c.ins[k] n0).length) (st : St),st3.next + 2 ≤ st.bound → st.bound ≤ st.next → BC c v b4 rs bc k n0 st3.next (lp0 nt T ps as_ bd) out' j st.next st.heap →
   Yields ER (st3.next + 1) [.int .i64 (succs c k c.ins[k] n0)[j].1,.int .i64 (succs c k c.ins[k] n0)[j].2] st (YesQ c v b4 rs bc k n0 st3.next (lp0 nt T ps as_ bd) j st)) :
  RunsV ER 121 [.func (.yield (st3.next + 1)) [] [],.ptr bc 0,.ptr (bc + 1) 0,.ptr (bc + 2) 0] (rangeSt st3 nt T ps as_ bd) (FolR (rangeSt st3 nt T ps as_ bd) (succs c k c.ins[k] n0) (fun j n h => ∃ out',BC c v b4 rs bc k n0 st3.next (lp0 nt T ps as_ bd) out' j n h) (fun n h => BD c b4 rs bc st3.next n h)) := by
 have hold : ∀ d,d < st3.next → (rangeSt st3 nt T ps as_ bd).heap.get d = st3.heap.get d := fun d hd => by
  show ((st3.alloc _).alloc _).heap.get d = _
  rw [get_old (Nat.lt_succ_of_lt hd),get_old hd]
 refine fol_run hc hk hn ⟨⟨out,hinn,hbef.mono (Nat.le_succ_of_le (Nat.le_succ _)) hold,(hold _ (by omega)).trans x0,(hold _ (by omega)).trans x1,(hold _ ho2).trans x2,fun r hr => ⟨(hold r (by have := hrs r hr; omega)).trans (hrs r hr).1,(hrs r hr).2⟩,?_,?_,ho1,ho2,Nat.lt_succ_self _⟩,
  fun j n h n' h' ⟨o,H⟩ hn hh => ⟨o,H.mono hn hh⟩,fun n h n' h' H hn hh => H.mono hn hh,fun j n h ⟨o,H⟩ => ⟨H.x0,H.x1,H.x2⟩,fun j hj st hb1 hb2 ⟨o,H⟩ => hyes o j hj st hb1 hb2 H,Nat.lt_succ_self _⟩
 ·show ((st3.alloc _).alloc _).heap.get st3.next = _
  rw [get_old (Nat.lt_succ_self _)]
  exact get_new
 ·exact get_new (st := st3.alloc _)
end Go.Proofs.YtpihdbhocgcbpaaGreatDoor

/- code.before. -/
open Go Am
namespace Go.Proofs.YtpihdbhocgcbpaaGreatDoor
set_option maxHeartbeats 4000000 in
theorem before_to (c : CodeT) (hc : OkC c) : CallTo ER 34 [.agg (encC c)] S0 (beforeA c) := by
 refine CallTo.s0u (fn := Tryz.f34) (by kernel_rfl) rfl (by kernel_rfl) rfl rfl rfl rfl ?_
 refine EvtL.mono (Q := fun ex fr l st => BefEnd c ex fr l st) ?_ (fun _ _ _ _ h => h)
 have hl := hc.long
 have hfu := hc.funs
 have hst := hc.fits.starts
 refine Es<|Lo (OpL.boxS 1 rfl rfl rfl rfl) rfl<|Lo (OpL.allocS 2 rfl z_26 rfl) rfl<|Lo (OpL.allocS 3 rfl z_4 rfl) rfl<|Ld<|Es<|Lo (OpL.buildSliceS 4 rfl u_26 sz_3 z_3 rfl rfl rfl rfl) rfl<|Lq (of f_28_1 rfl) rfl ?_
 refine Lo (l1 ag_25 sz_25 rfl) rfl<|Lq (ol u_25 rfl) rfl ?_
 refine RegL.callFn rfl rfl (by kernel_rfl) rfl rfl rfl rfl (repeat_run (b := 3) (n := c.ins.length) (get_mkS 3) (Nat.lt_succ_self 3) (by omega) ?_)
 intro st1 v hO hown hCh
 have h4 : 4 ≤ st1.next := hCh.next
 have k0 := (hCh.heap 0 (show 0 < 4 by omega) (fun h => h)).trans (get_mkS 0)
 have k1 := (hCh.heap 1 (show 1 < 4 by omega) (fun h => h)).trans (get_mkS 1)
 have k2 := (hCh.heap 2 (show 2 < 4 by omega) (fun h => h)).trans (get_mkS 2)
 have hb1 : st1.bound = 0 := hCh.bound
 have hl1 : st1.log = [] := List.eq_nil_iff_forall_not_mem.2 fun x hx => by
  rcases hCh.log x hx with h | ⟨_,h⟩
  ·cases h
  ·exact h
 have hvt : v.isTuple = false ∧ v.cells.length = 1 ∧ over v.cells 0 [.nilslice] = some [v] := by
  rcases hO with ⟨rfl,_⟩ | ⟨_,rfl,_⟩ <;> exact ⟨rfl,rfl,rfl⟩
 obtain ⟨a1,a2,a3,a4,a5,a6,a7⟩ := copied (st := st1) (z := [.nilslice]) (cs := [v]) (T := 26)
 refine Lo (OpL.alloc rfl z_26) rfl<|RegL.opN (OpL.store (s' := ((st1.alloc (.cells [.nilslice] 26 false)).put st1.next (some (.cells [v] 26 false)))) rfl sz_26 rfl rfl (storeN_at a1 hvt.2.1 hvt.1 hvt.2.2)) rfl rfl ?_
 obtain ⟨d1,d2,d3,d4,d5,d6,d7⟩ := copied (st := ((st1.alloc (.cells [.nilslice] 26 false)).put st1.next (some (.cells [v] 26 false)))) (z := [.nilfunc]) (cs := [.func (.func 69) [] [.ptr st1.next 0]]) (T := 143)
 have hbef : BefH c v st1.next (st1.next + 1) (List.replicate c.ins.length (-1)) ((((st1.alloc (.cells [.nilslice] 26 false)).put st1.next (some (.cells [v] 26 false))).alloc (.cells [.nilfunc] 143 false)).put ((st1.alloc (.cells [.nilslice] 26 false)).put st1.next (some (.cells [v] 26 false))).next (some (.cells [.func (.func 69) [] [.ptr st1.next 0]] 143 false))).next ((((st1.alloc (.cells [.nilslice] 26 false)).put st1.next (some (.cells [v] 26 false))).alloc (.cells [.nilfunc] 143 false)).put ((st1.alloc (.cells [.nilslice] 26 false)).put st1.next (some (.cells [v] 26 false))).next (some (.cells [.func (.func 69) [] [.ptr st1.next 0]] 143 false))).heap := by
  have e : ∀ d,d < st1.next → ((((st1.alloc (.cells [.nilslice] 26 false)).put st1.next (some (.cells [v] 26 false))).alloc (.cells [.nilfunc] 143 false)).put ((st1.alloc (.cells [.nilslice] 26 false)).put st1.next (some (.cells [v] 26 false))).next (some (.cells [.func (.func 69) [] [.ptr st1.next 0]] 143 false))).heap.get d = st1.heap.get d := fun d hd => (d4 d (by rw [a7]; omega)).trans (a4 d hd)
  refine ⟨(e 0 (by omega)).trans k0,(e 1 (by omega)).trans k1,(e 2 (by omega)).trans k2,(d4 st1.next (by rw [a7]; omega)).trans a2,d2,?_,h4,Nat.lt_succ_self _,by rw [d7]; exact Nat.lt_succ_self _⟩
  rcases hO with h | ⟨b,e1,e2,e3,e4⟩
  ·exact .inl h
  ·exact .inr ⟨b,e1,hown b (by rw [e1]; exact Nat.beq_refl b),e2,(e b e2).trans e3,e4⟩
 have hbB : ((((st1.alloc (.cells [.nilslice] 26 false)).put st1.next (some (.cells [v] 26 false))).alloc (.cells [.nilfunc] 143 false)).put ((st1.alloc (.cells [.nilslice] 26 false)).put st1.next (some (.cells [v] 26 false))).next (some (.cells [.func (.func 69) [] [.ptr st1.next 0]] 143 false))).bound = 0 := d5.trans (a5.trans hb1)
 have hlB : ((((st1.alloc (.cells [.nilslice] 26 false)).put st1.next (some (.cells [v] 26 false))).alloc (.cells [.nilfunc] 143 false)).put ((st1.alloc (.cells [.nilslice] 26 false)).put st1.next (some (.cells [v] 26 false))).next (some (.cells [.func (.func 69) [] [.ptr st1.next 0]] 143 false))).log = [] := (d6 (by rw [a5,hb1]; exact Nat.zero_le _)).trans ((a6 (by rw [hb1]; exact Nat.zero_le _)).trans hl1)
 have hg00 := hbef.g0
 refine Ld<|Es<|Lq (OpQ.makeFunc rfl rfl rfl) rfl<|Lo (OpL.alloc rfl z_143) rfl<|RegL.opN (OpL.store rfl sz_143 rfl rfl (storeN_at ‹_› rfl rfl rfl)) rfl rfl<|Ld<|EvtL.seq<|Es ?_
 refine Lq (of f_28_2 rfl) rfl<|Lo (OpL.load rfl rfl (loadOne_at ag_26 sz_26 ‹_› rfl)) rfl<|Lq (ol u_26 rfl) rfl<|qm rfl<|Ld<|EvtL.block ?_
 refine EvtL.loopI (fun y : Nat × List Int × St => ([(22,.int .i64 (y.1 : Nat)),(21,.int .i64 (c.starts.length : Nat)),(20,recs encZ 1 c.starts),(5,.ptr (st1.next + 1) 0),(4,.ptr st1.next 0),(3,.ptr 2 0),(2,.ptr 1 0),(1,.ptr 0 0)],y.2.2)) (fun y => c.starts.length - y.1)
  (fun y => y.1 ≤ c.starts.length ∧ Fw c y.2.1 ∧ StartsD c y.2.1 y.1 ∧ BefH c v st1.next (st1.next + 1) y.2.1 y.2.2.next y.2.2.heap ∧ y.2.2.bound = 0 ∧ y.2.2.log = []) (0,List.replicate c.ins.length (-1),((((st1.alloc (.cells [.nilslice] 26 false)).put st1.next (some (.cells [v] 26 false))).alloc (.cells [.nilfunc] 143 false)).put ((st1.alloc (.cells [.nilslice] 26 false)).put st1.next (some (.cells [v] 26 false))).next (some (.cells [.func (.func 69) [] [.ptr st1.next 0]] 143 false)))) ⟨Nat.zero_le _,Fw.init c,fun f hf => absurd hf (Nat.not_lt_zero _),hbef,hbB,hlB⟩ rfl (by (refine Am.sub_of ?_; repeat (first | exact trivial | refine ⟨rfl,?_⟩))) ?_
 clear hg00 hbef hbB hlB d1 d2 d3 d4 d5 d6 d7 a1 a2 a3 a4 a5 a6 a7 k0 k1 k2 hb1 hl1 hCh
 rintro ⟨i,out,st⟩ ⟨hi,hfw,hsd,hbf,hb,hlg⟩
 dsimp only at hi hfw hsd hbf hb hlg ⊢
 have g0 := hbf.g0
 have g4 := hbf.g4
 have g5 := hbf.g5
 by_cases h : i < c.starts.length
 ·have hp := recs_idx encZ_len h
  have h' : i < c.funs.length := by omega
  have hp2 := recs_idx encN_len h'
  have hs0 := hc.start h
  obtain ⟨k,hk⟩ : ∃ k : Nat,c.starts[i] = k := ⟨c.starts[i].toNat,by omega⟩
  have hsp : (c.starts.getD i 0,arity c.funs i) = (((k : Nat) : Int),c.funs[i].2) := by
   rw [getD_at h,hk]
   unfold arity
   rw [Int.toNat_natCast,getD_at h']
  have hgood := start_good hc h
  rw [hsp] at hgood
  have har := hc.funs2 _ (List.getElem_mem h')
  rw [hk] at hp hs0
  focus
   refine Es<|Lq (o2 u_3 rfl rfl) rfl<|Ld<|EvtL.seq ?_
   refine Ec rfl (fun g6 => ?_) (fun g6 => ?_)
   have h6 := dT g6
   refine EvtL.skip<|EvtL.seq<|EvtL.block<|Es<|qm rfl<|Lq (OpQ.indexAddrV rfl u_26 sz_3 rfl rfl ‹_›) rfl<|Lq (OpQ.loadI1 rfl rfl ag_3 sz_3) rfl ?_
   iterate 2 refine qa rfl ?_
   refine Ld<|EvtL.seqDrawN (by kernel_rfl)<|RegN.load rfl rfl (loadOne_at ag_143 sz_143 ‹_› rfl) rfl (.inl rfl) rfl rfl<|Nq (om rfl) rfl<|Nq (of f_28_0 rfl) rfl<|Nq (of f_24_1 rfl) rfl<|RegN.load rfl rfl (loadOne_at ag_22 sz_22 ‹_› rfl) rfl (.inl rfl) rfl rfl<|Nq (om rfl) rfl ?_
   refine Nq (OpQ.indexAddrV rfl u_22 sz_54 rfl rfl ‹_›) rfl<|Nq (OpQ.fieldAddrI rfl f_54_1 rfl (Nat.le_of_ble_eq_true rfl)) rfl<|Nq (OpQ.loadI1 rfl rfl ag_3 sz_3) rfl ?_
   rotate_left
   have h6 := dF g6
   exact absurd h6 (by omega)
  refine RegN.runs (by kernel_rfl) rfl rfl rfl rfl rfl (reach_q (st := st.sub st.heap) (out := out) g4 (BefH.outR (st := st.sub st.heap) hbf) (by rw [hfw.len]; omega) k c.funs[i].2) (by kernel_rfl) rfl (.inl rfl) rfl rfl ?_
  rintro w s2 (⟨rfl,hr,rfl⟩ | ⟨rfl,hr,hO2,hch,hn2,hlg2⟩)
  ·refine ⟨Nat.le_refl _,(fun d hd => by cases hd),fun nl2 => ?_⟩
   have hme := merged_eq (st := st) (s2 := st.sub st.heap) (Nat.le_refl _) (fun _ _ _ => rfl)
   have hb3 : (st.merged (st.sub st.heap)).bound = 0 := hb
   have hl3 : (st.merged (st.sub st.heap)).log = [] := hlg
   have hbf3 : BefH c v st1.next (st1.next + 1) out (st.merged (st.sub st.heap)).next (st.merged (st.sub st.heap)).heap := hbf.mono (Nat.le_refl _) hme
   generalize st.merged (st.sub st.heap) = st3 at *
   have hS1 := hbf3.g1
   have hS2 : (st3.put 1 (some (.cells [.nilslice] 26 false))).heap.get 2 = some (.cells [.bool false] 4 false) := by rw [get_putS,if_neg (by decide)]; exact hbf3.g2
   refine Nq (on rfl) rfl<|RegN.done<|EvtL.condT rfl rfl<|Es<|RegL.opN (OpL.store rfl sz_26 rfl rfl (storeN_at ‹_› rfl rfl rfl)) rfl rfl<|RegL.opN (OpL.store rfl sz_4 rfl rfl (storeN_at ‹_› rfl rfl rfl)) rfl rfl<|Ld<|EvtL.ret ?_
   exact bef_no (rs := []) rfl List.nodup_nil (fun r hr => by cases hr) rfl rfl (by rw [get_putS,if_neg (by decide),get_putS,if_pos rfl]) (by rw [get_putS,if_pos rfl]) hb3 ((put_low (show (st3.put 1 _).bound = 0 from hb3)).trans ((put_low hb3).trans hl3)) (hfw.bad (p := ((k : Nat),c.funs[i].2)) (by show (0 : Int) ≤ (k : Nat); omega) hgood hr)
  ·refine ⟨Nat.le_of_eq hn2.symm,fun d hd => ?_,fun nl2 => ?_⟩
   ·rcases hch.log d hd with h | ⟨h,_⟩
    ·cases h
    ·exact h
   have hme := merged_eq (st := st) (s2 := s2) (Nat.le_of_eq hn2.symm) hlg2
   have hb3 : (st.merged s2).bound = 0 := hb
   have hl3 : (st.merged s2).log = [] := by
    show below st.bound s2.log st.log = []
    rw [hb,below_zero]; exact hlg
   have hbf2 := BefH.reach (st := st.sub st.heap) hbf hO2 hch hn2
   have hbf3 : BefH c v st1.next (st1.next + 1) (out.set k c.funs[i].2) (st.merged s2).next (st.merged s2).heap := hbf2.mono (Nat.le_refl _) hme
   generalize st.merged s2 = st3 at *
   refine Nq (on rfl) rfl<|RegN.done<|EvtL.condF rfl rfl<|EvtL.skip<|EvtL.reg ?_
   refine Lq (OpQ.addN (b := 1) rfl u_3 rfl rfl (by first | assumption | omega | (simp only [LL]; omega))) rfl ?_
   refine qm rfl<|Ld ?_
   refine ⟨(i + 1,out.set k c.funs[i].2,st3),⟨h,hfw.set (p := ((k : Nat),c.funs[i].2)) har.1 hgood (.inl ⟨i,h,by rw [getD_at h,hk]⟩) hr,?_,hbf3,hb3,hl3⟩,by show c.starts.length - (i + 1) < c.starts.length - i; omega,rfl,rfl,by (refine Am.sub_of ?_; repeat (first | exact trivial | refine ⟨rfl,?_⟩))⟩
   intro f hf hf2
   rcases Nat.lt_or_ge f i with hlt | hge
   ·exact hsd.keep hc hr f hlt hf2
   ·obtain rfl : f = i := by omega
    have := (done_set hfw.len (p := ((k : Nat),c.funs[f].2)) (by show (0 : Int) ≤ (k : Nat); omega) hr).2.2
    have e1 : arity c.funs f = c.funs[f].2 := (Prod.mk.inj hsp).2
    have e2 : c.starts.getD f 0 = (k : Nat) := (Prod.mk.inj hsp).1
    rw [e1,e2]; exact this
 obtain rfl : i = c.starts.length := by omega
 have hmn0 : Mn c out 0 := ⟨hfw,hsd,fun a ha => absurd ha (Nat.not_lt_zero _)⟩
 focus
  refine Es<|Lq (o2 u_3 rfl rfl) rfl<|Ld<|EvtL.seq ?_
  refine Ec rfl (fun g6 => ?_) (fun g6 => ?_)
  have h6 := dT g6
  exact absurd h6 (by omega)
  have h6 := dF g6
  refine EvtL.exit<|cond_t rfl<|EvtL.seq<|Es<|Lq (of f_28_1 rfl) rfl<|Lo (OpL.load rfl rfl (loadOne_at ag_25 sz_25 ‹_› rfl)) rfl<|Lq (ol u_25 rfl) rfl<|qm rfl ?_
  refine Ld<|EvtL.block ?_
  rotate_left
 refine EvtL.loopF (fun y : Nat × List Int × List Nat × St => ([(42,.int .i64 (y.1 : Nat)),(41,.int .i64 (c.ins.length : Nat)),(40,recs encI 7 c.ins),(5,.ptr (st1.next + 1) 0),(4,.ptr st1.next 0),(3,.ptr 2 0),(2,.ptr 1 0),(1,.ptr 0 0)],y.2.2.2)) (fun y => { frame Tryz.f34.ntmps [.agg (encC c)] none with defers := dfs y.2.2.1 }) (fun y => c.ins.length - y.1)
  (fun y => y.1 ≤ c.ins.length ∧ Mn c y.2.1 y.1 ∧ BefH c v st1.next (st1.next + 1) y.2.1 y.2.2.2.next y.2.2.2.heap ∧ y.2.2.1.Nodup ∧ (∀ r ∈ y.2.2.1,y.2.2.2.heap.get r = some (.defs true) ∧ st1.next + 1 < r ∧ r < y.2.2.2.next) ∧ y.2.2.2.bound = 0 ∧ y.2.2.2.log = [])
  (0,out,[],st) ⟨Nat.zero_le _,hmn0,hbf,List.nodup_nil,fun r hr => (by cases hr),hb,hlg⟩ rfl rfl (by (refine Am.sub_of ?_; repeat (first | exact trivial | refine ⟨rfl,?_⟩))) ?_
 clear hmn0 hbf hb hlg g0 g4 g5 hsd hfw
 rintro ⟨k,out,rs,st⟩ ⟨hk,hmn,hbf,hnd,hrs,hb,hlg⟩
 dsimp only at hk hmn hbf hnd hrs hb hlg ⊢
 by_cases h : k < c.ins.length
 ·have hp := recs_idx encI_len h
  have hol : out.length = c.ins.length := hmn.fw.len
  obtain ⟨b,hve,hb4,hb5,hgb,hne⟩ : ∃ b,v = .slice b 0 out.length 1 (some out.length) ∧ 4 ≤ b ∧ b < st1.next ∧ st.heap.get b = some (.cells (zs out) 3 false) ∧ out ≠ [] := by
   rcases hbf.vo with ⟨_,h0⟩ | h0
   ·rw [h0] at hol
    have : (0 : Nat) = c.ins.length := hol
    omega
   ·exact h0
  obtain ⟨a1,a2,a3,a4,a5,a6,a7⟩ := copied (st := st) (z := [.int .i64 0,.int .i64 0,.nilslice,.nilslice,.int .i64 0,.int .i64 0,.nilslice]) (cs := encI c.ins[k]) (T := 58)
  obtain ⟨d1,d2,d3,d4,d5,d6,d7⟩ := copied (st := ((st.alloc (.cells [.int .i64 0,.int .i64 0,.nilslice,.nilslice,.int .i64 0,.int .i64 0,.nilslice] 58 false)).put st.next (some (.cells (encI c.ins[k]) 58 false)))) (z := [.int .i64 0]) (cs := [.int .i64 (oA out k)]) (T := 3)
  have f1 : BefH c v st1.next (st1.next + 1) out ((st.alloc (.cells [.int .i64 0,.int .i64 0,.nilslice,.nilslice,.int .i64 0,.int .i64 0,.nilslice] 58 false)).put st.next (some (.cells (encI c.ins[k]) 58 false))).next ((st.alloc (.cells [.int .i64 0,.int .i64 0,.nilslice,.nilslice,.int .i64 0,.int .i64 0,.nilslice] 58 false)).put st.next (some (.cells (encI c.ins[k]) 58 false))).heap := hbf.mono (Nat.le_succ _) a4
  have f2 : BefH c v st1.next (st1.next + 1) out ((((st.alloc (.cells [.int .i64 0,.int .i64 0,.nilslice,.nilslice,.int .i64 0,.int .i64 0,.nilslice] 58 false)).put st.next (some (.cells (encI c.ins[k]) 58 false))).alloc (.cells [.int .i64 0] 3 false)).put ((st.alloc (.cells [.int .i64 0,.int .i64 0,.nilslice,.nilslice,.int .i64 0,.int .i64 0,.nilslice] 58 false)).put st.next (some (.cells (encI c.ins[k]) 58 false))).next (some (.cells [.int .i64 (oA out k)] 3 false))).next ((((st.alloc (.cells [.int .i64 0,.int .i64 0,.nilslice,.nilslice,.int .i64 0,.int .i64 0,.nilslice] 58 false)).put st.next (some (.cells (encI c.ins[k]) 58 false))).alloc (.cells [.int .i64 0] 3 false)).put ((st.alloc (.cells [.int .i64 0,.int .i64 0,.nilslice,.nilslice,.int .i64 0,.int .i64 0,.nilslice] 58 false)).put st.next (some (.cells (encI c.ins[k]) 58 false))).next (some (.cells [.int .i64 (oA out k)] 3 false))).heap := f1.mono (Nat.le_succ _) d4
  have e9 : ((((st.alloc (.cells [.int .i64 0,.int .i64 0,.nilslice,.nilslice,.int .i64 0,.int .i64 0,.nilslice] 58 false)).put st.next (some (.cells (encI c.ins[k]) 58 false))).alloc (.cells [.int .i64 0] 3 false)).put ((st.alloc (.cells [.int .i64 0,.int .i64 0,.nilslice,.nilslice,.int .i64 0,.int .i64 0,.nilslice] 58 false)).put st.next (some (.cells (encI c.ins[k]) 58 false))).next (some (.cells [.int .i64 (oA out k)] 3 false))).heap.get st.next = some (.cells (encI c.ins[k]) 58 false) := (d4 st.next (Nat.lt_succ_self _)).trans a2
  have hbd2 : ((((st.alloc (.cells [.int .i64 0,.int .i64 0,.nilslice,.nilslice,.int .i64 0,.int .i64 0,.nilslice] 58 false)).put st.next (some (.cells (encI c.ins[k]) 58 false))).alloc (.cells [.int .i64 0] 3 false)).put ((st.alloc (.cells [.int .i64 0,.int .i64 0,.nilslice,.nilslice,.int .i64 0,.int .i64 0,.nilslice] 58 false)).put st.next (some (.cells (encI c.ins[k]) 58 false))).next (some (.cells [.int .i64 (oA out k)] 3 false))).bound = 0 := d5.trans (a5.trans hb)
  have hlg2 : ((((st.alloc (.cells [.int .i64 0,.int .i64 0,.nilslice,.nilslice,.int .i64 0,.int .i64 0,.nilslice] 58 false)).put st.next (some (.cells (encI c.ins[k]) 58 false))).alloc (.cells [.int .i64 0] 3 false)).put ((st.alloc (.cells [.int .i64 0,.int .i64 0,.nilslice,.nilslice,.int .i64 0,.int .i64 0,.nilslice] 58 false)).put st.next (some (.cells (encI c.ins[k]) 58 false))).next (some (.cells [.int .i64 (oA out k)] 3 false))).log = [] := (d6 (by rw [a5,hb]; exact Nat.zero_le _)).trans ((a6 (by rw [hb]; exact Nat.zero_le _)).trans hlg)
  have hrs2 : ∀ r ∈ rs,((((st.alloc (.cells [.int .i64 0,.int .i64 0,.nilslice,.nilslice,.int .i64 0,.int .i64 0,.nilslice] 58 false)).put st.next (some (.cells (encI c.ins[k]) 58 false))).alloc (.cells [.int .i64 0] 3 false)).put ((st.alloc (.cells [.int .i64 0,.int .i64 0,.nilslice,.nilslice,.int .i64 0,.int .i64 0,.nilslice] 58 false)).put st.next (some (.cells (encI c.ins[k]) 58 false))).next (some (.cells [.int .i64 (oA out k)] 3 false))).heap.get r = some (.defs true) ∧ st1.next + 1 < r ∧ r < st.next := fun r hr =>
   ⟨(d4 r (Nat.lt_succ_of_lt (hrs r hr).2.2)).trans ((a4 r (hrs r hr).2.2).trans (hrs r hr).1),(hrs r hr).2⟩
  have g4a := f1.g4
  have g0b := f2.g0
  have g1b := f2.g1
  have g2b := f2.g2
  have hld : loadC ER 3 ((st.alloc (.cells [.int .i64 0,.int .i64 0,.nilslice,.nilslice,.int .i64 0,.int .i64 0,.nilslice] 58 false)).put st.next (some (.cells (encI c.ins[k]) 58 false))) (.ptr b (0 + k * (0 + 1))) = some (.int .i64 (oA out k)) :=
   loadOne_at ag_3 sz_3 ((a4 b (by have := hbf.lt; omega)).trans hgb) (by rw [Nat.zero_add,Nat.mul_one]; exact zs_at (by omega))
  have hk57 : k < out.length := by omega
  subst hve
  focus
   refine Es<|Lq (o2 u_3 rfl rfl) rfl<|Ld<|EvtL.seq ?_
   refine Ec rfl (fun g7 => ?_) (fun g7 => ?_)
   have h7 := dT g7
   refine EvtL.skip<|EvtL.seq<|EvtL.block<|Es<|qm rfl<|Lq (OpQ.indexAddrV rfl u_25 sz_58 rfl rfl ‹_›) rfl<|Lq (OpQ.loadI rfl rfl ag_58 sz_58 (Nat.le_of_ble_eq_true rfl)) rfl<|Lo (OpL.alloc rfl z_58) rfl ?_
   refine qa rfl<|RegL.opN (OpL.store rfl sz_58 rfl rfl (storeN_at ‹_› rfl rfl rfl)) rfl rfl<|Ld<|Es<|Lo (OpL.load rfl rfl (loadOne_at ag_26 sz_26 ‹_› rfl)) rfl<|qm rfl ?_
   refine Lq (OpQ.indexAddrM rfl u_26 sz_3 rfl rfl (by first | assumption | omega | (simp only [LL]; omega))) rfl ?_
   refine Lo (OpL.load rfl rfl ‹_›) rfl<|Lo (OpL.alloc rfl z_3) rfl<|RegL.opN (OpL.store rfl sz_3 rfl rfl (storeN_at ‹_› rfl rfl rfl)) rfl rfl<|Ld<|EvtL.seq<|Es<|Lo (OpL.load rfl rfl (loadOne_at ag_3 sz_3 ‹_› rfl)) rfl<|Lq (o2 u_3 rfl rfl) rfl ?_
   refine Ld ?_
   refine Ec rfl (fun g8 => ?_) (fun g8 => ?_)
   have h8 := dT g8
   refine EvtL.exit<|cond_t rfl<|EvtL.reg ?_
   refine Lq (OpQ.addN (b := 1) rfl u_3 rfl rfl (by first | assumption | omega | (simp only [LL]; omega))) rfl ?_
   refine qm rfl<|Ld ?_
   rotate_left
   have h8 := dF g8
   refine EvtL.skip<|EvtL.seq ?_
   rotate_left
   have h7 := dF g7
   exact absurd h7 (by omega)
  ·exact ⟨(k + 1,out,rs,((((st.alloc (.cells [.int .i64 0,.int .i64 0,.nilslice,.nilslice,.int .i64 0,.int .i64 0,.nilslice] 58 false)).put st.next (some (.cells (encI c.ins[k]) 58 false))).alloc (.cells [.int .i64 0] 3 false)).put ((st.alloc (.cells [.int .i64 0,.int .i64 0,.nilslice,.nilslice,.int .i64 0,.int .i64 0,.nilslice] 58 false)).put st.next (some (.cells (encI c.ins[k]) 58 false))).next (some (.cells [.int .i64 (oA out k)] 3 false)))),⟨h,hmn.skip (by omega),f2,hnd,fun r hr => ⟨(hrs2 r hr).1,(hrs2 r hr).2.1,Nat.lt_succ_of_lt (Nat.lt_succ_of_lt (hrs2 r hr).2.2)⟩,hbd2,hlg2⟩,by show c.ins.length - (k + 1) < c.ins.length - k; omega,rfl,rfl,by (refine Am.sub_of ?_; repeat (first | exact trivial | refine ⟨rfl,?_⟩))⟩
  have hn0 : 0 ≤ oA out k := by omega
  have hn60 : oA out k ≤ 60 := by
   rcases hmn.fw.lo k with h | h
   ·omega
   ·exact h.2
  refine EvtL.cut [(57,.bool (!safeV c.ins[k] (oA out k))),(10,.ptr (st.next + 1) 0),(9,.ptr st.next 0),(8,.int .i64 (k : Nat)),(42,.int .i64 (k : Nat)),(41,.int .i64 (c.ins.length : Nat)),(40,recs encI 7 c.ins),(5,.ptr (st1.next + 1) 0),(4,.ptr st1.next 0),(3,.ptr 2 0),(2,.ptr 1 0),(1,.ptr 0 0)] ((((st.alloc (.cells [.int .i64 0,.int .i64 0,.nilslice,.nilslice,.int .i64 0,.int .i64 0,.nilslice] 58 false)).put st.next (some (.cells (encI c.ins[k]) 58 false))).alloc (.cells [.int .i64 0] 3 false)).put ((st.alloc (.cells [.int .i64 0,.int .i64 0,.nilslice,.nilslice,.int .i64 0,.int .i64 0,.nilslice] 58 false)).put st.next (some (.cells (encI c.ins[k]) 58 false))).next (some (.cells [.int .i64 (oA out k)] 3 false))) ?_ ?_
  ·have hins := hc.ins h
   have hsf := safe_shape (n := oA out k) hins
   have hargs := hc.fits.args _ (List.getElem_mem h)
   have e10 : ((((st.alloc (.cells [.int .i64 0,.int .i64 0,.nilslice,.nilslice,.int .i64 0,.int .i64 0,.nilslice] 58 false)).put st.next (some (.cells (encI c.ins[k]) 58 false))).alloc (.cells [.int .i64 0] 3 false)).put ((st.alloc (.cells [.int .i64 0,.int .i64 0,.nilslice,.nilslice,.int .i64 0,.int .i64 0,.nilslice] 58 false)).put st.next (some (.cells (encI c.ins[k]) 58 false))).next (some (.cells [.int .i64 (oA out k)] 3 false))).heap.get (st.next + 1) = some (.cells [.int .i64 (oA out k)] 3 false) := d2
   have hcl : ∀ s' : St,s'.heap = ((((st.alloc (.cells [.int .i64 0,.int .i64 0,.nilslice,.nilslice,.int .i64 0,.int .i64 0,.nilslice] 58 false)).put st.next (some (.cells (encI c.ins[k]) 58 false))).alloc (.cells [.int .i64 0] 3 false)).put ((st.alloc (.cells [.int .i64 0,.int .i64 0,.nilslice,.nilslice,.int .i64 0,.int .i64 0,.nilslice] 58 false)).put st.next (some (.cells (encI c.ins[k]) 58 false))).next (some (.cells [.int .i64 (oA out k)] 3 false))).heap → s'.next = ((((st.alloc (.cells [.int .i64 0,.int .i64 0,.nilslice,.nilslice,.int .i64 0,.int .i64 0,.nilslice] 58 false)).put st.next (some (.cells (encI c.ins[k]) 58 false))).alloc (.cells [.int .i64 0] 3 false)).put ((st.alloc (.cells [.int .i64 0,.int .i64 0,.nilslice,.nilslice,.int .i64 0,.int .i64 0,.nilslice] 58 false)).put st.next (some (.cells (encI c.ins[k]) 58 false))).next (some (.cells [.int .i64 (oA out k)] 3 false))).next → ∀ r,CallTo ER 71 [.int .i64 r,.ptr (st.next + 1) 0] s' (.bool (decide (oA out k ≤ r))) := fun s' h1 _ r => over_to (by rw [h1]; exact e10) r
   rw [← hsf]
   obtain ⟨o1,o2,o3,o4,o5,o6⟩ := shape_op (x := c.ins[k])
   rcases hs : shapeV c.ins[k] with ⟨r,l⟩ | l | _ | _ | ⟨o,n',l⟩ | r | _
   ·refine EvtL.reg ?_
    refine Lo (OpL.load rfl rfl (loadAgg_at ag_58 sz_58 ‹_› (Nat.le_of_ble_eq_true rfl))) rfl ?_
    refine Lo (OpL.callFn rfl rfl (by kernel_rfl) rfl (CallTo.memo (hit_51))) rfl ?_
    rw [hs]
    refine Lo (OpL.invoke rfl rfl rfl rfl m_114_registers (by kernel_rfl) rfl (CallTo.memo (hit_341))) rfl<|Lq (OpQ.makeFunc rfl rfl rfl) rfl<|Lo (OpL.callFn rfl rfl (by kernel_rfl) rfl (contains_to rfl rfl (p := fun r => decide (oA out k ≤ r)) (by kernel_rfl) hcl [r] (Nat.le_of_ble_eq_true rfl))) rfl<|Ld ?_
    exact ⟨rfl,rfl,rfl,by (refine Am.sub_of ?_; repeat (first | exact trivial | refine ⟨rfl,?_⟩))⟩
   ·refine EvtL.reg ?_
    refine Lo (OpL.load rfl rfl (loadAgg_at ag_58 sz_58 ‹_› (Nat.le_of_ble_eq_true rfl))) rfl ?_
    refine Lo (OpL.callFn rfl rfl (by kernel_rfl) rfl (CallTo.memo (hit_51))) rfl ?_
    rw [hs]
    refine Lo (OpL.invoke rfl rfl rfl rfl m_117_registers (by kernel_rfl) rfl (CallTo.memo (hit_342))) rfl<|Lq (OpQ.makeFunc rfl rfl rfl) rfl<|Lo (OpL.callFn rfl rfl (by kernel_rfl) rfl (containsN_to rfl rfl)) rfl<|Ld ?_
    exact ⟨rfl,rfl,rfl,by (refine Am.sub_of ?_; repeat (first | exact trivial | refine ⟨rfl,?_⟩))⟩
   ·refine EvtL.reg ?_
    refine Lo (OpL.load rfl rfl (loadAgg_at ag_58 sz_58 ‹_› (Nat.le_of_ble_eq_true rfl))) rfl ?_
    refine Lo (OpL.callFn rfl rfl (by kernel_rfl) rfl (CallTo.memo (hit_51))) rfl ?_
    rw [hs]
    refine Lo (OpL.invoke rfl rfl rfl rfl m_166_registers (by kernel_rfl) rfl (CallTo.memo (hit_345))) rfl<|Lq (OpQ.makeFunc rfl rfl rfl) rfl<|Lo (OpL.callFn rfl rfl (by kernel_rfl) rfl (containsN_to rfl rfl)) rfl<|Ld ?_
    exact ⟨rfl,rfl,rfl,by (refine Am.sub_of ?_; repeat (first | exact trivial | refine ⟨rfl,?_⟩))⟩
   ·refine EvtL.reg ?_
    refine Lo (OpL.load rfl rfl (loadAgg_at ag_58 sz_58 ‹_› (Nat.le_of_ble_eq_true rfl))) rfl ?_
    refine Lo (OpL.callFn rfl rfl (by kernel_rfl) rfl (CallTo.memo (hit_51))) rfl ?_
    rw [hs]
    refine Lo (OpL.invoke rfl rfl rfl rfl m_167_registers (by kernel_rfl) rfl (CallTo.memo (hit_346))) rfl<|Lq (OpQ.makeFunc rfl rfl rfl) rfl<|Lo (OpL.callFn rfl rfl (by kernel_rfl) rfl (containsN_to rfl rfl)) rfl<|Ld ?_
    exact ⟨rfl,rfl,rfl,by (refine Am.sub_of ?_; repeat (first | exact trivial | refine ⟨rfl,?_⟩))⟩
   ·refine EvtL.reg ?_
    refine Lo (OpL.load rfl rfl (loadAgg_at ag_58 sz_58 ‹_› (Nat.le_of_ble_eq_true rfl))) rfl ?_
    refine Lo (OpL.callFn rfl rfl (by kernel_rfl) rfl (CallTo.memo (hit_51))) rfl ?_
    rw [hs]
    refine Lo (OpL.invoke rfl rfl rfl rfl m_119_registers (by kernel_rfl) rfl (CallTo.memo (hit_343))) rfl<|Lq (OpQ.makeFunc rfl rfl rfl) rfl ?_
    refine Lo (OpL.callFn rfl rfl (by kernel_rfl) rfl (contains_to rfl rfl (p := fun r => decide (oA out k ≤ r)) (by kernel_rfl) hcl l (by rw [(o5 o n' l hs).2]; exact hargs))) rfl ?_
    refine Ld ?_
    exact ⟨rfl,rfl,rfl,by (refine Am.sub_of ?_; repeat (first | exact trivial | refine ⟨rfl,?_⟩))⟩
   ·refine EvtL.reg ?_
    refine Lo (OpL.load rfl rfl (loadAgg_at ag_58 sz_58 ‹_› (Nat.le_of_ble_eq_true rfl))) rfl ?_
    refine Lo (OpL.callFn rfl rfl (by kernel_rfl) rfl (CallTo.memo (hit_51))) rfl ?_
    rw [hs]
    refine Lo (OpL.invoke rfl rfl rfl rfl m_121_registers (by kernel_rfl) rfl (CallTo.memo (hit_344))) rfl<|Lq (OpQ.makeFunc rfl rfl rfl) rfl<|Lo (OpL.callFn rfl rfl (by kernel_rfl) rfl (contains_to rfl rfl (p := fun r => decide (oA out k ≤ r)) (by kernel_rfl) hcl [r] (Nat.le_of_ble_eq_true rfl))) rfl<|Ld ?_
    exact ⟨rfl,rfl,rfl,by (refine Am.sub_of ?_; repeat (first | exact trivial | refine ⟨rfl,?_⟩))⟩
   ·have hi := insV_shape c k c.ins[k]
    rw [hins,hs] at hi
    cases hi
  ·have e10b := d2
   have hsn : ((((st.alloc (.cells [.int .i64 0,.int .i64 0,.nilslice,.nilslice,.int .i64 0,.int .i64 0,.nilslice] 58 false)).put st.next (some (.cells (encI c.ins[k]) 58 false))).alloc (.cells [.int .i64 0] 3 false)).put ((st.alloc (.cells [.int .i64 0,.int .i64 0,.nilslice,.nilslice,.int .i64 0,.int .i64 0,.nilslice] 58 false)).put st.next (some (.cells (encI c.ins[k]) 58 false))).next (some (.cells [.int .i64 (oA out k)] 3 false))).next = st.next + 2 := rfl
   have hch : ∀ d,d < st.next → ((((st.alloc (.cells [.int .i64 0,.int .i64 0,.nilslice,.nilslice,.int .i64 0,.int .i64 0,.nilslice] 58 false)).put st.next (some (.cells (encI c.ins[k]) 58 false))).alloc (.cells [.int .i64 0] 3 false)).put ((st.alloc (.cells [.int .i64 0,.int .i64 0,.nilslice,.nilslice,.int .i64 0,.int .i64 0,.nilslice] 58 false)).put st.next (some (.cells (encI c.ins[k]) 58 false))).next (some (.cells [.int .i64 (oA out k)] 3 false))).heap.get d = st.heap.get d := fun d hd => (d4 d (Nat.lt_succ_of_lt hd)).trans (a4 d hd)
   clear d1 d2 d3 d4 d5 d6 d7 a1 a2 a3 a4 a5 a6 a7 hld g4a f1
   have hS2 : (((((st.alloc (.cells [.int .i64 0,.int .i64 0,.nilslice,.nilslice,.int .i64 0,.int .i64 0,.nilslice] 58 false)).put st.next (some (.cells (encI c.ins[k]) 58 false))).alloc (.cells [.int .i64 0] 3 false)).put ((st.alloc (.cells [.int .i64 0,.int .i64 0,.nilslice,.nilslice,.int .i64 0,.int .i64 0,.nilslice] 58 false)).put st.next (some (.cells (encI c.ins[k]) 58 false))).next (some (.cells [.int .i64 (oA out k)] 3 false))).put 1 (some (.cells [.nilslice] 26 false))).heap.get 2 = some (.cells [.bool false] 4 false) := by rw [get_putS,if_neg (by decide)]; exact g2b
   generalize ((((st.alloc (.cells [.int .i64 0,.int .i64 0,.nilslice,.nilslice,.int .i64 0,.int .i64 0,.nilslice] 58 false)).put st.next (some (.cells (encI c.ins[k]) 58 false))).alloc (.cells [.int .i64 0] 3 false)).put ((st.alloc (.cells [.int .i64 0,.int .i64 0,.nilslice,.nilslice,.int .i64 0,.int .i64 0,.nilslice] 58 false)).put st.next (some (.cells (encI c.ins[k]) 58 false))).next (some (.cells [.int .i64 (oA out k)] 3 false))) = st2 at *
   focus
    refine Ec rfl (fun g9 => ?_) (fun g9 => ?_)
    have h9 := notT g9
    refine Es<|RegL.opN (OpL.store rfl sz_26 rfl rfl (storeN_at ‹_› rfl rfl rfl)) rfl rfl<|RegL.opN (OpL.store rfl sz_4 rfl rfl (storeN_at ‹_› rfl rfl rfl)) rfl rfl<|Ld ?_
    rotate_left
    have h9 := notF g9
    refine EvtL.skip<|Es<|Lo (OpL.load rfl rfl (loadAgg_at ag_28 sz_28 ‹_› (Nat.le_of_ble_eq_true rfl))) rfl<|qm rfl<|Lo (OpL.load rfl rfl (loadOne_at ag_3 sz_3 ‹_› rfl)) rfl ?_
    rotate_left
   ·refine EvtL.ret ?_
    have h4r : 4 ≤ st1.next := h4
    exact bef_no (rs := rs) rfl hnd (fun r hr => ⟨by rw [get_putS,if_neg (by have := hrs2 r hr; omega),get_putS,if_neg (by have := hrs2 r hr; omega)]; exact (hrs2 r hr).1,by have := hrs2 r hr; omega⟩) rfl rfl (by rw [get_putS,if_neg (by decide),get_putS,if_pos rfl]) (by rw [get_putS,if_pos rfl]) hbd2 ((put_low (show (st2.put 1 _).bound = 0 from hbd2)).trans ((put_low hbd2).trans hlg2)) (hmn.unsafe_ h hn0 (by rw [iAt_eq h]; assumption))
   refine RegL.callFn rfl rfl (by kernel_rfl) rfl rfl rfl rfl (follows_run ?_)
   intro st3 hn3 hx1 hx2 hx3 hch3
   have hbc := hbf.lt
   have hold3 : ∀ d,d < st2.next → st3.heap.get d = st2.heap.get d := fun d hd => hch3.heap d hd (fun h => h)
   have hb3 : st3.bound = 0 := hch3.bound.trans hbd2
   have hl3 : st3.log = [] := List.eq_nil_iff_forall_not_mem.2 fun x hx => by
    rcases hch3.log x hx with h | ⟨_,h⟩
    ·rw [hlg2] at h; cases h
    ·exact h
   have f3 : BefH c (.slice b 0 out.length 1 (some out.length)) st1.next (st1.next + 1) out st3.next st3.heap := f2.mono (by omega) hold3
   have hrs3 : ∀ r ∈ rs,st3.heap.get r = some (.defs true) ∧ st1.next + 1 < r ∧ r < st2.next := fun r hr => ⟨(hold3 r (by have := hrs2 r hr; omega)).trans (hrs2 r hr).1,(hrs2 r hr).2.1,by have := hrs2 r hr; omega⟩
   refine Ld<|EvtL.block<|EvtL.range rfl rfl (by kernel_rfl) fun T hT => ?_
   refine RunsV.mono (fol_range hc h ⟨hn0,hn60⟩ _ T _ _ _ hmn.inn f3 hx1 hx2 hx3 hrs3 (by omega) (by omega) ?_) ?_
   ·intro out' j hj st hq1 hq2 hBC
    rcases hq : (succs c k c.ins[k] (oA out k))[j] with ⟨a,r⟩
    have hmem := succs_mem hc (hc.ins h) h hn0 (List.getElem_mem hj)
    rw [hq] at hmem
    obtain ⟨kk,rfl⟩ : ∃ kk : Nat,a = kk := ⟨a.toNat,by have := hmem.1; dsimp only at this; omega⟩
    dsimp only
    have e : iAt c k = c.ins[k] := iAt_eq h
    have hj' : j < (succs c k (iAt c k) (oA out k)).length := by rw [e]; exact hj
    have hq' : (succs c k (iAt c k) (oA out k))[j] = (((kk : Nat) : Int),r) := by simp only [e]; exact hq
    have o1 := hBC.o1
    have o2 := hBC.o2
    have o3 := hBC.o3
    have hlow : st3.next + 1 < st.bound := by omega
    refine ⟨_,_,_,hBC.lp,rfl,(hT.put 62 _).put 63 _,?_⟩
    refine Es<|qa rfl<|Ld<|EvtL.reg<|qa rfl<|Ld ?_
    refine ⟨rfl,_,hBC.lp,rfl,?_⟩
    generalize hlpb : ({ lp0 _ T _ _ _ with state := .busy } : ALoop) = lpb
    generalize hlb : some (AObj.loop lpb) = ob
    have hput : ∀ d,d ≠ st3.next + 1 → (st.put (st3.next + 1) ob).heap.get d = st.heap.get d := fun d hd => by rw [get_putS,if_neg hd]
    have hself : (st.put (st3.next + 1) ob).heap.get (st3.next + 1) = ob := by rw [get_putS,if_pos rfl]
    have hbx : BefH c (.slice b 0 out.length 1 (some out.length)) st1.next (st1.next + 1) out' (st.put (st3.next + 1) ob).next (st.put (st3.next + 1) ob).heap := hBC.bef.other fun d hd => hput d (by omega)
    have htold : Am.Told st (st.put (st3.next + 1) ob) := Am.Told.refl.put rfl _ _
    have hmemx : st3.next + 1 ∈ (st.put (st3.next + 1) ob).log := mem_put_self hlow
    have hlogx : ∀ d ∈ (st.put (st3.next + 1) ob).log,d ∈ st.log ∨ d < st.bound := fun d hd => (mem_put hd).imp id And.right
    have hbdx : (st.put (st3.next + 1) ob).bound = st.bound := rfl
    have hnxx : (st.put (st3.next + 1) ob).next = st.next := rfl
    generalize st.put (st3.next + 1) ob = stx at *
    have g4x := hbx.g4
    have g5x := hbx.g5
    refine EvtL.block<|Es<|Lo (OpL.load rfl rfl (loadOne_at ag_143 sz_143 ‹_› rfl)) rfl ?_
    iterate 2 refine qm rfl ?_
    refine RegL.callVal (by kernel_rfl) rfl rfl rfl rfl rfl rfl rfl rfl (RunsV.mono (reach_q (st := stx) (out := out') g4x hbx.outR (by rw [hBC.inn.fw.len]; omega) kk r) ?_)
    rintro w s2 (⟨rfl,hr,rfl⟩ | ⟨rfl,hr,hO2,hch,hn2,hlg2⟩)
    ·have hS1 := hbx.g1
     have hS2' : (s2.put 1 (some (.cells [.nilslice] 26 false))).heap.get 2 = some (.cells [.bool false] 4 false) := by rw [get_putS,if_neg (by decide)]; exact hbx.g2
     refine Lq (on rfl) rfl<|Ld<|EvtL.condT rfl rfl<|Es<|RegL.opN (OpL.store rfl sz_26 rfl rfl (storeN_at ‹_› rfl rfl rfl)) rfl rfl<|RegL.opN (OpL.store rfl sz_4 rfl rfl (storeN_at ‹_› rfl rfl rfl)) rfl rfl<|Ld<|EvtL.ret ?_
     have hn : ∀ x : Option AObj,(((s2.put 1 (some (.cells [.nilslice] 26 false))).put 2 (some (.cells [.bool false] 4 false))).put (st3.next + 1) x).bound = s2.bound := fun _ => rfl
     have ht : ∀ x,Am.Told st (((s2.put 1 (some (.cells [.nilslice] 26 false))).put 2 (some (.cells [.bool false] 4 false))).put (st3.next + 1) x) := fun x => ((htold.put hbdx _ _).put hbdx _ _).put hbdx _ _
     have hg : ∀ x d,d ≠ 1 → d ≠ 2 → d ≠ st3.next + 1 → (((s2.put 1 (some (.cells [.nilslice] 26 false))).put 2 (some (.cells [.bool false] 4 false))).put (st3.next + 1) x).heap.get d = st.heap.get d := fun x d h1 h2 h3 => by
      rw [get_putS,if_neg h3,get_putS,if_neg h2,get_putS,if_neg h1]; exact hput d h3
     refine ⟨rfl,lpb,by rw [get_putS,if_neg (by omega),get_putS,if_neg (by omega),hself,hlb],Nat.le_of_eq hnxx.symm,hbdx,mem_put_self (by show st3.next + 1 < s2.bound; rw [hbdx]; exact hlow),?_,ht _,(fun h => by cases h),fun _ => ⟨?_,?_,fun r hr => ⟨(hg _ r (by have := (hBC.rs r hr).2; omega) (by have := (hBC.rs r hr).2; omega) (by have := (hBC.rs r hr).2; omega)).trans (hBC.rs r hr).1,(hBC.rs r hr).2⟩,(hg _ _ (by omega) (by omega) (by omega)).trans hBC.df,⟨_,by rw [get_putS,if_pos rfl],rfl,rfl⟩,?_,h4,o2,by show st3.next + 1 < s2.next; omega,o1⟩⟩
     ·intro d hd
      rcases mem_put hd with hd | ⟨_,hd⟩
      ·rcases mem_put hd with hd | ⟨_,hd⟩
       ·rcases mem_put hd with hd | ⟨_,hd⟩
        ·exact hlogx d hd
        ·exact .inr (by rw [← hbdx]; exact hd)
       ·exact .inr (by rw [← hbdx]; exact hd)
      ·exact .inr (by rw [← hbdx]; exact hd)
     ·rw [get_putS,if_neg (by omega),get_putS,if_neg (by decide),get_putS,if_pos rfl]
     ·rw [get_putS,if_neg (by omega),get_putS,if_pos rfl]
     ·have hinn := hBC.inn
      exact hinn.bad hc h hn0 (p := ((kk : Nat),r)) (by rw [← hq']; exact List.getElem_mem hj') hr
    ·have hown2 : ∀ d,st1.next ≤ d → d < stx.next → s2.heap.get d = stx.heap.get d := fun d hd hlt => hch.heap d hlt (hbx.own (.inr hd))
     have hbd2' : s2.bound = st.bound := hch.bound.trans hbdx
     have ht2 : ∀ x,Am.Told st (s2.put (st3.next + 1) x) := fun x d hd hno => by
      have hne : d ≠ st3.next + 1 := fun e => by
       subst e
       exact hno (mem_put_self (by rw [hbd2']; exact hd))
      rw [get_putS,if_neg hne,hlg2 d (by rw [hbdx]; exact hd) fun hm => hno (mem_put_old hm)]
      exact hput d hne
     have hself2 : s2.heap.get (st3.next + 1) = some (.loop lpb) := (hown2 _ (by omega) (by omega)).trans (hself.trans hlb.symm)
     refine Lq (on rfl) rfl<|Ld<|EvtL.condF rfl rfl<|EvtL.skip ?_
     have hbr := BefH.reach hbx hO2 hch hn2
     refine ⟨rfl,lpb,hself2,?_⟩
     show YesQ _ _ _ _ _ _ _ _ _ _ _ true (s2.put (st3.next + 1) (some (.loop { lpb with state := .ready,pending := none })))
     subst hlpb
     refine ⟨by show st.next ≤ s2.next; omega,hbd2',mem_put_self (by rw [hbd2']; exact hlow),?_,ht2 _,fun _ => ⟨out'.set kk r,?_,hbr.other (fun d hd => by show (s2.put _ _).heap.get d = _; rw [get_putS,if_neg (by omega)]),?_,?_,?_,fun q hq => ?_,?_,?_,o1,o2,by show st3.next + 1 < s2.next; omega⟩,(fun h => by cases h)⟩
     ·intro d hd
      rcases mem_put hd with hd | ⟨_,hd⟩
      ·rcases hch.log d hd with hd | ⟨hd,_⟩
       ·exact hlogx d hd
       ·exact .inr (by rw [← hbdx]; exact hd)
      ·exact .inr (by rw [← hbd2']; exact hd)
     ·have hinn := hBC.inn.step hc h hn0 hj' (by rw [hq']; exact hr)
      rw [hq'] at hinn
      exact hinn
     ·rw [get_putS,if_neg (by omega),hown2 _ (by omega) (by omega),hput _ (by omega)]; exact hBC.x0
     ·rw [get_putS,if_neg (by omega),hown2 _ (by omega) (by omega),hput _ (by omega)]; exact hBC.x1
     ·rw [get_putS,if_neg (by omega),hown2 _ (by omega) (by omega),hput _ (by omega)]; exact hBC.x2
     ·have := hBC.rs q hq
      refine ⟨?_,this.2⟩
      rw [get_putS,if_neg (by omega),hown2 _ (by omega) (by omega),hput _ (by omega)]; exact this.1
     ·rw [get_putS,if_neg (by omega),hown2 _ (by omega) (by omega),hput _ (by omega)]; exact hBC.df
     ·rw [get_putS,if_pos rfl]; rfl
   ·rintro w s4 ⟨e1,e2,e3,hCD⟩
    have hb4 : s4.bound = 0 := e1.trans hb3
    have hl4 : s4.log = [] := by
     rcases e2 with h | ⟨M,h⟩
     ·exact h.trans hl3
     ·rw [h]
      show below st3.bound M st3.log = []
      rw [hb3,below_zero,hl3]
    have hsafe : safeV (iAt c k) (oA out k) = true := by rw [iAt_eq h]; assumption
    rcases hCD with ⟨o,hBC⟩ | hBD
    ·have o1 := hBC.o1
     have o2 := hBC.o2
     have o3 := hBC.o3
     refine ⟨_,hBC.lp,(fun h => by cases h),?_⟩
     show EvtL ER _ _ _ _ _
     refine EvtL.reg ?_
     refine Lq (OpQ.addN (b := 1) rfl u_3 rfl rfl (by first | assumption | omega | (simp only [LL]; omega))) rfl ?_
     refine qm rfl<|Ld ?_
     have hinn := hBC.inn
     rw [← iAt_eq h] at hinn
     refine ⟨(k + 1,o,st3.next :: rs,s4.put (st3.next + 1) (some (.loop { lp0 _ T _ _ _ with state := .exhausted }))),⟨h,hinn.fin hsafe,hBC.bef.other (fun d hd => by show (s4.put _ _).heap.get d = _; rw [get_putS,if_neg (by omega)]),List.nodup_cons.2 ⟨fun hr => by have := (hBC.rs _ hr).2.2; omega,hnd⟩,fun r hr => ?_,hb4,(put_low hb4).trans hl4⟩,by show c.ins.length - (k + 1) < c.ins.length - k; omega,rfl,rfl,by (refine Am.sub_of ?_; repeat (first | exact trivial | refine ⟨rfl,?_⟩))⟩
     show (s4.put _ _).heap.get r = _ ∧ _ ∧ r < s4.next
     rcases List.mem_cons.1 hr with rfl | hr
     ·exact ⟨by rw [get_putS,if_neg (by omega)]; exact hBC.df,by omega,by omega⟩
     ·have := hBC.rs r hr
      exact ⟨by rw [get_putS,if_neg (by omega)]; exact this.1,by omega,by omega⟩
    ·obtain ⟨lp,l1,l2,l3⟩ := hBD.lp
     have o1 := hBD.o1
     have o2 := hBD.o2
     have o3 := hBD.o3
     have o4 := hBD.o4
     refine ⟨lp,l1,(by rw [l2]; intro h; cases h),?_⟩
     rw [l3]
     skip
     refine bef_no (rs := st3.next :: rs) rfl (List.nodup_cons.2 ⟨fun hr => by have := (hBD.rs _ hr).2.2; omega,hnd⟩) (fun r hr => ?_) rfl rfl (by rw [get_putS,if_neg (by omega)]; exact hBD.g1) (by rw [get_putS,if_neg (by omega)]; exact hBD.g2) hb4 ((put_low hb4).trans hl4) hBD.no
     rcases List.mem_cons.1 hr with rfl | hr
     ·exact ⟨by rw [get_putS,if_neg (by omega)]; exact hBD.df,by omega⟩
     ·have := hBD.rs r hr
      exact ⟨by rw [get_putS,if_neg (by omega)]; exact this.1,by omega⟩
 ·obtain rfl : k = c.ins.length := by omega
  have hsol := hmn.fin
  have g4 := hbf.g4
  have h4r : 4 ≤ st1.next := h4
  focus
   refine Es<|Lq (o2 u_3 rfl rfl) rfl<|Ld<|EvtL.seq ?_
   refine Ec rfl (fun g7 => ?_) (fun g7 => ?_)
   have h7 := dT g7
   exact absurd h7 (by omega)
   have h7 := dF g7
   refine EvtL.exit<|cond_t rfl<|Es<|Lo (OpL.load rfl rfl (loadOne_at ag_26 sz_26 ‹_› rfl)) rfl ?_
   rotate_left
  refine RegL.opN (OpL.store (s' := st.put 1 (some (.cells [v] 26 false))) rfl sz_26 rfl rfl (storeN_at hbf.g1 hvt.2.1 hvt.1 hvt.2.2)) rfl rfl ?_
  have hS2 : (st.put 1 (some (.cells [v] 26 false))).heap.get 2 = some (.cells [.bool false] 4 false) := by rw [get_putS,if_neg (by decide)]; exact hbf.g2
  refine RegL.opN (OpL.store rfl sz_4 rfl rfl (storeN_at ‹_› rfl rfl rfl)) rfl rfl<|Ld<|EvtL.ret ?_
  refine bef_yes (rs := rs) (out := out) rfl hnd (fun r hr => ⟨by rw [get_putS,if_neg (by have := hrs r hr; omega),get_putS,if_neg (by have := hrs r hr; omega)]; exact (hrs r hr).1,by have := hrs r hr; omega⟩) rfl rfl (by rw [get_putS,if_neg (by decide),get_putS,if_pos rfl]) (by rw [get_putS,if_pos rfl]) ?_ hb ((put_low (show (st.put 1 _).bound = 0 from hb)).trans ((put_low hb).trans hlg)) (beforeV_some hsol)
  rcases hbf.vo with h | ⟨b,e1,e2,e3,e4,e5⟩
  ·exact .inl h
  ·exact .inr ⟨b,e1,by rw [get_putS,if_neg (by omega),get_putS,if_neg (by omega)]; exact e4,e5,fun hr => by have := hrs b hr; omega⟩
end Go.Proofs.YtpihdbhocgcbpaaGreatDoor

/- Regs,and the law of forms. -/
open Go Am
namespace Go.Proofs.YtpihdbhocgcbpaaGreatDoor
abbrev OkT := { c : CodeT // OkC c }
theorem encO_inj {p q : OkT} (h : ([.agg (encC p.1)] : List AV) = [.agg (encC q.1)]) : p = q := by
 obtain ⟨a,_⟩ := p
 obtain ⟨b,_⟩ := q
 obtain rfl := encC_inj (List.cons.inj h).1
 rfl
noncomputable def K19 := addC K18e 34 (fun p : OkT => [.agg (encC p.1)]) (fun p => beforeA p.1)
noncomputable def K20 := addC K19 35 (fun p : OkT => [.agg (encC p.1)]) (fun p => beforeA p.1)
theorem hit_34 {c : CodeT} (h : OkC c) : K19 34 [.agg (encC c)] = some (beforeA c) :=
 addC_hit (f := 34) (enc := fun p : OkT => [.agg (encC p.1)]) (res := fun p => beforeA p.1) (fun p q h => by rw [encO_inj h]) ⟨c,h⟩
theorem hit_35 {c : CodeT} (h : OkC c) : K20 35 [.agg (encC c)] = some (beforeA c) :=
 addC_hit (f := 35) (enc := fun p : OkT => [.agg (encC p.1)]) (res := fun p => beforeA p.1) (fun p q h => by rw [encO_inj h]) ⟨c,h⟩
theorem all20 (h : KnownF Tryz.prog 10 [] (.bool true)) : KnownAll Tryz.prog K20 :=
 addC_known (addC_all progOk (all18e h) (fun p : OkT => before_to p.1 p.2) (fun _ => rfl) (fun _ => beforeA_closed _)) fun p => known_of progOk (all17 h) (rbefore_to p.1 p.2) rfl (beforeA_closed _)
noncomputable def regsA (c : CodeT) : AV := if codeV c then (match beforeV c with
 | some S => .tuple [outA (zs S) S.length 1,.int .i64 0]
 | none => .tuple [.nilslice,.int .i64 7]) else .tuple [.nilslice,.int .i64 2]
theorem regs1v {c : CodeT} (h : codeV c = false) : regsA c = .tuple [.nilslice,.int .i64 2] := by unfold regsA; rw [h]; rfl
theorem regs2v {c : CodeT} (h : codeV c = true) (h2 : beforeV c = none) : regsA c = .tuple [.nilslice,.int .i64 7] := by unfold regsA; rw [h,h2]; rfl
theorem regs3v {c : CodeT} {S : List Int} (h : codeV c = true) (h2 : beforeV c = some S) : regsA c = .tuple [outA (zs S) S.length 1,.int .i64 0] := by unfold regsA; rw [h,h2]; rfl
theorem outZ_end (S : List Int) (n : Int) (s : St) : ∃ ks,frzV s 0 40 (.tuple [outA (zs S) S.length 1,.int .i64 n]) [] = some (.tuple [outA (zs S) S.length 1,.int .i64 n],ks) ∧ underV 0 40 (.tuple [outA (zs S) S.length 1,.int .i64 n]) = true := by
 unfold outA
 cases Nat.beq S.length 0 <;> exact ⟨[],rfl,rfl⟩
theorem cregs_to (c : CodeT) (hf : Fits c) : CallTo (EK K20) 11 [.agg (encC c)] S0 (regsA c) := by
 refine CallTo.s0 (fn := Tryz.f11) rfl rfl (by kernel_rfl) rfl rfl rfl rfl ?_
 cases hcv : codeV c with
 | false =>
  rw [regs1v hcv]
  focus
   refine Es<|Lo (OpL.boxS 1 rfl rfl rfl rfl) rfl ?_
   iterate 2 refine qa rfl ?_
   refine Ld<|EvtL.seq<|Es<|Lo (OpL.loadSA rfl ag_28 sz_28 rfl rfl (Nat.le_of_ble_eq_true rfl)) rfl ?_
   refine Lo (OpL.callFn rfl rfl (by kernel_rfl) rfl (CallTo.memo (hit_13 (by first | assumption | omega | (simp only [LL]; omega))))) rfl ?_
   refine Lq (o2 u_31 rfl rfl) rfl<|Ld ?_
   refine Ec rfl (fun g1 => ?_) (fun g1 => ?_)
   have h1 := nT g1
   refine Es ?_
   iterate 2 refine qa rfl ?_
   refine Ld ?_
   refine EvtL.ret ⟨.inl rfl,rfl,rfl,rfl,_,_,_,(res_tmp rfl (res_tmp rfl rfl)),rfl,rfl,?_⟩
   rotate_left
   have h1 := nF g1
   refine EvtL.skip<|Es<|Lo (OpL.loadSA rfl ag_28 sz_28 rfl rfl (Nat.le_of_ble_eq_true rfl)) rfl ?_
   rotate_left
  ·rfl
  ·exact absurd (err0 h1) (by rw [hcv]; decide)
 | true =>
  have hc : OkC c := ⟨hf,hcv⟩
  cases hb : beforeV c with
  | none =>
   have hba : beforeA c = .tuple [.nilslice,.bool false] := by unfold beforeA; rw [hb]
   rw [regs2v hcv hb]
   focus
    refine Es<|Lo (OpL.boxS 1 rfl rfl rfl rfl) rfl ?_
    iterate 2 refine qa rfl ?_
    refine Ld<|EvtL.seq<|Es<|Lo (OpL.loadSA rfl ag_28 sz_28 rfl rfl (Nat.le_of_ble_eq_true rfl)) rfl ?_
    refine Lo (OpL.callFn rfl rfl (by kernel_rfl) rfl (CallTo.memo (hit_13 (by first | assumption | omega | (simp only [LL]; omega))))) rfl ?_
    refine Lq (o2 u_31 rfl rfl) rfl<|Ld ?_
    refine Ec rfl (fun g1 => ?_) (fun g1 => ?_)
    have h1 := nT g1
    refine Es ?_
    iterate 2 refine qa rfl ?_
    refine Ld ?_
    refine EvtL.ret ⟨.inl rfl,rfl,rfl,rfl,_,_,_,(res_tmp rfl (res_tmp rfl rfl)),rfl,rfl,?_⟩
    rotate_left
    have h1 := nF g1
    refine EvtL.skip<|Es<|Lo (OpL.loadSA rfl ag_28 sz_28 rfl rfl (Nat.le_of_ble_eq_true rfl)) rfl ?_
    refine Lo (OpL.callFn rfl rfl (by kernel_rfl) rfl (CallTo.memo (hit_34 (by first | assumption | omega | (simp only [LL]; omega))))) rfl ?_
    refine qm rfl ?_
    rotate_left
   ·exact absurd (err2 h1) (by rw [hcv]; decide)
   ·rw [hba]
    iterate 2 refine Lq (oe rfl) rfl ?_
    iterate 2 refine qa rfl ?_
    refine Ld<|EvtL.seq<|Es<|qm rfl<|Lq (on rfl) rfl<|Ld<|EvtL.condT rfl rfl<|Es ?_
    iterate 2 refine qa rfl ?_
    refine Ld ?_
    refine EvtL.ret ⟨.inl rfl,rfl,rfl,rfl,_,_,_,(res_tmp rfl (res_tmp rfl rfl)),rfl,rfl,?_⟩
    rfl
  | some S =>
   have hba : beforeA c = .tuple [outA (zs S) S.length 1,.bool true] := by unfold beforeA; rw [hb]
   rw [regs3v hcv hb]
   focus
    refine Es<|Lo (OpL.boxS 1 rfl rfl rfl rfl) rfl ?_
    iterate 2 refine qa rfl ?_
    refine Ld<|EvtL.seq<|Es<|Lo (OpL.loadSA rfl ag_28 sz_28 rfl rfl (Nat.le_of_ble_eq_true rfl)) rfl ?_
    refine Lo (OpL.callFn rfl rfl (by kernel_rfl) rfl (CallTo.memo (hit_13 (by first | assumption | omega | (simp only [LL]; omega))))) rfl ?_
    refine Lq (o2 u_31 rfl rfl) rfl<|Ld ?_
    refine Ec rfl (fun g1 => ?_) (fun g1 => ?_)
    have h1 := nT g1
    refine Es ?_
    iterate 2 refine qa rfl ?_
    refine Ld ?_
    refine EvtL.ret ⟨.inl rfl,rfl,rfl,rfl,_,_,_,(res_tmp rfl (res_tmp rfl rfl)),rfl,rfl,?_⟩
    rotate_left
    have h1 := nF g1
    refine EvtL.skip<|Es<|Lo (OpL.loadSA rfl ag_28 sz_28 rfl rfl (Nat.le_of_ble_eq_true rfl)) rfl ?_
    refine Lo (OpL.callFn rfl rfl (by kernel_rfl) rfl (CallTo.memo (hit_34 (by first | assumption | omega | (simp only [LL]; omega))))) rfl ?_
    refine qm rfl ?_
    rotate_left
   ·exact absurd (err2 h1) (by rw [hcv]; decide)
   ·rw [hba]
    iterate 2 refine Lq (oe rfl) rfl ?_
    iterate 2 refine qa rfl ?_
    refine Ld<|EvtL.seq<|Es<|qm rfl<|Lq (on rfl) rfl<|Ld<|EvtL.condF rfl rfl<|EvtL.skip ?_
    refine Es<|qm rfl ?_
    iterate 2 refine qa rfl ?_
    refine Ld ?_
    obtain ⟨ks,e1,e2⟩ := outZ_end S 0 (mkS 1 0 [] [(0,some (.cells (encC c) 28 false))])
    exact EvtL.ret ⟨.inl rfl,rfl,rfl,rfl,_,_,ks,(res_tmp rfl (res_tmp rfl rfl)),e1,e2,rfl⟩
theorem rregs_to (c : CodeT) (hf : Fits c) : CallTo (EK K20) 12 [.agg (encC c)] S0 (regsA c) := by
 refine CallTo.s0 (fn := Tryz.f12) rfl rfl (by kernel_rfl) rfl rfl rfl rfl ?_
 cases hcv : codeV c with
 | false =>
  rw [regs1v hcv]
  focus
   refine Es<|Lo (OpL.boxS 1 rfl rfl rfl rfl) rfl ?_
   iterate 2 refine qa rfl ?_
   refine Ld<|EvtL.seq<|Es<|Lo (OpL.loadSA rfl ag_28 sz_28 rfl rfl (Nat.le_of_ble_eq_true rfl)) rfl ?_
   refine Lo (OpL.callFn rfl rfl (by kernel_rfl) rfl (CallTo.memo (hit_24 (by first | assumption | omega | (simp only [LL]; omega))))) rfl ?_
   refine Lq (on rfl) rfl<|Ld ?_
   refine Ec rfl (fun g1 => ?_) (fun g1 => ?_)
   have h1 := notT g1
   refine Es ?_
   iterate 2 refine qa rfl ?_
   refine Ld ?_
   refine EvtL.ret ⟨.inl rfl,rfl,rfl,rfl,_,_,_,(res_tmp rfl (res_tmp rfl rfl)),rfl,rfl,?_⟩
   rotate_left
   have h1 := notF g1
   refine EvtL.skip<|Es<|Lo (OpL.loadSA rfl ag_28 sz_28 rfl rfl (Nat.le_of_ble_eq_true rfl)) rfl ?_
   rotate_left
  ·rfl
  ·exact absurd h1 (by rw [hcv]; decide)
 | true =>
  have hc : OkC c := ⟨hf,hcv⟩
  cases hb : beforeV c with
  | none =>
   have hba : beforeA c = .tuple [.nilslice,.bool false] := by unfold beforeA; rw [hb]
   rw [regs2v hcv hb]
   focus
    refine Es<|Lo (OpL.boxS 1 rfl rfl rfl rfl) rfl ?_
    iterate 2 refine qa rfl ?_
    refine Ld<|EvtL.seq<|Es<|Lo (OpL.loadSA rfl ag_28 sz_28 rfl rfl (Nat.le_of_ble_eq_true rfl)) rfl ?_
    refine Lo (OpL.callFn rfl rfl (by kernel_rfl) rfl (CallTo.memo (hit_24 (by first | assumption | omega | (simp only [LL]; omega))))) rfl ?_
    refine Lq (on rfl) rfl<|Ld ?_
    refine Ec rfl (fun g1 => ?_) (fun g1 => ?_)
    have h1 := notT g1
    refine Es ?_
    iterate 2 refine qa rfl ?_
    refine Ld ?_
    refine EvtL.ret ⟨.inl rfl,rfl,rfl,rfl,_,_,_,(res_tmp rfl (res_tmp rfl rfl)),rfl,rfl,?_⟩
    rotate_left
    have h1 := notF g1
    refine EvtL.skip<|Es<|Lo (OpL.loadSA rfl ag_28 sz_28 rfl rfl (Nat.le_of_ble_eq_true rfl)) rfl ?_
    refine Lo (OpL.callFn rfl rfl (by kernel_rfl) rfl (CallTo.memo (hit_35 (by first | assumption | omega | (simp only [LL]; omega))))) rfl ?_
    refine qm rfl ?_
    rotate_left
   ·exact absurd h1 (by rw [hcv]; decide)
   ·rw [hba]
    iterate 2 refine Lq (oe rfl) rfl ?_
    iterate 2 refine qa rfl ?_
    refine Ld<|EvtL.seq<|Es<|qm rfl<|Lq (on rfl) rfl<|Ld<|EvtL.condT rfl rfl<|Es ?_
    iterate 2 refine qa rfl ?_
    refine Ld ?_
    refine EvtL.ret ⟨.inl rfl,rfl,rfl,rfl,_,_,_,(res_tmp rfl (res_tmp rfl rfl)),rfl,rfl,?_⟩
    rfl
  | some S =>
   have hba : beforeA c = .tuple [outA (zs S) S.length 1,.bool true] := by unfold beforeA; rw [hb]
   rw [regs3v hcv hb]
   focus
    refine Es<|Lo (OpL.boxS 1 rfl rfl rfl rfl) rfl ?_
    iterate 2 refine qa rfl ?_
    refine Ld<|EvtL.seq<|Es<|Lo (OpL.loadSA rfl ag_28 sz_28 rfl rfl (Nat.le_of_ble_eq_true rfl)) rfl ?_
    refine Lo (OpL.callFn rfl rfl (by kernel_rfl) rfl (CallTo.memo (hit_24 (by first | assumption | omega | (simp only [LL]; omega))))) rfl ?_
    refine Lq (on rfl) rfl<|Ld ?_
    refine Ec rfl (fun g1 => ?_) (fun g1 => ?_)
    have h1 := notT g1
    refine Es ?_
    iterate 2 refine qa rfl ?_
    refine Ld ?_
    refine EvtL.ret ⟨.inl rfl,rfl,rfl,rfl,_,_,_,(res_tmp rfl (res_tmp rfl rfl)),rfl,rfl,?_⟩
    rotate_left
    have h1 := notF g1
    refine EvtL.skip<|Es<|Lo (OpL.loadSA rfl ag_28 sz_28 rfl rfl (Nat.le_of_ble_eq_true rfl)) rfl ?_
    refine Lo (OpL.callFn rfl rfl (by kernel_rfl) rfl (CallTo.memo (hit_35 (by first | assumption | omega | (simp only [LL]; omega))))) rfl ?_
    refine qm rfl ?_
    rotate_left
   ·exact absurd h1 (by rw [hcv]; decide)
   ·rw [hba]
    iterate 2 refine Lq (oe rfl) rfl ?_
    iterate 2 refine qa rfl ?_
    refine Ld<|EvtL.seq<|Es<|qm rfl<|Lq (on rfl) rfl<|Ld<|EvtL.condF rfl rfl<|EvtL.skip ?_
    refine Es<|qm rfl ?_
    iterate 2 refine qa rfl ?_
    refine Ld ?_
    obtain ⟨ks,e1,e2⟩ := outZ_end S 0 (mkS 1 0 [] [(0,some (.cells (encC c) 28 false))])
    exact EvtL.ret ⟨.inl rfl,rfl,rfl,rfl,_,_,ks,(res_tmp rfl (res_tmp rfl rfl)),e1,e2,rfl⟩
theorem regsA_closed (c : CodeT) : closedV 40 (regsA c) = true := by
 unfold regsA
 cases codeV c with
 | false => rfl
 | true =>
  cases beforeV c with
  | none => rfl
  | some S =>
   show closedV 40 (.tuple [outA (zs S) S.length 1,.int .i64 0]) = true
   unfold outA
   cases Nat.beq S.length 0 <;> rfl
noncomputable def K21 := addC K20 11 (fun p : FitT => [.agg (encC p.1)]) (fun p => regsA p.1)
noncomputable def K22 := addC K21 12 (fun p : FitT => [.agg (encC p.1)]) (fun p => regsA p.1)
theorem hit_11 {c : CodeT} (h : Fits c) : K21 11 [.agg (encC c)] = some (regsA c) :=
 addC_hit (f := 11) (enc := fun p : FitT => [.agg (encC p.1)]) (res := fun p => regsA p.1) (fun p q h => by rw [encF_inj h]) ⟨c,h⟩
theorem all22 (h : KnownF Tryz.prog 10 [] (.bool true)) : KnownAll Tryz.prog K22 :=
 addC_known (addC_all progOk (all20 h) (fun p : FitT => cregs_to p.1 p.2) (fun _ => rfl) (fun _ => regsA_closed _)) fun p => known_of progOk (all20 h) (rregs_to p.1 p.2) rfl (regsA_closed _)
theorem zs_enc (l : List Int) : zs l = l.flatMap encZ := by
 unfold zs
 induction l with
 | nil => rfl
 | cons a l ih => rw [List.map_cons,List.flatMap_cons,ih]; rfl
theorem outA_recs {l : List Int} (h : l ≠ []) : outA (zs l) l.length 1 = recs encZ 1 l := by
 rw [outA_ne (fun e => h (List.length_eq_zero_iff.1 e)),zs_enc]; rfl
theorem same_to (l : List Int) (hl : l.length ≤ 4000) : CallTo (EK K22) 15 [outA (zs l) l.length 1,outA (zs l) l.length 1] S0 (.bool true) := by
 by_cases h0 : l = []
 ·subst h0
  show CallTo (EK K22) 15 [.nilslice,.nilslice] S0 (.bool true)
  refine CallTo.s0 (fn := Tryz.f15) rfl rfl (by kernel_rfl) rfl rfl rfl rfl<|Es<|qa rfl<|Ld<|EvtL.seq<|Es<|qm rfl<|Lq (OpQ.lenNil rfl rfl rfl rfl u_26 rfl) rfl ?_
  refine qm rfl<|Lq (OpQ.lenNil rfl rfl rfl rfl u_26 rfl) rfl<|Lq (o2 u_3 rfl rfl) rfl<|Ld<|EvtL.condF rfl rfl<|EvtL.skip<|EvtL.seq<|Es ?_
  refine qa rfl<|Ld<|EvtL.block<|EvtL.loop<|EvtL.seq<|Es ?_
  iterate 2 refine qm rfl ?_
  refine Lq (OpQ.lenNil rfl rfl rfl rfl u_26 rfl) rfl<|Lq (o2 u_3 rfl rfl) rfl<|Ld<|EvtL.condF rfl rfl<|EvtL.exit<|cond_t rfl<|Es<|qa rfl ?_
  refine Ld ?_
  refine EvtL.ret (Er rfl ?_)
  exact boolRes rfl
 ·rw [outA_recs h0]
  refine CallTo.s0 (fn := Tryz.f15) rfl rfl (by kernel_rfl) rfl rfl rfl rfl ?_
  focus
   refine Es<|qa rfl<|Ld<|EvtL.seq<|Es<|qm rfl<|Lq (ol u_26 rfl) rfl<|qm rfl ?_
   refine Lq (ol u_26 rfl) rfl<|Lq (o2 u_3 rfl rfl) rfl<|Ld ?_
   refine Ec rfl (fun g1 => ?_) (fun g1 => ?_)
   have h1 := nT g1
   exact absurd h1 (by omega)
   have h1 := nF g1
   refine EvtL.skip<|EvtL.seq<|Es<|qa rfl<|Ld<|EvtL.block ?_
   rotate_left
  refine EvtL.loopI (fun i : Nat => ([(5,.int .i64 (i : Nat)),(1,recs encZ 1 l),(0,recs encZ 1 l)],mkS 0 0 [] [])) (fun i => l.length - i) (fun i => i ≤ l.length) 0 (Nat.zero_le _) rfl (by (refine Am.sub_of ?_; repeat (first | exact trivial | refine ⟨rfl,?_⟩))) ?_
  intro i hi
  dsimp only at hi ⊢
  by_cases h : i < l.length
  ·have hp := recs_idx encZ_len h
   focus
    refine EvtL.seq<|Es ?_
    iterate 2 refine qm rfl ?_
    refine Lq (ol u_26 rfl) rfl<|Lq (o2 u_3 rfl rfl) rfl<|Ld ?_
    refine Ec rfl (fun g2 => ?_) (fun g2 => ?_)
    have h2 := dT g2
    refine EvtL.skip<|EvtL.seq<|EvtL.block<|EvtL.seqDrawN (by kernel_rfl) ?_
    iterate 2 refine Nq (om rfl) rfl ?_
    refine Nq (OpQ.indexAddrV rfl u_26 sz_3 rfl rfl ‹_›) rfl<|Nq (OpQ.loadI1 rfl rfl ag_3 sz_3) rfl ?_
    iterate 2 refine Nq (om rfl) rfl ?_
    refine Nq (OpQ.indexAddrV rfl u_26 sz_3 rfl rfl ‹_›) rfl<|Nq (OpQ.loadI1 rfl rfl ag_3 sz_3) rfl<|Nq (o2 u_3 rfl rfl) rfl<|RegN.done ?_
    refine Ec rfl (fun g3 => ?_) (fun g3 => ?_)
    have h3 := nT g3
    exact absurd h3 (by omega)
    have h3 := nF g3
    refine EvtL.skip<|EvtL.reg<|qm rfl ?_
    refine Lq (OpQ.addN (b := 1) rfl u_3 rfl rfl (by first | assumption | omega | (simp only [LL]; omega))) rfl ?_
    refine qa rfl<|Ld ?_
    rotate_left
    have h2 := dF g2
    exact absurd h2 (by omega)
   exact ⟨i + 1,h,by show l.length - (i + 1) < l.length - i; omega,rfl,rfl,by (refine Am.sub_of ?_; repeat (first | exact trivial | refine ⟨rfl,?_⟩))⟩
  ·focus
    refine EvtL.seq<|Es ?_
    iterate 2 refine qm rfl ?_
    refine Lq (ol u_26 rfl) rfl<|Lq (o2 u_3 rfl rfl) rfl<|Ld ?_
    refine Ec rfl (fun g2 => ?_) (fun g2 => ?_)
    have h2 := dT g2
    exact absurd h2 (by omega)
    have h2 := dF g2
    refine EvtL.exit<|cond_t rfl<|Es<|qa rfl<|Ld ?_
    refine EvtL.ret (Er rfl ?_)
    exact boolRes rfl
abbrev SmallL := { l : List Int // l.length ≤ 4000 }
noncomputable def K23 := addC K22 15 (fun l : SmallL => [outA (zs l.1) l.1.length 1,outA (zs l.1) l.1.length 1]) (fun _ => .bool true)
theorem outs_closed (l : List Int) : closedV 40 (outA (zs l) l.length 1) = true := by
 unfold outA
 cases Nat.beq l.length 0 <;> rfl
theorem all23 (h : KnownF Tryz.prog 10 [] (.bool true)) : KnownAll Tryz.prog K23 := addC_all progOk (all22 h) (fun l : SmallL => same_to l.1 l.2) (fun l => by
 show (closedV 40 (outA (zs l.1) l.1.length 1) && (closedV 40 (outA (zs l.1) l.1.length 1) && true)) = true
 rw [outs_closed]; rfl) (fun _ => rfl)
theorem fits_of {c : CodeT} (h : smallCodeV c = true) : Fits c := by
 unfold smallCodeV at h
 rw [Bool.and_eq_true,Bool.and_eq_true] at h
 obtain ⟨⟨h1,h2⟩,h3⟩ := h
 rw [Bool.not_eq_true',Bool.or_eq_false_iff,decide_eq_false_iff_not,decide_eq_false_iff_not] at h2
 unfold smallSigV at h1
 rw [Bool.and_eq_true,Bool.and_eq_true,Bool.not_eq_true',Bool.or_eq_false_iff,decide_eq_false_iff_not,decide_eq_false_iff_not] at h1
 obtain ⟨⟨h4,h5⟩,h6,h7⟩ := h1
 have hins : ∀ x ∈ c.ins,x.alts.length ≤ 4000 ∧ x.to.length ≤ 4000 ∧ x.args.length ≤ 4000 := fun x hx => by
  obtain ⟨i,hi,rfl⟩ := List.mem_iff_getElem.1 hx
  have := ra_at h3 hi
  rw [iAt_eq hi] at this
  unfold smallI at this
  rw [Bool.not_eq_true',Bool.or_eq_false_iff,Bool.or_eq_false_iff,decide_eq_false_iff_not,decide_eq_false_iff_not,decide_eq_false_iff_not] at this
  omega
 have hnm : ∀ l : List NameT,shortV l l.length = true → ∀ p ∈ l,p.1.length ≤ 4000 := fun l hs p hp => by
  unfold shortV at hs
  rw [List.take_length] at hs
  have := dT (List.all_eq_true.1 hs p hp)
  omega
 exact ⟨by omega,by omega,by omega,by omega,fun x hx => (hins x hx).1,fun x hx => (hins x hx).2.1,fun x hx => (hins x hx).2.2,hnm _ h6,hnm _ h7⟩
theorem hit_10 : K0 10 [] = some (.bool true) := rfl
end Go.Proofs.YtpihdbhocgcbpaaGreatDoor

/- Codes as arguments. -/
open Go Am
namespace Go.Proofs.YtpihdbhocgcbpaaGreatDoor
section
variable {P : Program}
theorem data_int {t : TypeId} {k : IntKind} {l : List AV} (h : Am.Data P t l) (hu : P.underlying t = some (.int k)) : ∃ n,l = [.int k n] := by
 cases h with
 | bool h => rw [hu] at h; cases h
 | int h => rw [hu] at h; cases h; exact ⟨_,rfl⟩
 | str h => rw [hu] at h; cases h
 | sl h => rw [hu] at h; cases h
 | st h => rw [hu] at h; cases h
theorem data_str {t : TypeId} {l : List AV} (h : Am.Data P t l) (hu : P.underlying t = some .string) : ∃ w,l = [.str w] := by
 cases h with
 | bool h => rw [hu] at h; cases h
 | int h => rw [hu] at h; cases h
 | str h => exact ⟨_,rfl⟩
 | sl h => rw [hu] at h; cases h
 | st h => rw [hu] at h; cases h
theorem data_sl {t e : TypeId} {l : List AV} (h : Am.Data P t l) (hu : P.underlying t = some (.slice e)) : ∃ ls : List (List AV),l = [.islice ls.flatten ls.length (P.cellsOf e) true] ∧ ∀ x ∈ ls,Am.Data P e x := by
 cases h with
 | bool h => rw [hu] at h; cases h
 | int h => rw [hu] at h; cases h
 | str h => rw [hu] at h; cases h
 | sl h hn hl hd => rw [hu] at h; cases h; exact ⟨_,rfl,hd⟩
 | st h => rw [hu] at h; cases h
theorem data_st {t : TypeId} {fs : Array Field} {l : List AV} (h : Am.Data P t l) (hu : P.underlying t = some (.struct fs)) : ∃ ls : List (List AV),l = ls.flatten ∧ ls.length = fs.toList.length ∧ ∀ (i : Nat) f x,fs.toList[i]? = some f → ls[i]? = some x → Am.Data P f.type x := by
 cases h with
 | bool h => rw [hu] at h; cases h
 | int h => rw [hu] at h; cases h
 | str h => rw [hu] at h; cases h
 | sl h => rw [hu] at h; cases h
 | st h hl hd => rw [hu] at h; cases h; exact ⟨_,rfl,hl,hd⟩
theorem list_dec {α : Type} {enc : α → List AV} : ∀ {ls : List (List AV)},(∀ l ∈ ls,∃ a,l = enc a) → ∃ xs : List α,ls = xs.map enc
 | [],_ => ⟨[],rfl⟩
 | l :: ls,h => by
  obtain ⟨a,rfl⟩ := h l (List.mem_cons_self ..)
  obtain ⟨xs,rfl⟩ := list_dec (ls := ls) fun x hx => h x (List.mem_cons_of_mem _ hx)
  exact ⟨a :: xs,rfl⟩
theorem data_recs {α : Type} {enc : α → List AV} {t e : TypeId} {k : Nat} {l : List AV} (h : Am.Data P t l) (hu : P.underlying t = some (.slice e)) (hk : P.cellsOf e = k) (hd : ∀ x,Am.Data P e x → ∃ a,x = enc a) : ∃ xs : List α,l = [recs enc k xs] := by
 obtain ⟨ls,rfl,hm⟩ := data_sl h hu
 obtain ⟨xs,rfl⟩ := list_dec fun x hx => hd x (hm x hx)
 refine ⟨xs,?_⟩
 unfold recs
 rw [hk,List.length_map,List.flatMap_def]
end
noncomputable def fieldsOf (t : TypeId) : Array Field := match Tryz.prog.underlying t with
 | some (.struct fs) => fs
 | _ => #[]
noncomputable def ftype (t : TypeId) (i : Nat) : Option TypeId := ((fieldsOf t).toList[i]?).map Field.type
theorem data_field {t : TypeId} {ls : List (List AV)} (hd : ∀ (i : Nat) f x,(fieldsOf t).toList[i]? = some f → ls[i]? = some x → Am.Data Tryz.prog f.type x) {i : Nat} {u : TypeId} {x : List AV} (h : ftype t i = some u) (hx : ls[i]? = some x) : Am.Data Tryz.prog u x := by
 unfold ftype at h
 obtain ⟨f,hf,rfl⟩ := Option.map_eq_some_iff.1 h
 exact hd i f x hf hx
theorem data_Z {x : List AV} (h : Am.Data Tryz.prog 3 x) : ∃ n,x = encZ n := data_int h (by kernel_rfl)
theorem data_A {x : List AV} (h : Am.Data Tryz.prog 60 x) : ∃ p,x = encA p := by
 obtain ⟨ls,rfl,hl,hd⟩ := data_st (fs := fieldsOf 60) h (by kernel_rfl)
 have hl : ls.length = 2 := hl.trans (by kernel_rfl)
 match ls,hl,hd with
 | [a,b],_,hd =>
  obtain ⟨m,rfl⟩ := data_int (k := .i64) (data_field hd (i := 0) (u := 3) (by kernel_rfl) rfl) (by kernel_rfl)
  obtain ⟨n,rfl⟩ := data_int (k := .i64) (data_field hd (i := 1) (u := 3) (by kernel_rfl) rfl) (by kernel_rfl)
  exact ⟨(m,n),rfl⟩
theorem data_N {x : List AV} (h : Am.Data Tryz.prog 54 x) : ∃ p,x = encN p := by
 obtain ⟨ls,rfl,hl,hd⟩ := data_st (fs := fieldsOf 54) h (by kernel_rfl)
 have hl : ls.length = 2 := hl.trans (by kernel_rfl)
 match ls,hl,hd with
 | [a,b],_,hd =>
  obtain ⟨w,rfl⟩ := data_str (data_field hd (i := 0) (u := 9) (by kernel_rfl) rfl) (by kernel_rfl)
  obtain ⟨n,rfl⟩ := data_int (k := .i64) (data_field hd (i := 1) (u := 3) (by kernel_rfl) rfl) (by kernel_rfl)
  exact ⟨(w,n),rfl⟩
theorem data_Zs {x : List AV} (h : Am.Data Tryz.prog 26 x) : ∃ l,x = [recs encZ 1 l] := data_recs h (e := 3) (by kernel_rfl) (by kernel_rfl) fun _ => data_Z
theorem data_As {x : List AV} (h : Am.Data Tryz.prog 56 x) : ∃ l,x = [recs encA 2 l] := data_recs h (e := 60) (by kernel_rfl) (by kernel_rfl) fun _ => data_A
theorem data_Ns {x : List AV} (h : Am.Data Tryz.prog 22 x) : ∃ l,x = [recs encN 2 l] := data_recs h (e := 54) (by kernel_rfl) (by kernel_rfl) fun _ => data_N
theorem data_I {x : List AV} (h : Am.Data Tryz.prog 58 x) : ∃ p,x = encI p := by
 obtain ⟨ls,rfl,hl,hd⟩ := data_st (fs := fieldsOf 58) h (by kernel_rfl)
 have hl : ls.length = 7 := hl.trans (by kernel_rfl)
 match ls,hl,hd with
 | [a,b,c,d,e,f,g],_,hd =>
  obtain ⟨op,rfl⟩ := data_int (k := .i64) (data_field hd (i := 0) (u := 55) (by kernel_rfl) rfl) (by kernel_rfl)
  obtain ⟨a,rfl⟩ := data_int (k := .i64) (data_field hd (i := 1) (u := 3) (by kernel_rfl) rfl) (by kernel_rfl)
  obtain ⟨alts,rfl⟩ := data_As (data_field hd (i := 2) (u := 56) (by kernel_rfl) rfl)
  obtain ⟨to,rfl⟩ := data_Zs (data_field hd (i := 3) (u := 26) (by kernel_rfl) rfl)
  obtain ⟨term,rfl⟩ := data_int (k := .i64) (data_field hd (i := 4) (u := 37) (by kernel_rfl) rfl) (by kernel_rfl)
  obtain ⟨n,rfl⟩ := data_int (k := .i64) (data_field hd (i := 5) (u := 3) (by kernel_rfl) rfl) (by kernel_rfl)
  obtain ⟨args,rfl⟩ := data_Zs (data_field hd (i := 6) (u := 26) (by kernel_rfl) rfl)
  exact ⟨⟨op,a,alts,to,term,n,args⟩,rfl⟩
theorem data_Is {x : List AV} (h : Am.Data Tryz.prog 25 x) : ∃ l,x = [recs encI 7 l] := data_recs h (e := 58) (by kernel_rfl) (by kernel_rfl) fun _ => data_I
theorem data_C {x : List AV} (h : Am.Data Tryz.prog 28 x) : ∃ c,x = encC c := by
 obtain ⟨ls,rfl,hl,hd⟩ := data_st (fs := fieldsOf 28) h (by kernel_rfl)
 have hl : ls.length = 3 := hl.trans (by kernel_rfl)
 match ls,hl,hd with
 | [a,b,c],_,hd =>
  obtain ⟨ls2,rfl,hl2,hd2⟩ := data_st (fs := fieldsOf 24) (data_field hd (i := 0) (u := 24) (by kernel_rfl) rfl) (by kernel_rfl)
  have hl2 : ls2.length = 2 := hl2.trans (by kernel_rfl)
  obtain ⟨ins,rfl⟩ := data_Is (data_field hd (i := 1) (u := 25) (by kernel_rfl) rfl)
  obtain ⟨starts,rfl⟩ := data_Zs (data_field hd (i := 2) (u := 26) (by kernel_rfl) rfl)
  match ls2,hl2,hd2 with
  | [a,b],_,hd2 =>
   obtain ⟨cons,rfl⟩ := data_Ns (data_field hd2 (i := 0) (u := 22) (by kernel_rfl) rfl)
   obtain ⟨funs,rfl⟩ := data_Ns (data_field hd2 (i := 1) (u := 22) (by kernel_rfl) rfl)
   exact ⟨⟨cons,funs,ins,starts⟩,rfl⟩
end Go.Proofs.YtpihdbhocgcbpaaGreatDoor

/- The law of forms,as a whole call. -/
open Go Am
namespace Go.Proofs.YtpihdbhocgcbpaaGreatDoor
end Go.Proofs.YtpihdbhocgcbpaaGreatDoor
