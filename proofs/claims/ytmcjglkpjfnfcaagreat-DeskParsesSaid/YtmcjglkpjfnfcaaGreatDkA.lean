/- Desk: the types; strings.Builder and Join; the specification's functions. -/
import Derived.Test.YtmcjglkpjfnfcaaGreatAmG
import Derived.Test.YtmcjglkpjfnfcaaGreatProg
import Derived.KernelRfl
set_option linter.unusedSectionVars false
set_option linter.unusedVariables false
set_option linter.unusedSimpArgs false

/- What holds of the program's types. -/
open Go Am
namespace Go.Proofs.YtmcjglkpjfnfcaaGreat
noncomputable abbrev EK (K : FuncId → List AV → Option AV) : Env := envK Tryz.prog 800 800 0 K
section
variable {K : FuncId → List AV → Option AV}
theorem u_3 : und (EK K) 3 = some (.int .i64) := by kernel_rfl
theorem u_4 : und (EK K) 4 = some .bool := by kernel_rfl
theorem u_5 : und (EK K) 5 = some (.int .u8) := by kernel_rfl
theorem sz_5 : Am.sizeOf (EK K) 5 = some 1 := by kernel_rfl
theorem ag_5 : Am.isAgg (EK K) 5 = some false := by kernel_rfl
theorem z_5 : Am.zeroOf (EK K) 5 = some (.int .u8 0) := by kernel_rfl
theorem by_5 : bytesOf (EK K) 5 = some 1 := by kernel_rfl
theorem ib_5 : isByte (EK K) 5 = true := by kernel_rfl
theorem u_9 : und (EK K) 9 = some .string := by kernel_rfl
theorem sz_9 : Am.sizeOf (EK K) 9 = some 1 := by kernel_rfl
theorem ag_9 : Am.isAgg (EK K) 9 = some false := by kernel_rfl
theorem z_9 : Am.zeroOf (EK K) 9 = some (.str []) := by kernel_rfl
theorem kd_9 : kdOf (EK K) 9 = some (.one .string) := by kernel_rfl
theorem u_22 : und (EK K) 22 = some (.int .i64) := by kernel_rfl
theorem sz_22 : Am.sizeOf (EK K) 22 = some 1 := by kernel_rfl
theorem ag_22 : Am.isAgg (EK K) 22 = some false := by kernel_rfl
theorem st_24 : isStructT (EK K) 24 = true := by kernel_rfl
theorem f_24_0 : fieldOf (EK K) 24 0 = some (0, 1, false) := by kernel_rfl
theorem f_24_1 : fieldOf (EK K) 24 1 = some (1, 1, false) := by kernel_rfl
theorem sz_24 : Am.sizeOf (EK K) 24 = some 2 := by kernel_rfl
theorem ag_24 : Am.isAgg (EK K) 24 = some true := by kernel_rfl
theorem z_24 : Am.zeroOf (EK K) 24 = some (.agg [.int .i64 0, .str []]) := by kernel_rfl
theorem kd_24 : kdOf (EK K) 24 = some (.flat [.int .i64, .string]) := by kernel_rfl
theorem pl_24 : Am.buildPlan (EK K) 24 = some ([.int .i64 0, .str []], nth [(0, 1), (1, 1)]) := by kernel_rfl
theorem u_26 : und (EK K) 26 = some (.int .i64) := by kernel_rfl
theorem u_32 : und (EK K) 32 = some (.slice 9) := by kernel_rfl
theorem sz_44 : Am.sizeOf (EK K) 44 = some 1 := by kernel_rfl
theorem ag_44 : Am.isAgg (EK K) 44 = some false := by kernel_rfl
theorem if_44 : isIfaceT (EK K) 44 = some true := by kernel_rfl
theorem u_51 : und (EK K) 51 = some (.array 10 9) := by kernel_rfl
theorem sz_51 : Am.sizeOf (EK K) 51 = some 10 := by kernel_rfl
theorem ag_51 : Am.isAgg (EK K) 51 = some true := by kernel_rfl
theorem z_51 : Am.zeroOf (EK K) 51 = some (.agg [.str [], .str [], .str [], .str [], .str [], .str [], .str [], .str [], .str [], .str []]) := by kernel_rfl
theorem pl_51 : Am.buildPlan (EK K) 51 = some ([.str [], .str [], .str [], .str [], .str [], .str [], .str [], .str [], .str [], .str []], fun i => some (i * 1, 1)) := by kernel_rfl
theorem sz_54 : Am.sizeOf (EK K) 54 = some 1 := by kernel_rfl
theorem ag_54 : Am.isAgg (EK K) 54 = some false := by kernel_rfl
theorem sz_61 : Am.sizeOf (EK K) 61 = some 1 := by kernel_rfl
theorem ag_61 : Am.isAgg (EK K) 61 = some false := by kernel_rfl
theorem f_63_0 : fieldOf (EK K) 63 0 = some (0, 1, false) := by kernel_rfl
theorem sz_63 : Am.sizeOf (EK K) 63 = some 1 := by kernel_rfl
theorem ag_63 : Am.isAgg (EK K) 63 = some true := by kernel_rfl
theorem z_63 : Am.zeroOf (EK K) 63 = some (.agg [.nilfunc]) := by kernel_rfl
theorem pl_63 : Am.buildPlan (EK K) 63 = some ([.nilfunc], nth [(0, 1)]) := by kernel_rfl
theorem u_65 : und (EK K) 65 = some (.map 9 63) := by kernel_rfl
theorem sz_93 : Am.sizeOf (EK K) 93 = some 1 := by kernel_rfl
theorem ag_93 : Am.isAgg (EK K) 93 = some false := by kernel_rfl
theorem u_94 : und (EK K) 94 = some (.pointer 97) := by kernel_rfl
theorem sz_94 : Am.sizeOf (EK K) 94 = some 1 := by kernel_rfl
theorem ag_94 : Am.isAgg (EK K) 94 = some false := by kernel_rfl
theorem u_95 : und (EK K) 95 = some (.slice 5) := by kernel_rfl
theorem sz_95 : Am.sizeOf (EK K) 95 = some 1 := by kernel_rfl
theorem ag_95 : Am.isAgg (EK K) 95 = some false := by kernel_rfl
theorem f_97_0 : fieldOf (EK K) 97 0 = some (0, 1, false) := by kernel_rfl
theorem f_97_1 : fieldOf (EK K) 97 1 = some (1, 1, false) := by kernel_rfl
theorem sz_97 : Am.sizeOf (EK K) 97 = some 2 := by kernel_rfl
theorem z_97 : Am.zeroOf (EK K) 97 = some (.agg [.nilptr, .nilslice]) := by kernel_rfl
theorem f_106_0 : fieldOf (EK K) 106 0 = some (0, 1, false) := by kernel_rfl
theorem if_106 : isIfaceT (EK K) 106 = some false := by kernel_rfl
theorem pl_106 : Am.buildPlan (EK K) 106 = some ([.str []], nth [(0, 1)]) := by kernel_rfl
theorem f_107_0 : fieldOf (EK K) 107 0 = some (0, 1, false) := by kernel_rfl
theorem if_107 : isIfaceT (EK K) 107 = some false := by kernel_rfl
theorem pl_107 : Am.buildPlan (EK K) 107 = some ([.str []], nth [(0, 1)]) := by kernel_rfl
theorem f_108_0 : fieldOf (EK K) 108 0 = some (0, 1, false) := by kernel_rfl
theorem if_108 : isIfaceT (EK K) 108 = some false := by kernel_rfl
theorem pl_108 : Am.buildPlan (EK K) 108 = some ([.str []], nth [(0, 1)]) := by kernel_rfl
theorem f_109_0 : fieldOf (EK K) 109 0 = some (0, 1, false) := by kernel_rfl
theorem if_109 : isIfaceT (EK K) 109 = some false := by kernel_rfl
theorem pl_109 : Am.buildPlan (EK K) 109 = some ([.str []], nth [(0, 1)]) := by kernel_rfl
theorem if_112 : isIfaceT (EK K) 112 = some false := by kernel_rfl
theorem pl_112 : Am.buildPlan (EK K) 112 = some ([], nth []) := by kernel_rfl
theorem if_113 : isIfaceT (EK K) 113 = some false := by kernel_rfl
theorem pl_113 : Am.buildPlan (EK K) 113 = some ([], nth []) := by kernel_rfl
theorem if_114 : isIfaceT (EK K) 114 = some false := by kernel_rfl
theorem pl_114 : Am.buildPlan (EK K) 114 = some ([], nth []) := by kernel_rfl
theorem if_115 : isIfaceT (EK K) 115 = some false := by kernel_rfl
theorem pl_115 : Am.buildPlan (EK K) 115 = some ([], nth []) := by kernel_rfl
theorem if_116 : isIfaceT (EK K) 116 = some false := by kernel_rfl
theorem pl_116 : Am.buildPlan (EK K) 116 = some ([], nth []) := by kernel_rfl
theorem u_130 : und (EK K) 130 = some .unsafePointer := by kernel_rfl
theorem m_106_made : methodOf (EK K) 106 "swingle/desk.made" = some (85, .mk none none) := by kernel_rfl
theorem m_107_made : methodOf (EK K) 107 "swingle/desk.made" = some (347, .mk none none) := by kernel_rfl
theorem m_108_made : methodOf (EK K) 108 "swingle/desk.made" = some (373, .mk none none) := by kernel_rfl
theorem m_109_made : methodOf (EK K) 109 "swingle/desk.made" = some (375, .mk none none) := by kernel_rfl
theorem m_112_made : methodOf (EK K) 112 "swingle/desk.made" = some (379, .mk none none) := by kernel_rfl
theorem m_113_made : methodOf (EK K) 113 "swingle/desk.made" = some (494, .mk none none) := by kernel_rfl
theorem m_114_made : methodOf (EK K) 114 "swingle/desk.made" = some (496, .mk none none) := by kernel_rfl
theorem m_115_made : methodOf (EK K) 115 "swingle/desk.made" = some (514, .mk none none) := by kernel_rfl
theorem m_116_made : methodOf (EK K) 116 "swingle/desk.made" = some (516, .mk none none) := by kernel_rfl

end
end Go.Proofs.YtmcjglkpjfnfcaaGreat

/- strings.Builder. -/
open Go Am
namespace Go.Proofs.YtmcjglkpjfnfcaaGreat
section
variable {K : FuncId → List AV → Option AV}
theorem copyCheck_run (hK : K 50 = fun _ => none) {s : St} {b0 : Nat} {a v : AV} (hg : s.heap.get b0 = some (.cells [a, v] 97 false)) (ha : a = .nilptr ∨ a = .ptr b0 0) (hn : b0 < s.next) {R : AV → St → Prop}
    (hR : ∀ s', Chg s s' (fun c => c = b0) → s'.next = s.next → s'.heap.get b0 = some (.cells [.ptr b0 0, v] 97 false) → (b0 < s.bound → s'.log ≠ [] ∨ a = .ptr b0 0) → R (.tuple []) s') : RunsV (EK K) 50 [.ptr b0 0] s R := by
  refine RunsV.unit (fn := Tryz.f50) (by show K 50 _ = none; rw [hK]) (by kernel_rfl) rfl rfl rfl rfl ?_
  have hg' : s.enter.heap.get b0 = some (.cells [a, v] 97 false) := hg
  rcases ha with rfl | rfl
  · refine EvtL.seqReg ?_
    refine RegL.q (OpQ.move rfl rfl) rfl rfl rfl ?_
    refine RegL.q (OpQ.nilCheck rfl rfl rfl) rfl rfl rfl ?_
    refine RegL.q (OpQ.fieldAddr rfl f_97_0 rfl) rfl rfl rfl ?_
    refine RegL.op (OpL.load rfl rfl (loadOne_at ag_94 sz_94 (by assumption) rfl)) rfl rfl rfl ?_
    refine RegL.op (OpL.eqPtr (neg := false) rfl u_94 sz_97 rfl rfl rfl) rfl rfl rfl ?_
    refine RegL.done ?_
    refine EvtL.condT rfl rfl ?_
    refine EvtL.reg ?_
    refine RegL.q (OpQ.move rfl rfl) rfl rfl rfl ?_
    refine RegL.q (OpQ.move rfl rfl) rfl rfl rfl ?_
    refine RegL.op (OpL.toUnsafe rfl u_94 u_130 sz_97 rfl (v := .ptr b0 0) (by show (cellsOf? (s.enter.heap.get b0)).bind _ = _; rw [hg']; rfl)) rfl rfl rfl ?_
    refine RegL.q (OpQ.same (x := .tmp 9) (by kernel_rfl) rfl) rfl rfl rfl ?_
    refine RegL.op (OpL.fromUnsafe rfl u_130 u_94 sz_97 rfl (v := .ptr b0 0) (by show fromUnsafeIn _ _ _ _ (s.enter.heap.get b0) = _; rw [hg']; kernel_rfl)) rfl rfl rfl ?_
    refine RegL.q (OpQ.nilCheck rfl rfl rfl) rfl rfl rfl ?_
    refine RegL.q (OpQ.fieldAddr rfl f_97_0 rfl) rfl rfl rfl ?_
    refine RegL.opN (OpL.store rfl sz_94 rfl rfl (storeN_at (by assumption) rfl rfl rfl)) rfl rfl ?_
    refine RegL.done ?_
    refine ⟨.inr rfl, rfl, fun h => absurd h (put_log_ne (s := s.enter) hn), hR _ (Chg.put (s := s.enter)).back rfl ?_ ?_⟩
    · show (s.enter.put b0 _).heap.get b0 = _
      rw [get_putS, if_pos rfl]
    · intro hb
      refine .inl ?_
      have hbl : Nat.blt b0 s.next = true := Nat.ble_eq_true_of_le hn
      have hbb : Nat.blt b0 s.bound = true := Nat.ble_eq_true_of_le hb
      show below s.bound (bif Nat.blt b0 s.next then [b0] else []) s.log ≠ []
      rw [hbl]
      show (bif Nat.blt b0 s.bound then b0 :: s.log else s.log) ≠ []
      rw [hbb]
      simp
  · refine EvtL.seqReg ?_
    refine RegL.q (OpQ.move rfl rfl) rfl rfl rfl ?_
    refine RegL.q (OpQ.nilCheck rfl rfl rfl) rfl rfl rfl ?_
    refine RegL.q (OpQ.fieldAddr rfl f_97_0 rfl) rfl rfl rfl ?_
    refine RegL.op (OpL.load rfl rfl (loadOne_at ag_94 sz_94 (by assumption) rfl)) rfl rfl rfl ?_
    refine RegL.op (OpL.eqPtr (neg := false) rfl u_94 sz_97 rfl rfl rfl) rfl rfl rfl ?_
    refine RegL.done ?_
    refine EvtL.condF rfl rfl ?_
    refine EvtL.seqReg ?_
    refine RegL.q (OpQ.move rfl rfl) rfl rfl rfl ?_
    refine RegL.q (OpQ.nilCheck rfl rfl rfl) rfl rfl rfl ?_
    refine RegL.q (OpQ.fieldAddr rfl f_97_0 rfl) rfl rfl rfl ?_
    refine RegL.op (OpL.load rfl rfl (loadOne_at ag_94 sz_94 (by assumption) rfl)) rfl rfl rfl ?_
    refine RegL.q (OpQ.move rfl rfl) rfl rfl rfl ?_
    refine RegL.op (OpL.eqPtr (neg := true) rfl u_94 sz_97 rfl rfl (v := .bool false) (by show boolV true (bif Nat.beq b0 b0 then some (Nat.beq 0 0) else _) = _; rw [Nat.beq_refl]; rfl)) rfl rfl rfl ?_
    refine RegL.done ?_
    refine EvtL.condF rfl rfl ?_
    refine EvtL.skip ?_
    exact ⟨.inr rfl, rfl, fun _ => hR s ⟨Nat.le_refl _, rfl, fun _ h => .inl h, fun _ _ _ => rfl⟩ rfl hg fun _ => .inr rfl, hR _ ⟨Nat.le_refl _, rfl, fun _ h => .inl h, fun _ _ _ => rfl⟩ rfl hg fun _ => .inr rfl⟩

/-- A text behind a builder's. -/
theorem write_run (hK : K 31 = fun _ => none) (hK1 : K 50 = fun _ => none) {s : St} {b0 : Nat} {a v : AV} {w x : List UInt8} (hg : s.heap.get b0 = some (.cells [a, v] 97 false)) (ha : a = .nilptr ∨ a = .ptr b0 0)
    (hn : b0 < s.next) (hv : BufR s 5 v w) (hov : ownB b0 v = false) (hsm : w.length + x.length ≤ 1099511627776) {R : AV → St → Prop}
    (hR : ∀ s' v', Chg s s' (fun c => c = b0 ∨ ownB c v = true) → s'.heap.get b0 = some (.cells [.ptr b0 0, v'] 97 false) → BufR s' 5 v' (w ++ x) → (∀ c, ownB c v' = true → ownB c v = true ∨ s.next ≤ c) → (b0 < s.bound → s'.log ≠ []) → R (.tuple [.int .i64 (x.length : Nat), .niliface]) s') :
    RunsV (EK K) 31 [.ptr b0 0, .str x] s R := by
  refine RunsV.gen (fn := Tryz.f31) (by show K 31 _ = none; rw [hK]) (by kernel_rfl) rfl rfl rfl rfl ?_
  refine EvtL.seqReg ?_
  refine RegL.q (OpQ.assign rfl rfl) rfl rfl rfl ?_
  refine RegL.q (OpQ.assign rfl rfl) rfl rfl rfl ?_
  refine RegL.done ?_
  refine EvtL.seqReg ?_
  refine RegL.q (OpQ.move rfl rfl) rfl rfl rfl ?_
  refine RegL.callFn rfl rfl (by kernel_rfl) rfl rfl rfl rfl (copyCheck_run hK1 (s := s.enter) hg ha hn ?_)
  intro s1 hc1 hn1 hg1 hl1
  have hv1 : BufR s1 5 v w := hv.keep (s := s.enter) hc1.next fun c hc => hc1.heap c (hv.own hc) fun h => by rw [h, hov] at hc; cases hc
  refine RegL.done ?_
  refine EvtL.seqReg ?_
  refine RegL.q (OpQ.move rfl rfl) rfl rfl rfl ?_
  refine RegL.q (OpQ.move rfl rfl) rfl rfl rfl ?_
  refine RegL.q (OpQ.nilCheck rfl rfl rfl) rfl rfl rfl ?_
  refine RegL.q (OpQ.fieldAddr rfl f_97_1 rfl) rfl rfl rfl ?_
  refine RegL.op (OpL.load rfl rfl (loadOne_at ag_95 sz_95 (by assumption) rfl)) rfl rfl rfl ?_
  refine RegL.q (OpQ.move rfl rfl) rfl rfl rfl ?_
  obtain ⟨v', s2, happ, hb2, hnx2, hbd2, how2, hlg2, hhp2⟩ := hv1.append hsm
  have hg2 : s2.heap.get b0 = some (.cells [.ptr b0 0, v] 97 false) := (hhp2 b0 (by rw [hn1]; exact hn) hov).trans hg1
  refine RegL.op (OpL.append rfl rfl rfl rfl u_95 sz_5 by_5 z_5 (by kernel_rfl) (by kernel_rfl) rfl rfl (new := byteCells x) (n := x.length) (by show (bif Nat.beq 1 1 then some (byteCells x, len' x) else none) = _; rw [len'_eq]; rfl) happ) rfl rfl rfl ?_
  have hvt : v'.isTuple = false ∧ v'.cells.length = 1 ∧ over v'.cells (0 + 1) [.ptr b0 0, v] = some [.ptr b0 0, v'] := by
    rcases hb2 with ⟨rfl, _⟩ | ⟨_, rfl, _⟩ | ⟨_, rfl, _⟩ <;> exact ⟨rfl, rfl, rfl⟩
  refine RegL.q (OpQ.nilCheck rfl rfl rfl) rfl rfl rfl ?_
  refine RegL.q (OpQ.fieldAddr rfl f_97_1 rfl) rfl rfl rfl ?_
  refine RegL.opN (OpL.store rfl sz_95 rfl rfl (storeN_at hg2 hvt.2.1 hvt.1 hvt.2.2)) rfl rfl ?_
  refine RegL.done ?_
  refine EvtL.seqReg ?_
  refine RegL.q (OpQ.move rfl rfl) rfl rfl rfl ?_
  refine RegL.q (OpQ.lenStr rfl rfl rfl rfl u_9 rfl) rfl rfl rfl ?_
  refine RegL.q (OpQ.assign rfl rfl) rfl rfl rfl ?_
  refine RegL.q (OpQ.assign rfl rfl) rfl rfl rfl ?_
  refine RegL.done ?_
  refine EvtL.ret ?_
  have h12 : Chg s1 s2 (fun c => ownB c v = true) := ⟨hnx2, hbd2, hlg2, fun c hc ho => hhp2 c hc (by simpa using ho)⟩
  have h3 := (hc1.trans h12 (own := fun c => c = b0 ∨ ownB c v = true) (fun _ h => .inl h) (fun _ h => .inl (.inr h)) (Nat.le_refl _)).trans (Chg.put (s := s2) (b := b0) (o := some (.cells [.ptr b0 0, v'] 97 false))) (own := fun c => c = b0 ∨ ownB c v = true) (fun _ h => h) (fun _ h => .inl (.inl h)) (Nat.le_refl _)
  have hob : ∀ c, ownB c v' = true → c ≠ b0 := fun c hc h => by
    rcases how2 c hc with h1 | h1
    · rw [h, hov] at h1; cases h1
    · have : s1.next = s.next := hn1
      omega
  refine ⟨.inl rfl, _, rfl, _, res_tmp rfl (res_tmp rfl rfl), _, leave_val rfl (put_log_ne (by rw [hbd2, hc1.bound]; exact hn)), hR _ v' h3.back ?_ ?_ ?_ fun h => back_ne (mem_put_self (by rw [hbd2, hc1.bound]; exact hn)) h⟩
  · show (s2.put b0 _).heap.get b0 = _
    rw [get_putS, if_pos rfl]
  · exact hb2.keep (Nat.le_refl _) fun c hc => by
      show (s2.put b0 _).heap.get c = _
      rw [get_putS, if_neg (hob c hc)]
  · intro c hc
    refine (how2 c hc).imp id fun h => ?_
    have : s1.next = s.next := hn1
    omega
/-- The text of a builder. -/
theorem text_run (hK : K 32 = fun _ => none) {s : St} {b0 : Nat} {a v : AV} {w : List UInt8} (hg : s.heap.get b0 = some (.cells [a, v] 97 false))
    (hn : b0 < s.next) (hv : BufR s 5 v w) (hsm : w.length ≤ 1099511627776) {R : AV → St → Prop} (hR : ∀ s', Chg s s' (fun c => ownB c v = true) → R (.str w) s') :
    RunsV (EK K) 32 [.ptr b0 0] s R := by
  refine RunsV.gen (fn := Tryz.f32) (by show K 32 _ = none; rw [hK]) (by kernel_rfl) rfl rfl rfl rfl ?_
  have hg' : s.enter.heap.get b0 = some (.cells [a, v] 97 false) := hg
  refine EvtL.seqReg ?_
  refine RegL.q (OpQ.assign rfl rfl) rfl rfl rfl ?_
  refine RegL.done ?_
  refine EvtL.seqDrawN (by kernel_rfl) ?_
  refine RegN.qG (OpQ.move rfl rfl) (.inl rfl) rfl rfl ?_
  refine RegN.qG (OpQ.nilCheck rfl rfl rfl) (.inl rfl) rfl rfl ?_
  refine RegN.qG (OpQ.fieldAddr rfl f_97_1 rfl) (.inl rfl) rfl rfl ?_
  refine RegN.load rfl rfl (loadOne_at ag_95 sz_95 (by assumption) rfl) rfl (.inl rfl) rfl rfl ?_
  obtain ⟨d, s2, hd, hraw, hnx, hbd, hlg, hhp, hlen⟩ := (show BufR (s.enter.sub s.enter.heap) 5 v w from hv.keep (Nat.le_refl _) fun _ _ => rfl).text (E := EK K) ib_5
  refine RegN.qG (OpQ.makeV (f := fun T => (opnd (EK K) (.tmp 6) T).bind dataM) (v := d) (by kernel_rfl) fun T hT => by
    rw [opndL_ok (x := .tmp 6) (v := v) hT rfl]
    show dataM v = _
    unfold dataM
    rw [hd]) (.inl rfl) rfl rfl ?_
  refine RegN.qG (OpQ.move rfl rfl) (.inl rfl) rfl rfl ?_
  refine RegN.qG (OpQ.nilCheck rfl rfl rfl) (.inl rfl) rfl rfl ?_
  refine RegN.qG (OpQ.fieldAddr rfl f_97_1 rfl) (.inl rfl) rfl rfl ?_
  refine RegN.load rfl rfl (loadOne_at ag_95 sz_95 (by assumption) rfl) rfl (.inl rfl) rfl rfl ?_
  refine RegN.qG (OpQ.lenV rfl rfl rfl rfl u_95 rfl (by assumption)) (.inl rfl) rfl rfl ?_
  have hble : Nat.ble w.length 1099511627776 = true := Nat.ble_eq_true_of_le hsm
  have hch : Chg (s.enter.sub s.enter.heap) s2 (fun c => ownB c v = true) := ⟨Nat.le_of_eq hnx.symm, hbd, hlg, fun c _ ho => hhp c (by simpa using ho)⟩
  refine RegN.act (x := opnd (EK K) (.tmp 7)) (f := fun T s => (opnd (EK K) (.tmp 7) T).bind fun a => (opnd (EK K) (.tmp 12) T).bind fun b => (natOf b).bind fun n => bif Nat.ble n 1099511627776 then rawStrV s (EK K) 5 n a else none) (v := .str w) (s2 := s2) (by kernel_rfl)
    (fun T hT => OpTo.act (b := false) (x := opnd (EK K) (.tmp 7)) (f := fun T s => (opnd (EK K) (.tmp 7) T).bind fun a => (opnd (EK K) (.tmp 12) T).bind fun b => (natOf b).bind fun n => bif Nat.ble n 1099511627776 then rawStrV s (EK K) 5 n a else none) (by kernel_rfl) (by
      rw [opndL_ok (x := .tmp 7) (v := d) hT rfl, opndL_ok (x := .tmp 12) (v := .int .i64 (w.length : Nat)) hT rfl]
      have hnat : natOf (.int .i64 (w.length : Nat)) = some w.length := rfl
      simp only [Option.bind_some, hnat, hble, cond_true, hraw]))
    (Nat.le_of_eq hnx.symm) (fun c hc => ⟨by
      rcases hlg c hc with h | ⟨h, _⟩
      · cases h
      · exact h, rfl⟩) (by kernel_rfl) rfl (.inl rfl) rfl rfl ?_
  refine RegN.qG (OpQ.assign rfl rfl) (.inl rfl) rfl rfl ?_
  refine RegN.done ?_
  refine EvtL.ret ?_
  exact ⟨.inl rfl, _, rfl, _, rfl, leave_any rfl (fun _ _ => rfl) (fun _ => rfl) (fun _ => hR s Chg.refl) fun _ => hR _ (Chg.back (Chg.merged hch))⟩
/-- Room for a text. -/
theorem growIn_run (hK : K 51 = fun _ => none) {s : St} {b0 : Nat} {a : AV} {n : Nat} (hg : s.heap.get b0 = some (.cells [a, .nilslice] 97 false)) (hn : b0 < s.next) (h0 : 0 < n) (hsm : n ≤ 1099511627776) {R : AV → St → Prop}
    (hR : ∀ s' v, Chg s s' (fun c => c = b0) → s'.heap.get b0 = some (.cells [a, v] 97 false) → BufR s' 5 v [] → (∀ c, ownB c v = true → s.next ≤ c) → (b0 < s.bound → s'.log ≠ []) → R (.tuple []) s') :
    RunsV (EK K) 51 [.ptr b0 0, .int .i64 (n : Nat)] s R := by
  refine RunsV.gen (fn := Tryz.f51) (by show K 51 _ = none; rw [hK]) (by kernel_rfl) rfl rfl rfl rfl ?_
  have hg' : s.enter.heap.get b0 = some (.cells [a, .nilslice] 97 false) := hg
  refine EvtL.seqDrawN (by kernel_rfl) ?_
  refine RegN.qG (OpQ.move rfl rfl) (.inl rfl) rfl rfl ?_
  refine RegN.qG (OpQ.nilCheck rfl rfl rfl) (.inl rfl) rfl rfl ?_
  refine RegN.qG (OpQ.fieldAddr rfl f_97_1 rfl) (.inl rfl) rfl rfl ?_
  refine RegN.load rfl rfl (loadOne_at ag_95 sz_95 (by assumption) rfl) rfl (.inl rfl) rfl rfl ?_
  refine RegN.qG (OpQ.cap rfl rfl rfl rfl u_95 rfl rfl) (.inl rfl) rfl rfl ?_
  refine RegN.qG (OpQ.mulN (a := 2) (b := 0) rfl u_3 rfl rfl (by first | assumption | omega | (simp only [List.length_append, List.length_cons, List.length_nil, List.length_take, List.length_drop]; omega))) (.inl rfl) rfl rfl ?_
  refine RegN.qG (OpQ.move rfl rfl) (.inl rfl) rfl rfl ?_
  refine RegN.qG (OpQ.addN (a := 0) rfl u_3 rfl rfl (by first | assumption | omega | (simp only [List.length_append, List.length_cons, List.length_nil, List.length_take, List.length_drop]; omega))) (.inl rfl) rfl rfl ?_
  rw [show 0 + n = n from Nat.zero_add n]
  have hblt : Nat.blt 0 n = true := Nat.ble_eq_true_of_le h0
  have hble : Nat.ble n 1099511627776 = true := Nat.ble_eq_true_of_le hsm
  refine RegN.make (f := fun T => (opnd (EK K) (.tmp 12) T).bind (noZeroV 5)) (ob := .cells [] 5 true) (g := fun i => .slice i 0 n 1 none) (by kernel_rfl) (fun T hT => by
    rw [opndL_ok (x := .tmp 12) (v := .int .i64 (n : Nat)) hT rfl]
    show (bif Nat.blt 0 n && Nat.ble n 1099511627776 then _ else _) = _
    rw [hblt, hble]; rfl) (.inl rfl) rfl rfl ?_
  have hne : b0 ≠ s.enter.next := Nat.ne_of_lt hn
  have hg2 : (s.enter.alloc (.cells [] 5 true)).heap.get b0 = some (.cells [a, .nilslice] 97 false) := by
    show (s.heap.set s.next _).get b0 = _
    rw [get_set, if_neg (show b0 ≠ s.next from hne)]; exact hg
  have hg3 : (s.enter.alloc (.cells [] 5 true)).heap.get s.enter.next = some (.cells [] 5 true) := by
    show (s.heap.set s.next _).get s.next = _
    rw [get_set, if_pos rfl]
  refine RegN.qG (OpQ.move rfl rfl) (.inl rfl) rfl rfl ?_
  refine RegN.qG (OpQ.nilCheck rfl rfl rfl) (.inl rfl) rfl rfl ?_
  refine RegN.qG (OpQ.fieldAddr rfl f_97_1 rfl) (.inl rfl) rfl rfl ?_
  refine RegN.load rfl rfl (loadOne_at ag_95 sz_95 hg2 rfl) (clear_ne hne rfl) (.inl rfl) rfl rfl ?_
  refine RegN.qG (OpQ.lenNil rfl rfl rfl rfl u_95 rfl) (.inl rfl) rfl rfl ?_
  refine RegN.rd (x := opnd (EK K) (.tmp 13)) (f := fun T s => (opnd (EK K) (.tmp 13) T).bind fun a => (opndOC (EK K) none T).bind fun l => (opndOC (EK K) (some (.tmp 18)) T).bind fun h => (opndOC (EK K) none T).bind fun m => sliceSlV s 1 l h m a) (b := s.enter.next) (v := .slice s.enter.next 0 0 1 (some 0)) (by kernel_rfl)
    (fun T hT => opndL_ok (x := .tmp 13) (v := .slice s.enter.next 0 n 1 none) hT rfl) rfl (fun T hT => by
      rw [opndL_ok (x := .tmp 13) (v := .slice s.enter.next 0 n 1 none) hT rfl]
      have h18 : opndOC (EK K) (some (.tmp 18)) T = some (some (.int .i64 ((0 : Nat) : Int))) := opndO_some (opndL_ok (x := .tmp 18) hT rfl)
      have hno : opndOC (EK K) none T = some none := rfl
      simp only [Option.bind_some, hno, h18]
      have hcs : cellsOf? (((s.enter.alloc (.cells [] 5 true)).sub (Tr.set .nil s.enter.next ((s.enter.alloc (.cells [] 5 true)).heap.get s.enter.next))).heap.get s.enter.next) = some [] := by
        show cellsOf? ((Tr.set .nil s.enter.next ((s.enter.alloc (.cells [] 5 true)).heap.get s.enter.next)).get s.enter.next) = _
        rw [get_set, if_pos rfl, hg3]; rfl
      unfold sliceSlV
      simp only [Nat.beq_refl, cond_true, hcs, Option.bind_some]
      rfl) (clear_anc (by kernel_rfl) rfl) (.inl rfl) rfl rfl ?_
  refine RegN.qG (OpQ.assign rfl rfl) (.inl rfl) rfl rfl ?_
  refine RegN.done ?_
  refine EvtL.seqReg ?_
  refine RegL.q (OpQ.move rfl rfl) rfl rfl rfl ?_
  refine RegL.q (OpQ.move rfl rfl) rfl rfl rfl ?_
  refine RegL.q (OpQ.nilCheck rfl rfl rfl) rfl rfl rfl ?_
  refine RegL.q (OpQ.fieldAddr rfl f_97_1 rfl) rfl rfl rfl ?_
  refine RegL.op (OpL.load rfl rfl (loadOne_at ag_95 sz_95 (by assumption) rfl)) rfl rfl rfl ?_
  generalize hs1 : s.enter.alloc (.cells [] 5 true) = s1 at hg2 hg3 ⊢
  have hb1 : s1.next = s.next + 1 := by rw [← hs1]; rfl
  have hcp : copyV s1 1 ([], 0) (.slice s.enter.next 0 0 1 (some 0)) = some (.int .i64 ((0 : Nat) : Int), s1.put s.enter.next (some (.cells [] 5 true))) := by
    show (writeIn s1 s.enter.next 0 [] (s1.heap.get s.enter.next)).bind _ = _
    rw [hg3]; rfl
  refine RegL.op (OpL.copy rfl rfl rfl rfl u_95 sz_5 rfl rfl rfl hcp) rfl rfl rfl ?_
  have hg4 : (s1.put s.enter.next (some (.cells [] 5 true))).heap.get b0 = some (.cells [a, .nilslice] 97 false) := by rw [get_putS, if_neg hne]; exact hg2
  refine RegL.done ?_
  refine EvtL.reg ?_
  refine RegL.q (OpQ.move rfl rfl) rfl rfl rfl ?_
  refine RegL.q (OpQ.move rfl rfl) rfl rfl rfl ?_
  refine RegL.q (OpQ.nilCheck rfl rfl rfl) rfl rfl rfl ?_
  refine RegL.q (OpQ.fieldAddr rfl f_97_1 rfl) rfl rfl rfl ?_
  refine RegL.opN (OpL.store rfl sz_95 rfl rfl (storeN_at (by assumption) rfl rfl rfl)) rfl rfl ?_
  refine RegL.done ?_
  have hput : (s1.put s.enter.next (some (.cells [] 5 true))).bound = s.next := by rw [← hs1]; rfl
  have hch : Chg s.enter ((s1.put s.enter.next (some (.cells [] 5 true))).put b0 (some (.cells [a, .slice s.enter.next 0 0 1 (some 0)] 97 false))) (fun c => c = b0) := by
    refine ⟨by show s.next ≤ s1.next; omega, hput, fun c hc => ?_, fun c hc ho => ?_⟩
    · rcases mem_put hc with h | ⟨h, h2⟩
      · rcases mem_put h with h | ⟨h, h2⟩
        · rw [← hs1] at h; exact .inl h
        · rw [← hs1] at h2
          have : c < s.next := h2
          have h' : c = s.next := h
          omega
      · exact .inr ⟨by rw [hput] at h2; exact h2, h⟩
    · have hc' : c ≠ s.enter.next := Nat.ne_of_lt hc
      rw [get_putS, if_neg ho, get_putS, if_neg hc', ← hs1]
      show (s.heap.set s.next _).get c = _
      rw [get_set, if_neg (show c ≠ s.next from hc')]; rfl
  refine ⟨.inr rfl, _, rfl, [], rfl, leave_any rfl (fun _ _ => rfl) (fun _ => rfl) (fun h => absurd h (put_log_ne (by rw [hput]; exact hn))) fun _ => hR _ (.slice s.enter.next 0 0 1 (some 0)) hch.back ?_ ?_ ?_ fun h => back_ne (mem_put_self (by rw [hput]; exact hn)) h⟩
  · show (St.put _ b0 _).heap.get b0 = _
    rw [get_putS, if_pos rfl]
  · refine .inr (.inl ⟨s.enter.next, rfl, rfl, by show s.next < s1.next; omega, ?_⟩)
    show (St.put (St.put s1 _ _) b0 _).heap.get s.enter.next = _
    rw [get_putS, if_neg hne.symm, get_putS, if_pos rfl]
  · intro c hc
    have : s.next = c := Nat.eq_of_beq_eq_true hc
    omega
theorem grow_run (hK : K 30 = fun _ => none) (hK1 : K 50 = fun _ => none) (hK2 : K 51 = fun _ => none) {s : St} {b0 : Nat} {a : AV} {n : Nat} (hg : s.heap.get b0 = some (.cells [a, .nilslice] 97 false))
    (ha : a = .nilptr ∨ a = .ptr b0 0) (hn : b0 < s.next) (hsm : n ≤ 1099511627776) {R : AV → St → Prop}
    (hR : ∀ s' v, Chg s s' (fun c => c = b0) → s'.heap.get b0 = some (.cells [.ptr b0 0, v] 97 false) → BufR s' 5 v [] → (∀ c, ownB c v = true → s.next ≤ c) → R (.tuple []) s') :
    RunsV (EK K) 30 [.ptr b0 0, .int .i64 (n : Nat)] s R := by
  refine RunsV.gen (fn := Tryz.f30) (by show K 30 _ = none; rw [hK]) (by kernel_rfl) rfl rfl rfl rfl ?_
  refine EvtL.seqReg ?_
  refine RegL.q (OpQ.move rfl rfl) rfl rfl rfl ?_
  refine RegL.callFn rfl rfl (by kernel_rfl) rfl rfl rfl rfl (copyCheck_run hK1 (s := s.enter) hg ha hn ?_)
  intro s1 hc1 hn1 hg1 hl1
  refine RegL.done ?_
  refine EvtL.seq ?_
  refine EvtL.seqReg ?_
  refine RegL.q (OpQ.move rfl rfl) rfl rfl rfl ?_
  refine RegL.q (OpQ.int2 rfl u_3 rfl rfl rfl rfl) rfl rfl rfl ?_
  refine RegL.done ?_
  refine EvtL.condF rfl rfl ?_
  refine EvtL.skip ?_
  refine EvtL.seqDrawN (by kernel_rfl) ?_
  refine RegN.qG (OpQ.move rfl rfl) (.inl rfl) rfl rfl ?_
  refine RegN.qG (OpQ.nilCheck rfl rfl rfl) (.inl rfl) rfl rfl ?_
  refine RegN.qG (OpQ.fieldAddr rfl f_97_1 rfl) (.inl rfl) rfl rfl ?_
  refine RegN.load rfl rfl (loadOne_at ag_95 sz_95 (by assumption) rfl) rfl (.inl rfl) rfl rfl ?_
  refine RegN.qG (OpQ.cap rfl rfl rfl rfl u_95 rfl rfl) (.inl rfl) rfl rfl ?_
  focus
    refine RegN.qG (OpQ.move rfl rfl) (.inl rfl) rfl rfl ?_
    refine RegN.qG (OpQ.nilCheck rfl rfl rfl) (.inl rfl) rfl rfl ?_
    refine RegN.qG (OpQ.fieldAddr rfl f_97_1 rfl) (.inl rfl) rfl rfl ?_
    refine RegN.load rfl rfl (loadOne_at ag_95 sz_95 (by assumption) rfl) rfl (.inl rfl) rfl rfl ?_
    refine RegN.qG (OpQ.lenNil rfl rfl rfl rfl u_95 rfl) (.inl rfl) rfl rfl ?_
    refine RegN.qG (OpQ.subN (a := 0) (b := 0) rfl u_3 rfl rfl (by omega)) (.inl rfl) rfl rfl ?_
    refine RegN.qG (OpQ.move rfl rfl) (.inl rfl) rfl rfl ?_
    refine RegN.qG (OpQ.int2 rfl u_3 rfl rfl rfl rfl) (.inl rfl) rfl rfl ?_
    refine RegN.done ?_
    refine EvtL.cond rfl (fun g1 => ?_) (fun g1 => ?_)
    have h1 := of_decide_eq_true g1
    refine EvtL.reg ?_
    refine RegL.q (OpQ.move rfl rfl) rfl rfl rfl ?_
    refine RegL.q (OpQ.move rfl rfl) rfl rfl rfl ?_
    rotate_left
    have h1 := of_decide_eq_false g1
    refine EvtL.skip ?_
    rotate_left
  · have h0 : 0 < n := by simpa using h1
    refine RegL.callFn rfl rfl (by kernel_rfl) rfl rfl rfl rfl (growIn_run hK2 hg1 (by rw [hn1]; exact hn) h0 hsm ?_)
    intro s2 v hc2 hg2 hb2 how2 hl2
    refine RegL.done ?_
    have hc := hc1.trans hc2 (own := fun c => c = b0) (fun _ h => h) (fun _ h => .inl h) (Nat.le_refl _)
    have how : ∀ c, ownB c v = true → s.next ≤ c := fun c h => by have := how2 c h; rw [hn1] at this; exact this
    refine ⟨.inr rfl, _, rfl, [], rfl, leave_any rfl (fun _ _ => rfl) (fun _ => rfl) (fun h => ?_) fun _ => hR _ v hc.back hg2 (hb2.keep (Nat.le_refl _) fun _ _ => rfl) how⟩
    exact absurd h (hl2 (by rw [hc1.bound]; exact hn))
  · have h0 : n = 0 := by simpa using h1
    refine ⟨.inr rfl, _, rfl, [], rfl, leave_any rfl (fun _ _ => rfl) (fun _ => rfl) (fun h => ?_) fun _ => hR _ .nilslice hc1.back hg1 (.inl ⟨rfl, rfl⟩) fun c hc => by cases hc⟩
    rcases hl1 hn with h' | h'
    · exact absurd h h'
    · rw [h'] at hg
      exact hR s .nilslice Chg.refl hg (.inl ⟨rfl, rfl⟩) fun c hc => by cases hc
end
end Go.Proofs.YtmcjglkpjfnfcaaGreat

/- strings.Join. -/
open Go Am
namespace Go.Proofs.YtmcjglkpjfnfcaaGreat
/-- How long texts are together. -/
def sumL (l : List (List UInt8)) : Nat := (l.map List.length).sum
theorem sumL_take_succ {l : List (List UInt8)} {i : Nat} (h : i < l.length) : sumL (l.take (i + 1)) = sumL (l.take i) + l[i].length := by
  unfold sumL
  rw [List.take_succ_eq_append_getElem h, List.map_append, List.sum_append]
  simp
theorem sumL_take_le {l : List (List UInt8)} (i : Nat) : sumL (l.take i) ≤ sumL l := by
  have : sumL l = sumL (l.take i) + sumL (l.drop i) := by
    unfold sumL
    rw [← List.sum_append, ← List.map_append, List.take_append_drop]
  omega
theorem flat_len (sep : List UInt8) : ∀ l : List (List UInt8), (l.flatMap (sep ++ ·)).length = sumL l + l.length * sep.length
  | [] => by simp [sumL]
  | a :: l => by
    have ih := flat_len sep l
    rw [List.flatMap_cons, List.length_append, List.length_append, ih, List.length_cons, Nat.succ_mul]
    rw [show sumL (a :: l) = a.length + sumL l by simp [sumL]]
    omega
theorem flat_take_succ {sep : List UInt8} {l : List (List UInt8)} {i : Nat} (h : i < l.length) : (l.take (i + 1)).flatMap (sep ++ ·) = (l.take i).flatMap (sep ++ ·) ++ sep ++ l[i] := by
  rw [List.take_succ_eq_append_getElem h, List.flatMap_append]
  simp
section
variable {K : FuncId → List AV → Option AV}
theorem join_run (hK : K 23 = fun _ => none) (hK1 : K 30 = fun _ => none) (hK2 : K 50 = fun _ => none) (hK3 : K 51 = fun _ => none) (hK4 : K 31 = fun _ => none)
    (hK5 : K 32 = fun _ => none) {s : St} {v : AV} {l : List (List UInt8)} {sep : List UInt8} (hv : StrsR s v l) (hsum : sumL l + (sep.length + 1) * (l.length + 1) ≤ 1099511627776) {R : AV → St → Prop} (hR : R (.str (joinS sep l)) s) :
    RunsV (EK K) 23 [v, .str sep] s R := by
  refine RunsV.gen (fn := Tryz.f23) (by show K 23 _ = none; rw [hK]) (by kernel_rfl) rfl rfl rfl rfl ?_
  have hve : StrsR s.enter v l := hv.keep (Nat.le_refl _) fun _ _ => rfl
  have hlen := hve.len
  focus
    refine EvtL.seqReg ?_
    refine RegL.q (OpQ.assign rfl rfl) rfl rfl rfl ?_
    refine RegL.done ?_
    refine EvtL.seq ?_
    refine EvtL.seqReg ?_
    refine RegL.q (OpQ.move rfl rfl) rfl rfl rfl ?_
    refine RegL.q (OpQ.lenV rfl rfl rfl rfl u_32 rfl (by assumption)) rfl rfl rfl ?_
    refine RegL.done ?_
    refine EvtL.block ?_
    refine EvtL.seqReg ?_
    refine RegL.q (OpQ.int2 rfl u_3 rfl rfl rfl rfl) rfl rfl rfl ?_
    refine RegL.q (OpQ.assign rfl rfl) rfl rfl rfl ?_
    refine RegL.done ?_
    refine EvtL.cond rfl (fun g1 => ?_) (fun g1 => ?_)
    have h1 := of_decide_eq_true g1
    refine EvtL.seqReg ?_
    refine RegL.q (OpQ.assign rfl rfl) rfl rfl rfl ?_
    refine RegL.done ?_
    rotate_left
    have h1 := of_decide_eq_false g1
    refine EvtL.seqReg ?_
    refine RegL.q (OpQ.int2 rfl u_3 rfl rfl rfl rfl) rfl rfl rfl ?_
    refine RegL.q (OpQ.assign rfl rfl) rfl rfl rfl ?_
    refine RegL.done ?_
    refine EvtL.cond rfl (fun g2 => ?_) (fun g2 => ?_)
    have h2 := of_decide_eq_true g2
    refine EvtL.seqReg ?_
    refine RegL.q (OpQ.move rfl rfl) rfl rfl rfl ?_
    rotate_left
    have h2 := of_decide_eq_false g2
    refine EvtL.skip ?_
    refine EvtL.seqReg ?_
    refine RegL.q (OpQ.assign rfl rfl) rfl rfl rfl ?_
    refine RegL.done ?_
    rotate_left
  · -- no text
    have hl : l = [] := by cases l with | nil => rfl | cons _ _ => simp at h1; omega
    subst hl
    refine EvtL.ret ?_
    exact ⟨.inl rfl, _, rfl, _, res_tmp rfl rfl, leave_any rfl (fun _ _ => rfl) (fun _ => rfl) (fun _ => hR) fun h => absurd rfl h⟩
  · -- one text
    obtain ⟨a, rfl⟩ : ∃ a, l = [a] := by
      match l, h2 with
      | [a], _ => exact ⟨a, rfl⟩
    obtain ⟨p, hp, hpl⟩ := hve.at (E := EK K) (i := 0) (by simp) ag_9 sz_9
    refine RegL.q (OpQ.indexAddrV (k := 0) rfl u_32 sz_9 rfl rfl (by assumption)) rfl rfl rfl ?_
    refine RegL.op (OpL.load rfl rfl (by assumption)) rfl rfl rfl ?_
    refine RegL.q (OpQ.assign rfl rfl) rfl rfl rfl ?_
    refine RegL.done ?_
    refine EvtL.ret ?_
    refine ⟨.inl rfl, _, rfl, _, res_tmp rfl rfl, leave_any rfl (fun _ _ => rfl) (fun _ => rfl) (fun _ => ?_) fun h => absurd rfl h⟩
    have : joinS sep [a] = a := List.append_nil a
    rw [this] at hR; exact hR
  · -- more
    have hm : 2 ≤ l.length := by omega
    have hprod : sep.length * (l.length - 1) + l.length ≤ (sep.length + 1) * (l.length + 1) := by
      have h1 : sep.length * (l.length - 1) ≤ sep.length * (l.length + 1) := Nat.mul_le_mul_left _ (by omega)
      rw [Nat.add_mul, Nat.one_mul]; omega
    have hsl : sumL l + sep.length * (l.length - 1) + l.length ≤ 1099511627776 := by omega
    have hsep : sep.length ≤ sep.length * (l.length - 1) := Nat.le_mul_of_pos_right _ (by omega)
    have hq : sep.length < 9223372036854775807 / (l.length - 1) := by
      refine Nat.lt_of_succ_le ((Nat.le_div_iff_mul_le (by omega)).2 ?_)
      rw [Nat.succ_mul]; omega
    refine EvtL.cut [(5, .int .i64 ((sep.length * (l.length - 1) : Nat) : Int)), (0, v), (1, .str sep)] s.enter ?_ ?_
    · focus
        refine EvtL.seqReg ?_
        refine RegL.q (OpQ.move rfl rfl) rfl rfl rfl ?_
        refine RegL.q (OpQ.lenStr rfl rfl rfl rfl u_9 rfl) rfl rfl rfl ?_
        refine RegL.q (OpQ.int2 rfl u_3 rfl rfl rfl rfl) rfl rfl rfl ?_
        refine RegL.done ?_
        refine EvtL.cond rfl (fun g3 => ?_) (fun g3 => ?_)
        have h3 := of_decide_eq_true g3
        refine EvtL.seq ?_
        refine EvtL.seqReg ?_
        refine RegL.q (OpQ.move rfl rfl) rfl rfl rfl ?_
        refine RegL.q (OpQ.lenStr rfl rfl rfl rfl u_9 rfl) rfl rfl rfl ?_
        refine RegL.q (OpQ.move rfl rfl) rfl rfl rfl ?_
        refine RegL.q (OpQ.lenV rfl rfl rfl rfl u_32 rfl (by assumption)) rfl rfl rfl ?_
        refine RegL.q (OpQ.subN (b := 1) rfl u_3 rfl rfl (by omega)) rfl rfl rfl ?_
        refine RegL.q (OpQ.quoN (a := 9223372036854775807) rfl u_3 rfl rfl (by omega)) rfl rfl rfl ?_
        refine RegL.q (OpQ.int2 rfl u_3 rfl rfl rfl rfl) rfl rfl rfl ?_
        refine RegL.done ?_
        refine EvtL.cond rfl (fun g4 => ?_) (fun g4 => ?_)
        have h4 := of_decide_eq_true g4
        exact absurd h4 (by omega)
        have h4 := of_decide_eq_false g4
        refine EvtL.skip ?_
        refine EvtL.reg ?_
        refine RegL.q (OpQ.move rfl rfl) rfl rfl rfl ?_
        refine RegL.q (OpQ.move rfl rfl) rfl rfl rfl ?_
        refine RegL.q (OpQ.lenStr rfl rfl rfl rfl u_9 rfl) rfl rfl rfl ?_
        refine RegL.q (OpQ.move rfl rfl) rfl rfl rfl ?_
        refine RegL.q (OpQ.lenV rfl rfl rfl rfl u_32 rfl (by assumption)) rfl rfl rfl ?_
        refine RegL.q (OpQ.subN (b := 1) rfl u_3 rfl rfl (by omega)) rfl rfl rfl ?_
        refine RegL.q (OpQ.mulN rfl u_3 rfl rfl (by first | assumption | omega | (simp only [List.length_append, List.length_cons, List.length_nil, List.length_take, List.length_drop]; omega))) rfl rfl rfl ?_
        refine RegL.q (OpQ.addN (a := 0) rfl u_3 rfl rfl (by first | assumption | omega | (simp only [List.length_append, List.length_cons, List.length_nil, List.length_take, List.length_drop]; omega))) rfl rfl rfl ?_
        refine RegL.q (OpQ.assign rfl rfl) rfl rfl rfl ?_
        refine RegL.done ?_
        rotate_left
        have h3 := of_decide_eq_false g3
        refine EvtL.skip ?_
        rotate_left
      · refine ⟨rfl, rfl, rfl, ?_⟩
        rw [show 0 + sep.length * (l.length - 1) = sep.length * (l.length - 1) from Nat.zero_add _]
        (refine Am.sub_of ?_; repeat (first | exact trivial | refine ⟨rfl, ?_⟩))
      · have h0 : sep.length = 0 := by omega
        refine ⟨rfl, rfl, rfl, ?_⟩
        rw [h0, Nat.zero_mul]
        (refine Am.sub_of ?_; repeat (first | exact trivial | refine ⟨rfl, ?_⟩))
    · refine EvtL.seq ?_
      refine EvtL.seqReg ?_
      refine RegL.q (OpQ.move rfl rfl) rfl rfl rfl ?_
      refine RegL.q (OpQ.lenV rfl rfl rfl rfl u_32 rfl (by assumption)) rfl rfl rfl ?_
      refine RegL.q (OpQ.move rfl rfl) rfl rfl rfl ?_
      refine RegL.done ?_
      refine EvtL.block ?_
      generalize hn0 : sep.length * (l.length - 1) = n0 at *
      refine EvtL.loopI (fun i : Nat => ([(41, .int .i64 (i : Nat)), (40, .int .i64 (l.length : Nat)), (39, v), (5, .int .i64 ((n0 + sumL (l.take i) : Nat) : Int)), (0, v), (1, .str sep)], s.enter)) (fun i => l.length - i) (fun i => i ≤ l.length) 0 (Nat.zero_le _) rfl (by rw [show sumL (l.take 0) = 0 from rfl, Nat.add_zero]; (refine Am.sub_of ?_; repeat (first | exact trivial | refine ⟨rfl, ?_⟩))) fun i hi => ?_
      have h6 := sumL_take_le (l := l) i
      focus
        refine EvtL.seqReg ?_
        refine RegL.q (OpQ.int2 rfl u_3 rfl rfl rfl rfl) rfl rfl rfl ?_
        refine RegL.done ?_
        refine EvtL.seq ?_
        refine EvtL.cond rfl (fun g3 => ?_) (fun g3 => ?_)
        have h3 := of_decide_eq_true g3
        refine EvtL.skip ?_
        refine EvtL.seq ?_
        refine EvtL.block ?_
        refine EvtL.seqReg ?_
        rotate_left
        have h3 := of_decide_eq_false g3
        refine EvtL.exit ?_
        refine cond_t rfl ?_
        refine EvtL.seqReg ?_
        refine RegL.op (OpL.alloc rfl z_97) rfl rfl rfl ?_
        refine RegL.done ?_
        refine EvtL.seqReg ?_
        refine RegL.q (OpQ.move rfl rfl) rfl rfl rfl ?_
        rotate_left
      · have hlt : i < l.length := by omega
        obtain ⟨p, hp, hpl⟩ := hve.at (E := EK K) hlt ag_9 sz_9
        have h5 := sumL_take_succ hlt
        have h7 := sumL_take_le (l := l) (i + 1)
        focus
          refine RegL.q (OpQ.indexAddrV rfl u_32 sz_9 rfl rfl (by assumption)) rfl rfl rfl ?_
          refine RegL.op (OpL.load rfl rfl (by assumption)) rfl rfl rfl ?_
          refine RegL.q (OpQ.assign rfl rfl) rfl rfl rfl ?_
          refine RegL.done ?_
          refine EvtL.seq ?_
          refine EvtL.seqReg ?_
          refine RegL.q (OpQ.move rfl rfl) rfl rfl rfl ?_
          refine RegL.q (OpQ.lenStr rfl rfl rfl rfl u_9 rfl) rfl rfl rfl ?_
          refine RegL.q (OpQ.move rfl rfl) rfl rfl rfl ?_
          refine RegL.q (OpQ.subN (a := 9223372036854775807) rfl u_3 rfl rfl (by omega)) rfl rfl rfl ?_
          refine RegL.q (OpQ.int2 rfl u_3 rfl rfl rfl rfl) rfl rfl rfl ?_
          refine RegL.done ?_
          refine EvtL.cond rfl (fun g4 => ?_) (fun g4 => ?_)
          have h4 := of_decide_eq_true g4
          exact absurd h4 (by omega)
          have h4 := of_decide_eq_false g4
          refine EvtL.skip ?_
          refine EvtL.reg ?_
          refine RegL.q (OpQ.move rfl rfl) rfl rfl rfl ?_
          refine RegL.q (OpQ.move rfl rfl) rfl rfl rfl ?_
          refine RegL.q (OpQ.lenStr rfl rfl rfl rfl u_9 rfl) rfl rfl rfl ?_
          refine RegL.q (OpQ.addN rfl u_3 rfl rfl (by first | assumption | omega | (simp only [List.length_append, List.length_cons, List.length_nil, List.length_take, List.length_drop]; omega))) rfl rfl rfl ?_
          refine RegL.q (OpQ.assign rfl rfl) rfl rfl rfl ?_
          refine RegL.done ?_
          refine EvtL.reg ?_
          refine RegL.q (OpQ.addN (b := 1) rfl u_3 rfl rfl (by first | assumption | omega | (simp only [List.length_append, List.length_cons, List.length_nil, List.length_take, List.length_drop]; omega))) rfl rfl rfl ?_
          refine RegL.q (OpQ.move rfl rfl) rfl rfl rfl ?_
          refine RegL.done ?_
          rotate_left
        refine ⟨i + 1, hlt, by omega, rfl, rfl, ?_⟩
        rw [h5, ← Nat.add_assoc]
        (refine Am.sub_of ?_; repeat (first | exact trivial | refine ⟨rfl, ?_⟩))
      · have hil : i = l.length := by omega
        rw [hil, List.take_length]
        match l, hm with
        | a :: b :: l', _ =>
        have hrl : (a :: b :: l').length = (b :: l').length + 1 := rfl
        have hsc : sumL (a :: b :: l') = a.length + sumL (b :: l') := by simp [sumL]
        have hn1 : n0 = (b :: l').length * sep.length := by rw [← hn0, Nat.mul_comm]; rfl
        -- the builder
        let s1 : St := s.enter.alloc (.cells [.nilptr, .nilslice] 97 false)
        have hb1 : s1.heap.get s.next = some (.cells [.nilptr, .nilslice] 97 false) := by
          show (s.heap.set s.next _).get s.next = _
          rw [get_set, if_pos rfl]
        have hlow1 : ∀ c, c < s.next → s1.heap.get c = s.heap.get c := fun c hc => by
          show (s.heap.set s.next _).get c = _
          rw [get_set, if_neg (by omega)]
        have hnx1 : s1.next = s.next + 1 := rfl
        refine RegL.callFn rfl rfl (by kernel_rfl) rfl rfl rfl rfl (grow_run hK1 hK2 hK3 (s := s1) hb1 (.inl rfl) (Nat.lt_succ_self _) (by omega) ?_)
        intro s2 bv2 hc2 hg2 hb2 how2
        have hv2 : StrsR s2 v (a :: b :: l') := hv.keep (by have := hc2.next; omega) fun c hc => by
          have := hv.own hc
          rw [hc2.heap c (by omega) (by omega), hlow1 c this]
        obtain ⟨p, hp, hpl⟩ := hv2.at (E := EK K) (i := 0) (by simp) ag_9 sz_9
        refine RegL.done ?_
        refine EvtL.seqReg ?_
        refine RegL.q (OpQ.move rfl rfl) rfl rfl rfl ?_
        refine RegL.q (OpQ.indexAddrV (k := 0) rfl u_32 sz_9 rfl rfl (by assumption)) rfl rfl rfl ?_
        refine RegL.op (OpL.load rfl rfl (by assumption)) rfl rfl rfl ?_
        have hov2 : ownB s.next bv2 = false := by
          cases h : ownB s.next bv2 with
          | false => rfl
          | true => have := how2 _ h; omega
        refine RegL.callFn rfl rfl (by kernel_rfl) rfl rfl rfl rfl (write_run hK4 hK2 hg2 (.inr rfl) (by have := hc2.next; omega) hb2 hov2 (by simp only [List.length_nil, List.getElem_cons_zero]; omega) ?_)
        intro s3 bv3 hc3 hg3 hb3 how3 _
        have hch3 : Chg s1 s3 (fun c => c = s.next ∨ s1.next ≤ c) := hc2.trans hc3 (fun _ h => .inl h) (fun c h => h.elim (fun h => .inl (.inl h)) fun h => .inl (.inr (how2 c h))) (by show s.next ≤ s.next + 1; omega)
        have hv3 : StrsR s3 v (a :: b :: l') := hv.keep (by have := hch3.next; omega) fun c hc => by
          have := hv.own hc
          rw [hch3.heap c (by omega) (by omega), hlow1 c this]
        obtain ⟨v', hsl', hvt', hovt'⟩ := hv3.tail
        have hlen' := hvt'.len
        refine RegL.done ?_
        refine EvtL.seq ?_
        refine EvtL.seqReg ?_
        refine RegL.q (OpQ.move rfl rfl) rfl rfl rfl ?_
        refine RegL.op (OpL.sliceM rfl u_32 sz_9 rfl rfl rfl (by assumption)) rfl rfl rfl ?_
        refine RegL.q (OpQ.lenV rfl rfl rfl rfl u_32 rfl (by assumption)) rfl rfl rfl ?_
        refine RegL.q (OpQ.move rfl rfl) rfl rfl rfl ?_
        refine RegL.done ?_
        refine EvtL.block ?_
        refine EvtL.loopI (fun x : Nat × AV × St => ([(65, .int .i64 (x.1 : Nat)), (64, .int .i64 ((b :: l').length : Nat)), (63, v'), (8, .ptr s.next 0), (1, .str sep)], x.2.2)) (fun x => (b :: l').length - x.1)
          (fun x => x.1 ≤ (b :: l').length ∧ s3.next ≤ x.2.2.next ∧ Chg s1 x.2.2 (fun c => c = s.next ∨ s1.next ≤ c) ∧ x.2.2.heap.get s.next = some (.cells [.ptr s.next 0, x.2.1] 97 false) ∧ BufR x.2.2 5 x.2.1 (a ++ ((b :: l').take x.1).flatMap (sep ++ ·)) ∧ (∀ c, ownB c x.2.1 = true → s1.next ≤ c))
          (0, bv3, s3) ⟨Nat.zero_le _, Nat.le_refl _, hch3, hg3, ?_, ?_⟩ rfl (by (refine Am.sub_of ?_; repeat (first | exact trivial | refine ⟨rfl, ?_⟩))) ?_
        · show BufR s3 5 bv3 (a ++ [])
          rw [List.append_nil]; exact hb3
        · intro c hc
          rcases how3 c hc with h | h
          · exact how2 c h
          · have := hc2.next; show s1.next ≤ c; omega
        rintro ⟨j, bv, st⟩ ⟨hj, hn3, hcj, hgj, hbj, howj⟩
        dsimp only at hj hn3 hcj hgj hbj howj ⊢
        have hnx := hcj.next
        have hvj : StrsR st v' (b :: l') := hvt'.keep hn3 fun c hc => by
          have := hv.own (hovt' c hc)
          rw [hcj.heap c (by omega) (by omega), hch3.heap c (by omega) (by omega)]
        have hwl : (a ++ ((b :: l').take j).flatMap (sep ++ ·)).length = a.length + (sumL ((b :: l').take j) + j * sep.length) := by
          rw [List.length_append, flat_len, List.length_take, Nat.min_eq_left hj]
        have hsj := sumL_take_le (l := b :: l') j
        have hjm : j * sep.length ≤ n0 := by rw [hn1]; exact Nat.mul_le_mul_right _ hj
        have hnj : s.next < st.next := by omega
        have hovj : ownB s.next bv = false := by
          cases h : ownB s.next bv with
          | false => rfl
          | true => have := howj _ h; omega
        generalize hw : a ++ ((b :: l').take j).flatMap (sep ++ ·) = w at *
        focus
          refine EvtL.seqReg ?_
          refine RegL.q (OpQ.int2 rfl u_3 rfl rfl rfl rfl) rfl rfl rfl ?_
          refine RegL.done ?_
          refine EvtL.seq ?_
          refine EvtL.cond rfl (fun g4 => ?_) (fun g4 => ?_)
          have h4 := of_decide_eq_true g4
          refine EvtL.skip ?_
          refine EvtL.seq ?_
          refine EvtL.block ?_
          refine EvtL.seqReg ?_
          rotate_left
          have h4 := of_decide_eq_false g4
          refine EvtL.exit ?_
          refine cond_t rfl ?_
          refine EvtL.seqReg ?_
          rotate_left
        · have hlt : j < (b :: l').length := by omega
          obtain ⟨p, hp, hpl⟩ := hvj.at (E := EK K) hlt ag_9 sz_9
          have hsj1 := sumL_take_le (l := b :: l') (j + 1)
          have hsj2 := sumL_take_succ hlt
          have hjm1 : j * sep.length + sep.length ≤ n0 := by rw [hn1, ← Nat.succ_mul]; exact Nat.mul_le_mul_right _ hlt
          refine RegL.q (OpQ.indexAddrV rfl u_32 sz_9 rfl rfl (by assumption)) rfl rfl rfl ?_
          refine RegL.op (OpL.load rfl rfl (by assumption)) rfl rfl rfl ?_
          refine RegL.q (OpQ.assign rfl rfl) rfl rfl rfl ?_
          refine RegL.done ?_
          refine EvtL.seqReg ?_
          refine RegL.q (OpQ.move rfl rfl) rfl rfl rfl ?_
          refine RegL.callFn rfl rfl (by kernel_rfl) rfl rfl rfl rfl (write_run hK4 hK2 hgj (.inr rfl) hnj hbj hovj (by omega) ?_)
          intro s4 bv4 hc4 hg4 hb4 how4 _
          have hn4 := hc4.next
          have how4' : ∀ c, ownB c bv4 = true → s1.next ≤ c := fun c hc => by
            rcases how4 c hc with h | h
            · exact howj c h
            · omega
          have hov4 : ownB s.next bv4 = false := by
            cases h : ownB s.next bv4 with
            | false => rfl
            | true => have := how4' _ h; omega
          refine RegL.done ?_
          refine EvtL.reg ?_
          refine RegL.q (OpQ.move rfl rfl) rfl rfl rfl ?_
          refine RegL.callFn rfl rfl (by kernel_rfl) rfl rfl rfl rfl (write_run hK4 hK2 hg4 (.inr rfl) (by omega) hb4 hov4 (by rw [List.length_append]; omega) ?_)
          intro s5 bv5 hc5 hg5 hb5 how5 _
          have hn5 := hc5.next
          refine RegL.done ?_
          refine EvtL.reg ?_
          refine RegL.q (OpQ.addN (b := 1) rfl u_3 rfl rfl (by first | assumption | omega | (simp only [List.length_append, List.length_cons, List.length_nil, List.length_take, List.length_drop]; omega))) rfl rfl rfl ?_
          refine RegL.q (OpQ.move rfl rfl) rfl rfl rfl ?_
          refine RegL.done ?_
          refine ⟨(j + 1, bv5, s5), ⟨hlt, by show s3.next ≤ s5.next; omega, ?_, hg5, ?_, ?_⟩, by show (b :: l').length - (j + 1) < _; omega, rfl, rfl, by (refine Am.sub_of ?_; repeat (first | exact trivial | refine ⟨rfl, ?_⟩))⟩
          · have e1 : Chg s1 s4 (fun c => c = s.next ∨ s1.next ≤ c) := hcj.trans hc4 (fun _ h => h) (fun c h => h.elim (fun h => .inl (.inl h)) fun h => .inl (.inr (howj c h))) (by show s.next ≤ s.next + 1; omega)
            exact e1.trans hc5 (fun _ h => h) (fun c h => h.elim (fun h => .inl (.inl h)) fun h => .inl (.inr (how4' c h))) (by show s.next ≤ s.next + 1; omega)
          · show BufR s5 5 bv5 (a ++ ((b :: l').take (j + 1)).flatMap (sep ++ ·))
            rw [flat_take_succ hlt, ← List.append_assoc, ← List.append_assoc, hw]
            exact hb5
          · intro c hc
            show s1.next ≤ c
            rcases how5 c hc with h | h
            · exact how4' c h
            · omega
        · have hje : j = (b :: l').length := by omega
          refine RegL.callFn rfl rfl (by kernel_rfl) rfl rfl rfl rfl (text_run hK5 hgj hnj hbj (by omega) ?_)
          intro s6 hc6
          refine RegL.q (OpQ.assign rfl rfl) rfl rfl rfl ?_
          refine RegL.done ?_
          refine EvtL.ret ?_
          have hc7 : Chg s1 s6 (fun c => c = s.next ∨ s1.next ≤ c) := hcj.trans hc6 (fun _ h => h) (fun c h => .inl (.inr (howj c h))) (by show s.next ≤ s.next + 1; omega)
          have hlog : s6.log = [] := by
            cases hl : s6.log with
            | nil => rfl
            | cons c lg =>
              have := hc7.log c (by rw [hl]; exact List.mem_cons_self ..)
              rcases this with h | ⟨h, h'⟩
              · cases h
              · have h2 : c < s.next := h
                omega
          refine ⟨.inl rfl, _, rfl, _, res_tmp rfl rfl, leave_any rfl (fun _ _ => rfl) (fun _ => rfl) (fun _ => ?_) fun h => absurd hlog h⟩
          show R (.str w) s
          rw [← hw, hje, List.take_length]
          exact hR
end
end Go.Proofs.YtmcjglkpjfnfcaaGreat

/- Smaller functions. -/
open Go Am
namespace Go.Proofs.YtmcjglkpjfnfcaaGreat
/-- The closed part. -/
def K0 (f : FuncId) (args : List AV) : Option AV := match f with
  | 5 => match args with
    | [] => some (.bool true)
    | _ => none
  | _ => none
theorem progOk : ProgOk Tryz.prog 800 800 := ⟨of_decide_eq_true (by kernel_rfl), of_decide_eq_true (by kernel_rfl), by kernel_rfl, by kernel_rfl⟩
theorem K0_known (h : KnownF Tryz.prog 5 [] (.bool true)) : KnownAll Tryz.prog K0 := by
  intro f args v hv
  unfold K0 at hv
  split at hv
  · split at hv
    · cases hv; exact h
    · cases hv
  · cases hv
/-! ### which kinds have a text -/
def hasV (k : Int) : Bool := decide (k = 1) || decide (k = 2) || decide (k = 3) || decide (k = 8)
theorem has_to (k : Int) : CallTo (EK K0) 16 [.int .i64 k] S0 (.bool (hasV k)) := by
  refine CallTo.s0 (fn := Tryz.f16) rfl rfl (by kernel_rfl) rfl rfl rfl rfl ?_
  focus
    refine EvtL.seqReg ?_
    refine RegL.q (OpQ.assign rfl rfl) rfl rfl rfl ?_
    refine RegL.done ?_
    refine EvtL.seqReg ?_
    refine RegL.q (OpQ.move rfl rfl) rfl rfl rfl ?_
    refine RegL.q (OpQ.int2 rfl u_22 rfl rfl rfl rfl) rfl rfl rfl ?_
    refine RegL.q (OpQ.move rfl rfl) rfl rfl rfl ?_
    refine RegL.both rfl rfl rfl rfl (fun g1 => ?_) (fun g1 => ?_)
    have h1 := of_decide_eq_true g1
    refine RegL.skip rfl rfl rfl rfl (by assumption) rfl rfl ?_
    refine RegL.skip rfl rfl rfl rfl (by assumption) rfl rfl ?_
    refine RegL.q (OpQ.pickT rfl rfl (by assumption) rfl) rfl rfl rfl ?_
    refine RegL.q (OpQ.move rfl rfl) rfl rfl rfl ?_
    refine RegL.skip rfl rfl rfl rfl rfl rfl rfl ?_
    refine RegL.skip rfl rfl rfl rfl rfl rfl rfl ?_
    refine RegL.q (OpQ.pickT rfl rfl rfl rfl) rfl rfl rfl ?_
    refine RegL.q (OpQ.move rfl rfl) rfl rfl rfl ?_
    refine RegL.skip rfl rfl rfl rfl rfl rfl rfl ?_
    refine RegL.skip rfl rfl rfl rfl rfl rfl rfl ?_
    refine RegL.q (OpQ.pickT rfl rfl rfl rfl) rfl rfl rfl ?_
    refine RegL.q (OpQ.assign rfl rfl) rfl rfl rfl ?_
    refine RegL.done ?_
    refine EvtL.ret ⟨.inl rfl, rfl, rfl, rfl, _, _, _, (res_tmp rfl rfl), rfl, rfl, ?_⟩
    refine boolRes ?_
    rotate_left
    have h1 := of_decide_eq_false g1
    refine RegL.go rfl rfl rfl rfl (by assumption) (OpL.q (OpQ.move rfl rfl)) rfl rfl ?_
    refine RegL.go rfl rfl rfl rfl (by assumption) (OpL.q (OpQ.int2 rfl u_22 rfl rfl rfl rfl)) rfl rfl ?_
    refine RegL.q (OpQ.pickF rfl rfl (by assumption) rfl) rfl rfl rfl ?_
    refine RegL.q (OpQ.move rfl rfl) rfl rfl rfl ?_
    refine RegL.both rfl rfl rfl rfl (fun g2 => ?_) (fun g2 => ?_)
    have h2 := of_decide_eq_true g2
    refine RegL.skip rfl rfl rfl rfl (by assumption) rfl rfl ?_
    refine RegL.skip rfl rfl rfl rfl (by assumption) rfl rfl ?_
    refine RegL.q (OpQ.pickT rfl rfl (by assumption) rfl) rfl rfl rfl ?_
    refine RegL.q (OpQ.move rfl rfl) rfl rfl rfl ?_
    refine RegL.skip rfl rfl rfl rfl rfl rfl rfl ?_
    refine RegL.skip rfl rfl rfl rfl rfl rfl rfl ?_
    refine RegL.q (OpQ.pickT rfl rfl rfl rfl) rfl rfl rfl ?_
    refine RegL.q (OpQ.assign rfl rfl) rfl rfl rfl ?_
    refine RegL.done ?_
    refine EvtL.ret ⟨.inl rfl, rfl, rfl, rfl, _, _, _, (res_tmp rfl rfl), rfl, rfl, ?_⟩
    refine boolRes ?_
    rotate_left
    have h2 := of_decide_eq_false g2
    refine RegL.go rfl rfl rfl rfl (by assumption) (OpL.q (OpQ.move rfl rfl)) rfl rfl ?_
    refine RegL.go rfl rfl rfl rfl (by assumption) (OpL.q (OpQ.int2 rfl u_22 rfl rfl rfl rfl)) rfl rfl ?_
    refine RegL.q (OpQ.pickF rfl rfl (by assumption) rfl) rfl rfl rfl ?_
    refine RegL.q (OpQ.move rfl rfl) rfl rfl rfl ?_
    refine RegL.both rfl rfl rfl rfl (fun g3 => ?_) (fun g3 => ?_)
    have h3 := of_decide_eq_true g3
    refine RegL.skip rfl rfl rfl rfl (by assumption) rfl rfl ?_
    refine RegL.skip rfl rfl rfl rfl (by assumption) rfl rfl ?_
    refine RegL.q (OpQ.pickT rfl rfl (by assumption) rfl) rfl rfl rfl ?_
    refine RegL.q (OpQ.assign rfl rfl) rfl rfl rfl ?_
    refine RegL.done ?_
    refine EvtL.ret ⟨.inl rfl, rfl, rfl, rfl, _, _, _, (res_tmp rfl rfl), rfl, rfl, ?_⟩
    refine boolRes ?_
    rotate_left
    have h3 := of_decide_eq_false g3
    refine RegL.go rfl rfl rfl rfl (by assumption) (OpL.q (OpQ.move rfl rfl)) rfl rfl ?_
    refine RegL.go rfl rfl rfl rfl (by assumption) (OpL.q (OpQ.int2 rfl u_22 rfl rfl rfl rfl)) rfl rfl ?_
    refine RegL.q (OpQ.pickF rfl rfl (by assumption) rfl) rfl rfl rfl ?_
    refine RegL.q (OpQ.assign rfl rfl) rfl rfl rfl ?_
    refine RegL.done ?_
    refine EvtL.ret ⟨.inl rfl, rfl, rfl, rfl, _, _, _, (res_tmp rfl rfl), rfl, rfl, ?_⟩
    refine boolRes ?_
    rotate_left
  all_goals simp [hasV, *]
noncomputable def K1 := addC K0 16 (fun k : Int => [.int .i64 k]) (fun k => .bool (hasV k))
theorem hit_16 {k : Int} : K1 16 [.int .i64 k] = some (.bool (hasV k)) := addC_hit (by intro a b h; cases h; rfl) k
/-! ### the words -/
def wordL : List (List UInt8) := [[], [112, 114, 111, 103, 114, 97, 109], [103, 111, 97, 108], [119, 97, 121], [110, 101, 120, 116], [114, 101, 115, 116], [115, 104, 111, 119], [119, 104, 101, 114, 101], [114, 117, 108, 101, 115], [117, 110, 100, 111]]
theorem words_to : CallTo (EK K1) 15 [] S0 (.islice (wordL.map .str) 10 1 true) := by
  refine CallTo.s0 (fn := Tryz.f15) rfl rfl (by kernel_rfl) rfl rfl rfl rfl ?_
  refine EvtL.seqReg ?_
  refine RegL.q (OpQ.assign rfl rfl) rfl rfl rfl ?_
  refine RegL.done ?_
  refine EvtL.seqReg ?_
  refine RegL.op (OpL.buildSliceS 1 rfl u_32 sz_9 z_9 rfl rfl rfl rfl) rfl rfl rfl ?_
  refine RegL.q (OpQ.assign rfl rfl) rfl rfl rfl ?_
  refine RegL.done ?_
  refine EvtL.ret ⟨.inl rfl, rfl, rfl, rfl, _, _, _, (res_tmp rfl rfl), rfl, rfl, ?_⟩
  kernel_rfl
theorem names_to : CallTo (EK K1) 18 [] S0 (.agg (wordL.map .str)) := by
  refine CallTo.s0 (fn := Tryz.f18) rfl rfl (by kernel_rfl) rfl rfl rfl rfl ?_
  refine EvtL.seqReg ?_
  refine RegL.op (OpL.allocS 1 rfl z_51 rfl) rfl rfl rfl ?_
  refine RegL.done ?_
  refine EvtL.seqReg ?_
  refine RegL.q (OpQ.build rfl pl_51 rfl rfl) rfl rfl rfl ?_
  refine RegL.opN (OpL.storeS rfl sz_51 rfl rfl rfl rfl rfl rfl) rfl rfl ?_
  refine RegL.done ?_
  refine EvtL.ret ⟨.inl rfl, rfl, rfl, rfl, _, _, _, (res_cellA rfl ag_51 sz_51 rfl (Nat.le_of_ble_eq_true rfl) rfl), rfl, rfl, ?_⟩
  kernel_rfl
noncomputable def K2 := addC (addC K1 15 (fun _ : Unit => []) (fun _ => .islice (wordL.map .str) 10 1 true)) 18 (fun _ : Unit => []) (fun _ => .agg (wordL.map .str))
theorem hit_15 : K2 15 [] = some (.islice (wordL.map .str) 10 1 true) := addC_hit (K := K1) (f := 15) (enc := fun _ : Unit => []) (res := fun _ => .islice (wordL.map .str) 10 1 true) (fun _ _ _ => rfl) ()
theorem hit_18 : K2 18 [] = some (.agg (wordL.map .str)) := addC_hit (f := 18) (enc := fun _ : Unit => []) (res := fun _ => .agg (wordL.map .str)) (fun _ _ _ => rfl) ()
/-! ### one byte in a text -/
theorem index_to (w : List UInt8) (c : UInt8) : CallTo (EK K2) 52 [.str w, .str [c]] S0 (.int .i64 (idxI c w)) := by
  refine CallTo.s0 (fn := Tryz.f52) rfl rfl (by kernel_rfl) rfl rfl rfl rfl ?_
  focus
    refine EvtL.seqReg ?_
    refine RegL.q (OpQ.assign rfl rfl) rfl rfl rfl ?_
    refine RegL.done ?_
    refine EvtL.seqReg ?_
    refine RegL.q (OpQ.move rfl rfl) rfl rfl rfl ?_
    refine RegL.q (OpQ.lenStr rfl rfl rfl rfl u_9 rfl) rfl rfl rfl ?_
    refine RegL.q (OpQ.assign rfl rfl) rfl rfl rfl ?_
    refine RegL.done ?_
    refine EvtL.seq ?_
    refine EvtL.block ?_
    refine EvtL.seqReg ?_
    refine RegL.q (OpQ.move rfl rfl) rfl rfl rfl ?_
    refine RegL.q (OpQ.int2 rfl u_3 rfl rfl rfl rfl) rfl rfl rfl ?_
    refine RegL.q (OpQ.move rfl rfl) rfl rfl rfl ?_
    refine RegL.go rfl rfl rfl rfl rfl (OpL.q (OpQ.move rfl rfl)) rfl rfl ?_
    refine RegL.go rfl rfl rfl rfl rfl (OpL.q (OpQ.move rfl rfl)) rfl rfl ?_
    refine RegL.go rfl rfl rfl rfl rfl (OpL.q (OpQ.str2 rfl u_9 rfl rfl rfl rfl)) rfl rfl ?_
    refine RegL.q (OpQ.pickF rfl rfl rfl rfl) rfl rfl rfl ?_
    refine RegL.q (OpQ.assign rfl rfl) rfl rfl rfl ?_
    refine RegL.done ?_
    refine EvtL.cond rfl (fun g1 => ?_) (fun g1 => ?_)
    have h1 := bT g1
    refine EvtL.seqReg ?_
    refine RegL.q (OpQ.assign rfl rfl) rfl rfl rfl ?_
    refine RegL.done ?_
    refine EvtL.ret ⟨.inl rfl, rfl, rfl, rfl, _, _, _, (res_tmp rfl rfl), rfl, rfl, ?_⟩
    rotate_left
    have h1 := bF g1
    refine EvtL.seqReg ?_
    refine RegL.q (OpQ.move rfl rfl) rfl rfl rfl ?_
    refine RegL.q (OpQ.int2 rfl u_3 rfl rfl rfl rfl) rfl rfl rfl ?_
    refine RegL.q (OpQ.assign rfl rfl) rfl rfl rfl ?_
    refine RegL.done ?_
    refine EvtL.condT rfl rfl ?_
    refine EvtL.seqReg ?_
    refine RegL.q (OpQ.move rfl rfl) rfl rfl rfl ?_
    refine RegL.q (OpQ.move rfl rfl) rfl rfl rfl ?_
    refine RegL.q (OpQ.indexD (n := 0) rfl u_9 rfl rfl (by first | assumption | omega | (simp only [List.length_append, List.length_cons, List.length_nil, List.length_take, List.length_drop]; omega))) rfl rfl rfl ?_
    refine RegL.inl (fn := Tryz.f60) (by kernel_rfl) (by kernel_rfl) rfl rfl rfl rfl rfl rfl rfl rfl rfl rfl rfl ?_
    refine EvtL.seqReg ?_
    refine RegL.q (OpQ.assign rfl rfl) rfl rfl rfl ?_
    refine RegL.done ?_
    refine EvtL.seqReg ?_
    refine RegL.q (OpQ.move rfl rfl) rfl rfl rfl ?_
    refine RegL.q (OpQ.move rfl rfl) rfl rfl rfl ?_
    refine RegL.q (OpQ.pure2 (f := indexByteV) (x := .tmp 5) (y := .tmp 6) (by kernel_rfl) rfl rfl (indexByteV_eq _ _)) rfl rfl rfl ?_
    refine RegL.q (OpQ.assign rfl rfl) rfl rfl rfl ?_
    refine RegL.done ?_
    refine EvtL.ret (InlQ.same rfl (res_tmp rfl rfl) rfl rfl rfl rfl ?_)
    refine RegL.q (OpQ.assign rfl rfl) rfl rfl rfl ?_
    refine RegL.done ?_
    refine EvtL.ret ⟨.inl rfl, rfl, rfl, rfl, _, _, _, (res_tmp rfl rfl), rfl, rfl, ?_⟩
    rotate_left
  · subst h1
    show AV.int .i64 0 = _
    unfold idxI idxS
    rw [if_pos rfl]; rfl
  · rfl
/-! ### words of R02 -/
def isIn (a b n : Int) : Bool := decide (a ≤ n) && decide (n ≤ b)
theorem small_to (n : Int) : CallTo (EK K2) 57 [.int .u8 n] S0 (.bool (isIn 97 122 n)) := by
  refine CallTo.s0 (fn := Tryz.f57) rfl rfl (by kernel_rfl) rfl rfl rfl rfl ?_
  focus
    refine EvtL.seqReg ?_
    refine RegL.q (OpQ.assign rfl rfl) rfl rfl rfl ?_
    refine RegL.done ?_
    refine EvtL.seqReg ?_
    refine RegL.q (OpQ.move rfl rfl) rfl rfl rfl ?_
    refine RegL.q (OpQ.int2 rfl u_5 rfl rfl rfl rfl) rfl rfl rfl ?_
    refine RegL.q (OpQ.move rfl rfl) rfl rfl rfl ?_
    refine RegL.both rfl rfl rfl rfl (fun g1 => ?_) (fun g1 => ?_)
    have h1 := of_decide_eq_true g1
    refine RegL.go rfl rfl rfl rfl (by assumption) (OpL.q (OpQ.move rfl rfl)) rfl rfl ?_
    refine RegL.go rfl rfl rfl rfl (by assumption) (OpL.q (OpQ.int2 rfl u_5 rfl rfl rfl rfl)) rfl rfl ?_
    refine RegL.q (OpQ.pickT rfl rfl (by assumption) rfl) rfl rfl rfl ?_
    refine RegL.q (OpQ.assign rfl rfl) rfl rfl rfl ?_
    refine RegL.done ?_
    refine EvtL.ret ⟨.inl rfl, rfl, rfl, rfl, _, _, _, (res_tmp rfl rfl), rfl, rfl, ?_⟩
    refine boolRes ?_
    rotate_left
    have h1 := of_decide_eq_false g1
    refine RegL.skip rfl rfl rfl rfl (by assumption) rfl rfl ?_
    refine RegL.skip rfl rfl rfl rfl (by assumption) rfl rfl ?_
    refine RegL.q (OpQ.pickF rfl rfl (by assumption) rfl) rfl rfl rfl ?_
    refine RegL.q (OpQ.assign rfl rfl) rfl rfl rfl ?_
    refine RegL.done ?_
    refine EvtL.ret ⟨.inl rfl, rfl, rfl, rfl, _, _, _, (res_tmp rfl rfl), rfl, rfl, ?_⟩
    refine boolRes ?_
    rotate_left
  all_goals simp [isIn, *]
noncomputable def K3 := addC (addC K2 52 (fun p : List UInt8 × UInt8 => [.str p.1, .str [p.2]]) (fun p => .int .i64 (idxI p.2 p.1))) 57 (fun n : Int => [.int .u8 n]) (fun n => .bool (isIn 97 122 n))
theorem hit_52 {w : List UInt8} {c : UInt8} : K3 52 [.str w, .str [c]] = some (.int .i64 (idxI c w)) :=
  addC_hit (K := K2) (f := 52) (enc := fun p : List UInt8 × UInt8 => [.str p.1, .str [p.2]]) (res := fun p => .int .i64 (idxI p.2 p.1)) (by rintro ⟨a, b⟩ ⟨c, d⟩ h; cases h; rfl) (w, c)
theorem hit_57 {n : Int} : K3 57 [.int .u8 n] = some (.bool (isIn 97 122 n)) := addC_hit (f := 57) (enc := fun n : Int => [.int .u8 n]) (res := fun n => .bool (isIn 97 122 n)) (by intro a b h; cases h; rfl) n
theorem smalls_to (w : List UInt8) (hw : w.length ≤ 4000) : CallTo (EK K3) 48 [.str w, .int .i64 ((0 : Nat) : Int)] S0 (.int .i64 ((tw (isIn 97 122) w : Nat) : Int)) := by
  refine CallTo.s0 (fn := Tryz.f48) rfl rfl (by kernel_rfl) rfl rfl rfl rfl ?_
  refine EvtL.seqReg ?_
  refine RegL.q (OpQ.assign rfl rfl) rfl rfl rfl ?_
  refine RegL.done ?_
  refine EvtL.seqReg ?_
  refine RegL.q (OpQ.assign rfl rfl) rfl rfl rfl ?_
  refine RegL.done ?_
  refine EvtL.seq ?_
  refine EvtL.block ?_
  have hle := tw_le (isIn 97 122) w
  refine EvtL.loopI (fun k : Nat => ([(5, .int .i64 (k : Nat)), (0, .str w), (1, .int .i64 ((0 : Nat) : Int))], mkS 0 0 [] [])) (fun k => w.length - k) (fun k => k ≤ tw (isIn 97 122) w) 0 (Nat.zero_le _) rfl (by (refine Am.sub_of ?_; repeat (first | exact trivial | refine ⟨rfl, ?_⟩))) fun k hk => ?_
  focus
    refine EvtL.seq ?_
    refine EvtL.seqReg ?_
    refine RegL.q (OpQ.move rfl rfl) rfl rfl rfl ?_
    refine RegL.q (OpQ.move rfl rfl) rfl rfl rfl ?_
    refine RegL.q (OpQ.addN (a := 0) rfl u_3 rfl rfl (by first | assumption | omega | (simp only [List.length_append, List.length_cons, List.length_nil, List.length_take, List.length_drop]; omega))) rfl rfl rfl ?_
    refine RegL.q (OpQ.move rfl rfl) rfl rfl rfl ?_
    refine RegL.q (OpQ.lenStr rfl rfl rfl rfl u_9 rfl) rfl rfl rfl ?_
    refine RegL.q (OpQ.int2 rfl u_3 rfl rfl rfl rfl) rfl rfl rfl ?_
    refine RegL.q (OpQ.move rfl rfl) rfl rfl rfl ?_
    refine RegL.both rfl rfl rfl rfl (fun g1 => ?_) (fun g1 => ?_)
    have h1 := of_decide_eq_true g1
    refine RegL.go rfl rfl rfl rfl (by assumption) (OpL.q (OpQ.move rfl rfl)) rfl rfl ?_
    refine RegL.go rfl rfl rfl rfl (by assumption) (OpL.q (OpQ.move rfl rfl)) rfl rfl ?_
    refine RegL.go rfl rfl rfl rfl (by assumption) (OpL.q (OpQ.move rfl rfl)) rfl rfl ?_
    refine RegL.go rfl rfl rfl rfl (by assumption) (OpL.q (OpQ.addN (a := 0) rfl u_3 rfl rfl (by first | assumption | omega | (simp only [List.length_append, List.length_cons, List.length_nil, List.length_take, List.length_drop]; omega)))) rfl rfl ?_
    refine RegL.go rfl rfl rfl rfl (by assumption) (OpL.q (OpQ.indexD rfl u_9 rfl rfl (by first | assumption | omega | (simp only [List.length_append, List.length_cons, List.length_nil, List.length_take, List.length_drop]; omega)))) rfl rfl ?_
    refine RegL.go rfl rfl rfl rfl (by assumption) (OpL.callFn rfl rfl (by kernel_rfl) rfl (CallTo.memo (hit_57))) rfl rfl ?_
    refine RegL.q (OpQ.pickT rfl rfl (by assumption) rfl) rfl rfl rfl ?_
    refine RegL.done ?_
    refine EvtL.cond rfl (fun g2 => ?_) (fun g2 => ?_)
    refine EvtL.skip ?_
    refine EvtL.block ?_
    refine EvtL.reg ?_
    refine RegL.q (OpQ.move rfl rfl) rfl rfl rfl ?_
    refine RegL.q (OpQ.addN (b := 1) rfl u_3 rfl rfl (by first | assumption | omega | (simp only [List.length_append, List.length_cons, List.length_nil, List.length_take, List.length_drop]; omega))) rfl rfl rfl ?_
    refine RegL.q (OpQ.assign rfl rfl) rfl rfl rfl ?_
    refine RegL.done ?_
    rotate_left
    refine EvtL.exit ?_
    refine cond_t rfl ?_
    refine EvtL.seqReg ?_
    refine RegL.q (OpQ.move rfl rfl) rfl rfl rfl ?_
    refine RegL.q (OpQ.assign rfl rfl) rfl rfl rfl ?_
    refine RegL.done ?_
    refine EvtL.ret ⟨.inl rfl, rfl, rfl, rfl, _, _, _, (res_tmp rfl rfl), rfl, rfl, ?_⟩
    rotate_left
    have h1 := of_decide_eq_false g1
    refine RegL.skip rfl rfl rfl rfl (by assumption) rfl rfl ?_
    refine RegL.skip rfl rfl rfl rfl (by assumption) rfl rfl ?_
    refine RegL.skip rfl rfl rfl rfl (by assumption) rfl rfl ?_
    refine RegL.skip rfl rfl rfl rfl (by assumption) rfl rfl ?_
    refine RegL.skip rfl rfl rfl rfl (by assumption) rfl rfl ?_
    refine RegL.skip rfl rfl rfl rfl (by assumption) rfl rfl ?_
    refine RegL.q (OpQ.pickF rfl rfl (by assumption) rfl) rfl rfl rfl ?_
    refine RegL.done ?_
    refine EvtL.condF rfl rfl ?_
    refine EvtL.exit ?_
    refine cond_t rfl ?_
    refine EvtL.seqReg ?_
    refine RegL.q (OpQ.move rfl rfl) rfl rfl rfl ?_
    refine RegL.q (OpQ.assign rfl rfl) rfl rfl rfl ?_
    refine RegL.done ?_
    refine EvtL.ret ⟨.inl rfl, rfl, rfl, rfl, _, _, _, (res_tmp rfl rfl), rfl, rfl, ?_⟩
    rotate_left
  · rw [Nat.zero_add] at g2
    have := (tw_step hk (by omega)).1 g2
    exact ⟨k + 1, this, by show w.length - (k + 1) < _ - k; omega, rfl, rfl, by (refine Am.sub_of ?_; repeat (first | exact trivial | refine ⟨rfl, ?_⟩))⟩
  · rw [Nat.zero_add] at g2
    have : ¬ k < tw (isIn 97 122) w := fun h => by rw [(tw_step hk (by omega)).2 h] at g2; cases g2
    have e : tw (isIn 97 122) w = k := by omega
    rw [e]; rfl
  · have e : tw (isIn 97 122) w = k := by omega
    rw [e]; rfl
def isWord (w : List UInt8) : Bool := bytesEq w [100, 97, 116, 97] || bytesEq w [108, 101, 116] || bytesEq w [105, 110] || bytesEq w [119, 104, 101, 110] || bytesEq w [116, 104, 101, 110]
theorem word_to (w : List UInt8) : CallTo (EK K3) 49 [.str w] S0 (.bool (isWord w)) := by
  refine CallTo.s0 (fn := Tryz.f49) rfl rfl (by kernel_rfl) rfl rfl rfl rfl ?_
  focus
    refine EvtL.seqReg ?_
    refine RegL.q (OpQ.assign rfl rfl) rfl rfl rfl ?_
    refine RegL.done ?_
    refine EvtL.seqReg ?_
    refine RegL.q (OpQ.move rfl rfl) rfl rfl rfl ?_
    refine RegL.q (OpQ.str2 rfl u_9 rfl rfl rfl rfl) rfl rfl rfl ?_
    refine RegL.q (OpQ.move rfl rfl) rfl rfl rfl ?_
    refine RegL.both rfl rfl rfl rfl (fun g1 => ?_) (fun g1 => ?_)
    have h1 := bT g1
    refine RegL.skip rfl rfl rfl rfl (by assumption) rfl rfl ?_
    refine RegL.skip rfl rfl rfl rfl (by assumption) rfl rfl ?_
    refine RegL.q (OpQ.pickT rfl rfl (by assumption) rfl) rfl rfl rfl ?_
    refine RegL.q (OpQ.move rfl rfl) rfl rfl rfl ?_
    refine RegL.skip rfl rfl rfl rfl rfl rfl rfl ?_
    refine RegL.skip rfl rfl rfl rfl rfl rfl rfl ?_
    refine RegL.q (OpQ.pickT rfl rfl rfl rfl) rfl rfl rfl ?_
    refine RegL.q (OpQ.move rfl rfl) rfl rfl rfl ?_
    refine RegL.skip rfl rfl rfl rfl rfl rfl rfl ?_
    refine RegL.skip rfl rfl rfl rfl rfl rfl rfl ?_
    refine RegL.q (OpQ.pickT rfl rfl rfl rfl) rfl rfl rfl ?_
    refine RegL.q (OpQ.move rfl rfl) rfl rfl rfl ?_
    refine RegL.skip rfl rfl rfl rfl rfl rfl rfl ?_
    refine RegL.skip rfl rfl rfl rfl rfl rfl rfl ?_
    refine RegL.q (OpQ.pickT rfl rfl rfl rfl) rfl rfl rfl ?_
    refine RegL.q (OpQ.assign rfl rfl) rfl rfl rfl ?_
    refine RegL.done ?_
    refine EvtL.ret ⟨.inl rfl, rfl, rfl, rfl, _, _, _, (res_tmp rfl rfl), rfl, rfl, ?_⟩
    refine boolRes ?_
    rotate_left
    have h1 := bF g1
    refine RegL.go rfl rfl rfl rfl (by assumption) (OpL.q (OpQ.move rfl rfl)) rfl rfl ?_
    refine RegL.go rfl rfl rfl rfl (by assumption) (OpL.q (OpQ.str2 rfl u_9 rfl rfl rfl rfl)) rfl rfl ?_
    refine RegL.q (OpQ.pickF rfl rfl (by assumption) rfl) rfl rfl rfl ?_
    refine RegL.q (OpQ.move rfl rfl) rfl rfl rfl ?_
    refine RegL.both rfl rfl rfl rfl (fun g2 => ?_) (fun g2 => ?_)
    have h2 := bT g2
    refine RegL.skip rfl rfl rfl rfl (by assumption) rfl rfl ?_
    refine RegL.skip rfl rfl rfl rfl (by assumption) rfl rfl ?_
    refine RegL.q (OpQ.pickT rfl rfl (by assumption) rfl) rfl rfl rfl ?_
    refine RegL.q (OpQ.move rfl rfl) rfl rfl rfl ?_
    refine RegL.skip rfl rfl rfl rfl rfl rfl rfl ?_
    refine RegL.skip rfl rfl rfl rfl rfl rfl rfl ?_
    refine RegL.q (OpQ.pickT rfl rfl rfl rfl) rfl rfl rfl ?_
    refine RegL.q (OpQ.move rfl rfl) rfl rfl rfl ?_
    refine RegL.skip rfl rfl rfl rfl rfl rfl rfl ?_
    refine RegL.skip rfl rfl rfl rfl rfl rfl rfl ?_
    refine RegL.q (OpQ.pickT rfl rfl rfl rfl) rfl rfl rfl ?_
    refine RegL.q (OpQ.assign rfl rfl) rfl rfl rfl ?_
    refine RegL.done ?_
    refine EvtL.ret ⟨.inl rfl, rfl, rfl, rfl, _, _, _, (res_tmp rfl rfl), rfl, rfl, ?_⟩
    refine boolRes ?_
    rotate_left
    have h2 := bF g2
    refine RegL.go rfl rfl rfl rfl (by assumption) (OpL.q (OpQ.move rfl rfl)) rfl rfl ?_
    refine RegL.go rfl rfl rfl rfl (by assumption) (OpL.q (OpQ.str2 rfl u_9 rfl rfl rfl rfl)) rfl rfl ?_
    refine RegL.q (OpQ.pickF rfl rfl (by assumption) rfl) rfl rfl rfl ?_
    refine RegL.q (OpQ.move rfl rfl) rfl rfl rfl ?_
    refine RegL.both rfl rfl rfl rfl (fun g3 => ?_) (fun g3 => ?_)
    have h3 := bT g3
    refine RegL.skip rfl rfl rfl rfl (by assumption) rfl rfl ?_
    refine RegL.skip rfl rfl rfl rfl (by assumption) rfl rfl ?_
    refine RegL.q (OpQ.pickT rfl rfl (by assumption) rfl) rfl rfl rfl ?_
    refine RegL.q (OpQ.move rfl rfl) rfl rfl rfl ?_
    refine RegL.skip rfl rfl rfl rfl rfl rfl rfl ?_
    refine RegL.skip rfl rfl rfl rfl rfl rfl rfl ?_
    refine RegL.q (OpQ.pickT rfl rfl rfl rfl) rfl rfl rfl ?_
    refine RegL.q (OpQ.assign rfl rfl) rfl rfl rfl ?_
    refine RegL.done ?_
    refine EvtL.ret ⟨.inl rfl, rfl, rfl, rfl, _, _, _, (res_tmp rfl rfl), rfl, rfl, ?_⟩
    refine boolRes ?_
    rotate_left
    have h3 := bF g3
    refine RegL.go rfl rfl rfl rfl (by assumption) (OpL.q (OpQ.move rfl rfl)) rfl rfl ?_
    refine RegL.go rfl rfl rfl rfl (by assumption) (OpL.q (OpQ.str2 rfl u_9 rfl rfl rfl rfl)) rfl rfl ?_
    refine RegL.q (OpQ.pickF rfl rfl (by assumption) rfl) rfl rfl rfl ?_
    refine RegL.q (OpQ.move rfl rfl) rfl rfl rfl ?_
    refine RegL.both rfl rfl rfl rfl (fun g4 => ?_) (fun g4 => ?_)
    have h4 := bT g4
    refine RegL.skip rfl rfl rfl rfl (by assumption) rfl rfl ?_
    refine RegL.skip rfl rfl rfl rfl (by assumption) rfl rfl ?_
    refine RegL.q (OpQ.pickT rfl rfl (by assumption) rfl) rfl rfl rfl ?_
    refine RegL.q (OpQ.assign rfl rfl) rfl rfl rfl ?_
    refine RegL.done ?_
    refine EvtL.ret ⟨.inl rfl, rfl, rfl, rfl, _, _, _, (res_tmp rfl rfl), rfl, rfl, ?_⟩
    refine boolRes ?_
    rotate_left
    have h4 := bF g4
    refine RegL.go rfl rfl rfl rfl (by assumption) (OpL.q (OpQ.move rfl rfl)) rfl rfl ?_
    refine RegL.go rfl rfl rfl rfl (by assumption) (OpL.q (OpQ.str2 rfl u_9 rfl rfl rfl rfl)) rfl rfl ?_
    refine RegL.q (OpQ.pickF rfl rfl (by assumption) rfl) rfl rfl rfl ?_
    refine RegL.q (OpQ.assign rfl rfl) rfl rfl rfl ?_
    refine RegL.done ?_
    refine EvtL.ret ⟨.inl rfl, rfl, rfl, rfl, _, _, _, (res_tmp rfl rfl), rfl, rfl, ?_⟩
    refine boolRes ?_
    rotate_left
  all_goals (unfold isWord; simp only [*]; rfl)
noncomputable def K4 := addC (addC K3 48 (fun w : { w : List UInt8 // w.length ≤ 4000 } => [.str w.1, .int .i64 ((0 : Nat) : Int)]) (fun w => .int .i64 ((tw (isIn 97 122) w.1 : Nat) : Int))) 49 (fun w : List UInt8 => [.str w]) (fun w => .bool (isWord w))
theorem hit_48 {w : List UInt8} (hw : w.length ≤ 4000) : K4 48 [.str w, .int .i64 0] = some (.int .i64 ((tw (isIn 97 122) w : Nat) : Int)) :=
  addC_hit (K := K3) (f := 48) (enc := fun w : { w : List UInt8 // w.length ≤ 4000 } => [.str w.1, .int .i64 ((0 : Nat) : Int)]) (res := fun w => .int .i64 ((tw (isIn 97 122) w.1 : Nat) : Int)) (by rintro ⟨a, _⟩ ⟨b, _⟩ h; cases h; rfl) ⟨w, hw⟩
theorem hit_49 {w : List UInt8} : K4 49 [.str w] = some (.bool (isWord w)) := addC_hit (f := 49) (enc := fun w : List UInt8 => [.str w]) (res := fun w => .bool (isWord w)) (by intro a b h; cases h; rfl) w
def nameV (w : List UInt8) : Bool := decide ((0 : Int) < (w.length : Nat)) && decide (((w.length : Nat) : Int) ≤ 8) && decide (((tw (isIn 97 122) w : Nat) : Int) = (w.length : Nat)) && !isWord w
theorem name_to (w : List UInt8) (hw : w.length ≤ 4000) : CallTo (EK K4) 29 [.str w] S0 (.bool (nameV w)) := by
  refine CallTo.s0 (fn := Tryz.f29) rfl rfl (by kernel_rfl) rfl rfl rfl rfl ?_
  focus
    refine EvtL.seqReg ?_
    refine RegL.q (OpQ.assign rfl rfl) rfl rfl rfl ?_
    refine RegL.done ?_
    refine EvtL.seqReg ?_
    refine RegL.q (OpQ.move rfl rfl) rfl rfl rfl ?_
    refine RegL.q (OpQ.lenStr rfl rfl rfl rfl u_9 rfl) rfl rfl rfl ?_
    refine RegL.q (OpQ.int2 rfl u_3 rfl rfl rfl rfl) rfl rfl rfl ?_
    refine RegL.q (OpQ.move rfl rfl) rfl rfl rfl ?_
    refine RegL.both rfl rfl rfl rfl (fun g1 => ?_) (fun g1 => ?_)
    have h1 := of_decide_eq_true g1
    refine RegL.go rfl rfl rfl rfl (by assumption) (OpL.q (OpQ.move rfl rfl)) rfl rfl ?_
    refine RegL.go rfl rfl rfl rfl (by assumption) (OpL.q (OpQ.lenStr rfl rfl rfl rfl u_9 rfl)) rfl rfl ?_
    refine RegL.go rfl rfl rfl rfl (by assumption) (OpL.q (OpQ.int2 rfl u_3 rfl rfl rfl rfl)) rfl rfl ?_
    refine RegL.q (OpQ.pickT rfl rfl (by assumption) rfl) rfl rfl rfl ?_
    refine RegL.q (OpQ.move rfl rfl) rfl rfl rfl ?_
    refine RegL.both rfl rfl rfl rfl (fun g2 => ?_) (fun g2 => ?_)
    have h2 := of_decide_eq_true g2
    refine RegL.go rfl rfl rfl rfl (by assumption) (OpL.q (OpQ.move rfl rfl)) rfl rfl ?_
    refine RegL.go rfl rfl rfl rfl (by assumption) (OpL.callFn rfl rfl (by kernel_rfl) rfl (CallTo.memo (hit_48 (by first | assumption | omega | (simp only [List.length_append, List.length_cons, List.length_nil, List.length_take, List.length_drop]; omega))))) rfl rfl ?_
    refine RegL.go rfl rfl rfl rfl (by assumption) (OpL.q (OpQ.move rfl rfl)) rfl rfl ?_
    refine RegL.go rfl rfl rfl rfl (by assumption) (OpL.q (OpQ.lenStr rfl rfl rfl rfl u_9 rfl)) rfl rfl ?_
    refine RegL.go rfl rfl rfl rfl (by assumption) (OpL.q (OpQ.int2 rfl u_3 rfl rfl rfl rfl)) rfl rfl ?_
    refine RegL.q (OpQ.pickT rfl rfl (by assumption) rfl) rfl rfl rfl ?_
    refine RegL.q (OpQ.move rfl rfl) rfl rfl rfl ?_
    refine RegL.both rfl rfl rfl rfl (fun g3 => ?_) (fun g3 => ?_)
    have h3 := of_decide_eq_true g3
    refine RegL.go rfl rfl rfl rfl (by assumption) (OpL.q (OpQ.move rfl rfl)) rfl rfl ?_
    refine RegL.go rfl rfl rfl rfl (by assumption) (OpL.callFn rfl rfl (by kernel_rfl) rfl (CallTo.memo (hit_49))) rfl rfl ?_
    refine RegL.go rfl rfl rfl rfl (by assumption) (OpL.q (OpQ.not rfl rfl)) rfl rfl ?_
    refine RegL.q (OpQ.pickT rfl rfl (by assumption) rfl) rfl rfl rfl ?_
    refine RegL.q (OpQ.assign rfl rfl) rfl rfl rfl ?_
    refine RegL.done ?_
    refine EvtL.ret ⟨.inl rfl, rfl, rfl, rfl, _, _, _, (res_tmp rfl rfl), rfl, rfl, ?_⟩
    refine boolRes ?_
    rotate_left
    have h3 := of_decide_eq_false g3
    refine RegL.skip rfl rfl rfl rfl (by assumption) rfl rfl ?_
    refine RegL.skip rfl rfl rfl rfl (by assumption) rfl rfl ?_
    refine RegL.skip rfl rfl rfl rfl (by assumption) rfl rfl ?_
    refine RegL.q (OpQ.pickF rfl rfl (by assumption) rfl) rfl rfl rfl ?_
    refine RegL.q (OpQ.assign rfl rfl) rfl rfl rfl ?_
    refine RegL.done ?_
    refine EvtL.ret ⟨.inl rfl, rfl, rfl, rfl, _, _, _, (res_tmp rfl rfl), rfl, rfl, ?_⟩
    refine boolRes ?_
    rotate_left
    have h2 := of_decide_eq_false g2
    refine RegL.skip rfl rfl rfl rfl (by assumption) rfl rfl ?_
    refine RegL.skip rfl rfl rfl rfl (by assumption) rfl rfl ?_
    refine RegL.skip rfl rfl rfl rfl (by assumption) rfl rfl ?_
    refine RegL.skip rfl rfl rfl rfl (by assumption) rfl rfl ?_
    refine RegL.skip rfl rfl rfl rfl (by assumption) rfl rfl ?_
    refine RegL.q (OpQ.pickF rfl rfl (by assumption) rfl) rfl rfl rfl ?_
    refine RegL.q (OpQ.move rfl rfl) rfl rfl rfl ?_
    refine RegL.skip rfl rfl rfl rfl rfl rfl rfl ?_
    refine RegL.skip rfl rfl rfl rfl rfl rfl rfl ?_
    refine RegL.skip rfl rfl rfl rfl rfl rfl rfl ?_
    refine RegL.q (OpQ.pickF rfl rfl rfl rfl) rfl rfl rfl ?_
    refine RegL.q (OpQ.assign rfl rfl) rfl rfl rfl ?_
    refine RegL.done ?_
    refine EvtL.ret ⟨.inl rfl, rfl, rfl, rfl, _, _, _, (res_tmp rfl rfl), rfl, rfl, ?_⟩
    refine boolRes ?_
    rotate_left
    have h1 := of_decide_eq_false g1
    refine RegL.skip rfl rfl rfl rfl (by assumption) rfl rfl ?_
    refine RegL.skip rfl rfl rfl rfl (by assumption) rfl rfl ?_
    refine RegL.skip rfl rfl rfl rfl (by assumption) rfl rfl ?_
    refine RegL.q (OpQ.pickF rfl rfl (by assumption) rfl) rfl rfl rfl ?_
    refine RegL.q (OpQ.move rfl rfl) rfl rfl rfl ?_
    refine RegL.skip rfl rfl rfl rfl rfl rfl rfl ?_
    refine RegL.skip rfl rfl rfl rfl rfl rfl rfl ?_
    refine RegL.skip rfl rfl rfl rfl rfl rfl rfl ?_
    refine RegL.skip rfl rfl rfl rfl rfl rfl rfl ?_
    refine RegL.skip rfl rfl rfl rfl rfl rfl rfl ?_
    refine RegL.q (OpQ.pickF rfl rfl rfl rfl) rfl rfl rfl ?_
    refine RegL.q (OpQ.move rfl rfl) rfl rfl rfl ?_
    refine RegL.skip rfl rfl rfl rfl rfl rfl rfl ?_
    refine RegL.skip rfl rfl rfl rfl rfl rfl rfl ?_
    refine RegL.skip rfl rfl rfl rfl rfl rfl rfl ?_
    refine RegL.q (OpQ.pickF rfl rfl rfl rfl) rfl rfl rfl ?_
    refine RegL.q (OpQ.assign rfl rfl) rfl rfl rfl ?_
    refine RegL.done ?_
    refine EvtL.ret ⟨.inl rfl, rfl, rfl, rfl, _, _, _, (res_tmp rfl rfl), rfl, rfl, ?_⟩
    refine boolRes ?_
    rotate_left
  all_goals (unfold nameV; simp only [g1, *]; rfl)
theorem nameV_short {w : List UInt8} (h : tw (isIn 97 122) w < w.length) : nameV w = false := by
  unfold nameV
  rw [decide_eq_false (show ¬ ((tw (isIn 97 122) w : Nat) : Int) = (w.length : Nat) by omega)]
  simp
theorem dname_to (w : List UInt8) (hw : w.length ≤ 4000) (h0 : w ≠ []) : CallTo (EK K4) 40 [.str w] S0 (.bool (nameV w)) := by
  have hpos : (0 : Int) < (w.length : Nat) := by have : 0 < w.length := List.length_pos_iff.2 h0; omega
  refine CallTo.s0 (fn := Tryz.f40) rfl rfl (by kernel_rfl) rfl rfl rfl rfl ?_
  refine EvtL.seqReg ?_
  refine RegL.q (OpQ.assign rfl rfl) rfl rfl rfl ?_
  refine RegL.done ?_
  refine EvtL.seq ?_
  refine EvtL.seqReg ?_
  refine RegL.q (OpQ.move rfl rfl) rfl rfl rfl ?_
  refine RegL.op (OpL.convBytesS 1 rfl u_9 u_95 ib_5 rfl rfl) rfl rfl rfl ?_
  refine RegL.q (OpQ.lenSlM rfl rfl rfl rfl u_95 rfl) rfl rfl rfl ?_
  refine RegL.q (OpQ.move rfl rfl) rfl rfl rfl ?_
  refine RegL.done ?_
  refine EvtL.block ?_
  have hle := tw_le (isIn 97 122) w
  refine EvtL.loopI (fun k : Nat => ([(8, .int .i64 (k : Nat)), (7, .int .i64 (w.length : Nat)), (6, .slice 0 0 w.length 1 none), (0, .str w)], mkS 1 0 [] [(0, some (.cells (byteCells w) 5 true))])) (fun k => w.length - k) (fun k => k ≤ tw (isIn 97 122) w) 0 (Nat.zero_le _) rfl (by (refine Am.sub_of ?_; repeat (first | exact trivial | refine ⟨rfl, ?_⟩))) fun k hk => ?_
  focus
    refine EvtL.seqReg ?_
    refine RegL.q (OpQ.int2 rfl u_3 rfl rfl rfl rfl) rfl rfl rfl ?_
    refine RegL.done ?_
    refine EvtL.seq ?_
    refine EvtL.cond rfl (fun g1 => ?_) (fun g1 => ?_)
    have h1 := of_decide_eq_true g1
    refine EvtL.skip ?_
    refine EvtL.seq ?_
    refine EvtL.block ?_
    refine EvtL.seqReg ?_
    refine RegL.q (OpQ.indexAddrM rfl u_95 sz_5 rfl rfl (by first | assumption | omega | (simp only [List.length_append, List.length_cons, List.length_nil, List.length_take, List.length_drop]; omega))) rfl rfl rfl ?_
    rotate_left
    have h1 := of_decide_eq_false g1
    refine EvtL.exit ?_
    refine cond_t rfl ?_
    refine EvtL.seq ?_
    refine EvtL.seqReg ?_
    refine RegL.q (OpQ.move rfl rfl) rfl rfl rfl ?_
    refine RegL.done ?_
    refine EvtL.block ?_
    refine EvtL.seq ?_
    refine EvtL.seqReg ?_
    refine RegL.q (OpQ.str2 rfl u_9 rfl rfl rfl rfl) rfl rfl rfl ?_
    refine RegL.q (OpQ.assign rfl rfl) rfl rfl rfl ?_
    refine RegL.done ?_
    refine EvtL.cond rfl (fun g2 => ?_) (fun g2 => ?_)
    have h2 := bT g2
    refine EvtL.skip ?_
    refine EvtL.condT rfl (by assumption) ?_
    refine EvtL.seqReg ?_
    refine RegL.q (OpQ.assign rfl rfl) rfl rfl rfl ?_
    refine RegL.done ?_
    refine EvtL.ret ⟨.inl rfl, rfl, rfl, rfl, _, _, _, (res_tmp rfl rfl), rfl, rfl, ?_⟩
    refine boolRes ?_
    rotate_left
    have h2 := bF g2
    refine EvtL.seqReg ?_
    refine RegL.q (OpQ.str2 rfl u_9 rfl rfl rfl rfl) rfl rfl rfl ?_
    refine RegL.q (OpQ.assign rfl rfl) rfl rfl rfl ?_
    refine RegL.done ?_
    refine EvtL.cond rfl (fun g3 => ?_) (fun g3 => ?_)
    have h3 := bT g3
    refine EvtL.skip ?_
    refine EvtL.condT rfl (by assumption) ?_
    refine EvtL.seqReg ?_
    refine RegL.q (OpQ.assign rfl rfl) rfl rfl rfl ?_
    refine RegL.done ?_
    refine EvtL.ret ⟨.inl rfl, rfl, rfl, rfl, _, _, _, (res_tmp rfl rfl), rfl, rfl, ?_⟩
    refine boolRes ?_
    rotate_left
    have h3 := bF g3
    refine EvtL.seqReg ?_
    refine RegL.q (OpQ.str2 rfl u_9 rfl rfl rfl rfl) rfl rfl rfl ?_
    refine RegL.q (OpQ.assign rfl rfl) rfl rfl rfl ?_
    refine RegL.done ?_
    refine EvtL.cond rfl (fun g4 => ?_) (fun g4 => ?_)
    have h4 := bT g4
    refine EvtL.skip ?_
    refine EvtL.condT rfl (by assumption) ?_
    refine EvtL.seqReg ?_
    refine RegL.q (OpQ.assign rfl rfl) rfl rfl rfl ?_
    refine RegL.done ?_
    refine EvtL.ret ⟨.inl rfl, rfl, rfl, rfl, _, _, _, (res_tmp rfl rfl), rfl, rfl, ?_⟩
    refine boolRes ?_
    rotate_left
    have h4 := bF g4
    refine EvtL.seqReg ?_
    refine RegL.q (OpQ.str2 rfl u_9 rfl rfl rfl rfl) rfl rfl rfl ?_
    refine RegL.q (OpQ.assign rfl rfl) rfl rfl rfl ?_
    refine RegL.done ?_
    refine EvtL.cond rfl (fun g5 => ?_) (fun g5 => ?_)
    have h5 := bT g5
    refine EvtL.skip ?_
    refine EvtL.condT rfl (by assumption) ?_
    refine EvtL.seqReg ?_
    refine RegL.q (OpQ.assign rfl rfl) rfl rfl rfl ?_
    refine RegL.done ?_
    refine EvtL.ret ⟨.inl rfl, rfl, rfl, rfl, _, _, _, (res_tmp rfl rfl), rfl, rfl, ?_⟩
    refine boolRes ?_
    rotate_left
    have h5 := bF g5
    refine EvtL.reg ?_
    refine RegL.q (OpQ.str2 rfl u_9 rfl rfl rfl rfl) rfl rfl rfl ?_
    refine RegL.q (OpQ.assign rfl rfl) rfl rfl rfl ?_
    refine RegL.done ?_
    refine EvtL.cond rfl (fun g6 => ?_) (fun g6 => ?_)
    have h6 := bT g6
    refine EvtL.seqReg ?_
    refine RegL.q (OpQ.assign rfl rfl) rfl rfl rfl ?_
    refine RegL.done ?_
    refine EvtL.ret ⟨.inl rfl, rfl, rfl, rfl, _, _, _, (res_tmp rfl rfl), rfl, rfl, ?_⟩
    refine boolRes ?_
    rotate_left
    have h6 := bF g6
    refine EvtL.skip ?_
    refine EvtL.seqReg ?_
    refine RegL.q (OpQ.move rfl rfl) rfl rfl rfl ?_
    refine RegL.q (OpQ.lenStr rfl rfl rfl rfl u_9 rfl) rfl rfl rfl ?_
    refine RegL.q (OpQ.int2 rfl u_3 rfl rfl rfl rfl) rfl rfl rfl ?_
    refine RegL.q (OpQ.assign rfl rfl) rfl rfl rfl ?_
    refine RegL.done ?_
    refine EvtL.ret ⟨.inl rfl, rfl, rfl, rfl, _, _, _, (res_tmp rfl rfl), rfl, rfl, ?_⟩
    refine boolRes ?_
    rotate_left
  · have hlt : k < w.length := by omega
    refine RegL.op (OpL.loadS1 rfl ag_5 sz_5 rfl rfl (v := .int .u8 ((w.getD k 0).toNat : Nat)) (by rw [Nat.zero_add, Nat.zero_add, Nat.mul_one]; exact byteCells_get hlt)) rfl rfl rfl ?_
    focus
      refine RegL.q (OpQ.assign rfl rfl) rfl rfl rfl ?_
      refine RegL.done ?_
      refine EvtL.seqReg ?_
      refine RegL.q (OpQ.move rfl rfl) rfl rfl rfl ?_
      refine RegL.q (OpQ.int2 rfl u_5 rfl rfl rfl rfl) rfl rfl rfl ?_
      refine RegL.q (OpQ.move rfl rfl) rfl rfl rfl ?_
      refine RegL.both rfl rfl rfl rfl (fun g2 => ?_) (fun g2 => ?_)
      have h2 := of_decide_eq_true g2
      refine RegL.skip rfl rfl rfl rfl (by assumption) rfl rfl ?_
      refine RegL.skip rfl rfl rfl rfl (by assumption) rfl rfl ?_
      refine RegL.q (OpQ.pickT rfl rfl (by assumption) rfl) rfl rfl rfl ?_
      refine RegL.done ?_
      refine EvtL.condT rfl rfl ?_
      refine EvtL.seqReg ?_
      refine RegL.q (OpQ.assign rfl rfl) rfl rfl rfl ?_
      refine RegL.done ?_
      refine EvtL.ret ⟨.inl rfl, rfl, rfl, rfl, _, _, _, (res_tmp rfl rfl), rfl, rfl, ?_⟩
      refine boolRes ?_
      rotate_left
      have h2 := of_decide_eq_false g2
      refine RegL.go rfl rfl rfl rfl (by assumption) (OpL.q (OpQ.move rfl rfl)) rfl rfl ?_
      refine RegL.go rfl rfl rfl rfl (by assumption) (OpL.q (OpQ.int2 rfl u_5 rfl rfl rfl rfl)) rfl rfl ?_
      refine RegL.q (OpQ.pickF rfl rfl (by assumption) rfl) rfl rfl rfl ?_
      refine RegL.done ?_
      refine EvtL.cond rfl (fun g3 => ?_) (fun g3 => ?_)
      have h3 := of_decide_eq_true g3
      refine EvtL.seqReg ?_
      refine RegL.q (OpQ.assign rfl rfl) rfl rfl rfl ?_
      refine RegL.done ?_
      refine EvtL.ret ⟨.inl rfl, rfl, rfl, rfl, _, _, _, (res_tmp rfl rfl), rfl, rfl, ?_⟩
      refine boolRes ?_
      rotate_left
      have h3 := of_decide_eq_false g3
      refine EvtL.skip ?_
      refine EvtL.reg ?_
      refine RegL.q (OpQ.addN (b := 1) rfl u_3 rfl rfl (by first | assumption | omega | (simp only [List.length_append, List.length_cons, List.length_nil, List.length_take, List.length_drop]; omega))) rfl rfl rfl ?_
      refine RegL.q (OpQ.move rfl rfl) rfl rfl rfl ?_
      refine RegL.done ?_
      rotate_left
    · have hf : ¬ k < tw (isIn 97 122) w := fun h => by
        have := (tw_step hk hlt).2 h
        unfold isIn at this
        rw [decide_eq_false (by omega)] at this; cases this
      exact (nameV_short (by omega)).symm
    · have hf : ¬ k < tw (isIn 97 122) w := fun h => by
        have := (tw_step hk hlt).2 h
        unfold isIn at this
        rw [decide_eq_false (show ¬ ((w.getD k 0).toNat : Int) ≤ 122 by omega), Bool.and_false] at this; cases this
      exact (nameV_short (by omega)).symm
    · have ht : isIn 97 122 (w.getD k 0).toNat = true := by
        unfold isIn
        rw [decide_eq_true (show (97 : Int) ≤ (w.getD k 0).toNat by omega), decide_eq_true (show ((w.getD k 0).toNat : Int) ≤ 122 by omega)]; rfl
      have := (tw_step hk hlt).1 ht
      exact ⟨k + 1, this, by show w.length - (k + 1) < w.length - k; omega, rfl, rfl, by (refine Am.sub_of ?_; repeat (first | exact trivial | refine ⟨rfl, ?_⟩))⟩
  · subst h2; rfl
  · subst h3; rfl
  · subst h4; rfl
  · subst h5; rfl
  · subst h6; rfl
  · have e : tw (isIn 97 122) w = w.length := by omega
    have hw : isWord w = false := by
      unfold isWord
      simp only [g2, g3, g4, g5, g6]; rfl
    unfold nameV
    rw [hw, e, decide_eq_true hpos, decide_eq_true (show ((w.length : Nat) : Int) = (w.length : Nat) from rfl)]
    simp
noncomputable def K5 := addC (addC K4 29 (fun w : { w : List UInt8 // w.length ≤ 4000 } => [.str w.1]) (fun w => .bool (nameV w.1))) 40 (fun w : { w : List UInt8 // w.length ≤ 4000 ∧ w ≠ [] } => [.str w.1]) (fun w => .bool (nameV w.1))
theorem hit_29 {w : List UInt8} (hw : w.length ≤ 4000) : K5 29 [.str w] = some (.bool (nameV w)) :=
  addC_hit (K := K4) (f := 29) (enc := fun w : { w : List UInt8 // w.length ≤ 4000 } => [.str w.1]) (res := fun w => .bool (nameV w.1)) (by rintro ⟨a, _⟩ ⟨b, _⟩ h; cases h; rfl) ⟨w, hw⟩
theorem hit_40 {w : List UInt8} (hw : w.length ≤ 4000) (h0 : w ≠ []) : K5 40 [.str w] = some (.bool (nameV w)) :=
  addC_hit (f := 40) (enc := fun w : { w : List UInt8 // w.length ≤ 4000 ∧ w ≠ [] } => [.str w.1]) (res := fun w => .bool (nameV w.1)) (by rintro ⟨a, _⟩ ⟨b, _⟩ h; cases h; rfl) ⟨w, hw, h0⟩
section
variable (h0 : KnownF Tryz.prog 5 [] (.bool true))
include h0
theorem all5 : KnownAll Tryz.prog K5 := by
  have a0 := K0_known h0
  have a1 : KnownAll Tryz.prog K1 := addC_all progOk a0 has_to (fun _ => rfl) (fun _ => rfl)
  have a2' := addC_all (f := 15) (enc := fun _ : Unit => []) (res := fun _ => .islice (wordL.map .str) 10 1 true) progOk a1 (fun _ => words_to) (fun _ => rfl) (fun _ => rfl)
  have a2 : KnownAll Tryz.prog K2 := addC_known a2' fun _ => known_of progOk a1 names_to rfl rfl
  have a3' := addC_all (f := 52) (enc := fun p : List UInt8 × UInt8 => [.str p.1, .str [p.2]]) (res := fun p => .int .i64 (idxI p.2 p.1)) progOk a2 (fun p => index_to p.1 p.2) (fun _ => rfl) (fun _ => rfl)
  have a3 : KnownAll Tryz.prog K3 := addC_known a3' fun n => known_of progOk a2 (small_to n) rfl rfl
  have a4' := addC_all (f := 48) (enc := fun w : { w : List UInt8 // w.length ≤ 4000 } => [.str w.1, .int .i64 ((0 : Nat) : Int)]) (res := fun w => .int .i64 ((tw (isIn 97 122) w.1 : Nat) : Int)) progOk a3 (fun w => smalls_to w.1 w.2) (fun _ => rfl) (fun _ => rfl)
  have a4 : KnownAll Tryz.prog K4 := addC_known a4' fun w => known_of progOk a3 (word_to w) rfl rfl
  have a5' := addC_all (f := 29) (enc := fun w : { w : List UInt8 // w.length ≤ 4000 } => [.str w.1]) (res := fun w => .bool (nameV w.1)) progOk a4 (fun w => name_to w.1 w.2) (fun _ => rfl) (fun _ => rfl)
  exact addC_known a5' fun w => known_of progOk a4 (dname_to w.1 w.2.1 w.2.2) rfl rfl
end
end Go.Proofs.YtmcjglkpjfnfcaaGreat

/- The specification's commands. -/
open Go Am
namespace Go.Proofs.YtmcjglkpjfnfcaaGreat
def notNL (n : Int) : Bool := !decide (n = 10)
def searchV (w : List UInt8) : Bool := bytesEq w [100, 101, 112, 116, 104] || bytesEq w [98, 114, 101, 97, 100, 116, 104]
/-- May a text stand alone? -/
def bareV (w : List UInt8) : Bool := decide (tw notNL w = w.length) && decide (w ≠ []) && !decide ((w.getD 0 0).toNat = 32) && !decide ((w.getD (w.length - 1) 0).toNat = 32)
def textV (k : Int) (w : List UInt8) : Bool := if hasV k then bareV w && (if k = 3 then searchV w else !decide (k = 8) || nameV w) else bytesEq w []
theorem text_to (k : Int) (w : List UInt8) (hw : w.length ≤ 4000) : CallTo (EK K5) 22 [.int .i64 k, .str w] S0 (.bool (textV k w)) := by
  refine CallTo.s0 (fn := Tryz.f22) rfl rfl (by kernel_rfl) rfl rfl rfl rfl ?_
  focus
    refine EvtL.seqReg ?_
    refine RegL.q (OpQ.assign rfl rfl) rfl rfl rfl ?_
    refine RegL.done ?_
    refine EvtL.seq ?_
    refine EvtL.seqReg ?_
    refine RegL.q (OpQ.move rfl rfl) rfl rfl rfl ?_
    refine RegL.op (OpL.callFn rfl rfl (by kernel_rfl) rfl (CallTo.memo (hit_16))) rfl rfl rfl ?_
    refine RegL.q (OpQ.not rfl rfl) rfl rfl rfl ?_
    refine RegL.done ?_
    refine EvtL.cond rfl (fun g1 => ?_) (fun g1 => ?_)
    have h1 := notT g1
    refine EvtL.seqReg ?_
    refine RegL.q (OpQ.move rfl rfl) rfl rfl rfl ?_
    refine RegL.q (OpQ.str2 rfl u_9 rfl rfl rfl rfl) rfl rfl rfl ?_
    refine RegL.q (OpQ.assign rfl rfl) rfl rfl rfl ?_
    refine RegL.done ?_
    refine EvtL.ret ⟨.inl rfl, rfl, rfl, rfl, _, _, _, (res_tmp rfl rfl), rfl, rfl, ?_⟩
    refine boolRes ?_
    rotate_left
    have h1 := notF g1
    refine EvtL.skip ?_
    refine EvtL.seq ?_
    refine EvtL.seqReg ?_
    refine RegL.q (OpQ.assign rfl rfl) rfl rfl rfl ?_
    refine RegL.done ?_
    refine EvtL.block ?_
    rotate_left
  · unfold textV
    rw [h1]; rfl
  have hle := tw_le notNL w
  refine EvtL.loopI (fun i : Nat => ([(5, .int .i64 (i : Nat)), (0, .int .i64 k), (1, .str w)], mkS 0 0 [] [])) (fun i => w.length - i) (fun i => i ≤ tw notNL w) 0 (Nat.zero_le _) rfl (by (refine Am.sub_of ?_; repeat (first | exact trivial | refine ⟨rfl, ?_⟩))) fun i hi => ?_
  focus
    refine EvtL.seq ?_
    refine EvtL.seqReg ?_
    refine RegL.q (OpQ.move rfl rfl) rfl rfl rfl ?_
    refine RegL.q (OpQ.move rfl rfl) rfl rfl rfl ?_
    refine RegL.q (OpQ.lenStr rfl rfl rfl rfl u_9 rfl) rfl rfl rfl ?_
    refine RegL.q (OpQ.int2 rfl u_3 rfl rfl rfl rfl) rfl rfl rfl ?_
    refine RegL.done ?_
    refine EvtL.cond rfl (fun g2 => ?_) (fun g2 => ?_)
    have h2 := of_decide_eq_true g2
    refine EvtL.skip ?_
    refine EvtL.seq ?_
    refine EvtL.block ?_
    refine EvtL.seqReg ?_
    refine RegL.q (OpQ.move rfl rfl) rfl rfl rfl ?_
    refine RegL.q (OpQ.move rfl rfl) rfl rfl rfl ?_
    refine RegL.q (OpQ.indexD rfl u_9 rfl rfl (by first | assumption | omega | (simp only [List.length_append, List.length_cons, List.length_nil, List.length_take, List.length_drop]; omega))) rfl rfl rfl ?_
    refine RegL.q (OpQ.int2 rfl u_5 rfl rfl rfl rfl) rfl rfl rfl ?_
    refine RegL.done ?_
    refine EvtL.cond rfl (fun g3 => ?_) (fun g3 => ?_)
    have h3 := of_decide_eq_true g3
    refine EvtL.seqReg ?_
    refine RegL.q (OpQ.assign rfl rfl) rfl rfl rfl ?_
    refine RegL.done ?_
    refine EvtL.ret ⟨.inl rfl, rfl, rfl, rfl, _, _, _, (res_tmp rfl rfl), rfl, rfl, ?_⟩
    refine boolRes ?_
    rotate_left
    have h3 := of_decide_eq_false g3
    refine EvtL.skip ?_
    refine EvtL.reg ?_
    refine RegL.q (OpQ.move rfl rfl) rfl rfl rfl ?_
    refine RegL.q (OpQ.addN (b := 1) rfl u_3 rfl rfl (by first | assumption | omega | (simp only [List.length_append, List.length_cons, List.length_nil, List.length_take, List.length_drop]; omega))) rfl rfl rfl ?_
    refine RegL.q (OpQ.assign rfl rfl) rfl rfl rfl ?_
    refine RegL.done ?_
    rotate_left
    have h2 := of_decide_eq_false g2
    refine EvtL.exit ?_
    refine cond_t rfl ?_
    refine EvtL.seq ?_
    refine EvtL.seqReg ?_
    refine RegL.q (OpQ.move rfl rfl) rfl rfl rfl ?_
    refine RegL.q (OpQ.lenStr rfl rfl rfl rfl u_9 rfl) rfl rfl rfl ?_
    refine RegL.q (OpQ.int2 rfl u_3 rfl rfl rfl rfl) rfl rfl rfl ?_
    refine RegL.q (OpQ.move rfl rfl) rfl rfl rfl ?_
    refine RegL.both rfl rfl rfl rfl (fun g4 => ?_) (fun g4 => ?_)
    have h4 := of_decide_eq_true g4
    refine RegL.skip rfl rfl rfl rfl (by assumption) rfl rfl ?_
    refine RegL.skip rfl rfl rfl rfl (by assumption) rfl rfl ?_
    refine RegL.skip rfl rfl rfl rfl (by assumption) rfl rfl ?_
    refine RegL.q (OpQ.pickT rfl rfl (by assumption) rfl) rfl rfl rfl ?_
    refine RegL.q (OpQ.move rfl rfl) rfl rfl rfl ?_
    refine RegL.skip rfl rfl rfl rfl rfl rfl rfl ?_
    refine RegL.skip rfl rfl rfl rfl rfl rfl rfl ?_
    refine RegL.skip rfl rfl rfl rfl rfl rfl rfl ?_
    refine RegL.skip rfl rfl rfl rfl rfl rfl rfl ?_
    refine RegL.skip rfl rfl rfl rfl rfl rfl rfl ?_
    refine RegL.skip rfl rfl rfl rfl rfl rfl rfl ?_
    refine RegL.q (OpQ.pickT rfl rfl rfl rfl) rfl rfl rfl ?_
    refine RegL.done ?_
    refine EvtL.condT rfl rfl ?_
    refine EvtL.seqReg ?_
    refine RegL.q (OpQ.assign rfl rfl) rfl rfl rfl ?_
    refine RegL.done ?_
    refine EvtL.ret ⟨.inl rfl, rfl, rfl, rfl, _, _, _, (res_tmp rfl rfl), rfl, rfl, ?_⟩
    refine boolRes ?_
    rotate_left
    have h4 := of_decide_eq_false g4
    refine RegL.go rfl rfl rfl rfl (by assumption) (OpL.q (OpQ.move rfl rfl)) rfl rfl ?_
    refine RegL.go rfl rfl rfl rfl (by assumption) (OpL.q (OpQ.indexD (n := 0) rfl u_9 rfl rfl (by first | assumption | omega | (simp only [List.length_append, List.length_cons, List.length_nil, List.length_take, List.length_drop]; omega)))) rfl rfl ?_
    refine RegL.go rfl rfl rfl rfl (by assumption) (OpL.q (OpQ.int2 rfl u_5 rfl rfl rfl rfl)) rfl rfl ?_
    refine RegL.q (OpQ.pickF rfl rfl (by assumption) rfl) rfl rfl rfl ?_
    refine RegL.q (OpQ.move rfl rfl) rfl rfl rfl ?_
    refine RegL.both rfl rfl rfl rfl (fun g5 => ?_) (fun g5 => ?_)
    have h5 := of_decide_eq_true g5
    refine RegL.skip rfl rfl rfl rfl (by assumption) rfl rfl ?_
    refine RegL.skip rfl rfl rfl rfl (by assumption) rfl rfl ?_
    refine RegL.skip rfl rfl rfl rfl (by assumption) rfl rfl ?_
    refine RegL.skip rfl rfl rfl rfl (by assumption) rfl rfl ?_
    refine RegL.skip rfl rfl rfl rfl (by assumption) rfl rfl ?_
    refine RegL.skip rfl rfl rfl rfl (by assumption) rfl rfl ?_
    refine RegL.q (OpQ.pickT rfl rfl (by assumption) rfl) rfl rfl rfl ?_
    refine RegL.done ?_
    refine EvtL.condT rfl rfl ?_
    refine EvtL.seqReg ?_
    refine RegL.q (OpQ.assign rfl rfl) rfl rfl rfl ?_
    refine RegL.done ?_
    refine EvtL.ret ⟨.inl rfl, rfl, rfl, rfl, _, _, _, (res_tmp rfl rfl), rfl, rfl, ?_⟩
    refine boolRes ?_
    rotate_left
    have h5 := of_decide_eq_false g5
    refine RegL.go rfl rfl rfl rfl (by assumption) (OpL.q (OpQ.move rfl rfl)) rfl rfl ?_
    refine RegL.go rfl rfl rfl rfl (by assumption) (OpL.q (OpQ.move rfl rfl)) rfl rfl ?_
    refine RegL.go rfl rfl rfl rfl (by assumption) (OpL.q (OpQ.lenStr rfl rfl rfl rfl u_9 rfl)) rfl rfl ?_
    refine RegL.go rfl rfl rfl rfl (by assumption) (OpL.q (OpQ.subN (b := 1) rfl u_3 rfl rfl (by omega))) rfl rfl ?_
    refine RegL.go rfl rfl rfl rfl (by assumption) (OpL.q (OpQ.indexD rfl u_9 rfl rfl (by first | assumption | omega | (simp only [List.length_append, List.length_cons, List.length_nil, List.length_take, List.length_drop]; omega)))) rfl rfl ?_
    refine RegL.go rfl rfl rfl rfl (by assumption) (OpL.q (OpQ.int2 rfl u_5 rfl rfl rfl rfl)) rfl rfl ?_
    refine RegL.q (OpQ.pickF rfl rfl (by assumption) rfl) rfl rfl rfl ?_
    refine RegL.done ?_
    refine EvtL.cond rfl (fun g6 => ?_) (fun g6 => ?_)
    have h6 := of_decide_eq_true g6
    refine EvtL.seqReg ?_
    refine RegL.q (OpQ.assign rfl rfl) rfl rfl rfl ?_
    refine RegL.done ?_
    refine EvtL.ret ⟨.inl rfl, rfl, rfl, rfl, _, _, _, (res_tmp rfl rfl), rfl, rfl, ?_⟩
    refine boolRes ?_
    rotate_left
    have h6 := of_decide_eq_false g6
    refine EvtL.skip ?_
    refine EvtL.seq ?_
    refine EvtL.seqReg ?_
    refine RegL.q (OpQ.move rfl rfl) rfl rfl rfl ?_
    refine RegL.q (OpQ.int2 rfl u_22 rfl rfl rfl rfl) rfl rfl rfl ?_
    refine RegL.done ?_
    refine EvtL.cond rfl (fun g7 => ?_) (fun g7 => ?_)
    have h7 := of_decide_eq_true g7
    refine EvtL.seqReg ?_
    refine RegL.q (OpQ.move rfl rfl) rfl rfl rfl ?_
    refine RegL.q (OpQ.str2 rfl u_9 rfl rfl rfl rfl) rfl rfl rfl ?_
    refine RegL.q (OpQ.move rfl rfl) rfl rfl rfl ?_
    refine RegL.both rfl rfl rfl rfl (fun g8 => ?_) (fun g8 => ?_)
    have h8 := bT g8
    refine RegL.skip rfl rfl rfl rfl (by assumption) rfl rfl ?_
    refine RegL.skip rfl rfl rfl rfl (by assumption) rfl rfl ?_
    refine RegL.q (OpQ.pickT rfl rfl (by assumption) rfl) rfl rfl rfl ?_
    refine RegL.q (OpQ.assign rfl rfl) rfl rfl rfl ?_
    refine RegL.done ?_
    refine EvtL.ret ⟨.inl rfl, rfl, rfl, rfl, _, _, _, (res_tmp rfl rfl), rfl, rfl, ?_⟩
    refine boolRes ?_
    rotate_left
    have h8 := bF g8
    refine RegL.go rfl rfl rfl rfl (by assumption) (OpL.q (OpQ.move rfl rfl)) rfl rfl ?_
    refine RegL.go rfl rfl rfl rfl (by assumption) (OpL.q (OpQ.str2 rfl u_9 rfl rfl rfl rfl)) rfl rfl ?_
    refine RegL.q (OpQ.pickF rfl rfl (by assumption) rfl) rfl rfl rfl ?_
    refine RegL.q (OpQ.assign rfl rfl) rfl rfl rfl ?_
    refine RegL.done ?_
    refine EvtL.ret ⟨.inl rfl, rfl, rfl, rfl, _, _, _, (res_tmp rfl rfl), rfl, rfl, ?_⟩
    refine boolRes ?_
    rotate_left
    have h7 := of_decide_eq_false g7
    refine EvtL.skip ?_
    refine EvtL.seqReg ?_
    refine RegL.q (OpQ.move rfl rfl) rfl rfl rfl ?_
    refine RegL.q (OpQ.int2 rfl u_22 rfl rfl rfl rfl) rfl rfl rfl ?_
    refine RegL.q (OpQ.move rfl rfl) rfl rfl rfl ?_
    refine RegL.both rfl rfl rfl rfl (fun g9 => ?_) (fun g9 => ?_)
    have h9 := nT g9
    refine RegL.skip rfl rfl rfl rfl (by assumption) rfl rfl ?_
    refine RegL.skip rfl rfl rfl rfl (by assumption) rfl rfl ?_
    refine RegL.q (OpQ.pickT rfl rfl (by assumption) rfl) rfl rfl rfl ?_
    refine RegL.q (OpQ.assign rfl rfl) rfl rfl rfl ?_
    refine RegL.done ?_
    refine EvtL.ret ⟨.inl rfl, rfl, rfl, rfl, _, _, _, (res_tmp rfl rfl), rfl, rfl, ?_⟩
    refine boolRes ?_
    rotate_left
    have h9 := nF g9
    refine RegL.go rfl rfl rfl rfl (by assumption) (OpL.q (OpQ.move rfl rfl)) rfl rfl ?_
    refine RegL.go rfl rfl rfl rfl (by assumption) (OpL.callFn rfl rfl (by kernel_rfl) rfl (CallTo.memo (hit_29 (by first | assumption | omega | (simp only [List.length_append, List.length_cons, List.length_nil, List.length_take, List.length_drop]; omega))))) rfl rfl ?_
    refine RegL.q (OpQ.pickF rfl rfl (by assumption) rfl) rfl rfl rfl ?_
    refine RegL.q (OpQ.assign rfl rfl) rfl rfl rfl ?_
    refine RegL.done ?_
    refine EvtL.ret ⟨.inl rfl, rfl, rfl, rfl, _, _, _, (res_tmp rfl rfl), rfl, rfl, ?_⟩
    refine boolRes ?_
    rotate_left
  · have hf : ¬ i < tw notNL w := fun h => by
      have := (tw_step hi (by omega)).2 h
      unfold notNL at this
      rw [decide_eq_true h3] at this; cases this
    unfold textV bareV
    rw [if_pos h1, decide_eq_false (show ¬ tw notNL w = w.length by omega)]; rfl
  · have ht : notNL (w.getD i 0).toNat = true := by unfold notNL; rw [decide_eq_false h3]; rfl
    have := (tw_step hi (by omega)).1 ht
    exact ⟨i + 1, this, by show w.length - (i + 1) < w.length - i; omega, rfl, rfl, by (refine Am.sub_of ?_; repeat (first | exact trivial | refine ⟨rfl, ?_⟩))⟩
  · have hn : w = [] := List.length_eq_zero_iff.1 (by omega)
    unfold textV bareV
    rw [if_pos h1, decide_eq_false (show ¬ w ≠ [] from fun h => h hn)]; simp
  · unfold textV bareV
    rw [if_pos h1, decide_eq_true (show (w.getD 0 0).toNat = 32 by omega)]; simp
  · unfold textV bareV
    rw [if_pos h1, decide_eq_true (show (w.getD (w.length - 1) 0).toNat = 32 by omega)]; simp
  all_goals
    have e : tw notNL w = w.length := by omega
    have hn : w ≠ [] := fun h => h4 (by rw [h]; rfl)
    have hb : bareV w = true := by
      unfold bareV
      rw [e, decide_eq_true rfl, decide_eq_true hn, decide_eq_false (show ¬ (w.getD 0 0).toNat = 32 by omega), decide_eq_false (show ¬ (w.getD (w.length - 1) 0).toNat = 32 by omega)]; rfl
    unfold textV
    rw [if_pos h1, hb]
  · rw [if_pos h7]; unfold searchV; rw [g8]; rfl
  · rw [if_pos h7]; unfold searchV; rw [g8]; rfl
  · rw [if_neg h7, g9]; rfl
  · rw [if_neg h7, g9]; rfl
noncomputable def K6 := addC K5 22 (fun p : { p : Int × List UInt8 // p.2.length ≤ 4000 } => [.int .i64 p.1.1, .str p.1.2]) (fun p => .bool (textV p.1.1 p.1.2))
theorem hit_22 {k : Int} {w : List UInt8} (hw : w.length ≤ 4000) : K6 22 [.int .i64 k, .str w] = some (.bool (textV k w)) :=
  addC_hit (f := 22) (enc := fun p : { p : Int × List UInt8 // p.2.length ≤ 4000 } => [.int .i64 p.1.1, .str p.1.2]) (res := fun p => .bool (textV p.1.1 p.1.2)) (by rintro ⟨⟨a, b⟩, _⟩ ⟨⟨c, d⟩, _⟩ h; cases h; rfl) ⟨(k, w), hw⟩
/-! ### commands -/
def cmdV (k : Int) (w : List UInt8) : Bool := decide (1 ≤ k) && decide (k ≤ 9) && textV k w
theorem command_to (k : Int) (w : List UInt8) (hw : w.length ≤ 4000) : CallTo (EK K6) 17 [.agg [.int .i64 k, .str w]] S0 (.bool (cmdV k w)) := by
  refine CallTo.s0 (fn := Tryz.f17) rfl rfl (by kernel_rfl) rfl rfl rfl rfl ?_
  focus
    refine EvtL.seqReg ?_
    refine RegL.op (OpL.boxS 1 rfl rfl rfl rfl) rfl rfl rfl ?_
    refine RegL.q (OpQ.assign rfl rfl) rfl rfl rfl ?_
    refine RegL.done ?_
    refine EvtL.seqReg ?_
    refine RegL.q (OpQ.fieldAddr rfl f_24_0 rfl) rfl rfl rfl ?_
    refine RegL.op (OpL.loadS1 rfl ag_22 sz_22 rfl rfl rfl) rfl rfl rfl ?_
    refine RegL.q (OpQ.int2 rfl u_22 rfl rfl rfl rfl) rfl rfl rfl ?_
    refine RegL.q (OpQ.move rfl rfl) rfl rfl rfl ?_
    refine RegL.both rfl rfl rfl rfl (fun g1 => ?_) (fun g1 => ?_)
    have h1 := of_decide_eq_true g1
    refine RegL.go rfl rfl rfl rfl (by assumption) (OpL.q (OpQ.fieldAddr rfl f_24_0 rfl)) rfl rfl ?_
    refine RegL.go rfl rfl rfl rfl (by assumption) (OpL.loadS1 rfl ag_22 sz_22 rfl rfl rfl) rfl rfl ?_
    refine RegL.go rfl rfl rfl rfl (by assumption) (OpL.q (OpQ.int2 rfl u_22 rfl rfl rfl rfl)) rfl rfl ?_
    refine RegL.q (OpQ.pickT rfl rfl (by assumption) rfl) rfl rfl rfl ?_
    refine RegL.q (OpQ.move rfl rfl) rfl rfl rfl ?_
    refine RegL.both rfl rfl rfl rfl (fun g2 => ?_) (fun g2 => ?_)
    have h2 := of_decide_eq_true g2
    refine RegL.go rfl rfl rfl rfl (by assumption) (OpL.q (OpQ.fieldAddr rfl f_24_0 rfl)) rfl rfl ?_
    refine RegL.go rfl rfl rfl rfl (by assumption) (OpL.loadS1 rfl ag_22 sz_22 rfl rfl rfl) rfl rfl ?_
    refine RegL.go rfl rfl rfl rfl (by assumption) (OpL.q (OpQ.fieldAddr rfl f_24_1 rfl)) rfl rfl ?_
    refine RegL.go rfl rfl rfl rfl (by assumption) (OpL.loadS1 rfl ag_9 sz_9 rfl rfl rfl) rfl rfl ?_
    refine RegL.go rfl rfl rfl rfl (by assumption) (OpL.callFn rfl rfl (by kernel_rfl) rfl (CallTo.memo (hit_22 (by first | assumption | omega | (simp only [List.length_append, List.length_cons, List.length_nil, List.length_take, List.length_drop]; omega))))) rfl rfl ?_
    refine RegL.q (OpQ.pickT rfl rfl (by assumption) rfl) rfl rfl rfl ?_
    refine RegL.q (OpQ.assign rfl rfl) rfl rfl rfl ?_
    refine RegL.done ?_
    refine EvtL.ret ⟨.inl rfl, rfl, rfl, rfl, _, _, _, (res_tmp rfl rfl), rfl, rfl, ?_⟩
    refine boolRes ?_
    rotate_left
    have h2 := of_decide_eq_false g2
    refine RegL.skip rfl rfl rfl rfl (by assumption) rfl rfl ?_
    refine RegL.skip rfl rfl rfl rfl (by assumption) rfl rfl ?_
    refine RegL.skip rfl rfl rfl rfl (by assumption) rfl rfl ?_
    refine RegL.skip rfl rfl rfl rfl (by assumption) rfl rfl ?_
    refine RegL.skip rfl rfl rfl rfl (by assumption) rfl rfl ?_
    refine RegL.q (OpQ.pickF rfl rfl (by assumption) rfl) rfl rfl rfl ?_
    refine RegL.q (OpQ.assign rfl rfl) rfl rfl rfl ?_
    refine RegL.done ?_
    refine EvtL.ret ⟨.inl rfl, rfl, rfl, rfl, _, _, _, (res_tmp rfl rfl), rfl, rfl, ?_⟩
    refine boolRes ?_
    rotate_left
    have h1 := of_decide_eq_false g1
    refine RegL.skip rfl rfl rfl rfl (by assumption) rfl rfl ?_
    refine RegL.skip rfl rfl rfl rfl (by assumption) rfl rfl ?_
    refine RegL.skip rfl rfl rfl rfl (by assumption) rfl rfl ?_
    refine RegL.q (OpQ.pickF rfl rfl (by assumption) rfl) rfl rfl rfl ?_
    refine RegL.q (OpQ.move rfl rfl) rfl rfl rfl ?_
    refine RegL.skip rfl rfl rfl rfl rfl rfl rfl ?_
    refine RegL.skip rfl rfl rfl rfl rfl rfl rfl ?_
    refine RegL.skip rfl rfl rfl rfl rfl rfl rfl ?_
    refine RegL.skip rfl rfl rfl rfl rfl rfl rfl ?_
    refine RegL.skip rfl rfl rfl rfl rfl rfl rfl ?_
    refine RegL.q (OpQ.pickF rfl rfl rfl rfl) rfl rfl rfl ?_
    refine RegL.q (OpQ.assign rfl rfl) rfl rfl rfl ?_
    refine RegL.done ?_
    refine EvtL.ret ⟨.inl rfl, rfl, rfl, rfl, _, _, _, (res_tmp rfl rfl), rfl, rfl, ?_⟩
    refine boolRes ?_
    rotate_left
  all_goals (unfold cmdV; simp only [*]; rfl)
noncomputable def K7 := addC K6 17 (fun p : { p : Int × List UInt8 // p.2.length ≤ 4000 } => [.agg [.int .i64 p.1.1, .str p.1.2]]) (fun p => .bool (cmdV p.1.1 p.1.2))
theorem hit_17 {k : Int} {w : List UInt8} (hw : w.length ≤ 4000) : K7 17 [.agg [.int .i64 k, .str w]] = some (.bool (cmdV k w)) :=
  addC_hit (f := 17) (enc := fun p : { p : Int × List UInt8 // p.2.length ≤ 4000 } => [.agg [.int .i64 p.1.1, .str p.1.2]]) (res := fun p => .bool (cmdV p.1.1 p.1.2)) (by rintro ⟨⟨a, b⟩, _⟩ ⟨⟨c, d⟩, _⟩ h; cases h; rfl) ⟨(k, w), hw⟩
/-! ### lines -/
/-- The line of a command. -/
def lineS (k : Nat) (w : List UInt8) : List UInt8 := if hasV k then wordL.getD k [] ++ ([32] ++ w) else wordL.getD k []
def printV (k : Int) (w : List UInt8) : AV := if cmdV k w then (if 3000 < (lineS k.toNat w).length then .tuple [.str [], .int .i64 3] else .tuple [.str (lineS k.toNat w), .int .i64 0]) else .tuple [.str [], .int .i64 2]
theorem word_drop {n : Nat} (h : n < 10) : (wordL.map AV.str).drop (n * (0 + 1)) = .str (wordL.getD n []) :: (wordL.map AV.str).drop (n + 1) := by
  have h' : n < wordL.length := h
  rw [Nat.zero_add, Nat.mul_one, List.drop_eq_getElem_cons (by rw [List.length_map]; exact h'), List.getElem_map, List.getD, List.getElem?_eq_getElem h', Option.getD_some]
theorem word_len (n : Nat) : (wordL.getD n []).length ≤ 7 := by
  match n with
  | 0 | 1 | 2 | 3 | 4 | 5 | 6 | 7 | 8 | 9 => decide
  | n + 10 => exact Nat.zero_le _
theorem cmd_kind {k : Int} {w : List UInt8} (h : cmdV k w = true) : ∃ n : Nat, k = n ∧ 1 ≤ n ∧ n ≤ 9 ∧ textV n w = true := by
  unfold cmdV at h
  simp only [Bool.and_eq_true, decide_eq_true_eq] at h
  obtain ⟨n, rfl⟩ : ∃ n : Nat, k = n := ⟨k.toNat, by omega⟩
  exact ⟨n, rfl, by omega, by omega, h.2⟩
theorem rprint_to (k : Int) (w : List UInt8) (hw : w.length ≤ 4000) : CallTo (EK K7) 9 [.agg [.int .i64 k, .str w]] S0 (printV k w) := by
  refine CallTo.s0 (fn := Tryz.f9) rfl rfl (by kernel_rfl) rfl rfl rfl rfl ?_
  focus
    refine EvtL.seqReg ?_
    refine RegL.op (OpL.boxS 1 rfl rfl rfl rfl) rfl rfl rfl ?_
    refine RegL.q (OpQ.assign rfl rfl) rfl rfl rfl ?_
    refine RegL.q (OpQ.assign rfl rfl) rfl rfl rfl ?_
    refine RegL.done ?_
    refine EvtL.seq ?_
    refine EvtL.seqReg ?_
    refine RegL.op (OpL.loadSA rfl ag_24 sz_24 rfl rfl (Nat.le_of_ble_eq_true rfl)) rfl rfl rfl ?_
    refine RegL.op (OpL.callFn rfl rfl (by kernel_rfl) rfl (CallTo.memo (hit_17 (by first | assumption | omega | (simp only [List.length_append, List.length_cons, List.length_nil, List.length_take, List.length_drop]; omega))))) rfl rfl rfl ?_
    refine RegL.q (OpQ.not rfl rfl) rfl rfl rfl ?_
    refine RegL.done ?_
    refine EvtL.cond rfl (fun g1 => ?_) (fun g1 => ?_)
    have h1 := notT g1
    refine EvtL.seqReg ?_
    refine RegL.q (OpQ.assign rfl rfl) rfl rfl rfl ?_
    refine RegL.q (OpQ.assign rfl rfl) rfl rfl rfl ?_
    refine RegL.done ?_
    refine EvtL.ret ⟨.inl rfl, rfl, rfl, rfl, _, _, _, (res_tmp rfl (res_tmp rfl rfl)), rfl, rfl, ?_⟩
    rotate_left
    have h1 := notF g1
    refine EvtL.skip ?_
    refine EvtL.seqDrawN (by kernel_rfl) ?_
    refine RegN.aG (OpA.callFn rfl rfl (by kernel_rfl) rfl (hit_15)) (.inl rfl) rfl rfl ?_
    refine RegN.qG (OpQ.fieldAddr rfl f_24_0 rfl) (.inl rfl) rfl rfl ?_
    refine RegN.loadS1 rfl ag_22 sz_22 rfl rfl rfl (by kernel_rfl) (.inl rfl) rfl rfl ?_
    rotate_left
  · unfold printV
    rw [if_neg (by rw [h1]; exact Bool.false_ne_true)]
  obtain ⟨n, rfl, hn1, hn2, ht⟩ := cmd_kind h1
  have hwl := word_len n
  refine RegN.qG (OpQ.indexAddrI (k := n) rfl u_32 sz_9 rfl rfl (by omega) rfl) (.inl rfl) rfl rfl ?_
  rw [word_drop (by omega)]
  have hone : ({ data := #[32] } : ByteArray).data.toList.length = 1 := rfl
  focus
    refine RegN.qG (OpQ.loadI1 rfl rfl ag_9 sz_9) (.inl rfl) rfl rfl ?_
    refine RegN.qG (OpQ.assign rfl rfl) (.inl rfl) rfl rfl ?_
    refine RegN.done ?_
    refine EvtL.seq ?_
    refine EvtL.seqReg ?_
    refine RegL.q (OpQ.fieldAddr rfl f_24_0 rfl) rfl rfl rfl ?_
    refine RegL.op (OpL.loadS1 rfl ag_22 sz_22 rfl rfl rfl) rfl rfl rfl ?_
    refine RegL.op (OpL.callFn rfl rfl (by kernel_rfl) rfl (CallTo.memo (hit_16))) rfl rfl rfl ?_
    refine RegL.done ?_
    refine EvtL.cond rfl (fun g2 => ?_) (fun g2 => ?_)
    refine EvtL.reg ?_
    refine RegL.q (OpQ.move rfl rfl) rfl rfl rfl ?_
    refine RegL.q (OpQ.strAdd rfl u_9 rfl rfl (by first | assumption | omega | (simp only [List.length_append, List.length_cons, List.length_nil, List.length_take, List.length_drop]; omega))) rfl rfl rfl ?_
    refine RegL.q (OpQ.fieldAddr rfl f_24_1 rfl) rfl rfl rfl ?_
    refine RegL.op (OpL.loadS1 rfl ag_9 sz_9 rfl rfl rfl) rfl rfl rfl ?_
    refine RegL.q (OpQ.strAdd rfl u_9 rfl rfl (by first | assumption | omega | (simp only [List.length_append, List.length_cons, List.length_nil, List.length_take, List.length_drop]; omega))) rfl rfl rfl ?_
    refine RegL.q (OpQ.assign rfl rfl) rfl rfl rfl ?_
    refine RegL.done ?_
    refine EvtL.seq ?_
    refine EvtL.seqReg ?_
    refine RegL.q (OpQ.move rfl rfl) rfl rfl rfl ?_
    refine RegL.q (OpQ.lenStr rfl rfl rfl rfl u_9 rfl) rfl rfl rfl ?_
    refine RegL.q (OpQ.int2 rfl u_3 rfl rfl rfl rfl) rfl rfl rfl ?_
    refine RegL.done ?_
    refine EvtL.cond rfl (fun g3 => ?_) (fun g3 => ?_)
    have h3 := of_decide_eq_true g3
    refine EvtL.seqReg ?_
    refine RegL.q (OpQ.assign rfl rfl) rfl rfl rfl ?_
    refine RegL.q (OpQ.assign rfl rfl) rfl rfl rfl ?_
    refine RegL.done ?_
    refine EvtL.ret ⟨.inl rfl, rfl, rfl, rfl, _, _, _, (res_tmp rfl (res_tmp rfl rfl)), rfl, rfl, ?_⟩
    rotate_left
    have h3 := of_decide_eq_false g3
    refine EvtL.skip ?_
    refine EvtL.seqReg ?_
    refine RegL.q (OpQ.move rfl rfl) rfl rfl rfl ?_
    refine RegL.q (OpQ.assign rfl rfl) rfl rfl rfl ?_
    refine RegL.q (OpQ.assign rfl rfl) rfl rfl rfl ?_
    refine RegL.done ?_
    refine EvtL.ret ⟨.inl rfl, rfl, rfl, rfl, _, _, _, (res_tmp rfl (res_tmp rfl rfl)), rfl, rfl, ?_⟩
    rotate_left
    refine EvtL.skip ?_
    refine EvtL.seq ?_
    refine EvtL.seqReg ?_
    refine RegL.q (OpQ.move rfl rfl) rfl rfl rfl ?_
    refine RegL.q (OpQ.lenStr rfl rfl rfl rfl u_9 rfl) rfl rfl rfl ?_
    refine RegL.q (OpQ.int2 rfl u_3 rfl rfl rfl rfl) rfl rfl rfl ?_
    refine RegL.done ?_
    refine EvtL.cond rfl (fun g4 => ?_) (fun g4 => ?_)
    have h4 := of_decide_eq_true g4
    exact absurd h4 (by omega)
    have h4 := of_decide_eq_false g4
    refine EvtL.skip ?_
    refine EvtL.seqReg ?_
    refine RegL.q (OpQ.move rfl rfl) rfl rfl rfl ?_
    refine RegL.q (OpQ.assign rfl rfl) rfl rfl rfl ?_
    refine RegL.q (OpQ.assign rfl rfl) rfl rfl rfl ?_
    refine RegL.done ?_
    refine EvtL.ret ⟨.inl rfl, rfl, rfl, rfl, _, _, _, (res_tmp rfl (res_tmp rfl rfl)), rfl, rfl, ?_⟩
    rotate_left
  all_goals unfold printV
  all_goals rw [if_pos h1]
  all_goals have el : lineS (n : Int).toNat w = lineS n w := rfl
  all_goals rw [el]
  all_goals unfold lineS
  · rw [if_pos g2, if_pos (by simp only [List.length_append] at h3 ⊢; rw [hone] at h3; simp only [List.length_cons, List.length_nil]; omega)]
  · rw [if_pos g2, if_neg (by simp only [List.length_append] at h3 ⊢; rw [hone] at h3; simp only [List.length_cons, List.length_nil]; omega), ← List.append_assoc]
  · rw [if_neg (show ¬ hasV (n : Int) = true by rw [g2]; exact Bool.false_ne_true), if_neg (by omega)]
noncomputable def K8 := addC K7 9 (fun p : { p : Int × List UInt8 // p.2.length ≤ 4000 } => [.agg [.int .i64 p.1.1, .str p.1.2]]) (fun p => printV p.1.1 p.1.2)
/-! ### reading a line -/
def notSp (n : Int) : Bool := !decide (n = 32)
/-- The text of a command in a line. -/
def restS (k : Nat) (w : List UInt8) : List UInt8 := if hasV k then w.drop (tw notSp w + 1) else []
/-- Is a line one of a kind of commands? -/
def isCmd (w : List UInt8) (k : Nat) : Bool := bytesEq (w.take (tw notSp w)) (wordL.getD k []) && (hasV k == decide (tw notSp w < w.length)) && textV k (restS k w)
def kinds : List Nat := [1, 2, 3, 4, 5, 6, 7, 8, 9]
def parseV (w : List UInt8) : AV := if 3000 < w.length then .tuple [.agg [.int .i64 0, .str []], .int .i64 3] else match kinds.find? (isCmd w) with
  | some k => .tuple [.agg [.int .i64 (k : Nat), .str (restS k w)], .int .i64 0]
  | none => .tuple [.agg [.int .i64 0, .str []], .int .i64 4]
theorem find_kinds {w : List UInt8} {k : Nat} (h1 : 1 ≤ k) (hk : k ≤ 9) (hc : isCmd w k = true) (hb : ∀ j, 1 ≤ j → j < k → isCmd w j = false) : kinds.find? (isCmd w) = some k := by
  have : kinds = List.range' 1 (k - 1) ++ List.range' k (10 - k) := by
    have h2 : k = 1 ∨ k = 2 ∨ k = 3 ∨ k = 4 ∨ k = 5 ∨ k = 6 ∨ k = 7 ∨ k = 8 ∨ k = 9 := by omega
    rcases h2 with rfl | rfl | rfl | rfl | rfl | rfl | rfl | rfl | rfl <;> rfl
  rw [this, List.find?_append, List.find?_eq_none.2 (fun j hj => by
    have := List.mem_range'_1.1 hj
    rw [hb j (by omega) (by omega)]; exact Bool.false_ne_true)]
  obtain ⟨m, hm⟩ : ∃ m, 10 - k = m + 1 := ⟨9 - k, by omega⟩
  rw [hm, List.range'_succ, List.find?_cons_of_pos hc]; rfl
theorem find_none {w : List UInt8} (hb : ∀ j, 1 ≤ j → j < 10 → isCmd w j = false) : kinds.find? (isCmd w) = none := List.find?_eq_none.2 fun j hj => by
  have : 1 ≤ j ∧ j < 10 := by
    simp only [kinds, List.mem_cons, List.mem_nil_iff, or_false] at hj
    omega
  rw [hb j this.1 this.2]; exact Bool.false_ne_true
theorem rparse_to (w : List UInt8) (hw : w.length ≤ 4000) : CallTo (EK K8) 7 [.str w] S0 (parseV w) := by
  refine CallTo.s0 (fn := Tryz.f7) rfl rfl (by kernel_rfl) rfl rfl rfl rfl ?_
  focus
    refine EvtL.seqReg ?_
    refine RegL.op (OpL.allocS 1 rfl z_24 rfl) rfl rfl rfl ?_
    refine RegL.q (OpQ.assign rfl rfl) rfl rfl rfl ?_
    refine RegL.done ?_
    refine EvtL.seq ?_
    refine EvtL.seqReg ?_
    refine RegL.q (OpQ.move rfl rfl) rfl rfl rfl ?_
    refine RegL.q (OpQ.lenStr rfl rfl rfl rfl u_9 rfl) rfl rfl rfl ?_
    refine RegL.q (OpQ.int2 rfl u_3 rfl rfl rfl rfl) rfl rfl rfl ?_
    refine RegL.done ?_
    refine EvtL.cond rfl (fun g1 => ?_) (fun g1 => ?_)
    have h1 := of_decide_eq_true g1
    refine EvtL.seqReg ?_
    refine RegL.q (OpQ.build rfl pl_24 rfl rfl) rfl rfl rfl ?_
    refine RegL.opN (OpL.storeS rfl sz_24 rfl rfl rfl rfl rfl rfl) rfl rfl ?_
    refine RegL.q (OpQ.assign rfl rfl) rfl rfl rfl ?_
    refine RegL.done ?_
    refine EvtL.ret ⟨.inl rfl, rfl, rfl, rfl, _, _, _, (res_cellA rfl ag_24 sz_24 rfl (Nat.le_of_ble_eq_true rfl) (res_tmp rfl rfl)), rfl, rfl, ?_⟩
    rotate_left
    have h1 := of_decide_eq_false g1
    refine EvtL.skip ?_
    refine EvtL.seqReg ?_
    refine RegL.q (OpQ.assign rfl rfl) rfl rfl rfl ?_
    refine RegL.done ?_
    rotate_left
  · unfold parseV
    rw [if_pos (by omega)]
  have hle := tw_le notSp w
  refine EvtL.cut [(4, .int .i64 ((tw notSp w : Nat) : Int)), (0, .str w), (2, .ptr 0 0), (3, .int .i64 0)] (mkS 1 0 [] [(0, some (.cells [.int .i64 0, .str []] 24 false))]) ?_ ?_
  · refine EvtL.block ?_
    refine EvtL.loopI (fun i : Nat => ([(4, .int .i64 (i : Nat)), (0, .str w), (2, .ptr 0 0), (3, .int .i64 0)], mkS 1 0 [] [(0, some (.cells [.int .i64 0, .str []] 24 false))])) (fun i => w.length - i) (fun i => i ≤ tw notSp w) 0 (Nat.zero_le _) rfl (by (refine Am.sub_of ?_; repeat (first | exact trivial | refine ⟨rfl, ?_⟩))) fun i hi => ?_
    focus
      refine EvtL.seq ?_
      refine EvtL.seqReg ?_
      refine RegL.q (OpQ.move rfl rfl) rfl rfl rfl ?_
      refine RegL.q (OpQ.move rfl rfl) rfl rfl rfl ?_
      refine RegL.q (OpQ.lenStr rfl rfl rfl rfl u_9 rfl) rfl rfl rfl ?_
      refine RegL.q (OpQ.int2 rfl u_3 rfl rfl rfl rfl) rfl rfl rfl ?_
      refine RegL.q (OpQ.move rfl rfl) rfl rfl rfl ?_
      refine RegL.both rfl rfl rfl rfl (fun g2 => ?_) (fun g2 => ?_)
      have h2 := of_decide_eq_true g2
      refine RegL.go rfl rfl rfl rfl (by assumption) (OpL.q (OpQ.move rfl rfl)) rfl rfl ?_
      refine RegL.go rfl rfl rfl rfl (by assumption) (OpL.q (OpQ.move rfl rfl)) rfl rfl ?_
      refine RegL.go rfl rfl rfl rfl (by assumption) (OpL.q (OpQ.indexD rfl u_9 rfl rfl (by first | assumption | omega | (simp only [List.length_append, List.length_cons, List.length_nil, List.length_take, List.length_drop]; omega)))) rfl rfl ?_
      refine RegL.go rfl rfl rfl rfl (by assumption) (OpL.q (OpQ.int2 rfl u_5 rfl rfl rfl rfl)) rfl rfl ?_
      refine RegL.q (OpQ.pickT rfl rfl (by assumption) rfl) rfl rfl rfl ?_
      refine RegL.done ?_
      refine EvtL.cond rfl (fun g3 => ?_) (fun g3 => ?_)
      have h3 := nT g3
      refine EvtL.skip ?_
      refine EvtL.block ?_
      refine EvtL.reg ?_
      refine RegL.q (OpQ.move rfl rfl) rfl rfl rfl ?_
      refine RegL.q (OpQ.addN (b := 1) rfl u_3 rfl rfl (by first | assumption | omega | (simp only [List.length_append, List.length_cons, List.length_nil, List.length_take, List.length_drop]; omega))) rfl rfl rfl ?_
      refine RegL.q (OpQ.assign rfl rfl) rfl rfl rfl ?_
      refine RegL.done ?_
      rotate_left
      have h3 := nF g3
      refine EvtL.exit ?_
      refine cond_t rfl ?_
      rotate_left
      have h2 := of_decide_eq_false g2
      refine RegL.skip rfl rfl rfl rfl (by assumption) rfl rfl ?_
      refine RegL.skip rfl rfl rfl rfl (by assumption) rfl rfl ?_
      refine RegL.skip rfl rfl rfl rfl (by assumption) rfl rfl ?_
      refine RegL.skip rfl rfl rfl rfl (by assumption) rfl rfl ?_
      refine RegL.q (OpQ.pickF rfl rfl (by assumption) rfl) rfl rfl rfl ?_
      refine RegL.done ?_
      refine EvtL.condF rfl rfl ?_
      refine EvtL.exit ?_
      refine cond_t rfl ?_
      rotate_left
    · have ht : notSp (w.getD i 0).toNat = true := by unfold notSp; rw [decide_eq_false h3]; rfl
      have := (tw_step hi (by omega)).1 ht
      exact ⟨i + 1, this, by show w.length - (i + 1) < w.length - i; omega, rfl, rfl, by (refine Am.sub_of ?_; repeat (first | exact trivial | refine ⟨rfl, ?_⟩))⟩
    · have hf : ¬ i < tw notSp w := fun h => by
        have := (tw_step hi (by omega)).2 h
        unfold notSp at this
        rw [decide_eq_true h3] at this; cases this
      have e : tw notSp w = i := by omega
      refine ⟨rfl, rfl, rfl, ?_⟩
      rw [e]; (refine Am.sub_of ?_; repeat (first | exact trivial | refine ⟨rfl, ?_⟩))
    · have e : tw notSp w = i := by omega
      refine ⟨rfl, rfl, rfl, ?_⟩
      rw [e]; (refine Am.sub_of ?_; repeat (first | exact trivial | refine ⟨rfl, ?_⟩))
  refine EvtL.seq ?_
  refine EvtL.seqReg ?_
  refine RegL.q (OpQ.assign rfl rfl) rfl rfl rfl ?_
  refine RegL.done ?_
  refine EvtL.block ?_
  refine EvtL.loopI (fun x : Nat × St => ([(5, .int .i64 (x.1 : Nat)), (4, .int .i64 ((tw notSp w : Nat) : Int)), (0, .str w), (2, .ptr 0 0), (3, .int .i64 0)], x.2)) (fun x => 10 - x.1)
    (fun x => 1 ≤ x.1 ∧ x.1 ≤ 10 ∧ (∀ j, 1 ≤ j → j < x.1 → isCmd w j = false) ∧ 1 ≤ x.2.next ∧ x.2.bound = 0 ∧ x.2.log = [] ∧ x.2.heap.get 0 = some (.cells [.int .i64 0, .str []] 24 false))
    (1, mkS 1 0 [] [(0, some (.cells [.int .i64 0, .str []] 24 false))]) ⟨Nat.le_refl _, by decide, fun j h1 h2 => by omega, Nat.le_refl _, rfl, rfl, get_mkS 0⟩ rfl (by (refine Am.sub_of ?_; repeat (first | exact trivial | refine ⟨rfl, ?_⟩))) ?_
  rintro ⟨k, st⟩ ⟨hk1, hk2, hbf, hn, hbd, hlg, hg0⟩
  dsimp only at hk1 hk2 hbf hn hbd hlg hg0 ⊢
  focus
    refine EvtL.seq ?_
    refine EvtL.seqReg ?_
    refine RegL.q (OpQ.move rfl rfl) rfl rfl rfl ?_
    refine RegL.q (OpQ.int2 rfl u_22 rfl rfl rfl rfl) rfl rfl rfl ?_
    refine RegL.done ?_
    refine EvtL.cond rfl (fun g2 => ?_) (fun g2 => ?_)
    have h2 := of_decide_eq_true g2
    refine EvtL.skip ?_
    refine EvtL.seq ?_
    refine EvtL.block ?_
    refine EvtL.seqReg ?_
    refine RegL.q (OpQ.move rfl rfl) rfl rfl rfl ?_
    refine RegL.q (OpQ.build rfl pl_24 rfl rfl) rfl rfl rfl ?_
    refine RegL.op (OpL.alloc rfl z_24) rfl rfl rfl ?_
    rotate_left
    have h2 := of_decide_eq_false g2
    refine EvtL.exit ?_
    refine cond_t rfl ?_
    refine EvtL.seqReg ?_
    refine RegL.q (OpQ.build rfl pl_24 rfl rfl) rfl rfl rfl ?_
    refine RegL.opN (OpL.store rfl sz_24 rfl rfl (storeN_at (by assumption) rfl rfl rfl)) rfl rfl ?_
    refine RegL.q (OpQ.assign rfl rfl) rfl rfl rfl ?_
    refine RegL.done ?_
    rotate_left
  · have F0 : Fresh 24 st (st.alloc (.cells [.int .i64 0, .str []] 24 false)) _ := Fresh.alloc
    have hf := F0.cell
    refine RegL.opN (OpL.store rfl sz_24 rfl rfl (storeN_at (by assumption) rfl rfl rfl)) rfl rfl ?_
    refine RegL.done ?_
    refine EvtL.seq ?_
    refine EvtL.seqDrawN (by kernel_rfl) ?_
    refine RegN.qG (OpQ.move rfl rfl) (.inl rfl) rfl rfl ?_
    refine RegN.qG (OpQ.move rfl rfl) (.inl rfl) rfl rfl ?_
    refine RegN.qG (OpQ.sliceStr rfl u_9 rfl rfl rfl (bounds_some (by omega)) rfl ⟨by omega, by omega⟩) (.inl rfl) rfl rfl ?_
    refine RegN.aG (OpA.callFn rfl rfl (by kernel_rfl) rfl (hit_15)) (.inl rfl) rfl rfl ?_
    refine RegN.qG (OpQ.move rfl rfl) (.inl rfl) rfl rfl ?_
    refine RegN.qG (OpQ.indexAddrI rfl u_32 sz_9 rfl rfl (by first | assumption | omega | (simp only [List.length_append, List.length_cons, List.length_nil, List.length_take, List.length_drop]; omega)) rfl) (.inl rfl) rfl rfl ?_
    have F1 := F0.put (cells' := [.int .i64 (k : Nat), .str []]) (by omega)
    generalize hst2 : (st.alloc (.cells [.int .i64 0, .str []] 24 false)).put st.next (some (.cells [.int .i64 (k : Nat), .str []] 24 false)) = st2 at F1
    refine RegN.st hst2 ?_
    have hg2 := F1.cell
    have hg20 := (F1.low 0 (by omega)).trans hg0
    rw [word_drop (by omega)]
    have cont : isCmd w k = false → ∀ j, 1 ≤ j → j < k + 1 → isCmd w j = false := fun h j h1 h2 => by
      by_cases e : j = k
      · rw [e]; exact h
      · exact hbf j h1 (by omega)
    have hk3 : decide ((1 : Int) ≤ k) = true := decide_eq_true (by omega)
    focus
      refine RegN.qG (OpQ.loadI1 rfl rfl ag_9 sz_9) (.inl rfl) rfl rfl ?_
      refine RegN.qG (OpQ.str2 rfl u_9 rfl rfl rfl rfl) (.inl rfl) rfl rfl ?_
      refine RegN.qG (OpQ.move rfl rfl) (.inl rfl) rfl rfl ?_
      refine RegN.both rfl rfl rfl rfl (fun g3 => ?_) (fun g3 => ?_)
      have h3 := bnT g3
      refine RegN.skip rfl rfl rfl rfl (by assumption) rfl rfl ?_
      refine RegN.skip rfl rfl rfl rfl (by assumption) rfl rfl ?_
      refine RegN.skip rfl rfl rfl rfl (by assumption) rfl rfl ?_
      refine RegN.skip rfl rfl rfl rfl (by assumption) rfl rfl ?_
      refine RegN.skip rfl rfl rfl rfl (by assumption) rfl rfl ?_
      refine RegN.skip rfl rfl rfl rfl (by assumption) rfl rfl ?_
      refine RegN.skip rfl rfl rfl rfl (by assumption) rfl rfl ?_
      refine RegN.qG (OpQ.pickT rfl rfl (by assumption) rfl) (.inl rfl) rfl rfl ?_
      refine RegN.done ?_
      refine EvtL.condT rfl rfl ?_
      refine EvtL.exit ?_
      refine cond_t rfl ?_
      refine EvtL.reg ?_
      refine RegL.q (OpQ.move rfl rfl) rfl rfl rfl ?_
      refine RegL.q (OpQ.addN (b := 1) rfl u_22 rfl rfl (by first | assumption | omega | (simp only [List.length_append, List.length_cons, List.length_nil, List.length_take, List.length_drop]; omega))) rfl rfl rfl ?_
      refine RegL.q (OpQ.assign rfl rfl) rfl rfl rfl ?_
      refine RegL.done ?_
      rotate_left
      have h3 := bnF g3
      refine RegN.qG (OpQ.move rfl rfl) (guardOn_go rfl rfl rfl rfl (by assumption)) rfl rfl ?_
      refine RegN.aG (OpA.callFn rfl rfl (by kernel_rfl) rfl (hit_16)) (guardOn_go rfl rfl rfl rfl (by assumption)) rfl rfl ?_
      refine RegN.qG (OpQ.move rfl rfl) (guardOn_go rfl rfl rfl rfl (by assumption)) rfl rfl ?_
      refine RegN.qG (OpQ.move rfl rfl) (guardOn_go rfl rfl rfl rfl (by assumption)) rfl rfl ?_
      refine RegN.qG (OpQ.lenStr rfl rfl rfl rfl u_9 rfl) (guardOn_go rfl rfl rfl rfl (by assumption)) rfl rfl ?_
      refine RegN.qG (OpQ.int2 rfl u_3 rfl rfl rfl rfl) (guardOn_go rfl rfl rfl rfl (by assumption)) rfl rfl ?_
      refine RegN.qG (OpQ.eqBool (neg := true) rfl u_4 rfl rfl) (guardOn_go rfl rfl rfl rfl (by assumption)) rfl rfl ?_
      refine RegN.qG (OpQ.pickF rfl rfl (by assumption) rfl) (.inl rfl) rfl rfl ?_
      refine RegN.done ?_
      refine EvtL.cond rfl (fun g4 => ?_) (fun g4 => ?_)
      refine EvtL.exit ?_
      refine cond_t rfl ?_
      refine EvtL.reg ?_
      refine RegL.q (OpQ.move rfl rfl) rfl rfl rfl ?_
      refine RegL.q (OpQ.addN (b := 1) rfl u_22 rfl rfl (by first | assumption | omega | (simp only [List.length_append, List.length_cons, List.length_nil, List.length_take, List.length_drop]; omega))) rfl rfl rfl ?_
      refine RegL.q (OpQ.assign rfl rfl) rfl rfl rfl ?_
      refine RegL.done ?_
      rotate_left
      refine EvtL.skip ?_
      refine EvtL.seq ?_
      refine EvtL.seqReg ?_
      refine RegL.q (OpQ.move rfl rfl) rfl rfl rfl ?_
      refine RegL.op (OpL.callFn rfl rfl (by kernel_rfl) rfl (CallTo.memo (hit_16))) rfl rfl rfl ?_
      refine RegL.done ?_
      refine EvtL.cond rfl (fun g5 => ?_) (fun g5 => ?_)
      refine EvtL.reg ?_
      refine RegL.q (OpQ.move rfl rfl) rfl rfl rfl ?_
      refine RegL.q (OpQ.move rfl rfl) rfl rfl rfl ?_
      refine RegL.q (OpQ.addN (b := 1) rfl u_3 rfl rfl (by first | assumption | omega | (simp only [List.length_append, List.length_cons, List.length_nil, List.length_take, List.length_drop]; omega))) rfl rfl rfl ?_
      rotate_left
      refine EvtL.skip ?_
      refine EvtL.seqReg ?_
      refine RegL.op (OpL.load rfl rfl (loadAgg_at ag_24 sz_24 (by assumption) (Nat.le_of_ble_eq_true rfl))) rfl rfl rfl ?_
      refine RegL.op (OpL.callFn rfl rfl (by kernel_rfl) rfl (CallTo.memo (hit_17 (by first | assumption | omega | (simp only [List.length_append, List.length_cons, List.length_nil, List.length_take, List.length_drop]; omega))))) rfl rfl rfl ?_
      refine RegL.done ?_
      refine EvtL.cond rfl (fun g6 => ?_) (fun g6 => ?_)
      refine EvtL.seqReg ?_
      refine RegL.op (OpL.load rfl rfl (loadAgg_at ag_24 sz_24 (by assumption) (Nat.le_of_ble_eq_true rfl))) rfl rfl rfl ?_
      refine RegL.opN (OpL.store rfl sz_24 rfl rfl (storeN_at (by assumption) rfl rfl rfl)) rfl rfl ?_
      refine RegL.q (OpQ.assign rfl rfl) rfl rfl rfl ?_
      refine RegL.done ?_
      rotate_left
      refine EvtL.skip ?_
      refine EvtL.reg ?_
      refine RegL.q (OpQ.move rfl rfl) rfl rfl rfl ?_
      refine RegL.q (OpQ.addN (b := 1) rfl u_22 rfl rfl (by first | assumption | omega | (simp only [List.length_append, List.length_cons, List.length_nil, List.length_take, List.length_drop]; omega))) rfl rfl rfl ?_
      refine RegL.q (OpQ.assign rfl rfl) rfl rfl rfl ?_
      refine RegL.done ?_
      rotate_left
    · simp only [Nat.sub_zero, List.drop_zero] at g3
      refine ⟨(k + 1, st2), ⟨by show 1 ≤ k + 1; omega, by show k + 1 ≤ 10; omega, cont ?_, by show 1 ≤ st2.next; rw [F1.next]; omega, F1.bound.trans hbd, F1.log.trans hlg, hg20⟩, by show 10 - (k + 1) < 10 - k; omega, rfl, rfl, by (refine Am.sub_of ?_; repeat (first | exact trivial | refine ⟨rfl, ?_⟩))⟩
      unfold isCmd
      rw [notT g3]; rfl
    · refine ⟨(k + 1, st2), ⟨by show 1 ≤ k + 1; omega, by show k + 1 ≤ 10; omega, cont ?_, by show 1 ≤ st2.next; rw [F1.next]; omega, F1.bound.trans hbd, F1.log.trans hlg, hg20⟩, by show 10 - (k + 1) < 10 - k; omega, rfl, rfl, by (refine Am.sub_of ?_; repeat (first | exact trivial | refine ⟨rfl, ?_⟩))⟩
      have e : (hasV (k : Int) == decide (tw notSp w < w.length)) = false := by
        have := notT g4
        rw [show decide (((tw notSp w : Nat) : Int) < (w.length : Nat)) = decide (tw notSp w < w.length) from decide_eq_decide.2 (by omega)] at this
        exact this
      unfold isCmd
      rw [e, Bool.and_false, Bool.false_and]
    · have e : (hasV (k : Int) == decide (tw notSp w < w.length)) = true := by
        have := notF g4
        rw [show decide (((tw notSp w : Nat) : Int) < (w.length : Nat)) = decide (tw notSp w < w.length) from decide_eq_decide.2 (by omega)] at this
        exact this
      have hlt : tw notSp w < w.length := by
        rw [g5] at e
        exact of_decide_eq_true (eq_of_beq e).symm
      have hrs : restS k w = (w.drop (tw notSp w + 1)).take (w.length - (tw notSp w + 1)) := by
        unfold restS
        rw [if_pos g5, List.take_of_length_le (by rw [List.length_drop]; omega)]
      have e1 : bytesEq (w.take (tw notSp w)) (wordL.getD k []) = true := notF g3
      refine RegL.q (OpQ.sliceStr rfl u_9 rfl rfl rfl rfl (bounds_some (by omega)) ⟨by omega, by omega⟩) rfl rfl rfl ?_
      refine RegL.q (OpQ.fieldAddr rfl f_24_1 rfl) rfl rfl rfl ?_
      refine RegL.opN (OpL.store rfl sz_9 rfl rfl (storeN_at (by assumption) rfl rfl rfl)) rfl rfl ?_
      refine RegL.done ?_
      refine EvtL.seqReg ?_
      have F2 := F1.put (cells' := [.int .i64 (k : Nat), .str ((w.drop (tw notSp w + 1)).take (w.length - (tw notSp w + 1)))]) (by omega)
      generalize hst4 : st2.put st.next (some (.cells [.int .i64 (k : Nat), .str ((w.drop (tw notSp w + 1)).take (w.length - (tw notSp w + 1)))] 24 false)) = st4 at F2
      have hg4 := F2.cell
      have hg40 := (F2.low 0 (by omega)).trans hg0
      focus
        refine RegL.op (OpL.load rfl rfl (loadAgg_at ag_24 sz_24 (by assumption) (Nat.le_of_ble_eq_true rfl))) rfl rfl rfl ?_
        refine RegL.op (OpL.callFn rfl rfl (by kernel_rfl) rfl (CallTo.memo (hit_17 (by first | assumption | omega | (simp only [List.length_append, List.length_cons, List.length_nil, List.length_take, List.length_drop]; omega))))) rfl rfl rfl ?_
        refine RegL.done ?_
        refine EvtL.cond rfl (fun g6 => ?_) (fun g6 => ?_)
        refine EvtL.seqReg ?_
        refine RegL.op (OpL.load rfl rfl (loadAgg_at ag_24 sz_24 (by assumption) (Nat.le_of_ble_eq_true rfl))) rfl rfl rfl ?_
        refine RegL.opN (OpL.store rfl sz_24 rfl rfl (storeN_at (by assumption) rfl rfl rfl)) rfl rfl ?_
        refine RegL.q (OpQ.assign rfl rfl) rfl rfl rfl ?_
        refine RegL.done ?_
        rotate_left
        refine EvtL.skip ?_
        refine EvtL.reg ?_
        refine RegL.q (OpQ.move rfl rfl) rfl rfl rfl ?_
        refine RegL.q (OpQ.addN (b := 1) rfl u_22 rfl rfl (by first | assumption | omega | (simp only [List.length_append, List.length_cons, List.length_nil, List.length_take, List.length_drop]; omega))) rfl rfl rfl ?_
        refine RegL.q (OpQ.assign rfl rfl) rfl rfl rfl ?_
        refine RegL.done ?_
        rotate_left
      · have hc : isCmd w k = true := by
          rw [← hrs] at g6
          obtain ⟨_, _, _, _, ht⟩ := cmd_kind g6
          unfold isCmd
          rw [e1, e, show textV (k : Int) (restS k w) = true from by
            have := g6
            unfold cmdV at this
            simp only [Bool.and_eq_true] at this
            exact this.2]; rfl
        refine EvtL.ret ⟨.inl rfl, rfl, by rw [put_low (F2.bound.trans hbd)]; exact F2.log.trans hlg, F2.bound.trans hbd, _, _, _, (res_cellG rfl ag_24 sz_24 (by rw [get_putS, if_pos rfl]) (Nat.le_refl _) (res_tmp rfl rfl)), rfl, rfl, ?_⟩
        unfold parseV
        rw [if_neg (by omega), find_kinds hk1 (by omega) hc hbf]
        show _ = AV.tuple [.agg [.int .i64 (k : Nat), .str (restS k w)], .int .i64 0]
        rw [hrs]
      · refine ⟨(k + 1, st4), ⟨by show 1 ≤ k + 1; omega, by show k + 1 ≤ 10; omega, cont ?_, by show 1 ≤ st4.next; rw [F2.next]; omega, F2.bound.trans hbd, F2.log.trans hlg, hg40⟩, by show 10 - (k + 1) < 10 - k; omega, rfl, rfl, by (refine Am.sub_of ?_; repeat (first | exact trivial | refine ⟨rfl, ?_⟩))⟩
        rw [← hrs] at g6
        unfold cmdV at g6
        rw [hk3, decide_eq_true (show (k : Int) ≤ 9 by omega)] at g6
        unfold isCmd
        rw [show textV (k : Int) (restS k w) = false from g6, Bool.and_false]
    · have hrs : restS k w = [] := by
        unfold restS
        rw [if_neg (by rw [g5]; exact Bool.false_ne_true)]
      have e1 : bytesEq (w.take (tw notSp w)) (wordL.getD k []) = true := notF g3
      have e : (hasV (k : Int) == decide (tw notSp w < w.length)) = true := by
        have := notF g4
        rw [show decide (((tw notSp w : Nat) : Int) < (w.length : Nat)) = decide (tw notSp w < w.length) from decide_eq_decide.2 (by omega)] at this
        exact this
      have hc : isCmd w k = true := by
        unfold isCmd
        rw [e1, e, hrs, show textV (k : Int) [] = true from by
          have := g6
          unfold cmdV at this
          simp only [Bool.and_eq_true] at this
          exact this.2]; rfl
      refine EvtL.ret ⟨.inl rfl, rfl, by rw [put_low (F1.bound.trans hbd)]; exact F1.log.trans hlg, F1.bound.trans hbd, _, _, _, (res_cellG rfl ag_24 sz_24 (by rw [get_putS, if_pos rfl]) (Nat.le_refl _) (res_tmp rfl rfl)), rfl, rfl, ?_⟩
      unfold parseV
      rw [if_neg (by omega), find_kinds hk1 (by omega) hc hbf]
      show _ = AV.tuple [.agg [.int .i64 (k : Nat), .str (restS k w)], .int .i64 0]
      rw [hrs]
    · refine ⟨(k + 1, st2), ⟨by show 1 ≤ k + 1; omega, by show k + 1 ≤ 10; omega, cont ?_, by show 1 ≤ st2.next; rw [F1.next]; omega, F1.bound.trans hbd, F1.log.trans hlg, hg20⟩, by show 10 - (k + 1) < 10 - k; omega, rfl, rfl, by (refine Am.sub_of ?_; repeat (first | exact trivial | refine ⟨rfl, ?_⟩))⟩
      have hrs : restS k w = [] := by
        unfold restS
        rw [if_neg (by rw [g5]; exact Bool.false_ne_true)]
      unfold cmdV at g6
      rw [hk3, decide_eq_true (show (k : Int) ≤ 9 by omega)] at g6
      unfold isCmd
      rw [hrs, show textV (k : Int) [] = false from g6, Bool.and_false]
  · have hfn := find_none (w := w) fun j h1 h2 => hbf j h1 (by omega)
    refine EvtL.ret ⟨.inl rfl, rfl, by rw [put_low hbd]; exact hlg, hbd, _, _, _, (res_cellG rfl ag_24 sz_24 (by rw [get_putS, if_pos rfl]) (Nat.le_refl _) (res_tmp rfl rfl)), rfl, rfl, ?_⟩
    unfold parseV
    rw [if_neg (by omega), hfn]
end Go.Proofs.YtmcjglkpjfnfcaaGreat
