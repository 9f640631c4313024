/- Desk: the package's functions; the statements' functions. -/
import Derived.Test.YtmcjglkpjfnfcaaGreatDkA
set_option linter.unusedSectionVars false
set_option linter.unusedVariables false
set_option linter.unusedSimpArgs false

/- The package's commands. -/
open Go Am
namespace Go.Proofs.YtmcjglkpjfnfcaaGreat
theorem notSp_ok (b : UInt8) : notSp b.toNat = !decide (b = 32) := by
  unfold notSp
  rw [show decide ((b.toNat : Int) = 32) = decide (b = 32) from decide_eq_decide.2 ⟨fun h => UInt8.toNat_inj.1 (by simpa using (show b.toNat = 32 by omega)), fun h => by rw [h]; rfl⟩]
theorem notNL_ok (b : UInt8) : notNL b.toNat = !decide (b = 10) := by
  unfold notNL
  rw [show decide ((b.toNat : Int) = 10) = decide (b = 10) from decide_eq_decide.2 ⟨fun h => UInt8.toNat_inj.1 (by simpa using (show b.toNat = 10 by omega)), fun h => by rw [h]; rfl⟩]
noncomputable def K9 := addC K8 7 (fun w : { w : List UInt8 // w.length ≤ 4000 } => [.str w.1]) (fun w => parseV w.1)
def cutV (w : List UInt8) : AV := .tuple [.str (w.take (tw notSp w)), .str (w.drop (tw notSp w + 1)), .bool (decide (tw notSp w < w.length))]
theorem cut_to (w : List UInt8) (hw : w.length ≤ 4000) : CallTo (EK K9) 24 [.str w, .str [32]] S0 (cutV w) := by
  have hix := idxI_tw notSp_ok w
  have hle := tw_le notSp w
  refine CallTo.s0 (fn := Tryz.f24) rfl rfl (by kernel_rfl) rfl rfl rfl rfl ?_
  by_cases h : tw notSp w < w.length
  · rw [if_pos h] at hix
    focus
      refine EvtL.seqReg ?_
      refine RegL.q (OpQ.assign rfl rfl) rfl rfl rfl ?_
      refine RegL.q (OpQ.assign rfl rfl) rfl rfl rfl ?_
      refine RegL.q (OpQ.assign rfl rfl) rfl rfl rfl ?_
      refine RegL.done ?_
      refine EvtL.seqReg ?_
      refine RegL.q (OpQ.move rfl rfl) rfl rfl rfl ?_
      refine RegL.q (OpQ.move rfl rfl) rfl rfl rfl ?_
      refine RegL.inl (fn := Tryz.f33) (by kernel_rfl) (by kernel_rfl) rfl rfl rfl rfl rfl rfl rfl rfl rfl rfl rfl ?_
      refine EvtL.seqReg ?_
      refine RegL.q (OpQ.assign rfl rfl) rfl rfl rfl ?_
      refine RegL.q (OpQ.assign rfl rfl) rfl rfl rfl ?_
      refine RegL.q (OpQ.assign rfl rfl) rfl rfl rfl ?_
      refine RegL.done ?_
      refine EvtL.seq ?_
      refine EvtL.seqReg ?_
      refine RegL.q (OpQ.move rfl rfl) rfl rfl rfl ?_
      refine RegL.q (OpQ.move rfl rfl) rfl rfl rfl ?_
      refine RegL.op (OpL.callFn rfl rfl (by kernel_rfl) rfl (CallTo.memo (hit_52))) rfl rfl rfl ?_
      refine RegL.q (OpQ.assign rfl rfl) rfl rfl rfl ?_
      refine RegL.done ?_
      refine EvtL.seqReg ?_
      refine RegL.q (OpQ.move rfl rfl) rfl rfl rfl ?_
      refine RegL.q (OpQ.int2 rfl u_3 rfl rfl rfl rfl) rfl rfl rfl ?_
      refine RegL.done ?_
      refine EvtL.cond rfl (fun g1 => ?_) (fun g1 => ?_)
      have h1 := of_decide_eq_true g1
      refine EvtL.seqDrawN (by kernel_rfl) ?_
      refine RegN.qG (OpQ.move rfl rfl) (.inl rfl) rfl rfl ?_
      refine RegN.qG (OpQ.move rfl rfl) (.inl rfl) rfl rfl ?_
      rotate_left
      have h1 := of_decide_eq_false g1
      exact absurd h1 (by omega)
    · rw [hix]
      refine RegN.qG (OpQ.sliceStr rfl u_9 rfl rfl rfl (bounds_some (by omega)) rfl ⟨by omega, by omega⟩) (.inl rfl) rfl rfl ?_
      refine RegN.qG (OpQ.move rfl rfl) (.inl rfl) rfl rfl ?_
      refine RegN.qG (OpQ.move rfl rfl) (.inl rfl) rfl rfl ?_
      refine RegN.qG (OpQ.move rfl rfl) (.inl rfl) rfl rfl ?_
      refine RegN.qG (OpQ.lenStr rfl rfl rfl rfl u_9 rfl) (.inl rfl) rfl rfl ?_
      refine RegN.qG (OpQ.addN (b := 1) rfl u_3 rfl rfl (by first | assumption | omega | (simp only [List.length_append, List.length_cons, List.length_nil, List.length_take, List.length_drop]; omega))) (.inl rfl) rfl rfl ?_
      refine RegN.qG (OpQ.sliceStr rfl u_9 rfl rfl rfl rfl (bounds_some (by omega)) ⟨by omega, by omega⟩) (.inl rfl) rfl rfl ?_
      refine RegN.qG (OpQ.assign rfl rfl) (.inl rfl) rfl rfl ?_
      refine RegN.qG (OpQ.assign rfl rfl) (.inl rfl) rfl rfl ?_
      refine RegN.qG (OpQ.assign rfl rfl) (.inl rfl) rfl rfl ?_
      refine RegN.done ?_
      refine EvtL.ret (InlQ.same rfl (res_tmp rfl (res_tmp rfl (res_tmp rfl rfl))) rfl rfl rfl rfl ?_)
      refine RegL.q (OpQ.extract rfl rfl rfl) rfl rfl rfl ?_
      refine RegL.q (OpQ.extract rfl rfl rfl) rfl rfl rfl ?_
      refine RegL.q (OpQ.extract rfl rfl rfl) rfl rfl rfl ?_
      refine RegL.q (OpQ.assign rfl rfl) rfl rfl rfl ?_
      refine RegL.q (OpQ.assign rfl rfl) rfl rfl rfl ?_
      refine RegL.q (OpQ.assign rfl rfl) rfl rfl rfl ?_
      refine RegL.done ?_
      refine EvtL.ret ⟨.inl rfl, rfl, rfl, rfl, _, _, _, (res_tmp rfl (res_tmp rfl (res_tmp rfl rfl))), rfl, rfl, ?_⟩
      show AV.tuple [.str ((w.drop 0).take (tw notSp w - 0)), .str ((w.drop (tw notSp w + 1)).take (w.length - (tw notSp w + 1))), .bool true] = _
      unfold cutV
      rw [List.drop_zero, Nat.sub_zero, List.take_of_length_le (l := w.drop (tw notSp w + 1)) (by rw [List.length_drop]; omega), decide_eq_true h]
  · rw [if_neg h] at hix
    focus
      refine EvtL.seqReg ?_
      refine RegL.q (OpQ.assign rfl rfl) rfl rfl rfl ?_
      refine RegL.q (OpQ.assign rfl rfl) rfl rfl rfl ?_
      refine RegL.q (OpQ.assign rfl rfl) rfl rfl rfl ?_
      refine RegL.done ?_
      refine EvtL.seqReg ?_
      refine RegL.q (OpQ.move rfl rfl) rfl rfl rfl ?_
      refine RegL.q (OpQ.move rfl rfl) rfl rfl rfl ?_
      refine RegL.inl (fn := Tryz.f33) (by kernel_rfl) (by kernel_rfl) rfl rfl rfl rfl rfl rfl rfl rfl rfl rfl rfl ?_
      refine EvtL.seqReg ?_
      refine RegL.q (OpQ.assign rfl rfl) rfl rfl rfl ?_
      refine RegL.q (OpQ.assign rfl rfl) rfl rfl rfl ?_
      refine RegL.q (OpQ.assign rfl rfl) rfl rfl rfl ?_
      refine RegL.done ?_
      refine EvtL.seq ?_
      refine EvtL.seqReg ?_
      refine RegL.q (OpQ.move rfl rfl) rfl rfl rfl ?_
      refine RegL.q (OpQ.move rfl rfl) rfl rfl rfl ?_
      refine RegL.op (OpL.callFn rfl rfl (by kernel_rfl) rfl (CallTo.memo (hit_52))) rfl rfl rfl ?_
      refine RegL.q (OpQ.assign rfl rfl) rfl rfl rfl ?_
      refine RegL.done ?_
      refine EvtL.seqReg ?_
      refine RegL.q (OpQ.move rfl rfl) rfl rfl rfl ?_
      refine RegL.q (OpQ.int2 rfl u_3 rfl rfl rfl rfl) rfl rfl rfl ?_
      refine RegL.done ?_
      refine EvtL.cond rfl (fun g1 => ?_) (fun g1 => ?_)
      have h1 := of_decide_eq_true g1
      exact absurd h1 (by omega)
      have h1 := of_decide_eq_false g1
      refine EvtL.skip ?_
      refine EvtL.seqReg ?_
      refine RegL.q (OpQ.move rfl rfl) rfl rfl rfl ?_
      refine RegL.q (OpQ.assign rfl rfl) rfl rfl rfl ?_
      refine RegL.q (OpQ.assign rfl rfl) rfl rfl rfl ?_
      refine RegL.q (OpQ.assign rfl rfl) rfl rfl rfl ?_
      refine RegL.done ?_
      refine EvtL.ret (InlQ.same rfl (res_tmp rfl (res_tmp rfl (res_tmp rfl rfl))) rfl rfl rfl rfl ?_)
      refine RegL.q (OpQ.extract rfl rfl rfl) rfl rfl rfl ?_
      refine RegL.q (OpQ.extract rfl rfl rfl) rfl rfl rfl ?_
      refine RegL.q (OpQ.extract rfl rfl rfl) rfl rfl rfl ?_
      refine RegL.q (OpQ.assign rfl rfl) rfl rfl rfl ?_
      refine RegL.q (OpQ.assign rfl rfl) rfl rfl rfl ?_
      refine RegL.q (OpQ.assign rfl rfl) rfl rfl rfl ?_
      refine RegL.done ?_
      refine EvtL.ret ⟨.inl rfl, rfl, rfl, rfl, _, _, _, (res_tmp rfl (res_tmp rfl (res_tmp rfl rfl))), rfl, rfl, ?_⟩
      rotate_left
    show AV.tuple [.str w, .str [], .bool false] = _
    unfold cutV
    rw [List.take_of_length_le (by omega), List.drop_eq_nil_of_le (by omega), decide_eq_false h]
noncomputable def K10 := addC K9 24 (fun w : { w : List UInt8 // w.length ≤ 4000 } => [.str w.1, .str [32]]) (fun w => cutV w.1)
theorem hit_24 {w : List UInt8} (hw : w.length ≤ 4000) : K10 24 [.str w, .str [32]] = some (.tuple [.str (w.take (tw notSp w)), .str (w.drop (tw notSp w + 1)), .bool (decide (tw notSp w < w.length))]) :=
  addC_hit (f := 24) (enc := fun w : { w : List UInt8 // w.length ≤ 4000 } => [.str w.1, .str [32]]) (res := fun w => cutV w.1) (by rintro ⟨a, _⟩ ⟨b, _⟩ h; cases h; rfl) ⟨w, hw⟩
theorem contains_to (w : List UInt8) (c : UInt8) : CallTo (EK K10) 54 [.str w, .str [c]] S0 (.bool (decide (0 ≤ idxI c w))) := by
  refine CallTo.s0 (fn := Tryz.f54) rfl rfl (by kernel_rfl) rfl rfl rfl rfl ?_
  refine EvtL.seqReg ?_
  refine RegL.q (OpQ.assign rfl rfl) rfl rfl rfl ?_
  refine RegL.done ?_
  refine EvtL.seqReg ?_
  refine RegL.q (OpQ.move rfl rfl) rfl rfl rfl ?_
  refine RegL.q (OpQ.move rfl rfl) rfl rfl rfl ?_
  refine RegL.inl (fn := Tryz.f64) (by kernel_rfl) (by kernel_rfl) rfl rfl rfl rfl rfl rfl rfl rfl rfl rfl rfl ?_
  refine EvtL.seqReg ?_
  refine RegL.q (OpQ.assign rfl rfl) rfl rfl rfl ?_
  refine RegL.done ?_
  refine EvtL.seqReg ?_
  refine RegL.q (OpQ.move rfl rfl) rfl rfl rfl ?_
  refine RegL.q (OpQ.move rfl rfl) rfl rfl rfl ?_
  refine RegL.op (OpL.callFn rfl rfl (by kernel_rfl) rfl (CallTo.memo (hit_52))) rfl rfl rfl ?_
  refine RegL.q (OpQ.assign rfl rfl) rfl rfl rfl ?_
  refine RegL.done ?_
  refine EvtL.ret (InlQ.same rfl (res_tmp rfl rfl) rfl rfl rfl rfl ?_)
  refine RegL.q (OpQ.int2 rfl u_3 rfl rfl rfl rfl) rfl rfl rfl ?_
  refine RegL.q (OpQ.assign rfl rfl) rfl rfl rfl ?_
  refine RegL.done ?_
  refine EvtL.ret ⟨.inl rfl, rfl, rfl, rfl, _, _, _, (res_tmp rfl rfl), rfl, rfl, ?_⟩
  exact boolRes rfl
theorem any_to (w : List UInt8) : CallTo (EK K10) 35 [.str w] S0 (.bool true) := by
  refine CallTo.s0 (fn := Tryz.f35) rfl rfl (by kernel_rfl) rfl rfl rfl rfl ?_
  refine EvtL.seqReg ?_
  refine RegL.q (OpQ.assign rfl rfl) rfl rfl rfl ?_
  refine RegL.done ?_
  refine EvtL.seqReg ?_
  refine RegL.q (OpQ.assign rfl rfl) rfl rfl rfl ?_
  refine RegL.done ?_
  refine EvtL.ret ⟨.inl rfl, rfl, rfl, rfl, _, _, _, (res_tmp rfl rfl), rfl, rfl, ?_⟩
  exact boolRes rfl
theorem search_to (w : List UInt8) : CallTo (EK K10) 38 [.str w] S0 (.bool (searchV w)) := by
  refine CallTo.s0 (fn := Tryz.f38) rfl rfl (by kernel_rfl) rfl rfl rfl rfl ?_
  focus
    refine EvtL.seqReg ?_
    refine RegL.q (OpQ.assign rfl rfl) rfl rfl rfl ?_
    refine RegL.done ?_
    refine EvtL.seqReg ?_
    refine RegL.q (OpQ.move rfl rfl) rfl rfl rfl ?_
    refine RegL.q (OpQ.str2 rfl u_9 rfl rfl rfl rfl) rfl rfl rfl ?_
    refine RegL.q (OpQ.move rfl rfl) rfl rfl rfl ?_
    refine RegL.both rfl rfl rfl rfl (fun g1 => ?_) (fun g1 => ?_)
    have h1 := bT g1
    refine RegL.skip rfl rfl rfl rfl (by assumption) rfl rfl ?_
    refine RegL.skip rfl rfl rfl rfl (by assumption) rfl rfl ?_
    refine RegL.q (OpQ.pickT rfl rfl (by assumption) rfl) rfl rfl rfl ?_
    refine RegL.q (OpQ.assign rfl rfl) rfl rfl rfl ?_
    refine RegL.done ?_
    refine EvtL.ret ⟨.inl rfl, rfl, rfl, rfl, _, _, _, (res_tmp rfl rfl), rfl, rfl, ?_⟩
    refine boolRes ?_
    rotate_left
    have h1 := bF g1
    refine RegL.go rfl rfl rfl rfl (by assumption) (OpL.q (OpQ.move rfl rfl)) rfl rfl ?_
    refine RegL.go rfl rfl rfl rfl (by assumption) (OpL.q (OpQ.str2 rfl u_9 rfl rfl rfl rfl)) rfl rfl ?_
    refine RegL.q (OpQ.pickF rfl rfl (by assumption) rfl) rfl rfl rfl ?_
    refine RegL.q (OpQ.assign rfl rfl) rfl rfl rfl ?_
    refine RegL.done ?_
    refine EvtL.ret ⟨.inl rfl, rfl, rfl, rfl, _, _, _, (res_tmp rfl rfl), rfl, rfl, ?_⟩
    refine boolRes ?_
    rotate_left
  all_goals (unfold searchV; simp only [*]; rfl)
noncomputable def K11 := addC (addC (addC K10 54 (fun p : List UInt8 × UInt8 => [.str p.1, .str [p.2]]) (fun p => .bool (decide (0 ≤ idxI p.2 p.1)))) 35 (fun w : List UInt8 => [.str w]) (fun _ => .bool true)) 38 (fun w : List UInt8 => [.str w]) (fun w => .bool (searchV w))
theorem hit_54 {w : List UInt8} {c : UInt8} : K11 54 [.str w, .str [c]] = some (.bool (decide (0 ≤ idxI c w))) :=
  addC_hit (K := K10) (f := 54) (enc := fun p : List UInt8 × UInt8 => [.str p.1, .str [p.2]]) (res := fun p => .bool (decide (0 ≤ idxI p.2 p.1))) (by rintro ⟨a, b⟩ ⟨c, d⟩ h; cases h; rfl) (w, c)
theorem hit_35 {w : List UInt8} : K11 35 [.str w] = some (.bool true) :=
  addC_hit (K := addC K10 54 (fun p : List UInt8 × UInt8 => [.str p.1, .str [p.2]]) (fun p => .bool (decide (0 ≤ idxI p.2 p.1)))) (f := 35) (enc := fun w : List UInt8 => [.str w]) (res := fun _ => .bool true) (fun _ _ _ => rfl) w
theorem hit_38 {w : List UInt8} : K11 38 [.str w] = some (.bool (searchV w)) := addC_hit (f := 38) (enc := fun w : List UInt8 => [.str w]) (res := fun w => .bool (searchV w)) (by intro a b h; cases h; rfl) w
/-- A command. -/
def ifaceV (k : Nat) (t : List UInt8) : AV := match k with
  | 1 => .iface 106 (.agg [.str t])
  | 2 => .iface 107 (.agg [.str t])
  | 3 => .iface 108 (.agg [.str t])
  | 4 => .iface 112 (.agg [])
  | 5 => .iface 113 (.agg [])
  | 6 => .iface 114 (.agg [])
  | 7 => .iface 115 (.agg [])
  | 8 => .iface 109 (.agg [.str t])
  | _ => .iface 116 (.agg [])
def parsedV (w : List UInt8) : AV := match kinds.find? (isCmd w) with
  | some k => ifaceV k (restS k w)
  | none => .niliface
/-- A line with a word. -/
theorem isCmd_other {w : List UInt8} {j k : Nat} (hF : w.take (tw notSp w) = wordL.getD k []) (hj : 1 ≤ j ∧ j ≤ 9) (hk : 1 ≤ k ∧ k ≤ 9) (h : j ≠ k) : isCmd w j = false := by
  have hne : bytesEq (wordL.getD k []) (wordL.getD j []) = false := by
    have h1 : ∀ j k : Fin 10, 1 ≤ j.1 → 1 ≤ k.1 → j ≠ k → bytesEq (wordL.getD k.1 []) (wordL.getD j.1 []) = false := by decide
    exact h1 ⟨j, by omega⟩ ⟨k, by omega⟩ hj.1 hk.1 (fun e => h (by simpa using e))
  unfold isCmd
  rw [hF, hne]; rfl
theorem parsedV_word {w : List UInt8} {k : Nat} (hF : w.take (tw notSp w) = wordL.getD k []) (hk : 1 ≤ k ∧ k ≤ 9) : parsedV w = if ((hasV k == decide (tw notSp w < w.length)) && textV k (restS k w)) = true then ifaceV k (restS k w) else .niliface := by
  have hck : isCmd w k = ((hasV k == decide (tw notSp w < w.length)) && textV k (restS k w)) := by
    unfold isCmd
    rw [hF, show bytesEq (wordL.getD k []) (wordL.getD k []) = true by rw [bytesEq_iff]; exact decide_eq_true rfl, Bool.true_and]
  unfold parsedV
  rw [← hck]
  by_cases hc : isCmd w k = true
  · rw [if_pos hc, find_kinds hk.1 hk.2 hc fun j h1 h2 => isCmd_other hF ⟨h1, by omega⟩ hk (by omega)]
  · rw [if_neg hc, find_none fun j h1 h2 => ?_]
    by_cases e : j = k
    · rw [e]; simpa using hc
    · exact isCmd_other hF ⟨h1, by omega⟩ hk e
def kindOk (k : Nat) (t : List UInt8) : Bool := if (k : Int) = 3 then searchV t else !decide ((k : Int) = 8) || nameV t
theorem parsedV_text {w : List UInt8} {k : Nat} (hF : w.take (tw notSp w) = wordL.getD k []) (hk : 1 ≤ k ∧ k ≤ 9) (hv : hasV k = true) :
    parsedV w = if (decide (tw notSp w < w.length) && (bareV (w.drop (tw notSp w + 1)) && kindOk k (w.drop (tw notSp w + 1)))) = true then ifaceV k (w.drop (tw notSp w + 1)) else .niliface := by
  have hr : restS k w = w.drop (tw notSp w + 1) := by unfold restS; rw [if_pos hv]
  rw [parsedV_word hF hk, hr, hv]
  have : textV k (w.drop (tw notSp w + 1)) = (bareV (w.drop (tw notSp w + 1)) && kindOk k (w.drop (tw notSp w + 1))) := by unfold textV kindOk; rw [if_pos hv]
  rw [this, Bool.true_beq]
theorem parsedV_alone {w : List UInt8} {k : Nat} (hF : w.take (tw notSp w) = wordL.getD k []) (hk : 1 ≤ k ∧ k ≤ 9) (hv : hasV k = false) :
    parsedV w = if decide (tw notSp w < w.length) = true then .niliface else ifaceV k [] := by
  have hr : restS k w = [] := by unfold restS; rw [if_neg (by rw [hv]; exact Bool.false_ne_true)]
  rw [parsedV_word hF hk, hr, hv]
  have : textV k [] = true := by unfold textV; rw [if_neg (by rw [hv]; exact Bool.false_ne_true)]; rfl
  rw [this, Bool.false_beq, Bool.and_true]
  cases decide (tw notSp w < w.length) <;> rfl
theorem bareV_nil : bareV [] = false := rfl
theorem bareV_eq {t : List UInt8} (h : t ≠ []) : bareV t = (!decide (0 ≤ idxI 10 t) && !decide (((t.getD 0 0).toNat : Int) = 32) && !decide (((t.getD (t.length - 1) 0).toNat : Int) = 32)) := by
  have hle := tw_le notNL t
  have h1 : decide (tw notNL t = t.length) = !decide (0 ≤ idxI 10 t) := by
    rw [idxI_tw notNL_ok]
    by_cases hlt : tw notNL t < t.length
    · rw [if_pos hlt, decide_eq_false (by omega), decide_eq_true (by omega)]; rfl
    · rw [if_neg hlt, decide_eq_true (by omega)]; rfl
  unfold bareV
  rw [h1, decide_eq_true h, Bool.and_true, show decide ((t.getD 0 0).toNat = 32) = decide (((t.getD 0 0).toNat : Int) = 32) from decide_eq_decide.2 (by omega),
    show decide ((t.getD (t.length - 1) 0).toNat = 32) = decide (((t.getD (t.length - 1) 0).toNat : Int) = 32) from decide_eq_decide.2 (by omega)]
def stop_25 : Unit := ()
/-- The heap behind the words. -/
def wordsHl : Hl := [(0, some (.map [(.str [112, 114, 111, 103, 114, 97, 109], .agg [.func (.func 53) [] [.ptr 1 0, .ptr 2 0]], 0), (.str [103, 111, 97, 108], .agg [.func (.func 53) [] [.ptr 4 0, .ptr 5 0]], 1), (.str [119, 97, 121], .agg [.func (.func 53) [] [.ptr 7 0, .ptr 8 0]], 2), (.str [114, 117, 108, 101, 115], .agg [.func (.func 53) [] [.ptr 10 0, .ptr 11 0]], 3), (.str [110, 101, 120, 116], .agg [.func (.func 55) [] [.ptr 13 0]], 4), (.str [114, 101, 115, 116], .agg [.func (.func 55) [] [.ptr 15 0]], 5), (.str [115, 104, 111, 119], .agg [.func (.func 55) [] [.ptr 17 0]], 6), (.str [119, 104, 101, 114, 101], .agg [.func (.func 55) [] [.ptr 19 0]], 7), (.str [117, 110, 100, 111], .agg [.func (.func 55) [] [.ptr 21 0]], 8)] 9)), (22, some (.cells [.func (.func 55) [] [.ptr 21 0]] 63 false)), (22, some (.cells [.nilfunc] 63 false)), (21, some (.cells [.iface 116 (.agg [])] 44 false)), (0, some (.map [(.str [112, 114, 111, 103, 114, 97, 109], .agg [.func (.func 53) [] [.ptr 1 0, .ptr 2 0]], 0), (.str [103, 111, 97, 108], .agg [.func (.func 53) [] [.ptr 4 0, .ptr 5 0]], 1), (.str [119, 97, 121], .agg [.func (.func 53) [] [.ptr 7 0, .ptr 8 0]], 2), (.str [114, 117, 108, 101, 115], .agg [.func (.func 53) [] [.ptr 10 0, .ptr 11 0]], 3), (.str [110, 101, 120, 116], .agg [.func (.func 55) [] [.ptr 13 0]], 4), (.str [114, 101, 115, 116], .agg [.func (.func 55) [] [.ptr 15 0]], 5), (.str [115, 104, 111, 119], .agg [.func (.func 55) [] [.ptr 17 0]], 6), (.str [119, 104, 101, 114, 101], .agg [.func (.func 55) [] [.ptr 19 0]], 7)] 8)), (20, some (.cells [.func (.func 55) [] [.ptr 19 0]] 63 false)), (20, some (.cells [.nilfunc] 63 false)), (19, some (.cells [.iface 115 (.agg [])] 44 false)), (0, some (.map [(.str [112, 114, 111, 103, 114, 97, 109], .agg [.func (.func 53) [] [.ptr 1 0, .ptr 2 0]], 0), (.str [103, 111, 97, 108], .agg [.func (.func 53) [] [.ptr 4 0, .ptr 5 0]], 1), (.str [119, 97, 121], .agg [.func (.func 53) [] [.ptr 7 0, .ptr 8 0]], 2), (.str [114, 117, 108, 101, 115], .agg [.func (.func 53) [] [.ptr 10 0, .ptr 11 0]], 3), (.str [110, 101, 120, 116], .agg [.func (.func 55) [] [.ptr 13 0]], 4), (.str [114, 101, 115, 116], .agg [.func (.func 55) [] [.ptr 15 0]], 5), (.str [115, 104, 111, 119], .agg [.func (.func 55) [] [.ptr 17 0]], 6)] 7)), (18, some (.cells [.func (.func 55) [] [.ptr 17 0]] 63 false)), (18, some (.cells [.nilfunc] 63 false)), (17, some (.cells [.iface 114 (.agg [])] 44 false)), (0, some (.map [(.str [112, 114, 111, 103, 114, 97, 109], .agg [.func (.func 53) [] [.ptr 1 0, .ptr 2 0]], 0), (.str [103, 111, 97, 108], .agg [.func (.func 53) [] [.ptr 4 0, .ptr 5 0]], 1), (.str [119, 97, 121], .agg [.func (.func 53) [] [.ptr 7 0, .ptr 8 0]], 2), (.str [114, 117, 108, 101, 115], .agg [.func (.func 53) [] [.ptr 10 0, .ptr 11 0]], 3), (.str [110, 101, 120, 116], .agg [.func (.func 55) [] [.ptr 13 0]], 4), (.str [114, 101, 115, 116], .agg [.func (.func 55) [] [.ptr 15 0]], 5)] 6)), (16, some (.cells [.func (.func 55) [] [.ptr 15 0]] 63 false)), (16, some (.cells [.nilfunc] 63 false)), (15, some (.cells [.iface 113 (.agg [])] 44 false)), (0, some (.map [(.str [112, 114, 111, 103, 114, 97, 109], .agg [.func (.func 53) [] [.ptr 1 0, .ptr 2 0]], 0), (.str [103, 111, 97, 108], .agg [.func (.func 53) [] [.ptr 4 0, .ptr 5 0]], 1), (.str [119, 97, 121], .agg [.func (.func 53) [] [.ptr 7 0, .ptr 8 0]], 2), (.str [114, 117, 108, 101, 115], .agg [.func (.func 53) [] [.ptr 10 0, .ptr 11 0]], 3), (.str [110, 101, 120, 116], .agg [.func (.func 55) [] [.ptr 13 0]], 4)] 5)), (14, some (.cells [.func (.func 55) [] [.ptr 13 0]] 63 false)), (14, some (.cells [.nilfunc] 63 false)), (13, some (.cells [.iface 112 (.agg [])] 44 false)), (0, some (.map [(.str [112, 114, 111, 103, 114, 97, 109], .agg [.func (.func 53) [] [.ptr 1 0, .ptr 2 0]], 0), (.str [103, 111, 97, 108], .agg [.func (.func 53) [] [.ptr 4 0, .ptr 5 0]], 1), (.str [119, 97, 121], .agg [.func (.func 53) [] [.ptr 7 0, .ptr 8 0]], 2), (.str [114, 117, 108, 101, 115], .agg [.func (.func 53) [] [.ptr 10 0, .ptr 11 0]], 3)] 4)), (12, some (.cells [.func (.func 53) [] [.ptr 10 0, .ptr 11 0]] 63 false)), (12, some (.cells [.nilfunc] 63 false)), (11, some (.cells [.func (.func 41) [] []] 54 false)), (10, some (.cells [.func (.func 40) [] []] 93 false)), (0, some (.map [(.str [112, 114, 111, 103, 114, 97, 109], .agg [.func (.func 53) [] [.ptr 1 0, .ptr 2 0]], 0), (.str [103, 111, 97, 108], .agg [.func (.func 53) [] [.ptr 4 0, .ptr 5 0]], 1), (.str [119, 97, 121], .agg [.func (.func 53) [] [.ptr 7 0, .ptr 8 0]], 2)] 3)), (9, some (.cells [.func (.func 53) [] [.ptr 7 0, .ptr 8 0]] 63 false)), (9, some (.cells [.nilfunc] 63 false)), (8, some (.cells [.func (.func 39) [] []] 54 false)), (7, some (.cells [.func (.func 38) [] []] 93 false)), (0, some (.map [(.str [112, 114, 111, 103, 114, 97, 109], .agg [.func (.func 53) [] [.ptr 1 0, .ptr 2 0]], 0), (.str [103, 111, 97, 108], .agg [.func (.func 53) [] [.ptr 4 0, .ptr 5 0]], 1)] 2)), (6, some (.cells [.func (.func 53) [] [.ptr 4 0, .ptr 5 0]] 63 false)), (6, some (.cells [.nilfunc] 63 false)), (5, some (.cells [.func (.func 37) [] []] 54 false)), (4, some (.cells [.func (.func 35) [] []] 93 false)), (0, some (.map [(.str [112, 114, 111, 103, 114, 97, 109], .agg [.func (.func 53) [] [.ptr 1 0, .ptr 2 0]], 0)] 1)), (3, some (.cells [.func (.func 53) [] [.ptr 1 0, .ptr 2 0]] 63 false)), (3, some (.cells [.nilfunc] 63 false)), (2, some (.cells [.func (.func 36) [] []] 54 false)), (1, some (.cells [.func (.func 35) [] []] 93 false)), (0, some (.map [] 0))]
theorem words_run {R : AV → St → Prop} (hR : R (.map 0) (mkS 23 0 [] wordsHl)) : RunsV (EK K11) 25 [] (mkS 0 0 [] []) R := by
  refine RunsV.inl (fn := Tryz.f25) rfl (by kernel_rfl) rfl rfl rfl rfl ?_
  refine EvtL.seqReg ?_
  refine RegL.q (OpQ.assign rfl rfl) rfl rfl rfl ?_
  refine RegL.done ?_
  refine EvtL.seqReg ?_
  refine RegL.op (OpL.makeMapS 1 rfl u_65 rfl) rfl rfl rfl ?_
  refine RegL.inl (fn := Tryz.f34) (by kernel_rfl) (by kernel_rfl) rfl rfl rfl rfl rfl rfl rfl rfl rfl rfl rfl ?_
  refine EvtL.seqReg ?_
  refine RegL.op (OpL.boxS 2 rfl rfl rfl rfl) rfl rfl rfl ?_
  refine RegL.op (OpL.boxS 3 rfl rfl rfl rfl) rfl rfl rfl ?_
  refine RegL.op (OpL.allocS 4 rfl z_63 rfl) rfl rfl rfl ?_
  refine RegL.done ?_
  refine EvtL.seqReg ?_
  refine RegL.q (OpQ.makeFunc rfl rfl rfl) rfl rfl rfl ?_
  refine RegL.q (OpQ.build rfl pl_63 rfl rfl) rfl rfl rfl ?_
  refine RegL.opN (OpL.storeS rfl sz_63 rfl rfl rfl rfl rfl rfl) rfl rfl ?_
  refine RegL.done ?_
  refine EvtL.ret (InlQ.new rfl (res_cellA rfl ag_63 sz_63 rfl (Nat.le_of_ble_eq_true rfl) rfl) rfl rfl rfl rfl ?_)
  refine RegL.opN (OpL.mapSetS (.inr rfl) u_65 kd_9 rfl rfl rfl rfl rfl rfl rfl rfl) rfl rfl ?_
  refine RegL.inl (fn := Tryz.f34) (by kernel_rfl) (by kernel_rfl) rfl rfl rfl rfl rfl rfl rfl rfl rfl rfl rfl ?_
  refine EvtL.seqReg ?_
  refine RegL.op (OpL.boxS 5 rfl rfl rfl rfl) rfl rfl rfl ?_
  refine RegL.op (OpL.boxS 6 rfl rfl rfl rfl) rfl rfl rfl ?_
  refine RegL.op (OpL.allocS 7 rfl z_63 rfl) rfl rfl rfl ?_
  refine RegL.done ?_
  refine EvtL.seqReg ?_
  refine RegL.q (OpQ.makeFunc rfl rfl rfl) rfl rfl rfl ?_
  refine RegL.q (OpQ.build rfl pl_63 rfl rfl) rfl rfl rfl ?_
  refine RegL.opN (OpL.storeS rfl sz_63 rfl rfl rfl rfl rfl rfl) rfl rfl ?_
  refine RegL.done ?_
  refine EvtL.ret (InlQ.new rfl (res_cellA rfl ag_63 sz_63 rfl (Nat.le_of_ble_eq_true rfl) rfl) rfl rfl rfl rfl ?_)
  refine RegL.opN (OpL.mapSetS (.inr rfl) u_65 kd_9 rfl rfl rfl rfl rfl rfl rfl rfl) rfl rfl ?_
  refine RegL.inl (fn := Tryz.f34) (by kernel_rfl) (by kernel_rfl) rfl rfl rfl rfl rfl rfl rfl rfl rfl rfl rfl ?_
  refine EvtL.seqReg ?_
  refine RegL.op (OpL.boxS 8 rfl rfl rfl rfl) rfl rfl rfl ?_
  refine RegL.op (OpL.boxS 9 rfl rfl rfl rfl) rfl rfl rfl ?_
  refine RegL.op (OpL.allocS 10 rfl z_63 rfl) rfl rfl rfl ?_
  refine RegL.done ?_
  refine EvtL.seqReg ?_
  refine RegL.q (OpQ.makeFunc rfl rfl rfl) rfl rfl rfl ?_
  refine RegL.q (OpQ.build rfl pl_63 rfl rfl) rfl rfl rfl ?_
  refine RegL.opN (OpL.storeS rfl sz_63 rfl rfl rfl rfl rfl rfl) rfl rfl ?_
  refine RegL.done ?_
  refine EvtL.ret (InlQ.new rfl (res_cellA rfl ag_63 sz_63 rfl (Nat.le_of_ble_eq_true rfl) rfl) rfl rfl rfl rfl ?_)
  refine RegL.opN (OpL.mapSetS (.inr rfl) u_65 kd_9 rfl rfl rfl rfl rfl rfl rfl rfl) rfl rfl ?_
  refine RegL.inl (fn := Tryz.f34) (by kernel_rfl) (by kernel_rfl) rfl rfl rfl rfl rfl rfl rfl rfl rfl rfl rfl ?_
  refine EvtL.seqReg ?_
  refine RegL.op (OpL.boxS 11 rfl rfl rfl rfl) rfl rfl rfl ?_
  refine RegL.op (OpL.boxS 12 rfl rfl rfl rfl) rfl rfl rfl ?_
  refine RegL.op (OpL.allocS 13 rfl z_63 rfl) rfl rfl rfl ?_
  refine RegL.done ?_
  refine EvtL.seqReg ?_
  refine RegL.q (OpQ.makeFunc rfl rfl rfl) rfl rfl rfl ?_
  refine RegL.q (OpQ.build rfl pl_63 rfl rfl) rfl rfl rfl ?_
  refine RegL.opN (OpL.storeS rfl sz_63 rfl rfl rfl rfl rfl rfl) rfl rfl ?_
  refine RegL.done ?_
  refine EvtL.ret (InlQ.new rfl (res_cellA rfl ag_63 sz_63 rfl (Nat.le_of_ble_eq_true rfl) rfl) rfl rfl rfl rfl ?_)
  refine RegL.opN (OpL.mapSetS (.inr rfl) u_65 kd_9 rfl rfl rfl rfl rfl rfl rfl rfl) rfl rfl ?_
  refine RegL.q (OpQ.build rfl pl_112 rfl rfl) rfl rfl rfl ?_
  refine RegL.q (OpQ.mkIface rfl if_112 rfl) rfl rfl rfl ?_
  refine RegL.inl (fn := Tryz.f42) (by kernel_rfl) (by kernel_rfl) rfl rfl rfl rfl rfl rfl rfl rfl rfl rfl rfl ?_
  refine EvtL.seqReg ?_
  refine RegL.op (OpL.boxS 14 rfl rfl rfl rfl) rfl rfl rfl ?_
  refine RegL.op (OpL.allocS 15 rfl z_63 rfl) rfl rfl rfl ?_
  refine RegL.done ?_
  refine EvtL.seqReg ?_
  refine RegL.q (OpQ.makeFunc rfl rfl rfl) rfl rfl rfl ?_
  refine RegL.q (OpQ.build rfl pl_63 rfl rfl) rfl rfl rfl ?_
  refine RegL.opN (OpL.storeS rfl sz_63 rfl rfl rfl rfl rfl rfl) rfl rfl ?_
  refine RegL.done ?_
  refine EvtL.ret (InlQ.new rfl (res_cellA rfl ag_63 sz_63 rfl (Nat.le_of_ble_eq_true rfl) rfl) rfl rfl rfl rfl ?_)
  refine RegL.opN (OpL.mapSetS (.inr rfl) u_65 kd_9 rfl rfl rfl rfl rfl rfl rfl rfl) rfl rfl ?_
  refine RegL.q (OpQ.build rfl pl_113 rfl rfl) rfl rfl rfl ?_
  refine RegL.q (OpQ.mkIface rfl if_113 rfl) rfl rfl rfl ?_
  refine RegL.inl (fn := Tryz.f42) (by kernel_rfl) (by kernel_rfl) rfl rfl rfl rfl rfl rfl rfl rfl rfl rfl rfl ?_
  refine EvtL.seqReg ?_
  refine RegL.op (OpL.boxS 16 rfl rfl rfl rfl) rfl rfl rfl ?_
  refine RegL.op (OpL.allocS 17 rfl z_63 rfl) rfl rfl rfl ?_
  refine RegL.done ?_
  refine EvtL.seqReg ?_
  refine RegL.q (OpQ.makeFunc rfl rfl rfl) rfl rfl rfl ?_
  refine RegL.q (OpQ.build rfl pl_63 rfl rfl) rfl rfl rfl ?_
  refine RegL.opN (OpL.storeS rfl sz_63 rfl rfl rfl rfl rfl rfl) rfl rfl ?_
  refine RegL.done ?_
  refine EvtL.ret (InlQ.new rfl (res_cellA rfl ag_63 sz_63 rfl (Nat.le_of_ble_eq_true rfl) rfl) rfl rfl rfl rfl ?_)
  refine RegL.opN (OpL.mapSetS (.inr rfl) u_65 kd_9 rfl rfl rfl rfl rfl rfl rfl rfl) rfl rfl ?_
  refine RegL.q (OpQ.build rfl pl_114 rfl rfl) rfl rfl rfl ?_
  refine RegL.q (OpQ.mkIface rfl if_114 rfl) rfl rfl rfl ?_
  refine RegL.inl (fn := Tryz.f42) (by kernel_rfl) (by kernel_rfl) rfl rfl rfl rfl rfl rfl rfl rfl rfl rfl rfl ?_
  refine EvtL.seqReg ?_
  refine RegL.op (OpL.boxS 18 rfl rfl rfl rfl) rfl rfl rfl ?_
  refine RegL.op (OpL.allocS 19 rfl z_63 rfl) rfl rfl rfl ?_
  refine RegL.done ?_
  refine EvtL.seqReg ?_
  refine RegL.q (OpQ.makeFunc rfl rfl rfl) rfl rfl rfl ?_
  refine RegL.q (OpQ.build rfl pl_63 rfl rfl) rfl rfl rfl ?_
  refine RegL.opN (OpL.storeS rfl sz_63 rfl rfl rfl rfl rfl rfl) rfl rfl ?_
  refine RegL.done ?_
  refine EvtL.ret (InlQ.new rfl (res_cellA rfl ag_63 sz_63 rfl (Nat.le_of_ble_eq_true rfl) rfl) rfl rfl rfl rfl ?_)
  refine RegL.opN (OpL.mapSetS (.inr rfl) u_65 kd_9 rfl rfl rfl rfl rfl rfl rfl rfl) rfl rfl ?_
  refine RegL.q (OpQ.build rfl pl_115 rfl rfl) rfl rfl rfl ?_
  refine RegL.q (OpQ.mkIface rfl if_115 rfl) rfl rfl rfl ?_
  refine RegL.inl (fn := Tryz.f42) (by kernel_rfl) (by kernel_rfl) rfl rfl rfl rfl rfl rfl rfl rfl rfl rfl rfl ?_
  refine EvtL.seqReg ?_
  refine RegL.op (OpL.boxS 20 rfl rfl rfl rfl) rfl rfl rfl ?_
  refine RegL.op (OpL.allocS 21 rfl z_63 rfl) rfl rfl rfl ?_
  refine RegL.done ?_
  refine EvtL.seqReg ?_
  refine RegL.q (OpQ.makeFunc rfl rfl rfl) rfl rfl rfl ?_
  refine RegL.q (OpQ.build rfl pl_63 rfl rfl) rfl rfl rfl ?_
  refine RegL.opN (OpL.storeS rfl sz_63 rfl rfl rfl rfl rfl rfl) rfl rfl ?_
  refine RegL.done ?_
  refine EvtL.ret (InlQ.new rfl (res_cellA rfl ag_63 sz_63 rfl (Nat.le_of_ble_eq_true rfl) rfl) rfl rfl rfl rfl ?_)
  refine RegL.opN (OpL.mapSetS (.inr rfl) u_65 kd_9 rfl rfl rfl rfl rfl rfl rfl rfl) rfl rfl ?_
  refine RegL.q (OpQ.build rfl pl_116 rfl rfl) rfl rfl rfl ?_
  refine RegL.q (OpQ.mkIface rfl if_116 rfl) rfl rfl rfl ?_
  refine RegL.inl (fn := Tryz.f42) (by kernel_rfl) (by kernel_rfl) rfl rfl rfl rfl rfl rfl rfl rfl rfl rfl rfl ?_
  refine EvtL.seqReg ?_
  refine RegL.op (OpL.boxS 22 rfl rfl rfl rfl) rfl rfl rfl ?_
  refine RegL.op (OpL.allocS 23 rfl z_63 rfl) rfl rfl rfl ?_
  refine RegL.done ?_
  refine EvtL.seqReg ?_
  refine RegL.q (OpQ.makeFunc rfl rfl rfl) rfl rfl rfl ?_
  refine RegL.q (OpQ.build rfl pl_63 rfl rfl) rfl rfl rfl ?_
  refine RegL.opN (OpL.storeS rfl sz_63 rfl rfl rfl rfl rfl rfl) rfl rfl ?_
  refine RegL.done ?_
  refine EvtL.ret (InlQ.new rfl (res_cellA rfl ag_63 sz_63 rfl (Nat.le_of_ble_eq_true rfl) rfl) rfl rfl rfl rfl ?_)
  refine RegL.opN (OpL.mapSetS (.inr rfl) u_65 kd_9 rfl rfl rfl rfl rfl rfl rfl rfl) rfl rfl ?_
  refine RegL.q (OpQ.move rfl rfl) rfl rfl rfl ?_
  refine RegL.q (OpQ.assign rfl rfl) rfl rfl rfl ?_
  refine RegL.done ?_
  refine EvtL.ret (InlQ.new rfl (res_tmp rfl rfl) rfl rfl rfl rfl ?_)
  exact hR
theorem parsed_to (w : List UInt8) (hw : w.length ≤ 4000) : CallTo (EK K11) 20 [.str w] S0 (parsedV w) := by
  have hT : (w.drop (tw notSp w + 1)).length ≤ 4000 := by rw [List.length_drop]; omega
  by_cases hF1 : w.take (tw notSp w) = wordL.getD 1 []
  · rw [parsedV_text hF1 (by decide) rfl]
    refine CallTo.s0 (fn := Tryz.f20) rfl rfl (by kernel_rfl) rfl rfl rfl rfl ?_
    refine EvtL.seqReg ?_
    refine RegL.q (OpQ.assign rfl rfl) rfl rfl rfl ?_
    refine RegL.done ?_
    refine EvtL.seqReg ?_
    refine RegL.q (OpQ.move rfl rfl) rfl rfl rfl ?_
    refine RegL.op (OpL.callFn rfl rfl (by kernel_rfl) rfl (CallTo.memo (hit_24 (by first | assumption | omega | (simp only [List.length_append, List.length_cons, List.length_nil, List.length_take, List.length_drop]; omega))))) rfl rfl rfl ?_
    refine RegL.q (OpQ.move rfl rfl) rfl rfl rfl ?_
    refine RegL.q (OpQ.extract rfl rfl rfl) rfl rfl rfl ?_
    refine RegL.q (OpQ.extract rfl rfl rfl) rfl rfl rfl ?_
    refine RegL.q (OpQ.extract rfl rfl rfl) rfl rfl rfl ?_
    refine RegL.q (OpQ.assign rfl rfl) rfl rfl rfl ?_
    refine RegL.q (OpQ.assign rfl rfl) rfl rfl rfl ?_
    refine RegL.q (OpQ.assign rfl rfl) rfl rfl rfl ?_
    refine RegL.done ?_
    refine EvtL.seqReg ?_
    refine RegL.callFn rfl rfl (by kernel_rfl) rfl rfl rfl rfl (words_run ?_)
    rw [hF1]
    generalize w.drop (tw notSp w + 1) = T at *
    by_cases hTe : T = []
    · subst hTe
      rw [bareV_nil, Bool.false_and, Bool.and_false]
      focus
        refine RegL.q (OpQ.move rfl rfl) rfl rfl rfl ?_
        refine RegL.op (OpL.lookupS rfl u_65 z_63 kd_9 rfl rfl rfl rfl rfl) rfl rfl rfl ?_
        refine RegL.q (OpQ.move rfl rfl) rfl rfl rfl ?_
        refine RegL.q (OpQ.extract rfl rfl rfl) rfl rfl rfl ?_
        refine RegL.q (OpQ.extract rfl rfl rfl) rfl rfl rfl ?_
        refine RegL.op (OpL.allocS 24 rfl z_63 rfl) rfl rfl rfl ?_
        refine RegL.opN (OpL.storeS rfl sz_63 rfl rfl rfl rfl rfl rfl) rfl rfl ?_
        refine RegL.q (OpQ.assign rfl rfl) rfl rfl rfl ?_
        refine RegL.done ?_
        refine EvtL.seq ?_
        refine EvtL.seqReg ?_
        refine RegL.q (OpQ.move rfl rfl) rfl rfl rfl ?_
        refine RegL.q (OpQ.not rfl rfl) rfl rfl rfl ?_
        refine RegL.done ?_
        refine EvtL.condF rfl rfl ?_
        refine EvtL.skip ?_
        refine EvtL.seqReg ?_
        refine RegL.q (OpQ.fieldAddr rfl f_63_0 rfl) rfl rfl rfl ?_
        refine RegL.op (OpL.loadS1 rfl ag_61 sz_61 rfl rfl rfl) rfl rfl rfl ?_
        refine RegL.q (OpQ.move rfl rfl) rfl rfl rfl ?_
        refine RegL.q (OpQ.move rfl rfl) rfl rfl rfl ?_
        refine RegL.inlVal (fn := Tryz.f53) (by kernel_rfl) (by kernel_rfl) rfl rfl rfl rfl rfl rfl rfl rfl rfl rfl rfl rfl rfl ?_
        refine EvtL.seqReg ?_
        refine RegL.q (OpQ.assign rfl rfl) rfl rfl rfl ?_
        refine RegL.done ?_
        refine EvtL.seq ?_
        refine EvtL.seqReg ?_
        refine RegL.q (OpQ.move rfl rfl) rfl rfl rfl ?_
        refine RegL.q (OpQ.not rfl rfl) rfl rfl rfl ?_
        refine RegL.q (OpQ.move rfl rfl) rfl rfl rfl ?_
        refine RegL.both rfl rfl rfl rfl (fun g1 => ?_) (fun g1 => ?_)
        have h1 := nT g1
        refine RegL.skip rfl rfl rfl rfl (by assumption) rfl rfl ?_
        refine RegL.skip rfl rfl rfl rfl (by assumption) rfl rfl ?_
        refine RegL.q (OpQ.pickT rfl rfl (by assumption) rfl) rfl rfl rfl ?_
        refine RegL.q (OpQ.move rfl rfl) rfl rfl rfl ?_
        refine RegL.skip rfl rfl rfl rfl rfl rfl rfl ?_
        refine RegL.skip rfl rfl rfl rfl rfl rfl rfl ?_
        refine RegL.q (OpQ.pickT rfl rfl rfl rfl) rfl rfl rfl ?_
        refine RegL.q (OpQ.move rfl rfl) rfl rfl rfl ?_
        refine RegL.skip rfl rfl rfl rfl rfl rfl rfl ?_
        refine RegL.skip rfl rfl rfl rfl rfl rfl rfl ?_
        refine RegL.skip rfl rfl rfl rfl rfl rfl rfl ?_
        refine RegL.q (OpQ.pickT rfl rfl rfl rfl) rfl rfl rfl ?_
        refine RegL.q (OpQ.move rfl rfl) rfl rfl rfl ?_
        refine RegL.skip rfl rfl rfl rfl rfl rfl rfl ?_
        refine RegL.skip rfl rfl rfl rfl rfl rfl rfl ?_
        refine RegL.skip rfl rfl rfl rfl rfl rfl rfl ?_
        refine RegL.skip rfl rfl rfl rfl rfl rfl rfl ?_
        refine RegL.skip rfl rfl rfl rfl rfl rfl rfl ?_
        refine RegL.skip rfl rfl rfl rfl rfl rfl rfl ?_
        refine RegL.q (OpQ.pickT rfl rfl rfl rfl) rfl rfl rfl ?_
        refine RegL.q (OpQ.move rfl rfl) rfl rfl rfl ?_
        refine RegL.skip rfl rfl rfl rfl rfl rfl rfl ?_
        refine RegL.skip rfl rfl rfl rfl rfl rfl rfl ?_
        refine RegL.skip rfl rfl rfl rfl rfl rfl rfl ?_
        refine RegL.skip rfl rfl rfl rfl rfl rfl rfl ?_
        refine RegL.q (OpQ.pickT rfl rfl rfl rfl) rfl rfl rfl ?_
        refine RegL.done ?_
        refine EvtL.condT rfl rfl ?_
        refine EvtL.seqReg ?_
        refine RegL.q (OpQ.assign rfl rfl) rfl rfl rfl ?_
        refine RegL.done ?_
        refine EvtL.ret (InlQ.same rfl (res_tmp rfl rfl) rfl rfl rfl rfl ?_)
        refine RegL.q (OpQ.assign rfl rfl) rfl rfl rfl ?_
        refine RegL.done ?_
        refine EvtL.ret ⟨.inl rfl, rfl, rfl, rfl, _, _, _, (res_tmp rfl rfl), rfl, rfl, ?_⟩
        rotate_left
        have h1 := nF g1
        refine RegL.go rfl rfl rfl rfl (by assumption) (OpL.q (OpQ.move rfl rfl)) rfl rfl ?_
        refine RegL.go rfl rfl rfl rfl (by assumption) (OpL.q (OpQ.str2 rfl u_9 rfl rfl rfl rfl)) rfl rfl ?_
        refine RegL.q (OpQ.pickF rfl rfl (by assumption) rfl) rfl rfl rfl ?_
        refine RegL.q (OpQ.move rfl rfl) rfl rfl rfl ?_
        refine RegL.skip rfl rfl rfl rfl rfl rfl rfl ?_
        refine RegL.skip rfl rfl rfl rfl rfl rfl rfl ?_
        refine RegL.q (OpQ.pickT rfl rfl rfl rfl) rfl rfl rfl ?_
        refine RegL.q (OpQ.move rfl rfl) rfl rfl rfl ?_
        refine RegL.skip rfl rfl rfl rfl rfl rfl rfl ?_
        refine RegL.skip rfl rfl rfl rfl rfl rfl rfl ?_
        refine RegL.skip rfl rfl rfl rfl rfl rfl rfl ?_
        refine RegL.q (OpQ.pickT rfl rfl rfl rfl) rfl rfl rfl ?_
        refine RegL.q (OpQ.move rfl rfl) rfl rfl rfl ?_
        refine RegL.skip rfl rfl rfl rfl rfl rfl rfl ?_
        refine RegL.skip rfl rfl rfl rfl rfl rfl rfl ?_
        refine RegL.skip rfl rfl rfl rfl rfl rfl rfl ?_
        refine RegL.skip rfl rfl rfl rfl rfl rfl rfl ?_
        refine RegL.skip rfl rfl rfl rfl rfl rfl rfl ?_
        refine RegL.skip rfl rfl rfl rfl rfl rfl rfl ?_
        refine RegL.q (OpQ.pickT rfl rfl rfl rfl) rfl rfl rfl ?_
        refine RegL.q (OpQ.move rfl rfl) rfl rfl rfl ?_
        refine RegL.skip rfl rfl rfl rfl rfl rfl rfl ?_
        refine RegL.skip rfl rfl rfl rfl rfl rfl rfl ?_
        refine RegL.skip rfl rfl rfl rfl rfl rfl rfl ?_
        refine RegL.skip rfl rfl rfl rfl rfl rfl rfl ?_
        refine RegL.q (OpQ.pickT rfl rfl rfl rfl) rfl rfl rfl ?_
        refine RegL.done ?_
        refine EvtL.condT rfl rfl ?_
        refine EvtL.seqReg ?_
        refine RegL.q (OpQ.assign rfl rfl) rfl rfl rfl ?_
        refine RegL.done ?_
        refine EvtL.ret (InlQ.same rfl (res_tmp rfl rfl) rfl rfl rfl rfl ?_)
        refine RegL.q (OpQ.assign rfl rfl) rfl rfl rfl ?_
        refine RegL.done ?_
        refine EvtL.ret ⟨.inl rfl, rfl, rfl, rfl, _, _, _, (res_tmp rfl rfl), rfl, rfl, ?_⟩
        rotate_left
      all_goals rfl
    · have hpos : 0 < T.length := List.length_pos_iff.2 hTe
      have hne : bytesEq T ({ data := #[] } : ByteArray).data.toList = false := by rw [bytesEq_iff]; exact decide_eq_false hTe
      rw [bareV_eq hTe]
      focus
        refine RegL.q (OpQ.move rfl rfl) rfl rfl rfl ?_
        refine RegL.op (OpL.lookupS rfl u_65 z_63 kd_9 rfl rfl rfl rfl rfl) rfl rfl rfl ?_
        refine RegL.q (OpQ.move rfl rfl) rfl rfl rfl ?_
        refine RegL.q (OpQ.extract rfl rfl rfl) rfl rfl rfl ?_
        refine RegL.q (OpQ.extract rfl rfl rfl) rfl rfl rfl ?_
        refine RegL.op (OpL.allocS 24 rfl z_63 rfl) rfl rfl rfl ?_
        refine RegL.opN (OpL.storeS rfl sz_63 rfl rfl rfl rfl rfl rfl) rfl rfl ?_
        refine RegL.q (OpQ.assign rfl rfl) rfl rfl rfl ?_
        refine RegL.done ?_
        refine EvtL.seq ?_
        refine EvtL.seqReg ?_
        refine RegL.q (OpQ.move rfl rfl) rfl rfl rfl ?_
        refine RegL.q (OpQ.not rfl rfl) rfl rfl rfl ?_
        refine RegL.done ?_
        refine EvtL.condF rfl rfl ?_
        refine EvtL.skip ?_
        refine EvtL.seqReg ?_
        refine RegL.q (OpQ.fieldAddr rfl f_63_0 rfl) rfl rfl rfl ?_
        refine RegL.op (OpL.loadS1 rfl ag_61 sz_61 rfl rfl rfl) rfl rfl rfl ?_
        refine RegL.q (OpQ.move rfl rfl) rfl rfl rfl ?_
        refine RegL.q (OpQ.move rfl rfl) rfl rfl rfl ?_
        refine RegL.inlVal (fn := Tryz.f53) (by kernel_rfl) (by kernel_rfl) rfl rfl rfl rfl rfl rfl rfl rfl rfl rfl rfl rfl rfl ?_
        refine EvtL.seqReg ?_
        refine RegL.q (OpQ.assign rfl rfl) rfl rfl rfl ?_
        refine RegL.done ?_
        refine EvtL.seq ?_
        refine EvtL.seqReg ?_
        refine RegL.q (OpQ.move rfl rfl) rfl rfl rfl ?_
        refine RegL.q (OpQ.not rfl rfl) rfl rfl rfl ?_
        refine RegL.q (OpQ.move rfl rfl) rfl rfl rfl ?_
        refine RegL.both rfl rfl rfl rfl (fun g1 => ?_) (fun g1 => ?_)
        have h1 := nT g1
        refine RegL.skip rfl rfl rfl rfl (by assumption) rfl rfl ?_
        refine RegL.skip rfl rfl rfl rfl (by assumption) rfl rfl ?_
        refine RegL.q (OpQ.pickT rfl rfl (by assumption) rfl) rfl rfl rfl ?_
        refine RegL.q (OpQ.move rfl rfl) rfl rfl rfl ?_
        refine RegL.skip rfl rfl rfl rfl rfl rfl rfl ?_
        refine RegL.skip rfl rfl rfl rfl rfl rfl rfl ?_
        refine RegL.q (OpQ.pickT rfl rfl rfl rfl) rfl rfl rfl ?_
        refine RegL.q (OpQ.move rfl rfl) rfl rfl rfl ?_
        refine RegL.skip rfl rfl rfl rfl rfl rfl rfl ?_
        refine RegL.skip rfl rfl rfl rfl rfl rfl rfl ?_
        refine RegL.skip rfl rfl rfl rfl rfl rfl rfl ?_
        refine RegL.q (OpQ.pickT rfl rfl rfl rfl) rfl rfl rfl ?_
        refine RegL.q (OpQ.move rfl rfl) rfl rfl rfl ?_
        refine RegL.skip rfl rfl rfl rfl rfl rfl rfl ?_
        refine RegL.skip rfl rfl rfl rfl rfl rfl rfl ?_
        refine RegL.skip rfl rfl rfl rfl rfl rfl rfl ?_
        refine RegL.skip rfl rfl rfl rfl rfl rfl rfl ?_
        refine RegL.skip rfl rfl rfl rfl rfl rfl rfl ?_
        refine RegL.skip rfl rfl rfl rfl rfl rfl rfl ?_
        refine RegL.q (OpQ.pickT rfl rfl rfl rfl) rfl rfl rfl ?_
        refine RegL.q (OpQ.move rfl rfl) rfl rfl rfl ?_
        refine RegL.skip rfl rfl rfl rfl rfl rfl rfl ?_
        refine RegL.skip rfl rfl rfl rfl rfl rfl rfl ?_
        refine RegL.skip rfl rfl rfl rfl rfl rfl rfl ?_
        refine RegL.skip rfl rfl rfl rfl rfl rfl rfl ?_
        refine RegL.q (OpQ.pickT rfl rfl rfl rfl) rfl rfl rfl ?_
        refine RegL.done ?_
        refine EvtL.condT rfl rfl ?_
        refine EvtL.seqReg ?_
        refine RegL.q (OpQ.assign rfl rfl) rfl rfl rfl ?_
        refine RegL.done ?_
        refine EvtL.ret (InlQ.same rfl (res_tmp rfl rfl) rfl rfl rfl rfl ?_)
        refine RegL.q (OpQ.assign rfl rfl) rfl rfl rfl ?_
        refine RegL.done ?_
        refine EvtL.ret ⟨.inl rfl, rfl, rfl, rfl, _, _, _, (res_tmp rfl rfl), rfl, rfl, ?_⟩
        rotate_left
        have h1 := nF g1
        refine RegL.go rfl rfl rfl rfl (by assumption) (OpL.q (OpQ.move rfl rfl)) rfl rfl ?_
        refine RegL.go rfl rfl rfl rfl (by assumption) (OpL.q (OpQ.str2 rfl u_9 rfl rfl rfl rfl)) rfl rfl ?_
        refine RegL.q (OpQ.pickF rfl rfl (by assumption) rfl) rfl rfl rfl ?_
        refine RegL.q (OpQ.move rfl rfl) rfl rfl rfl ?_
        refine RegL.go rfl rfl rfl rfl (by assumption) (OpL.q (OpQ.move rfl rfl)) rfl rfl ?_
        refine RegL.go rfl rfl rfl rfl (by assumption) (OpL.callFn rfl rfl (by kernel_rfl) rfl (CallTo.memo (hit_54))) rfl rfl ?_
        refine RegL.q (OpQ.pickF rfl rfl (by assumption) rfl) rfl rfl rfl ?_
        refine RegL.q (OpQ.move rfl rfl) rfl rfl rfl ?_
        refine RegL.both rfl rfl rfl rfl (fun g2 => ?_) (fun g2 => ?_)
        have h2 := of_decide_eq_true g2
        refine RegL.skip rfl rfl rfl rfl (by assumption) rfl rfl ?_
        refine RegL.skip rfl rfl rfl rfl (by assumption) rfl rfl ?_
        refine RegL.skip rfl rfl rfl rfl (by assumption) rfl rfl ?_
        refine RegL.q (OpQ.pickT rfl rfl (by assumption) rfl) rfl rfl rfl ?_
        refine RegL.q (OpQ.move rfl rfl) rfl rfl rfl ?_
        refine RegL.skip rfl rfl rfl rfl rfl rfl rfl ?_
        refine RegL.skip rfl rfl rfl rfl rfl rfl rfl ?_
        refine RegL.skip rfl rfl rfl rfl rfl rfl rfl ?_
        refine RegL.skip rfl rfl rfl rfl rfl rfl rfl ?_
        refine RegL.skip rfl rfl rfl rfl rfl rfl rfl ?_
        refine RegL.skip rfl rfl rfl rfl rfl rfl rfl ?_
        refine RegL.q (OpQ.pickT rfl rfl rfl rfl) rfl rfl rfl ?_
        refine RegL.q (OpQ.move rfl rfl) rfl rfl rfl ?_
        refine RegL.skip rfl rfl rfl rfl rfl rfl rfl ?_
        refine RegL.skip rfl rfl rfl rfl rfl rfl rfl ?_
        refine RegL.skip rfl rfl rfl rfl rfl rfl rfl ?_
        refine RegL.skip rfl rfl rfl rfl rfl rfl rfl ?_
        refine RegL.q (OpQ.pickT rfl rfl rfl rfl) rfl rfl rfl ?_
        refine RegL.done ?_
        refine EvtL.condT rfl rfl ?_
        refine EvtL.seqReg ?_
        refine RegL.q (OpQ.assign rfl rfl) rfl rfl rfl ?_
        refine RegL.done ?_
        refine EvtL.ret (InlQ.same rfl (res_tmp rfl rfl) rfl rfl rfl rfl ?_)
        refine RegL.q (OpQ.assign rfl rfl) rfl rfl rfl ?_
        refine RegL.done ?_
        refine EvtL.ret ⟨.inl rfl, rfl, rfl, rfl, _, _, _, (res_tmp rfl rfl), rfl, rfl, ?_⟩
        rotate_left
        have h2 := of_decide_eq_false g2
        refine RegL.go rfl rfl rfl rfl (by assumption) (OpL.q (OpQ.move rfl rfl)) rfl rfl ?_
        refine RegL.go rfl rfl rfl rfl (by assumption) (OpL.q (OpQ.indexD (n := 0) rfl u_9 rfl rfl (by first | assumption | omega | (simp only [List.length_append, List.length_cons, List.length_nil, List.length_take, List.length_drop]; omega)))) rfl rfl ?_
        refine RegL.go rfl rfl rfl rfl (by assumption) (OpL.q (OpQ.int2 rfl u_5 rfl rfl rfl rfl)) rfl rfl ?_
        refine RegL.q (OpQ.pickF rfl rfl (by assumption) rfl) rfl rfl rfl ?_
        refine RegL.q (OpQ.move rfl rfl) rfl rfl rfl ?_
        refine RegL.both rfl rfl rfl rfl (fun g3 => ?_) (fun g3 => ?_)
        have h3 := of_decide_eq_true g3
        refine RegL.skip rfl rfl rfl rfl (by assumption) rfl rfl ?_
        refine RegL.skip rfl rfl rfl rfl (by assumption) rfl rfl ?_
        refine RegL.skip rfl rfl rfl rfl (by assumption) rfl rfl ?_
        refine RegL.skip rfl rfl rfl rfl (by assumption) rfl rfl ?_
        refine RegL.skip rfl rfl rfl rfl (by assumption) rfl rfl ?_
        refine RegL.skip rfl rfl rfl rfl (by assumption) rfl rfl ?_
        refine RegL.q (OpQ.pickT rfl rfl (by assumption) rfl) rfl rfl rfl ?_
        refine RegL.q (OpQ.move rfl rfl) rfl rfl rfl ?_
        refine RegL.skip rfl rfl rfl rfl rfl rfl rfl ?_
        refine RegL.skip rfl rfl rfl rfl rfl rfl rfl ?_
        refine RegL.skip rfl rfl rfl rfl rfl rfl rfl ?_
        refine RegL.skip rfl rfl rfl rfl rfl rfl rfl ?_
        refine RegL.q (OpQ.pickT rfl rfl rfl rfl) rfl rfl rfl ?_
        refine RegL.done ?_
        refine EvtL.condT rfl rfl ?_
        refine EvtL.seqReg ?_
        refine RegL.q (OpQ.assign rfl rfl) rfl rfl rfl ?_
        refine RegL.done ?_
        refine EvtL.ret (InlQ.same rfl (res_tmp rfl rfl) rfl rfl rfl rfl ?_)
        refine RegL.q (OpQ.assign rfl rfl) rfl rfl rfl ?_
        refine RegL.done ?_
        refine EvtL.ret ⟨.inl rfl, rfl, rfl, rfl, _, _, _, (res_tmp rfl rfl), rfl, rfl, ?_⟩
        rotate_left
        have h3 := of_decide_eq_false g3
        refine RegL.go rfl rfl rfl rfl (by assumption) (OpL.q (OpQ.move rfl rfl)) rfl rfl ?_
        refine RegL.go rfl rfl rfl rfl (by assumption) (OpL.q (OpQ.move rfl rfl)) rfl rfl ?_
        refine RegL.go rfl rfl rfl rfl (by assumption) (OpL.q (OpQ.lenStr rfl rfl rfl rfl u_9 rfl)) rfl rfl ?_
        refine RegL.go rfl rfl rfl rfl (by assumption) (OpL.q (OpQ.subN (b := 1) rfl u_3 rfl rfl (by omega))) rfl rfl ?_
        refine RegL.go rfl rfl rfl rfl (by assumption) (OpL.q (OpQ.indexD rfl u_9 rfl rfl (by first | assumption | omega | (simp only [List.length_append, List.length_cons, List.length_nil, List.length_take, List.length_drop]; omega)))) rfl rfl ?_
        refine RegL.go rfl rfl rfl rfl (by assumption) (OpL.q (OpQ.int2 rfl u_5 rfl rfl rfl rfl)) rfl rfl ?_
        refine RegL.q (OpQ.pickF rfl rfl (by assumption) rfl) rfl rfl rfl ?_
        refine RegL.q (OpQ.move rfl rfl) rfl rfl rfl ?_
        refine RegL.both rfl rfl rfl rfl (fun g4 => ?_) (fun g4 => ?_)
        have h4 := of_decide_eq_true g4
        refine RegL.skip rfl rfl rfl rfl (by assumption) rfl rfl ?_
        refine RegL.skip rfl rfl rfl rfl (by assumption) rfl rfl ?_
        refine RegL.skip rfl rfl rfl rfl (by assumption) rfl rfl ?_
        refine RegL.skip rfl rfl rfl rfl (by assumption) rfl rfl ?_
        refine RegL.q (OpQ.pickT rfl rfl (by assumption) rfl) rfl rfl rfl ?_
        refine RegL.done ?_
        refine EvtL.condT rfl rfl ?_
        refine EvtL.seqReg ?_
        refine RegL.q (OpQ.assign rfl rfl) rfl rfl rfl ?_
        refine RegL.done ?_
        refine EvtL.ret (InlQ.same rfl (res_tmp rfl rfl) rfl rfl rfl rfl ?_)
        refine RegL.q (OpQ.assign rfl rfl) rfl rfl rfl ?_
        refine RegL.done ?_
        refine EvtL.ret ⟨.inl rfl, rfl, rfl, rfl, _, _, _, (res_tmp rfl rfl), rfl, rfl, ?_⟩
        rotate_left
        have h4 := of_decide_eq_false g4
        refine RegL.go rfl rfl rfl rfl (by assumption) (OpL.loadS1 rfl ag_93 sz_93 rfl rfl rfl) rfl rfl ?_
        refine RegL.go rfl rfl rfl rfl (by assumption) (OpL.q (OpQ.move rfl rfl)) rfl rfl ?_
        refine RegL.go rfl rfl rfl rfl (by assumption) (OpL.callVal rfl rfl rfl (by kernel_rfl) rfl (CallTo.memo (hit_35))) rfl rfl ?_
        refine RegL.go rfl rfl rfl rfl (by assumption) (OpL.q (OpQ.not rfl rfl)) rfl rfl ?_
        refine RegL.q (OpQ.pickF rfl rfl (by assumption) rfl) rfl rfl rfl ?_
        refine RegL.done ?_
        refine EvtL.condF rfl rfl ?_
        refine EvtL.skip ?_
        refine EvtL.seqReg ?_
        refine RegL.op (OpL.loadS1 rfl ag_54 sz_54 rfl rfl rfl) rfl rfl rfl ?_
        refine RegL.q (OpQ.move rfl rfl) rfl rfl rfl ?_
        refine RegL.inlVal (fn := Tryz.f36) (by kernel_rfl) (by kernel_rfl) rfl rfl rfl rfl rfl rfl rfl rfl rfl rfl rfl rfl rfl ?_
        refine EvtL.seqReg ?_
        refine RegL.q (OpQ.assign rfl rfl) rfl rfl rfl ?_
        refine RegL.done ?_
        refine EvtL.seqReg ?_
        refine RegL.q (OpQ.move rfl rfl) rfl rfl rfl ?_
        refine RegL.q (OpQ.build rfl pl_106 rfl rfl) rfl rfl rfl ?_
        refine RegL.q (OpQ.mkIface rfl if_106 rfl) rfl rfl rfl ?_
        refine RegL.q (OpQ.assign rfl rfl) rfl rfl rfl ?_
        refine RegL.done ?_
        refine EvtL.ret (InlQ.same rfl (res_tmp rfl rfl) rfl rfl rfl rfl ?_)
        refine RegL.q (OpQ.assign rfl rfl) rfl rfl rfl ?_
        refine RegL.done ?_
        refine EvtL.ret (InlQ.same rfl (res_tmp rfl rfl) rfl rfl rfl rfl ?_)
        refine RegL.q (OpQ.assign rfl rfl) rfl rfl rfl ?_
        refine RegL.done ?_
        refine EvtL.ret ⟨.inl rfl, rfl, rfl, rfl, _, _, _, (res_tmp rfl rfl), rfl, rfl, ?_⟩
        rotate_left
      all_goals (simp only [kindOk, *]; rfl)
  by_cases hF2 : w.take (tw notSp w) = wordL.getD 2 []
  · rw [parsedV_text hF2 (by decide) rfl]
    refine CallTo.s0 (fn := Tryz.f20) rfl rfl (by kernel_rfl) rfl rfl rfl rfl ?_
    refine EvtL.seqReg ?_
    refine RegL.q (OpQ.assign rfl rfl) rfl rfl rfl ?_
    refine RegL.done ?_
    refine EvtL.seqReg ?_
    refine RegL.q (OpQ.move rfl rfl) rfl rfl rfl ?_
    refine RegL.op (OpL.callFn rfl rfl (by kernel_rfl) rfl (CallTo.memo (hit_24 (by first | assumption | omega | (simp only [List.length_append, List.length_cons, List.length_nil, List.length_take, List.length_drop]; omega))))) rfl rfl rfl ?_
    refine RegL.q (OpQ.move rfl rfl) rfl rfl rfl ?_
    refine RegL.q (OpQ.extract rfl rfl rfl) rfl rfl rfl ?_
    refine RegL.q (OpQ.extract rfl rfl rfl) rfl rfl rfl ?_
    refine RegL.q (OpQ.extract rfl rfl rfl) rfl rfl rfl ?_
    refine RegL.q (OpQ.assign rfl rfl) rfl rfl rfl ?_
    refine RegL.q (OpQ.assign rfl rfl) rfl rfl rfl ?_
    refine RegL.q (OpQ.assign rfl rfl) rfl rfl rfl ?_
    refine RegL.done ?_
    refine EvtL.seqReg ?_
    refine RegL.callFn rfl rfl (by kernel_rfl) rfl rfl rfl rfl (words_run ?_)
    rw [hF2]
    generalize w.drop (tw notSp w + 1) = T at *
    by_cases hTe : T = []
    · subst hTe
      rw [bareV_nil, Bool.false_and, Bool.and_false]
      focus
        refine RegL.q (OpQ.move rfl rfl) rfl rfl rfl ?_
        refine RegL.op (OpL.lookupS rfl u_65 z_63 kd_9 rfl rfl rfl rfl rfl) rfl rfl rfl ?_
        refine RegL.q (OpQ.move rfl rfl) rfl rfl rfl ?_
        refine RegL.q (OpQ.extract rfl rfl rfl) rfl rfl rfl ?_
        refine RegL.q (OpQ.extract rfl rfl rfl) rfl rfl rfl ?_
        refine RegL.op (OpL.allocS 24 rfl z_63 rfl) rfl rfl rfl ?_
        refine RegL.opN (OpL.storeS rfl sz_63 rfl rfl rfl rfl rfl rfl) rfl rfl ?_
        refine RegL.q (OpQ.assign rfl rfl) rfl rfl rfl ?_
        refine RegL.done ?_
        refine EvtL.seq ?_
        refine EvtL.seqReg ?_
        refine RegL.q (OpQ.move rfl rfl) rfl rfl rfl ?_
        refine RegL.q (OpQ.not rfl rfl) rfl rfl rfl ?_
        refine RegL.done ?_
        refine EvtL.condF rfl rfl ?_
        refine EvtL.skip ?_
        refine EvtL.seqReg ?_
        refine RegL.q (OpQ.fieldAddr rfl f_63_0 rfl) rfl rfl rfl ?_
        refine RegL.op (OpL.loadS1 rfl ag_61 sz_61 rfl rfl rfl) rfl rfl rfl ?_
        refine RegL.q (OpQ.move rfl rfl) rfl rfl rfl ?_
        refine RegL.q (OpQ.move rfl rfl) rfl rfl rfl ?_
        refine RegL.inlVal (fn := Tryz.f53) (by kernel_rfl) (by kernel_rfl) rfl rfl rfl rfl rfl rfl rfl rfl rfl rfl rfl rfl rfl ?_
        refine EvtL.seqReg ?_
        refine RegL.q (OpQ.assign rfl rfl) rfl rfl rfl ?_
        refine RegL.done ?_
        refine EvtL.seq ?_
        refine EvtL.seqReg ?_
        refine RegL.q (OpQ.move rfl rfl) rfl rfl rfl ?_
        refine RegL.q (OpQ.not rfl rfl) rfl rfl rfl ?_
        refine RegL.q (OpQ.move rfl rfl) rfl rfl rfl ?_
        refine RegL.both rfl rfl rfl rfl (fun g1 => ?_) (fun g1 => ?_)
        have h1 := nT g1
        refine RegL.skip rfl rfl rfl rfl (by assumption) rfl rfl ?_
        refine RegL.skip rfl rfl rfl rfl (by assumption) rfl rfl ?_
        refine RegL.q (OpQ.pickT rfl rfl (by assumption) rfl) rfl rfl rfl ?_
        refine RegL.q (OpQ.move rfl rfl) rfl rfl rfl ?_
        refine RegL.skip rfl rfl rfl rfl rfl rfl rfl ?_
        refine RegL.skip rfl rfl rfl rfl rfl rfl rfl ?_
        refine RegL.q (OpQ.pickT rfl rfl rfl rfl) rfl rfl rfl ?_
        refine RegL.q (OpQ.move rfl rfl) rfl rfl rfl ?_
        refine RegL.skip rfl rfl rfl rfl rfl rfl rfl ?_
        refine RegL.skip rfl rfl rfl rfl rfl rfl rfl ?_
        refine RegL.skip rfl rfl rfl rfl rfl rfl rfl ?_
        refine RegL.q (OpQ.pickT rfl rfl rfl rfl) rfl rfl rfl ?_
        refine RegL.q (OpQ.move rfl rfl) rfl rfl rfl ?_
        refine RegL.skip rfl rfl rfl rfl rfl rfl rfl ?_
        refine RegL.skip rfl rfl rfl rfl rfl rfl rfl ?_
        refine RegL.skip rfl rfl rfl rfl rfl rfl rfl ?_
        refine RegL.skip rfl rfl rfl rfl rfl rfl rfl ?_
        refine RegL.skip rfl rfl rfl rfl rfl rfl rfl ?_
        refine RegL.skip rfl rfl rfl rfl rfl rfl rfl ?_
        refine RegL.q (OpQ.pickT rfl rfl rfl rfl) rfl rfl rfl ?_
        refine RegL.q (OpQ.move rfl rfl) rfl rfl rfl ?_
        refine RegL.skip rfl rfl rfl rfl rfl rfl rfl ?_
        refine RegL.skip rfl rfl rfl rfl rfl rfl rfl ?_
        refine RegL.skip rfl rfl rfl rfl rfl rfl rfl ?_
        refine RegL.skip rfl rfl rfl rfl rfl rfl rfl ?_
        refine RegL.q (OpQ.pickT rfl rfl rfl rfl) rfl rfl rfl ?_
        refine RegL.done ?_
        refine EvtL.condT rfl rfl ?_
        refine EvtL.seqReg ?_
        refine RegL.q (OpQ.assign rfl rfl) rfl rfl rfl ?_
        refine RegL.done ?_
        refine EvtL.ret (InlQ.same rfl (res_tmp rfl rfl) rfl rfl rfl rfl ?_)
        refine RegL.q (OpQ.assign rfl rfl) rfl rfl rfl ?_
        refine RegL.done ?_
        refine EvtL.ret ⟨.inl rfl, rfl, rfl, rfl, _, _, _, (res_tmp rfl rfl), rfl, rfl, ?_⟩
        rotate_left
        have h1 := nF g1
        refine RegL.go rfl rfl rfl rfl (by assumption) (OpL.q (OpQ.move rfl rfl)) rfl rfl ?_
        refine RegL.go rfl rfl rfl rfl (by assumption) (OpL.q (OpQ.str2 rfl u_9 rfl rfl rfl rfl)) rfl rfl ?_
        refine RegL.q (OpQ.pickF rfl rfl (by assumption) rfl) rfl rfl rfl ?_
        refine RegL.q (OpQ.move rfl rfl) rfl rfl rfl ?_
        refine RegL.skip rfl rfl rfl rfl rfl rfl rfl ?_
        refine RegL.skip rfl rfl rfl rfl rfl rfl rfl ?_
        refine RegL.q (OpQ.pickT rfl rfl rfl rfl) rfl rfl rfl ?_
        refine RegL.q (OpQ.move rfl rfl) rfl rfl rfl ?_
        refine RegL.skip rfl rfl rfl rfl rfl rfl rfl ?_
        refine RegL.skip rfl rfl rfl rfl rfl rfl rfl ?_
        refine RegL.skip rfl rfl rfl rfl rfl rfl rfl ?_
        refine RegL.q (OpQ.pickT rfl rfl rfl rfl) rfl rfl rfl ?_
        refine RegL.q (OpQ.move rfl rfl) rfl rfl rfl ?_
        refine RegL.skip rfl rfl rfl rfl rfl rfl rfl ?_
        refine RegL.skip rfl rfl rfl rfl rfl rfl rfl ?_
        refine RegL.skip rfl rfl rfl rfl rfl rfl rfl ?_
        refine RegL.skip rfl rfl rfl rfl rfl rfl rfl ?_
        refine RegL.skip rfl rfl rfl rfl rfl rfl rfl ?_
        refine RegL.skip rfl rfl rfl rfl rfl rfl rfl ?_
        refine RegL.q (OpQ.pickT rfl rfl rfl rfl) rfl rfl rfl ?_
        refine RegL.q (OpQ.move rfl rfl) rfl rfl rfl ?_
        refine RegL.skip rfl rfl rfl rfl rfl rfl rfl ?_
        refine RegL.skip rfl rfl rfl rfl rfl rfl rfl ?_
        refine RegL.skip rfl rfl rfl rfl rfl rfl rfl ?_
        refine RegL.skip rfl rfl rfl rfl rfl rfl rfl ?_
        refine RegL.q (OpQ.pickT rfl rfl rfl rfl) rfl rfl rfl ?_
        refine RegL.done ?_
        refine EvtL.condT rfl rfl ?_
        refine EvtL.seqReg ?_
        refine RegL.q (OpQ.assign rfl rfl) rfl rfl rfl ?_
        refine RegL.done ?_
        refine EvtL.ret (InlQ.same rfl (res_tmp rfl rfl) rfl rfl rfl rfl ?_)
        refine RegL.q (OpQ.assign rfl rfl) rfl rfl rfl ?_
        refine RegL.done ?_
        refine EvtL.ret ⟨.inl rfl, rfl, rfl, rfl, _, _, _, (res_tmp rfl rfl), rfl, rfl, ?_⟩
        rotate_left
      all_goals rfl
    · have hpos : 0 < T.length := List.length_pos_iff.2 hTe
      have hne : bytesEq T ({ data := #[] } : ByteArray).data.toList = false := by rw [bytesEq_iff]; exact decide_eq_false hTe
      rw [bareV_eq hTe]
      focus
        refine RegL.q (OpQ.move rfl rfl) rfl rfl rfl ?_
        refine RegL.op (OpL.lookupS rfl u_65 z_63 kd_9 rfl rfl rfl rfl rfl) rfl rfl rfl ?_
        refine RegL.q (OpQ.move rfl rfl) rfl rfl rfl ?_
        refine RegL.q (OpQ.extract rfl rfl rfl) rfl rfl rfl ?_
        refine RegL.q (OpQ.extract rfl rfl rfl) rfl rfl rfl ?_
        refine RegL.op (OpL.allocS 24 rfl z_63 rfl) rfl rfl rfl ?_
        refine RegL.opN (OpL.storeS rfl sz_63 rfl rfl rfl rfl rfl rfl) rfl rfl ?_
        refine RegL.q (OpQ.assign rfl rfl) rfl rfl rfl ?_
        refine RegL.done ?_
        refine EvtL.seq ?_
        refine EvtL.seqReg ?_
        refine RegL.q (OpQ.move rfl rfl) rfl rfl rfl ?_
        refine RegL.q (OpQ.not rfl rfl) rfl rfl rfl ?_
        refine RegL.done ?_
        refine EvtL.condF rfl rfl ?_
        refine EvtL.skip ?_
        refine EvtL.seqReg ?_
        refine RegL.q (OpQ.fieldAddr rfl f_63_0 rfl) rfl rfl rfl ?_
        refine RegL.op (OpL.loadS1 rfl ag_61 sz_61 rfl rfl rfl) rfl rfl rfl ?_
        refine RegL.q (OpQ.move rfl rfl) rfl rfl rfl ?_
        refine RegL.q (OpQ.move rfl rfl) rfl rfl rfl ?_
        refine RegL.inlVal (fn := Tryz.f53) (by kernel_rfl) (by kernel_rfl) rfl rfl rfl rfl rfl rfl rfl rfl rfl rfl rfl rfl rfl ?_
        refine EvtL.seqReg ?_
        refine RegL.q (OpQ.assign rfl rfl) rfl rfl rfl ?_
        refine RegL.done ?_
        refine EvtL.seq ?_
        refine EvtL.seqReg ?_
        refine RegL.q (OpQ.move rfl rfl) rfl rfl rfl ?_
        refine RegL.q (OpQ.not rfl rfl) rfl rfl rfl ?_
        refine RegL.q (OpQ.move rfl rfl) rfl rfl rfl ?_
        refine RegL.both rfl rfl rfl rfl (fun g1 => ?_) (fun g1 => ?_)
        have h1 := nT g1
        refine RegL.skip rfl rfl rfl rfl (by assumption) rfl rfl ?_
        refine RegL.skip rfl rfl rfl rfl (by assumption) rfl rfl ?_
        refine RegL.q (OpQ.pickT rfl rfl (by assumption) rfl) rfl rfl rfl ?_
        refine RegL.q (OpQ.move rfl rfl) rfl rfl rfl ?_
        refine RegL.skip rfl rfl rfl rfl rfl rfl rfl ?_
        refine RegL.skip rfl rfl rfl rfl rfl rfl rfl ?_
        refine RegL.q (OpQ.pickT rfl rfl rfl rfl) rfl rfl rfl ?_
        refine RegL.q (OpQ.move rfl rfl) rfl rfl rfl ?_
        refine RegL.skip rfl rfl rfl rfl rfl rfl rfl ?_
        refine RegL.skip rfl rfl rfl rfl rfl rfl rfl ?_
        refine RegL.skip rfl rfl rfl rfl rfl rfl rfl ?_
        refine RegL.q (OpQ.pickT rfl rfl rfl rfl) rfl rfl rfl ?_
        refine RegL.q (OpQ.move rfl rfl) rfl rfl rfl ?_
        refine RegL.skip rfl rfl rfl rfl rfl rfl rfl ?_
        refine RegL.skip rfl rfl rfl rfl rfl rfl rfl ?_
        refine RegL.skip rfl rfl rfl rfl rfl rfl rfl ?_
        refine RegL.skip rfl rfl rfl rfl rfl rfl rfl ?_
        refine RegL.skip rfl rfl rfl rfl rfl rfl rfl ?_
        refine RegL.skip rfl rfl rfl rfl rfl rfl rfl ?_
        refine RegL.q (OpQ.pickT rfl rfl rfl rfl) rfl rfl rfl ?_
        refine RegL.q (OpQ.move rfl rfl) rfl rfl rfl ?_
        refine RegL.skip rfl rfl rfl rfl rfl rfl rfl ?_
        refine RegL.skip rfl rfl rfl rfl rfl rfl rfl ?_
        refine RegL.skip rfl rfl rfl rfl rfl rfl rfl ?_
        refine RegL.skip rfl rfl rfl rfl rfl rfl rfl ?_
        refine RegL.q (OpQ.pickT rfl rfl rfl rfl) rfl rfl rfl ?_
        refine RegL.done ?_
        refine EvtL.condT rfl rfl ?_
        refine EvtL.seqReg ?_
        refine RegL.q (OpQ.assign rfl rfl) rfl rfl rfl ?_
        refine RegL.done ?_
        refine EvtL.ret (InlQ.same rfl (res_tmp rfl rfl) rfl rfl rfl rfl ?_)
        refine RegL.q (OpQ.assign rfl rfl) rfl rfl rfl ?_
        refine RegL.done ?_
        refine EvtL.ret ⟨.inl rfl, rfl, rfl, rfl, _, _, _, (res_tmp rfl rfl), rfl, rfl, ?_⟩
        rotate_left
        have h1 := nF g1
        refine RegL.go rfl rfl rfl rfl (by assumption) (OpL.q (OpQ.move rfl rfl)) rfl rfl ?_
        refine RegL.go rfl rfl rfl rfl (by assumption) (OpL.q (OpQ.str2 rfl u_9 rfl rfl rfl rfl)) rfl rfl ?_
        refine RegL.q (OpQ.pickF rfl rfl (by assumption) rfl) rfl rfl rfl ?_
        refine RegL.q (OpQ.move rfl rfl) rfl rfl rfl ?_
        refine RegL.go rfl rfl rfl rfl (by assumption) (OpL.q (OpQ.move rfl rfl)) rfl rfl ?_
        refine RegL.go rfl rfl rfl rfl (by assumption) (OpL.callFn rfl rfl (by kernel_rfl) rfl (CallTo.memo (hit_54))) rfl rfl ?_
        refine RegL.q (OpQ.pickF rfl rfl (by assumption) rfl) rfl rfl rfl ?_
        refine RegL.q (OpQ.move rfl rfl) rfl rfl rfl ?_
        refine RegL.both rfl rfl rfl rfl (fun g2 => ?_) (fun g2 => ?_)
        have h2 := of_decide_eq_true g2
        refine RegL.skip rfl rfl rfl rfl (by assumption) rfl rfl ?_
        refine RegL.skip rfl rfl rfl rfl (by assumption) rfl rfl ?_
        refine RegL.skip rfl rfl rfl rfl (by assumption) rfl rfl ?_
        refine RegL.q (OpQ.pickT rfl rfl (by assumption) rfl) rfl rfl rfl ?_
        refine RegL.q (OpQ.move rfl rfl) rfl rfl rfl ?_
        refine RegL.skip rfl rfl rfl rfl rfl rfl rfl ?_
        refine RegL.skip rfl rfl rfl rfl rfl rfl rfl ?_
        refine RegL.skip rfl rfl rfl rfl rfl rfl rfl ?_
        refine RegL.skip rfl rfl rfl rfl rfl rfl rfl ?_
        refine RegL.skip rfl rfl rfl rfl rfl rfl rfl ?_
        refine RegL.skip rfl rfl rfl rfl rfl rfl rfl ?_
        refine RegL.q (OpQ.pickT rfl rfl rfl rfl) rfl rfl rfl ?_
        refine RegL.q (OpQ.move rfl rfl) rfl rfl rfl ?_
        refine RegL.skip rfl rfl rfl rfl rfl rfl rfl ?_
        refine RegL.skip rfl rfl rfl rfl rfl rfl rfl ?_
        refine RegL.skip rfl rfl rfl rfl rfl rfl rfl ?_
        refine RegL.skip rfl rfl rfl rfl rfl rfl rfl ?_
        refine RegL.q (OpQ.pickT rfl rfl rfl rfl) rfl rfl rfl ?_
        refine RegL.done ?_
        refine EvtL.condT rfl rfl ?_
        refine EvtL.seqReg ?_
        refine RegL.q (OpQ.assign rfl rfl) rfl rfl rfl ?_
        refine RegL.done ?_
        refine EvtL.ret (InlQ.same rfl (res_tmp rfl rfl) rfl rfl rfl rfl ?_)
        refine RegL.q (OpQ.assign rfl rfl) rfl rfl rfl ?_
        refine RegL.done ?_
        refine EvtL.ret ⟨.inl rfl, rfl, rfl, rfl, _, _, _, (res_tmp rfl rfl), rfl, rfl, ?_⟩
        rotate_left
        have h2 := of_decide_eq_false g2
        refine RegL.go rfl rfl rfl rfl (by assumption) (OpL.q (OpQ.move rfl rfl)) rfl rfl ?_
        refine RegL.go rfl rfl rfl rfl (by assumption) (OpL.q (OpQ.indexD (n := 0) rfl u_9 rfl rfl (by first | assumption | omega | (simp only [List.length_append, List.length_cons, List.length_nil, List.length_take, List.length_drop]; omega)))) rfl rfl ?_
        refine RegL.go rfl rfl rfl rfl (by assumption) (OpL.q (OpQ.int2 rfl u_5 rfl rfl rfl rfl)) rfl rfl ?_
        refine RegL.q (OpQ.pickF rfl rfl (by assumption) rfl) rfl rfl rfl ?_
        refine RegL.q (OpQ.move rfl rfl) rfl rfl rfl ?_
        refine RegL.both rfl rfl rfl rfl (fun g3 => ?_) (fun g3 => ?_)
        have h3 := of_decide_eq_true g3
        refine RegL.skip rfl rfl rfl rfl (by assumption) rfl rfl ?_
        refine RegL.skip rfl rfl rfl rfl (by assumption) rfl rfl ?_
        refine RegL.skip rfl rfl rfl rfl (by assumption) rfl rfl ?_
        refine RegL.skip rfl rfl rfl rfl (by assumption) rfl rfl ?_
        refine RegL.skip rfl rfl rfl rfl (by assumption) rfl rfl ?_
        refine RegL.skip rfl rfl rfl rfl (by assumption) rfl rfl ?_
        refine RegL.q (OpQ.pickT rfl rfl (by assumption) rfl) rfl rfl rfl ?_
        refine RegL.q (OpQ.move rfl rfl) rfl rfl rfl ?_
        refine RegL.skip rfl rfl rfl rfl rfl rfl rfl ?_
        refine RegL.skip rfl rfl rfl rfl rfl rfl rfl ?_
        refine RegL.skip rfl rfl rfl rfl rfl rfl rfl ?_
        refine RegL.skip rfl rfl rfl rfl rfl rfl rfl ?_
        refine RegL.q (OpQ.pickT rfl rfl rfl rfl) rfl rfl rfl ?_
        refine RegL.done ?_
        refine EvtL.condT rfl rfl ?_
        refine EvtL.seqReg ?_
        refine RegL.q (OpQ.assign rfl rfl) rfl rfl rfl ?_
        refine RegL.done ?_
        refine EvtL.ret (InlQ.same rfl (res_tmp rfl rfl) rfl rfl rfl rfl ?_)
        refine RegL.q (OpQ.assign rfl rfl) rfl rfl rfl ?_
        refine RegL.done ?_
        refine EvtL.ret ⟨.inl rfl, rfl, rfl, rfl, _, _, _, (res_tmp rfl rfl), rfl, rfl, ?_⟩
        rotate_left
        have h3 := of_decide_eq_false g3
        refine RegL.go rfl rfl rfl rfl (by assumption) (OpL.q (OpQ.move rfl rfl)) rfl rfl ?_
        refine RegL.go rfl rfl rfl rfl (by assumption) (OpL.q (OpQ.move rfl rfl)) rfl rfl ?_
        refine RegL.go rfl rfl rfl rfl (by assumption) (OpL.q (OpQ.lenStr rfl rfl rfl rfl u_9 rfl)) rfl rfl ?_
        refine RegL.go rfl rfl rfl rfl (by assumption) (OpL.q (OpQ.subN (b := 1) rfl u_3 rfl rfl (by omega))) rfl rfl ?_
        refine RegL.go rfl rfl rfl rfl (by assumption) (OpL.q (OpQ.indexD rfl u_9 rfl rfl (by first | assumption | omega | (simp only [List.length_append, List.length_cons, List.length_nil, List.length_take, List.length_drop]; omega)))) rfl rfl ?_
        refine RegL.go rfl rfl rfl rfl (by assumption) (OpL.q (OpQ.int2 rfl u_5 rfl rfl rfl rfl)) rfl rfl ?_
        refine RegL.q (OpQ.pickF rfl rfl (by assumption) rfl) rfl rfl rfl ?_
        refine RegL.q (OpQ.move rfl rfl) rfl rfl rfl ?_
        refine RegL.both rfl rfl rfl rfl (fun g4 => ?_) (fun g4 => ?_)
        have h4 := of_decide_eq_true g4
        refine RegL.skip rfl rfl rfl rfl (by assumption) rfl rfl ?_
        refine RegL.skip rfl rfl rfl rfl (by assumption) rfl rfl ?_
        refine RegL.skip rfl rfl rfl rfl (by assumption) rfl rfl ?_
        refine RegL.skip rfl rfl rfl rfl (by assumption) rfl rfl ?_
        refine RegL.q (OpQ.pickT rfl rfl (by assumption) rfl) rfl rfl rfl ?_
        refine RegL.done ?_
        refine EvtL.condT rfl rfl ?_
        refine EvtL.seqReg ?_
        refine RegL.q (OpQ.assign rfl rfl) rfl rfl rfl ?_
        refine RegL.done ?_
        refine EvtL.ret (InlQ.same rfl (res_tmp rfl rfl) rfl rfl rfl rfl ?_)
        refine RegL.q (OpQ.assign rfl rfl) rfl rfl rfl ?_
        refine RegL.done ?_
        refine EvtL.ret ⟨.inl rfl, rfl, rfl, rfl, _, _, _, (res_tmp rfl rfl), rfl, rfl, ?_⟩
        rotate_left
        have h4 := of_decide_eq_false g4
        refine RegL.go rfl rfl rfl rfl (by assumption) (OpL.loadS1 rfl ag_93 sz_93 rfl rfl rfl) rfl rfl ?_
        refine RegL.go rfl rfl rfl rfl (by assumption) (OpL.q (OpQ.move rfl rfl)) rfl rfl ?_
        refine RegL.go rfl rfl rfl rfl (by assumption) (OpL.callVal rfl rfl rfl (by kernel_rfl) rfl (CallTo.memo (hit_35))) rfl rfl ?_
        refine RegL.go rfl rfl rfl rfl (by assumption) (OpL.q (OpQ.not rfl rfl)) rfl rfl ?_
        refine RegL.q (OpQ.pickF rfl rfl (by assumption) rfl) rfl rfl rfl ?_
        refine RegL.done ?_
        refine EvtL.condF rfl rfl ?_
        refine EvtL.skip ?_
        refine EvtL.seqReg ?_
        refine RegL.op (OpL.loadS1 rfl ag_54 sz_54 rfl rfl rfl) rfl rfl rfl ?_
        refine RegL.q (OpQ.move rfl rfl) rfl rfl rfl ?_
        refine RegL.inlVal (fn := Tryz.f37) (by kernel_rfl) (by kernel_rfl) rfl rfl rfl rfl rfl rfl rfl rfl rfl rfl rfl rfl rfl ?_
        refine EvtL.seqReg ?_
        refine RegL.q (OpQ.assign rfl rfl) rfl rfl rfl ?_
        refine RegL.done ?_
        refine EvtL.seqReg ?_
        refine RegL.q (OpQ.move rfl rfl) rfl rfl rfl ?_
        refine RegL.q (OpQ.build rfl pl_107 rfl rfl) rfl rfl rfl ?_
        refine RegL.q (OpQ.mkIface rfl if_107 rfl) rfl rfl rfl ?_
        refine RegL.q (OpQ.assign rfl rfl) rfl rfl rfl ?_
        refine RegL.done ?_
        refine EvtL.ret (InlQ.same rfl (res_tmp rfl rfl) rfl rfl rfl rfl ?_)
        refine RegL.q (OpQ.assign rfl rfl) rfl rfl rfl ?_
        refine RegL.done ?_
        refine EvtL.ret (InlQ.same rfl (res_tmp rfl rfl) rfl rfl rfl rfl ?_)
        refine RegL.q (OpQ.assign rfl rfl) rfl rfl rfl ?_
        refine RegL.done ?_
        refine EvtL.ret ⟨.inl rfl, rfl, rfl, rfl, _, _, _, (res_tmp rfl rfl), rfl, rfl, ?_⟩
        rotate_left
      all_goals (simp only [kindOk, *]; rfl)
  by_cases hF3 : w.take (tw notSp w) = wordL.getD 3 []
  · rw [parsedV_text hF3 (by decide) rfl]
    refine CallTo.s0 (fn := Tryz.f20) rfl rfl (by kernel_rfl) rfl rfl rfl rfl ?_
    refine EvtL.seqReg ?_
    refine RegL.q (OpQ.assign rfl rfl) rfl rfl rfl ?_
    refine RegL.done ?_
    refine EvtL.seqReg ?_
    refine RegL.q (OpQ.move rfl rfl) rfl rfl rfl ?_
    refine RegL.op (OpL.callFn rfl rfl (by kernel_rfl) rfl (CallTo.memo (hit_24 (by first | assumption | omega | (simp only [List.length_append, List.length_cons, List.length_nil, List.length_take, List.length_drop]; omega))))) rfl rfl rfl ?_
    refine RegL.q (OpQ.move rfl rfl) rfl rfl rfl ?_
    refine RegL.q (OpQ.extract rfl rfl rfl) rfl rfl rfl ?_
    refine RegL.q (OpQ.extract rfl rfl rfl) rfl rfl rfl ?_
    refine RegL.q (OpQ.extract rfl rfl rfl) rfl rfl rfl ?_
    refine RegL.q (OpQ.assign rfl rfl) rfl rfl rfl ?_
    refine RegL.q (OpQ.assign rfl rfl) rfl rfl rfl ?_
    refine RegL.q (OpQ.assign rfl rfl) rfl rfl rfl ?_
    refine RegL.done ?_
    refine EvtL.seqReg ?_
    refine RegL.callFn rfl rfl (by kernel_rfl) rfl rfl rfl rfl (words_run ?_)
    rw [hF3]
    generalize w.drop (tw notSp w + 1) = T at *
    by_cases hTe : T = []
    · subst hTe
      rw [bareV_nil, Bool.false_and, Bool.and_false]
      focus
        refine RegL.q (OpQ.move rfl rfl) rfl rfl rfl ?_
        refine RegL.op (OpL.lookupS rfl u_65 z_63 kd_9 rfl rfl rfl rfl rfl) rfl rfl rfl ?_
        refine RegL.q (OpQ.move rfl rfl) rfl rfl rfl ?_
        refine RegL.q (OpQ.extract rfl rfl rfl) rfl rfl rfl ?_
        refine RegL.q (OpQ.extract rfl rfl rfl) rfl rfl rfl ?_
        refine RegL.op (OpL.allocS 24 rfl z_63 rfl) rfl rfl rfl ?_
        refine RegL.opN (OpL.storeS rfl sz_63 rfl rfl rfl rfl rfl rfl) rfl rfl ?_
        refine RegL.q (OpQ.assign rfl rfl) rfl rfl rfl ?_
        refine RegL.done ?_
        refine EvtL.seq ?_
        refine EvtL.seqReg ?_
        refine RegL.q (OpQ.move rfl rfl) rfl rfl rfl ?_
        refine RegL.q (OpQ.not rfl rfl) rfl rfl rfl ?_
        refine RegL.done ?_
        refine EvtL.condF rfl rfl ?_
        refine EvtL.skip ?_
        refine EvtL.seqReg ?_
        refine RegL.q (OpQ.fieldAddr rfl f_63_0 rfl) rfl rfl rfl ?_
        refine RegL.op (OpL.loadS1 rfl ag_61 sz_61 rfl rfl rfl) rfl rfl rfl ?_
        refine RegL.q (OpQ.move rfl rfl) rfl rfl rfl ?_
        refine RegL.q (OpQ.move rfl rfl) rfl rfl rfl ?_
        refine RegL.inlVal (fn := Tryz.f53) (by kernel_rfl) (by kernel_rfl) rfl rfl rfl rfl rfl rfl rfl rfl rfl rfl rfl rfl rfl ?_
        refine EvtL.seqReg ?_
        refine RegL.q (OpQ.assign rfl rfl) rfl rfl rfl ?_
        refine RegL.done ?_
        refine EvtL.seq ?_
        refine EvtL.seqReg ?_
        refine RegL.q (OpQ.move rfl rfl) rfl rfl rfl ?_
        refine RegL.q (OpQ.not rfl rfl) rfl rfl rfl ?_
        refine RegL.q (OpQ.move rfl rfl) rfl rfl rfl ?_
        refine RegL.both rfl rfl rfl rfl (fun g1 => ?_) (fun g1 => ?_)
        have h1 := nT g1
        refine RegL.skip rfl rfl rfl rfl (by assumption) rfl rfl ?_
        refine RegL.skip rfl rfl rfl rfl (by assumption) rfl rfl ?_
        refine RegL.q (OpQ.pickT rfl rfl (by assumption) rfl) rfl rfl rfl ?_
        refine RegL.q (OpQ.move rfl rfl) rfl rfl rfl ?_
        refine RegL.skip rfl rfl rfl rfl rfl rfl rfl ?_
        refine RegL.skip rfl rfl rfl rfl rfl rfl rfl ?_
        refine RegL.q (OpQ.pickT rfl rfl rfl rfl) rfl rfl rfl ?_
        refine RegL.q (OpQ.move rfl rfl) rfl rfl rfl ?_
        refine RegL.skip rfl rfl rfl rfl rfl rfl rfl ?_
        refine RegL.skip rfl rfl rfl rfl rfl rfl rfl ?_
        refine RegL.skip rfl rfl rfl rfl rfl rfl rfl ?_
        refine RegL.q (OpQ.pickT rfl rfl rfl rfl) rfl rfl rfl ?_
        refine RegL.q (OpQ.move rfl rfl) rfl rfl rfl ?_
        refine RegL.skip rfl rfl rfl rfl rfl rfl rfl ?_
        refine RegL.skip rfl rfl rfl rfl rfl rfl rfl ?_
        refine RegL.skip rfl rfl rfl rfl rfl rfl rfl ?_
        refine RegL.skip rfl rfl rfl rfl rfl rfl rfl ?_
        refine RegL.skip rfl rfl rfl rfl rfl rfl rfl ?_
        refine RegL.skip rfl rfl rfl rfl rfl rfl rfl ?_
        refine RegL.q (OpQ.pickT rfl rfl rfl rfl) rfl rfl rfl ?_
        refine RegL.q (OpQ.move rfl rfl) rfl rfl rfl ?_
        refine RegL.skip rfl rfl rfl rfl rfl rfl rfl ?_
        refine RegL.skip rfl rfl rfl rfl rfl rfl rfl ?_
        refine RegL.skip rfl rfl rfl rfl rfl rfl rfl ?_
        refine RegL.skip rfl rfl rfl rfl rfl rfl rfl ?_
        refine RegL.q (OpQ.pickT rfl rfl rfl rfl) rfl rfl rfl ?_
        refine RegL.done ?_
        refine EvtL.condT rfl rfl ?_
        refine EvtL.seqReg ?_
        refine RegL.q (OpQ.assign rfl rfl) rfl rfl rfl ?_
        refine RegL.done ?_
        refine EvtL.ret (InlQ.same rfl (res_tmp rfl rfl) rfl rfl rfl rfl ?_)
        refine RegL.q (OpQ.assign rfl rfl) rfl rfl rfl ?_
        refine RegL.done ?_
        refine EvtL.ret ⟨.inl rfl, rfl, rfl, rfl, _, _, _, (res_tmp rfl rfl), rfl, rfl, ?_⟩
        rotate_left
        have h1 := nF g1
        refine RegL.go rfl rfl rfl rfl (by assumption) (OpL.q (OpQ.move rfl rfl)) rfl rfl ?_
        refine RegL.go rfl rfl rfl rfl (by assumption) (OpL.q (OpQ.str2 rfl u_9 rfl rfl rfl rfl)) rfl rfl ?_
        refine RegL.q (OpQ.pickF rfl rfl (by assumption) rfl) rfl rfl rfl ?_
        refine RegL.q (OpQ.move rfl rfl) rfl rfl rfl ?_
        refine RegL.skip rfl rfl rfl rfl rfl rfl rfl ?_
        refine RegL.skip rfl rfl rfl rfl rfl rfl rfl ?_
        refine RegL.q (OpQ.pickT rfl rfl rfl rfl) rfl rfl rfl ?_
        refine RegL.q (OpQ.move rfl rfl) rfl rfl rfl ?_
        refine RegL.skip rfl rfl rfl rfl rfl rfl rfl ?_
        refine RegL.skip rfl rfl rfl rfl rfl rfl rfl ?_
        refine RegL.skip rfl rfl rfl rfl rfl rfl rfl ?_
        refine RegL.q (OpQ.pickT rfl rfl rfl rfl) rfl rfl rfl ?_
        refine RegL.q (OpQ.move rfl rfl) rfl rfl rfl ?_
        refine RegL.skip rfl rfl rfl rfl rfl rfl rfl ?_
        refine RegL.skip rfl rfl rfl rfl rfl rfl rfl ?_
        refine RegL.skip rfl rfl rfl rfl rfl rfl rfl ?_
        refine RegL.skip rfl rfl rfl rfl rfl rfl rfl ?_
        refine RegL.skip rfl rfl rfl rfl rfl rfl rfl ?_
        refine RegL.skip rfl rfl rfl rfl rfl rfl rfl ?_
        refine RegL.q (OpQ.pickT rfl rfl rfl rfl) rfl rfl rfl ?_
        refine RegL.q (OpQ.move rfl rfl) rfl rfl rfl ?_
        refine RegL.skip rfl rfl rfl rfl rfl rfl rfl ?_
        refine RegL.skip rfl rfl rfl rfl rfl rfl rfl ?_
        refine RegL.skip rfl rfl rfl rfl rfl rfl rfl ?_
        refine RegL.skip rfl rfl rfl rfl rfl rfl rfl ?_
        refine RegL.q (OpQ.pickT rfl rfl rfl rfl) rfl rfl rfl ?_
        refine RegL.done ?_
        refine EvtL.condT rfl rfl ?_
        refine EvtL.seqReg ?_
        refine RegL.q (OpQ.assign rfl rfl) rfl rfl rfl ?_
        refine RegL.done ?_
        refine EvtL.ret (InlQ.same rfl (res_tmp rfl rfl) rfl rfl rfl rfl ?_)
        refine RegL.q (OpQ.assign rfl rfl) rfl rfl rfl ?_
        refine RegL.done ?_
        refine EvtL.ret ⟨.inl rfl, rfl, rfl, rfl, _, _, _, (res_tmp rfl rfl), rfl, rfl, ?_⟩
        rotate_left
      all_goals rfl
    · have hpos : 0 < T.length := List.length_pos_iff.2 hTe
      have hne : bytesEq T ({ data := #[] } : ByteArray).data.toList = false := by rw [bytesEq_iff]; exact decide_eq_false hTe
      rw [bareV_eq hTe]
      focus
        refine RegL.q (OpQ.move rfl rfl) rfl rfl rfl ?_
        refine RegL.op (OpL.lookupS rfl u_65 z_63 kd_9 rfl rfl rfl rfl rfl) rfl rfl rfl ?_
        refine RegL.q (OpQ.move rfl rfl) rfl rfl rfl ?_
        refine RegL.q (OpQ.extract rfl rfl rfl) rfl rfl rfl ?_
        refine RegL.q (OpQ.extract rfl rfl rfl) rfl rfl rfl ?_
        refine RegL.op (OpL.allocS 24 rfl z_63 rfl) rfl rfl rfl ?_
        refine RegL.opN (OpL.storeS rfl sz_63 rfl rfl rfl rfl rfl rfl) rfl rfl ?_
        refine RegL.q (OpQ.assign rfl rfl) rfl rfl rfl ?_
        refine RegL.done ?_
        refine EvtL.seq ?_
        refine EvtL.seqReg ?_
        refine RegL.q (OpQ.move rfl rfl) rfl rfl rfl ?_
        refine RegL.q (OpQ.not rfl rfl) rfl rfl rfl ?_
        refine RegL.done ?_
        refine EvtL.condF rfl rfl ?_
        refine EvtL.skip ?_
        refine EvtL.seqReg ?_
        refine RegL.q (OpQ.fieldAddr rfl f_63_0 rfl) rfl rfl rfl ?_
        refine RegL.op (OpL.loadS1 rfl ag_61 sz_61 rfl rfl rfl) rfl rfl rfl ?_
        refine RegL.q (OpQ.move rfl rfl) rfl rfl rfl ?_
        refine RegL.q (OpQ.move rfl rfl) rfl rfl rfl ?_
        refine RegL.inlVal (fn := Tryz.f53) (by kernel_rfl) (by kernel_rfl) rfl rfl rfl rfl rfl rfl rfl rfl rfl rfl rfl rfl rfl ?_
        refine EvtL.seqReg ?_
        refine RegL.q (OpQ.assign rfl rfl) rfl rfl rfl ?_
        refine RegL.done ?_
        refine EvtL.seq ?_
        refine EvtL.seqReg ?_
        refine RegL.q (OpQ.move rfl rfl) rfl rfl rfl ?_
        refine RegL.q (OpQ.not rfl rfl) rfl rfl rfl ?_
        refine RegL.q (OpQ.move rfl rfl) rfl rfl rfl ?_
        refine RegL.both rfl rfl rfl rfl (fun g1 => ?_) (fun g1 => ?_)
        have h1 := nT g1
        refine RegL.skip rfl rfl rfl rfl (by assumption) rfl rfl ?_
        refine RegL.skip rfl rfl rfl rfl (by assumption) rfl rfl ?_
        refine RegL.q (OpQ.pickT rfl rfl (by assumption) rfl) rfl rfl rfl ?_
        refine RegL.q (OpQ.move rfl rfl) rfl rfl rfl ?_
        refine RegL.skip rfl rfl rfl rfl rfl rfl rfl ?_
        refine RegL.skip rfl rfl rfl rfl rfl rfl rfl ?_
        refine RegL.q (OpQ.pickT rfl rfl rfl rfl) rfl rfl rfl ?_
        refine RegL.q (OpQ.move rfl rfl) rfl rfl rfl ?_
        refine RegL.skip rfl rfl rfl rfl rfl rfl rfl ?_
        refine RegL.skip rfl rfl rfl rfl rfl rfl rfl ?_
        refine RegL.skip rfl rfl rfl rfl rfl rfl rfl ?_
        refine RegL.q (OpQ.pickT rfl rfl rfl rfl) rfl rfl rfl ?_
        refine RegL.q (OpQ.move rfl rfl) rfl rfl rfl ?_
        refine RegL.skip rfl rfl rfl rfl rfl rfl rfl ?_
        refine RegL.skip rfl rfl rfl rfl rfl rfl rfl ?_
        refine RegL.skip rfl rfl rfl rfl rfl rfl rfl ?_
        refine RegL.skip rfl rfl rfl rfl rfl rfl rfl ?_
        refine RegL.skip rfl rfl rfl rfl rfl rfl rfl ?_
        refine RegL.skip rfl rfl rfl rfl rfl rfl rfl ?_
        refine RegL.q (OpQ.pickT rfl rfl rfl rfl) rfl rfl rfl ?_
        refine RegL.q (OpQ.move rfl rfl) rfl rfl rfl ?_
        refine RegL.skip rfl rfl rfl rfl rfl rfl rfl ?_
        refine RegL.skip rfl rfl rfl rfl rfl rfl rfl ?_
        refine RegL.skip rfl rfl rfl rfl rfl rfl rfl ?_
        refine RegL.skip rfl rfl rfl rfl rfl rfl rfl ?_
        refine RegL.q (OpQ.pickT rfl rfl rfl rfl) rfl rfl rfl ?_
        refine RegL.done ?_
        refine EvtL.condT rfl rfl ?_
        refine EvtL.seqReg ?_
        refine RegL.q (OpQ.assign rfl rfl) rfl rfl rfl ?_
        refine RegL.done ?_
        refine EvtL.ret (InlQ.same rfl (res_tmp rfl rfl) rfl rfl rfl rfl ?_)
        refine RegL.q (OpQ.assign rfl rfl) rfl rfl rfl ?_
        refine RegL.done ?_
        refine EvtL.ret ⟨.inl rfl, rfl, rfl, rfl, _, _, _, (res_tmp rfl rfl), rfl, rfl, ?_⟩
        rotate_left
        have h1 := nF g1
        refine RegL.go rfl rfl rfl rfl (by assumption) (OpL.q (OpQ.move rfl rfl)) rfl rfl ?_
        refine RegL.go rfl rfl rfl rfl (by assumption) (OpL.q (OpQ.str2 rfl u_9 rfl rfl rfl rfl)) rfl rfl ?_
        refine RegL.q (OpQ.pickF rfl rfl (by assumption) rfl) rfl rfl rfl ?_
        refine RegL.q (OpQ.move rfl rfl) rfl rfl rfl ?_
        refine RegL.go rfl rfl rfl rfl (by assumption) (OpL.q (OpQ.move rfl rfl)) rfl rfl ?_
        refine RegL.go rfl rfl rfl rfl (by assumption) (OpL.callFn rfl rfl (by kernel_rfl) rfl (CallTo.memo (hit_54))) rfl rfl ?_
        refine RegL.q (OpQ.pickF rfl rfl (by assumption) rfl) rfl rfl rfl ?_
        refine RegL.q (OpQ.move rfl rfl) rfl rfl rfl ?_
        refine RegL.both rfl rfl rfl rfl (fun g2 => ?_) (fun g2 => ?_)
        have h2 := of_decide_eq_true g2
        refine RegL.skip rfl rfl rfl rfl (by assumption) rfl rfl ?_
        refine RegL.skip rfl rfl rfl rfl (by assumption) rfl rfl ?_
        refine RegL.skip rfl rfl rfl rfl (by assumption) rfl rfl ?_
        refine RegL.q (OpQ.pickT rfl rfl (by assumption) rfl) rfl rfl rfl ?_
        refine RegL.q (OpQ.move rfl rfl) rfl rfl rfl ?_
        refine RegL.skip rfl rfl rfl rfl rfl rfl rfl ?_
        refine RegL.skip rfl rfl rfl rfl rfl rfl rfl ?_
        refine RegL.skip rfl rfl rfl rfl rfl rfl rfl ?_
        refine RegL.skip rfl rfl rfl rfl rfl rfl rfl ?_
        refine RegL.skip rfl rfl rfl rfl rfl rfl rfl ?_
        refine RegL.skip rfl rfl rfl rfl rfl rfl rfl ?_
        refine RegL.q (OpQ.pickT rfl rfl rfl rfl) rfl rfl rfl ?_
        refine RegL.q (OpQ.move rfl rfl) rfl rfl rfl ?_
        refine RegL.skip rfl rfl rfl rfl rfl rfl rfl ?_
        refine RegL.skip rfl rfl rfl rfl rfl rfl rfl ?_
        refine RegL.skip rfl rfl rfl rfl rfl rfl rfl ?_
        refine RegL.skip rfl rfl rfl rfl rfl rfl rfl ?_
        refine RegL.q (OpQ.pickT rfl rfl rfl rfl) rfl rfl rfl ?_
        refine RegL.done ?_
        refine EvtL.condT rfl rfl ?_
        refine EvtL.seqReg ?_
        refine RegL.q (OpQ.assign rfl rfl) rfl rfl rfl ?_
        refine RegL.done ?_
        refine EvtL.ret (InlQ.same rfl (res_tmp rfl rfl) rfl rfl rfl rfl ?_)
        refine RegL.q (OpQ.assign rfl rfl) rfl rfl rfl ?_
        refine RegL.done ?_
        refine EvtL.ret ⟨.inl rfl, rfl, rfl, rfl, _, _, _, (res_tmp rfl rfl), rfl, rfl, ?_⟩
        rotate_left
        have h2 := of_decide_eq_false g2
        refine RegL.go rfl rfl rfl rfl (by assumption) (OpL.q (OpQ.move rfl rfl)) rfl rfl ?_
        refine RegL.go rfl rfl rfl rfl (by assumption) (OpL.q (OpQ.indexD (n := 0) rfl u_9 rfl rfl (by first | assumption | omega | (simp only [List.length_append, List.length_cons, List.length_nil, List.length_take, List.length_drop]; omega)))) rfl rfl ?_
        refine RegL.go rfl rfl rfl rfl (by assumption) (OpL.q (OpQ.int2 rfl u_5 rfl rfl rfl rfl)) rfl rfl ?_
        refine RegL.q (OpQ.pickF rfl rfl (by assumption) rfl) rfl rfl rfl ?_
        refine RegL.q (OpQ.move rfl rfl) rfl rfl rfl ?_
        refine RegL.both rfl rfl rfl rfl (fun g3 => ?_) (fun g3 => ?_)
        have h3 := of_decide_eq_true g3
        refine RegL.skip rfl rfl rfl rfl (by assumption) rfl rfl ?_
        refine RegL.skip rfl rfl rfl rfl (by assumption) rfl rfl ?_
        refine RegL.skip rfl rfl rfl rfl (by assumption) rfl rfl ?_
        refine RegL.skip rfl rfl rfl rfl (by assumption) rfl rfl ?_
        refine RegL.skip rfl rfl rfl rfl (by assumption) rfl rfl ?_
        refine RegL.skip rfl rfl rfl rfl (by assumption) rfl rfl ?_
        refine RegL.q (OpQ.pickT rfl rfl (by assumption) rfl) rfl rfl rfl ?_
        refine RegL.q (OpQ.move rfl rfl) rfl rfl rfl ?_
        refine RegL.skip rfl rfl rfl rfl rfl rfl rfl ?_
        refine RegL.skip rfl rfl rfl rfl rfl rfl rfl ?_
        refine RegL.skip rfl rfl rfl rfl rfl rfl rfl ?_
        refine RegL.skip rfl rfl rfl rfl rfl rfl rfl ?_
        refine RegL.q (OpQ.pickT rfl rfl rfl rfl) rfl rfl rfl ?_
        refine RegL.done ?_
        refine EvtL.condT rfl rfl ?_
        refine EvtL.seqReg ?_
        refine RegL.q (OpQ.assign rfl rfl) rfl rfl rfl ?_
        refine RegL.done ?_
        refine EvtL.ret (InlQ.same rfl (res_tmp rfl rfl) rfl rfl rfl rfl ?_)
        refine RegL.q (OpQ.assign rfl rfl) rfl rfl rfl ?_
        refine RegL.done ?_
        refine EvtL.ret ⟨.inl rfl, rfl, rfl, rfl, _, _, _, (res_tmp rfl rfl), rfl, rfl, ?_⟩
        rotate_left
        have h3 := of_decide_eq_false g3
        refine RegL.go rfl rfl rfl rfl (by assumption) (OpL.q (OpQ.move rfl rfl)) rfl rfl ?_
        refine RegL.go rfl rfl rfl rfl (by assumption) (OpL.q (OpQ.move rfl rfl)) rfl rfl ?_
        refine RegL.go rfl rfl rfl rfl (by assumption) (OpL.q (OpQ.lenStr rfl rfl rfl rfl u_9 rfl)) rfl rfl ?_
        refine RegL.go rfl rfl rfl rfl (by assumption) (OpL.q (OpQ.subN (b := 1) rfl u_3 rfl rfl (by omega))) rfl rfl ?_
        refine RegL.go rfl rfl rfl rfl (by assumption) (OpL.q (OpQ.indexD rfl u_9 rfl rfl (by first | assumption | omega | (simp only [List.length_append, List.length_cons, List.length_nil, List.length_take, List.length_drop]; omega)))) rfl rfl ?_
        refine RegL.go rfl rfl rfl rfl (by assumption) (OpL.q (OpQ.int2 rfl u_5 rfl rfl rfl rfl)) rfl rfl ?_
        refine RegL.q (OpQ.pickF rfl rfl (by assumption) rfl) rfl rfl rfl ?_
        refine RegL.q (OpQ.move rfl rfl) rfl rfl rfl ?_
        refine RegL.both rfl rfl rfl rfl (fun g4 => ?_) (fun g4 => ?_)
        have h4 := of_decide_eq_true g4
        refine RegL.skip rfl rfl rfl rfl (by assumption) rfl rfl ?_
        refine RegL.skip rfl rfl rfl rfl (by assumption) rfl rfl ?_
        refine RegL.skip rfl rfl rfl rfl (by assumption) rfl rfl ?_
        refine RegL.skip rfl rfl rfl rfl (by assumption) rfl rfl ?_
        refine RegL.q (OpQ.pickT rfl rfl (by assumption) rfl) rfl rfl rfl ?_
        refine RegL.done ?_
        refine EvtL.condT rfl rfl ?_
        refine EvtL.seqReg ?_
        refine RegL.q (OpQ.assign rfl rfl) rfl rfl rfl ?_
        refine RegL.done ?_
        refine EvtL.ret (InlQ.same rfl (res_tmp rfl rfl) rfl rfl rfl rfl ?_)
        refine RegL.q (OpQ.assign rfl rfl) rfl rfl rfl ?_
        refine RegL.done ?_
        refine EvtL.ret ⟨.inl rfl, rfl, rfl, rfl, _, _, _, (res_tmp rfl rfl), rfl, rfl, ?_⟩
        rotate_left
        have h4 := of_decide_eq_false g4
        refine RegL.go rfl rfl rfl rfl (by assumption) (OpL.loadS1 rfl ag_93 sz_93 rfl rfl rfl) rfl rfl ?_
        refine RegL.go rfl rfl rfl rfl (by assumption) (OpL.q (OpQ.move rfl rfl)) rfl rfl ?_
        refine RegL.go rfl rfl rfl rfl (by assumption) (OpL.callVal rfl rfl rfl (by kernel_rfl) rfl (CallTo.memo (hit_38))) rfl rfl ?_
        refine RegL.go rfl rfl rfl rfl (by assumption) (OpL.q (OpQ.not rfl rfl)) rfl rfl ?_
        refine RegL.q (OpQ.pickF rfl rfl (by assumption) rfl) rfl rfl rfl ?_
        refine RegL.done ?_
        refine EvtL.cond rfl (fun g5 => ?_) (fun g5 => ?_)
        have h5 := notT g5
        refine EvtL.seqReg ?_
        refine RegL.q (OpQ.assign rfl rfl) rfl rfl rfl ?_
        refine RegL.done ?_
        refine EvtL.ret (InlQ.same rfl (res_tmp rfl rfl) rfl rfl rfl rfl ?_)
        refine RegL.q (OpQ.assign rfl rfl) rfl rfl rfl ?_
        refine RegL.done ?_
        refine EvtL.ret ⟨.inl rfl, rfl, rfl, rfl, _, _, _, (res_tmp rfl rfl), rfl, rfl, ?_⟩
        rotate_left
        have h5 := notF g5
        refine EvtL.skip ?_
        refine EvtL.seqReg ?_
        refine RegL.op (OpL.loadS1 rfl ag_54 sz_54 rfl rfl rfl) rfl rfl rfl ?_
        refine RegL.q (OpQ.move rfl rfl) rfl rfl rfl ?_
        refine RegL.inlVal (fn := Tryz.f39) (by kernel_rfl) (by kernel_rfl) rfl rfl rfl rfl rfl rfl rfl rfl rfl rfl rfl rfl rfl ?_
        refine EvtL.seqReg ?_
        refine RegL.q (OpQ.assign rfl rfl) rfl rfl rfl ?_
        refine RegL.done ?_
        refine EvtL.seqReg ?_
        refine RegL.q (OpQ.move rfl rfl) rfl rfl rfl ?_
        refine RegL.q (OpQ.build rfl pl_108 rfl rfl) rfl rfl rfl ?_
        refine RegL.q (OpQ.mkIface rfl if_108 rfl) rfl rfl rfl ?_
        refine RegL.q (OpQ.assign rfl rfl) rfl rfl rfl ?_
        refine RegL.done ?_
        refine EvtL.ret (InlQ.same rfl (res_tmp rfl rfl) rfl rfl rfl rfl ?_)
        refine RegL.q (OpQ.assign rfl rfl) rfl rfl rfl ?_
        refine RegL.done ?_
        refine EvtL.ret (InlQ.same rfl (res_tmp rfl rfl) rfl rfl rfl rfl ?_)
        refine RegL.q (OpQ.assign rfl rfl) rfl rfl rfl ?_
        refine RegL.done ?_
        refine EvtL.ret ⟨.inl rfl, rfl, rfl, rfl, _, _, _, (res_tmp rfl rfl), rfl, rfl, ?_⟩
        rotate_left
      all_goals (simp only [kindOk, *]; rfl)
  by_cases hF8 : w.take (tw notSp w) = wordL.getD 8 []
  · rw [parsedV_text hF8 (by decide) rfl]
    refine CallTo.s0 (fn := Tryz.f20) rfl rfl (by kernel_rfl) rfl rfl rfl rfl ?_
    refine EvtL.seqReg ?_
    refine RegL.q (OpQ.assign rfl rfl) rfl rfl rfl ?_
    refine RegL.done ?_
    refine EvtL.seqReg ?_
    refine RegL.q (OpQ.move rfl rfl) rfl rfl rfl ?_
    refine RegL.op (OpL.callFn rfl rfl (by kernel_rfl) rfl (CallTo.memo (hit_24 (by first | assumption | omega | (simp only [List.length_append, List.length_cons, List.length_nil, List.length_take, List.length_drop]; omega))))) rfl rfl rfl ?_
    refine RegL.q (OpQ.move rfl rfl) rfl rfl rfl ?_
    refine RegL.q (OpQ.extract rfl rfl rfl) rfl rfl rfl ?_
    refine RegL.q (OpQ.extract rfl rfl rfl) rfl rfl rfl ?_
    refine RegL.q (OpQ.extract rfl rfl rfl) rfl rfl rfl ?_
    refine RegL.q (OpQ.assign rfl rfl) rfl rfl rfl ?_
    refine RegL.q (OpQ.assign rfl rfl) rfl rfl rfl ?_
    refine RegL.q (OpQ.assign rfl rfl) rfl rfl rfl ?_
    refine RegL.done ?_
    refine EvtL.seqReg ?_
    refine RegL.callFn rfl rfl (by kernel_rfl) rfl rfl rfl rfl (words_run ?_)
    rw [hF8]
    generalize w.drop (tw notSp w + 1) = T at *
    by_cases hTe : T = []
    · subst hTe
      rw [bareV_nil, Bool.false_and, Bool.and_false]
      focus
        refine RegL.q (OpQ.move rfl rfl) rfl rfl rfl ?_
        refine RegL.op (OpL.lookupS rfl u_65 z_63 kd_9 rfl rfl rfl rfl rfl) rfl rfl rfl ?_
        refine RegL.q (OpQ.move rfl rfl) rfl rfl rfl ?_
        refine RegL.q (OpQ.extract rfl rfl rfl) rfl rfl rfl ?_
        refine RegL.q (OpQ.extract rfl rfl rfl) rfl rfl rfl ?_
        refine RegL.op (OpL.allocS 24 rfl z_63 rfl) rfl rfl rfl ?_
        refine RegL.opN (OpL.storeS rfl sz_63 rfl rfl rfl rfl rfl rfl) rfl rfl ?_
        refine RegL.q (OpQ.assign rfl rfl) rfl rfl rfl ?_
        refine RegL.done ?_
        refine EvtL.seq ?_
        refine EvtL.seqReg ?_
        refine RegL.q (OpQ.move rfl rfl) rfl rfl rfl ?_
        refine RegL.q (OpQ.not rfl rfl) rfl rfl rfl ?_
        refine RegL.done ?_
        refine EvtL.condF rfl rfl ?_
        refine EvtL.skip ?_
        refine EvtL.seqReg ?_
        refine RegL.q (OpQ.fieldAddr rfl f_63_0 rfl) rfl rfl rfl ?_
        refine RegL.op (OpL.loadS1 rfl ag_61 sz_61 rfl rfl rfl) rfl rfl rfl ?_
        refine RegL.q (OpQ.move rfl rfl) rfl rfl rfl ?_
        refine RegL.q (OpQ.move rfl rfl) rfl rfl rfl ?_
        refine RegL.inlVal (fn := Tryz.f53) (by kernel_rfl) (by kernel_rfl) rfl rfl rfl rfl rfl rfl rfl rfl rfl rfl rfl rfl rfl ?_
        refine EvtL.seqReg ?_
        refine RegL.q (OpQ.assign rfl rfl) rfl rfl rfl ?_
        refine RegL.done ?_
        refine EvtL.seq ?_
        refine EvtL.seqReg ?_
        refine RegL.q (OpQ.move rfl rfl) rfl rfl rfl ?_
        refine RegL.q (OpQ.not rfl rfl) rfl rfl rfl ?_
        refine RegL.q (OpQ.move rfl rfl) rfl rfl rfl ?_
        refine RegL.both rfl rfl rfl rfl (fun g1 => ?_) (fun g1 => ?_)
        have h1 := nT g1
        refine RegL.skip rfl rfl rfl rfl (by assumption) rfl rfl ?_
        refine RegL.skip rfl rfl rfl rfl (by assumption) rfl rfl ?_
        refine RegL.q (OpQ.pickT rfl rfl (by assumption) rfl) rfl rfl rfl ?_
        refine RegL.q (OpQ.move rfl rfl) rfl rfl rfl ?_
        refine RegL.skip rfl rfl rfl rfl rfl rfl rfl ?_
        refine RegL.skip rfl rfl rfl rfl rfl rfl rfl ?_
        refine RegL.q (OpQ.pickT rfl rfl rfl rfl) rfl rfl rfl ?_
        refine RegL.q (OpQ.move rfl rfl) rfl rfl rfl ?_
        refine RegL.skip rfl rfl rfl rfl rfl rfl rfl ?_
        refine RegL.skip rfl rfl rfl rfl rfl rfl rfl ?_
        refine RegL.skip rfl rfl rfl rfl rfl rfl rfl ?_
        refine RegL.q (OpQ.pickT rfl rfl rfl rfl) rfl rfl rfl ?_
        refine RegL.q (OpQ.move rfl rfl) rfl rfl rfl ?_
        refine RegL.skip rfl rfl rfl rfl rfl rfl rfl ?_
        refine RegL.skip rfl rfl rfl rfl rfl rfl rfl ?_
        refine RegL.skip rfl rfl rfl rfl rfl rfl rfl ?_
        refine RegL.skip rfl rfl rfl rfl rfl rfl rfl ?_
        refine RegL.skip rfl rfl rfl rfl rfl rfl rfl ?_
        refine RegL.skip rfl rfl rfl rfl rfl rfl rfl ?_
        refine RegL.q (OpQ.pickT rfl rfl rfl rfl) rfl rfl rfl ?_
        refine RegL.q (OpQ.move rfl rfl) rfl rfl rfl ?_
        refine RegL.skip rfl rfl rfl rfl rfl rfl rfl ?_
        refine RegL.skip rfl rfl rfl rfl rfl rfl rfl ?_
        refine RegL.skip rfl rfl rfl rfl rfl rfl rfl ?_
        refine RegL.skip rfl rfl rfl rfl rfl rfl rfl ?_
        refine RegL.q (OpQ.pickT rfl rfl rfl rfl) rfl rfl rfl ?_
        refine RegL.done ?_
        refine EvtL.condT rfl rfl ?_
        refine EvtL.seqReg ?_
        refine RegL.q (OpQ.assign rfl rfl) rfl rfl rfl ?_
        refine RegL.done ?_
        refine EvtL.ret (InlQ.same rfl (res_tmp rfl rfl) rfl rfl rfl rfl ?_)
        refine RegL.q (OpQ.assign rfl rfl) rfl rfl rfl ?_
        refine RegL.done ?_
        refine EvtL.ret ⟨.inl rfl, rfl, rfl, rfl, _, _, _, (res_tmp rfl rfl), rfl, rfl, ?_⟩
        rotate_left
        have h1 := nF g1
        refine RegL.go rfl rfl rfl rfl (by assumption) (OpL.q (OpQ.move rfl rfl)) rfl rfl ?_
        refine RegL.go rfl rfl rfl rfl (by assumption) (OpL.q (OpQ.str2 rfl u_9 rfl rfl rfl rfl)) rfl rfl ?_
        refine RegL.q (OpQ.pickF rfl rfl (by assumption) rfl) rfl rfl rfl ?_
        refine RegL.q (OpQ.move rfl rfl) rfl rfl rfl ?_
        refine RegL.skip rfl rfl rfl rfl rfl rfl rfl ?_
        refine RegL.skip rfl rfl rfl rfl rfl rfl rfl ?_
        refine RegL.q (OpQ.pickT rfl rfl rfl rfl) rfl rfl rfl ?_
        refine RegL.q (OpQ.move rfl rfl) rfl rfl rfl ?_
        refine RegL.skip rfl rfl rfl rfl rfl rfl rfl ?_
        refine RegL.skip rfl rfl rfl rfl rfl rfl rfl ?_
        refine RegL.skip rfl rfl rfl rfl rfl rfl rfl ?_
        refine RegL.q (OpQ.pickT rfl rfl rfl rfl) rfl rfl rfl ?_
        refine RegL.q (OpQ.move rfl rfl) rfl rfl rfl ?_
        refine RegL.skip rfl rfl rfl rfl rfl rfl rfl ?_
        refine RegL.skip rfl rfl rfl rfl rfl rfl rfl ?_
        refine RegL.skip rfl rfl rfl rfl rfl rfl rfl ?_
        refine RegL.skip rfl rfl rfl rfl rfl rfl rfl ?_
        refine RegL.skip rfl rfl rfl rfl rfl rfl rfl ?_
        refine RegL.skip rfl rfl rfl rfl rfl rfl rfl ?_
        refine RegL.q (OpQ.pickT rfl rfl rfl rfl) rfl rfl rfl ?_
        refine RegL.q (OpQ.move rfl rfl) rfl rfl rfl ?_
        refine RegL.skip rfl rfl rfl rfl rfl rfl rfl ?_
        refine RegL.skip rfl rfl rfl rfl rfl rfl rfl ?_
        refine RegL.skip rfl rfl rfl rfl rfl rfl rfl ?_
        refine RegL.skip rfl rfl rfl rfl rfl rfl rfl ?_
        refine RegL.q (OpQ.pickT rfl rfl rfl rfl) rfl rfl rfl ?_
        refine RegL.done ?_
        refine EvtL.condT rfl rfl ?_
        refine EvtL.seqReg ?_
        refine RegL.q (OpQ.assign rfl rfl) rfl rfl rfl ?_
        refine RegL.done ?_
        refine EvtL.ret (InlQ.same rfl (res_tmp rfl rfl) rfl rfl rfl rfl ?_)
        refine RegL.q (OpQ.assign rfl rfl) rfl rfl rfl ?_
        refine RegL.done ?_
        refine EvtL.ret ⟨.inl rfl, rfl, rfl, rfl, _, _, _, (res_tmp rfl rfl), rfl, rfl, ?_⟩
        rotate_left
      all_goals rfl
    · have hpos : 0 < T.length := List.length_pos_iff.2 hTe
      have hne : bytesEq T ({ data := #[] } : ByteArray).data.toList = false := by rw [bytesEq_iff]; exact decide_eq_false hTe
      rw [bareV_eq hTe]
      focus
        refine RegL.q (OpQ.move rfl rfl) rfl rfl rfl ?_
        refine RegL.op (OpL.lookupS rfl u_65 z_63 kd_9 rfl rfl rfl rfl rfl) rfl rfl rfl ?_
        refine RegL.q (OpQ.move rfl rfl) rfl rfl rfl ?_
        refine RegL.q (OpQ.extract rfl rfl rfl) rfl rfl rfl ?_
        refine RegL.q (OpQ.extract rfl rfl rfl) rfl rfl rfl ?_
        refine RegL.op (OpL.allocS 24 rfl z_63 rfl) rfl rfl rfl ?_
        refine RegL.opN (OpL.storeS rfl sz_63 rfl rfl rfl rfl rfl rfl) rfl rfl ?_
        refine RegL.q (OpQ.assign rfl rfl) rfl rfl rfl ?_
        refine RegL.done ?_
        refine EvtL.seq ?_
        refine EvtL.seqReg ?_
        refine RegL.q (OpQ.move rfl rfl) rfl rfl rfl ?_
        refine RegL.q (OpQ.not rfl rfl) rfl rfl rfl ?_
        refine RegL.done ?_
        refine EvtL.condF rfl rfl ?_
        refine EvtL.skip ?_
        refine EvtL.seqReg ?_
        refine RegL.q (OpQ.fieldAddr rfl f_63_0 rfl) rfl rfl rfl ?_
        refine RegL.op (OpL.loadS1 rfl ag_61 sz_61 rfl rfl rfl) rfl rfl rfl ?_
        refine RegL.q (OpQ.move rfl rfl) rfl rfl rfl ?_
        refine RegL.q (OpQ.move rfl rfl) rfl rfl rfl ?_
        refine RegL.inlVal (fn := Tryz.f53) (by kernel_rfl) (by kernel_rfl) rfl rfl rfl rfl rfl rfl rfl rfl rfl rfl rfl rfl rfl ?_
        refine EvtL.seqReg ?_
        refine RegL.q (OpQ.assign rfl rfl) rfl rfl rfl ?_
        refine RegL.done ?_
        refine EvtL.seq ?_
        refine EvtL.seqReg ?_
        refine RegL.q (OpQ.move rfl rfl) rfl rfl rfl ?_
        refine RegL.q (OpQ.not rfl rfl) rfl rfl rfl ?_
        refine RegL.q (OpQ.move rfl rfl) rfl rfl rfl ?_
        refine RegL.both rfl rfl rfl rfl (fun g1 => ?_) (fun g1 => ?_)
        have h1 := nT g1
        refine RegL.skip rfl rfl rfl rfl (by assumption) rfl rfl ?_
        refine RegL.skip rfl rfl rfl rfl (by assumption) rfl rfl ?_
        refine RegL.q (OpQ.pickT rfl rfl (by assumption) rfl) rfl rfl rfl ?_
        refine RegL.q (OpQ.move rfl rfl) rfl rfl rfl ?_
        refine RegL.skip rfl rfl rfl rfl rfl rfl rfl ?_
        refine RegL.skip rfl rfl rfl rfl rfl rfl rfl ?_
        refine RegL.q (OpQ.pickT rfl rfl rfl rfl) rfl rfl rfl ?_
        refine RegL.q (OpQ.move rfl rfl) rfl rfl rfl ?_
        refine RegL.skip rfl rfl rfl rfl rfl rfl rfl ?_
        refine RegL.skip rfl rfl rfl rfl rfl rfl rfl ?_
        refine RegL.skip rfl rfl rfl rfl rfl rfl rfl ?_
        refine RegL.q (OpQ.pickT rfl rfl rfl rfl) rfl rfl rfl ?_
        refine RegL.q (OpQ.move rfl rfl) rfl rfl rfl ?_
        refine RegL.skip rfl rfl rfl rfl rfl rfl rfl ?_
        refine RegL.skip rfl rfl rfl rfl rfl rfl rfl ?_
        refine RegL.skip rfl rfl rfl rfl rfl rfl rfl ?_
        refine RegL.skip rfl rfl rfl rfl rfl rfl rfl ?_
        refine RegL.skip rfl rfl rfl rfl rfl rfl rfl ?_
        refine RegL.skip rfl rfl rfl rfl rfl rfl rfl ?_
        refine RegL.q (OpQ.pickT rfl rfl rfl rfl) rfl rfl rfl ?_
        refine RegL.q (OpQ.move rfl rfl) rfl rfl rfl ?_
        refine RegL.skip rfl rfl rfl rfl rfl rfl rfl ?_
        refine RegL.skip rfl rfl rfl rfl rfl rfl rfl ?_
        refine RegL.skip rfl rfl rfl rfl rfl rfl rfl ?_
        refine RegL.skip rfl rfl rfl rfl rfl rfl rfl ?_
        refine RegL.q (OpQ.pickT rfl rfl rfl rfl) rfl rfl rfl ?_
        refine RegL.done ?_
        refine EvtL.condT rfl rfl ?_
        refine EvtL.seqReg ?_
        refine RegL.q (OpQ.assign rfl rfl) rfl rfl rfl ?_
        refine RegL.done ?_
        refine EvtL.ret (InlQ.same rfl (res_tmp rfl rfl) rfl rfl rfl rfl ?_)
        refine RegL.q (OpQ.assign rfl rfl) rfl rfl rfl ?_
        refine RegL.done ?_
        refine EvtL.ret ⟨.inl rfl, rfl, rfl, rfl, _, _, _, (res_tmp rfl rfl), rfl, rfl, ?_⟩
        rotate_left
        have h1 := nF g1
        refine RegL.go rfl rfl rfl rfl (by assumption) (OpL.q (OpQ.move rfl rfl)) rfl rfl ?_
        refine RegL.go rfl rfl rfl rfl (by assumption) (OpL.q (OpQ.str2 rfl u_9 rfl rfl rfl rfl)) rfl rfl ?_
        refine RegL.q (OpQ.pickF rfl rfl (by assumption) rfl) rfl rfl rfl ?_
        refine RegL.q (OpQ.move rfl rfl) rfl rfl rfl ?_
        refine RegL.go rfl rfl rfl rfl (by assumption) (OpL.q (OpQ.move rfl rfl)) rfl rfl ?_
        refine RegL.go rfl rfl rfl rfl (by assumption) (OpL.callFn rfl rfl (by kernel_rfl) rfl (CallTo.memo (hit_54))) rfl rfl ?_
        refine RegL.q (OpQ.pickF rfl rfl (by assumption) rfl) rfl rfl rfl ?_
        refine RegL.q (OpQ.move rfl rfl) rfl rfl rfl ?_
        refine RegL.both rfl rfl rfl rfl (fun g2 => ?_) (fun g2 => ?_)
        have h2 := of_decide_eq_true g2
        refine RegL.skip rfl rfl rfl rfl (by assumption) rfl rfl ?_
        refine RegL.skip rfl rfl rfl rfl (by assumption) rfl rfl ?_
        refine RegL.skip rfl rfl rfl rfl (by assumption) rfl rfl ?_
        refine RegL.q (OpQ.pickT rfl rfl (by assumption) rfl) rfl rfl rfl ?_
        refine RegL.q (OpQ.move rfl rfl) rfl rfl rfl ?_
        refine RegL.skip rfl rfl rfl rfl rfl rfl rfl ?_
        refine RegL.skip rfl rfl rfl rfl rfl rfl rfl ?_
        refine RegL.skip rfl rfl rfl rfl rfl rfl rfl ?_
        refine RegL.skip rfl rfl rfl rfl rfl rfl rfl ?_
        refine RegL.skip rfl rfl rfl rfl rfl rfl rfl ?_
        refine RegL.skip rfl rfl rfl rfl rfl rfl rfl ?_
        refine RegL.q (OpQ.pickT rfl rfl rfl rfl) rfl rfl rfl ?_
        refine RegL.q (OpQ.move rfl rfl) rfl rfl rfl ?_
        refine RegL.skip rfl rfl rfl rfl rfl rfl rfl ?_
        refine RegL.skip rfl rfl rfl rfl rfl rfl rfl ?_
        refine RegL.skip rfl rfl rfl rfl rfl rfl rfl ?_
        refine RegL.skip rfl rfl rfl rfl rfl rfl rfl ?_
        refine RegL.q (OpQ.pickT rfl rfl rfl rfl) rfl rfl rfl ?_
        refine RegL.done ?_
        refine EvtL.condT rfl rfl ?_
        refine EvtL.seqReg ?_
        refine RegL.q (OpQ.assign rfl rfl) rfl rfl rfl ?_
        refine RegL.done ?_
        refine EvtL.ret (InlQ.same rfl (res_tmp rfl rfl) rfl rfl rfl rfl ?_)
        refine RegL.q (OpQ.assign rfl rfl) rfl rfl rfl ?_
        refine RegL.done ?_
        refine EvtL.ret ⟨.inl rfl, rfl, rfl, rfl, _, _, _, (res_tmp rfl rfl), rfl, rfl, ?_⟩
        rotate_left
        have h2 := of_decide_eq_false g2
        refine RegL.go rfl rfl rfl rfl (by assumption) (OpL.q (OpQ.move rfl rfl)) rfl rfl ?_
        refine RegL.go rfl rfl rfl rfl (by assumption) (OpL.q (OpQ.indexD (n := 0) rfl u_9 rfl rfl (by first | assumption | omega | (simp only [List.length_append, List.length_cons, List.length_nil, List.length_take, List.length_drop]; omega)))) rfl rfl ?_
        refine RegL.go rfl rfl rfl rfl (by assumption) (OpL.q (OpQ.int2 rfl u_5 rfl rfl rfl rfl)) rfl rfl ?_
        refine RegL.q (OpQ.pickF rfl rfl (by assumption) rfl) rfl rfl rfl ?_
        refine RegL.q (OpQ.move rfl rfl) rfl rfl rfl ?_
        refine RegL.both rfl rfl rfl rfl (fun g3 => ?_) (fun g3 => ?_)
        have h3 := of_decide_eq_true g3
        refine RegL.skip rfl rfl rfl rfl (by assumption) rfl rfl ?_
        refine RegL.skip rfl rfl rfl rfl (by assumption) rfl rfl ?_
        refine RegL.skip rfl rfl rfl rfl (by assumption) rfl rfl ?_
        refine RegL.skip rfl rfl rfl rfl (by assumption) rfl rfl ?_
        refine RegL.skip rfl rfl rfl rfl (by assumption) rfl rfl ?_
        refine RegL.skip rfl rfl rfl rfl (by assumption) rfl rfl ?_
        refine RegL.q (OpQ.pickT rfl rfl (by assumption) rfl) rfl rfl rfl ?_
        refine RegL.q (OpQ.move rfl rfl) rfl rfl rfl ?_
        refine RegL.skip rfl rfl rfl rfl rfl rfl rfl ?_
        refine RegL.skip rfl rfl rfl rfl rfl rfl rfl ?_
        refine RegL.skip rfl rfl rfl rfl rfl rfl rfl ?_
        refine RegL.skip rfl rfl rfl rfl rfl rfl rfl ?_
        refine RegL.q (OpQ.pickT rfl rfl rfl rfl) rfl rfl rfl ?_
        refine RegL.done ?_
        refine EvtL.condT rfl rfl ?_
        refine EvtL.seqReg ?_
        refine RegL.q (OpQ.assign rfl rfl) rfl rfl rfl ?_
        refine RegL.done ?_
        refine EvtL.ret (InlQ.same rfl (res_tmp rfl rfl) rfl rfl rfl rfl ?_)
        refine RegL.q (OpQ.assign rfl rfl) rfl rfl rfl ?_
        refine RegL.done ?_
        refine EvtL.ret ⟨.inl rfl, rfl, rfl, rfl, _, _, _, (res_tmp rfl rfl), rfl, rfl, ?_⟩
        rotate_left
        have h3 := of_decide_eq_false g3
        refine RegL.go rfl rfl rfl rfl (by assumption) (OpL.q (OpQ.move rfl rfl)) rfl rfl ?_
        refine RegL.go rfl rfl rfl rfl (by assumption) (OpL.q (OpQ.move rfl rfl)) rfl rfl ?_
        refine RegL.go rfl rfl rfl rfl (by assumption) (OpL.q (OpQ.lenStr rfl rfl rfl rfl u_9 rfl)) rfl rfl ?_
        refine RegL.go rfl rfl rfl rfl (by assumption) (OpL.q (OpQ.subN (b := 1) rfl u_3 rfl rfl (by omega))) rfl rfl ?_
        refine RegL.go rfl rfl rfl rfl (by assumption) (OpL.q (OpQ.indexD rfl u_9 rfl rfl (by first | assumption | omega | (simp only [List.length_append, List.length_cons, List.length_nil, List.length_take, List.length_drop]; omega)))) rfl rfl ?_
        refine RegL.go rfl rfl rfl rfl (by assumption) (OpL.q (OpQ.int2 rfl u_5 rfl rfl rfl rfl)) rfl rfl ?_
        refine RegL.q (OpQ.pickF rfl rfl (by assumption) rfl) rfl rfl rfl ?_
        refine RegL.q (OpQ.move rfl rfl) rfl rfl rfl ?_
        refine RegL.both rfl rfl rfl rfl (fun g4 => ?_) (fun g4 => ?_)
        have h4 := of_decide_eq_true g4
        refine RegL.skip rfl rfl rfl rfl (by assumption) rfl rfl ?_
        refine RegL.skip rfl rfl rfl rfl (by assumption) rfl rfl ?_
        refine RegL.skip rfl rfl rfl rfl (by assumption) rfl rfl ?_
        refine RegL.skip rfl rfl rfl rfl (by assumption) rfl rfl ?_
        refine RegL.q (OpQ.pickT rfl rfl (by assumption) rfl) rfl rfl rfl ?_
        refine RegL.done ?_
        refine EvtL.condT rfl rfl ?_
        refine EvtL.seqReg ?_
        refine RegL.q (OpQ.assign rfl rfl) rfl rfl rfl ?_
        refine RegL.done ?_
        refine EvtL.ret (InlQ.same rfl (res_tmp rfl rfl) rfl rfl rfl rfl ?_)
        refine RegL.q (OpQ.assign rfl rfl) rfl rfl rfl ?_
        refine RegL.done ?_
        refine EvtL.ret ⟨.inl rfl, rfl, rfl, rfl, _, _, _, (res_tmp rfl rfl), rfl, rfl, ?_⟩
        rotate_left
        have h4 := of_decide_eq_false g4
        refine RegL.go rfl rfl rfl rfl (by assumption) (OpL.loadS1 rfl ag_93 sz_93 rfl rfl rfl) rfl rfl ?_
        refine RegL.go rfl rfl rfl rfl (by assumption) (OpL.q (OpQ.move rfl rfl)) rfl rfl ?_
        refine RegL.go rfl rfl rfl rfl (by assumption) (OpL.callVal rfl rfl rfl (by kernel_rfl) rfl (CallTo.memo (hit_40 (by first | assumption | omega | (simp only [List.length_append, List.length_cons, List.length_nil, List.length_take, List.length_drop]; omega)) (by first | assumption | omega | (simp only [List.length_append, List.length_cons, List.length_nil, List.length_take, List.length_drop]; omega))))) rfl rfl ?_
        refine RegL.go rfl rfl rfl rfl (by assumption) (OpL.q (OpQ.not rfl rfl)) rfl rfl ?_
        refine RegL.q (OpQ.pickF rfl rfl (by assumption) rfl) rfl rfl rfl ?_
        refine RegL.done ?_
        refine EvtL.cond rfl (fun g5 => ?_) (fun g5 => ?_)
        have h5 := notT g5
        refine EvtL.seqReg ?_
        refine RegL.q (OpQ.assign rfl rfl) rfl rfl rfl ?_
        refine RegL.done ?_
        refine EvtL.ret (InlQ.same rfl (res_tmp rfl rfl) rfl rfl rfl rfl ?_)
        refine RegL.q (OpQ.assign rfl rfl) rfl rfl rfl ?_
        refine RegL.done ?_
        refine EvtL.ret ⟨.inl rfl, rfl, rfl, rfl, _, _, _, (res_tmp rfl rfl), rfl, rfl, ?_⟩
        rotate_left
        have h5 := notF g5
        refine EvtL.skip ?_
        refine EvtL.seqReg ?_
        refine RegL.op (OpL.loadS1 rfl ag_54 sz_54 rfl rfl rfl) rfl rfl rfl ?_
        refine RegL.q (OpQ.move rfl rfl) rfl rfl rfl ?_
        refine RegL.inlVal (fn := Tryz.f41) (by kernel_rfl) (by kernel_rfl) rfl rfl rfl rfl rfl rfl rfl rfl rfl rfl rfl rfl rfl ?_
        refine EvtL.seqReg ?_
        refine RegL.q (OpQ.assign rfl rfl) rfl rfl rfl ?_
        refine RegL.done ?_
        refine EvtL.seqReg ?_
        refine RegL.q (OpQ.move rfl rfl) rfl rfl rfl ?_
        refine RegL.q (OpQ.build rfl pl_109 rfl rfl) rfl rfl rfl ?_
        refine RegL.q (OpQ.mkIface rfl if_109 rfl) rfl rfl rfl ?_
        refine RegL.q (OpQ.assign rfl rfl) rfl rfl rfl ?_
        refine RegL.done ?_
        refine EvtL.ret (InlQ.same rfl (res_tmp rfl rfl) rfl rfl rfl rfl ?_)
        refine RegL.q (OpQ.assign rfl rfl) rfl rfl rfl ?_
        refine RegL.done ?_
        refine EvtL.ret (InlQ.same rfl (res_tmp rfl rfl) rfl rfl rfl rfl ?_)
        refine RegL.q (OpQ.assign rfl rfl) rfl rfl rfl ?_
        refine RegL.done ?_
        refine EvtL.ret ⟨.inl rfl, rfl, rfl, rfl, _, _, _, (res_tmp rfl rfl), rfl, rfl, ?_⟩
        rotate_left
      all_goals (simp only [kindOk, *]; rfl)
  by_cases hF4 : w.take (tw notSp w) = wordL.getD 4 []
  · rw [parsedV_alone hF4 (by decide) rfl]
    refine CallTo.s0 (fn := Tryz.f20) rfl rfl (by kernel_rfl) rfl rfl rfl rfl ?_
    refine EvtL.seqReg ?_
    refine RegL.q (OpQ.assign rfl rfl) rfl rfl rfl ?_
    refine RegL.done ?_
    refine EvtL.seqReg ?_
    refine RegL.q (OpQ.move rfl rfl) rfl rfl rfl ?_
    refine RegL.op (OpL.callFn rfl rfl (by kernel_rfl) rfl (CallTo.memo (hit_24 (by first | assumption | omega | (simp only [List.length_append, List.length_cons, List.length_nil, List.length_take, List.length_drop]; omega))))) rfl rfl rfl ?_
    refine RegL.q (OpQ.move rfl rfl) rfl rfl rfl ?_
    refine RegL.q (OpQ.extract rfl rfl rfl) rfl rfl rfl ?_
    refine RegL.q (OpQ.extract rfl rfl rfl) rfl rfl rfl ?_
    refine RegL.q (OpQ.extract rfl rfl rfl) rfl rfl rfl ?_
    refine RegL.q (OpQ.assign rfl rfl) rfl rfl rfl ?_
    refine RegL.q (OpQ.assign rfl rfl) rfl rfl rfl ?_
    refine RegL.q (OpQ.assign rfl rfl) rfl rfl rfl ?_
    refine RegL.done ?_
    refine EvtL.seqReg ?_
    refine RegL.callFn rfl rfl (by kernel_rfl) rfl rfl rfl rfl (words_run ?_)
    rw [hF4]
    focus
      refine RegL.q (OpQ.move rfl rfl) rfl rfl rfl ?_
      refine RegL.op (OpL.lookupS rfl u_65 z_63 kd_9 rfl rfl rfl rfl rfl) rfl rfl rfl ?_
      refine RegL.q (OpQ.move rfl rfl) rfl rfl rfl ?_
      refine RegL.q (OpQ.extract rfl rfl rfl) rfl rfl rfl ?_
      refine RegL.q (OpQ.extract rfl rfl rfl) rfl rfl rfl ?_
      refine RegL.op (OpL.allocS 24 rfl z_63 rfl) rfl rfl rfl ?_
      refine RegL.opN (OpL.storeS rfl sz_63 rfl rfl rfl rfl rfl rfl) rfl rfl ?_
      refine RegL.q (OpQ.assign rfl rfl) rfl rfl rfl ?_
      refine RegL.done ?_
      refine EvtL.seq ?_
      refine EvtL.seqReg ?_
      refine RegL.q (OpQ.move rfl rfl) rfl rfl rfl ?_
      refine RegL.q (OpQ.not rfl rfl) rfl rfl rfl ?_
      refine RegL.done ?_
      refine EvtL.condF rfl rfl ?_
      refine EvtL.skip ?_
      refine EvtL.seqReg ?_
      refine RegL.q (OpQ.fieldAddr rfl f_63_0 rfl) rfl rfl rfl ?_
      refine RegL.op (OpL.loadS1 rfl ag_61 sz_61 rfl rfl rfl) rfl rfl rfl ?_
      refine RegL.q (OpQ.move rfl rfl) rfl rfl rfl ?_
      refine RegL.q (OpQ.move rfl rfl) rfl rfl rfl ?_
      refine RegL.inlVal (fn := Tryz.f55) (by kernel_rfl) (by kernel_rfl) rfl rfl rfl rfl rfl rfl rfl rfl rfl rfl rfl rfl rfl ?_
      refine EvtL.seqReg ?_
      refine RegL.q (OpQ.assign rfl rfl) rfl rfl rfl ?_
      refine RegL.done ?_
      refine EvtL.seq ?_
      refine EvtL.seqReg ?_
      refine RegL.q (OpQ.move rfl rfl) rfl rfl rfl ?_
      refine RegL.done ?_
      refine EvtL.cond rfl (fun g1 => ?_) (fun g1 => ?_)
      have h1 := of_decide_eq_true g1
      refine EvtL.seqReg ?_
      refine RegL.q (OpQ.assign rfl rfl) rfl rfl rfl ?_
      refine RegL.done ?_
      refine EvtL.ret (InlQ.same rfl (res_tmp rfl rfl) rfl rfl rfl rfl ?_)
      refine RegL.q (OpQ.assign rfl rfl) rfl rfl rfl ?_
      refine RegL.done ?_
      refine EvtL.ret ⟨.inl rfl, rfl, rfl, rfl, _, _, _, (res_tmp rfl rfl), rfl, rfl, ?_⟩
      rotate_left
      have h1 := of_decide_eq_false g1
      refine EvtL.skip ?_
      refine EvtL.seqReg ?_
      refine RegL.op (OpL.loadS1 rfl ag_44 sz_44 rfl rfl rfl) rfl rfl rfl ?_
      refine RegL.q (OpQ.assign rfl rfl) rfl rfl rfl ?_
      refine RegL.done ?_
      refine EvtL.ret (InlQ.same rfl (res_tmp rfl rfl) rfl rfl rfl rfl ?_)
      refine RegL.q (OpQ.assign rfl rfl) rfl rfl rfl ?_
      refine RegL.done ?_
      refine EvtL.ret ⟨.inl rfl, rfl, rfl, rfl, _, _, _, (res_tmp rfl rfl), rfl, rfl, ?_⟩
      rotate_left
    all_goals (simp only [*]; rfl)
  by_cases hF5 : w.take (tw notSp w) = wordL.getD 5 []
  · rw [parsedV_alone hF5 (by decide) rfl]
    refine CallTo.s0 (fn := Tryz.f20) rfl rfl (by kernel_rfl) rfl rfl rfl rfl ?_
    refine EvtL.seqReg ?_
    refine RegL.q (OpQ.assign rfl rfl) rfl rfl rfl ?_
    refine RegL.done ?_
    refine EvtL.seqReg ?_
    refine RegL.q (OpQ.move rfl rfl) rfl rfl rfl ?_
    refine RegL.op (OpL.callFn rfl rfl (by kernel_rfl) rfl (CallTo.memo (hit_24 (by first | assumption | omega | (simp only [List.length_append, List.length_cons, List.length_nil, List.length_take, List.length_drop]; omega))))) rfl rfl rfl ?_
    refine RegL.q (OpQ.move rfl rfl) rfl rfl rfl ?_
    refine RegL.q (OpQ.extract rfl rfl rfl) rfl rfl rfl ?_
    refine RegL.q (OpQ.extract rfl rfl rfl) rfl rfl rfl ?_
    refine RegL.q (OpQ.extract rfl rfl rfl) rfl rfl rfl ?_
    refine RegL.q (OpQ.assign rfl rfl) rfl rfl rfl ?_
    refine RegL.q (OpQ.assign rfl rfl) rfl rfl rfl ?_
    refine RegL.q (OpQ.assign rfl rfl) rfl rfl rfl ?_
    refine RegL.done ?_
    refine EvtL.seqReg ?_
    refine RegL.callFn rfl rfl (by kernel_rfl) rfl rfl rfl rfl (words_run ?_)
    rw [hF5]
    focus
      refine RegL.q (OpQ.move rfl rfl) rfl rfl rfl ?_
      refine RegL.op (OpL.lookupS rfl u_65 z_63 kd_9 rfl rfl rfl rfl rfl) rfl rfl rfl ?_
      refine RegL.q (OpQ.move rfl rfl) rfl rfl rfl ?_
      refine RegL.q (OpQ.extract rfl rfl rfl) rfl rfl rfl ?_
      refine RegL.q (OpQ.extract rfl rfl rfl) rfl rfl rfl ?_
      refine RegL.op (OpL.allocS 24 rfl z_63 rfl) rfl rfl rfl ?_
      refine RegL.opN (OpL.storeS rfl sz_63 rfl rfl rfl rfl rfl rfl) rfl rfl ?_
      refine RegL.q (OpQ.assign rfl rfl) rfl rfl rfl ?_
      refine RegL.done ?_
      refine EvtL.seq ?_
      refine EvtL.seqReg ?_
      refine RegL.q (OpQ.move rfl rfl) rfl rfl rfl ?_
      refine RegL.q (OpQ.not rfl rfl) rfl rfl rfl ?_
      refine RegL.done ?_
      refine EvtL.condF rfl rfl ?_
      refine EvtL.skip ?_
      refine EvtL.seqReg ?_
      refine RegL.q (OpQ.fieldAddr rfl f_63_0 rfl) rfl rfl rfl ?_
      refine RegL.op (OpL.loadS1 rfl ag_61 sz_61 rfl rfl rfl) rfl rfl rfl ?_
      refine RegL.q (OpQ.move rfl rfl) rfl rfl rfl ?_
      refine RegL.q (OpQ.move rfl rfl) rfl rfl rfl ?_
      refine RegL.inlVal (fn := Tryz.f55) (by kernel_rfl) (by kernel_rfl) rfl rfl rfl rfl rfl rfl rfl rfl rfl rfl rfl rfl rfl ?_
      refine EvtL.seqReg ?_
      refine RegL.q (OpQ.assign rfl rfl) rfl rfl rfl ?_
      refine RegL.done ?_
      refine EvtL.seq ?_
      refine EvtL.seqReg ?_
      refine RegL.q (OpQ.move rfl rfl) rfl rfl rfl ?_
      refine RegL.done ?_
      refine EvtL.cond rfl (fun g1 => ?_) (fun g1 => ?_)
      have h1 := of_decide_eq_true g1
      refine EvtL.seqReg ?_
      refine RegL.q (OpQ.assign rfl rfl) rfl rfl rfl ?_
      refine RegL.done ?_
      refine EvtL.ret (InlQ.same rfl (res_tmp rfl rfl) rfl rfl rfl rfl ?_)
      refine RegL.q (OpQ.assign rfl rfl) rfl rfl rfl ?_
      refine RegL.done ?_
      refine EvtL.ret ⟨.inl rfl, rfl, rfl, rfl, _, _, _, (res_tmp rfl rfl), rfl, rfl, ?_⟩
      rotate_left
      have h1 := of_decide_eq_false g1
      refine EvtL.skip ?_
      refine EvtL.seqReg ?_
      refine RegL.op (OpL.loadS1 rfl ag_44 sz_44 rfl rfl rfl) rfl rfl rfl ?_
      refine RegL.q (OpQ.assign rfl rfl) rfl rfl rfl ?_
      refine RegL.done ?_
      refine EvtL.ret (InlQ.same rfl (res_tmp rfl rfl) rfl rfl rfl rfl ?_)
      refine RegL.q (OpQ.assign rfl rfl) rfl rfl rfl ?_
      refine RegL.done ?_
      refine EvtL.ret ⟨.inl rfl, rfl, rfl, rfl, _, _, _, (res_tmp rfl rfl), rfl, rfl, ?_⟩
      rotate_left
    all_goals (simp only [*]; rfl)
  by_cases hF6 : w.take (tw notSp w) = wordL.getD 6 []
  · rw [parsedV_alone hF6 (by decide) rfl]
    refine CallTo.s0 (fn := Tryz.f20) rfl rfl (by kernel_rfl) rfl rfl rfl rfl ?_
    refine EvtL.seqReg ?_
    refine RegL.q (OpQ.assign rfl rfl) rfl rfl rfl ?_
    refine RegL.done ?_
    refine EvtL.seqReg ?_
    refine RegL.q (OpQ.move rfl rfl) rfl rfl rfl ?_
    refine RegL.op (OpL.callFn rfl rfl (by kernel_rfl) rfl (CallTo.memo (hit_24 (by first | assumption | omega | (simp only [List.length_append, List.length_cons, List.length_nil, List.length_take, List.length_drop]; omega))))) rfl rfl rfl ?_
    refine RegL.q (OpQ.move rfl rfl) rfl rfl rfl ?_
    refine RegL.q (OpQ.extract rfl rfl rfl) rfl rfl rfl ?_
    refine RegL.q (OpQ.extract rfl rfl rfl) rfl rfl rfl ?_
    refine RegL.q (OpQ.extract rfl rfl rfl) rfl rfl rfl ?_
    refine RegL.q (OpQ.assign rfl rfl) rfl rfl rfl ?_
    refine RegL.q (OpQ.assign rfl rfl) rfl rfl rfl ?_
    refine RegL.q (OpQ.assign rfl rfl) rfl rfl rfl ?_
    refine RegL.done ?_
    refine EvtL.seqReg ?_
    refine RegL.callFn rfl rfl (by kernel_rfl) rfl rfl rfl rfl (words_run ?_)
    rw [hF6]
    focus
      refine RegL.q (OpQ.move rfl rfl) rfl rfl rfl ?_
      refine RegL.op (OpL.lookupS rfl u_65 z_63 kd_9 rfl rfl rfl rfl rfl) rfl rfl rfl ?_
      refine RegL.q (OpQ.move rfl rfl) rfl rfl rfl ?_
      refine RegL.q (OpQ.extract rfl rfl rfl) rfl rfl rfl ?_
      refine RegL.q (OpQ.extract rfl rfl rfl) rfl rfl rfl ?_
      refine RegL.op (OpL.allocS 24 rfl z_63 rfl) rfl rfl rfl ?_
      refine RegL.opN (OpL.storeS rfl sz_63 rfl rfl rfl rfl rfl rfl) rfl rfl ?_
      refine RegL.q (OpQ.assign rfl rfl) rfl rfl rfl ?_
      refine RegL.done ?_
      refine EvtL.seq ?_
      refine EvtL.seqReg ?_
      refine RegL.q (OpQ.move rfl rfl) rfl rfl rfl ?_
      refine RegL.q (OpQ.not rfl rfl) rfl rfl rfl ?_
      refine RegL.done ?_
      refine EvtL.condF rfl rfl ?_
      refine EvtL.skip ?_
      refine EvtL.seqReg ?_
      refine RegL.q (OpQ.fieldAddr rfl f_63_0 rfl) rfl rfl rfl ?_
      refine RegL.op (OpL.loadS1 rfl ag_61 sz_61 rfl rfl rfl) rfl rfl rfl ?_
      refine RegL.q (OpQ.move rfl rfl) rfl rfl rfl ?_
      refine RegL.q (OpQ.move rfl rfl) rfl rfl rfl ?_
      refine RegL.inlVal (fn := Tryz.f55) (by kernel_rfl) (by kernel_rfl) rfl rfl rfl rfl rfl rfl rfl rfl rfl rfl rfl rfl rfl ?_
      refine EvtL.seqReg ?_
      refine RegL.q (OpQ.assign rfl rfl) rfl rfl rfl ?_
      refine RegL.done ?_
      refine EvtL.seq ?_
      refine EvtL.seqReg ?_
      refine RegL.q (OpQ.move rfl rfl) rfl rfl rfl ?_
      refine RegL.done ?_
      refine EvtL.cond rfl (fun g1 => ?_) (fun g1 => ?_)
      have h1 := of_decide_eq_true g1
      refine EvtL.seqReg ?_
      refine RegL.q (OpQ.assign rfl rfl) rfl rfl rfl ?_
      refine RegL.done ?_
      refine EvtL.ret (InlQ.same rfl (res_tmp rfl rfl) rfl rfl rfl rfl ?_)
      refine RegL.q (OpQ.assign rfl rfl) rfl rfl rfl ?_
      refine RegL.done ?_
      refine EvtL.ret ⟨.inl rfl, rfl, rfl, rfl, _, _, _, (res_tmp rfl rfl), rfl, rfl, ?_⟩
      rotate_left
      have h1 := of_decide_eq_false g1
      refine EvtL.skip ?_
      refine EvtL.seqReg ?_
      refine RegL.op (OpL.loadS1 rfl ag_44 sz_44 rfl rfl rfl) rfl rfl rfl ?_
      refine RegL.q (OpQ.assign rfl rfl) rfl rfl rfl ?_
      refine RegL.done ?_
      refine EvtL.ret (InlQ.same rfl (res_tmp rfl rfl) rfl rfl rfl rfl ?_)
      refine RegL.q (OpQ.assign rfl rfl) rfl rfl rfl ?_
      refine RegL.done ?_
      refine EvtL.ret ⟨.inl rfl, rfl, rfl, rfl, _, _, _, (res_tmp rfl rfl), rfl, rfl, ?_⟩
      rotate_left
    all_goals (simp only [*]; rfl)
  by_cases hF7 : w.take (tw notSp w) = wordL.getD 7 []
  · rw [parsedV_alone hF7 (by decide) rfl]
    refine CallTo.s0 (fn := Tryz.f20) rfl rfl (by kernel_rfl) rfl rfl rfl rfl ?_
    refine EvtL.seqReg ?_
    refine RegL.q (OpQ.assign rfl rfl) rfl rfl rfl ?_
    refine RegL.done ?_
    refine EvtL.seqReg ?_
    refine RegL.q (OpQ.move rfl rfl) rfl rfl rfl ?_
    refine RegL.op (OpL.callFn rfl rfl (by kernel_rfl) rfl (CallTo.memo (hit_24 (by first | assumption | omega | (simp only [List.length_append, List.length_cons, List.length_nil, List.length_take, List.length_drop]; omega))))) rfl rfl rfl ?_
    refine RegL.q (OpQ.move rfl rfl) rfl rfl rfl ?_
    refine RegL.q (OpQ.extract rfl rfl rfl) rfl rfl rfl ?_
    refine RegL.q (OpQ.extract rfl rfl rfl) rfl rfl rfl ?_
    refine RegL.q (OpQ.extract rfl rfl rfl) rfl rfl rfl ?_
    refine RegL.q (OpQ.assign rfl rfl) rfl rfl rfl ?_
    refine RegL.q (OpQ.assign rfl rfl) rfl rfl rfl ?_
    refine RegL.q (OpQ.assign rfl rfl) rfl rfl rfl ?_
    refine RegL.done ?_
    refine EvtL.seqReg ?_
    refine RegL.callFn rfl rfl (by kernel_rfl) rfl rfl rfl rfl (words_run ?_)
    rw [hF7]
    focus
      refine RegL.q (OpQ.move rfl rfl) rfl rfl rfl ?_
      refine RegL.op (OpL.lookupS rfl u_65 z_63 kd_9 rfl rfl rfl rfl rfl) rfl rfl rfl ?_
      refine RegL.q (OpQ.move rfl rfl) rfl rfl rfl ?_
      refine RegL.q (OpQ.extract rfl rfl rfl) rfl rfl rfl ?_
      refine RegL.q (OpQ.extract rfl rfl rfl) rfl rfl rfl ?_
      refine RegL.op (OpL.allocS 24 rfl z_63 rfl) rfl rfl rfl ?_
      refine RegL.opN (OpL.storeS rfl sz_63 rfl rfl rfl rfl rfl rfl) rfl rfl ?_
      refine RegL.q (OpQ.assign rfl rfl) rfl rfl rfl ?_
      refine RegL.done ?_
      refine EvtL.seq ?_
      refine EvtL.seqReg ?_
      refine RegL.q (OpQ.move rfl rfl) rfl rfl rfl ?_
      refine RegL.q (OpQ.not rfl rfl) rfl rfl rfl ?_
      refine RegL.done ?_
      refine EvtL.condF rfl rfl ?_
      refine EvtL.skip ?_
      refine EvtL.seqReg ?_
      refine RegL.q (OpQ.fieldAddr rfl f_63_0 rfl) rfl rfl rfl ?_
      refine RegL.op (OpL.loadS1 rfl ag_61 sz_61 rfl rfl rfl) rfl rfl rfl ?_
      refine RegL.q (OpQ.move rfl rfl) rfl rfl rfl ?_
      refine RegL.q (OpQ.move rfl rfl) rfl rfl rfl ?_
      refine RegL.inlVal (fn := Tryz.f55) (by kernel_rfl) (by kernel_rfl) rfl rfl rfl rfl rfl rfl rfl rfl rfl rfl rfl rfl rfl ?_
      refine EvtL.seqReg ?_
      refine RegL.q (OpQ.assign rfl rfl) rfl rfl rfl ?_
      refine RegL.done ?_
      refine EvtL.seq ?_
      refine EvtL.seqReg ?_
      refine RegL.q (OpQ.move rfl rfl) rfl rfl rfl ?_
      refine RegL.done ?_
      refine EvtL.cond rfl (fun g1 => ?_) (fun g1 => ?_)
      have h1 := of_decide_eq_true g1
      refine EvtL.seqReg ?_
      refine RegL.q (OpQ.assign rfl rfl) rfl rfl rfl ?_
      refine RegL.done ?_
      refine EvtL.ret (InlQ.same rfl (res_tmp rfl rfl) rfl rfl rfl rfl ?_)
      refine RegL.q (OpQ.assign rfl rfl) rfl rfl rfl ?_
      refine RegL.done ?_
      refine EvtL.ret ⟨.inl rfl, rfl, rfl, rfl, _, _, _, (res_tmp rfl rfl), rfl, rfl, ?_⟩
      rotate_left
      have h1 := of_decide_eq_false g1
      refine EvtL.skip ?_
      refine EvtL.seqReg ?_
      refine RegL.op (OpL.loadS1 rfl ag_44 sz_44 rfl rfl rfl) rfl rfl rfl ?_
      refine RegL.q (OpQ.assign rfl rfl) rfl rfl rfl ?_
      refine RegL.done ?_
      refine EvtL.ret (InlQ.same rfl (res_tmp rfl rfl) rfl rfl rfl rfl ?_)
      refine RegL.q (OpQ.assign rfl rfl) rfl rfl rfl ?_
      refine RegL.done ?_
      refine EvtL.ret ⟨.inl rfl, rfl, rfl, rfl, _, _, _, (res_tmp rfl rfl), rfl, rfl, ?_⟩
      rotate_left
    all_goals (simp only [*]; rfl)
  by_cases hF9 : w.take (tw notSp w) = wordL.getD 9 []
  · rw [parsedV_alone hF9 (by decide) rfl]
    refine CallTo.s0 (fn := Tryz.f20) rfl rfl (by kernel_rfl) rfl rfl rfl rfl ?_
    refine EvtL.seqReg ?_
    refine RegL.q (OpQ.assign rfl rfl) rfl rfl rfl ?_
    refine RegL.done ?_
    refine EvtL.seqReg ?_
    refine RegL.q (OpQ.move rfl rfl) rfl rfl rfl ?_
    refine RegL.op (OpL.callFn rfl rfl (by kernel_rfl) rfl (CallTo.memo (hit_24 (by first | assumption | omega | (simp only [List.length_append, List.length_cons, List.length_nil, List.length_take, List.length_drop]; omega))))) rfl rfl rfl ?_
    refine RegL.q (OpQ.move rfl rfl) rfl rfl rfl ?_
    refine RegL.q (OpQ.extract rfl rfl rfl) rfl rfl rfl ?_
    refine RegL.q (OpQ.extract rfl rfl rfl) rfl rfl rfl ?_
    refine RegL.q (OpQ.extract rfl rfl rfl) rfl rfl rfl ?_
    refine RegL.q (OpQ.assign rfl rfl) rfl rfl rfl ?_
    refine RegL.q (OpQ.assign rfl rfl) rfl rfl rfl ?_
    refine RegL.q (OpQ.assign rfl rfl) rfl rfl rfl ?_
    refine RegL.done ?_
    refine EvtL.seqReg ?_
    refine RegL.callFn rfl rfl (by kernel_rfl) rfl rfl rfl rfl (words_run ?_)
    rw [hF9]
    focus
      refine RegL.q (OpQ.move rfl rfl) rfl rfl rfl ?_
      refine RegL.op (OpL.lookupS rfl u_65 z_63 kd_9 rfl rfl rfl rfl rfl) rfl rfl rfl ?_
      refine RegL.q (OpQ.move rfl rfl) rfl rfl rfl ?_
      refine RegL.q (OpQ.extract rfl rfl rfl) rfl rfl rfl ?_
      refine RegL.q (OpQ.extract rfl rfl rfl) rfl rfl rfl ?_
      refine RegL.op (OpL.allocS 24 rfl z_63 rfl) rfl rfl rfl ?_
      refine RegL.opN (OpL.storeS rfl sz_63 rfl rfl rfl rfl rfl rfl) rfl rfl ?_
      refine RegL.q (OpQ.assign rfl rfl) rfl rfl rfl ?_
      refine RegL.done ?_
      refine EvtL.seq ?_
      refine EvtL.seqReg ?_
      refine RegL.q (OpQ.move rfl rfl) rfl rfl rfl ?_
      refine RegL.q (OpQ.not rfl rfl) rfl rfl rfl ?_
      refine RegL.done ?_
      refine EvtL.condF rfl rfl ?_
      refine EvtL.skip ?_
      refine EvtL.seqReg ?_
      refine RegL.q (OpQ.fieldAddr rfl f_63_0 rfl) rfl rfl rfl ?_
      refine RegL.op (OpL.loadS1 rfl ag_61 sz_61 rfl rfl rfl) rfl rfl rfl ?_
      refine RegL.q (OpQ.move rfl rfl) rfl rfl rfl ?_
      refine RegL.q (OpQ.move rfl rfl) rfl rfl rfl ?_
      refine RegL.inlVal (fn := Tryz.f55) (by kernel_rfl) (by kernel_rfl) rfl rfl rfl rfl rfl rfl rfl rfl rfl rfl rfl rfl rfl ?_
      refine EvtL.seqReg ?_
      refine RegL.q (OpQ.assign rfl rfl) rfl rfl rfl ?_
      refine RegL.done ?_
      refine EvtL.seq ?_
      refine EvtL.seqReg ?_
      refine RegL.q (OpQ.move rfl rfl) rfl rfl rfl ?_
      refine RegL.done ?_
      refine EvtL.cond rfl (fun g1 => ?_) (fun g1 => ?_)
      have h1 := of_decide_eq_true g1
      refine EvtL.seqReg ?_
      refine RegL.q (OpQ.assign rfl rfl) rfl rfl rfl ?_
      refine RegL.done ?_
      refine EvtL.ret (InlQ.same rfl (res_tmp rfl rfl) rfl rfl rfl rfl ?_)
      refine RegL.q (OpQ.assign rfl rfl) rfl rfl rfl ?_
      refine RegL.done ?_
      refine EvtL.ret ⟨.inl rfl, rfl, rfl, rfl, _, _, _, (res_tmp rfl rfl), rfl, rfl, ?_⟩
      rotate_left
      have h1 := of_decide_eq_false g1
      refine EvtL.skip ?_
      refine EvtL.seqReg ?_
      refine RegL.op (OpL.loadS1 rfl ag_44 sz_44 rfl rfl rfl) rfl rfl rfl ?_
      refine RegL.q (OpQ.assign rfl rfl) rfl rfl rfl ?_
      refine RegL.done ?_
      refine EvtL.ret (InlQ.same rfl (res_tmp rfl rfl) rfl rfl rfl rfl ?_)
      refine RegL.q (OpQ.assign rfl rfl) rfl rfl rfl ?_
      refine RegL.done ?_
      refine EvtL.ret ⟨.inl rfl, rfl, rfl, rfl, _, _, _, (res_tmp rfl rfl), rfl, rfl, ?_⟩
      rotate_left
    all_goals (simp only [*]; rfl)
  have hnone : parsedV w = .niliface := by
    unfold parsedV
    rw [find_none fun j h1 h2 => ?_]
    have hj : j = 1 ∨ j = 2 ∨ j = 3 ∨ j = 4 ∨ j = 5 ∨ j = 6 ∨ j = 7 ∨ j = 8 ∨ j = 9 := by omega
    unfold isCmd
    rw [show bytesEq (w.take (tw notSp w)) (wordL.getD j []) = false by
      rw [bytesEq_iff]
      refine decide_eq_false ?_
      rcases hj with rfl | rfl | rfl | rfl | rfl | rfl | rfl | rfl | rfl <;> assumption]; rfl
  rw [hnone]
  refine CallTo.s0 (fn := Tryz.f20) rfl rfl (by kernel_rfl) rfl rfl rfl rfl ?_
  refine EvtL.seqReg ?_
  refine RegL.q (OpQ.assign rfl rfl) rfl rfl rfl ?_
  refine RegL.done ?_
  refine EvtL.seqReg ?_
  refine RegL.q (OpQ.move rfl rfl) rfl rfl rfl ?_
  refine RegL.op (OpL.callFn rfl rfl (by kernel_rfl) rfl (CallTo.memo (hit_24 (by first | assumption | omega | (simp only [List.length_append, List.length_cons, List.length_nil, List.length_take, List.length_drop]; omega))))) rfl rfl rfl ?_
  refine RegL.q (OpQ.move rfl rfl) rfl rfl rfl ?_
  refine RegL.q (OpQ.extract rfl rfl rfl) rfl rfl rfl ?_
  refine RegL.q (OpQ.extract rfl rfl rfl) rfl rfl rfl ?_
  refine RegL.q (OpQ.extract rfl rfl rfl) rfl rfl rfl ?_
  refine RegL.q (OpQ.assign rfl rfl) rfl rfl rfl ?_
  refine RegL.q (OpQ.assign rfl rfl) rfl rfl rfl ?_
  refine RegL.q (OpQ.assign rfl rfl) rfl rfl rfl ?_
  refine RegL.done ?_
  refine EvtL.seqReg ?_
  refine RegL.callFn rfl rfl (by kernel_rfl) rfl rfl rfl rfl (words_run ?_)
  refine RegL.q (OpQ.move rfl rfl) rfl rfl rfl ?_
  refine RegL.op (OpL.lookupS rfl u_65 z_63 kd_9 rfl rfl rfl rfl rfl) rfl rfl rfl ?_
  refine RegL.q (OpQ.move rfl rfl) rfl rfl rfl ?_
  simp only [cond_false, show bytesEq (w.take (tw notSp w)) [112, 114, 111, 103, 114, 97, 109] = false from (bytesEq_iff ..).trans (decide_eq_false hF1),
    show bytesEq (w.take (tw notSp w)) [103, 111, 97, 108] = false from (bytesEq_iff ..).trans (decide_eq_false hF2),
    show bytesEq (w.take (tw notSp w)) [119, 97, 121] = false from (bytesEq_iff ..).trans (decide_eq_false hF3),
    show bytesEq (w.take (tw notSp w)) [114, 117, 108, 101, 115] = false from (bytesEq_iff ..).trans (decide_eq_false hF8),
    show bytesEq (w.take (tw notSp w)) [110, 101, 120, 116] = false from (bytesEq_iff ..).trans (decide_eq_false hF4),
    show bytesEq (w.take (tw notSp w)) [114, 101, 115, 116] = false from (bytesEq_iff ..).trans (decide_eq_false hF5),
    show bytesEq (w.take (tw notSp w)) [115, 104, 111, 119] = false from (bytesEq_iff ..).trans (decide_eq_false hF6),
    show bytesEq (w.take (tw notSp w)) [119, 104, 101, 114, 101] = false from (bytesEq_iff ..).trans (decide_eq_false hF7),
    show bytesEq (w.take (tw notSp w)) [117, 110, 100, 111] = false from (bytesEq_iff ..).trans (decide_eq_false hF9)]
  refine RegL.q (OpQ.extract rfl rfl rfl) rfl rfl rfl ?_
  refine RegL.q (OpQ.extract rfl rfl rfl) rfl rfl rfl ?_
  refine RegL.op (OpL.allocS 24 rfl z_63 rfl) rfl rfl rfl ?_
  refine RegL.opN (OpL.storeS rfl sz_63 rfl rfl rfl rfl rfl rfl) rfl rfl ?_
  refine RegL.q (OpQ.assign rfl rfl) rfl rfl rfl ?_
  refine RegL.done ?_
  refine EvtL.seq ?_
  refine EvtL.seqReg ?_
  refine RegL.q (OpQ.move rfl rfl) rfl rfl rfl ?_
  refine RegL.q (OpQ.not rfl rfl) rfl rfl rfl ?_
  refine RegL.done ?_
  refine EvtL.condT rfl rfl ?_
  refine EvtL.seqReg ?_
  refine RegL.q (OpQ.assign rfl rfl) rfl rfl rfl ?_
  refine RegL.done ?_
  refine EvtL.ret ⟨.inl rfl, rfl, rfl, rfl, _, _, _, (res_tmp rfl rfl), rfl, rfl, ?_⟩
  rfl
noncomputable def K12 := addC K11 20 (fun w : { w : List UInt8 // w.length ≤ 4000 } => [.str w.1]) (fun w => parsedV w.1)
theorem hit_20 {w : List UInt8} (hw : w.length ≤ 4000) : K12 20 [.str w] = some (parsedV w) :=
  addC_hit (f := 20) (enc := fun w : { w : List UInt8 // w.length ≤ 4000 } => [.str w.1]) (res := fun w => parsedV w.1) (by rintro ⟨a, _⟩ ⟨b, _⟩ h; cases h; rfl) ⟨w, hw⟩
end Go.Proofs.YtmcjglkpjfnfcaaGreat

/- The package's Parse and Print. -/
open Go Am
namespace Go.Proofs.YtmcjglkpjfnfcaaGreat
def stop_23 : Unit := ()
theorem ifaceV_cases {w : List UInt8} {k : Nat} (h : kinds.find? (isCmd w) = some k) : k = 1 ∨ k = 2 ∨ k = 3 ∨ k = 4 ∨ k = 5 ∨ k = 6 ∨ k = 7 ∨ k = 8 ∨ k = 9 := by
  have := List.mem_of_find?_eq_some h
  simpa [kinds] using this
theorem parse_to (w : List UInt8) (hw : w.length ≤ 4000) : CallTo (EK K12) 6 [.str w] S0 (parseV w) := by
  refine CallTo.s0 (fn := Tryz.f6) rfl rfl (by kernel_rfl) rfl rfl rfl rfl ?_
  focus
    refine EvtL.seqReg ?_
    refine RegL.op (OpL.allocS 1 rfl z_24 rfl) rfl rfl rfl ?_
    refine RegL.q (OpQ.assign rfl rfl) rfl rfl rfl ?_
    refine RegL.done ?_
    refine EvtL.seqReg ?_
    refine RegL.q (OpQ.move rfl rfl) rfl rfl rfl ?_
    refine RegL.inl (fn := Tryz.f14) (by kernel_rfl) (by kernel_rfl) rfl rfl rfl rfl rfl rfl rfl rfl rfl rfl rfl ?_
    refine EvtL.seqReg ?_
    refine RegL.q (OpQ.assign rfl rfl) rfl rfl rfl ?_
    refine RegL.q (OpQ.assign rfl rfl) rfl rfl rfl ?_
    refine RegL.done ?_
    refine EvtL.seq ?_
    refine EvtL.seqReg ?_
    refine RegL.q (OpQ.move rfl rfl) rfl rfl rfl ?_
    refine RegL.q (OpQ.lenStr rfl rfl rfl rfl u_9 rfl) rfl rfl rfl ?_
    refine RegL.q (OpQ.int2 rfl u_3 rfl rfl rfl rfl) rfl rfl rfl ?_
    refine RegL.done ?_
    refine EvtL.cond rfl (fun g1 => ?_) (fun g1 => ?_)
    have h1 := of_decide_eq_true g1
    refine EvtL.seqReg ?_
    refine RegL.q (OpQ.assign rfl rfl) rfl rfl rfl ?_
    refine RegL.q (OpQ.assign rfl rfl) rfl rfl rfl ?_
    refine RegL.done ?_
    refine EvtL.ret (InlQ.same rfl (res_tmp rfl (res_tmp rfl rfl)) rfl rfl rfl rfl ?_)
    refine RegL.q (OpQ.move rfl rfl) rfl rfl rfl ?_
    refine RegL.q (OpQ.extract rfl rfl rfl) rfl rfl rfl ?_
    refine RegL.q (OpQ.extract rfl rfl rfl) rfl rfl rfl ?_
    refine RegL.q (OpQ.assign rfl rfl) rfl rfl rfl ?_
    refine RegL.q (OpQ.assign rfl rfl) rfl rfl rfl ?_
    refine RegL.done ?_
    refine EvtL.seq ?_
    refine EvtL.seqReg ?_
    refine RegL.q (OpQ.move rfl rfl) rfl rfl rfl ?_
    refine RegL.q (OpQ.int2 rfl u_26 rfl rfl rfl rfl) rfl rfl rfl ?_
    refine RegL.done ?_
    refine EvtL.condT rfl rfl ?_
    refine EvtL.seqReg ?_
    refine RegL.q (OpQ.build rfl pl_24 rfl rfl) rfl rfl rfl ?_
    refine RegL.q (OpQ.move rfl rfl) rfl rfl rfl ?_
    refine RegL.opN (OpL.storeS rfl sz_24 rfl rfl rfl rfl rfl rfl) rfl rfl ?_
    refine RegL.q (OpQ.assign rfl rfl) rfl rfl rfl ?_
    refine RegL.done ?_
    refine EvtL.ret ⟨.inl rfl, rfl, rfl, rfl, _, _, _, (res_cellA rfl ag_24 sz_24 rfl (Nat.le_of_ble_eq_true rfl) (res_tmp rfl rfl)), rfl, rfl, ?_⟩
    rotate_left
    have h1 := of_decide_eq_false g1
    refine EvtL.skip ?_
    refine EvtL.seqReg ?_
    refine RegL.q (OpQ.move rfl rfl) rfl rfl rfl ?_
    refine RegL.op (OpL.callFn rfl rfl (by kernel_rfl) rfl (CallTo.memo (hit_20 (by first | assumption | omega | (simp only [List.length_append, List.length_cons, List.length_nil, List.length_take, List.length_drop]; omega))))) rfl rfl rfl ?_
    refine RegL.q (OpQ.assign rfl rfl) rfl rfl rfl ?_
    refine RegL.done ?_
    refine EvtL.seq ?_
    refine EvtL.seqReg ?_
    refine RegL.q (OpQ.move rfl rfl) rfl rfl rfl ?_
    rotate_left
  · unfold parseV
    rw [if_pos (by omega)]
  cases h : kinds.find? (isCmd w) with
  | none =>
    have hp : parsedV w = .niliface := by unfold parsedV; rw [h]
    rw [hp]
    refine RegL.q (OpQ.eqIf (neg := false) rfl if_44 rfl rfl rfl) rfl rfl rfl ?_
    refine RegL.done ?_
    refine EvtL.condT rfl rfl ?_
    refine EvtL.seqReg ?_
    refine RegL.q (OpQ.assign rfl rfl) rfl rfl rfl ?_
    refine RegL.q (OpQ.assign rfl rfl) rfl rfl rfl ?_
    refine RegL.done ?_
    refine EvtL.ret (InlQ.same rfl (res_tmp rfl (res_tmp rfl rfl)) rfl rfl rfl rfl ?_)
    refine RegL.q (OpQ.move rfl rfl) rfl rfl rfl ?_
    refine RegL.q (OpQ.extract rfl rfl rfl) rfl rfl rfl ?_
    refine RegL.q (OpQ.extract rfl rfl rfl) rfl rfl rfl ?_
    refine RegL.q (OpQ.assign rfl rfl) rfl rfl rfl ?_
    refine RegL.q (OpQ.assign rfl rfl) rfl rfl rfl ?_
    refine RegL.done ?_
    refine EvtL.seq ?_
    refine EvtL.seqReg ?_
    refine RegL.q (OpQ.move rfl rfl) rfl rfl rfl ?_
    refine RegL.q (OpQ.int2 rfl u_26 rfl rfl rfl rfl) rfl rfl rfl ?_
    refine RegL.done ?_
    refine EvtL.condT rfl rfl ?_
    refine EvtL.seqReg ?_
    refine RegL.q (OpQ.build rfl pl_24 rfl rfl) rfl rfl rfl ?_
    refine RegL.q (OpQ.move rfl rfl) rfl rfl rfl ?_
    refine RegL.opN (OpL.storeS rfl sz_24 rfl rfl rfl rfl rfl rfl) rfl rfl ?_
    refine RegL.q (OpQ.assign rfl rfl) rfl rfl rfl ?_
    refine RegL.done ?_
    refine EvtL.ret ⟨.inl rfl, rfl, rfl, rfl, _, _, _, (res_cellA rfl ag_24 sz_24 rfl (Nat.le_of_ble_eq_true rfl) (res_tmp rfl rfl)), rfl, rfl, ?_⟩
    unfold parseV
    rw [if_neg (by omega), h]
  | some k =>
    have hp : parsedV w = ifaceV k (restS k w) := by unfold parsedV; rw [h]
    rw [hp]
    have he : parseV w = .tuple [.agg [.int .i64 (k : Nat), .str (restS k w)], .int .i64 0] := by
      unfold parseV
      rw [if_neg (by omega), h]
    rw [he]
    rcases ifaceV_cases h with rfl | rfl | rfl | rfl | rfl | rfl | rfl | rfl | rfl
    all_goals (unfold ifaceV)
    · refine RegL.q (OpQ.eqIf (neg := false) rfl if_44 rfl rfl rfl) rfl rfl rfl ?_
      refine RegL.done ?_
      refine EvtL.condF rfl rfl ?_
      refine EvtL.skip ?_
      refine EvtL.seqReg ?_
      refine RegL.q (OpQ.move rfl rfl) rfl rfl rfl ?_
      refine RegL.q (OpQ.assign rfl rfl) rfl rfl rfl ?_
      refine RegL.q (OpQ.assign rfl rfl) rfl rfl rfl ?_
      refine RegL.done ?_
      refine EvtL.ret (InlQ.same rfl (res_tmp rfl (res_tmp rfl rfl)) rfl rfl rfl rfl ?_)
      refine RegL.q (OpQ.move rfl rfl) rfl rfl rfl ?_
      refine RegL.q (OpQ.extract rfl rfl rfl) rfl rfl rfl ?_
      refine RegL.q (OpQ.extract rfl rfl rfl) rfl rfl rfl ?_
      refine RegL.q (OpQ.assign rfl rfl) rfl rfl rfl ?_
      refine RegL.q (OpQ.assign rfl rfl) rfl rfl rfl ?_
      refine RegL.done ?_
      refine EvtL.seq ?_
      refine EvtL.seqReg ?_
      refine RegL.q (OpQ.move rfl rfl) rfl rfl rfl ?_
      refine RegL.q (OpQ.int2 rfl u_26 rfl rfl rfl rfl) rfl rfl rfl ?_
      refine RegL.done ?_
      refine EvtL.condF rfl rfl ?_
      refine EvtL.skip ?_
      refine EvtL.seqReg ?_
      refine RegL.q (OpQ.move rfl rfl) rfl rfl rfl ?_
      refine RegL.inlInv (fn := Tryz.f85) (by kernel_rfl) m_106_made (by kernel_rfl) rfl rfl rfl rfl rfl rfl rfl rfl rfl rfl rfl rfl rfl ?_
      refine EvtL.seqReg ?_
      refine RegL.op (OpL.boxS 2 rfl rfl rfl rfl) rfl rfl rfl ?_
      refine RegL.op (OpL.allocS 3 rfl z_24 rfl) rfl rfl rfl ?_
      refine RegL.done ?_
      refine EvtL.seqReg ?_
      refine RegL.q (OpQ.fieldAddr rfl f_106_0 rfl) rfl rfl rfl ?_
      refine RegL.op (OpL.loadS1 rfl ag_9 sz_9 rfl rfl rfl) rfl rfl rfl ?_
      refine RegL.q (OpQ.build rfl pl_24 rfl rfl) rfl rfl rfl ?_
      refine RegL.opN (OpL.storeS rfl sz_24 rfl rfl rfl rfl rfl rfl) rfl rfl ?_
      refine RegL.done ?_
      refine EvtL.ret (InlQ.same rfl (res_cellA rfl ag_24 sz_24 rfl (Nat.le_of_ble_eq_true rfl) rfl) rfl rfl rfl rfl ?_)
      refine RegL.opN (OpL.storeS rfl sz_24 rfl rfl rfl rfl rfl rfl) rfl rfl ?_
      refine RegL.q (OpQ.assign rfl rfl) rfl rfl rfl ?_
      refine RegL.done ?_
      refine EvtL.ret ⟨.inl rfl, rfl, rfl, rfl, _, _, _, (res_cellA rfl ag_24 sz_24 rfl (Nat.le_of_ble_eq_true rfl) (res_tmp rfl rfl)), rfl, rfl, ?_⟩
      rfl
    · refine RegL.q (OpQ.eqIf (neg := false) rfl if_44 rfl rfl rfl) rfl rfl rfl ?_
      refine RegL.done ?_
      refine EvtL.condF rfl rfl ?_
      refine EvtL.skip ?_
      refine EvtL.seqReg ?_
      refine RegL.q (OpQ.move rfl rfl) rfl rfl rfl ?_
      refine RegL.q (OpQ.assign rfl rfl) rfl rfl rfl ?_
      refine RegL.q (OpQ.assign rfl rfl) rfl rfl rfl ?_
      refine RegL.done ?_
      refine EvtL.ret (InlQ.same rfl (res_tmp rfl (res_tmp rfl rfl)) rfl rfl rfl rfl ?_)
      refine RegL.q (OpQ.move rfl rfl) rfl rfl rfl ?_
      refine RegL.q (OpQ.extract rfl rfl rfl) rfl rfl rfl ?_
      refine RegL.q (OpQ.extract rfl rfl rfl) rfl rfl rfl ?_
      refine RegL.q (OpQ.assign rfl rfl) rfl rfl rfl ?_
      refine RegL.q (OpQ.assign rfl rfl) rfl rfl rfl ?_
      refine RegL.done ?_
      refine EvtL.seq ?_
      refine EvtL.seqReg ?_
      refine RegL.q (OpQ.move rfl rfl) rfl rfl rfl ?_
      refine RegL.q (OpQ.int2 rfl u_26 rfl rfl rfl rfl) rfl rfl rfl ?_
      refine RegL.done ?_
      refine EvtL.condF rfl rfl ?_
      refine EvtL.skip ?_
      refine EvtL.seqReg ?_
      refine RegL.q (OpQ.move rfl rfl) rfl rfl rfl ?_
      refine RegL.inlInv (fn := Tryz.f347) (by kernel_rfl) m_107_made (by kernel_rfl) rfl rfl rfl rfl rfl rfl rfl rfl rfl rfl rfl rfl rfl ?_
      refine EvtL.seqReg ?_
      refine RegL.op (OpL.boxS 2 rfl rfl rfl rfl) rfl rfl rfl ?_
      refine RegL.op (OpL.allocS 3 rfl z_24 rfl) rfl rfl rfl ?_
      refine RegL.done ?_
      refine EvtL.seqReg ?_
      refine RegL.q (OpQ.fieldAddr rfl f_107_0 rfl) rfl rfl rfl ?_
      refine RegL.op (OpL.loadS1 rfl ag_9 sz_9 rfl rfl rfl) rfl rfl rfl ?_
      refine RegL.q (OpQ.build rfl pl_24 rfl rfl) rfl rfl rfl ?_
      refine RegL.opN (OpL.storeS rfl sz_24 rfl rfl rfl rfl rfl rfl) rfl rfl ?_
      refine RegL.done ?_
      refine EvtL.ret (InlQ.same rfl (res_cellA rfl ag_24 sz_24 rfl (Nat.le_of_ble_eq_true rfl) rfl) rfl rfl rfl rfl ?_)
      refine RegL.opN (OpL.storeS rfl sz_24 rfl rfl rfl rfl rfl rfl) rfl rfl ?_
      refine RegL.q (OpQ.assign rfl rfl) rfl rfl rfl ?_
      refine RegL.done ?_
      refine EvtL.ret ⟨.inl rfl, rfl, rfl, rfl, _, _, _, (res_cellA rfl ag_24 sz_24 rfl (Nat.le_of_ble_eq_true rfl) (res_tmp rfl rfl)), rfl, rfl, ?_⟩
      rfl
    · refine RegL.q (OpQ.eqIf (neg := false) rfl if_44 rfl rfl rfl) rfl rfl rfl ?_
      refine RegL.done ?_
      refine EvtL.condF rfl rfl ?_
      refine EvtL.skip ?_
      refine EvtL.seqReg ?_
      refine RegL.q (OpQ.move rfl rfl) rfl rfl rfl ?_
      refine RegL.q (OpQ.assign rfl rfl) rfl rfl rfl ?_
      refine RegL.q (OpQ.assign rfl rfl) rfl rfl rfl ?_
      refine RegL.done ?_
      refine EvtL.ret (InlQ.same rfl (res_tmp rfl (res_tmp rfl rfl)) rfl rfl rfl rfl ?_)
      refine RegL.q (OpQ.move rfl rfl) rfl rfl rfl ?_
      refine RegL.q (OpQ.extract rfl rfl rfl) rfl rfl rfl ?_
      refine RegL.q (OpQ.extract rfl rfl rfl) rfl rfl rfl ?_
      refine RegL.q (OpQ.assign rfl rfl) rfl rfl rfl ?_
      refine RegL.q (OpQ.assign rfl rfl) rfl rfl rfl ?_
      refine RegL.done ?_
      refine EvtL.seq ?_
      refine EvtL.seqReg ?_
      refine RegL.q (OpQ.move rfl rfl) rfl rfl rfl ?_
      refine RegL.q (OpQ.int2 rfl u_26 rfl rfl rfl rfl) rfl rfl rfl ?_
      refine RegL.done ?_
      refine EvtL.condF rfl rfl ?_
      refine EvtL.skip ?_
      refine EvtL.seqReg ?_
      refine RegL.q (OpQ.move rfl rfl) rfl rfl rfl ?_
      refine RegL.inlInv (fn := Tryz.f373) (by kernel_rfl) m_108_made (by kernel_rfl) rfl rfl rfl rfl rfl rfl rfl rfl rfl rfl rfl rfl rfl ?_
      refine EvtL.seqReg ?_
      refine RegL.op (OpL.boxS 2 rfl rfl rfl rfl) rfl rfl rfl ?_
      refine RegL.op (OpL.allocS 3 rfl z_24 rfl) rfl rfl rfl ?_
      refine RegL.done ?_
      refine EvtL.seqReg ?_
      refine RegL.q (OpQ.fieldAddr rfl f_108_0 rfl) rfl rfl rfl ?_
      refine RegL.op (OpL.loadS1 rfl ag_9 sz_9 rfl rfl rfl) rfl rfl rfl ?_
      refine RegL.q (OpQ.build rfl pl_24 rfl rfl) rfl rfl rfl ?_
      refine RegL.opN (OpL.storeS rfl sz_24 rfl rfl rfl rfl rfl rfl) rfl rfl ?_
      refine RegL.done ?_
      refine EvtL.ret (InlQ.same rfl (res_cellA rfl ag_24 sz_24 rfl (Nat.le_of_ble_eq_true rfl) rfl) rfl rfl rfl rfl ?_)
      refine RegL.opN (OpL.storeS rfl sz_24 rfl rfl rfl rfl rfl rfl) rfl rfl ?_
      refine RegL.q (OpQ.assign rfl rfl) rfl rfl rfl ?_
      refine RegL.done ?_
      refine EvtL.ret ⟨.inl rfl, rfl, rfl, rfl, _, _, _, (res_cellA rfl ag_24 sz_24 rfl (Nat.le_of_ble_eq_true rfl) (res_tmp rfl rfl)), rfl, rfl, ?_⟩
      rfl
    · refine RegL.q (OpQ.eqIf (neg := false) rfl if_44 rfl rfl rfl) rfl rfl rfl ?_
      refine RegL.done ?_
      refine EvtL.condF rfl rfl ?_
      refine EvtL.skip ?_
      refine EvtL.seqReg ?_
      refine RegL.q (OpQ.move rfl rfl) rfl rfl rfl ?_
      refine RegL.q (OpQ.assign rfl rfl) rfl rfl rfl ?_
      refine RegL.q (OpQ.assign rfl rfl) rfl rfl rfl ?_
      refine RegL.done ?_
      refine EvtL.ret (InlQ.same rfl (res_tmp rfl (res_tmp rfl rfl)) rfl rfl rfl rfl ?_)
      refine RegL.q (OpQ.move rfl rfl) rfl rfl rfl ?_
      refine RegL.q (OpQ.extract rfl rfl rfl) rfl rfl rfl ?_
      refine RegL.q (OpQ.extract rfl rfl rfl) rfl rfl rfl ?_
      refine RegL.q (OpQ.assign rfl rfl) rfl rfl rfl ?_
      refine RegL.q (OpQ.assign rfl rfl) rfl rfl rfl ?_
      refine RegL.done ?_
      refine EvtL.seq ?_
      refine EvtL.seqReg ?_
      refine RegL.q (OpQ.move rfl rfl) rfl rfl rfl ?_
      refine RegL.q (OpQ.int2 rfl u_26 rfl rfl rfl rfl) rfl rfl rfl ?_
      refine RegL.done ?_
      refine EvtL.condF rfl rfl ?_
      refine EvtL.skip ?_
      refine EvtL.seqReg ?_
      refine RegL.q (OpQ.move rfl rfl) rfl rfl rfl ?_
      refine RegL.inlInv (fn := Tryz.f379) (by kernel_rfl) m_112_made (by kernel_rfl) rfl rfl rfl rfl rfl rfl rfl rfl rfl rfl rfl rfl rfl ?_
      refine EvtL.seqReg ?_
      refine RegL.op (OpL.boxS 2 rfl rfl rfl rfl) rfl rfl rfl ?_
      refine RegL.op (OpL.allocS 3 rfl z_24 rfl) rfl rfl rfl ?_
      refine RegL.done ?_
      refine EvtL.seqReg ?_
      refine RegL.q (OpQ.build rfl pl_24 rfl rfl) rfl rfl rfl ?_
      refine RegL.opN (OpL.storeS rfl sz_24 rfl rfl rfl rfl rfl rfl) rfl rfl ?_
      refine RegL.done ?_
      refine EvtL.ret (InlQ.same rfl (res_cellA rfl ag_24 sz_24 rfl (Nat.le_of_ble_eq_true rfl) rfl) rfl rfl rfl rfl ?_)
      refine RegL.opN (OpL.storeS rfl sz_24 rfl rfl rfl rfl rfl rfl) rfl rfl ?_
      refine RegL.q (OpQ.assign rfl rfl) rfl rfl rfl ?_
      refine RegL.done ?_
      refine EvtL.ret ⟨.inl rfl, rfl, rfl, rfl, _, _, _, (res_cellA rfl ag_24 sz_24 rfl (Nat.le_of_ble_eq_true rfl) (res_tmp rfl rfl)), rfl, rfl, ?_⟩
      rfl
    · refine RegL.q (OpQ.eqIf (neg := false) rfl if_44 rfl rfl rfl) rfl rfl rfl ?_
      refine RegL.done ?_
      refine EvtL.condF rfl rfl ?_
      refine EvtL.skip ?_
      refine EvtL.seqReg ?_
      refine RegL.q (OpQ.move rfl rfl) rfl rfl rfl ?_
      refine RegL.q (OpQ.assign rfl rfl) rfl rfl rfl ?_
      refine RegL.q (OpQ.assign rfl rfl) rfl rfl rfl ?_
      refine RegL.done ?_
      refine EvtL.ret (InlQ.same rfl (res_tmp rfl (res_tmp rfl rfl)) rfl rfl rfl rfl ?_)
      refine RegL.q (OpQ.move rfl rfl) rfl rfl rfl ?_
      refine RegL.q (OpQ.extract rfl rfl rfl) rfl rfl rfl ?_
      refine RegL.q (OpQ.extract rfl rfl rfl) rfl rfl rfl ?_
      refine RegL.q (OpQ.assign rfl rfl) rfl rfl rfl ?_
      refine RegL.q (OpQ.assign rfl rfl) rfl rfl rfl ?_
      refine RegL.done ?_
      refine EvtL.seq ?_
      refine EvtL.seqReg ?_
      refine RegL.q (OpQ.move rfl rfl) rfl rfl rfl ?_
      refine RegL.q (OpQ.int2 rfl u_26 rfl rfl rfl rfl) rfl rfl rfl ?_
      refine RegL.done ?_
      refine EvtL.condF rfl rfl ?_
      refine EvtL.skip ?_
      refine EvtL.seqReg ?_
      refine RegL.q (OpQ.move rfl rfl) rfl rfl rfl ?_
      refine RegL.inlInv (fn := Tryz.f494) (by kernel_rfl) m_113_made (by kernel_rfl) rfl rfl rfl rfl rfl rfl rfl rfl rfl rfl rfl rfl rfl ?_
      refine EvtL.seqReg ?_
      refine RegL.op (OpL.boxS 2 rfl rfl rfl rfl) rfl rfl rfl ?_
      refine RegL.op (OpL.allocS 3 rfl z_24 rfl) rfl rfl rfl ?_
      refine RegL.done ?_
      refine EvtL.seqReg ?_
      refine RegL.q (OpQ.build rfl pl_24 rfl rfl) rfl rfl rfl ?_
      refine RegL.opN (OpL.storeS rfl sz_24 rfl rfl rfl rfl rfl rfl) rfl rfl ?_
      refine RegL.done ?_
      refine EvtL.ret (InlQ.same rfl (res_cellA rfl ag_24 sz_24 rfl (Nat.le_of_ble_eq_true rfl) rfl) rfl rfl rfl rfl ?_)
      refine RegL.opN (OpL.storeS rfl sz_24 rfl rfl rfl rfl rfl rfl) rfl rfl ?_
      refine RegL.q (OpQ.assign rfl rfl) rfl rfl rfl ?_
      refine RegL.done ?_
      refine EvtL.ret ⟨.inl rfl, rfl, rfl, rfl, _, _, _, (res_cellA rfl ag_24 sz_24 rfl (Nat.le_of_ble_eq_true rfl) (res_tmp rfl rfl)), rfl, rfl, ?_⟩
      rfl
    · refine RegL.q (OpQ.eqIf (neg := false) rfl if_44 rfl rfl rfl) rfl rfl rfl ?_
      refine RegL.done ?_
      refine EvtL.condF rfl rfl ?_
      refine EvtL.skip ?_
      refine EvtL.seqReg ?_
      refine RegL.q (OpQ.move rfl rfl) rfl rfl rfl ?_
      refine RegL.q (OpQ.assign rfl rfl) rfl rfl rfl ?_
      refine RegL.q (OpQ.assign rfl rfl) rfl rfl rfl ?_
      refine RegL.done ?_
      refine EvtL.ret (InlQ.same rfl (res_tmp rfl (res_tmp rfl rfl)) rfl rfl rfl rfl ?_)
      refine RegL.q (OpQ.move rfl rfl) rfl rfl rfl ?_
      refine RegL.q (OpQ.extract rfl rfl rfl) rfl rfl rfl ?_
      refine RegL.q (OpQ.extract rfl rfl rfl) rfl rfl rfl ?_
      refine RegL.q (OpQ.assign rfl rfl) rfl rfl rfl ?_
      refine RegL.q (OpQ.assign rfl rfl) rfl rfl rfl ?_
      refine RegL.done ?_
      refine EvtL.seq ?_
      refine EvtL.seqReg ?_
      refine RegL.q (OpQ.move rfl rfl) rfl rfl rfl ?_
      refine RegL.q (OpQ.int2 rfl u_26 rfl rfl rfl rfl) rfl rfl rfl ?_
      refine RegL.done ?_
      refine EvtL.condF rfl rfl ?_
      refine EvtL.skip ?_
      refine EvtL.seqReg ?_
      refine RegL.q (OpQ.move rfl rfl) rfl rfl rfl ?_
      refine RegL.inlInv (fn := Tryz.f496) (by kernel_rfl) m_114_made (by kernel_rfl) rfl rfl rfl rfl rfl rfl rfl rfl rfl rfl rfl rfl rfl ?_
      refine EvtL.seqReg ?_
      refine RegL.op (OpL.boxS 2 rfl rfl rfl rfl) rfl rfl rfl ?_
      refine RegL.op (OpL.allocS 3 rfl z_24 rfl) rfl rfl rfl ?_
      refine RegL.done ?_
      refine EvtL.seqReg ?_
      refine RegL.q (OpQ.build rfl pl_24 rfl rfl) rfl rfl rfl ?_
      refine RegL.opN (OpL.storeS rfl sz_24 rfl rfl rfl rfl rfl rfl) rfl rfl ?_
      refine RegL.done ?_
      refine EvtL.ret (InlQ.same rfl (res_cellA rfl ag_24 sz_24 rfl (Nat.le_of_ble_eq_true rfl) rfl) rfl rfl rfl rfl ?_)
      refine RegL.opN (OpL.storeS rfl sz_24 rfl rfl rfl rfl rfl rfl) rfl rfl ?_
      refine RegL.q (OpQ.assign rfl rfl) rfl rfl rfl ?_
      refine RegL.done ?_
      refine EvtL.ret ⟨.inl rfl, rfl, rfl, rfl, _, _, _, (res_cellA rfl ag_24 sz_24 rfl (Nat.le_of_ble_eq_true rfl) (res_tmp rfl rfl)), rfl, rfl, ?_⟩
      rfl
    · refine RegL.q (OpQ.eqIf (neg := false) rfl if_44 rfl rfl rfl) rfl rfl rfl ?_
      refine RegL.done ?_
      refine EvtL.condF rfl rfl ?_
      refine EvtL.skip ?_
      refine EvtL.seqReg ?_
      refine RegL.q (OpQ.move rfl rfl) rfl rfl rfl ?_
      refine RegL.q (OpQ.assign rfl rfl) rfl rfl rfl ?_
      refine RegL.q (OpQ.assign rfl rfl) rfl rfl rfl ?_
      refine RegL.done ?_
      refine EvtL.ret (InlQ.same rfl (res_tmp rfl (res_tmp rfl rfl)) rfl rfl rfl rfl ?_)
      refine RegL.q (OpQ.move rfl rfl) rfl rfl rfl ?_
      refine RegL.q (OpQ.extract rfl rfl rfl) rfl rfl rfl ?_
      refine RegL.q (OpQ.extract rfl rfl rfl) rfl rfl rfl ?_
      refine RegL.q (OpQ.assign rfl rfl) rfl rfl rfl ?_
      refine RegL.q (OpQ.assign rfl rfl) rfl rfl rfl ?_
      refine RegL.done ?_
      refine EvtL.seq ?_
      refine EvtL.seqReg ?_
      refine RegL.q (OpQ.move rfl rfl) rfl rfl rfl ?_
      refine RegL.q (OpQ.int2 rfl u_26 rfl rfl rfl rfl) rfl rfl rfl ?_
      refine RegL.done ?_
      refine EvtL.condF rfl rfl ?_
      refine EvtL.skip ?_
      refine EvtL.seqReg ?_
      refine RegL.q (OpQ.move rfl rfl) rfl rfl rfl ?_
      refine RegL.inlInv (fn := Tryz.f514) (by kernel_rfl) m_115_made (by kernel_rfl) rfl rfl rfl rfl rfl rfl rfl rfl rfl rfl rfl rfl rfl ?_
      refine EvtL.seqReg ?_
      refine RegL.op (OpL.boxS 2 rfl rfl rfl rfl) rfl rfl rfl ?_
      refine RegL.op (OpL.allocS 3 rfl z_24 rfl) rfl rfl rfl ?_
      refine RegL.done ?_
      refine EvtL.seqReg ?_
      refine RegL.q (OpQ.build rfl pl_24 rfl rfl) rfl rfl rfl ?_
      refine RegL.opN (OpL.storeS rfl sz_24 rfl rfl rfl rfl rfl rfl) rfl rfl ?_
      refine RegL.done ?_
      refine EvtL.ret (InlQ.same rfl (res_cellA rfl ag_24 sz_24 rfl (Nat.le_of_ble_eq_true rfl) rfl) rfl rfl rfl rfl ?_)
      refine RegL.opN (OpL.storeS rfl sz_24 rfl rfl rfl rfl rfl rfl) rfl rfl ?_
      refine RegL.q (OpQ.assign rfl rfl) rfl rfl rfl ?_
      refine RegL.done ?_
      refine EvtL.ret ⟨.inl rfl, rfl, rfl, rfl, _, _, _, (res_cellA rfl ag_24 sz_24 rfl (Nat.le_of_ble_eq_true rfl) (res_tmp rfl rfl)), rfl, rfl, ?_⟩
      rfl
    · refine RegL.q (OpQ.eqIf (neg := false) rfl if_44 rfl rfl rfl) rfl rfl rfl ?_
      refine RegL.done ?_
      refine EvtL.condF rfl rfl ?_
      refine EvtL.skip ?_
      refine EvtL.seqReg ?_
      refine RegL.q (OpQ.move rfl rfl) rfl rfl rfl ?_
      refine RegL.q (OpQ.assign rfl rfl) rfl rfl rfl ?_
      refine RegL.q (OpQ.assign rfl rfl) rfl rfl rfl ?_
      refine RegL.done ?_
      refine EvtL.ret (InlQ.same rfl (res_tmp rfl (res_tmp rfl rfl)) rfl rfl rfl rfl ?_)
      refine RegL.q (OpQ.move rfl rfl) rfl rfl rfl ?_
      refine RegL.q (OpQ.extract rfl rfl rfl) rfl rfl rfl ?_
      refine RegL.q (OpQ.extract rfl rfl rfl) rfl rfl rfl ?_
      refine RegL.q (OpQ.assign rfl rfl) rfl rfl rfl ?_
      refine RegL.q (OpQ.assign rfl rfl) rfl rfl rfl ?_
      refine RegL.done ?_
      refine EvtL.seq ?_
      refine EvtL.seqReg ?_
      refine RegL.q (OpQ.move rfl rfl) rfl rfl rfl ?_
      refine RegL.q (OpQ.int2 rfl u_26 rfl rfl rfl rfl) rfl rfl rfl ?_
      refine RegL.done ?_
      refine EvtL.condF rfl rfl ?_
      refine EvtL.skip ?_
      refine EvtL.seqReg ?_
      refine RegL.q (OpQ.move rfl rfl) rfl rfl rfl ?_
      refine RegL.inlInv (fn := Tryz.f375) (by kernel_rfl) m_109_made (by kernel_rfl) rfl rfl rfl rfl rfl rfl rfl rfl rfl rfl rfl rfl rfl ?_
      refine EvtL.seqReg ?_
      refine RegL.op (OpL.boxS 2 rfl rfl rfl rfl) rfl rfl rfl ?_
      refine RegL.op (OpL.allocS 3 rfl z_24 rfl) rfl rfl rfl ?_
      refine RegL.done ?_
      refine EvtL.seqReg ?_
      refine RegL.q (OpQ.fieldAddr rfl f_109_0 rfl) rfl rfl rfl ?_
      refine RegL.op (OpL.loadS1 rfl ag_9 sz_9 rfl rfl rfl) rfl rfl rfl ?_
      refine RegL.q (OpQ.build rfl pl_24 rfl rfl) rfl rfl rfl ?_
      refine RegL.opN (OpL.storeS rfl sz_24 rfl rfl rfl rfl rfl rfl) rfl rfl ?_
      refine RegL.done ?_
      refine EvtL.ret (InlQ.same rfl (res_cellA rfl ag_24 sz_24 rfl (Nat.le_of_ble_eq_true rfl) rfl) rfl rfl rfl rfl ?_)
      refine RegL.opN (OpL.storeS rfl sz_24 rfl rfl rfl rfl rfl rfl) rfl rfl ?_
      refine RegL.q (OpQ.assign rfl rfl) rfl rfl rfl ?_
      refine RegL.done ?_
      refine EvtL.ret ⟨.inl rfl, rfl, rfl, rfl, _, _, _, (res_cellA rfl ag_24 sz_24 rfl (Nat.le_of_ble_eq_true rfl) (res_tmp rfl rfl)), rfl, rfl, ?_⟩
      rfl
    · refine RegL.q (OpQ.eqIf (neg := false) rfl if_44 rfl rfl rfl) rfl rfl rfl ?_
      refine RegL.done ?_
      refine EvtL.condF rfl rfl ?_
      refine EvtL.skip ?_
      refine EvtL.seqReg ?_
      refine RegL.q (OpQ.move rfl rfl) rfl rfl rfl ?_
      refine RegL.q (OpQ.assign rfl rfl) rfl rfl rfl ?_
      refine RegL.q (OpQ.assign rfl rfl) rfl rfl rfl ?_
      refine RegL.done ?_
      refine EvtL.ret (InlQ.same rfl (res_tmp rfl (res_tmp rfl rfl)) rfl rfl rfl rfl ?_)
      refine RegL.q (OpQ.move rfl rfl) rfl rfl rfl ?_
      refine RegL.q (OpQ.extract rfl rfl rfl) rfl rfl rfl ?_
      refine RegL.q (OpQ.extract rfl rfl rfl) rfl rfl rfl ?_
      refine RegL.q (OpQ.assign rfl rfl) rfl rfl rfl ?_
      refine RegL.q (OpQ.assign rfl rfl) rfl rfl rfl ?_
      refine RegL.done ?_
      refine EvtL.seq ?_
      refine EvtL.seqReg ?_
      refine RegL.q (OpQ.move rfl rfl) rfl rfl rfl ?_
      refine RegL.q (OpQ.int2 rfl u_26 rfl rfl rfl rfl) rfl rfl rfl ?_
      refine RegL.done ?_
      refine EvtL.condF rfl rfl ?_
      refine EvtL.skip ?_
      refine EvtL.seqReg ?_
      refine RegL.q (OpQ.move rfl rfl) rfl rfl rfl ?_
      refine RegL.inlInv (fn := Tryz.f516) (by kernel_rfl) m_116_made (by kernel_rfl) rfl rfl rfl rfl rfl rfl rfl rfl rfl rfl rfl rfl rfl ?_
      refine EvtL.seqReg ?_
      refine RegL.op (OpL.boxS 2 rfl rfl rfl rfl) rfl rfl rfl ?_
      refine RegL.op (OpL.allocS 3 rfl z_24 rfl) rfl rfl rfl ?_
      refine RegL.done ?_
      refine EvtL.seqReg ?_
      refine RegL.q (OpQ.build rfl pl_24 rfl rfl) rfl rfl rfl ?_
      refine RegL.opN (OpL.storeS rfl sz_24 rfl rfl rfl rfl rfl rfl) rfl rfl ?_
      refine RegL.done ?_
      refine EvtL.ret (InlQ.same rfl (res_cellA rfl ag_24 sz_24 rfl (Nat.le_of_ble_eq_true rfl) rfl) rfl rfl rfl rfl ?_)
      refine RegL.opN (OpL.storeS rfl sz_24 rfl rfl rfl rfl rfl rfl) rfl rfl ?_
      refine RegL.q (OpQ.assign rfl rfl) rfl rfl rfl ?_
      refine RegL.done ?_
      refine EvtL.ret ⟨.inl rfl, rfl, rfl, rfl, _, _, _, (res_cellA rfl ag_24 sz_24 rfl (Nat.le_of_ble_eq_true rfl) (res_tmp rfl rfl)), rfl, rfl, ?_⟩
      rfl
noncomputable def K13 := addC K12 6 (fun w : { w : List UInt8 // w.length ≤ 4000 } => [.str w.1]) (fun w => parseV w.1)
/-! ### the line of a command -/
def lineP (n : Nat) (t : List UInt8) : List UInt8 := if t = [] then wordL.getD n [] else wordL.getD n [] ++ ([32] ++ t)
theorem word_tw {n : Nat} (hn : 1 ≤ n ∧ n ≤ 9) (t : List UInt8) : tw notSp (wordL.getD n [] ++ (32 :: t)) = (wordL.getD n []).length := by
  have h : n = 1 ∨ n = 2 ∨ n = 3 ∨ n = 4 ∨ n = 5 ∨ n = 6 ∨ n = 7 ∨ n = 8 ∨ n = 9 := by omega
  rcases h with rfl | rfl | rfl | rfl | rfl | rfl | rfl | rfl | rfl <;> rfl
theorem word_tw0 {n : Nat} (hn : 1 ≤ n ∧ n ≤ 9) : tw notSp (wordL.getD n []) = (wordL.getD n []).length := by
  have h : n = 1 ∨ n = 2 ∨ n = 3 ∨ n = 4 ∨ n = 5 ∨ n = 6 ∨ n = 7 ∨ n = 8 ∨ n = 9 := by omega
  rcases h with rfl | rfl | rfl | rfl | rfl | rfl | rfl | rfl | rfl <;> decide
theorem line_facts {n : Nat} (hn : 1 ≤ n ∧ n ≤ 9) (t : List UInt8) : (lineP n t).take (tw notSp (lineP n t)) = wordL.getD n [] ∧ (lineP n t).drop (tw notSp (lineP n t) + 1) = t ∧ decide (tw notSp (lineP n t) < (lineP n t).length) = decide (t ≠ []) := by
  have hF : (lineP n t).take (tw notSp (lineP n t)) = wordL.getD n [] := by
    unfold lineP
    split
    · rw [word_tw0 hn, List.take_length]
    · rw [show wordL.getD n [] ++ ([32] ++ t) = wordL.getD n [] ++ (32 :: t) from rfl, word_tw hn, List.take_left']; rfl
  have hD : (lineP n t).drop (tw notSp (lineP n t) + 1) = t := by
    unfold lineP
    split
    · rename_i h
      rw [word_tw0 hn, List.drop_eq_nil_of_le (by omega), h]
    · rw [show wordL.getD n [] ++ ([32] ++ t) = wordL.getD n [] ++ (32 :: t) from rfl, word_tw hn, ← List.drop_drop, List.drop_left' rfl]; rfl
  have hL : decide (tw notSp (lineP n t) < (lineP n t).length) = decide (t ≠ []) := by
    unfold lineP
    split
    · rename_i h
      rw [word_tw0 hn, h]; exact decide_eq_decide.2 ⟨fun h => absurd h (Nat.lt_irrefl _), fun h => absurd rfl h⟩
    · rename_i h
      rw [show wordL.getD n [] ++ ([32] ++ t) = wordL.getD n [] ++ (32 :: t) from rfl, word_tw hn]
      exact decide_eq_decide.2 ⟨fun _ => h, fun _ => by rw [List.length_append, List.length_cons]; omega⟩
  exact ⟨hF, hD, hL⟩
theorem parsedV_line {n : Nat} (hn : 1 ≤ n ∧ n ≤ 9) (t : List UInt8) : parsedV (lineP n t) = if textV n t = true then ifaceV n t else .niliface := by
  obtain ⟨hF, hD, hL⟩ := line_facts hn t
  rw [parsedV_word hF hn, hL]
  unfold restS
  rw [hD]
  by_cases hv : hasV n = true
  · rw [if_pos hv, hv]
    by_cases ht : t = []
    · subst ht
      have : textV n [] = false := by unfold textV; rw [if_pos hv]; rfl
      rw [this]; simp
    · rw [decide_eq_true ht]; simp
  · have hv' : hasV n = false := by simpa using hv
    rw [if_neg hv, hv']
    have he : ∀ w, textV n w = bytesEq w [] := fun w => by unfold textV; rw [if_neg hv]
    rw [he, he, bytesEq_iff, bytesEq_iff]
    by_cases ht : t = []
    · subst ht; rfl
    · rw [decide_eq_false (show ¬ t = [] from ht), decide_eq_true (show t ≠ [] from ht)]; rfl
theorem lineP_line {n : Nat} (hn : 1 ≤ n ∧ n ≤ 9) {t : List UInt8} (ht : textV n t = true) : lineP n t = lineS n t := by
  unfold lineP lineS
  by_cases hv : hasV n = true
  · rw [if_pos hv, if_neg]
    rintro rfl
    rw [show textV n [] = false by unfold textV; rw [if_pos hv]; rfl] at ht
    cases ht
  · rw [if_neg hv, if_pos]
    unfold textV at ht
    rw [if_neg hv, bytesEq_iff] at ht
    exact of_decide_eq_true ht
end Go.Proofs.YtmcjglkpjfnfcaaGreat

/- The kinds of commands, made. -/
open Go Am
namespace Go.Proofs.YtmcjglkpjfnfcaaGreat
section
variable {K : FuncId → List AV → Option AV}
theorem made1_to (t : List UInt8) (hK : K 85 = fun _ => none) : CallTo (EK K) 85 [.agg [.str t]] S0 (.agg [.int .i64 1, .str t]) := by
  refine CallTo.s0 (fn := Tryz.f85) rfl (by show K 85 _ = none; rw [hK]) (by kernel_rfl) rfl rfl rfl rfl ?_
  refine EvtL.seqReg ?_
  refine RegL.op (OpL.boxS 1 rfl rfl rfl rfl) rfl rfl rfl ?_
  refine RegL.op (OpL.allocS 2 rfl z_24 rfl) rfl rfl rfl ?_
  refine RegL.done ?_
  refine EvtL.seqReg ?_
  refine RegL.q (OpQ.fieldAddr rfl f_106_0 rfl) rfl rfl rfl ?_
  refine RegL.op (OpL.loadS1 rfl ag_9 sz_9 rfl rfl rfl) rfl rfl rfl ?_
  refine RegL.q (OpQ.build rfl pl_24 rfl rfl) rfl rfl rfl ?_
  refine RegL.opN (OpL.storeS rfl sz_24 rfl rfl rfl rfl rfl rfl) rfl rfl ?_
  refine RegL.done ?_
  refine EvtL.ret ⟨.inl rfl, rfl, rfl, rfl, _, _, _, (res_cellA rfl ag_24 sz_24 rfl (Nat.le_of_ble_eq_true rfl) rfl), rfl, rfl, ?_⟩
  rfl
theorem made2_to (t : List UInt8) (hK : K 347 = fun _ => none) : CallTo (EK K) 347 [.agg [.str t]] S0 (.agg [.int .i64 2, .str t]) := by
  refine CallTo.s0 (fn := Tryz.f347) rfl (by show K 347 _ = none; rw [hK]) (by kernel_rfl) rfl rfl rfl rfl ?_
  refine EvtL.seqReg ?_
  refine RegL.op (OpL.boxS 1 rfl rfl rfl rfl) rfl rfl rfl ?_
  refine RegL.op (OpL.allocS 2 rfl z_24 rfl) rfl rfl rfl ?_
  refine RegL.done ?_
  refine EvtL.seqReg ?_
  refine RegL.q (OpQ.fieldAddr rfl f_107_0 rfl) rfl rfl rfl ?_
  refine RegL.op (OpL.loadS1 rfl ag_9 sz_9 rfl rfl rfl) rfl rfl rfl ?_
  refine RegL.q (OpQ.build rfl pl_24 rfl rfl) rfl rfl rfl ?_
  refine RegL.opN (OpL.storeS rfl sz_24 rfl rfl rfl rfl rfl rfl) rfl rfl ?_
  refine RegL.done ?_
  refine EvtL.ret ⟨.inl rfl, rfl, rfl, rfl, _, _, _, (res_cellA rfl ag_24 sz_24 rfl (Nat.le_of_ble_eq_true rfl) rfl), rfl, rfl, ?_⟩
  rfl
theorem made3_to (t : List UInt8) (hK : K 373 = fun _ => none) : CallTo (EK K) 373 [.agg [.str t]] S0 (.agg [.int .i64 3, .str t]) := by
  refine CallTo.s0 (fn := Tryz.f373) rfl (by show K 373 _ = none; rw [hK]) (by kernel_rfl) rfl rfl rfl rfl ?_
  refine EvtL.seqReg ?_
  refine RegL.op (OpL.boxS 1 rfl rfl rfl rfl) rfl rfl rfl ?_
  refine RegL.op (OpL.allocS 2 rfl z_24 rfl) rfl rfl rfl ?_
  refine RegL.done ?_
  refine EvtL.seqReg ?_
  refine RegL.q (OpQ.fieldAddr rfl f_108_0 rfl) rfl rfl rfl ?_
  refine RegL.op (OpL.loadS1 rfl ag_9 sz_9 rfl rfl rfl) rfl rfl rfl ?_
  refine RegL.q (OpQ.build rfl pl_24 rfl rfl) rfl rfl rfl ?_
  refine RegL.opN (OpL.storeS rfl sz_24 rfl rfl rfl rfl rfl rfl) rfl rfl ?_
  refine RegL.done ?_
  refine EvtL.ret ⟨.inl rfl, rfl, rfl, rfl, _, _, _, (res_cellA rfl ag_24 sz_24 rfl (Nat.le_of_ble_eq_true rfl) rfl), rfl, rfl, ?_⟩
  rfl
theorem made4_to (hK : K 379 = fun _ => none) : CallTo (EK K) 379 [.agg []] S0 (.agg [.int .i64 4, .str []]) := by
  refine CallTo.s0 (fn := Tryz.f379) rfl (by show K 379 _ = none; rw [hK]) (by kernel_rfl) rfl rfl rfl rfl ?_
  refine EvtL.seqReg ?_
  refine RegL.op (OpL.boxS 1 rfl rfl rfl rfl) rfl rfl rfl ?_
  refine RegL.op (OpL.allocS 2 rfl z_24 rfl) rfl rfl rfl ?_
  refine RegL.done ?_
  refine EvtL.seqReg ?_
  refine RegL.q (OpQ.build rfl pl_24 rfl rfl) rfl rfl rfl ?_
  refine RegL.opN (OpL.storeS rfl sz_24 rfl rfl rfl rfl rfl rfl) rfl rfl ?_
  refine RegL.done ?_
  refine EvtL.ret ⟨.inl rfl, rfl, rfl, rfl, _, _, _, (res_cellA rfl ag_24 sz_24 rfl (Nat.le_of_ble_eq_true rfl) rfl), rfl, rfl, ?_⟩
  rfl
theorem made5_to (hK : K 494 = fun _ => none) : CallTo (EK K) 494 [.agg []] S0 (.agg [.int .i64 5, .str []]) := by
  refine CallTo.s0 (fn := Tryz.f494) rfl (by show K 494 _ = none; rw [hK]) (by kernel_rfl) rfl rfl rfl rfl ?_
  refine EvtL.seqReg ?_
  refine RegL.op (OpL.boxS 1 rfl rfl rfl rfl) rfl rfl rfl ?_
  refine RegL.op (OpL.allocS 2 rfl z_24 rfl) rfl rfl rfl ?_
  refine RegL.done ?_
  refine EvtL.seqReg ?_
  refine RegL.q (OpQ.build rfl pl_24 rfl rfl) rfl rfl rfl ?_
  refine RegL.opN (OpL.storeS rfl sz_24 rfl rfl rfl rfl rfl rfl) rfl rfl ?_
  refine RegL.done ?_
  refine EvtL.ret ⟨.inl rfl, rfl, rfl, rfl, _, _, _, (res_cellA rfl ag_24 sz_24 rfl (Nat.le_of_ble_eq_true rfl) rfl), rfl, rfl, ?_⟩
  rfl
theorem made6_to (hK : K 496 = fun _ => none) : CallTo (EK K) 496 [.agg []] S0 (.agg [.int .i64 6, .str []]) := by
  refine CallTo.s0 (fn := Tryz.f496) rfl (by show K 496 _ = none; rw [hK]) (by kernel_rfl) rfl rfl rfl rfl ?_
  refine EvtL.seqReg ?_
  refine RegL.op (OpL.boxS 1 rfl rfl rfl rfl) rfl rfl rfl ?_
  refine RegL.op (OpL.allocS 2 rfl z_24 rfl) rfl rfl rfl ?_
  refine RegL.done ?_
  refine EvtL.seqReg ?_
  refine RegL.q (OpQ.build rfl pl_24 rfl rfl) rfl rfl rfl ?_
  refine RegL.opN (OpL.storeS rfl sz_24 rfl rfl rfl rfl rfl rfl) rfl rfl ?_
  refine RegL.done ?_
  refine EvtL.ret ⟨.inl rfl, rfl, rfl, rfl, _, _, _, (res_cellA rfl ag_24 sz_24 rfl (Nat.le_of_ble_eq_true rfl) rfl), rfl, rfl, ?_⟩
  rfl
theorem made7_to (hK : K 514 = fun _ => none) : CallTo (EK K) 514 [.agg []] S0 (.agg [.int .i64 7, .str []]) := by
  refine CallTo.s0 (fn := Tryz.f514) rfl (by show K 514 _ = none; rw [hK]) (by kernel_rfl) rfl rfl rfl rfl ?_
  refine EvtL.seqReg ?_
  refine RegL.op (OpL.boxS 1 rfl rfl rfl rfl) rfl rfl rfl ?_
  refine RegL.op (OpL.allocS 2 rfl z_24 rfl) rfl rfl rfl ?_
  refine RegL.done ?_
  refine EvtL.seqReg ?_
  refine RegL.q (OpQ.build rfl pl_24 rfl rfl) rfl rfl rfl ?_
  refine RegL.opN (OpL.storeS rfl sz_24 rfl rfl rfl rfl rfl rfl) rfl rfl ?_
  refine RegL.done ?_
  refine EvtL.ret ⟨.inl rfl, rfl, rfl, rfl, _, _, _, (res_cellA rfl ag_24 sz_24 rfl (Nat.le_of_ble_eq_true rfl) rfl), rfl, rfl, ?_⟩
  rfl
theorem made8_to (t : List UInt8) (hK : K 375 = fun _ => none) : CallTo (EK K) 375 [.agg [.str t]] S0 (.agg [.int .i64 8, .str t]) := by
  refine CallTo.s0 (fn := Tryz.f375) rfl (by show K 375 _ = none; rw [hK]) (by kernel_rfl) rfl rfl rfl rfl ?_
  refine EvtL.seqReg ?_
  refine RegL.op (OpL.boxS 1 rfl rfl rfl rfl) rfl rfl rfl ?_
  refine RegL.op (OpL.allocS 2 rfl z_24 rfl) rfl rfl rfl ?_
  refine RegL.done ?_
  refine EvtL.seqReg ?_
  refine RegL.q (OpQ.fieldAddr rfl f_109_0 rfl) rfl rfl rfl ?_
  refine RegL.op (OpL.loadS1 rfl ag_9 sz_9 rfl rfl rfl) rfl rfl rfl ?_
  refine RegL.q (OpQ.build rfl pl_24 rfl rfl) rfl rfl rfl ?_
  refine RegL.opN (OpL.storeS rfl sz_24 rfl rfl rfl rfl rfl rfl) rfl rfl ?_
  refine RegL.done ?_
  refine EvtL.ret ⟨.inl rfl, rfl, rfl, rfl, _, _, _, (res_cellA rfl ag_24 sz_24 rfl (Nat.le_of_ble_eq_true rfl) rfl), rfl, rfl, ?_⟩
  rfl
theorem made9_to (hK : K 516 = fun _ => none) : CallTo (EK K) 516 [.agg []] S0 (.agg [.int .i64 9, .str []]) := by
  refine CallTo.s0 (fn := Tryz.f516) rfl (by show K 516 _ = none; rw [hK]) (by kernel_rfl) rfl rfl rfl rfl ?_
  refine EvtL.seqReg ?_
  refine RegL.op (OpL.boxS 1 rfl rfl rfl rfl) rfl rfl rfl ?_
  refine RegL.op (OpL.allocS 2 rfl z_24 rfl) rfl rfl rfl ?_
  refine RegL.done ?_
  refine EvtL.seqReg ?_
  refine RegL.q (OpQ.build rfl pl_24 rfl rfl) rfl rfl rfl ?_
  refine RegL.opN (OpL.storeS rfl sz_24 rfl rfl rfl rfl rfl rfl) rfl rfl ?_
  refine RegL.done ?_
  refine EvtL.ret ⟨.inl rfl, rfl, rfl, rfl, _, _, _, (res_cellA rfl ag_24 sz_24 rfl (Nat.le_of_ble_eq_true rfl) rfl), rfl, rfl, ?_⟩
  rfl
end
noncomputable def M1 := addC K13 85 (fun t : List UInt8 => [.agg [.str t]]) (fun t => .agg [.int .i64 1, .str t])
theorem hit_85 {t : List UInt8} : M1 85 [.agg [.str t]] = some (.agg [.int .i64 1, .str t]) := addC_hit (f := 85) (enc := fun t : List UInt8 => [.agg [.str t]]) (res := fun t => .agg [.int .i64 1, .str t]) (by intro a b h; cases h; rfl) t
noncomputable def M2 := addC M1 347 (fun t : List UInt8 => [.agg [.str t]]) (fun t => .agg [.int .i64 2, .str t])
theorem hit_347 {t : List UInt8} : M2 347 [.agg [.str t]] = some (.agg [.int .i64 2, .str t]) := addC_hit (f := 347) (enc := fun t : List UInt8 => [.agg [.str t]]) (res := fun t => .agg [.int .i64 2, .str t]) (by intro a b h; cases h; rfl) t
noncomputable def M3 := addC M2 373 (fun t : List UInt8 => [.agg [.str t]]) (fun t => .agg [.int .i64 3, .str t])
theorem hit_373 {t : List UInt8} : M3 373 [.agg [.str t]] = some (.agg [.int .i64 3, .str t]) := addC_hit (f := 373) (enc := fun t : List UInt8 => [.agg [.str t]]) (res := fun t => .agg [.int .i64 3, .str t]) (by intro a b h; cases h; rfl) t
noncomputable def M4 := addC M3 379 (fun _ : Unit => [.agg []]) (fun _ => .agg [.int .i64 4, .str []])
theorem hit_379 : M4 379 [.agg []] = some (.agg [.int .i64 4, .str []]) := addC_hit (f := 379) (enc := fun _ : Unit => [.agg []]) (res := fun _ => .agg [.int .i64 4, .str []]) (by intro a b h; cases h; rfl) ()
noncomputable def M5 := addC M4 494 (fun _ : Unit => [.agg []]) (fun _ => .agg [.int .i64 5, .str []])
theorem hit_494 : M5 494 [.agg []] = some (.agg [.int .i64 5, .str []]) := addC_hit (f := 494) (enc := fun _ : Unit => [.agg []]) (res := fun _ => .agg [.int .i64 5, .str []]) (by intro a b h; cases h; rfl) ()
noncomputable def M6 := addC M5 496 (fun _ : Unit => [.agg []]) (fun _ => .agg [.int .i64 6, .str []])
theorem hit_496 : M6 496 [.agg []] = some (.agg [.int .i64 6, .str []]) := addC_hit (f := 496) (enc := fun _ : Unit => [.agg []]) (res := fun _ => .agg [.int .i64 6, .str []]) (by intro a b h; cases h; rfl) ()
noncomputable def M7 := addC M6 514 (fun _ : Unit => [.agg []]) (fun _ => .agg [.int .i64 7, .str []])
theorem hit_514 : M7 514 [.agg []] = some (.agg [.int .i64 7, .str []]) := addC_hit (f := 514) (enc := fun _ : Unit => [.agg []]) (res := fun _ => .agg [.int .i64 7, .str []]) (by intro a b h; cases h; rfl) ()
noncomputable def M8 := addC M7 375 (fun t : List UInt8 => [.agg [.str t]]) (fun t => .agg [.int .i64 8, .str t])
theorem hit_375 {t : List UInt8} : M8 375 [.agg [.str t]] = some (.agg [.int .i64 8, .str t]) := addC_hit (f := 375) (enc := fun t : List UInt8 => [.agg [.str t]]) (res := fun t => .agg [.int .i64 8, .str t]) (by intro a b h; cases h; rfl) t
noncomputable def M9 := addC M8 516 (fun _ : Unit => [.agg []]) (fun _ => .agg [.int .i64 9, .str []])
theorem hit_516 : M9 516 [.agg []] = some (.agg [.int .i64 9, .str []]) := addC_hit (f := 516) (enc := fun _ : Unit => [.agg []]) (res := fun _ => .agg [.int .i64 9, .str []]) (by intro a b h; cases h; rfl) ()
end Go.Proofs.YtmcjglkpjfnfcaaGreat

/- The package's Print. -/
open Go Am
namespace Go.Proofs.YtmcjglkpjfnfcaaGreat
theorem printV_no {k : Int} {t : List UInt8} (h : cmdV k t = false) : printV k t = .tuple [.str [], .int .i64 2] := by
  unfold printV
  rw [if_neg (by rw [h]; exact Bool.false_ne_true)]
theorem word_get {n : Nat} (h : n < 10) : (wordL.map AV.str)[n * (0 + 1)]? = some (.str (wordL.getD n [])) := by
  have h' : n < wordL.length := h
  rw [Nat.zero_add, Nat.mul_one, List.getElem?_map, List.getD, List.getElem?_eq_getElem h']; rfl
theorem printV_ok {n : Nat} {t : List UInt8} (hn : 1 ≤ n ∧ n ≤ 9) (ht : textV n t = true) : printV n t = if 3000 < (lineP n t).length then .tuple [.str [], .int .i64 3] else .tuple [.str (lineP n t), .int .i64 0] := by
  unfold printV
  rw [if_pos (by unfold cmdV; rw [ht, decide_eq_true (show (1 : Int) ≤ n by omega), decide_eq_true (show (n : Int) ≤ 9 by omega)]; rfl), lineP_line hn ht]; rfl
theorem eqZip_cons {d : TypeDesc} {l : List TypeDesc} {a b : AV} {x y : List AV} (h : eqD d a b = some true) : eqZip (d :: l) (a :: x) (b :: y) = eqZip l x y := by
  show (eqD d a b).bind _ = _
  rw [h]; rfl
theorem cmd_same (k : Int) (t : List UInt8) : eqKd (.flat [.int .i64, .string]) (.agg [.int .i64 k, .str t]) (.agg [.int .i64 k, .str t]) = some true := by
  show eqZip [.int .i64, .string] [.int .i64 k, .str t] [.int .i64 k, .str t] = _
  rw [eqZip_cons (show eqD (.int .i64) (.int .i64 k) (.int .i64 k) = some true by
    show (if IntKind.i64 = IntKind.i64 then some (decide (k = k)) else none) = _
    rw [if_pos rfl, decide_eq_true rfl]), eqZip_cons (show eqD .string (.str t) (.str t) = some true by
    show some (bytesEq t t) = _
    rw [bytesEq_iff, decide_eq_true rfl])]
  rfl
theorem cmd_ne (k : Int) (t : List UInt8) : boolV true (eqKd (.flat [.int .i64, .string]) (.agg [.int .i64 k, .str t]) (.agg [.int .i64 k, .str t])) = some (.bool false) := by
  rw [cmd_same]; rfl
theorem print_to (k : Int) (t : List UInt8) (hw : t.length ≤ 3900) : CallTo (EK M9) 8 [.agg [.int .i64 k, .str t]] S0 (printV k t) := by
  by_cases hk : 1 ≤ k ∧ k ≤ 9
  · obtain ⟨n, rfl⟩ : ∃ n : Nat, k = n := ⟨k.toNat, by omega⟩
    have hwl := word_len n
    refine CallTo.s0 (fn := Tryz.f8) rfl rfl (by kernel_rfl) rfl rfl rfl rfl ?_
    focus
      refine EvtL.seqReg ?_
      refine RegL.op (OpL.boxS 1 rfl rfl rfl rfl) rfl rfl rfl ?_
      refine RegL.q (OpQ.assign rfl rfl) rfl rfl rfl ?_
      refine RegL.q (OpQ.assign rfl rfl) rfl rfl rfl ?_
      refine RegL.done ?_
      refine EvtL.seq ?_
      refine EvtL.seqReg ?_
      refine RegL.q (OpQ.fieldAddr rfl f_24_0 rfl) rfl rfl rfl ?_
      refine RegL.op (OpL.loadS1 rfl ag_22 sz_22 rfl rfl rfl) rfl rfl rfl ?_
      refine RegL.q (OpQ.int2 rfl u_22 rfl rfl rfl rfl) rfl rfl rfl ?_
      refine RegL.q (OpQ.move rfl rfl) rfl rfl rfl ?_
      refine RegL.both rfl rfl rfl rfl (fun g1 => ?_) (fun g1 => ?_)
      have h1 := of_decide_eq_true g1
      exact absurd h1 (by omega)
      have h1 := of_decide_eq_false g1
      refine RegL.go rfl rfl rfl rfl (by assumption) (OpL.q (OpQ.fieldAddr rfl f_24_0 rfl)) rfl rfl ?_
      refine RegL.go rfl rfl rfl rfl (by assumption) (OpL.loadS1 rfl ag_22 sz_22 rfl rfl rfl) rfl rfl ?_
      refine RegL.go rfl rfl rfl rfl (by assumption) (OpL.q (OpQ.int2 rfl u_22 rfl rfl rfl rfl)) rfl rfl ?_
      refine RegL.q (OpQ.pickF rfl rfl (by assumption) rfl) rfl rfl rfl ?_
      refine RegL.done ?_
      refine EvtL.cond rfl (fun g2 => ?_) (fun g2 => ?_)
      have h2 := of_decide_eq_true g2
      exact absurd h2 (by omega)
      have h2 := of_decide_eq_false g2
      refine EvtL.skip ?_
      refine EvtL.seqDrawN (by kernel_rfl) ?_
      refine RegN.aG (OpA.callFn rfl rfl (by kernel_rfl) rfl (hit_18)) (.inl rfl) rfl rfl ?_
      refine RegN.qG (OpQ.fieldAddr rfl f_24_0 rfl) (.inl rfl) rfl rfl ?_
      refine RegN.loadS1 rfl ag_22 sz_22 rfl rfl rfl (by kernel_rfl) (.inl rfl) rfl rfl ?_
      rotate_left
    refine RegN.qG (OpQ.indexArr (k := n) rfl u_51 ag_9 sz_9 rfl rfl (by omega) (word_get (by omega))) (.inl rfl) rfl rfl ?_
    focus
      refine RegN.qG (OpQ.assign rfl rfl) (.inl rfl) rfl rfl ?_
      refine RegN.done ?_
      refine EvtL.seq ?_
      refine EvtL.seqReg ?_
      refine RegL.q (OpQ.fieldAddr rfl f_24_1 rfl) rfl rfl rfl ?_
      refine RegL.op (OpL.loadS1 rfl ag_9 sz_9 rfl rfl rfl) rfl rfl rfl ?_
      refine RegL.q (OpQ.str2 rfl u_9 rfl rfl rfl rfl) rfl rfl rfl ?_
      refine RegL.done ?_
      refine EvtL.cond rfl (fun g3 => ?_) (fun g3 => ?_)
      have h3 := bnT g3
      refine EvtL.reg ?_
      refine RegL.q (OpQ.move rfl rfl) rfl rfl rfl ?_
      refine RegL.q (OpQ.fieldAddr rfl f_24_1 rfl) rfl rfl rfl ?_
      refine RegL.op (OpL.loadS1 rfl ag_9 sz_9 rfl rfl rfl) rfl rfl rfl ?_
      refine RegL.op (OpL.buildSliceS 2 rfl u_32 sz_9 z_9 rfl rfl rfl rfl) rfl rfl rfl ?_
      refine RegL.inl (fn := Tryz.f19) (by kernel_rfl) (by kernel_rfl) rfl rfl rfl rfl rfl rfl rfl rfl rfl rfl rfl ?_
      refine EvtL.seqReg ?_
      refine RegL.q (OpQ.assign rfl rfl) rfl rfl rfl ?_
      refine RegL.done ?_
      refine EvtL.seqReg ?_
      refine RegL.q (OpQ.move rfl rfl) rfl rfl rfl ?_
      rotate_left
      have h3 := bnF g3
      refine EvtL.skip ?_
      refine EvtL.seqReg ?_
      refine RegL.q (OpQ.move rfl rfl) rfl rfl rfl ?_
      refine RegL.op (OpL.callFn rfl rfl (by kernel_rfl) rfl (CallTo.memo (hit_20 (by first | assumption | omega | (simp only [List.length_append, List.length_cons, List.length_nil, List.length_take, List.length_drop]; omega))))) rfl rfl rfl ?_
      refine RegL.q (OpQ.assign rfl rfl) rfl rfl rfl ?_
      refine RegL.done ?_
      refine EvtL.seq ?_
      refine EvtL.block ?_
      refine EvtL.seqDrawN (by kernel_rfl) ?_
      refine RegN.qG (OpQ.move rfl rfl) (.inl rfl) rfl rfl ?_
      rotate_left
    · have hv : StrsR (mkS 2 2 [] [(1, some (.cells [.str (wordL.getD n []), .str [32], .str t] 9 false)), (0, some (.cells [.int .i64 n, .str t] 24 false))]) (.slice 1 0 3 1 (some 3)) [wordL.getD n [], [32], t] :=
        .inr (.inr ⟨1, 0, some 3, _, _, _, rfl, Nat.lt_succ_self _, get_mkS 1, Nat.le_refl _, rfl, fun c hc => by cases hc; exact Nat.le_refl _⟩)
      have hs : sumL [wordL.getD n [], [32], t] = (wordL.getD n []).length + (1 + (t.length + 0)) := rfl
      refine RegL.callFn rfl rfl (by kernel_rfl) rfl rfl rfl rfl (join_run rfl rfl rfl rfl rfl rfl hv (by rw [hs]; show _ + 1 * 4 ≤ _; omega) ?_)
      have hj : joinS ({ data := #[] } : ByteArray).data.toList [wordL.getD n [], [32], t] = lineP n t := by
        unfold lineP joinS
        rw [if_neg h3]
        show _ ++ ([32] ++ (t ++ [])) = _
        rw [List.append_nil]
      have hl : (lineP n t).length ≤ 4000 := by
        unfold lineP
        rw [if_neg h3, List.length_append, List.length_append]
        show _ + (1 + _) ≤ _
        omega
      rw [hj]
      refine RegL.q (OpQ.assign rfl rfl) rfl rfl rfl ?_
      refine RegL.done ?_
      refine EvtL.ret (InlQ.same rfl (res_tmp rfl rfl) rfl rfl rfl rfl ?_)
      refine RegL.q (OpQ.assign rfl rfl) rfl rfl rfl ?_
      refine RegL.done ?_
      refine EvtL.seqReg ?_
      refine RegL.q (OpQ.move rfl rfl) rfl rfl rfl ?_
      refine RegL.op (OpL.callFn rfl rfl (by kernel_rfl) rfl (CallTo.memo (hit_20 (by first | assumption | omega | (simp only [List.length_append, List.length_cons, List.length_nil, List.length_take, List.length_drop]; omega))))) rfl rfl rfl ?_
      refine RegL.q (OpQ.assign rfl rfl) rfl rfl rfl ?_
      refine RegL.done ?_
      refine EvtL.seq ?_
      refine EvtL.block ?_
      refine EvtL.seqDrawN (by kernel_rfl) ?_
      refine RegN.qG (OpQ.move rfl rfl) (.inl rfl) rfl rfl ?_
      rw [parsedV_line (by omega)]
      by_cases ht : textV n t = true
      · rw [if_pos ht]
        have hp := printV_ok (n := n) (t := t) (by omega) ht
        have hp1 : 3000 < ((lineP n t).length : Int) → printV (n : Nat) t = .tuple [.str [], .int .i64 3] := fun h => by rw [hp, if_pos (by omega)]
        have hp2 : ¬ 3000 < ((lineP n t).length : Int) → printV (n : Nat) t = .tuple [.str (lineP n t), .int .i64 0] := fun h => by rw [hp, if_neg (by omega)]
        clear hp
        generalize lineP n t = L at *
        have hn : n = 1 ∨ n = 2 ∨ n = 3 ∨ n = 4 ∨ n = 5 ∨ n = 6 ∨ n = 7 ∨ n = 8 ∨ n = 9 := by omega
        rcases hn with rfl | rfl | rfl | rfl | rfl | rfl | rfl | rfl | rfl
        · have hc := cmd_ne 1 t
          unfold ifaceV
          focus
            refine RegN.qG (OpQ.eqIf (neg := false) rfl if_44 rfl rfl rfl) (.inl rfl) rfl rfl ?_
            refine RegN.qG (OpQ.move rfl rfl) (.inl rfl) rfl rfl ?_
            refine RegN.qG (OpQ.move rfl rfl) (guardOn_go rfl rfl rfl rfl rfl) rfl rfl ?_
            refine RegN.aG (OpA.invoke rfl rfl rfl rfl m_106_made (by kernel_rfl) (fun _ => rfl) (hit_85)) (guardOn_go rfl rfl rfl rfl rfl) rfl rfl ?_
            refine RegN.loadSA rfl ag_24 sz_24 rfl rfl (Nat.le_of_ble_eq_true rfl) (by kernel_rfl) (guardOn_go rfl rfl rfl rfl rfl) rfl rfl ?_
            refine RegN.qG (OpQ.eqStruct (neg := true) rfl st_24 kd_24 rfl rfl (by assumption)) (guardOn_go rfl rfl rfl rfl rfl) rfl rfl ?_
            refine RegN.qG (OpQ.pickF rfl rfl rfl rfl) (.inl rfl) rfl rfl ?_
            refine RegN.qG (OpQ.assign rfl rfl) (.inl rfl) rfl rfl ?_
            refine RegN.done ?_
            refine EvtL.condF rfl rfl ?_
            refine EvtL.seqReg ?_
            refine RegL.q (OpQ.move rfl rfl) rfl rfl rfl ?_
            refine RegL.q (OpQ.lenStr rfl rfl rfl rfl u_9 rfl) rfl rfl rfl ?_
            refine RegL.q (OpQ.int2 rfl u_3 rfl rfl rfl rfl) rfl rfl rfl ?_
            refine RegL.q (OpQ.assign rfl rfl) rfl rfl rfl ?_
            refine RegL.done ?_
            refine EvtL.cond rfl (fun g4 => ?_) (fun g4 => ?_)
            have h4 := of_decide_eq_true g4
            refine EvtL.seqReg ?_
            refine RegL.q (OpQ.assign rfl rfl) rfl rfl rfl ?_
            refine RegL.q (OpQ.assign rfl rfl) rfl rfl rfl ?_
            refine RegL.done ?_
            refine EvtL.ret ⟨.inl rfl, rfl, rfl, rfl, _, _, _, (res_tmp rfl (res_tmp rfl rfl)), rfl, rfl, ?_⟩
            rotate_left
            have h4 := of_decide_eq_false g4
            refine EvtL.skip ?_
            refine EvtL.seqReg ?_
            refine RegL.q (OpQ.move rfl rfl) rfl rfl rfl ?_
            refine RegL.q (OpQ.assign rfl rfl) rfl rfl rfl ?_
            refine RegL.q (OpQ.assign rfl rfl) rfl rfl rfl ?_
            refine RegL.done ?_
            refine EvtL.ret ⟨.inl rfl, rfl, rfl, rfl, _, _, _, (res_tmp rfl (res_tmp rfl rfl)), rfl, rfl, ?_⟩
            rotate_left
          · exact (hp1 h4).symm
          · exact (hp2 h4).symm
        · have hc := cmd_ne 2 t
          unfold ifaceV
          focus
            refine RegN.qG (OpQ.eqIf (neg := false) rfl if_44 rfl rfl rfl) (.inl rfl) rfl rfl ?_
            refine RegN.qG (OpQ.move rfl rfl) (.inl rfl) rfl rfl ?_
            refine RegN.qG (OpQ.move rfl rfl) (guardOn_go rfl rfl rfl rfl rfl) rfl rfl ?_
            refine RegN.aG (OpA.invoke rfl rfl rfl rfl m_107_made (by kernel_rfl) (fun _ => rfl) (hit_347)) (guardOn_go rfl rfl rfl rfl rfl) rfl rfl ?_
            refine RegN.loadSA rfl ag_24 sz_24 rfl rfl (Nat.le_of_ble_eq_true rfl) (by kernel_rfl) (guardOn_go rfl rfl rfl rfl rfl) rfl rfl ?_
            refine RegN.qG (OpQ.eqStruct (neg := true) rfl st_24 kd_24 rfl rfl (by assumption)) (guardOn_go rfl rfl rfl rfl rfl) rfl rfl ?_
            refine RegN.qG (OpQ.pickF rfl rfl rfl rfl) (.inl rfl) rfl rfl ?_
            refine RegN.qG (OpQ.assign rfl rfl) (.inl rfl) rfl rfl ?_
            refine RegN.done ?_
            refine EvtL.condF rfl rfl ?_
            refine EvtL.seqReg ?_
            refine RegL.q (OpQ.move rfl rfl) rfl rfl rfl ?_
            refine RegL.q (OpQ.lenStr rfl rfl rfl rfl u_9 rfl) rfl rfl rfl ?_
            refine RegL.q (OpQ.int2 rfl u_3 rfl rfl rfl rfl) rfl rfl rfl ?_
            refine RegL.q (OpQ.assign rfl rfl) rfl rfl rfl ?_
            refine RegL.done ?_
            refine EvtL.cond rfl (fun g4 => ?_) (fun g4 => ?_)
            have h4 := of_decide_eq_true g4
            refine EvtL.seqReg ?_
            refine RegL.q (OpQ.assign rfl rfl) rfl rfl rfl ?_
            refine RegL.q (OpQ.assign rfl rfl) rfl rfl rfl ?_
            refine RegL.done ?_
            refine EvtL.ret ⟨.inl rfl, rfl, rfl, rfl, _, _, _, (res_tmp rfl (res_tmp rfl rfl)), rfl, rfl, ?_⟩
            rotate_left
            have h4 := of_decide_eq_false g4
            refine EvtL.skip ?_
            refine EvtL.seqReg ?_
            refine RegL.q (OpQ.move rfl rfl) rfl rfl rfl ?_
            refine RegL.q (OpQ.assign rfl rfl) rfl rfl rfl ?_
            refine RegL.q (OpQ.assign rfl rfl) rfl rfl rfl ?_
            refine RegL.done ?_
            refine EvtL.ret ⟨.inl rfl, rfl, rfl, rfl, _, _, _, (res_tmp rfl (res_tmp rfl rfl)), rfl, rfl, ?_⟩
            rotate_left
          · exact (hp1 h4).symm
          · exact (hp2 h4).symm
        · have hc := cmd_ne 3 t
          unfold ifaceV
          focus
            refine RegN.qG (OpQ.eqIf (neg := false) rfl if_44 rfl rfl rfl) (.inl rfl) rfl rfl ?_
            refine RegN.qG (OpQ.move rfl rfl) (.inl rfl) rfl rfl ?_
            refine RegN.qG (OpQ.move rfl rfl) (guardOn_go rfl rfl rfl rfl rfl) rfl rfl ?_
            refine RegN.aG (OpA.invoke rfl rfl rfl rfl m_108_made (by kernel_rfl) (fun _ => rfl) (hit_373)) (guardOn_go rfl rfl rfl rfl rfl) rfl rfl ?_
            refine RegN.loadSA rfl ag_24 sz_24 rfl rfl (Nat.le_of_ble_eq_true rfl) (by kernel_rfl) (guardOn_go rfl rfl rfl rfl rfl) rfl rfl ?_
            refine RegN.qG (OpQ.eqStruct (neg := true) rfl st_24 kd_24 rfl rfl (by assumption)) (guardOn_go rfl rfl rfl rfl rfl) rfl rfl ?_
            refine RegN.qG (OpQ.pickF rfl rfl rfl rfl) (.inl rfl) rfl rfl ?_
            refine RegN.qG (OpQ.assign rfl rfl) (.inl rfl) rfl rfl ?_
            refine RegN.done ?_
            refine EvtL.condF rfl rfl ?_
            refine EvtL.seqReg ?_
            refine RegL.q (OpQ.move rfl rfl) rfl rfl rfl ?_
            refine RegL.q (OpQ.lenStr rfl rfl rfl rfl u_9 rfl) rfl rfl rfl ?_
            refine RegL.q (OpQ.int2 rfl u_3 rfl rfl rfl rfl) rfl rfl rfl ?_
            refine RegL.q (OpQ.assign rfl rfl) rfl rfl rfl ?_
            refine RegL.done ?_
            refine EvtL.cond rfl (fun g4 => ?_) (fun g4 => ?_)
            have h4 := of_decide_eq_true g4
            refine EvtL.seqReg ?_
            refine RegL.q (OpQ.assign rfl rfl) rfl rfl rfl ?_
            refine RegL.q (OpQ.assign rfl rfl) rfl rfl rfl ?_
            refine RegL.done ?_
            refine EvtL.ret ⟨.inl rfl, rfl, rfl, rfl, _, _, _, (res_tmp rfl (res_tmp rfl rfl)), rfl, rfl, ?_⟩
            rotate_left
            have h4 := of_decide_eq_false g4
            refine EvtL.skip ?_
            refine EvtL.seqReg ?_
            refine RegL.q (OpQ.move rfl rfl) rfl rfl rfl ?_
            refine RegL.q (OpQ.assign rfl rfl) rfl rfl rfl ?_
            refine RegL.q (OpQ.assign rfl rfl) rfl rfl rfl ?_
            refine RegL.done ?_
            refine EvtL.ret ⟨.inl rfl, rfl, rfl, rfl, _, _, _, (res_tmp rfl (res_tmp rfl rfl)), rfl, rfl, ?_⟩
            rotate_left
          · exact (hp1 h4).symm
          · exact (hp2 h4).symm
        · exact absurd (of_decide_eq_true ((bytesEq_iff ..).symm.trans ht)) h3
        · exact absurd (of_decide_eq_true ((bytesEq_iff ..).symm.trans ht)) h3
        · exact absurd (of_decide_eq_true ((bytesEq_iff ..).symm.trans ht)) h3
        · exact absurd (of_decide_eq_true ((bytesEq_iff ..).symm.trans ht)) h3
        · have hc := cmd_ne 8 t
          unfold ifaceV
          focus
            refine RegN.qG (OpQ.eqIf (neg := false) rfl if_44 rfl rfl rfl) (.inl rfl) rfl rfl ?_
            refine RegN.qG (OpQ.move rfl rfl) (.inl rfl) rfl rfl ?_
            refine RegN.qG (OpQ.move rfl rfl) (guardOn_go rfl rfl rfl rfl rfl) rfl rfl ?_
            refine RegN.aG (OpA.invoke rfl rfl rfl rfl m_109_made (by kernel_rfl) (fun _ => rfl) (hit_375)) (guardOn_go rfl rfl rfl rfl rfl) rfl rfl ?_
            refine RegN.loadSA rfl ag_24 sz_24 rfl rfl (Nat.le_of_ble_eq_true rfl) (by kernel_rfl) (guardOn_go rfl rfl rfl rfl rfl) rfl rfl ?_
            refine RegN.qG (OpQ.eqStruct (neg := true) rfl st_24 kd_24 rfl rfl (by assumption)) (guardOn_go rfl rfl rfl rfl rfl) rfl rfl ?_
            refine RegN.qG (OpQ.pickF rfl rfl rfl rfl) (.inl rfl) rfl rfl ?_
            refine RegN.qG (OpQ.assign rfl rfl) (.inl rfl) rfl rfl ?_
            refine RegN.done ?_
            refine EvtL.condF rfl rfl ?_
            refine EvtL.seqReg ?_
            refine RegL.q (OpQ.move rfl rfl) rfl rfl rfl ?_
            refine RegL.q (OpQ.lenStr rfl rfl rfl rfl u_9 rfl) rfl rfl rfl ?_
            refine RegL.q (OpQ.int2 rfl u_3 rfl rfl rfl rfl) rfl rfl rfl ?_
            refine RegL.q (OpQ.assign rfl rfl) rfl rfl rfl ?_
            refine RegL.done ?_
            refine EvtL.cond rfl (fun g4 => ?_) (fun g4 => ?_)
            have h4 := of_decide_eq_true g4
            refine EvtL.seqReg ?_
            refine RegL.q (OpQ.assign rfl rfl) rfl rfl rfl ?_
            refine RegL.q (OpQ.assign rfl rfl) rfl rfl rfl ?_
            refine RegL.done ?_
            refine EvtL.ret ⟨.inl rfl, rfl, rfl, rfl, _, _, _, (res_tmp rfl (res_tmp rfl rfl)), rfl, rfl, ?_⟩
            rotate_left
            have h4 := of_decide_eq_false g4
            refine EvtL.skip ?_
            refine EvtL.seqReg ?_
            refine RegL.q (OpQ.move rfl rfl) rfl rfl rfl ?_
            refine RegL.q (OpQ.assign rfl rfl) rfl rfl rfl ?_
            refine RegL.q (OpQ.assign rfl rfl) rfl rfl rfl ?_
            refine RegL.done ?_
            refine EvtL.ret ⟨.inl rfl, rfl, rfl, rfl, _, _, _, (res_tmp rfl (res_tmp rfl rfl)), rfl, rfl, ?_⟩
            rotate_left
          · exact (hp1 h4).symm
          · exact (hp2 h4).symm
        · exact absurd (of_decide_eq_true ((bytesEq_iff ..).symm.trans ht)) h3
      · rw [if_neg ht]
        refine RegN.qG (OpQ.eqIf (neg := false) rfl if_44 rfl rfl rfl) (.inl rfl) rfl rfl ?_
        refine RegN.qG (OpQ.move rfl rfl) (.inl rfl) rfl rfl ?_
        refine RegN.skip rfl rfl rfl rfl rfl rfl rfl ?_
        refine RegN.skip rfl rfl rfl rfl rfl rfl rfl ?_
        refine RegN.skip rfl rfl rfl rfl rfl rfl rfl ?_
        refine RegN.skip rfl rfl rfl rfl rfl rfl rfl ?_
        refine RegN.qG (OpQ.pickT rfl rfl rfl rfl) (.inl rfl) rfl rfl ?_
        refine RegN.qG (OpQ.assign rfl rfl) (.inl rfl) rfl rfl ?_
        refine RegN.done ?_
        refine EvtL.condT rfl rfl ?_
        refine EvtL.seqReg ?_
        refine RegL.q (OpQ.assign rfl rfl) rfl rfl rfl ?_
        refine RegL.q (OpQ.assign rfl rfl) rfl rfl rfl ?_
        refine RegL.done ?_
        refine EvtL.ret ⟨.inl rfl, rfl, rfl, rfl, _, _, _, (res_tmp rfl (res_tmp rfl rfl)), rfl, rfl, ?_⟩
        rw [printV_no (by unfold cmdV; simp only [Bool.not_eq_true] at ht; rw [ht, Bool.and_false])]
    · have h3' : t = [] := h3
      subst h3'
      have hl : wordL.getD n [] = lineP n [] := rfl
      skip
      rw [hl, parsedV_line (by omega)]
      by_cases ht : textV n [] = true
      · rw [if_pos ht]
        have hp := printV_ok (n := n) (t := []) (by omega) ht
        have hp1 : 3000 < ((lineP n []).length : Int) → printV (n : Nat) [] = .tuple [.str [], .int .i64 3] := fun h => by rw [hp, if_pos (by omega)]
        have hp2 : ¬ 3000 < ((lineP n []).length : Int) → printV (n : Nat) [] = .tuple [.str (lineP n []), .int .i64 0] := fun h => by rw [hp, if_neg (by omega)]
        clear hp
        clear hl
        generalize lineP n [] = L at *
        have hn : n = 1 ∨ n = 2 ∨ n = 3 ∨ n = 4 ∨ n = 5 ∨ n = 6 ∨ n = 7 ∨ n = 8 ∨ n = 9 := by omega
        rcases hn with rfl | rfl | rfl | rfl | rfl | rfl | rfl | rfl | rfl
        · cases ht
        · cases ht
        · cases ht
        · have hc := cmd_ne 4 []
          unfold ifaceV
          focus
            refine RegN.qG (OpQ.eqIf (neg := false) rfl if_44 rfl rfl rfl) (.inl rfl) rfl rfl ?_
            refine RegN.qG (OpQ.move rfl rfl) (.inl rfl) rfl rfl ?_
            refine RegN.qG (OpQ.move rfl rfl) (guardOn_go rfl rfl rfl rfl rfl) rfl rfl ?_
            refine RegN.aG (OpA.invoke rfl rfl rfl rfl m_112_made (by kernel_rfl) (fun _ => rfl) (hit_379)) (guardOn_go rfl rfl rfl rfl rfl) rfl rfl ?_
            refine RegN.loadSA rfl ag_24 sz_24 rfl rfl (Nat.le_of_ble_eq_true rfl) (by kernel_rfl) (guardOn_go rfl rfl rfl rfl rfl) rfl rfl ?_
            refine RegN.qG (OpQ.eqStruct (neg := true) rfl st_24 kd_24 rfl rfl rfl) (guardOn_go rfl rfl rfl rfl rfl) rfl rfl ?_
            refine RegN.qG (OpQ.pickF rfl rfl rfl rfl) (.inl rfl) rfl rfl ?_
            refine RegN.qG (OpQ.assign rfl rfl) (.inl rfl) rfl rfl ?_
            refine RegN.done ?_
            refine EvtL.condF rfl rfl ?_
            refine EvtL.seqReg ?_
            refine RegL.q (OpQ.move rfl rfl) rfl rfl rfl ?_
            refine RegL.q (OpQ.lenStr rfl rfl rfl rfl u_9 rfl) rfl rfl rfl ?_
            refine RegL.q (OpQ.int2 rfl u_3 rfl rfl rfl rfl) rfl rfl rfl ?_
            refine RegL.q (OpQ.assign rfl rfl) rfl rfl rfl ?_
            refine RegL.done ?_
            refine EvtL.cond rfl (fun g4 => ?_) (fun g4 => ?_)
            have h4 := of_decide_eq_true g4
            refine EvtL.seqReg ?_
            refine RegL.q (OpQ.assign rfl rfl) rfl rfl rfl ?_
            refine RegL.q (OpQ.assign rfl rfl) rfl rfl rfl ?_
            refine RegL.done ?_
            refine EvtL.ret ⟨.inl rfl, rfl, rfl, rfl, _, _, _, (res_tmp rfl (res_tmp rfl rfl)), rfl, rfl, ?_⟩
            rotate_left
            have h4 := of_decide_eq_false g4
            refine EvtL.skip ?_
            refine EvtL.seqReg ?_
            refine RegL.q (OpQ.move rfl rfl) rfl rfl rfl ?_
            refine RegL.q (OpQ.assign rfl rfl) rfl rfl rfl ?_
            refine RegL.q (OpQ.assign rfl rfl) rfl rfl rfl ?_
            refine RegL.done ?_
            refine EvtL.ret ⟨.inl rfl, rfl, rfl, rfl, _, _, _, (res_tmp rfl (res_tmp rfl rfl)), rfl, rfl, ?_⟩
            rotate_left
          · exact (hp1 h4).symm
          · exact (hp2 h4).symm
        · have hc := cmd_ne 5 []
          unfold ifaceV
          focus
            refine RegN.qG (OpQ.eqIf (neg := false) rfl if_44 rfl rfl rfl) (.inl rfl) rfl rfl ?_
            refine RegN.qG (OpQ.move rfl rfl) (.inl rfl) rfl rfl ?_
            refine RegN.qG (OpQ.move rfl rfl) (guardOn_go rfl rfl rfl rfl rfl) rfl rfl ?_
            refine RegN.aG (OpA.invoke rfl rfl rfl rfl m_113_made (by kernel_rfl) (fun _ => rfl) (hit_494)) (guardOn_go rfl rfl rfl rfl rfl) rfl rfl ?_
            refine RegN.loadSA rfl ag_24 sz_24 rfl rfl (Nat.le_of_ble_eq_true rfl) (by kernel_rfl) (guardOn_go rfl rfl rfl rfl rfl) rfl rfl ?_
            refine RegN.qG (OpQ.eqStruct (neg := true) rfl st_24 kd_24 rfl rfl rfl) (guardOn_go rfl rfl rfl rfl rfl) rfl rfl ?_
            refine RegN.qG (OpQ.pickF rfl rfl rfl rfl) (.inl rfl) rfl rfl ?_
            refine RegN.qG (OpQ.assign rfl rfl) (.inl rfl) rfl rfl ?_
            refine RegN.done ?_
            refine EvtL.condF rfl rfl ?_
            refine EvtL.seqReg ?_
            refine RegL.q (OpQ.move rfl rfl) rfl rfl rfl ?_
            refine RegL.q (OpQ.lenStr rfl rfl rfl rfl u_9 rfl) rfl rfl rfl ?_
            refine RegL.q (OpQ.int2 rfl u_3 rfl rfl rfl rfl) rfl rfl rfl ?_
            refine RegL.q (OpQ.assign rfl rfl) rfl rfl rfl ?_
            refine RegL.done ?_
            refine EvtL.cond rfl (fun g4 => ?_) (fun g4 => ?_)
            have h4 := of_decide_eq_true g4
            refine EvtL.seqReg ?_
            refine RegL.q (OpQ.assign rfl rfl) rfl rfl rfl ?_
            refine RegL.q (OpQ.assign rfl rfl) rfl rfl rfl ?_
            refine RegL.done ?_
            refine EvtL.ret ⟨.inl rfl, rfl, rfl, rfl, _, _, _, (res_tmp rfl (res_tmp rfl rfl)), rfl, rfl, ?_⟩
            rotate_left
            have h4 := of_decide_eq_false g4
            refine EvtL.skip ?_
            refine EvtL.seqReg ?_
            refine RegL.q (OpQ.move rfl rfl) rfl rfl rfl ?_
            refine RegL.q (OpQ.assign rfl rfl) rfl rfl rfl ?_
            refine RegL.q (OpQ.assign rfl rfl) rfl rfl rfl ?_
            refine RegL.done ?_
            refine EvtL.ret ⟨.inl rfl, rfl, rfl, rfl, _, _, _, (res_tmp rfl (res_tmp rfl rfl)), rfl, rfl, ?_⟩
            rotate_left
          · exact (hp1 h4).symm
          · exact (hp2 h4).symm
        · have hc := cmd_ne 6 []
          unfold ifaceV
          focus
            refine RegN.qG (OpQ.eqIf (neg := false) rfl if_44 rfl rfl rfl) (.inl rfl) rfl rfl ?_
            refine RegN.qG (OpQ.move rfl rfl) (.inl rfl) rfl rfl ?_
            refine RegN.qG (OpQ.move rfl rfl) (guardOn_go rfl rfl rfl rfl rfl) rfl rfl ?_
            refine RegN.aG (OpA.invoke rfl rfl rfl rfl m_114_made (by kernel_rfl) (fun _ => rfl) (hit_496)) (guardOn_go rfl rfl rfl rfl rfl) rfl rfl ?_
            refine RegN.loadSA rfl ag_24 sz_24 rfl rfl (Nat.le_of_ble_eq_true rfl) (by kernel_rfl) (guardOn_go rfl rfl rfl rfl rfl) rfl rfl ?_
            refine RegN.qG (OpQ.eqStruct (neg := true) rfl st_24 kd_24 rfl rfl rfl) (guardOn_go rfl rfl rfl rfl rfl) rfl rfl ?_
            refine RegN.qG (OpQ.pickF rfl rfl rfl rfl) (.inl rfl) rfl rfl ?_
            refine RegN.qG (OpQ.assign rfl rfl) (.inl rfl) rfl rfl ?_
            refine RegN.done ?_
            refine EvtL.condF rfl rfl ?_
            refine EvtL.seqReg ?_
            refine RegL.q (OpQ.move rfl rfl) rfl rfl rfl ?_
            refine RegL.q (OpQ.lenStr rfl rfl rfl rfl u_9 rfl) rfl rfl rfl ?_
            refine RegL.q (OpQ.int2 rfl u_3 rfl rfl rfl rfl) rfl rfl rfl ?_
            refine RegL.q (OpQ.assign rfl rfl) rfl rfl rfl ?_
            refine RegL.done ?_
            refine EvtL.cond rfl (fun g4 => ?_) (fun g4 => ?_)
            have h4 := of_decide_eq_true g4
            refine EvtL.seqReg ?_
            refine RegL.q (OpQ.assign rfl rfl) rfl rfl rfl ?_
            refine RegL.q (OpQ.assign rfl rfl) rfl rfl rfl ?_
            refine RegL.done ?_
            refine EvtL.ret ⟨.inl rfl, rfl, rfl, rfl, _, _, _, (res_tmp rfl (res_tmp rfl rfl)), rfl, rfl, ?_⟩
            rotate_left
            have h4 := of_decide_eq_false g4
            refine EvtL.skip ?_
            refine EvtL.seqReg ?_
            refine RegL.q (OpQ.move rfl rfl) rfl rfl rfl ?_
            refine RegL.q (OpQ.assign rfl rfl) rfl rfl rfl ?_
            refine RegL.q (OpQ.assign rfl rfl) rfl rfl rfl ?_
            refine RegL.done ?_
            refine EvtL.ret ⟨.inl rfl, rfl, rfl, rfl, _, _, _, (res_tmp rfl (res_tmp rfl rfl)), rfl, rfl, ?_⟩
            rotate_left
          · exact (hp1 h4).symm
          · exact (hp2 h4).symm
        · have hc := cmd_ne 7 []
          unfold ifaceV
          focus
            refine RegN.qG (OpQ.eqIf (neg := false) rfl if_44 rfl rfl rfl) (.inl rfl) rfl rfl ?_
            refine RegN.qG (OpQ.move rfl rfl) (.inl rfl) rfl rfl ?_
            refine RegN.qG (OpQ.move rfl rfl) (guardOn_go rfl rfl rfl rfl rfl) rfl rfl ?_
            refine RegN.aG (OpA.invoke rfl rfl rfl rfl m_115_made (by kernel_rfl) (fun _ => rfl) (hit_514)) (guardOn_go rfl rfl rfl rfl rfl) rfl rfl ?_
            refine RegN.loadSA rfl ag_24 sz_24 rfl rfl (Nat.le_of_ble_eq_true rfl) (by kernel_rfl) (guardOn_go rfl rfl rfl rfl rfl) rfl rfl ?_
            refine RegN.qG (OpQ.eqStruct (neg := true) rfl st_24 kd_24 rfl rfl rfl) (guardOn_go rfl rfl rfl rfl rfl) rfl rfl ?_
            refine RegN.qG (OpQ.pickF rfl rfl rfl rfl) (.inl rfl) rfl rfl ?_
            refine RegN.qG (OpQ.assign rfl rfl) (.inl rfl) rfl rfl ?_
            refine RegN.done ?_
            refine EvtL.condF rfl rfl ?_
            refine EvtL.seqReg ?_
            refine RegL.q (OpQ.move rfl rfl) rfl rfl rfl ?_
            refine RegL.q (OpQ.lenStr rfl rfl rfl rfl u_9 rfl) rfl rfl rfl ?_
            refine RegL.q (OpQ.int2 rfl u_3 rfl rfl rfl rfl) rfl rfl rfl ?_
            refine RegL.q (OpQ.assign rfl rfl) rfl rfl rfl ?_
            refine RegL.done ?_
            refine EvtL.cond rfl (fun g4 => ?_) (fun g4 => ?_)
            have h4 := of_decide_eq_true g4
            refine EvtL.seqReg ?_
            refine RegL.q (OpQ.assign rfl rfl) rfl rfl rfl ?_
            refine RegL.q (OpQ.assign rfl rfl) rfl rfl rfl ?_
            refine RegL.done ?_
            refine EvtL.ret ⟨.inl rfl, rfl, rfl, rfl, _, _, _, (res_tmp rfl (res_tmp rfl rfl)), rfl, rfl, ?_⟩
            rotate_left
            have h4 := of_decide_eq_false g4
            refine EvtL.skip ?_
            refine EvtL.seqReg ?_
            refine RegL.q (OpQ.move rfl rfl) rfl rfl rfl ?_
            refine RegL.q (OpQ.assign rfl rfl) rfl rfl rfl ?_
            refine RegL.q (OpQ.assign rfl rfl) rfl rfl rfl ?_
            refine RegL.done ?_
            refine EvtL.ret ⟨.inl rfl, rfl, rfl, rfl, _, _, _, (res_tmp rfl (res_tmp rfl rfl)), rfl, rfl, ?_⟩
            rotate_left
          · exact (hp1 h4).symm
          · exact (hp2 h4).symm
        · cases ht
        · have hc := cmd_ne 9 []
          unfold ifaceV
          focus
            refine RegN.qG (OpQ.eqIf (neg := false) rfl if_44 rfl rfl rfl) (.inl rfl) rfl rfl ?_
            refine RegN.qG (OpQ.move rfl rfl) (.inl rfl) rfl rfl ?_
            refine RegN.qG (OpQ.move rfl rfl) (guardOn_go rfl rfl rfl rfl rfl) rfl rfl ?_
            refine RegN.aG (OpA.invoke rfl rfl rfl rfl m_116_made (by kernel_rfl) (fun _ => rfl) (hit_516)) (guardOn_go rfl rfl rfl rfl rfl) rfl rfl ?_
            refine RegN.loadSA rfl ag_24 sz_24 rfl rfl (Nat.le_of_ble_eq_true rfl) (by kernel_rfl) (guardOn_go rfl rfl rfl rfl rfl) rfl rfl ?_
            refine RegN.qG (OpQ.eqStruct (neg := true) rfl st_24 kd_24 rfl rfl rfl) (guardOn_go rfl rfl rfl rfl rfl) rfl rfl ?_
            refine RegN.qG (OpQ.pickF rfl rfl rfl rfl) (.inl rfl) rfl rfl ?_
            refine RegN.qG (OpQ.assign rfl rfl) (.inl rfl) rfl rfl ?_
            refine RegN.done ?_
            refine EvtL.condF rfl rfl ?_
            refine EvtL.seqReg ?_
            refine RegL.q (OpQ.move rfl rfl) rfl rfl rfl ?_
            refine RegL.q (OpQ.lenStr rfl rfl rfl rfl u_9 rfl) rfl rfl rfl ?_
            refine RegL.q (OpQ.int2 rfl u_3 rfl rfl rfl rfl) rfl rfl rfl ?_
            refine RegL.q (OpQ.assign rfl rfl) rfl rfl rfl ?_
            refine RegL.done ?_
            refine EvtL.cond rfl (fun g4 => ?_) (fun g4 => ?_)
            have h4 := of_decide_eq_true g4
            refine EvtL.seqReg ?_
            refine RegL.q (OpQ.assign rfl rfl) rfl rfl rfl ?_
            refine RegL.q (OpQ.assign rfl rfl) rfl rfl rfl ?_
            refine RegL.done ?_
            refine EvtL.ret ⟨.inl rfl, rfl, rfl, rfl, _, _, _, (res_tmp rfl (res_tmp rfl rfl)), rfl, rfl, ?_⟩
            rotate_left
            have h4 := of_decide_eq_false g4
            refine EvtL.skip ?_
            refine EvtL.seqReg ?_
            refine RegL.q (OpQ.move rfl rfl) rfl rfl rfl ?_
            refine RegL.q (OpQ.assign rfl rfl) rfl rfl rfl ?_
            refine RegL.q (OpQ.assign rfl rfl) rfl rfl rfl ?_
            refine RegL.done ?_
            refine EvtL.ret ⟨.inl rfl, rfl, rfl, rfl, _, _, _, (res_tmp rfl (res_tmp rfl rfl)), rfl, rfl, ?_⟩
            rotate_left
          · exact (hp1 h4).symm
          · exact (hp2 h4).symm
      · rw [if_neg ht]
        refine RegN.qG (OpQ.eqIf (neg := false) rfl if_44 rfl rfl rfl) (.inl rfl) rfl rfl ?_
        refine RegN.qG (OpQ.move rfl rfl) (.inl rfl) rfl rfl ?_
        refine RegN.skip rfl rfl rfl rfl rfl rfl rfl ?_
        refine RegN.skip rfl rfl rfl rfl rfl rfl rfl ?_
        refine RegN.skip rfl rfl rfl rfl rfl rfl rfl ?_
        refine RegN.skip rfl rfl rfl rfl rfl rfl rfl ?_
        refine RegN.qG (OpQ.pickT rfl rfl rfl rfl) (.inl rfl) rfl rfl ?_
        refine RegN.qG (OpQ.assign rfl rfl) (.inl rfl) rfl rfl ?_
        refine RegN.done ?_
        refine EvtL.condT rfl rfl ?_
        refine EvtL.seqReg ?_
        refine RegL.q (OpQ.assign rfl rfl) rfl rfl rfl ?_
        refine RegL.q (OpQ.assign rfl rfl) rfl rfl rfl ?_
        refine RegL.done ?_
        refine EvtL.ret ⟨.inl rfl, rfl, rfl, rfl, _, _, _, (res_tmp rfl (res_tmp rfl rfl)), rfl, rfl, ?_⟩
        rw [printV_no (by unfold cmdV; simp only [Bool.not_eq_true] at ht; rw [ht, Bool.and_false])]
  · refine CallTo.s0 (fn := Tryz.f8) rfl rfl (by kernel_rfl) rfl rfl rfl rfl ?_
    focus
      refine EvtL.seqReg ?_
      refine RegL.op (OpL.boxS 1 rfl rfl rfl rfl) rfl rfl rfl ?_
      refine RegL.q (OpQ.assign rfl rfl) rfl rfl rfl ?_
      refine RegL.q (OpQ.assign rfl rfl) rfl rfl rfl ?_
      refine RegL.done ?_
      refine EvtL.seq ?_
      refine EvtL.seqReg ?_
      refine RegL.q (OpQ.fieldAddr rfl f_24_0 rfl) rfl rfl rfl ?_
      refine RegL.op (OpL.loadS1 rfl ag_22 sz_22 rfl rfl rfl) rfl rfl rfl ?_
      refine RegL.q (OpQ.int2 rfl u_22 rfl rfl rfl rfl) rfl rfl rfl ?_
      refine RegL.q (OpQ.move rfl rfl) rfl rfl rfl ?_
      refine RegL.both rfl rfl rfl rfl (fun g1 => ?_) (fun g1 => ?_)
      have h1 := of_decide_eq_true g1
      refine RegL.skip rfl rfl rfl rfl (by assumption) rfl rfl ?_
      refine RegL.skip rfl rfl rfl rfl (by assumption) rfl rfl ?_
      refine RegL.skip rfl rfl rfl rfl (by assumption) rfl rfl ?_
      refine RegL.q (OpQ.pickT rfl rfl (by assumption) rfl) rfl rfl rfl ?_
      refine RegL.done ?_
      refine EvtL.condT rfl rfl ?_
      refine EvtL.seqReg ?_
      refine RegL.q (OpQ.assign rfl rfl) rfl rfl rfl ?_
      refine RegL.q (OpQ.assign rfl rfl) rfl rfl rfl ?_
      refine RegL.done ?_
      refine EvtL.ret ⟨.inl rfl, rfl, rfl, rfl, _, _, _, (res_tmp rfl (res_tmp rfl rfl)), rfl, rfl, ?_⟩
      rotate_left
      have h1 := of_decide_eq_false g1
      refine RegL.go rfl rfl rfl rfl (by assumption) (OpL.q (OpQ.fieldAddr rfl f_24_0 rfl)) rfl rfl ?_
      refine RegL.go rfl rfl rfl rfl (by assumption) (OpL.loadS1 rfl ag_22 sz_22 rfl rfl rfl) rfl rfl ?_
      refine RegL.go rfl rfl rfl rfl (by assumption) (OpL.q (OpQ.int2 rfl u_22 rfl rfl rfl rfl)) rfl rfl ?_
      refine RegL.q (OpQ.pickF rfl rfl (by assumption) rfl) rfl rfl rfl ?_
      refine RegL.done ?_
      refine EvtL.cond rfl (fun g2 => ?_) (fun g2 => ?_)
      have h2 := of_decide_eq_true g2
      refine EvtL.seqReg ?_
      refine RegL.q (OpQ.assign rfl rfl) rfl rfl rfl ?_
      refine RegL.q (OpQ.assign rfl rfl) rfl rfl rfl ?_
      refine RegL.done ?_
      refine EvtL.ret ⟨.inl rfl, rfl, rfl, rfl, _, _, _, (res_tmp rfl (res_tmp rfl rfl)), rfl, rfl, ?_⟩
      rotate_left
      have h2 := of_decide_eq_false g2
      exact absurd h2 (by omega)
    · rw [printV_no (by unfold cmdV; rw [decide_eq_false (show ¬ 1 ≤ k by omega)]; rfl)]
    · rw [printV_no (by unfold cmdV; rw [decide_eq_false (show ¬ k ≤ 9 by omega), Bool.and_false]; rfl)]
end Go.Proofs.YtmcjglkpjfnfcaaGreat

/- The statements about lines. -/
open Go Am
namespace Go.Proofs.YtmcjglkpjfnfcaaGreat
noncomputable def K14 := addC M9 8 (fun p : { p : Int × List UInt8 // p.2.length ≤ 3900 } => [.agg [.int .i64 p.1.1, .str p.1.2]]) (fun p => printV p.1.1 p.1.2)
theorem hit_8 {k : Int} {t : List UInt8} (hw : t.length ≤ 3900) : K14 8 [.agg [.int .i64 k, .str t]] = some (printV k t) :=
  addC_hit (f := 8) (enc := fun p : { p : Int × List UInt8 // p.2.length ≤ 3900 } => [.agg [.int .i64 p.1.1, .str p.1.2]]) (res := fun p => printV p.1.1 p.1.2) (by rintro ⟨⟨a, b⟩, _⟩ ⟨⟨c, d⟩, _⟩ h; cases h; rfl) ⟨(k, t), hw⟩
theorem hit_6 {w : List UInt8} (hw : w.length ≤ 4000) : K13 6 [.str w] = some (parseV w) :=
  addC_hit (f := 6) (enc := fun w : { w : List UInt8 // w.length ≤ 4000 } => [.str w.1]) (res := fun w => parseV w.1) (by rintro ⟨a, _⟩ ⟨b, _⟩ h; cases h; rfl) ⟨w, hw⟩
theorem hit_7 {w : List UInt8} (hw : w.length ≤ 4000) : K9 7 [.str w] = some (parseV w) :=
  addC_hit (f := 7) (enc := fun w : { w : List UInt8 // w.length ≤ 4000 } => [.str w.1]) (res := fun w => parseV w.1) (by rintro ⟨a, _⟩ ⟨b, _⟩ h; cases h; rfl) ⟨w, hw⟩
theorem hit_9 {k : Int} {t : List UInt8} (hw : t.length ≤ 4000) : K8 9 [.agg [.int .i64 k, .str t]] = some (printV k t) :=
  addC_hit (f := 9) (enc := fun p : { p : Int × List UInt8 // p.2.length ≤ 4000 } => [.agg [.int .i64 p.1.1, .str p.1.2]]) (res := fun p => printV p.1.1 p.1.2) (by rintro ⟨⟨a, b⟩, _⟩ ⟨⟨c, d⟩, _⟩ h; cases h; rfl) ⟨(k, t), hw⟩
theorem hit_5 : K0 5 [] = some (.bool true) := rfl
theorem parseV_shape (w : List UInt8) : ∃ k t e, parseV w = .tuple [.agg [.int .i64 k, .str t], .int .i64 e] := by
  unfold parseV
  split
  · exact ⟨_, _, _, rfl⟩
  · split <;> exact ⟨_, _, _, rfl⟩
theorem printV_shape (k : Int) (t : List UInt8) : ∃ s e, printV k t = .tuple [.str s, .int .i64 e] := by
  unfold printV
  split
  · split <;> exact ⟨_, _, rfl⟩
  · exact ⟨_, _, rfl⟩
theorem cmd_eq (k : Int) (t : List UInt8) : boolV false (eqKd (.flat [.int .i64, .string]) (.agg [.int .i64 k, .str t]) (.agg [.int .i64 k, .str t])) = some (.bool true) := by
  rw [cmd_same]; rfl
theorem parses_to (w : List UInt8) (k : Int) (t : List UInt8) : CallTo (EK K14) 3 [.str w, .agg [.int .i64 k, .str t]] S0 (.bool true) := by
  refine CallTo.s0 (fn := Tryz.f3) rfl rfl (by kernel_rfl) rfl rfl rfl rfl ?_
  obtain ⟨k1, t1, e1, hP⟩ := parseV_shape w
  obtain ⟨s2, e2, hQ⟩ := printV_shape k t
  have hc := cmd_eq k1 t1
  focus
    refine EvtL.seqReg ?_
    refine RegL.op (OpL.boxS 1 rfl rfl rfl rfl) rfl rfl rfl ?_
    refine RegL.q (OpQ.assign rfl rfl) rfl rfl rfl ?_
    refine RegL.done ?_
    refine EvtL.seq ?_
    refine EvtL.seqReg ?_
    refine RegL.q (OpQ.move rfl rfl) rfl rfl rfl ?_
    refine RegL.q (OpQ.lenStr rfl rfl rfl rfl u_9 rfl) rfl rfl rfl ?_
    refine RegL.q (OpQ.int2 rfl u_3 rfl rfl rfl rfl) rfl rfl rfl ?_
    refine RegL.q (OpQ.move rfl rfl) rfl rfl rfl ?_
    refine RegL.both rfl rfl rfl rfl (fun g1 => ?_) (fun g1 => ?_)
    have h1 := of_decide_eq_true g1
    refine RegL.skip rfl rfl rfl rfl (by assumption) rfl rfl ?_
    refine RegL.skip rfl rfl rfl rfl (by assumption) rfl rfl ?_
    refine RegL.skip rfl rfl rfl rfl (by assumption) rfl rfl ?_
    refine RegL.skip rfl rfl rfl rfl (by assumption) rfl rfl ?_
    refine RegL.q (OpQ.pickT rfl rfl (by assumption) rfl) rfl rfl rfl ?_
    refine RegL.done ?_
    refine EvtL.condT rfl rfl ?_
    refine EvtL.seqReg ?_
    refine RegL.op (OpL.callFn rfl rfl (by kernel_rfl) rfl (CallTo.memo (hit_5))) rfl rfl rfl ?_
    refine RegL.q (OpQ.assign rfl rfl) rfl rfl rfl ?_
    refine RegL.done ?_
    refine EvtL.ret ⟨.inl rfl, rfl, rfl, rfl, _, _, _, (res_tmp rfl rfl), rfl, rfl, ?_⟩
    exact boolRes rfl
    have h1 := of_decide_eq_false g1
    refine RegL.go rfl rfl rfl rfl (by assumption) (OpL.q (OpQ.fieldAddr rfl f_24_1 rfl)) rfl rfl ?_
    refine RegL.go rfl rfl rfl rfl (by assumption) (OpL.loadS1 rfl ag_9 sz_9 rfl rfl rfl) rfl rfl ?_
    refine RegL.go rfl rfl rfl rfl (by assumption) (OpL.q (OpQ.lenStr rfl rfl rfl rfl u_9 rfl)) rfl rfl ?_
    refine RegL.go rfl rfl rfl rfl (by assumption) (OpL.q (OpQ.int2 rfl u_3 rfl rfl rfl rfl)) rfl rfl ?_
    refine RegL.q (OpQ.pickF rfl rfl (by assumption) rfl) rfl rfl rfl ?_
    refine RegL.done ?_
    refine EvtL.cond rfl (fun g2 => ?_) (fun g2 => ?_)
    have h2 := of_decide_eq_true g2
    refine EvtL.seqReg ?_
    refine RegL.op (OpL.callFn rfl rfl (by kernel_rfl) rfl (CallTo.memo (hit_5))) rfl rfl rfl ?_
    refine RegL.q (OpQ.assign rfl rfl) rfl rfl rfl ?_
    refine RegL.done ?_
    refine EvtL.ret ⟨.inl rfl, rfl, rfl, rfl, _, _, _, (res_tmp rfl rfl), rfl, rfl, ?_⟩
    exact boolRes rfl
    have h2 := of_decide_eq_false g2
    refine EvtL.skip ?_
    refine EvtL.seqReg ?_
    refine RegL.q (OpQ.move rfl rfl) rfl rfl rfl ?_
    refine RegL.op (OpL.callFn rfl rfl (by kernel_rfl) rfl (CallTo.memo (hit_6 (by first | assumption | omega | (simp only [List.length_append, List.length_cons, List.length_nil, List.length_take, List.length_drop]; omega))))) rfl rfl rfl ?_
    refine RegL.q (OpQ.move rfl rfl) rfl rfl rfl ?_
    rotate_left
  rw [hP]
  refine RegL.q (OpQ.extract rfl rfl rfl) rfl rfl rfl ?_
  refine RegL.q (OpQ.extract rfl rfl rfl) rfl rfl rfl ?_
  refine RegL.op (OpL.allocS 2 rfl z_24 rfl) rfl rfl rfl ?_
  refine RegL.opN (OpL.storeS rfl sz_24 rfl rfl rfl rfl rfl rfl) rfl rfl ?_
  refine RegL.q (OpQ.assign rfl rfl) rfl rfl rfl ?_
  refine RegL.done ?_
  refine EvtL.seqReg ?_
  refine RegL.q (OpQ.move rfl rfl) rfl rfl rfl ?_
  refine RegL.op (OpL.callFn rfl rfl (by kernel_rfl) rfl (CallTo.memo (hit_7 (by first | assumption | omega | (simp only [List.length_append, List.length_cons, List.length_nil, List.length_take, List.length_drop]; omega))))) rfl rfl rfl ?_
  refine RegL.q (OpQ.move rfl rfl) rfl rfl rfl ?_
  rw [hP]
  refine RegL.q (OpQ.extract rfl rfl rfl) rfl rfl rfl ?_
  refine RegL.q (OpQ.extract rfl rfl rfl) rfl rfl rfl ?_
  refine RegL.op (OpL.allocS 3 rfl z_24 rfl) rfl rfl rfl ?_
  refine RegL.opN (OpL.storeS rfl sz_24 rfl rfl rfl rfl rfl rfl) rfl rfl ?_
  refine RegL.q (OpQ.assign rfl rfl) rfl rfl rfl ?_
  refine RegL.done ?_
  refine EvtL.seqReg ?_
  refine RegL.op (OpL.loadSA rfl ag_24 sz_24 rfl rfl (Nat.le_of_ble_eq_true rfl)) rfl rfl rfl ?_
  refine RegL.op (OpL.callFn rfl rfl (by kernel_rfl) rfl (CallTo.memo (hit_8 (by first | assumption | omega | (simp only [List.length_append, List.length_cons, List.length_nil, List.length_take, List.length_drop]; omega))))) rfl rfl rfl ?_
  refine RegL.q (OpQ.move rfl rfl) rfl rfl rfl ?_
  rw [hQ]
  refine RegL.q (OpQ.extract rfl rfl rfl) rfl rfl rfl ?_
  refine RegL.q (OpQ.extract rfl rfl rfl) rfl rfl rfl ?_
  refine RegL.q (OpQ.assign rfl rfl) rfl rfl rfl ?_
  refine RegL.q (OpQ.assign rfl rfl) rfl rfl rfl ?_
  refine RegL.done ?_
  refine EvtL.seqReg ?_
  refine RegL.op (OpL.loadSA rfl ag_24 sz_24 rfl rfl (Nat.le_of_ble_eq_true rfl)) rfl rfl rfl ?_
  refine RegL.op (OpL.callFn rfl rfl (by kernel_rfl) rfl (CallTo.memo (hit_9 (by first | assumption | omega | (simp only [List.length_append, List.length_cons, List.length_nil, List.length_take, List.length_drop]; omega))))) rfl rfl rfl ?_
  refine RegL.q (OpQ.move rfl rfl) rfl rfl rfl ?_
  rw [hQ]
  focus
    refine RegL.q (OpQ.extract rfl rfl rfl) rfl rfl rfl ?_
    refine RegL.q (OpQ.extract rfl rfl rfl) rfl rfl rfl ?_
    refine RegL.q (OpQ.assign rfl rfl) rfl rfl rfl ?_
    refine RegL.q (OpQ.assign rfl rfl) rfl rfl rfl ?_
    refine RegL.done ?_
    refine EvtL.seqReg ?_
    refine RegL.op (OpL.loadSA rfl ag_24 sz_24 rfl rfl (Nat.le_of_ble_eq_true rfl)) rfl rfl rfl ?_
    refine RegL.op (OpL.loadSA rfl ag_24 sz_24 rfl rfl (Nat.le_of_ble_eq_true rfl)) rfl rfl rfl ?_
    refine RegL.q (OpQ.eqStruct (neg := false) rfl st_24 kd_24 rfl rfl (by assumption)) rfl rfl rfl ?_
    refine RegL.q (OpQ.move rfl rfl) rfl rfl rfl ?_
    refine RegL.go rfl rfl rfl rfl rfl (OpL.q (OpQ.move rfl rfl)) rfl rfl ?_
    refine RegL.go rfl rfl rfl rfl rfl (OpL.q (OpQ.move rfl rfl)) rfl rfl ?_
    refine RegL.go rfl rfl rfl rfl rfl (OpL.q (OpQ.int2 rfl u_26 rfl rfl rfl rfl)) rfl rfl ?_
    refine RegL.q (OpQ.pickT rfl rfl rfl rfl) rfl rfl rfl ?_
    refine RegL.q (OpQ.move rfl rfl) rfl rfl rfl ?_
    refine RegL.both rfl rfl rfl rfl (fun g3 => ?_) (fun g3 => ?_)
    have h3 := of_decide_eq_true g3
    refine RegL.go rfl rfl rfl rfl (by assumption) (OpL.q (OpQ.move rfl rfl)) rfl rfl ?_
    refine RegL.go rfl rfl rfl rfl (by assumption) (OpL.q (OpQ.move rfl rfl)) rfl rfl ?_
    refine RegL.go rfl rfl rfl rfl (by assumption) (OpL.q (OpQ.str2 rfl u_9 rfl rfl rfl rfl)) rfl rfl ?_
    refine RegL.q (OpQ.pickT rfl rfl (by assumption) rfl) rfl rfl rfl ?_
    refine RegL.q (OpQ.move rfl rfl) rfl rfl rfl ?_
    refine RegL.both rfl rfl rfl rfl (fun g4 => ?_) (fun g4 => ?_)
    have h4 := bT g4
    refine RegL.go rfl rfl rfl rfl (by assumption) (OpL.q (OpQ.move rfl rfl)) rfl rfl ?_
    refine RegL.go rfl rfl rfl rfl (by assumption) (OpL.q (OpQ.move rfl rfl)) rfl rfl ?_
    refine RegL.go rfl rfl rfl rfl (by assumption) (OpL.q (OpQ.int2 rfl u_26 rfl rfl rfl rfl)) rfl rfl ?_
    refine RegL.q (OpQ.pickT rfl rfl (by assumption) rfl) rfl rfl rfl ?_
    refine RegL.q (OpQ.move rfl rfl) rfl rfl rfl ?_
    refine RegL.both rfl rfl rfl rfl (fun g5 => ?_) (fun g5 => ?_)
    have h5 := of_decide_eq_true g5
    refine RegL.go rfl rfl rfl rfl (by assumption) (OpL.callFn rfl rfl (by kernel_rfl) rfl (CallTo.memo (hit_5))) rfl rfl ?_
    refine RegL.q (OpQ.pickT rfl rfl (by assumption) rfl) rfl rfl rfl ?_
    refine RegL.q (OpQ.assign rfl rfl) rfl rfl rfl ?_
    refine RegL.done ?_
    refine EvtL.ret ⟨.inl rfl, rfl, rfl, rfl, _, _, _, (res_tmp rfl rfl), rfl, rfl, ?_⟩
    exact boolRes rfl
    have h5 := of_decide_eq_false g5
    exact absurd h5 (by omega)
    have h4 := bF g4
    refine RegL.skip rfl rfl rfl rfl (by assumption) rfl rfl ?_
    refine RegL.skip rfl rfl rfl rfl (by assumption) rfl rfl ?_
    refine RegL.skip rfl rfl rfl rfl (by assumption) rfl rfl ?_
    refine RegL.q (OpQ.pickF rfl rfl (by assumption) rfl) rfl rfl rfl ?_
    refine RegL.q (OpQ.move rfl rfl) rfl rfl rfl ?_
    refine RegL.skip rfl rfl rfl rfl rfl rfl rfl ?_
    refine RegL.q (OpQ.pickF rfl rfl rfl rfl) rfl rfl rfl ?_
    refine RegL.q (OpQ.assign rfl rfl) rfl rfl rfl ?_
    refine RegL.done ?_
    refine EvtL.ret ⟨.inl rfl, rfl, rfl, rfl, _, _, _, (res_tmp rfl rfl), rfl, rfl, ?_⟩
    refine boolRes ?_
    rotate_left
    have h3 := of_decide_eq_false g3
    exact absurd h3 (by omega)
  exact absurd rfl h4
/-! ### there and back -/
theorem tw_split : ∀ w : List UInt8, tw notSp w < w.length → w.take (tw notSp w) ++ 32 :: w.drop (tw notSp w + 1) = w
  | [], h => absurd h (Nat.lt_irrefl 0)
  | b :: w, h => by
    by_cases hb : notSp b.toNat = true
    · have e : tw notSp (b :: w) = tw notSp w + 1 := by
        unfold tw
        rw [List.takeWhile_cons, if_pos hb]; rfl
      rw [e] at h ⊢
      have := tw_split w (by simpa using h)
      show b :: (w.take (tw notSp w) ++ 32 :: w.drop (tw notSp w + 1)) = _
      rw [this]
    · have e : tw notSp (b :: w) = 0 := by
        unfold tw
        rw [List.takeWhile_cons, if_neg hb]; rfl
      rw [e]
      have : b = 32 := by
        rw [notSp_ok] at hb
        simpa using hb
      rw [this]; rfl
theorem find_line {n : Nat} (hn : 1 ≤ n ∧ n ≤ 9) {t : List UInt8} (ht : textV n t = true) : kinds.find? (isCmd (lineP n t)) = some n ∧ restS n (lineP n t) = t := by
  obtain ⟨hF, hD, hL⟩ := line_facts hn t
  have hr : restS n (lineP n t) = t ∧ (hasV n == decide (t ≠ [])) = true := by
    unfold restS
    unfold textV at ht
    by_cases hv : hasV n = true
    · rw [if_pos hv] at ht ⊢
      refine ⟨hD, ?_⟩
      rw [hv, decide_eq_true]; · rfl
      rintro rfl
      rw [bareV_nil] at ht; cases ht
    · rw [if_neg hv] at ht ⊢
      have h0 : t = [] := of_decide_eq_true ((bytesEq_iff ..).symm.trans ht)
      subst h0
      rw [show hasV n = false by simpa using hv]
      exact ⟨rfl, rfl⟩
  refine ⟨find_kinds hn.1 hn.2 ?_ fun j h1 h2 => isCmd_other hF ⟨h1, by omega⟩ hn (by omega), hr.1⟩
  unfold isCmd
  rw [hr.1, hL, hr.2, hF, bytesEq_iff, decide_eq_true rfl, ht]; rfl
theorem print_cases (k : Int) (t : List UInt8) : (∃ s, printV k t = .tuple [.str s, .int .i64 0] ∧ s.length ≤ 3000 ∧ parseV s = .tuple [.agg [.int .i64 k, .str t], .int .i64 0]) ∨ ∃ s e, e ≠ 0 ∧ printV k t = .tuple [.str s, .int .i64 e] := by
  cases h : cmdV k t with
  | false => exact .inr ⟨[], 2, by decide, printV_no h⟩
  | true =>
    obtain ⟨n, rfl, h1, h2, h3⟩ := cmd_kind h
    rw [printV_ok ⟨h1, h2⟩ h3]
    obtain ⟨h4, h5⟩ := find_line ⟨h1, h2⟩ h3
    split
    · exact .inr ⟨[], 3, by decide, rfl⟩
    · rename_i hl
      refine .inl ⟨_, rfl, by omega, ?_⟩
      unfold parseV
      rw [if_neg hl, h4, ← h5]
      show AV.tuple [.agg [.int .i64 (n : Nat), .str (restS n _)], _] = AV.tuple [.agg [.int .i64 (n : Nat), .str _], _]
      rw [h5, h5]
theorem parse_cases (w : List UInt8) : (∃ k t, parseV w = .tuple [.agg [.int .i64 k, .str t], .int .i64 0] ∧ t.length ≤ 3000 ∧ printV k t = .tuple [.str w, .int .i64 0]) ∨ ∃ k t e, e ≠ 0 ∧ parseV w = .tuple [.agg [.int .i64 k, .str t], .int .i64 e] := by
  unfold parseV
  split
  · exact .inr ⟨_, _, 3, by decide, rfl⟩
  · rename_i hl
    cases h : kinds.find? (isCmd w) with
    | none => exact .inr ⟨_, _, 4, by decide, rfl⟩
    | some n =>
      have hn : 1 ≤ n ∧ n ≤ 9 := by have := ifaceV_cases h; omega
      have hc := List.find?_some h
      unfold isCmd at hc
      simp only [Bool.and_eq_true] at hc
      obtain ⟨⟨hF, hV⟩, hT⟩ := hc
      have hF : w.take (tw notSp w) = wordL.getD n [] := of_decide_eq_true ((bytesEq_iff ..).symm.trans hF)
      have hw : lineP n (restS n w) = w := by
        rw [lineP_line hn hT]
        unfold lineS restS
        by_cases hv : hasV n = true
        · rw [if_pos hv, if_pos hv, ← hF]
          rw [hv] at hV
          have hlt : tw notSp w < w.length := of_decide_eq_true (eq_of_beq hV).symm
          exact tw_split w hlt
        · rw [if_neg hv, ← hF]
          rw [show hasV n = false by simpa using hv] at hV
          have hlt : ¬ tw notSp w < w.length := of_decide_eq_false (eq_of_beq hV).symm
          exact List.take_of_length_le (by omega)
      refine .inl ⟨n, restS n w, rfl, ?_, ?_⟩
      · unfold restS
        split
        · rw [List.length_drop]; omega
        · exact Nat.zero_le _
      · rw [printV_ok hn hT, hw, if_neg hl]
theorem back_to (w : List UInt8) (k : Int) (t : List UInt8) : CallTo (EK K14) 4 [.str w, .agg [.int .i64 k, .str t]] S0 (.bool true) := by
  have hc := cmd_ne k t
  rcases print_cases k t with ⟨s, hP, hs, hQ⟩ | ⟨s, e, he, hP⟩
  · rcases parse_cases w with ⟨k2, t2, hA, ht2, hB⟩ | ⟨k2, t2, e2, he2, hA⟩
    · refine CallTo.s0 (fn := Tryz.f4) rfl rfl (by kernel_rfl) rfl rfl rfl rfl ?_
      focus
        refine EvtL.seqReg ?_
        refine RegL.op (OpL.boxS 1 rfl rfl rfl rfl) rfl rfl rfl ?_
        refine RegL.q (OpQ.assign rfl rfl) rfl rfl rfl ?_
        refine RegL.done ?_
        refine EvtL.seq ?_
        refine EvtL.seqReg ?_
        refine RegL.q (OpQ.move rfl rfl) rfl rfl rfl ?_
        refine RegL.q (OpQ.lenStr rfl rfl rfl rfl u_9 rfl) rfl rfl rfl ?_
        refine RegL.q (OpQ.int2 rfl u_3 rfl rfl rfl rfl) rfl rfl rfl ?_
        refine RegL.q (OpQ.move rfl rfl) rfl rfl rfl ?_
        refine RegL.both rfl rfl rfl rfl (fun g1 => ?_) (fun g1 => ?_)
        have h1 := of_decide_eq_true g1
        refine RegL.skip rfl rfl rfl rfl (by assumption) rfl rfl ?_
        refine RegL.skip rfl rfl rfl rfl (by assumption) rfl rfl ?_
        refine RegL.skip rfl rfl rfl rfl (by assumption) rfl rfl ?_
        refine RegL.skip rfl rfl rfl rfl (by assumption) rfl rfl ?_
        refine RegL.q (OpQ.pickT rfl rfl (by assumption) rfl) rfl rfl rfl ?_
        refine RegL.done ?_
        refine EvtL.condT rfl rfl ?_
        refine EvtL.seqReg ?_
        refine RegL.op (OpL.callFn rfl rfl (by kernel_rfl) rfl (CallTo.memo (hit_5))) rfl rfl rfl ?_
        refine RegL.q (OpQ.assign rfl rfl) rfl rfl rfl ?_
        refine RegL.done ?_
        refine EvtL.ret ⟨.inl rfl, rfl, rfl, rfl, _, _, _, (res_tmp rfl rfl), rfl, rfl, ?_⟩
        exact boolRes rfl
        have h1 := of_decide_eq_false g1
        refine RegL.go rfl rfl rfl rfl (by assumption) (OpL.q (OpQ.fieldAddr rfl f_24_1 rfl)) rfl rfl ?_
        refine RegL.go rfl rfl rfl rfl (by assumption) (OpL.loadS1 rfl ag_9 sz_9 rfl rfl rfl) rfl rfl ?_
        refine RegL.go rfl rfl rfl rfl (by assumption) (OpL.q (OpQ.lenStr rfl rfl rfl rfl u_9 rfl)) rfl rfl ?_
        refine RegL.go rfl rfl rfl rfl (by assumption) (OpL.q (OpQ.int2 rfl u_3 rfl rfl rfl rfl)) rfl rfl ?_
        refine RegL.q (OpQ.pickF rfl rfl (by assumption) rfl) rfl rfl rfl ?_
        refine RegL.done ?_
        refine EvtL.cond rfl (fun g2 => ?_) (fun g2 => ?_)
        have h2 := of_decide_eq_true g2
        refine EvtL.seqReg ?_
        refine RegL.op (OpL.callFn rfl rfl (by kernel_rfl) rfl (CallTo.memo (hit_5))) rfl rfl rfl ?_
        refine RegL.q (OpQ.assign rfl rfl) rfl rfl rfl ?_
        refine RegL.done ?_
        refine EvtL.ret ⟨.inl rfl, rfl, rfl, rfl, _, _, _, (res_tmp rfl rfl), rfl, rfl, ?_⟩
        exact boolRes rfl
        have h2 := of_decide_eq_false g2
        refine EvtL.skip ?_
        refine EvtL.seq ?_
        refine EvtL.seqReg ?_
        refine RegL.op (OpL.loadSA rfl ag_24 sz_24 rfl rfl (Nat.le_of_ble_eq_true rfl)) rfl rfl rfl ?_
        refine RegL.op (OpL.callFn rfl rfl (by kernel_rfl) rfl (CallTo.memo (hit_8 (by first | assumption | omega | (simp only [List.length_append, List.length_cons, List.length_nil, List.length_take, List.length_drop]; omega))))) rfl rfl rfl ?_
        refine RegL.q (OpQ.move rfl rfl) rfl rfl rfl ?_
        rotate_left
      rw [hP]
      refine RegL.q (OpQ.extract rfl rfl rfl) rfl rfl rfl ?_
      refine RegL.q (OpQ.extract rfl rfl rfl) rfl rfl rfl ?_
      refine RegL.q (OpQ.assign rfl rfl) rfl rfl rfl ?_
      refine RegL.q (OpQ.assign rfl rfl) rfl rfl rfl ?_
      refine RegL.done ?_
      refine EvtL.seqReg ?_
      refine RegL.q (OpQ.move rfl rfl) rfl rfl rfl ?_
      refine RegL.q (OpQ.int2 rfl u_26 rfl rfl rfl rfl) rfl rfl rfl ?_
      refine RegL.done ?_
      refine EvtL.condT rfl rfl ?_
      refine EvtL.seqReg ?_
      refine RegL.q (OpQ.move rfl rfl) rfl rfl rfl ?_
      refine RegL.op (OpL.callFn rfl rfl (by kernel_rfl) rfl (CallTo.memo (hit_6 (by first | assumption | omega | (simp only [List.length_append, List.length_cons, List.length_nil, List.length_take, List.length_drop]; omega))))) rfl rfl rfl ?_
      refine RegL.q (OpQ.move rfl rfl) rfl rfl rfl ?_
      rw [hQ]
      refine RegL.q (OpQ.extract rfl rfl rfl) rfl rfl rfl ?_
      refine RegL.q (OpQ.extract rfl rfl rfl) rfl rfl rfl ?_
      refine RegL.op (OpL.allocS 2 rfl z_24 rfl) rfl rfl rfl ?_
      refine RegL.opN (OpL.storeS rfl sz_24 rfl rfl rfl rfl rfl rfl) rfl rfl ?_
      refine RegL.q (OpQ.assign rfl rfl) rfl rfl rfl ?_
      refine RegL.done ?_
      refine EvtL.seqReg ?_
      refine RegL.q (OpQ.move rfl rfl) rfl rfl rfl ?_
      refine RegL.q (OpQ.int2 rfl u_26 rfl rfl rfl rfl) rfl rfl rfl ?_
      refine RegL.q (OpQ.move rfl rfl) rfl rfl rfl ?_
      refine RegL.go rfl rfl rfl rfl rfl (OpL.loadSA rfl ag_24 sz_24 rfl rfl (Nat.le_of_ble_eq_true rfl)) rfl rfl ?_
      refine RegL.go rfl rfl rfl rfl rfl (OpL.loadSA rfl ag_24 sz_24 rfl rfl (Nat.le_of_ble_eq_true rfl)) rfl rfl ?_
      refine RegL.go rfl rfl rfl rfl rfl (OpL.q (OpQ.eqStruct (neg := true) rfl st_24 kd_24 rfl rfl (by assumption))) rfl rfl ?_
      refine RegL.q (OpQ.pickF rfl rfl rfl rfl) rfl rfl rfl ?_
      refine RegL.done ?_
      refine EvtL.condF rfl rfl ?_
      refine EvtL.skip ?_
      refine EvtL.seq ?_
      refine EvtL.seqReg ?_
      refine RegL.q (OpQ.move rfl rfl) rfl rfl rfl ?_
      refine RegL.op (OpL.callFn rfl rfl (by kernel_rfl) rfl (CallTo.memo (hit_6 (by first | assumption | omega | (simp only [List.length_append, List.length_cons, List.length_nil, List.length_take, List.length_drop]; omega))))) rfl rfl rfl ?_
      refine RegL.q (OpQ.move rfl rfl) rfl rfl rfl ?_
      rw [hA]
      refine RegL.q (OpQ.extract rfl rfl rfl) rfl rfl rfl ?_
      refine RegL.q (OpQ.extract rfl rfl rfl) rfl rfl rfl ?_
      refine RegL.op (OpL.allocS 3 rfl z_24 rfl) rfl rfl rfl ?_
      refine RegL.opN (OpL.storeS rfl sz_24 rfl rfl rfl rfl rfl rfl) rfl rfl ?_
      refine RegL.q (OpQ.assign rfl rfl) rfl rfl rfl ?_
      refine RegL.done ?_
      refine EvtL.seqReg ?_
      refine RegL.q (OpQ.move rfl rfl) rfl rfl rfl ?_
      refine RegL.q (OpQ.int2 rfl u_26 rfl rfl rfl rfl) rfl rfl rfl ?_
      refine RegL.done ?_
      refine EvtL.condT rfl rfl ?_
      refine EvtL.seqReg ?_
      refine RegL.op (OpL.loadSA rfl ag_24 sz_24 rfl rfl (Nat.le_of_ble_eq_true rfl)) rfl rfl rfl ?_
      refine RegL.op (OpL.callFn rfl rfl (by kernel_rfl) rfl (CallTo.memo (hit_8 (by first | assumption | omega | (simp only [List.length_append, List.length_cons, List.length_nil, List.length_take, List.length_drop]; omega))))) rfl rfl rfl ?_
      refine RegL.q (OpQ.move rfl rfl) rfl rfl rfl ?_
      rw [hB]
      focus
        refine RegL.q (OpQ.extract rfl rfl rfl) rfl rfl rfl ?_
        refine RegL.q (OpQ.extract rfl rfl rfl) rfl rfl rfl ?_
        refine RegL.q (OpQ.assign rfl rfl) rfl rfl rfl ?_
        refine RegL.q (OpQ.assign rfl rfl) rfl rfl rfl ?_
        refine RegL.done ?_
        refine EvtL.seqReg ?_
        refine RegL.q (OpQ.move rfl rfl) rfl rfl rfl ?_
        refine RegL.q (OpQ.int2 rfl u_26 rfl rfl rfl rfl) rfl rfl rfl ?_
        refine RegL.q (OpQ.move rfl rfl) rfl rfl rfl ?_
        refine RegL.go rfl rfl rfl rfl rfl (OpL.q (OpQ.move rfl rfl)) rfl rfl ?_
        refine RegL.go rfl rfl rfl rfl rfl (OpL.q (OpQ.move rfl rfl)) rfl rfl ?_
        refine RegL.go rfl rfl rfl rfl rfl (OpL.q (OpQ.str2 rfl u_9 rfl rfl rfl rfl)) rfl rfl ?_
        refine RegL.q (OpQ.pickF rfl rfl rfl rfl) rfl rfl rfl ?_
        refine RegL.done ?_
        refine EvtL.cond rfl (fun g3 => ?_) (fun g3 => ?_)
        have h3 := bnT g3
        refine EvtL.seqReg ?_
        refine RegL.q (OpQ.assign rfl rfl) rfl rfl rfl ?_
        refine RegL.done ?_
        refine EvtL.ret ⟨.inl rfl, rfl, rfl, rfl, _, _, _, (res_tmp rfl rfl), rfl, rfl, ?_⟩
        refine boolRes ?_
        rotate_left
        have h3 := bnF g3
        refine EvtL.skip ?_
        refine EvtL.seqReg ?_
        refine RegL.op (OpL.callFn rfl rfl (by kernel_rfl) rfl (CallTo.memo (hit_5))) rfl rfl rfl ?_
        refine RegL.q (OpQ.assign rfl rfl) rfl rfl rfl ?_
        refine RegL.done ?_
        refine EvtL.ret ⟨.inl rfl, rfl, rfl, rfl, _, _, _, (res_tmp rfl rfl), rfl, rfl, ?_⟩
        exact boolRes rfl
      exact absurd rfl h3
    · refine CallTo.s0 (fn := Tryz.f4) rfl rfl (by kernel_rfl) rfl rfl rfl rfl ?_
      focus
        refine EvtL.seqReg ?_
        refine RegL.op (OpL.boxS 1 rfl rfl rfl rfl) rfl rfl rfl ?_
        refine RegL.q (OpQ.assign rfl rfl) rfl rfl rfl ?_
        refine RegL.done ?_
        refine EvtL.seq ?_
        refine EvtL.seqReg ?_
        refine RegL.q (OpQ.move rfl rfl) rfl rfl rfl ?_
        refine RegL.q (OpQ.lenStr rfl rfl rfl rfl u_9 rfl) rfl rfl rfl ?_
        refine RegL.q (OpQ.int2 rfl u_3 rfl rfl rfl rfl) rfl rfl rfl ?_
        refine RegL.q (OpQ.move rfl rfl) rfl rfl rfl ?_
        refine RegL.both rfl rfl rfl rfl (fun g1 => ?_) (fun g1 => ?_)
        have h1 := of_decide_eq_true g1
        refine RegL.skip rfl rfl rfl rfl (by assumption) rfl rfl ?_
        refine RegL.skip rfl rfl rfl rfl (by assumption) rfl rfl ?_
        refine RegL.skip rfl rfl rfl rfl (by assumption) rfl rfl ?_
        refine RegL.skip rfl rfl rfl rfl (by assumption) rfl rfl ?_
        refine RegL.q (OpQ.pickT rfl rfl (by assumption) rfl) rfl rfl rfl ?_
        refine RegL.done ?_
        refine EvtL.condT rfl rfl ?_
        refine EvtL.seqReg ?_
        refine RegL.op (OpL.callFn rfl rfl (by kernel_rfl) rfl (CallTo.memo (hit_5))) rfl rfl rfl ?_
        refine RegL.q (OpQ.assign rfl rfl) rfl rfl rfl ?_
        refine RegL.done ?_
        refine EvtL.ret ⟨.inl rfl, rfl, rfl, rfl, _, _, _, (res_tmp rfl rfl), rfl, rfl, ?_⟩
        exact boolRes rfl
        have h1 := of_decide_eq_false g1
        refine RegL.go rfl rfl rfl rfl (by assumption) (OpL.q (OpQ.fieldAddr rfl f_24_1 rfl)) rfl rfl ?_
        refine RegL.go rfl rfl rfl rfl (by assumption) (OpL.loadS1 rfl ag_9 sz_9 rfl rfl rfl) rfl rfl ?_
        refine RegL.go rfl rfl rfl rfl (by assumption) (OpL.q (OpQ.lenStr rfl rfl rfl rfl u_9 rfl)) rfl rfl ?_
        refine RegL.go rfl rfl rfl rfl (by assumption) (OpL.q (OpQ.int2 rfl u_3 rfl rfl rfl rfl)) rfl rfl ?_
        refine RegL.q (OpQ.pickF rfl rfl (by assumption) rfl) rfl rfl rfl ?_
        refine RegL.done ?_
        refine EvtL.cond rfl (fun g2 => ?_) (fun g2 => ?_)
        have h2 := of_decide_eq_true g2
        refine EvtL.seqReg ?_
        refine RegL.op (OpL.callFn rfl rfl (by kernel_rfl) rfl (CallTo.memo (hit_5))) rfl rfl rfl ?_
        refine RegL.q (OpQ.assign rfl rfl) rfl rfl rfl ?_
        refine RegL.done ?_
        refine EvtL.ret ⟨.inl rfl, rfl, rfl, rfl, _, _, _, (res_tmp rfl rfl), rfl, rfl, ?_⟩
        exact boolRes rfl
        have h2 := of_decide_eq_false g2
        refine EvtL.skip ?_
        refine EvtL.seq ?_
        refine EvtL.seqReg ?_
        refine RegL.op (OpL.loadSA rfl ag_24 sz_24 rfl rfl (Nat.le_of_ble_eq_true rfl)) rfl rfl rfl ?_
        refine RegL.op (OpL.callFn rfl rfl (by kernel_rfl) rfl (CallTo.memo (hit_8 (by first | assumption | omega | (simp only [List.length_append, List.length_cons, List.length_nil, List.length_take, List.length_drop]; omega))))) rfl rfl rfl ?_
        refine RegL.q (OpQ.move rfl rfl) rfl rfl rfl ?_
        rotate_left
      rw [hP]
      refine RegL.q (OpQ.extract rfl rfl rfl) rfl rfl rfl ?_
      refine RegL.q (OpQ.extract rfl rfl rfl) rfl rfl rfl ?_
      refine RegL.q (OpQ.assign rfl rfl) rfl rfl rfl ?_
      refine RegL.q (OpQ.assign rfl rfl) rfl rfl rfl ?_
      refine RegL.done ?_
      refine EvtL.seqReg ?_
      refine RegL.q (OpQ.move rfl rfl) rfl rfl rfl ?_
      refine RegL.q (OpQ.int2 rfl u_26 rfl rfl rfl rfl) rfl rfl rfl ?_
      refine RegL.done ?_
      refine EvtL.condT rfl rfl ?_
      refine EvtL.seqReg ?_
      refine RegL.q (OpQ.move rfl rfl) rfl rfl rfl ?_
      refine RegL.op (OpL.callFn rfl rfl (by kernel_rfl) rfl (CallTo.memo (hit_6 (by first | assumption | omega | (simp only [List.length_append, List.length_cons, List.length_nil, List.length_take, List.length_drop]; omega))))) rfl rfl rfl ?_
      refine RegL.q (OpQ.move rfl rfl) rfl rfl rfl ?_
      rw [hQ]
      refine RegL.q (OpQ.extract rfl rfl rfl) rfl rfl rfl ?_
      refine RegL.q (OpQ.extract rfl rfl rfl) rfl rfl rfl ?_
      refine RegL.op (OpL.allocS 2 rfl z_24 rfl) rfl rfl rfl ?_
      refine RegL.opN (OpL.storeS rfl sz_24 rfl rfl rfl rfl rfl rfl) rfl rfl ?_
      refine RegL.q (OpQ.assign rfl rfl) rfl rfl rfl ?_
      refine RegL.done ?_
      refine EvtL.seqReg ?_
      refine RegL.q (OpQ.move rfl rfl) rfl rfl rfl ?_
      refine RegL.q (OpQ.int2 rfl u_26 rfl rfl rfl rfl) rfl rfl rfl ?_
      refine RegL.q (OpQ.move rfl rfl) rfl rfl rfl ?_
      refine RegL.go rfl rfl rfl rfl rfl (OpL.loadSA rfl ag_24 sz_24 rfl rfl (Nat.le_of_ble_eq_true rfl)) rfl rfl ?_
      refine RegL.go rfl rfl rfl rfl rfl (OpL.loadSA rfl ag_24 sz_24 rfl rfl (Nat.le_of_ble_eq_true rfl)) rfl rfl ?_
      refine RegL.go rfl rfl rfl rfl rfl (OpL.q (OpQ.eqStruct (neg := true) rfl st_24 kd_24 rfl rfl (by assumption))) rfl rfl ?_
      refine RegL.q (OpQ.pickF rfl rfl rfl rfl) rfl rfl rfl ?_
      refine RegL.done ?_
      refine EvtL.condF rfl rfl ?_
      refine EvtL.skip ?_
      refine EvtL.seq ?_
      refine EvtL.seqReg ?_
      refine RegL.q (OpQ.move rfl rfl) rfl rfl rfl ?_
      refine RegL.op (OpL.callFn rfl rfl (by kernel_rfl) rfl (CallTo.memo (hit_6 (by first | assumption | omega | (simp only [List.length_append, List.length_cons, List.length_nil, List.length_take, List.length_drop]; omega))))) rfl rfl rfl ?_
      refine RegL.q (OpQ.move rfl rfl) rfl rfl rfl ?_
      rw [hA]
      focus
        refine RegL.q (OpQ.extract rfl rfl rfl) rfl rfl rfl ?_
        refine RegL.q (OpQ.extract rfl rfl rfl) rfl rfl rfl ?_
        refine RegL.op (OpL.allocS 3 rfl z_24 rfl) rfl rfl rfl ?_
        refine RegL.opN (OpL.storeS rfl sz_24 rfl rfl rfl rfl rfl rfl) rfl rfl ?_
        refine RegL.q (OpQ.assign rfl rfl) rfl rfl rfl ?_
        refine RegL.done ?_
        refine EvtL.seqReg ?_
        refine RegL.q (OpQ.move rfl rfl) rfl rfl rfl ?_
        refine RegL.q (OpQ.int2 rfl u_26 rfl rfl rfl rfl) rfl rfl rfl ?_
        refine RegL.done ?_
        refine EvtL.cond rfl (fun g3 => ?_) (fun g3 => ?_)
        have h3 := of_decide_eq_true g3
        exact absurd h3 (by omega)
        have h3 := of_decide_eq_false g3
        refine EvtL.skip ?_
        refine EvtL.seqReg ?_
        refine RegL.op (OpL.callFn rfl rfl (by kernel_rfl) rfl (CallTo.memo (hit_5))) rfl rfl rfl ?_
        refine RegL.q (OpQ.assign rfl rfl) rfl rfl rfl ?_
        refine RegL.done ?_
        refine EvtL.ret ⟨.inl rfl, rfl, rfl, rfl, _, _, _, (res_tmp rfl rfl), rfl, rfl, ?_⟩
        exact boolRes rfl
  · rcases parse_cases w with ⟨k2, t2, hA, ht2, hB⟩ | ⟨k2, t2, e2, he2, hA⟩
    · refine CallTo.s0 (fn := Tryz.f4) rfl rfl (by kernel_rfl) rfl rfl rfl rfl ?_
      focus
        refine EvtL.seqReg ?_
        refine RegL.op (OpL.boxS 1 rfl rfl rfl rfl) rfl rfl rfl ?_
        refine RegL.q (OpQ.assign rfl rfl) rfl rfl rfl ?_
        refine RegL.done ?_
        refine EvtL.seq ?_
        refine EvtL.seqReg ?_
        refine RegL.q (OpQ.move rfl rfl) rfl rfl rfl ?_
        refine RegL.q (OpQ.lenStr rfl rfl rfl rfl u_9 rfl) rfl rfl rfl ?_
        refine RegL.q (OpQ.int2 rfl u_3 rfl rfl rfl rfl) rfl rfl rfl ?_
        refine RegL.q (OpQ.move rfl rfl) rfl rfl rfl ?_
        refine RegL.both rfl rfl rfl rfl (fun g1 => ?_) (fun g1 => ?_)
        have h1 := of_decide_eq_true g1
        refine RegL.skip rfl rfl rfl rfl (by assumption) rfl rfl ?_
        refine RegL.skip rfl rfl rfl rfl (by assumption) rfl rfl ?_
        refine RegL.skip rfl rfl rfl rfl (by assumption) rfl rfl ?_
        refine RegL.skip rfl rfl rfl rfl (by assumption) rfl rfl ?_
        refine RegL.q (OpQ.pickT rfl rfl (by assumption) rfl) rfl rfl rfl ?_
        refine RegL.done ?_
        refine EvtL.condT rfl rfl ?_
        refine EvtL.seqReg ?_
        refine RegL.op (OpL.callFn rfl rfl (by kernel_rfl) rfl (CallTo.memo (hit_5))) rfl rfl rfl ?_
        refine RegL.q (OpQ.assign rfl rfl) rfl rfl rfl ?_
        refine RegL.done ?_
        refine EvtL.ret ⟨.inl rfl, rfl, rfl, rfl, _, _, _, (res_tmp rfl rfl), rfl, rfl, ?_⟩
        exact boolRes rfl
        have h1 := of_decide_eq_false g1
        refine RegL.go rfl rfl rfl rfl (by assumption) (OpL.q (OpQ.fieldAddr rfl f_24_1 rfl)) rfl rfl ?_
        refine RegL.go rfl rfl rfl rfl (by assumption) (OpL.loadS1 rfl ag_9 sz_9 rfl rfl rfl) rfl rfl ?_
        refine RegL.go rfl rfl rfl rfl (by assumption) (OpL.q (OpQ.lenStr rfl rfl rfl rfl u_9 rfl)) rfl rfl ?_
        refine RegL.go rfl rfl rfl rfl (by assumption) (OpL.q (OpQ.int2 rfl u_3 rfl rfl rfl rfl)) rfl rfl ?_
        refine RegL.q (OpQ.pickF rfl rfl (by assumption) rfl) rfl rfl rfl ?_
        refine RegL.done ?_
        refine EvtL.cond rfl (fun g2 => ?_) (fun g2 => ?_)
        have h2 := of_decide_eq_true g2
        refine EvtL.seqReg ?_
        refine RegL.op (OpL.callFn rfl rfl (by kernel_rfl) rfl (CallTo.memo (hit_5))) rfl rfl rfl ?_
        refine RegL.q (OpQ.assign rfl rfl) rfl rfl rfl ?_
        refine RegL.done ?_
        refine EvtL.ret ⟨.inl rfl, rfl, rfl, rfl, _, _, _, (res_tmp rfl rfl), rfl, rfl, ?_⟩
        exact boolRes rfl
        have h2 := of_decide_eq_false g2
        refine EvtL.skip ?_
        refine EvtL.seq ?_
        refine EvtL.seqReg ?_
        refine RegL.op (OpL.loadSA rfl ag_24 sz_24 rfl rfl (Nat.le_of_ble_eq_true rfl)) rfl rfl rfl ?_
        refine RegL.op (OpL.callFn rfl rfl (by kernel_rfl) rfl (CallTo.memo (hit_8 (by first | assumption | omega | (simp only [List.length_append, List.length_cons, List.length_nil, List.length_take, List.length_drop]; omega))))) rfl rfl rfl ?_
        refine RegL.q (OpQ.move rfl rfl) rfl rfl rfl ?_
        rotate_left
      rw [hP]
      focus
        refine RegL.q (OpQ.extract rfl rfl rfl) rfl rfl rfl ?_
        refine RegL.q (OpQ.extract rfl rfl rfl) rfl rfl rfl ?_
        refine RegL.q (OpQ.assign rfl rfl) rfl rfl rfl ?_
        refine RegL.q (OpQ.assign rfl rfl) rfl rfl rfl ?_
        refine RegL.done ?_
        refine EvtL.seqReg ?_
        refine RegL.q (OpQ.move rfl rfl) rfl rfl rfl ?_
        refine RegL.q (OpQ.int2 rfl u_26 rfl rfl rfl rfl) rfl rfl rfl ?_
        refine RegL.done ?_
        refine EvtL.cond rfl (fun g3 => ?_) (fun g3 => ?_)
        have h3 := of_decide_eq_true g3
        exact absurd h3 (by omega)
        have h3 := of_decide_eq_false g3
        refine EvtL.skip ?_
        refine EvtL.seq ?_
        refine EvtL.seqReg ?_
        refine RegL.q (OpQ.move rfl rfl) rfl rfl rfl ?_
        refine RegL.op (OpL.callFn rfl rfl (by kernel_rfl) rfl (CallTo.memo (hit_6 (by first | assumption | omega | (simp only [List.length_append, List.length_cons, List.length_nil, List.length_take, List.length_drop]; omega))))) rfl rfl rfl ?_
        refine RegL.q (OpQ.move rfl rfl) rfl rfl rfl ?_
        rotate_left
      rw [hA]
      refine RegL.q (OpQ.extract rfl rfl rfl) rfl rfl rfl ?_
      refine RegL.q (OpQ.extract rfl rfl rfl) rfl rfl rfl ?_
      refine RegL.op (OpL.allocS 2 rfl z_24 rfl) rfl rfl rfl ?_
      refine RegL.opN (OpL.storeS rfl sz_24 rfl rfl rfl rfl rfl rfl) rfl rfl ?_
      refine RegL.q (OpQ.assign rfl rfl) rfl rfl rfl ?_
      refine RegL.done ?_
      refine EvtL.seqReg ?_
      refine RegL.q (OpQ.move rfl rfl) rfl rfl rfl ?_
      refine RegL.q (OpQ.int2 rfl u_26 rfl rfl rfl rfl) rfl rfl rfl ?_
      refine RegL.done ?_
      refine EvtL.condT rfl rfl ?_
      refine EvtL.seqReg ?_
      refine RegL.op (OpL.loadSA rfl ag_24 sz_24 rfl rfl (Nat.le_of_ble_eq_true rfl)) rfl rfl rfl ?_
      refine RegL.op (OpL.callFn rfl rfl (by kernel_rfl) rfl (CallTo.memo (hit_8 (by first | assumption | omega | (simp only [List.length_append, List.length_cons, List.length_nil, List.length_take, List.length_drop]; omega))))) rfl rfl rfl ?_
      refine RegL.q (OpQ.move rfl rfl) rfl rfl rfl ?_
      rw [hB]
      focus
        refine RegL.q (OpQ.extract rfl rfl rfl) rfl rfl rfl ?_
        refine RegL.q (OpQ.extract rfl rfl rfl) rfl rfl rfl ?_
        refine RegL.q (OpQ.assign rfl rfl) rfl rfl rfl ?_
        refine RegL.q (OpQ.assign rfl rfl) rfl rfl rfl ?_
        refine RegL.done ?_
        refine EvtL.seqReg ?_
        refine RegL.q (OpQ.move rfl rfl) rfl rfl rfl ?_
        refine RegL.q (OpQ.int2 rfl u_26 rfl rfl rfl rfl) rfl rfl rfl ?_
        refine RegL.q (OpQ.move rfl rfl) rfl rfl rfl ?_
        refine RegL.go rfl rfl rfl rfl rfl (OpL.q (OpQ.move rfl rfl)) rfl rfl ?_
        refine RegL.go rfl rfl rfl rfl rfl (OpL.q (OpQ.move rfl rfl)) rfl rfl ?_
        refine RegL.go rfl rfl rfl rfl rfl (OpL.q (OpQ.str2 rfl u_9 rfl rfl rfl rfl)) rfl rfl ?_
        refine RegL.q (OpQ.pickF rfl rfl rfl rfl) rfl rfl rfl ?_
        refine RegL.done ?_
        refine EvtL.cond rfl (fun g4 => ?_) (fun g4 => ?_)
        have h4 := bnT g4
        refine EvtL.seqReg ?_
        refine RegL.q (OpQ.assign rfl rfl) rfl rfl rfl ?_
        refine RegL.done ?_
        refine EvtL.ret ⟨.inl rfl, rfl, rfl, rfl, _, _, _, (res_tmp rfl rfl), rfl, rfl, ?_⟩
        refine boolRes ?_
        rotate_left
        have h4 := bnF g4
        refine EvtL.skip ?_
        refine EvtL.seqReg ?_
        refine RegL.op (OpL.callFn rfl rfl (by kernel_rfl) rfl (CallTo.memo (hit_5))) rfl rfl rfl ?_
        refine RegL.q (OpQ.assign rfl rfl) rfl rfl rfl ?_
        refine RegL.done ?_
        refine EvtL.ret ⟨.inl rfl, rfl, rfl, rfl, _, _, _, (res_tmp rfl rfl), rfl, rfl, ?_⟩
        exact boolRes rfl
      exact absurd rfl h4
    · refine CallTo.s0 (fn := Tryz.f4) rfl rfl (by kernel_rfl) rfl rfl rfl rfl ?_
      focus
        refine EvtL.seqReg ?_
        refine RegL.op (OpL.boxS 1 rfl rfl rfl rfl) rfl rfl rfl ?_
        refine RegL.q (OpQ.assign rfl rfl) rfl rfl rfl ?_
        refine RegL.done ?_
        refine EvtL.seq ?_
        refine EvtL.seqReg ?_
        refine RegL.q (OpQ.move rfl rfl) rfl rfl rfl ?_
        refine RegL.q (OpQ.lenStr rfl rfl rfl rfl u_9 rfl) rfl rfl rfl ?_
        refine RegL.q (OpQ.int2 rfl u_3 rfl rfl rfl rfl) rfl rfl rfl ?_
        refine RegL.q (OpQ.move rfl rfl) rfl rfl rfl ?_
        refine RegL.both rfl rfl rfl rfl (fun g1 => ?_) (fun g1 => ?_)
        have h1 := of_decide_eq_true g1
        refine RegL.skip rfl rfl rfl rfl (by assumption) rfl rfl ?_
        refine RegL.skip rfl rfl rfl rfl (by assumption) rfl rfl ?_
        refine RegL.skip rfl rfl rfl rfl (by assumption) rfl rfl ?_
        refine RegL.skip rfl rfl rfl rfl (by assumption) rfl rfl ?_
        refine RegL.q (OpQ.pickT rfl rfl (by assumption) rfl) rfl rfl rfl ?_
        refine RegL.done ?_
        refine EvtL.condT rfl rfl ?_
        refine EvtL.seqReg ?_
        refine RegL.op (OpL.callFn rfl rfl (by kernel_rfl) rfl (CallTo.memo (hit_5))) rfl rfl rfl ?_
        refine RegL.q (OpQ.assign rfl rfl) rfl rfl rfl ?_
        refine RegL.done ?_
        refine EvtL.ret ⟨.inl rfl, rfl, rfl, rfl, _, _, _, (res_tmp rfl rfl), rfl, rfl, ?_⟩
        exact boolRes rfl
        have h1 := of_decide_eq_false g1
        refine RegL.go rfl rfl rfl rfl (by assumption) (OpL.q (OpQ.fieldAddr rfl f_24_1 rfl)) rfl rfl ?_
        refine RegL.go rfl rfl rfl rfl (by assumption) (OpL.loadS1 rfl ag_9 sz_9 rfl rfl rfl) rfl rfl ?_
        refine RegL.go rfl rfl rfl rfl (by assumption) (OpL.q (OpQ.lenStr rfl rfl rfl rfl u_9 rfl)) rfl rfl ?_
        refine RegL.go rfl rfl rfl rfl (by assumption) (OpL.q (OpQ.int2 rfl u_3 rfl rfl rfl rfl)) rfl rfl ?_
        refine RegL.q (OpQ.pickF rfl rfl (by assumption) rfl) rfl rfl rfl ?_
        refine RegL.done ?_
        refine EvtL.cond rfl (fun g2 => ?_) (fun g2 => ?_)
        have h2 := of_decide_eq_true g2
        refine EvtL.seqReg ?_
        refine RegL.op (OpL.callFn rfl rfl (by kernel_rfl) rfl (CallTo.memo (hit_5))) rfl rfl rfl ?_
        refine RegL.q (OpQ.assign rfl rfl) rfl rfl rfl ?_
        refine RegL.done ?_
        refine EvtL.ret ⟨.inl rfl, rfl, rfl, rfl, _, _, _, (res_tmp rfl rfl), rfl, rfl, ?_⟩
        exact boolRes rfl
        have h2 := of_decide_eq_false g2
        refine EvtL.skip ?_
        refine EvtL.seq ?_
        refine EvtL.seqReg ?_
        refine RegL.op (OpL.loadSA rfl ag_24 sz_24 rfl rfl (Nat.le_of_ble_eq_true rfl)) rfl rfl rfl ?_
        refine RegL.op (OpL.callFn rfl rfl (by kernel_rfl) rfl (CallTo.memo (hit_8 (by first | assumption | omega | (simp only [List.length_append, List.length_cons, List.length_nil, List.length_take, List.length_drop]; omega))))) rfl rfl rfl ?_
        refine RegL.q (OpQ.move rfl rfl) rfl rfl rfl ?_
        rotate_left
      rw [hP]
      focus
        refine RegL.q (OpQ.extract rfl rfl rfl) rfl rfl rfl ?_
        refine RegL.q (OpQ.extract rfl rfl rfl) rfl rfl rfl ?_
        refine RegL.q (OpQ.assign rfl rfl) rfl rfl rfl ?_
        refine RegL.q (OpQ.assign rfl rfl) rfl rfl rfl ?_
        refine RegL.done ?_
        refine EvtL.seqReg ?_
        refine RegL.q (OpQ.move rfl rfl) rfl rfl rfl ?_
        refine RegL.q (OpQ.int2 rfl u_26 rfl rfl rfl rfl) rfl rfl rfl ?_
        refine RegL.done ?_
        refine EvtL.cond rfl (fun g3 => ?_) (fun g3 => ?_)
        have h3 := of_decide_eq_true g3
        exact absurd h3 (by omega)
        have h3 := of_decide_eq_false g3
        refine EvtL.skip ?_
        refine EvtL.seq ?_
        refine EvtL.seqReg ?_
        refine RegL.q (OpQ.move rfl rfl) rfl rfl rfl ?_
        refine RegL.op (OpL.callFn rfl rfl (by kernel_rfl) rfl (CallTo.memo (hit_6 (by first | assumption | omega | (simp only [List.length_append, List.length_cons, List.length_nil, List.length_take, List.length_drop]; omega))))) rfl rfl rfl ?_
        refine RegL.q (OpQ.move rfl rfl) rfl rfl rfl ?_
        rotate_left
      rw [hA]
      focus
        refine RegL.q (OpQ.extract rfl rfl rfl) rfl rfl rfl ?_
        refine RegL.q (OpQ.extract rfl rfl rfl) rfl rfl rfl ?_
        refine RegL.op (OpL.allocS 2 rfl z_24 rfl) rfl rfl rfl ?_
        refine RegL.opN (OpL.storeS rfl sz_24 rfl rfl rfl rfl rfl rfl) rfl rfl ?_
        refine RegL.q (OpQ.assign rfl rfl) rfl rfl rfl ?_
        refine RegL.done ?_
        refine EvtL.seqReg ?_
        refine RegL.q (OpQ.move rfl rfl) rfl rfl rfl ?_
        refine RegL.q (OpQ.int2 rfl u_26 rfl rfl rfl rfl) rfl rfl rfl ?_
        refine RegL.done ?_
        refine EvtL.cond rfl (fun g4 => ?_) (fun g4 => ?_)
        have h4 := of_decide_eq_true g4
        exact absurd h4 (by omega)
        have h4 := of_decide_eq_false g4
        refine EvtL.skip ?_
        refine EvtL.seqReg ?_
        refine RegL.op (OpL.callFn rfl rfl (by kernel_rfl) rfl (CallTo.memo (hit_5))) rfl rfl rfl ?_
        refine RegL.q (OpQ.assign rfl rfl) rfl rfl rfl ?_
        refine RegL.done ?_
        refine EvtL.ret ⟨.inl rfl, rfl, rfl, rfl, _, _, _, (res_tmp rfl rfl), rfl, rfl, ?_⟩
        exact boolRes rfl
end Go.Proofs.YtmcjglkpjfnfcaaGreat

/- All that is known; the statements' functions, called. -/
open Go Am
namespace Go.Proofs.YtmcjglkpjfnfcaaGreat
theorem parsedV_ok (w : List UInt8) : closedV 40 (parsedV w) = true := by
  unfold parsedV
  cases h : kinds.find? (isCmd w) with
  | none => rfl
  | some k => rcases ifaceV_cases h with rfl | rfl | rfl | rfl | rfl | rfl | rfl | rfl | rfl <;> rfl
section
variable (h0 : KnownF Tryz.prog 5 [] (.bool true))
include h0
theorem all9 : KnownAll Tryz.prog K9 := by
  have a5 := all5 h0
  have a6 : KnownAll Tryz.prog K6 := addC_all progOk a5 (fun p => text_to p.1.1 p.1.2 p.2) (fun _ => rfl) (fun _ => rfl)
  have a7 : KnownAll Tryz.prog K7 := addC_all progOk a6 (fun p => command_to p.1.1 p.1.2 p.2) (fun _ => rfl) (fun _ => rfl)
  have a8 : KnownAll Tryz.prog K8 := addC_known a7 fun p => known_of progOk a7 (rprint_to p.1.1 p.1.2 p.2) rfl (by obtain ⟨s, e, h⟩ := printV_shape p.1.1 p.1.2; rw [h]; rfl)
  exact addC_known a8 fun p => known_of progOk a8 (rparse_to p.1 p.2) rfl (by obtain ⟨k, t, e, h⟩ := parseV_shape p.1; rw [h]; rfl)
theorem all13 : KnownAll Tryz.prog K13 := by
  have a9 := all9 h0
  have a10 : KnownAll Tryz.prog K10 := addC_all progOk a9 (fun p => cut_to p.1 p.2) (fun _ => rfl) (fun _ => rfl)
  have b1 := addC_all (f := 54) (enc := fun p : List UInt8 × UInt8 => [.str p.1, .str [p.2]]) (res := fun p => .bool (decide (0 ≤ idxI p.2 p.1))) progOk a10 (fun p => contains_to p.1 p.2) (fun _ => rfl) (fun _ => rfl)
  have b2 := addC_known (f := 35) (enc := fun w : List UInt8 => [.str w]) (res := fun _ => .bool true) b1 fun p => known_of progOk a10 (any_to p) rfl rfl
  have a11 : KnownAll Tryz.prog K11 := addC_known b2 fun p => known_of progOk a10 (search_to p) rfl rfl
  have a12 : KnownAll Tryz.prog K12 := addC_known a11 fun p => known_of progOk a11 (parsed_to p.1 p.2) rfl (parsedV_ok p.1)
  exact addC_known a12 fun p => known_of progOk a12 (parse_to p.1 p.2) rfl (by obtain ⟨k, t, e, h⟩ := parseV_shape p.1; rw [h]; rfl)
theorem all14 : KnownAll Tryz.prog K14 := by
  have m0 := all13 h0
  have m1 : KnownAll Tryz.prog M1 := addC_known m0 fun p => known_of progOk m0 (made1_to p rfl) rfl rfl
  have m2 : KnownAll Tryz.prog M2 := addC_known m1 fun p => known_of progOk m1 (made2_to p rfl) rfl rfl
  have m3 : KnownAll Tryz.prog M3 := addC_known m2 fun p => known_of progOk m2 (made3_to p rfl) rfl rfl
  have m4 : KnownAll Tryz.prog M4 := addC_known m3 fun p => known_of progOk m3 (made4_to rfl) rfl rfl
  have m5 : KnownAll Tryz.prog M5 := addC_known m4 fun p => known_of progOk m4 (made5_to rfl) rfl rfl
  have m6 : KnownAll Tryz.prog M6 := addC_known m5 fun p => known_of progOk m5 (made6_to rfl) rfl rfl
  have m7 : KnownAll Tryz.prog M7 := addC_known m6 fun p => known_of progOk m6 (made7_to rfl) rfl rfl
  have m8 : KnownAll Tryz.prog M8 := addC_known m7 fun p => known_of progOk m7 (made8_to p rfl) rfl rfl
  have m9 : KnownAll Tryz.prog M9 := addC_known m8 fun p => known_of progOk m8 (made9_to rfl) rfl rfl
  exact addC_known m9 fun p => known_of progOk m9 (print_to p.1.1 p.1.2 p.2) rfl (by obtain ⟨s, e, h⟩ := printV_shape p.1.1 p.1.2; rw [h]; rfl)
end
/-- The statement about parsing says true of every string and command. -/
theorem parses_calls (h : KnownF Tryz.prog 5 [] (.bool true)) (w : World) (s t : ByteArray) (k : Int) :
    Calls Tryz.prog 3 #[.string s, .agg #[.int .i64 k, .string t]] w fun e w' => e = .returned (.bool true) ∧ Go.RowKit.Below w.heap.size w w' :=
  calls_of progOk (all14 h) (args := [.str s.data.toList, .agg [.int .i64 k, .str t.data.toList]]) rfl (parses_to s.data.toList k t.data.toList) (.cons (.str rfl) (.cons (.agg (.cons (.int _ _) (.cons (.str rfl) .nil)) (by intro v hv; simp at hv; rcases hv with rfl | rfl <;> rfl)) .nil))
theorem back_calls (h : KnownF Tryz.prog 5 [] (.bool true)) (w : World) (s t : ByteArray) (k : Int) :
    Calls Tryz.prog 4 #[.string s, .agg #[.int .i64 k, .string t]] w fun e w' => e = .returned (.bool true) ∧ Go.RowKit.Below w.heap.size w w' :=
  calls_of progOk (all14 h) (args := [.str s.data.toList, .agg [.int .i64 k, .str t.data.toList]]) rfl (back_to s.data.toList k t.data.toList) (.cons (.str rfl) (.cons (.agg (.cons (.int _ _) (.cons (.str rfl) .nil)) (by intro v hv; simp at hv; rcases hv with rfl | rfl <;> rfl)) .nil))
end Go.Proofs.YtmcjglkpjfnfcaaGreat
