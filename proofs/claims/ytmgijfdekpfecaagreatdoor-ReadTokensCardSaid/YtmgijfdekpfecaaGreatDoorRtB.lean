/- ReadTokens: what its greater functions compute; the two sides agree. -/
import Derived.Test.YtmgijfdekpfecaaGreatDoorRtA
set_option linter.unusedSectionVars false
set_option linter.unusedVariables false
set_option linter.unusedSimpArgs false

/- Letters and integers. -/
open Go Am
namespace Go.Proofs.YtmgijfdekpfecaaGreatDoor
/-- A token without its place, and whether it is one. -/
def tokV (kd : Int) (text : List UInt8) (ok : Bool) : AV := .tuple [.agg [.int .i64 kd, .str text, .int .i64 0, .int .i64 0], .bool ok]
def lettersS (w : List UInt8) : Nat × Nat × Bool :=
  if isIn 65 90 (w.getD 0 0).toNat = true then (2, 1 + tw (isIn 97 122) (w.drop 1), decide (1 + tw (isIn 97 122) (w.drop 1) ≤ 8))
  else if isWord (w.take (tw (isIn 97 122) w)) = true then (3, tw (isIn 97 122) w, true)
  else (1, tw (isIn 97 122) w, decide (tw (isIn 97 122) w ≤ 8))
def lettersV (w : List UInt8) : AV := tokV ((lettersS w).1 : Nat) (w.take (lettersS w).2.1) (lettersS w).2.2
theorem leng_le {n m : Nat} (h : n ≤ m) (w : List UInt8) (hm : w.length = m) : (w.take n).length = n := by rw [List.length_take]; omega
section
variable {K : FuncId → List AV → Option AV}
theorem letters_to (hK : K 131 = fun _ => none) (h2 : Two K) (w : List UInt8) (hw : w.length < Big) (h0 : 0 < w.length) :
    CallTo (EK K) 131 [.str w] S0 (lettersV w) := by
  have hw' : w.length < 1099511627776 := hw
  have hl1 : (w.drop 1).length = w.length - 1 := List.length_drop
  have ts := tw_le (isIn 97 122) w
  have ts1 := tw_le (isIn 97 122) (w.drop 1)
  refine CallTo.flat (fn := Tryz.f131) (by show K 131 _ = none; rw [hK]) (by kernel_rfl) rfl rfl rfl rfl (fun _ _ => rfl) (fun _ => rfl) ?_
  refine EvtL.seqReg ?_
  refine RegL.op (OpL.alloc rfl zero_tok) rfl rfl rfl ?_
  refine RegL.q (OpQ.assign rfl rfl) rfl rfl rfl ?_
  refine RegL.done ?_
  refine EvtL.seq ?_
  refine EvtL.seqReg ?_
  refine RegL.q (OpQ.move rfl rfl) rfl rfl rfl ?_
  refine RegL.q (OpQ.indexD (n := 0) rfl u_string rfl rfl h0) rfl rfl rfl ?_
  refine RegL.op (OpL.callFn rfl rfl (h2.bytes _ _ rfl).1 rfl (CallTo.memo ((h2.bytes 130 _ rfl).2 _))) rfl rfl rfl ?_
  refine RegL.done ?_
  refine EvtL.cond rfl (fun c1 => ?_) (fun c1 => ?_)
  · have hS : lettersS w = (2, 1 + tw (isIn 97 122) (w.drop 1), decide (1 + tw (isIn 97 122) (w.drop 1) ≤ 8)) := by unfold lettersS; rw [if_pos c1]
    refine EvtL.seqReg ?_
    refine RegL.q (OpQ.move rfl rfl) rfl rfl rfl ?_
    refine RegL.q (OpQ.move rfl rfl) rfl rfl rfl ?_
    refine RegL.q (OpQ.sliceStr rfl u_string rfl rfl rfl bounds_none (bounds_some (n := 1) h0) ⟨h0, Nat.le_refl _⟩) rfl rfl rfl ?_
    rw [List.take_of_length_le (show (w.drop 1).length ≤ w.length - 1 by omega)]
    refine RegL.op (OpL.callFn rfl rfl (by kernel_rfl) rfl (CallTo.memo (h2.row (g := 118) (p := isIn 97 122) rfl _ (by omega)))) rfl rfl rfl ?_
    refine RegL.q (OpQ.addN (a := 1) rfl u_int rfl rfl (by first | omega | assumption)) rfl rfl rfl ?_
    refine RegL.q (OpQ.sliceStr rfl u_string rfl rfl rfl (bounds_some (n := 1 + tw (isIn 97 122) (w.drop 1)) (by omega)) rfl ⟨Nat.zero_le _, by omega⟩) rfl rfl rfl ?_
    rw [List.drop_zero, Nat.sub_zero]
    refine RegL.q (OpQ.assign rfl rfl) rfl rfl rfl ?_
    refine RegL.done ?_
    refine EvtL.seqReg ?_
    refine RegL.q (OpQ.move rfl rfl) rfl rfl rfl ?_
    refine RegL.q (OpQ.build rfl plan_tok rfl rfl) rfl rfl rfl ?_
    refine RegL.q (OpQ.move rfl rfl) rfl rfl rfl ?_
    refine RegL.q (OpQ.lenStr rfl rfl rfl rfl u_string rfl) rfl rfl rfl ?_
    refine RegL.q (OpQ.int2 rfl u_int rfl rfl rfl rfl) rfl rfl rfl ?_
    refine RegL.opN (OpL.store rfl sz_tok rfl rfl rfl) rfl rfl ?_
    refine RegL.q (OpQ.assign rfl rfl) rfl rfl rfl ?_
    refine RegL.done ?_
    refine EvtL.ret ?_
    refine ⟨.inl rfl, rfl, rfl, _, res_cell rfl agg_tok sz_tok rfl rfl (res_tmp rfl rfl), ?_⟩
    unfold lettersV
    rw [hS, leng_le (m := w.length) (by omega) w rfl]
    show AV.tuple [_, .bool (decide (((1 + tw (isIn 97 122) (w.drop 1) : Nat) : Int) ≤ 8))] = tokV _ _ (decide _)
    rw [show decide (((1 + tw (isIn 97 122) (w.drop 1) : Nat) : Int) ≤ 8) = decide (1 + tw (isIn 97 122) (w.drop 1) ≤ 8) from decide_eq_decide.2 (by omega)]
    rfl
  · have n1 : ¬ isIn 65 90 (w.getD 0 0).toNat = true := by rw [c1]; exact Bool.false_ne_true
    refine EvtL.skip ?_
    refine EvtL.seqReg ?_
    refine RegL.q (OpQ.move rfl rfl) rfl rfl rfl ?_
    refine RegL.q (OpQ.move rfl rfl) rfl rfl rfl ?_
    refine RegL.op (OpL.callFn rfl rfl (by kernel_rfl) rfl (CallTo.memo (h2.row (g := 118) (p := isIn 97 122) rfl _ hw))) rfl rfl rfl ?_
    skip
    refine RegL.q (OpQ.sliceStr rfl u_string rfl rfl rfl (bounds_some (n := tw (isIn 97 122) w) ts) rfl ⟨Nat.zero_le _, ts⟩) rfl rfl rfl ?_
    rw [List.drop_zero, Nat.sub_zero]
    refine RegL.q (OpQ.assign rfl rfl) rfl rfl rfl ?_
    refine RegL.done ?_
    refine EvtL.seq ?_
    refine EvtL.seqReg ?_
    refine RegL.q (OpQ.move rfl rfl) rfl rfl rfl ?_
    refine RegL.op (OpL.callFn rfl rfl (by kernel_rfl) rfl (CallTo.memo (h2.word _))) rfl rfl rfl ?_
    refine RegL.done ?_
    refine EvtL.cond rfl (fun c2 => ?_) (fun c2 => ?_)
    · have hS : lettersS w = (3, tw (isIn 97 122) w, true) := by unfold lettersS; rw [if_neg n1, if_pos c2]
      refine EvtL.seqReg ?_
      refine RegL.q (OpQ.move rfl rfl) rfl rfl rfl ?_
      refine RegL.q (OpQ.build rfl plan_tok rfl rfl) rfl rfl rfl ?_
      refine RegL.opN (OpL.store rfl sz_tok rfl rfl rfl) rfl rfl ?_
      refine RegL.q (OpQ.assign rfl rfl) rfl rfl rfl ?_
      refine RegL.done ?_
      refine EvtL.ret ?_
      refine ⟨.inl rfl, rfl, rfl, _, res_cell rfl agg_tok sz_tok rfl rfl (res_tmp rfl rfl), ?_⟩
      unfold lettersV
      rw [hS]; rfl
    · have hS : lettersS w = (1, tw (isIn 97 122) w, decide (tw (isIn 97 122) w ≤ 8)) := by unfold lettersS; rw [if_neg n1, if_neg (by rw [c2]; exact Bool.false_ne_true)]
      refine EvtL.skip ?_
      refine EvtL.seqReg ?_
      refine RegL.q (OpQ.move rfl rfl) rfl rfl rfl ?_
      refine RegL.q (OpQ.build rfl plan_tok rfl rfl) rfl rfl rfl ?_
      refine RegL.q (OpQ.move rfl rfl) rfl rfl rfl ?_
      refine RegL.q (OpQ.lenStr rfl rfl rfl rfl u_string rfl) rfl rfl rfl ?_
      refine RegL.q (OpQ.int2 rfl u_int rfl rfl rfl rfl) rfl rfl rfl ?_
      refine RegL.opN (OpL.store rfl sz_tok rfl rfl rfl) rfl rfl ?_
      refine RegL.q (OpQ.assign rfl rfl) rfl rfl rfl ?_
      refine RegL.done ?_
      refine EvtL.ret ?_
      refine ⟨.inl rfl, rfl, rfl, _, res_cell rfl agg_tok sz_tok rfl rfl (res_tmp rfl rfl), ?_⟩
      unfold lettersV
      rw [hS, leng_le (m := w.length) ts w rfl]
      show AV.tuple [_, .bool (decide (((tw (isIn 97 122) w : Nat) : Int) ≤ 8))] = tokV _ _ (decide _)
      rw [show decide (((tw (isIn 97 122) w : Nat) : Int) ≤ 8) = decide (tw (isIn 97 122) w ≤ 8) from decide_eq_decide.2 (by omega)]
      rfl
end
end Go.Proofs.YtmgijfdekpfecaaGreatDoor

/- Integers. -/
open Go Am
namespace Go.Proofs.YtmgijfdekpfecaaGreatDoor
/-- Is the text of an integer too short, too long, or does it begin with a zero of its own? -/
def badInt (f d : Nat) (c : Nat) : Bool := decide (d = 0) || decide (7 < d) || (decide (c = 48) && decide (1 < d + f))
def minusS (w : List UInt8) : Nat := tw isMinus (w.take 1)
def digitsS (w : List UInt8) : Nat := tw (isIn 48 57) (w.drop (minusS w))
def integerS (w : List UInt8) : Nat × Nat × Bool :=
  if badInt (minusS w) (digitsS w) (w.getD (minusS w) 0).toNat = true then (0, 0, false) else (4, minusS w + digitsS w, true)
def integerV (w : List UInt8) : AV := tokV ((integerS w).1 : Nat) (w.take (integerS w).2.1) (integerS w).2.2
theorem bytesEq_nil (l : List UInt8) : bytesEq l [] = decide (l.length = 0) := by cases l <;> rfl
section
variable {K : FuncId → List AV → Option AV}
theorem integer_to (hK : K 133 = fun _ => none) (h2 : Two K) (w : List UInt8) (hw : w.length < Big) (h0 : 0 < w.length) :
    CallTo (EK K) 133 [.str w] S0 (integerV w) := by
  have hw' : w.length < 1099511627776 := hw
  have hm : minusS w ≤ 1 := by have := tw_le isMinus (w.take 1); rw [List.length_take] at this; unfold minusS; omega
  have hd : digitsS w ≤ w.length - minusS w := by have := tw_le (isIn 48 57) (w.drop (minusS w)); rw [List.length_drop] at this; exact this
  have hbad : badInt (minusS w) (digitsS w) (w.getD (minusS w) 0).toNat = true → integerS w = (0, 0, false) := fun h => by unfold integerS; rw [if_pos h]
  have hok : badInt (minusS w) (digitsS w) (w.getD (minusS w) 0).toNat = false → integerS w = (4, minusS w + digitsS w, true) := fun h => by unfold integerS; rw [if_neg (by rw [h]; exact Bool.false_ne_true)]
  refine CallTo.flat (fn := Tryz.f133) (by show K 133 _ = none; rw [hK]) (by kernel_rfl) rfl rfl rfl rfl (fun _ _ => rfl) (fun _ => rfl) ?_
  refine EvtL.seqReg ?_
  refine RegL.op (OpL.alloc rfl zero_tok) rfl rfl rfl ?_
  refine RegL.q (OpQ.assign rfl rfl) rfl rfl rfl ?_
  refine RegL.done ?_
  refine EvtL.seqReg ?_
  refine RegL.q (OpQ.move rfl rfl) rfl rfl rfl ?_
  refine RegL.q (OpQ.sliceStr rfl u_string rfl rfl rfl (bounds_some (n := 1) h0) rfl ⟨Nat.zero_le _, h0⟩) rfl rfl rfl ?_
  rw [List.drop_zero, Nat.sub_zero]
  refine RegL.op (OpL.callFn rfl rfl (by kernel_rfl) rfl (CallTo.memo (h2.row (g := 194) (p := isMinus) rfl _ (by rw [List.length_take]; exact Nat.lt_of_le_of_lt (Nat.min_le_right _ _) hw)))) rfl rfl rfl ?_
  rw [show tw isMinus (w.take 1) = minusS w from rfl]
  refine RegL.q (OpQ.assign rfl rfl) rfl rfl rfl ?_
  refine RegL.done ?_
  refine EvtL.seqReg ?_
  refine RegL.q (OpQ.move rfl rfl) rfl rfl rfl ?_
  refine RegL.q (OpQ.move rfl rfl) rfl rfl rfl ?_
  refine RegL.q (OpQ.move rfl rfl) rfl rfl rfl ?_
  refine RegL.q (OpQ.move rfl rfl) rfl rfl rfl ?_
  refine RegL.q (OpQ.move rfl rfl) rfl rfl rfl ?_
  refine RegL.q (OpQ.sliceStr rfl u_string rfl rfl rfl bounds_none (bounds_some (n := minusS w) (by omega)) ⟨by omega, Nat.le_refl _⟩) rfl rfl rfl ?_
  rw [List.take_of_length_le (show (w.drop (minusS w)).length ≤ w.length - minusS w by rw [List.length_drop]; exact Nat.le_refl _)]
  refine RegL.op (OpL.callFn rfl rfl (by kernel_rfl) rfl (CallTo.memo (h2.row (g := 132) (p := isIn 48 57) rfl _ (by rw [List.length_drop]; show w.length - minusS w < 1099511627776; omega)))) rfl rfl rfl ?_
  rw [show tw (isIn 48 57) (w.drop (minusS w)) = digitsS w from rfl]
  refine RegL.q (OpQ.addN rfl u_int rfl rfl (by first | omega | assumption)) rfl rfl rfl ?_
  refine RegL.q (OpQ.sliceStr rfl u_string rfl rfl rfl (bounds_some (n := minusS w + digitsS w) (by omega)) (bounds_some (n := minusS w) (by omega)) ⟨by omega, by omega⟩) rfl rfl rfl ?_
  rw [Nat.add_sub_cancel_left]
  have hxl : ((w.drop (minusS w)).take (digitsS w)).length = digitsS w := by rw [List.length_take, List.length_drop]; omega
  have hx0 : 0 < digitsS w → ((w.drop (minusS w)).take (digitsS w)).getD 0 0 = w.getD (minusS w) 0 := fun h => by
    rw [List.getD_eq_getElem?_getD, List.getElem?_take_of_lt h, ← List.getD_eq_getElem?_getD, getD_drop, Nat.add_zero]
  generalize hx : (w.drop (minusS w)).take (digitsS w) = x at *
  refine RegL.q (OpQ.assign rfl rfl) rfl rfl rfl ?_
  refine RegL.done ?_
  refine EvtL.seq ?_
  refine EvtL.seqReg ?_
  refine RegL.q (OpQ.move rfl rfl) rfl rfl rfl ?_
  refine RegL.q (OpQ.str2 rfl u_string rfl rfl rfl rfl) rfl rfl rfl ?_
  refine RegL.q (OpQ.move rfl rfl) rfl rfl rfl ?_
  have eb : bytesEq x [] = decide (digitsS w = 0) := by rw [bytesEq_nil, hxl]
  refine RegL.both rfl rfl rfl rfl (fun g1 => ?_) (fun g1 => ?_)
  · have g1' : decide (digitsS w = 0) = true := eb ▸ g1
    refine RegL.skip rfl rfl rfl rfl (by assumption) rfl rfl ?_
    refine RegL.skip rfl rfl rfl rfl (by assumption) rfl rfl ?_
    refine RegL.skip rfl rfl rfl rfl (by assumption) rfl rfl ?_
    refine RegL.q (OpQ.pickT rfl rfl (by assumption) rfl) rfl rfl rfl ?_
    refine RegL.q (OpQ.move rfl rfl) rfl rfl rfl ?_
    refine RegL.skip rfl rfl rfl rfl rfl rfl rfl ?_
    refine RegL.skip rfl rfl rfl rfl rfl rfl rfl ?_
    refine RegL.skip rfl rfl rfl rfl rfl rfl rfl ?_
    refine RegL.skip rfl rfl rfl rfl rfl rfl rfl ?_
    refine RegL.skipT rfl rfl rfl rfl rfl rfl ?_
    refine RegL.skipT rfl rfl rfl rfl rfl rfl ?_
    refine RegL.skipT rfl rfl rfl rfl rfl rfl ?_
    refine RegL.skipT rfl rfl rfl rfl rfl rfl ?_
    refine RegL.skipT rfl rfl rfl rfl rfl rfl ?_
    refine RegL.skip rfl rfl rfl rfl rfl rfl rfl ?_
    refine RegL.q (OpQ.pickT rfl rfl rfl rfl) rfl rfl rfl ?_
    refine RegL.done ?_
    refine EvtL.cond rfl (fun _ => ?_) (fun h => by cases h)
    refine EvtL.seqReg ?_
    refine RegL.q (OpQ.build rfl plan_tok rfl rfl) rfl rfl rfl ?_
    refine RegL.opN (OpL.store rfl sz_tok rfl rfl rfl) rfl rfl ?_
    refine RegL.q (OpQ.assign rfl rfl) rfl rfl rfl ?_
    refine RegL.done ?_
    refine EvtL.ret ?_
    refine ⟨.inl rfl, rfl, rfl, _, res_cell rfl agg_tok sz_tok rfl rfl (res_tmp rfl rfl), ?_⟩
    unfold integerV
    rw [hbad (by unfold badInt; rw [g1']; rfl)]; rfl
  · have g1' : decide (digitsS w = 0) = false := eb ▸ g1
    have hpos : 0 < digitsS w := by have := of_decide_eq_false g1'; omega
    refine RegL.go rfl rfl rfl rfl (by assumption) (OpL.q (OpQ.move rfl rfl)) rfl rfl ?_
    refine RegL.go rfl rfl rfl rfl (by assumption) (OpL.q (OpQ.lenStr rfl rfl rfl rfl u_string rfl)) rfl rfl ?_
    refine RegL.go rfl rfl rfl rfl (by assumption) (OpL.q (OpQ.int2 rfl u_int rfl rfl rfl rfl)) rfl rfl ?_
    refine RegL.q (OpQ.pickF rfl rfl (by assumption) rfl) rfl rfl rfl ?_
    refine RegL.q (OpQ.move rfl rfl) rfl rfl rfl ?_
    refine RegL.both rfl rfl rfl rfl (fun g2 => ?_) (fun g2 => ?_)
    · have g2' : decide (7 < digitsS w) = true := decide_eq_true (by have := of_decide_eq_true g2; omega)
      refine RegL.skip rfl rfl rfl rfl (by assumption) rfl rfl ?_
      refine RegL.skip rfl rfl rfl rfl (by assumption) rfl rfl ?_
      refine RegL.skip rfl rfl rfl rfl (by assumption) rfl rfl ?_
      refine RegL.skip rfl rfl rfl rfl (by assumption) rfl rfl ?_
      refine RegL.skipT rfl rfl rfl rfl rfl rfl ?_
      refine RegL.skipT rfl rfl rfl rfl rfl rfl ?_
      refine RegL.skipT rfl rfl rfl rfl rfl rfl ?_
      refine RegL.skipT rfl rfl rfl rfl rfl rfl ?_
      refine RegL.skipT rfl rfl rfl rfl rfl rfl ?_
      refine RegL.skip rfl rfl rfl rfl (by assumption) rfl rfl ?_
      refine RegL.q (OpQ.pickT rfl rfl (by assumption) rfl) rfl rfl rfl ?_
      refine RegL.done ?_
      refine EvtL.cond rfl (fun _ => ?_) (fun h => by cases h)
      refine EvtL.seqReg ?_
      refine RegL.q (OpQ.build rfl plan_tok rfl rfl) rfl rfl rfl ?_
      refine RegL.opN (OpL.store rfl sz_tok rfl rfl rfl) rfl rfl ?_
      refine RegL.q (OpQ.assign rfl rfl) rfl rfl rfl ?_
      refine RegL.done ?_
      refine EvtL.ret ?_
      refine ⟨.inl rfl, rfl, rfl, _, res_cell rfl agg_tok sz_tok rfl rfl (res_tmp rfl rfl), ?_⟩
      unfold integerV
      rw [hbad (by unfold badInt; rw [g2', Bool.or_true]; rfl)]; rfl
    · have g2' : decide (7 < digitsS w) = false := decide_eq_false (by have := of_decide_eq_false g2; omega)
      refine RegL.go rfl rfl rfl rfl (by assumption) (OpL.q (OpQ.move rfl rfl)) rfl rfl ?_
      refine RegL.go rfl rfl rfl rfl g2 (OpL.q (OpQ.indexD (n := 0) rfl u_string rfl rfl (by omega))) rfl rfl ?_
      rw [hx0 hpos]
      have fin : ∀ b : Bool, b = badInt (minusS w) (digitsS w) (w.getD (minusS w) 0).toNat → (b = true → integerS w = (0, 0, false)) ∧ (b = false → integerS w = (4, minusS w + digitsS w, true)) := fun b h => ⟨fun hb => hbad (by rw [← h, hb]), fun hb => hok (by rw [← h, hb])⟩
      refine RegL.go rfl rfl rfl rfl (by assumption) (OpL.q (OpQ.int2 rfl u_byte rfl rfl rfl rfl)) rfl rfl ?_
      refine RegL.go rfl rfl rfl rfl (by assumption) (OpL.q (OpQ.move rfl rfl)) rfl rfl ?_
      refine RegL.both rfl rfl rfl rfl (fun g3 => ?_) (fun g3 => ?_)
      · have g3' : decide ((w.getD (minusS w) 0).toNat = 48) = true := decide_eq_true (by have := of_decide_eq_true g3; omega)
        refine RegL.go rfl rfl rfl rfl (by assumption) (OpL.q (OpQ.move rfl rfl)) rfl rfl ?_
        refine RegL.go rfl rfl rfl rfl (by assumption) (OpL.q (OpQ.lenStr rfl rfl rfl rfl u_string rfl)) rfl rfl ?_
        refine RegL.go rfl rfl rfl rfl (by assumption) (OpL.q (OpQ.move rfl rfl)) rfl rfl ?_
        refine RegL.go rfl rfl rfl rfl (by assumption) (OpL.q (OpQ.addN rfl u_int rfl rfl (by first | omega | assumption))) rfl rfl ?_
        refine RegL.go rfl rfl rfl rfl (by assumption) (OpL.q (OpQ.int2 rfl u_int rfl rfl rfl rfl)) rfl rfl ?_
        refine RegL.go rfl rfl rfl rfl (by assumption) (OpL.q (OpQ.pickT rfl rfl (by assumption) rfl)) rfl rfl ?_
        refine RegL.q (OpQ.pickF rfl rfl (by assumption) rfl) rfl rfl rfl ?_
        refine RegL.done ?_
        refine EvtL.cond rfl (fun c => ?_) (fun c => ?_)
        · have c' : decide (1 < digitsS w + minusS w) = true := decide_eq_true (by have := of_decide_eq_true c; omega)
          refine EvtL.seqReg ?_
          refine RegL.q (OpQ.build rfl plan_tok rfl rfl) rfl rfl rfl ?_
          refine RegL.opN (OpL.store rfl sz_tok rfl rfl rfl) rfl rfl ?_
          refine RegL.q (OpQ.assign rfl rfl) rfl rfl rfl ?_
          refine RegL.done ?_
          refine EvtL.ret ?_
          refine ⟨.inl rfl, rfl, rfl, _, res_cell rfl agg_tok sz_tok rfl rfl (res_tmp rfl rfl), ?_⟩
          unfold integerV
          rw [hbad (by unfold badInt; rw [g1', g2', g3', c']; rfl)]; rfl
        · have c' : decide (1 < digitsS w + minusS w) = false := decide_eq_false (by have := of_decide_eq_false c; omega)
          refine EvtL.skip ?_
          refine EvtL.seqReg ?_
          refine RegL.q (OpQ.move rfl rfl) rfl rfl rfl ?_
          refine RegL.q (OpQ.move rfl rfl) rfl rfl rfl ?_
          refine RegL.q (OpQ.move rfl rfl) rfl rfl rfl ?_
          refine RegL.q (OpQ.lenStr rfl rfl rfl rfl u_string rfl) rfl rfl rfl ?_
          refine RegL.q (OpQ.addN rfl u_int rfl rfl (by first | omega | assumption)) rfl rfl rfl ?_
          refine RegL.q (OpQ.sliceStr rfl u_string rfl rfl rfl (bounds_some (n := minusS w + x.length) (by omega)) rfl ⟨Nat.zero_le _, by omega⟩) rfl rfl rfl ?_
          rw [List.drop_zero, Nat.sub_zero, hxl]
          refine RegL.q (OpQ.build rfl plan_tok rfl rfl) rfl rfl rfl ?_
          refine RegL.opN (OpL.store rfl sz_tok rfl rfl rfl) rfl rfl ?_
          refine RegL.q (OpQ.assign rfl rfl) rfl rfl rfl ?_
          refine RegL.done ?_
          refine EvtL.ret ?_
          refine ⟨.inl rfl, rfl, rfl, _, res_cell rfl agg_tok sz_tok rfl rfl (res_tmp rfl rfl), ?_⟩
          unfold integerV
          rw [hok (by unfold badInt; rw [g1', g2', g3', c']; rfl)]; rfl
      · have g3' : decide ((w.getD (minusS w) 0).toNat = 48) = false := decide_eq_false (by have := of_decide_eq_false g3; omega)
        refine RegL.skip rfl rfl rfl rfl (by assumption) rfl rfl ?_
        refine RegL.skip rfl rfl rfl rfl (by assumption) rfl rfl ?_
        refine RegL.skip rfl rfl rfl rfl (by assumption) rfl rfl ?_
        refine RegL.skip rfl rfl rfl rfl (by assumption) rfl rfl ?_
        refine RegL.skip rfl rfl rfl rfl (by assumption) rfl rfl ?_
        refine RegL.go rfl rfl rfl rfl (by assumption) (OpL.q (OpQ.pickF rfl rfl (by assumption) rfl)) rfl rfl ?_
        refine RegL.q (OpQ.pickF rfl rfl (by assumption) rfl) rfl rfl rfl ?_
        refine RegL.done ?_
        refine EvtL.cond rfl (fun h => by cases h) (fun _ => ?_)
        refine EvtL.skip ?_
        refine EvtL.seqReg ?_
        refine RegL.q (OpQ.move rfl rfl) rfl rfl rfl ?_
        refine RegL.q (OpQ.move rfl rfl) rfl rfl rfl ?_
        refine RegL.q (OpQ.move rfl rfl) rfl rfl rfl ?_
        refine RegL.q (OpQ.lenStr rfl rfl rfl rfl u_string rfl) rfl rfl rfl ?_
        refine RegL.q (OpQ.addN rfl u_int rfl rfl (by first | omega | assumption)) rfl rfl rfl ?_
        refine RegL.q (OpQ.sliceStr rfl u_string rfl rfl rfl (bounds_some (n := minusS w + x.length) (by omega)) rfl ⟨Nat.zero_le _, by omega⟩) rfl rfl rfl ?_
        rw [List.drop_zero, Nat.sub_zero, hxl]
        refine RegL.q (OpQ.build rfl plan_tok rfl rfl) rfl rfl rfl ?_
        refine RegL.opN (OpL.store rfl sz_tok rfl rfl rfl) rfl rfl ?_
        refine RegL.q (OpQ.assign rfl rfl) rfl rfl rfl ?_
        refine RegL.done ?_
        refine EvtL.ret ?_
        refine ⟨.inl rfl, rfl, rfl, _, res_cell rfl agg_tok sz_tok rfl rfl (res_tmp rfl rfl), ?_⟩
        unfold integerV
        rw [hok (by unfold badInt; rw [g1', g2', g3']; rfl)]; rfl
end
end Go.Proofs.YtmgijfdekpfecaaGreatDoor

/- The token with which a string begins. -/
open Go Am
namespace Go.Proofs.YtmgijfdekpfecaaGreatDoor
def spec3 (f : FuncId) (args : List AV) : Option AV := match f with
  | 131 => match args with
    | [.str w] => if w.length < Big ∧ 0 < w.length then some (lettersV w) else none
    | _ => none
  | 133 => match args with
    | [.str w] => if w.length < Big ∧ 0 < w.length then some (integerV w) else none
    | _ => none
  | 58 => match args with
    | [.str w] => if w.length < Big then some (.int .i64 (blk false w : Nat)) else none
    | _ => none
  | 22 => match args with
    | [.str w, .int .i64 (.ofNat k)] => if w.length < Big ∧ k ≤ w.length then some (.int .i64 ((k + blk false (w.drop k) : Nat) : Int)) else none
    | _ => none
  | 23 => match args with
    | [.str w, .int .i64 (.ofNat k)] => if w.length < Big ∧ k < w.length then some (oneV (w.drop k)) else none
    | _ => none
  | _ => none
def own3 : List FuncId := [131, 133, 58, 22, 23]
theorem known3 {K : FuncId → List AV → Option AV} (hp : ProgOk Tryz.prog 500 500) (hK : KnownAll Tryz.prog K) (h2 : Two K) (h0 : ∀ f ∈ own3, K f = fun _ => none) : KnownAll Tryz.prog (over spec3 K) := by
  refine over_known hK fun f args v h => ?_
  unfold spec3 at h
  split at h
  · split at h
    · split at h
      · next hw => cases h; exact known_of hp hK (letters_to (h0 _ (by decide)) h2 _ hw.1 hw.2) rfl rfl
      · cases h
    · cases h
  · split at h
    · split at h
      · next hw => cases h; exact known_of hp hK (integer_to (h0 _ (by decide)) h2 _ hw.1 hw.2) rfl rfl
      · cases h
    · cases h
  · split at h
    · split at h
      · next hw => cases h; exact known_of hp hK (blank_to (h0 _ (by decide)) h2 _ hw) rfl rfl
      · cases h
    · cases h
  · split at h
    · split at h
      · next hw => cases h; exact known_of hp hK (rblank_to (h0 _ (by decide)) _ hw.1 _ hw.2) rfl rfl
      · cases h
    · cases h
  · split at h
    · split at h
      · next hw => cases h; exact known_of hp hK (one_to (h0 _ (by decide)) h2 _ hw.1 _ hw.2) rfl rfl
      · cases h
    · cases h
  · cases h
structure Three (K : FuncId → List AV → Option AV) : Prop where
  two : Two K
  letters : ∀ w : List UInt8, w.length < Big → 0 < w.length → K 131 [.str w] = some (lettersV w)
  integer : ∀ w : List UInt8, w.length < Big → 0 < w.length → K 133 [.str w] = some (integerV w)
  blank : ∀ w : List UInt8, w.length < Big → K 58 [.str w] = some (.int .i64 (blk false w : Nat))
  rblank : ∀ (w : List UInt8) (k : Nat), w.length < Big → k ≤ w.length → K 22 [.str w, .int .i64 (k : Nat)] = some (.int .i64 ((k + blk false (w.drop k) : Nat) : Int))
  one : ∀ (w : List UInt8) (k : Nat), w.length < Big → k < w.length → K 23 [.str w, .int .i64 (k : Nat)] = some (oneV (w.drop k))
/-- A layer that says nothing of the functions below keeps what is known of them. -/
theorem two_over {K spec : FuncId → List AV → Option AV} (h : Two K) (hs : ∀ g, (byteFn g).isSome = true → ∀ args, spec g args = none) (ho : ∀ g ∈ own2, ∀ args, spec g args = none) : Two (over spec K) := by
  have e : ∀ g ∈ own2, ∀ args, over spec K g args = K g args := fun g hg args => by unfold over; rw [ho g hg args]
  exact ⟨over_bytes h.bytes hs, fun hg w hw => by rw [e _ (by decide)]; exact h.row hg w hw, fun w k hw hk => by rw [e _ (by decide)]; exact h.smalls w k hw hk, fun w k hw hk => by rw [e _ (by decide)]; exact h.digits w k hw hk,
    fun w k hw hk => by rw [e _ (by decide)]; exact h.line w k hw hk, fun w k hw hk => by rw [e _ (by decide)]; exact h.sign w k hw hk, fun w => by rw [e _ (by decide)]; exact h.rword w, fun w => by rw [e _ (by decide)]; exact h.word w,
    fun a p => by rw [e _ (by decide)]; exact h.pre a p, fun w => by rw [e _ (by decide)]; exact h.count w, by rw [e _ (by decide)]; exact h.signs⟩
theorem spec3_bytes : ∀ g, (byteFn g).isSome = true → ∀ args, spec3 g args = none := by
  intro g hg args
  unfold byteFn at hg
  split at hg <;> first | rfl | cases hg
theorem spec3_own2 : ∀ g ∈ own2, ∀ args, spec3 g args = none := by
  intro g hg args
  simp only [own2, List.mem_cons, List.mem_nil_iff, or_false] at hg
  rcases hg with rfl | rfl | rfl | rfl | rfl | rfl | rfl | rfl | rfl | rfl | rfl | rfl | rfl <;> rfl
theorem three_of {K : FuncId → List AV → Option AV} (h : Two K) : Three (over spec3 K) where
  two := two_over h spec3_bytes spec3_own2
  letters w hw h0 := by unfold over; simp only [spec3, if_pos (And.intro hw h0)]
  integer w hw h0 := by unfold over; simp only [spec3, if_pos (And.intro hw h0)]
  blank w hw := by unfold over; simp only [spec3, if_pos hw]
  rblank w k hw hk := by unfold over; simp only [spec3]; rw [show ((k : Nat) : Int) = Int.ofNat k from rfl]; simp only [if_pos (And.intro hw hk)]
  one w k hw hk := by unfold over; simp only [spec3]; rw [show ((k : Nat) : Int) = Int.ofNat k from rfl]; simp only [if_pos (And.intro hw hk)]
def tokenS (w : List UInt8) : Nat × Nat × Bool :=
  if isIn 97 122 (w.getD 0 0).toNat = true ∨ isIn 65 90 (w.getD 0 0).toNat = true then lettersS w
  else if isIn 48 57 (w.getD 0 0).toNat = true ∨ (w.getD 0 0).toNat = 126 then integerS w
  else match signL.find? (fun x => hasPre w x) with
    | some x => (5, x.length, true)
    | none => (0, 0, false)
def tokenV (w : List UInt8) : AV := tokV ((tokenS w).1 : Nat) (w.take (tokenS w).2.1) (tokenS w).2.2
section
variable {K : FuncId → List AV → Option AV}
theorem token_to (hK : K 59 = fun _ => none) (h3 : Three K) (w : List UInt8) (hw : w.length < Big) (h0 : 0 < w.length) :
    CallTo (EK K) 59 [.str w] S0 (tokenV w) := by
  have h2 := h3.two
  have hw' : w.length < 1099511627776 := hw
  have hle := twA_le (fun x => !hasPre w x) signL
  have hlet : (isIn 97 122 (w.getD 0 0).toNat = true ∨ isIn 65 90 (w.getD 0 0).toNat = true) → tokenV w = lettersV w := fun h => by unfold tokenV tokenS; rw [if_pos h]; rfl
  have hint : ¬ (isIn 97 122 (w.getD 0 0).toNat = true ∨ isIn 65 90 (w.getD 0 0).toNat = true) → (isIn 48 57 (w.getD 0 0).toNat = true ∨ (w.getD 0 0).toNat = 126) → tokenV w = integerV w := fun h h' => by unfold tokenV tokenS; rw [if_neg h, if_pos h']; rfl
  refine CallTo.flat (fn := Tryz.f59) (by show K 59 _ = none; rw [hK]) (by kernel_rfl) rfl rfl rfl rfl (fun _ _ => rfl) (fun _ => rfl) ?_
  refine EvtL.seqReg ?_
  refine RegL.op (OpL.alloc rfl zero_tok) rfl rfl rfl ?_
  refine RegL.q (OpQ.assign rfl rfl) rfl rfl rfl ?_
  refine RegL.done ?_
  refine EvtL.seq ?_
  refine EvtL.seqReg ?_
  refine RegL.q (OpQ.move rfl rfl) rfl rfl rfl ?_
  refine RegL.q (OpQ.indexD (n := 0) rfl u_string rfl rfl h0) rfl rfl rfl ?_
  refine RegL.q (OpQ.assign rfl rfl) rfl rfl rfl ?_
  refine RegL.done ?_
  refine EvtL.block ?_
  refine EvtL.seqReg ?_
  refine RegL.q (OpQ.move rfl rfl) rfl rfl rfl ?_
  refine RegL.op (OpL.callFn rfl rfl (h2.bytes _ _ rfl).1 rfl (CallTo.memo ((h2.bytes 118 _ rfl).2 _))) rfl rfl rfl ?_
  refine RegL.q (OpQ.move rfl rfl) rfl rfl rfl ?_
  refine RegL.both rfl rfl rfl rfl (fun g1 => ?_) (fun g1 => ?_)
  · refine RegL.skip rfl rfl rfl rfl (by assumption) rfl rfl ?_
    refine RegL.skip rfl rfl rfl rfl (by assumption) rfl rfl ?_
    refine RegL.q (OpQ.pickT rfl rfl (by assumption) rfl) rfl rfl rfl ?_
    refine RegL.q (OpQ.assign rfl rfl) rfl rfl rfl ?_
    refine RegL.done ?_
    refine EvtL.cond rfl (fun _ => ?_) (fun h => by cases h)
    refine EvtL.seqReg ?_
    refine RegL.q (OpQ.move rfl rfl) rfl rfl rfl ?_
    refine RegL.op (OpL.callFn rfl rfl (by kernel_rfl) rfl (CallTo.memo (h3.letters w hw h0))) rfl rfl rfl ?_
    refine RegL.q (OpQ.extract rfl rfl rfl) rfl rfl rfl ?_
    refine RegL.q (OpQ.extract rfl rfl rfl) rfl rfl rfl ?_
    refine RegL.opN (OpL.store rfl sz_tok rfl rfl rfl) rfl rfl ?_
    refine RegL.q (OpQ.assign rfl rfl) rfl rfl rfl ?_
    refine RegL.done ?_
    refine EvtL.ret ?_
    refine ⟨.inl rfl, rfl, rfl, _, res_cell rfl agg_tok sz_tok rfl rfl (res_tmp rfl rfl), ?_⟩
    rw [hlet (.inl g1)]; rfl
  · refine RegL.go rfl rfl rfl rfl (by assumption) (OpL.q (OpQ.move rfl rfl)) rfl rfl ?_
    refine RegL.go rfl rfl rfl rfl g1 (OpL.callFn rfl rfl (h2.bytes _ _ rfl).1 rfl (CallTo.memo ((h2.bytes 130 _ rfl).2 _))) rfl rfl ?_
    refine RegL.q (OpQ.pickF rfl rfl (by assumption) rfl) rfl rfl rfl ?_
    refine RegL.q (OpQ.assign rfl rfl) rfl rfl rfl ?_
    refine RegL.done ?_
    refine EvtL.cond rfl (fun c1 => ?_) (fun c1 => ?_)
    · refine EvtL.seqReg ?_
      refine RegL.q (OpQ.move rfl rfl) rfl rfl rfl ?_
      refine RegL.op (OpL.callFn rfl rfl (by kernel_rfl) rfl (CallTo.memo (h3.letters w hw h0))) rfl rfl rfl ?_
      refine RegL.q (OpQ.extract rfl rfl rfl) rfl rfl rfl ?_
      refine RegL.q (OpQ.extract rfl rfl rfl) rfl rfl rfl ?_
      refine RegL.opN (OpL.store rfl sz_tok rfl rfl rfl) rfl rfl ?_
      refine RegL.q (OpQ.assign rfl rfl) rfl rfl rfl ?_
      refine RegL.done ?_
      refine EvtL.ret ?_
      refine ⟨.inl rfl, rfl, rfl, _, res_cell rfl agg_tok sz_tok rfl rfl (res_tmp rfl rfl), ?_⟩
      rw [hlet (.inr c1)]; rfl
    · have nlet : ¬ (isIn 97 122 (w.getD 0 0).toNat = true ∨ isIn 65 90 (w.getD 0 0).toNat = true) := fun h => by
        rcases h with h | h
        · rw [g1] at h; cases h
        · rw [c1] at h; cases h
      refine EvtL.seqReg ?_
      refine RegL.q (OpQ.move rfl rfl) rfl rfl rfl ?_
      refine RegL.op (OpL.callFn rfl rfl (h2.bytes _ _ rfl).1 rfl (CallTo.memo ((h2.bytes 132 _ rfl).2 _))) rfl rfl rfl ?_
      refine RegL.q (OpQ.move rfl rfl) rfl rfl rfl ?_
      refine RegL.both rfl rfl rfl rfl (fun g2 => ?_) (fun g2 => ?_)
      · refine RegL.skip rfl rfl rfl rfl (by assumption) rfl rfl ?_
        refine RegL.skip rfl rfl rfl rfl (by assumption) rfl rfl ?_
        refine RegL.q (OpQ.pickT rfl rfl (by assumption) rfl) rfl rfl rfl ?_
        refine RegL.q (OpQ.assign rfl rfl) rfl rfl rfl ?_
        refine RegL.done ?_
        refine EvtL.cond rfl (fun _ => ?_) (fun h => by cases h)
        refine EvtL.seqReg ?_
        refine RegL.q (OpQ.move rfl rfl) rfl rfl rfl ?_
        refine RegL.op (OpL.callFn rfl rfl (by kernel_rfl) rfl (CallTo.memo (h3.integer w hw h0))) rfl rfl rfl ?_
        refine RegL.q (OpQ.extract rfl rfl rfl) rfl rfl rfl ?_
        refine RegL.q (OpQ.extract rfl rfl rfl) rfl rfl rfl ?_
        refine RegL.opN (OpL.store rfl sz_tok rfl rfl rfl) rfl rfl ?_
        refine RegL.q (OpQ.assign rfl rfl) rfl rfl rfl ?_
        refine RegL.done ?_
        refine EvtL.ret ?_
        refine ⟨.inl rfl, rfl, rfl, _, res_cell rfl agg_tok sz_tok rfl rfl (res_tmp rfl rfl), ?_⟩
        rw [hint nlet (.inl g2)]; rfl
      · refine RegL.go rfl rfl rfl rfl (by assumption) (OpL.q (OpQ.move rfl rfl)) rfl rfl ?_
        refine RegL.go rfl rfl rfl rfl (by assumption) (OpL.q (OpQ.int2 rfl u_byte rfl rfl rfl rfl)) rfl rfl ?_
        refine RegL.q (OpQ.pickF rfl rfl (by assumption) rfl) rfl rfl rfl ?_
        refine RegL.q (OpQ.assign rfl rfl) rfl rfl rfl ?_
        refine RegL.done ?_
        refine EvtL.cond rfl (fun c2 => ?_) (fun c2 => ?_)
        · have c2' : (w.getD 0 0).toNat = 126 := by have := of_decide_eq_true c2; omega
          refine EvtL.seqReg ?_
          refine RegL.q (OpQ.move rfl rfl) rfl rfl rfl ?_
          refine RegL.op (OpL.callFn rfl rfl (by kernel_rfl) rfl (CallTo.memo (h3.integer w hw h0))) rfl rfl rfl ?_
          refine RegL.q (OpQ.extract rfl rfl rfl) rfl rfl rfl ?_
          refine RegL.q (OpQ.extract rfl rfl rfl) rfl rfl rfl ?_
          refine RegL.opN (OpL.store rfl sz_tok rfl rfl rfl) rfl rfl ?_
          refine RegL.q (OpQ.assign rfl rfl) rfl rfl rfl ?_
          refine RegL.done ?_
          refine EvtL.ret ?_
          refine ⟨.inl rfl, rfl, rfl, _, res_cell rfl agg_tok sz_tok rfl rfl (res_tmp rfl rfl), ?_⟩
          rw [hint nlet (.inr c2')]; rfl
        · have nint : ¬ (isIn 48 57 (w.getD 0 0).toNat = true ∨ (w.getD 0 0).toNat = 126) := fun h => by
            rcases h with h | h
            · rw [g2] at h; cases h
            · have := of_decide_eq_false c2; omega
          have hsg : tokenS w = (match signL.find? (fun x => hasPre w x) with
            | some x => (5, x.length, true)
            | none => (0, 0, false)) := by unfold tokenS; rw [if_neg nlet, if_neg nint]
          rw [find_twA] at hsg
          refine EvtL.skip ?_
          refine EvtL.seq ?_
          refine EvtL.seqReg ?_
          refine RegL.op (OpL.callFn rfl rfl (by kernel_rfl) rfl (CallTo.memo h2.signs)) rfl rfl rfl ?_
          refine RegL.q (OpQ.lenSl rfl rfl rfl rfl u_strings rfl) rfl rfl rfl ?_
          refine RegL.q (OpQ.move rfl rfl) rfl rfl rfl ?_
          refine RegL.done ?_
          refine EvtL.block ?_
          refine EvtL.loopI (fun i : Nat => ([(33, .int .i64 (i : Nat)), (32, .int .i64 (15 : Nat)), (31, .islice (signL.map .str) 15 1 true), (0, .str w), (2, .ptr 0 0)], S0.enter.alloc (.cells [.int .i64 0, .str [], .int .i64 0, .int .i64 0] 74 false))) (fun i => 15 - i) (fun i => i ≤ twA (fun x => !hasPre w x) signL) 0 (Nat.zero_le _) rfl (by (refine sub_of ?_; repeat (first | exact trivial | refine ⟨rfl, ?_⟩))) fun i hi => ?_
          refine EvtL.seqReg ?_
          refine RegL.q (OpQ.int2 rfl u_int rfl rfl rfl rfl) rfl rfl rfl ?_
          refine RegL.done ?_
          refine EvtL.seq ?_
          refine EvtL.cond rfl (fun hc => ?_) (fun hc => ?_)
          · have hlt : i < 15 := by have := of_decide_eq_true hc; omega
            have hx : signL[i]? = some signL[i] := List.getElem?_eq_getElem hlt
            have hst := twA_step hi hx
            have hdr : (signL.map AV.str).drop (i * (0 + 1)) = .str signL[i] :: (signL.map AV.str).drop (i + 1) := by
              rw [Nat.zero_add, Nat.mul_one, List.drop_eq_getElem_cons (by rw [List.length_map]; exact hlt), List.getElem_map]; try rfl
            refine EvtL.skip ?_
            refine EvtL.seq ?_
            refine EvtL.block ?_
            refine EvtL.seqReg ?_
            refine RegL.q (OpQ.indexAddrI (len := 15) rfl u_strings sz_string rfl rfl hlt rfl) rfl rfl rfl ?_
            rw [hdr]
            refine RegL.q (OpQ.loadI1 rfl rfl agg_string sz_string) rfl rfl rfl ?_
            refine RegL.q (OpQ.assign rfl rfl) rfl rfl rfl ?_
            refine RegL.done ?_
            refine EvtL.seqReg ?_
            refine RegL.q (OpQ.move rfl rfl) rfl rfl rfl ?_
            refine RegL.q (OpQ.move rfl rfl) rfl rfl rfl ?_
            refine RegL.op (OpL.callFn rfl rfl (by kernel_rfl) rfl (CallTo.memo (h2.pre w signL[i]))) rfl rfl rfl ?_
            refine RegL.done ?_
            refine EvtL.cond rfl (fun hd => ?_) (fun hd => ?_)
            · have h1 : ¬ i < twA (fun x => !hasPre w x) signL := fun h => by have := hst.2 h; rw [hd] at this; cases this
              have he : twA (fun x => !hasPre w x) signL = i := by omega
              rw [he, hx] at hsg
              have htk : w.take signL[i].length = signL[i] := by
                unfold hasPre at hd
                rw [bytesEq_iff] at hd
                exact of_decide_eq_true (Bool.and_eq_true_iff.1 hd).2
              refine EvtL.seqReg ?_
              refine RegL.q (OpQ.move rfl rfl) rfl rfl rfl ?_
              refine RegL.q (OpQ.build rfl plan_tok rfl rfl) rfl rfl rfl ?_
              refine RegL.opN (OpL.store rfl sz_tok rfl rfl rfl) rfl rfl ?_
              refine RegL.q (OpQ.assign rfl rfl) rfl rfl rfl ?_
              refine RegL.done ?_
              refine EvtL.ret ?_
              refine ⟨.inl rfl, rfl, rfl, _, res_cell rfl agg_tok sz_tok rfl rfl (res_tmp rfl rfl), ?_⟩
              unfold tokenV
              rw [hsg]
              show _ = tokV _ (w.take signL[i].length) _
              rw [htk]; rfl
            · have h1 := hst.1 (by rw [hd]; rfl)
              refine EvtL.skip ?_
              refine EvtL.reg ?_
              refine RegL.q (OpQ.addN (b := 1) rfl u_int rfl rfl (by first | omega | assumption)) rfl rfl rfl ?_
              refine RegL.q (OpQ.move rfl rfl) rfl rfl rfl ?_
              refine RegL.done ?_
              exact ⟨i + 1, h1, by omega, rfl, rfl, by (refine sub_of ?_; repeat (first | exact trivial | refine ⟨rfl, ?_⟩))⟩
          · have hge : ¬ i < 15 := by have := of_decide_eq_false hc; omega
            have hl15 : signL.length = 15 := rfl
            have he : twA (fun x => !hasPre w x) signL = 15 := by omega
            rw [he] at hsg
            refine EvtL.exit ?_
            refine cond_t rfl ?_
            refine EvtL.seqReg ?_
            refine RegL.q (OpQ.build rfl plan_tok rfl rfl) rfl rfl rfl ?_
            refine RegL.opN (OpL.store rfl sz_tok rfl rfl rfl) rfl rfl ?_
            refine RegL.q (OpQ.assign rfl rfl) rfl rfl rfl ?_
            refine RegL.done ?_
            refine EvtL.ret ?_
            refine ⟨.inl rfl, rfl, rfl, _, res_cell rfl agg_tok sz_tok rfl rfl (res_tmp rfl rfl), ?_⟩
            unfold tokenV
            rw [hsg]; rfl
end
end Go.Proofs.YtmgijfdekpfecaaGreatDoor

/- The specification's tokens. -/
open Go Am
namespace Go.Proofs.YtmgijfdekpfecaaGreatDoor
/-- A token: its kind, where it begins, how long it is. -/
abbrev Tok := Nat × Nat × Nat
def tokCells (w : List UInt8) (t : Tok) : List AV := [.int .i64 (t.1 : Nat), .str ((w.drop t.2.1).take t.2.2), .int .i64 (t.2.1 : Nat), .int .i64 ((1 + ends (w.take t.2.1) : Nat) : Int)]
def cellsT (w : List UInt8) (ts : List Tok) : List AV := ts.flatMap (tokCells w)
theorem cellsT_snoc (w : List UInt8) (ts : List Tok) (t : Tok) : cellsT w (ts ++ [t]) = cellsT w ts ++ tokCells w t := by simp [cellsT]
theorem cellsT_plain (w : List UInt8) (ts : List Tok) : (cellsT w ts).all plainV = true := by
  rw [List.all_eq_true]
  intro v hv
  obtain ⟨t, _, ht⟩ := List.mem_flatMap.1 hv
  simp only [tokCells, List.mem_cons, List.mem_nil_iff, or_false] at ht
  rcases ht with rfl | rfl | rfl | rfl <;> rfl
/-- The tokens from a place on, and where they stop, if they do. -/
def scan (w : List UInt8) : Nat → Nat → List Tok × Option Nat
  | 0, _ => ([], none)
  | f + 1, a => if a < w.length then
      if (oneS (w.drop a)).2 = 0 then ([], some a)
      else (((oneS (w.drop a)).1, a, (oneS (w.drop a)).2) :: (scan w f (a + (oneS (w.drop a)).2 + blk false (w.drop (a + (oneS (w.drop a)).2)))).1,
        (scan w f (a + (oneS (w.drop a)).2 + blk false (w.drop (a + (oneS (w.drop a)).2)))).2)
    else ([], none)
def scanAll (w : List UInt8) : List Tok × Option Nat := scan w (w.length + 1) (blk false w)
theorem hasPre_le {a p : List UInt8} (h : hasPre a p = true) : p.length ≤ a.length := of_decide_eq_true (Bool.and_eq_true_iff.1 h).1
theorem firstLen_le (r : List UInt8) (l : List (List UInt8)) : firstLen (fun x => hasPre r x) l ≤ r.length := by
  unfold firstLen
  split
  · next x hx => exact hasPre_le (List.find?_some hx)
  · exact Nat.zero_le _
theorem one_le (r : List UInt8) (h : 0 < r.length) : (oneS r).2 ≤ r.length := by
  have h1 := tw_le (isIn 97 122) r
  have h2 := tw_le (isIn 97 122) (r.drop 1)
  have h3 := tw_le (isIn 48 57) r
  have h4 := tw_le (isIn 48 57) (r.drop 1)
  have h5 := firstLen_le r rsignL
  rw [List.length_drop] at h2 h4
  unfold oneS
  repeat' split
  all_goals simp only
  all_goals omega
section
variable {K : FuncId → List AV → Option AV}
theorem rtokens_to (hK : K 8 = fun _ => none) (h3 : Three K) (w : List UInt8) (hw : w.length ≤ 4000) :
    CallTo (EK K) 8 [.str w] S0 (.tuple [outA (cellsT w (scanAll w).1) (scanAll w).1.length 4, .int .i64 ((scanAll w).2.getD w.length : Nat)]) := by
  have hB : w.length < Big := by show w.length < 1099511627776; omega
  have hb0 := blk_le false w
  refine CallTo.gen (fn := Tryz.f8) (by show K 8 _ = none; rw [hK]) (by kernel_rfl) rfl rfl rfl rfl ?_
  refine EvtL.seqReg ?_
  refine RegL.q (OpQ.assign rfl rfl) rfl rfl rfl ?_
  refine RegL.q (OpQ.assign rfl rfl) rfl rfl rfl ?_
  refine RegL.done ?_
  refine EvtL.seqReg ?_
  refine RegL.q (OpQ.assign rfl rfl) rfl rfl rfl ?_
  refine RegL.done ?_
  refine EvtL.seqReg ?_
  refine RegL.q (OpQ.move rfl rfl) rfl rfl rfl ?_
  refine RegL.op (OpL.callFn rfl rfl (by kernel_rfl) rfl (CallTo.memo (h3.rblank w 0 hB (Nat.zero_le _)))) rfl rfl rfl ?_
  rw [List.drop_zero, Nat.zero_add]
  refine RegL.q (OpQ.assign rfl rfl) rfl rfl rfl ?_
  refine RegL.done ?_
  refine EvtL.seq ?_
  refine EvtL.block ?_
  refine EvtL.loopI (fun p : Nat × Nat × List Tok × AV × St => ([(4, p.2.2.2.1), (5, .int .i64 (p.2.1 : Nat)), (0, .str w)], p.2.2.2.2)) (fun p => p.1)
    (fun p => p.2.1 ≤ w.length ∧ w.length < p.2.1 + p.1 ∧ scanAll w = (p.2.2.1 ++ (scan w p.1 p.2.1).1, (scan w p.1 p.2.1).2) ∧ Grown p.2.2.2.2 74 4 p.2.2.2.1 (cellsT w p.2.2.1) p.2.2.1.length ∧ p.2.2.1.length ≤ p.2.1 ∧ p.2.2.2.2.bound = 0 ∧ p.2.2.2.2.log = [])
    (w.length + 1, blk false w, [], .nilslice, S0.enter) ⟨hb0, by show w.length < blk false w + (w.length + 1); omega, rfl, Grown.nil _ _ _, Nat.zero_le _, rfl, rfl⟩ rfl (by (refine sub_of ?_; repeat (first | exact trivial | refine ⟨rfl, ?_⟩))) ?_
  rintro ⟨f, a, out, v, st⟩ ⟨ha, hfa, hsc, hgr, hol, hbd, hlg⟩
  simp only at ha hfa hsc hgr hol hbd hlg ⊢
  obtain ⟨f, rfl⟩ : ∃ g, f = g + 1 := ⟨f - 1, by omega⟩
  have hlv : ∀ e : Nat, (scanAll w).2.getD w.length = e → (scanAll w).1 = out → leave (EK K) 8 S0 (.tuple [v, .int .i64 (e : Nat)]) st = some (.same (.tuple [outA (cellsT w (scanAll w).1) (scanAll w).1.length 4, .int .i64 ((scanAll w).2.getD w.length : Nat)])) := fun e he ho => by
    rw [he, ho]
    exact leave_grown (by kernel_rfl) hgr (fun c _ => Nat.zero_le _) hbd hlg (cellsT_plain w out) rfl
  refine EvtL.seq ?_
  refine EvtL.seqReg ?_
  refine RegL.q (OpQ.move rfl rfl) rfl rfl rfl ?_
  refine RegL.q (OpQ.move rfl rfl) rfl rfl rfl ?_
  refine RegL.q (OpQ.lenStr rfl rfl rfl rfl u_string rfl) rfl rfl rfl ?_
  refine RegL.q (OpQ.int2 rfl u_int rfl rfl rfl rfl) rfl rfl rfl ?_
  refine RegL.done ?_
  refine EvtL.cond rfl (fun hc => ?_) (fun hc => ?_)
  · have hlt : a < w.length := by have := of_decide_eq_true hc; omega
    have hol1 := one_le (w.drop a) (by rw [List.length_drop]; omega)
    rw [List.length_drop] at hol1
    refine EvtL.skip ?_
    refine EvtL.block ?_
    refine EvtL.seqReg ?_
    refine RegL.q (OpQ.move rfl rfl) rfl rfl rfl ?_
    refine RegL.q (OpQ.move rfl rfl) rfl rfl rfl ?_
    refine RegL.op (OpL.callFn rfl rfl (by kernel_rfl) rfl (CallTo.memo (h3.one w a hB hlt))) rfl rfl rfl ?_
    unfold oneV
    have hs : scan w (f + 1) a = if (oneS (w.drop a)).2 = 0 then ([], some a)
      else (((oneS (w.drop a)).1, a, (oneS (w.drop a)).2) :: (scan w f (a + (oneS (w.drop a)).2 + blk false (w.drop (a + (oneS (w.drop a)).2)))).1,
        (scan w f (a + (oneS (w.drop a)).2 + blk false (w.drop (a + (oneS (w.drop a)).2)))).2) := by
      conv => lhs; unfold scan
      rw [if_pos hlt]
    generalize (oneS (w.drop a)).2 = n at *
    generalize (oneS (w.drop a)).1 = kd at *
    refine RegL.q (OpQ.move rfl rfl) rfl rfl rfl ?_
    refine RegL.q (OpQ.extract rfl rfl rfl) rfl rfl rfl ?_
    refine RegL.q (OpQ.extract rfl rfl rfl) rfl rfl rfl ?_
    refine RegL.q (OpQ.assign rfl rfl) rfl rfl rfl ?_
    refine RegL.q (OpQ.assign rfl rfl) rfl rfl rfl ?_
    refine RegL.done ?_
    refine EvtL.seq ?_
    refine EvtL.seqReg ?_
    refine RegL.q (OpQ.move rfl rfl) rfl rfl rfl ?_
    refine RegL.q (OpQ.int2 rfl u_int rfl rfl rfl rfl) rfl rfl rfl ?_
    refine RegL.done ?_
    refine EvtL.cond rfl (fun hn => ?_) (fun hn => ?_)
    · have hn0 : n = 0 := by have := of_decide_eq_true hn; omega
      rw [if_pos hn0] at hs
      rw [hs, List.append_nil] at hsc
      refine EvtL.seqReg ?_
      refine RegL.q (OpQ.move rfl rfl) rfl rfl rfl ?_
      refine RegL.q (OpQ.move rfl rfl) rfl rfl rfl ?_
      refine RegL.q (OpQ.assign rfl rfl) rfl rfl rfl ?_
      refine RegL.q (OpQ.assign rfl rfl) rfl rfl rfl ?_
      refine RegL.done ?_
      refine EvtL.ret ?_
      exact ⟨.inl rfl, _, rfl, [v, .int .i64 (a : Nat)], rfl, hlv a (by rw [hsc]; rfl) (by rw [hsc])⟩
    · have hn0 : n ≠ 0 := by have := of_decide_eq_false hn; omega
      rw [if_neg hn0] at hs
      have hbl := blk_le false (w.drop (a + n))
      rw [List.length_drop] at hbl
      refine EvtL.skip ?_
      refine EvtL.seqDraw (by kernel_rfl) (RegM.toD ?_)
      refine RegM.q (OpQ.move rfl rfl) rfl rfl rfl ?_
      refine RegM.q (OpQ.move rfl rfl) rfl rfl rfl ?_
      refine RegM.q (OpQ.move rfl rfl) rfl rfl rfl ?_
      refine RegM.q (OpQ.move rfl rfl) rfl rfl rfl ?_
      refine RegM.q (OpQ.move rfl rfl) rfl rfl rfl ?_
      refine RegM.q (OpQ.move rfl rfl) rfl rfl rfl ?_
      refine RegM.q (OpQ.addN rfl u_int rfl rfl (by first | omega | assumption)) rfl rfl rfl ?_
      refine RegM.q (OpQ.sliceStr rfl u_string rfl rfl rfl (bounds_some (n := a + n) (by omega)) (bounds_some (n := a) (by omega)) ⟨by omega, by omega⟩) rfl rfl rfl ?_
      rw [Nat.add_sub_cancel_left]
      refine RegM.q (OpQ.move rfl rfl) rfl rfl rfl ?_
      refine RegM.q (OpQ.move rfl rfl) rfl rfl rfl ?_
      refine RegM.q (OpQ.move rfl rfl) rfl rfl rfl ?_
      refine RegM.a (OpA.callFn rfl rfl (by kernel_rfl) rfl (h3.two.line w a hB ha)) rfl rfl rfl ?_
      refine RegM.q (OpQ.build rfl plan_tok rfl rfl) rfl rfl rfl ?_
      refine RegM.buildSlice rfl u_toks sz_tok zero_tok rfl rfl (cs := tokCells w (kd, a, n)) rfl rfl rfl rfl ?_
      have hgr' : Grown (st.alloc (.cells (tokCells w (kd, a, n)) 74 false)) 74 4 v (cellsT w out) out.length := by
        refine hgr.keep (Nat.le_succ _) fun c hc => ?_
        show (st.heap.set st.next _).get c = _
        rcases hgr with ⟨rfl, _⟩ | ⟨b, rfl, hb, _⟩
        · cases hc
        · have := Nat.eq_of_beq_eq_true hc
          rw [get_set, if_neg (by omega)]
      obtain ⟨v', s2, happ, hnx, hl2, hgm, hov, _, hlog0⟩ := hgr'.appendM (new := tokCells w (kd, a, n)) (by_ := 40) rfl (by decide) rfl (by
        have : (out.length + 1) * 40 ≤ 1099511627776 := by omega
        unfold small
        rw [Nat.ble_eq_true_of_le this, Nat.ble_eq_true_of_le (show out.length + 1 ≤ 1099511627776 by omega)]; rfl)
      refine RegM.append rfl rfl rfl rfl u_toks sz_tok by_tok zero_tok (by kernel_rfl) (by kernel_rfl) rfl rfl (new := tokCells w (kd, a, n)) (n := 1) (by
        show (cellsOf? ((st.heap.set st.next (some (.cells (tokCells w (kd, a, n)) 74 false))).get st.next)).bind _ = _
        rw [get_set, if_pos rfl]; rfl) happ (by rw [hnx]; exact Nat.le_succ _) hl2 (by kernel_rfl) (by kernel_rfl) rfl rfl rfl ?_
      refine RegM.q (OpQ.assign rfl rfl) rfl rfl rfl ?_
      refine RegM.done ?_
      refine EvtL.reg ?_
      refine RegL.q (OpQ.move rfl rfl) rfl rfl rfl ?_
      refine RegL.q (OpQ.move rfl rfl) rfl rfl rfl ?_
      refine RegL.q (OpQ.move rfl rfl) rfl rfl rfl ?_
      refine RegL.q (OpQ.addN rfl u_int rfl rfl (by first | omega | assumption)) rfl rfl rfl ?_
      refine RegL.op (OpL.callFn rfl rfl (by kernel_rfl) rfl (CallTo.memo (h3.rblank w (a + n) hB (by omega)))) rfl rfl rfl ?_
      refine RegL.q (OpQ.assign rfl rfl) rfl rfl rfl ?_
      refine RegL.done ?_
      refine ⟨(f, a + n + blk false (w.drop (a + n)), out ++ [(kd, a, n)], v', _), ⟨by show a + n + _ ≤ _; omega, by show _ < a + n + _ + f; omega, ?_, ?_, ?_, ?_, ?_⟩, Nat.lt_succ_self _, rfl, rfl, by (refine sub_of ?_; repeat (first | exact trivial | refine ⟨rfl, ?_⟩))⟩
      · rw [hsc, hs]
        simp only [List.append_assoc, List.singleton_append]
      · show Grown _ _ _ _ (cellsT w (out ++ [(kd, a, n)])) (out ++ [(kd, a, n)]).length
        rw [cellsT_snoc, List.length_append]
        exact hgm
      · show (out ++ [(kd, a, n)]).length ≤ _
        rw [List.length_append, List.length_singleton]
        show _ ≤ a + n + _
        omega
      · exact hbd
      · exact (hlog0 hbd).trans hlg
  · have hge : a = w.length := by have := of_decide_eq_false hc; omega
    have hs : scan w (f + 1) a = ([], none) := by
      conv => lhs; unfold scan
      rw [if_neg (by omega)]
    rw [hs, List.append_nil] at hsc
    refine EvtL.exit ?_
    refine cond_t rfl ?_
    refine EvtL.seqReg ?_
    refine RegL.q (OpQ.move rfl rfl) rfl rfl rfl ?_
    refine RegL.q (OpQ.move rfl rfl) rfl rfl rfl ?_
    refine RegL.q (OpQ.assign rfl rfl) rfl rfl rfl ?_
    refine RegL.q (OpQ.assign rfl rfl) rfl rfl rfl ?_
    refine RegL.done ?_
    refine EvtL.ret ?_
    exact ⟨.inl rfl, _, rfl, [v, .int .i64 (a : Nat)], rfl, hlv a (by rw [hsc, hge]; rfl) (by rw [hsc])⟩
end
end Go.Proofs.YtmgijfdekpfecaaGreatDoor

/- The same tokens; long sources. -/
open Go Am
namespace Go.Proofs.YtmgijfdekpfecaaGreatDoor
theorem cellsT_len (w : List UInt8) : ∀ ts : List Tok, (cellsT w ts).length = ts.length * 4
  | [] => rfl
  | t :: ts => by
    have ih := cellsT_len w ts
    show (tokCells w t ++ cellsT w ts).length = (ts.length + 1) * 4
    rw [List.length_append, ih]
    show 4 + _ = _
    omega
theorem cellsT_at (w : List UInt8) : ∀ {ts : List Tok} {i : Nat} {t : Tok}, ts[i]? = some t → ((cellsT w ts).drop (i * 4)).take 4 = tokCells w t
  | u :: ts, 0, t, h => by
    simp only [List.getElem?_cons_zero, Option.some.injEq] at h
    subst h; rfl
  | u :: ts, i + 1, t, h => by
    have ih := cellsT_at w (ts := ts) (i := i) (t := t) (by simpa using h)
    show ((tokCells w u ++ cellsT w ts).drop ((i + 1) * 4)).take 4 = _
    rw [show (i + 1) * 4 = (tokCells w u).length + i * 4 by show _ = 4 + _; omega, List.drop_length_add_append]
    exact ih
theorem eqZip_cons {d : TypeDesc} {l : List TypeDesc} {a b : AV} {x y : List AV} (h : eqD d a b = some true) : eqZip (d :: l) (a :: x) (b :: y) = eqZip l x y := by
  show (eqD d a b).bind _ = _
  rw [h]; rfl
theorem tok_same (w : List UInt8) (t : Tok) : eqKd (.flat [.int .i64, .string, .int .i64, .int .i64]) (.agg (tokCells w t)) (.agg (tokCells w t)) = some true := by
  have h1 : ∀ n : Int, eqD (.int .i64) (.int .i64 n) (.int .i64 n) = some true := fun n => by
    show (if IntKind.i64 = IntKind.i64 then some (decide (n = n)) else none) = _
    rw [if_pos rfl, decide_eq_true rfl]
  have h2 : ∀ l : List UInt8, eqD .string (.str l) (.str l) = some true := fun l => by
    show some (bytesEq l l) = _
    rw [bytesEq_iff, decide_eq_true rfl]
  show eqZip [.int .i64, .string, .int .i64, .int .i64] (tokCells w t) (tokCells w t) = _
  unfold tokCells
  rw [eqZip_cons (h1 _), eqZip_cons (h2 _), eqZip_cons (h1 _), eqZip_cons (h1 _)]
  rfl
def longS (n : Nat) : Bool := (decide (700 < n) && decide (n ≤ 3000)) || decide (3009 < n)
section
variable {K : FuncId → List AV → Option AV} {s : St}
theorem long_to (hK : K 4 = fun _ => none) (w : List UInt8) : CallTo (EK K) 4 [.str w] s (.bool (longS w.length)) := by
  refine CallTo.plain (fn := Tryz.f4) (by show K 4 _ = none; rw [hK]) (by kernel_rfl) rfl rfl rfl rfl rfl ?_
  refine EvtL.seqReg ?_
  refine RegL.q (OpQ.assign rfl rfl) rfl rfl rfl ?_
  refine RegL.done ?_
  refine EvtL.seqReg ?_
  refine RegL.q (OpQ.move rfl rfl) rfl rfl rfl ?_
  refine RegL.q (OpQ.lenStr rfl rfl rfl rfl u_string rfl) rfl rfl rfl ?_
  refine RegL.q (OpQ.int2 rfl u_int rfl rfl rfl rfl) rfl rfl rfl ?_
  refine RegL.q (OpQ.move rfl rfl) rfl rfl rfl ?_
  refine RegL.both rfl rfl rfl rfl (fun g1 => ?_) (fun g1 => ?_)
  · have g1' : decide (700 < w.length) = true := decide_eq_true (by have := of_decide_eq_true g1; omega)
    refine RegL.go rfl rfl rfl rfl (by assumption) (OpL.q (OpQ.move rfl rfl)) rfl rfl ?_
    refine RegL.go rfl rfl rfl rfl (by assumption) (OpL.q (OpQ.lenStr rfl rfl rfl rfl u_string rfl)) rfl rfl ?_
    refine RegL.go rfl rfl rfl rfl (by assumption) (OpL.q (OpQ.int2 rfl u_int rfl rfl rfl rfl)) rfl rfl ?_
    refine RegL.q (OpQ.pickT rfl rfl (by assumption) rfl) rfl rfl rfl ?_
    refine RegL.q (OpQ.move rfl rfl) rfl rfl rfl ?_
    refine RegL.both rfl rfl rfl rfl (fun g2 => ?_) (fun g2 => ?_)
    · have g2' : decide (w.length ≤ 3000) = true := decide_eq_true (by have := of_decide_eq_true g2; omega)
      refine RegL.skip rfl rfl rfl rfl (by assumption) rfl rfl ?_
      refine RegL.skip rfl rfl rfl rfl (by assumption) rfl rfl ?_
      refine RegL.skip rfl rfl rfl rfl (by assumption) rfl rfl ?_
      refine RegL.q (OpQ.pickT rfl rfl (by assumption) rfl) rfl rfl rfl ?_
      refine RegL.q (OpQ.assign rfl rfl) rfl rfl rfl ?_
      refine RegL.done ?_
      refine EvtL.ret ⟨.inl rfl, rfl, rfl, ?_⟩
      exact bool_eq (by unfold longS; rw [g1', g2']; rfl)
    · have g2' : decide (w.length ≤ 3000) = false := decide_eq_false (by have := of_decide_eq_false g2; omega)
      refine RegL.go rfl rfl rfl rfl (by assumption) (OpL.q (OpQ.move rfl rfl)) rfl rfl ?_
      refine RegL.go rfl rfl rfl rfl (by assumption) (OpL.q (OpQ.lenStr rfl rfl rfl rfl u_string rfl)) rfl rfl ?_
      refine RegL.go rfl rfl rfl rfl (by assumption) (OpL.q (OpQ.int2 rfl u_int rfl rfl rfl rfl)) rfl rfl ?_
      refine RegL.q (OpQ.pickF rfl rfl (by assumption) rfl) rfl rfl rfl ?_
      refine RegL.q (OpQ.assign rfl rfl) rfl rfl rfl ?_
      refine RegL.done ?_
      refine EvtL.ret ⟨.inl rfl, rfl, rfl, ?_⟩
      exact bool_eq (by unfold longS; rw [g1', g2', Bool.and_false, Bool.false_or]; exact decide_eq_decide.2 (by omega))
  · have g1' : decide (700 < w.length) = false := decide_eq_false (by have := of_decide_eq_false g1; omega)
    refine RegL.skip rfl rfl rfl rfl (by assumption) rfl rfl ?_
    refine RegL.skip rfl rfl rfl rfl (by assumption) rfl rfl ?_
    refine RegL.skip rfl rfl rfl rfl (by assumption) rfl rfl ?_
    refine RegL.q (OpQ.pickF rfl rfl (by assumption) rfl) rfl rfl rfl ?_
    refine RegL.q (OpQ.move rfl rfl) rfl rfl rfl ?_
    refine RegL.go rfl rfl rfl rfl rfl (OpL.q (OpQ.move rfl rfl)) rfl rfl ?_
    refine RegL.go rfl rfl rfl rfl rfl (OpL.q (OpQ.lenStr rfl rfl rfl rfl u_string rfl)) rfl rfl ?_
    refine RegL.go rfl rfl rfl rfl rfl (OpL.q (OpQ.int2 rfl u_int rfl rfl rfl rfl)) rfl rfl ?_
    refine RegL.q (OpQ.pickF rfl rfl rfl rfl) rfl rfl rfl ?_
    refine RegL.q (OpQ.assign rfl rfl) rfl rfl rfl ?_
    refine RegL.done ?_
    refine EvtL.ret ⟨.inl rfl, rfl, rfl, ?_⟩
    exact bool_eq (by unfold longS; rw [g1', Bool.false_and, Bool.false_or]; exact decide_eq_decide.2 (by omega))
theorem rsame_to (hK : K 9 = fun _ => none) (w : List UInt8) (ts : List Tok) (hn : ts.length ≤ 4000) :
    CallTo (EK K) 9 [outA (cellsT w ts) ts.length 4, outA (cellsT w ts) ts.length 4] s (.bool true) := by
  cases h0 : Nat.beq ts.length 0 with
  | true =>
    have : outA (cellsT w ts) ts.length 4 = .nilslice := by unfold outA; rw [h0]; rfl
    rw [this]
    refine CallTo.plain (fn := Tryz.f9) (by show K 9 _ = none; rw [hK]) (by kernel_rfl) rfl rfl rfl rfl rfl ?_
    refine EvtL.seqReg ?_
    refine RegL.q (OpQ.assign rfl rfl) rfl rfl rfl ?_
    refine RegL.done ?_
    refine EvtL.seq ?_
    refine EvtL.seqReg ?_
    refine RegL.q (OpQ.move rfl rfl) rfl rfl rfl ?_
    refine RegL.q (OpQ.lenNil rfl rfl rfl rfl u_toks rfl) rfl rfl rfl ?_
    refine RegL.q (OpQ.move rfl rfl) rfl rfl rfl ?_
    refine RegL.q (OpQ.lenNil rfl rfl rfl rfl u_toks rfl) rfl rfl rfl ?_
    refine RegL.q (OpQ.int2 rfl u_int rfl rfl rfl rfl) rfl rfl rfl ?_
    refine RegL.done ?_
    refine EvtL.cond rfl (fun h => by cases h) (fun _ => ?_)
    refine EvtL.skip ?_
    refine EvtL.seq ?_
    refine EvtL.seqReg ?_
    refine RegL.q (OpQ.assign rfl rfl) rfl rfl rfl ?_
    refine RegL.done ?_
    refine EvtL.block ?_
    refine EvtL.loop ?_
    refine EvtL.seq ?_
    refine EvtL.seqReg ?_
    refine RegL.q (OpQ.move rfl rfl) rfl rfl rfl ?_
    refine RegL.q (OpQ.move rfl rfl) rfl rfl rfl ?_
    refine RegL.q (OpQ.lenNil rfl rfl rfl rfl u_toks rfl) rfl rfl rfl ?_
    refine RegL.q (OpQ.int2 rfl u_int rfl rfl rfl rfl) rfl rfl rfl ?_
    refine RegL.done ?_
    refine EvtL.cond rfl (fun h => by cases h) (fun _ => ?_)
    refine EvtL.exit ?_
    refine cond_t rfl ?_
    refine EvtL.seqReg ?_
    refine RegL.q (OpQ.assign rfl rfl) rfl rfl rfl ?_
    refine RegL.done ?_
    refine EvtL.ret ⟨.inl rfl, rfl, rfl, ?_⟩
    rfl
  | false =>
    have : outA (cellsT w ts) ts.length 4 = .islice (cellsT w ts) ts.length 4 true := by unfold outA; rw [h0]; rfl
    rw [this]
    refine CallTo.plain (fn := Tryz.f9) (by show K 9 _ = none; rw [hK]) (by kernel_rfl) rfl rfl rfl rfl rfl ?_
    refine EvtL.seqReg ?_
    refine RegL.q (OpQ.assign rfl rfl) rfl rfl rfl ?_
    refine RegL.done ?_
    refine EvtL.seq ?_
    refine EvtL.seqReg ?_
    refine RegL.q (OpQ.move rfl rfl) rfl rfl rfl ?_
    refine RegL.q (OpQ.lenSl rfl rfl rfl rfl u_toks rfl) rfl rfl rfl ?_
    refine RegL.q (OpQ.move rfl rfl) rfl rfl rfl ?_
    refine RegL.q (OpQ.lenSl rfl rfl rfl rfl u_toks rfl) rfl rfl rfl ?_
    refine RegL.q (OpQ.int2 rfl u_int rfl rfl rfl rfl) rfl rfl rfl ?_
    refine RegL.done ?_
    refine EvtL.cond rfl (fun h => ?_) (fun _ => ?_)
    · simp at h
    refine EvtL.skip ?_
    refine EvtL.seq ?_
    refine EvtL.seqReg ?_
    refine RegL.q (OpQ.assign rfl rfl) rfl rfl rfl ?_
    refine RegL.done ?_
    refine EvtL.block ?_
    refine EvtL.loopI (fun i : Nat => ([(5, .int .i64 (i : Nat)), (0, .islice (cellsT w ts) ts.length 4 true), (1, .islice (cellsT w ts) ts.length 4 true)], s.enter)) (fun i => ts.length - i) (fun i => i ≤ ts.length) 0 (Nat.zero_le _) rfl (by (refine sub_of ?_; repeat (first | exact trivial | refine ⟨rfl, ?_⟩))) fun i hi => ?_
    refine EvtL.seq ?_
    refine EvtL.seqReg ?_
    refine RegL.q (OpQ.move rfl rfl) rfl rfl rfl ?_
    refine RegL.q (OpQ.move rfl rfl) rfl rfl rfl ?_
    refine RegL.q (OpQ.lenSl rfl rfl rfl rfl u_toks rfl) rfl rfl rfl ?_
    refine RegL.q (OpQ.int2 rfl u_int rfl rfl rfl rfl) rfl rfl rfl ?_
    refine RegL.done ?_
    refine EvtL.cond rfl (fun hc => ?_) (fun hc => ?_)
    · have hlt : i < ts.length := by have := of_decide_eq_true hc; omega
      have hx : ts[i]? = some ts[i] := List.getElem?_eq_getElem hlt
      have hcl := cellsT_len w ts
      have hat := cellsT_at w hx
      have h4 : 4 ≤ ((cellsT w ts).drop (i * (3 + 1))).length := by rw [List.length_drop, hcl]; omega
      refine EvtL.skip ?_
      refine EvtL.seq ?_
      refine EvtL.block ?_
      refine EvtL.seqDraw (by kernel_rfl) (RegM.toD ?_)
      refine RegM.q (OpQ.move rfl rfl) rfl rfl rfl ?_
      refine RegM.q (OpQ.move rfl rfl) rfl rfl rfl ?_
      refine RegM.q (OpQ.indexAddrI (sz := 3) rfl u_toks sz_tok rfl rfl hlt hcl) rfl rfl rfl ?_
      refine RegM.q (OpQ.loadI rfl rfl agg_tok sz_tok h4) rfl rfl rfl ?_
      rw [hat]
      refine RegM.q (OpQ.move rfl rfl) rfl rfl rfl ?_
      refine RegM.q (OpQ.move rfl rfl) rfl rfl rfl ?_
      refine RegM.q (OpQ.indexAddrI (sz := 3) rfl u_toks sz_tok rfl rfl hlt hcl) rfl rfl rfl ?_
      refine RegM.q (OpQ.loadI rfl rfl agg_tok sz_tok h4) rfl rfl rfl ?_
      rw [hat]
      refine RegM.q (v := .bool false) (OpQ.pure (f := fun T => (opnd (EK K) (.tmp 20) T).bind fun a => (opnd (EK K) (.tmp 24) T).bind fun b => boolV true (eqKd (.flat [.int .i64, .string, .int .i64, .int .i64]) a b)) (by kernel_rfl) fun T hT => ?_) rfl rfl rfl ?_
      · rw [opndL_ok (x := .tmp 20) (v := .agg (tokCells w ts[i])) hT rfl, opndL_ok (x := .tmp 24) (v := .agg (tokCells w ts[i])) hT rfl]
        simp only [Option.bind_some, tok_same]
        rfl
      refine RegM.done ?_
      refine EvtL.cond rfl (fun h => by cases h) (fun _ => ?_)
      refine EvtL.skip ?_
      refine EvtL.reg ?_
      refine RegL.q (OpQ.move rfl rfl) rfl rfl rfl ?_
      refine RegL.q (OpQ.addN (b := 1) rfl u_int rfl rfl (by first | omega | assumption)) rfl rfl rfl ?_
      refine RegL.q (OpQ.assign rfl rfl) rfl rfl rfl ?_
      refine RegL.done ?_
      exact ⟨i + 1, hlt, by omega, rfl, rfl, by (refine sub_of ?_; repeat (first | exact trivial | refine ⟨rfl, ?_⟩))⟩
    · refine EvtL.exit ?_
      refine cond_t rfl ?_
      refine EvtL.seqReg ?_
      refine RegL.q (OpQ.assign rfl rfl) rfl rfl rfl ?_
      refine RegL.done ?_
      refine EvtL.ret ⟨.inl rfl, rfl, rfl, ?_⟩
      rfl
end
end Go.Proofs.YtmgijfdekpfecaaGreatDoor

/- The plain law: both find the same token. -/
open Go Am
namespace Go.Proofs.YtmgijfdekpfecaaGreatDoor
theorem find_same (p : List UInt8 → Bool) (h : ¬ (p [59] = true ∧ p [61] = true)) : signL.find? p = rsignL.find? p := by
  unfold signL rsignL
  simp only [List.find?]
  cases h1 : p [59] <;> cases h2 : p [61] <;> simp_all
theorem pre_excl (w : List UInt8) : ¬ (hasPre w [59] = true ∧ hasPre w [61] = true) := by
  rintro ⟨h1, h2⟩
  unfold hasPre at h1 h2
  rw [bytesEq_iff] at h1 h2
  have e1 := of_decide_eq_true (Bool.and_eq_true_iff.1 h1).2
  have e2 := of_decide_eq_true (Bool.and_eq_true_iff.1 h2).2
  have : ([59] : List UInt8) = [61] := e1.symm.trans e2
  cases this
theorem tw_head {p : Int → Bool} {c : UInt8} {l : List UInt8} : (p c.toNat = true → 0 < tw p (c :: l)) ∧ (p c.toNat = false → tw p (c :: l) = 0) :=
  ⟨fun h => by rw [tw_cons_true h]; omega, fun h => tw_cons_false h⟩
theorem minus_eq (c : UInt8) (l : List UInt8) : minusS (c :: l) = if c.toNat = 126 then 1 else 0 := by
  unfold minusS
  show tw isMinus [c] = _
  split
  · next h => rw [tw_cons_true (show isMinus c.toNat = true from decide_eq_true (by omega))]; rfl
  · next h => rw [tw_cons_false (show isMinus c.toNat = false from decide_eq_false (by omega))]
theorem signs_len : ∀ x ∈ signL, 0 < x.length := by decide
theorem tok_one (w : List UInt8) (hw : 0 < w.length) : (tokenS w).2.2 = decide ((oneS w).2 ≠ 0) ∧ ((oneS w).2 ≠ 0 → (tokenS w).1 = (oneS w).1 ∧ (tokenS w).2.1 = (oneS w).2) := by
  obtain ⟨c, l, rfl⟩ : ∃ c l, w = c :: l := by
    cases w with
    | nil => exact absurd hw (Nat.lt_irrefl _)
    | cons c l => exact ⟨c, l, rfl⟩
  have hg0 : (c :: l).getD 0 0 = c := rfl
  have hg1 : (c :: l).getD 1 0 = l.getD 0 0 := rfl
  have hd1 : (c :: l).drop 1 = l := rfl
  have range : ∀ {a b : Int}, isIn a b c.toNat = true ↔ a ≤ c.toNat ∧ (c.toNat : Int) ≤ b := fun {a b} => by
    unfold isIn; rw [Bool.and_eq_true, decide_eq_true_iff, decide_eq_true_iff]
  by_cases h1 : isIn 97 122 c.toNat = true
  · have hng : ¬ isIn 65 90 c.toNat = true := by rw [range] at h1 ⊢; omega
    have hpos := (tw_head (p := isIn 97 122) (c := c) (l := l)).1 h1
    have ht : tokenS (c :: l) = lettersS (c :: l) := by unfold tokenS; rw [hg0, if_pos (.inl h1)]
    rw [ht]
    unfold lettersS oneS
    rw [hg0, if_neg hng, if_pos h1]
    by_cases h2 : isWord ((c :: l).take (tw (isIn 97 122) (c :: l))) = true
    · rw [if_pos h2, if_pos h2]
      exact ⟨(decide_eq_true (by show tw _ _ ≠ 0; omega)).symm, fun _ => ⟨rfl, rfl⟩⟩
    · rw [if_neg h2, if_neg h2]
      by_cases h3 : 8 < tw (isIn 97 122) (c :: l)
      · rw [if_pos h3]
        exact ⟨(decide_eq_false (by omega)).trans (decide_eq_false (by simp)).symm, fun h => absurd rfl h⟩
      · rw [if_neg h3]
        exact ⟨(decide_eq_true (by omega)).trans (decide_eq_true (by show tw _ _ ≠ 0; omega)).symm, fun _ => ⟨rfl, rfl⟩⟩
  · by_cases h2 : isIn 65 90 c.toNat = true
    · have ht : tokenS (c :: l) = lettersS (c :: l) := by unfold tokenS; rw [hg0, if_pos (.inr h2)]
      rw [ht]
      unfold lettersS oneS
      rw [hg0, if_pos h2, if_neg h1, if_pos h2]
      by_cases h3 : 8 < 1 + tw (isIn 97 122) ((c :: l).drop 1)
      · rw [if_pos h3]
        exact ⟨(decide_eq_false (by omega)).trans (decide_eq_false (by simp)).symm, fun h => absurd rfl h⟩
      · rw [if_neg h3]
        exact ⟨(decide_eq_true (by omega)).trans (decide_eq_true (by show 1 + tw _ _ ≠ 0; omega)).symm, fun _ => ⟨rfl, rfl⟩⟩
    · have hnl : ¬ (isIn 97 122 c.toNat = true ∨ isIn 65 90 c.toNat = true) := fun h => h.elim h1 h2
      by_cases h3 : isIn 48 57 c.toNat = true
      · have hpos := (tw_head (p := isIn 48 57) (c := c) (l := l)).1 h3
        have hn126 : ¬ c.toNat = 126 := by rw [range] at h3; omega
        have ht : tokenS (c :: l) = integerS (c :: l) := by unfold tokenS; rw [hg0, if_neg hnl, if_pos (.inl h3)]
        have hm : minusS (c :: l) = 0 := by rw [minus_eq, if_neg hn126]
        have hd : digitsS (c :: l) = tw (isIn 48 57) (c :: l) := by unfold digitsS; rw [hm]; rfl
        rw [ht]
        unfold integerS oneS
        rw [hm, hd, hg0, if_neg h1, if_neg h2, if_pos hpos]
        by_cases hb : 7 < tw (isIn 48 57) (c :: l) ∨ (1 < tw (isIn 48 57) (c :: l) ∧ c.toNat = 48)
        · have hbad : badInt 0 (tw (isIn 48 57) (c :: l)) c.toNat = true := by
            unfold badInt
            rcases hb with hb | ⟨hb, hc⟩
            · rw [decide_eq_true hb, Bool.or_true]; rfl
            · rw [decide_eq_true hc, decide_eq_true (show 1 < tw (isIn 48 57) (c :: l) + 0 by omega), Bool.and_self, Bool.or_true]
          rw [if_pos hb, if_pos hbad]
          exact ⟨(decide_eq_false (by simp)).symm, fun h => absurd rfl h⟩
        · have hbad : badInt 0 (tw (isIn 48 57) (c :: l)) c.toNat = false := by
            unfold badInt
            rw [decide_eq_false (show ¬ tw (isIn 48 57) (c :: l) = 0 by omega), decide_eq_false (show ¬ 7 < tw (isIn 48 57) (c :: l) by omega)]
            by_cases hc : c.toNat = 48
            · rw [decide_eq_false (show ¬ 1 < tw (isIn 48 57) (c :: l) + 0 by omega), Bool.and_false]; rfl
            · rw [decide_eq_false hc]; rfl
          rw [if_neg hb, if_neg (by rw [hbad]; exact Bool.false_ne_true)]
          exact ⟨(decide_eq_true (by show tw _ _ ≠ 0; omega)).symm, fun _ => ⟨rfl, by show 0 + tw _ _ = _; omega⟩⟩
      · have hz := (tw_head (p := isIn 48 57) (c := c) (l := l)).2 (by cases h : isIn 48 57 c.toNat <;> first | rfl | exact absurd h h3)
        by_cases h4 : c.toNat = 126
        · have ht : tokenS (c :: l) = integerS (c :: l) := by unfold tokenS; rw [hg0, if_neg hnl, if_pos (.inr h4)]
          have hm : minusS (c :: l) = 1 := by rw [minus_eq, if_pos h4]
          have hd : digitsS (c :: l) = tw (isIn 48 57) l := by unfold digitsS; rw [hm]; rfl
          rw [ht]
          unfold integerS oneS
          rw [hm, hd, hg0, hg1, hd1, if_neg h1, if_neg h2, hz, if_neg (Nat.lt_irrefl 0), if_pos h4]
          by_cases hb : tw (isIn 48 57) l < 1 ∨ 7 < tw (isIn 48 57) l ∨ (l.getD 0 0).toNat = 48
          · have hbad : badInt 1 (tw (isIn 48 57) l) (l.getD 0 0).toNat = true := by
              unfold badInt
              by_cases hz0 : tw (isIn 48 57) l = 0
              · rw [decide_eq_true hz0]; rfl
              · rcases hb with hb | hb | hc
                · omega
                · rw [decide_eq_true hb, Bool.or_true]; rfl
                · rw [decide_eq_true hc, decide_eq_true (show 1 < tw (isIn 48 57) l + 1 by omega), Bool.and_self, Bool.or_true]
            rw [if_pos hb, if_pos hbad]
            exact ⟨(decide_eq_false (by simp)).symm, fun h => absurd rfl h⟩
          · have hbad : badInt 1 (tw (isIn 48 57) l) (l.getD 0 0).toNat = false := by
              unfold badInt
              rw [decide_eq_false (show ¬ tw (isIn 48 57) l = 0 by omega), decide_eq_false (show ¬ 7 < tw (isIn 48 57) l by omega), decide_eq_false (show ¬ (l.getD 0 0).toNat = 48 by omega)]; rfl
            rw [if_neg hb, if_neg (by rw [hbad]; exact Bool.false_ne_true)]
            exact ⟨(decide_eq_true (by show 1 + tw _ _ ≠ 0; omega)).symm, fun _ => ⟨rfl, rfl⟩⟩
        · have hni : ¬ (isIn 48 57 c.toNat = true ∨ c.toNat = 126) := fun h => h.elim h3 h4
          have hf := find_same (fun x => hasPre (c :: l) x) (pre_excl (c :: l))
          unfold tokenS oneS firstLen
          rw [hg0, if_neg hnl, if_neg hni, if_neg h1, if_neg h2, hz, if_neg (Nat.lt_irrefl 0), if_neg h4, ← hf]
          cases hx : signL.find? (fun x => hasPre (c :: l) x) with
          | none => exact ⟨(decide_eq_false (by simp)).symm, fun h => absurd rfl h⟩
          | some x =>
            have := signs_len x (List.mem_of_find?_eq_some hx)
            simp only [if_pos this]
            exact ⟨(decide_eq_true (by omega)).symm, fun _ => by first | trivial | exact ⟨rfl, rfl⟩ | exact ⟨trivial, trivial⟩⟩
end Go.Proofs.YtmgijfdekpfecaaGreatDoor

/- The loop over a source's tokens. -/
open Go Am
namespace Go.Proofs.YtmgijfdekpfecaaGreatDoor
/-- A heap, and behind it one with one block more. -/
def Fresh (st st1 : St) (cells : List AV) : Prop := st1.next = st.next + 1 ∧ (∀ c, c < st.next → st1.heap.get c = st.heap.get c) ∧ st1.heap.get st.next = some (.cells cells 74 false) ∧ st1.bound = st.bound ∧ st1.log = st.log
def spec4 (f : FuncId) (args : List AV) : Option AV := match f with
  | 59 => match args with
    | [.str w] => if w.length < Big ∧ 0 < w.length then some (tokenV w) else none
    | _ => none
  | _ => none
theorem put_next {s : St} {c : Nat} {o : Option AObj} : (s.put c o).next = s.next := rfl
theorem get_hitO (T : Tr AObj) (k : Nat) (x : Option AObj) : (T.set k x).get k = x := by rw [get_set, if_pos rfl]
theorem fresh_alloc {st : St} {cells : List AV} : Fresh st (st.alloc (.cells cells 74 false)) cells :=
  ⟨rfl, fun c hc => by show (st.heap.set st.next _).get c = _; rw [get_set, if_neg (by omega)], get_hitO _ _ _, rfl, rfl⟩
theorem fresh_put {st st1 : St} {cells cells' : List AV} (h : Fresh st st1 cells) (hb : st.bound ≤ st.next) : Fresh st (st1.put st.next (some (.cells cells' 74 false))) cells' := by
  obtain ⟨h1, h2, h3, h4, h5⟩ := h
  refine ⟨h1, fun c hc => ?_, get_hitO _ _ _, h4, ?_⟩
  · show (st1.heap.set st.next _).get c = _
    rw [get_set, if_neg (by omega)]
    exact h2 c hc
  · show (bif Nat.blt st.next st1.bound then _ else st1.log) = _
    have : Nat.blt st.next st1.bound = false := by
      cases hc : Nat.blt st.next st1.bound with
      | false => rfl
      | true => have : st.next < st1.bound := by simpa [Nat.blt_eq] using hc
                omega
    rw [this]; exact h5
section
variable {K : FuncId → List AV → Option AV}
theorem gen_to (hK : K 57 = fun _ => none) (h3 : Three K) (h4 : ∀ w : List UInt8, w.length < Big → 0 < w.length → K 59 [.str w] = some (tokenV w)) (w : List UInt8) (hw : w.length ≤ 4000) {b bx : Nat} {s : St} {e0 : TypeId}
    (C : List Tok → Nat → Tr AObj → Prop) (D : Nat → Nat → Tr AObj → Prop) (hC0 : C [] s.next s.heap) (hbox : ∀ out n h, C out n h → h.get bx = some (.cells [.str w] e0 false)) (hbn : ∀ out n h, C out n h → bx < n)
    (hyes : ∀ out (st st1 : St) (t : Tok), out.length ≤ w.length → st.bound = s.next → C out st.next st.heap → Fresh st st1 (tokCells w t) → Yields (EK K) b [.agg (tokCells w t), .bool true] st1 fun v s' => v = true ∧ s.next ≤ s'.next ∧ C (out ++ [t]) s'.next s'.heap ∧ s'.heap.get st.next = some (.cells (tokCells w t) 74 false) ∧ s'.log ≠ [] ∧ s'.bound = s.next)
    (hno : ∀ out (st st1 : St) (a : Nat) (kd : Int) (text : List UInt8) (ln : Int), st.bound = s.next → C out st.next st.heap → Fresh st st1 [.int .i64 kd, .str text, .int .i64 (a : Nat), .int .i64 ln] →
      Yields (EK K) b [.agg [.int .i64 kd, .str text, .int .i64 (a : Nat), .int .i64 ln], .bool false] st1 fun v s' => v = false ∧ D a s'.next s'.heap ∧ s'.log ≠ []) :
    RunsV (EK K) 57 [.func (.yield b) [] [], .ptr bx 0] s fun _ s3 => s3.bound = s.bound ∧ (s3.log = s.log ∨ ∃ L, s3.log = below s.bound L s.log) ∧ (match (scanAll w).2 with
      | none => C (scanAll w).1 s3.next s3.heap
      | some a => D a s3.next s3.heap) := by
  have hB : w.length < Big := by show w.length < 1099511627776; omega
  have hb0 := blk_le false w
  refine RunsV.unit (fn := Tryz.f57) (by show K 57 _ = none; rw [hK]) (by kernel_rfl) rfl rfl rfl rfl ?_
  refine EvtL.seqReg ?_
  refine RegL.op (OpL.load rfl rfl (loadOne_at agg_string sz_string (hbox _ _ _ hC0) rfl)) rfl rfl rfl ?_
  refine RegL.op (OpL.callFn rfl rfl (by kernel_rfl) rfl (CallTo.memo (h3.blank w hB))) rfl rfl rfl ?_
  refine RegL.q (OpQ.assign rfl rfl) rfl rfl rfl ?_
  refine RegL.done ?_
  refine EvtL.block ?_
  refine EvtL.loopI (fun p : Nat × Nat × List Tok × St => ([(3, .int .i64 (p.2.1 : Nat)), (0, .func (.yield b) [] []), (1, .ptr bx 0)], p.2.2.2)) (fun p => p.1)
    (fun p => p.2.1 ≤ w.length ∧ w.length < p.2.1 + p.1 ∧ scanAll w = (p.2.2.1 ++ (scan w p.1 p.2.1).1, (scan w p.1 p.2.1).2) ∧ C p.2.2.1 p.2.2.2.next p.2.2.2.heap ∧ p.2.2.2.bound = s.next ∧ s.next ≤ p.2.2.2.next ∧ p.2.2.1.length ≤ p.2.1 ∧ (p.2.2.2 = s.enter ∧ p.2.2.1 = [] ∨ p.2.2.2.log ≠ []))
    (w.length + 1, blk false w, [], s.enter) ⟨hb0, by show w.length < blk false w + (w.length + 1); omega, rfl, hC0, rfl, Nat.le_refl _, Nat.zero_le _, .inl ⟨rfl, rfl⟩⟩ rfl (by (refine sub_of ?_; repeat (first | exact trivial | refine ⟨rfl, ?_⟩))) ?_
  rintro ⟨f, a, out, st⟩ ⟨ha, hfa, hsc, hC, hbd, hnx, hol, hlg⟩
  dsimp only at ha hfa hsc hC hbd hnx hol hlg ⊢
  obtain ⟨f, rfl⟩ : ∃ g, f = g + 1 := ⟨f - 1, by omega⟩
  have hbx := hbox _ _ _ hC
  refine EvtL.seq ?_
  refine EvtL.seqReg ?_
  refine RegL.q (OpQ.move rfl rfl) rfl rfl rfl ?_
  refine RegL.op (OpL.load rfl rfl (loadOne_at agg_string sz_string hbx rfl)) rfl rfl rfl ?_
  refine RegL.q (OpQ.lenStr rfl rfl rfl rfl u_string rfl) rfl rfl rfl ?_
  refine RegL.q (OpQ.int2 rfl u_int rfl rfl rfl rfl) rfl rfl rfl ?_
  refine RegL.done ?_
  refine EvtL.cond rfl (fun hc => ?_) (fun hc => ?_)
  · have hlt : a < w.length := by have := of_decide_eq_true hc; omega
    have hsl : ∀ m, (w.drop m).take (w.length - m) = w.drop m := fun m => List.take_of_length_le (by rw [List.length_drop]; exact Nat.le_refl _)
    have hpos : 0 < (w.drop a).length := by rw [List.length_drop]; omega
    have hlaw := tok_one (w.drop a) hpos
    have hol1 := one_le (w.drop a) hpos
    rw [List.length_drop] at hol1
    have hs : scan w (f + 1) a = if (oneS (w.drop a)).2 = 0 then ([], some a)
      else (((oneS (w.drop a)).1, a, (oneS (w.drop a)).2) :: (scan w f (a + (oneS (w.drop a)).2 + blk false (w.drop (a + (oneS (w.drop a)).2)))).1,
        (scan w f (a + (oneS (w.drop a)).2 + blk false (w.drop (a + (oneS (w.drop a)).2)))).2) := by
      conv => lhs; unfold scan
      rw [if_pos hlt]
    refine EvtL.skip ?_
    refine EvtL.seq ?_
    refine EvtL.block ?_
    refine EvtL.seqReg ?_
    refine RegL.op (OpL.load rfl rfl (loadOne_at agg_string sz_string hbx rfl)) rfl rfl rfl ?_
    refine RegL.q (OpQ.move rfl rfl) rfl rfl rfl ?_
    refine RegL.q (OpQ.sliceStr rfl u_string rfl rfl rfl bounds_none (bounds_some ha) ⟨ha, Nat.le_refl _⟩) rfl rfl rfl ?_
    rw [hsl]
    refine RegL.op (OpL.callFn rfl rfl (by kernel_rfl) rfl (CallTo.memo (h4 (w.drop a) (by rw [List.length_drop]; show w.length - a < 1099511627776; omega) hpos))) rfl rfl rfl ?_
    unfold tokenV tokV
    have hbn' : bx < st.next := hbn _ _ _ hC
    have hends : ends (w.take a) ≤ 4000 := by
      have := ends_le (w.take a)
      rw [List.length_take] at this
      omega
    generalize tokenS (w.drop a) = ts at *
    refine RegL.q (OpQ.move rfl rfl) rfl rfl rfl ?_
    refine RegL.q (OpQ.extract rfl rfl rfl) rfl rfl rfl ?_
    refine RegL.q (OpQ.extract rfl rfl rfl) rfl rfl rfl ?_
    refine RegL.op (OpL.alloc rfl zero_tok) rfl rfl rfl ?_
    have F1 : Fresh st (st.alloc (.cells (AV.agg [.int .i64 0, .str [], .int .i64 0, .int .i64 0]).cells 74 false)) [.int .i64 0, .str [], .int .i64 0, .int .i64 0] := fresh_alloc
    generalize st.alloc (.cells (AV.agg [.int .i64 0, .str [], .int .i64 0, .int .i64 0]).cells 74 false) = st1 at F1 ⊢
    refine RegL.opN (OpL.store rfl sz_tok rfl rfl (storeN_at F1.2.2.1 rfl rfl rfl)) rfl rfl ?_
    have F2 := fresh_put F1 (cells' := [.int .i64 (ts.1 : Nat), .str ((w.drop a).take ts.2.1), .int .i64 0, .int .i64 0]) (by omega)
    generalize st1.put st.next (some (.cells [.int .i64 (ts.1 : Nat), .str ((w.drop a).take ts.2.1), .int .i64 0, .int .i64 0] 74 false)) = st2 at F2 ⊢
    refine RegL.q (OpQ.assign rfl rfl) rfl rfl rfl ?_
    refine RegL.done ?_
    refine EvtL.seqReg ?_
    refine RegL.q (OpQ.move rfl rfl) rfl rfl rfl ?_
    refine RegL.op (OpL.load rfl rfl (loadOne_at agg_string sz_string ((F2.2.1 bx hbn').trans hbx) rfl)) rfl rfl rfl ?_
    refine RegL.q (OpQ.move rfl rfl) rfl rfl rfl ?_
    refine RegL.q (OpQ.sliceStr rfl u_string rfl rfl rfl (bounds_some ha) rfl ⟨Nat.zero_le _, ha⟩) rfl rfl rfl ?_
    rw [List.drop_zero, Nat.sub_zero]
    refine RegL.op (OpL.callFn rfl rfl (by kernel_rfl) rfl (CallTo.memo (h3.two.count (w.take a)))) rfl rfl rfl ?_
    refine RegL.q (OpQ.addN (a := 1) rfl u_int rfl rfl (by first | omega | assumption)) rfl rfl rfl ?_
    refine RegL.q (OpQ.fieldAddr rfl f_tok2 rfl) rfl rfl rfl ?_
    refine RegL.opN (OpL.store rfl sz_int rfl rfl (storeN_at F2.2.2.1 rfl rfl rfl)) rfl rfl ?_
    have F3 := fresh_put F2 (cells' := [.int .i64 (ts.1 : Nat), .str ((w.drop a).take ts.2.1), .int .i64 (a : Nat), .int .i64 0]) (by omega)
    generalize st2.put st.next (some (.cells [.int .i64 (ts.1 : Nat), .str ((w.drop a).take ts.2.1), .int .i64 (a : Nat), .int .i64 0] 74 false)) = st3 at F3 ⊢
    refine RegL.q (OpQ.fieldAddr rfl f_tok3 rfl) rfl rfl rfl ?_
    refine RegL.opN (OpL.store rfl sz_int rfl rfl (storeN_at F3.2.2.1 rfl rfl rfl)) rfl rfl ?_
    have F4 := fresh_put F3 (cells' := [.int .i64 (ts.1 : Nat), .str ((w.drop a).take ts.2.1), .int .i64 (a : Nat), .int .i64 ((1 + ends (w.take a) : Nat) : Int)]) (by omega)
    generalize st3.put st.next (some (.cells [.int .i64 (ts.1 : Nat), .str ((w.drop a).take ts.2.1), .int .i64 (a : Nat), .int .i64 ((1 + ends (w.take a) : Nat) : Int)] 74 false)) = st4 at F4 ⊢
    refine RegL.done ?_
    refine EvtL.seq ?_
    refine EvtL.seqReg ?_
    refine RegL.q (OpQ.move rfl rfl) rfl rfl rfl ?_
    refine RegL.op (OpL.load rfl rfl (loadAgg_at agg_tok sz_tok F4.2.2.1 (Nat.le_refl _))) rfl rfl rfl ?_
    refine RegL.q (OpQ.move rfl rfl) rfl rfl rfl ?_
    by_cases hn0 : (oneS (w.drop a)).2 = 0
    · have hok : ts.2.2 = false := hlaw.1.trans (decide_eq_false (fun h => h hn0))
      rw [if_pos hn0] at hs
      rw [hs, List.append_nil] at hsc
      rw [hok]
      refine RegL.yields rfl rfl rfl rfl rfl rfl rfl (hno out st st4 a _ _ _ hbd hC F4) ?_
      rintro v s' ⟨rfl, hD, hl⟩
      refine RegL.q (OpQ.not rfl rfl) rfl rfl rfl ?_
      refine RegL.q (OpQ.move rfl rfl) rfl rfl rfl ?_
      refine RegL.skip rfl rfl rfl rfl rfl rfl rfl ?_
      refine RegL.skip rfl rfl rfl rfl rfl rfl rfl ?_
      refine RegL.q (OpQ.pickT rfl rfl rfl rfl) rfl rfl rfl ?_
      refine RegL.done ?_
      refine EvtL.cond rfl (fun _ => ?_) (fun h => by cases h)
      skip
      refine EvtL.ret ?_
      refine ⟨.inl rfl, rfl, fun h => absurd h hl, rfl, .inr ⟨_, rfl⟩, ?_⟩
      rw [hsc]; exact hD
    · have hok : ts.2.2 = true := hlaw.1.trans (decide_eq_true hn0)
      rw [if_neg hn0] at hs
      obtain ⟨ek, en⟩ := hlaw.2 hn0
      have hbl := blk_le false (w.drop (a + ts.2.1))
      rw [List.length_drop] at hbl
      rw [← ek, ← en] at hs
      rw [← en] at hol1
      rw [hok]
      refine RegL.yields rfl rfl rfl rfl rfl rfl rfl (hyes out st st4 (ts.1, a, ts.2.1) (by omega) hbd hC F4) ?_
      rintro v s' ⟨rfl, hnx', hC', ht, hl, hbd'⟩
      have hxl : ((w.drop a).take ts.2.1).length = ts.2.1 := by rw [List.length_take, List.length_drop]; omega
      have hbx' := hbox _ _ _ hC'
      refine RegL.q (OpQ.not rfl rfl) rfl rfl rfl ?_
      refine RegL.q (OpQ.move rfl rfl) rfl rfl rfl ?_
      refine RegL.go rfl rfl rfl rfl rfl (OpL.q (OpQ.move rfl rfl)) rfl rfl ?_
      refine RegL.go rfl rfl rfl rfl rfl (OpL.q (OpQ.not rfl rfl)) rfl rfl ?_
      refine RegL.q (OpQ.pickF rfl rfl rfl rfl) rfl rfl rfl ?_
      refine RegL.done ?_
      refine EvtL.cond rfl (fun h => by cases h) (fun _ => ?_)
      refine EvtL.skip ?_
      refine EvtL.reg ?_
      refine RegL.q (OpQ.move rfl rfl) rfl rfl rfl ?_
      refine RegL.q (OpQ.fieldAddr rfl f_tok1 rfl) rfl rfl rfl ?_
      refine RegL.op (OpL.load rfl rfl (loadOne_at (v := .str ((w.drop a).take ts.2.1)) agg_string sz_string ht rfl)) rfl rfl rfl ?_
      refine RegL.q (OpQ.lenStr rfl rfl rfl rfl u_string rfl) rfl rfl rfl ?_
      rw [hxl]
      refine RegL.q (OpQ.addN rfl u_int rfl rfl (by first | omega | assumption)) rfl rfl rfl ?_
      refine RegL.q (OpQ.assign rfl rfl) rfl rfl rfl ?_
      refine RegL.done ?_
      refine EvtL.reg ?_
      refine RegL.q (OpQ.move rfl rfl) rfl rfl rfl ?_
      refine RegL.op (OpL.load rfl rfl (loadOne_at agg_string sz_string hbx' rfl)) rfl rfl rfl ?_
      refine RegL.q (OpQ.move rfl rfl) rfl rfl rfl ?_
      refine RegL.q (OpQ.sliceStr rfl u_string rfl rfl rfl bounds_none (bounds_some (n := a + ts.2.1) (by omega)) ⟨by omega, Nat.le_refl _⟩) rfl rfl rfl ?_
      rw [hsl]
      refine RegL.op (OpL.callFn rfl rfl (by kernel_rfl) rfl (CallTo.memo (h3.blank _ (by rw [List.length_drop]; show w.length - (a + ts.2.1) < 1099511627776; omega)))) rfl rfl rfl ?_
      refine RegL.q (OpQ.addN rfl u_int rfl rfl (by first | omega | assumption)) rfl rfl rfl ?_
      refine RegL.q (OpQ.assign rfl rfl) rfl rfl rfl ?_
      refine RegL.done ?_
      have hlen : (out ++ [((ts.1, a, ts.2.1) : Tok)]).length ≤ a + ts.2.1 + blk false (w.drop (a + ts.2.1)) := by
        have : ts.2.1 ≠ 0 := by rw [en]; exact hn0
        rw [List.length_append, List.length_singleton]
        omega
      refine ⟨(f, a + ts.2.1 + blk false (w.drop (a + ts.2.1)), out ++ [(ts.1, a, ts.2.1)], s'), ⟨by show a + ts.2.1 + _ ≤ _; omega, by show _ < a + ts.2.1 + _ + f; omega, ?_, hC', hbd', hnx', hlen, .inr hl⟩, Nat.lt_succ_self _, rfl, rfl, by (refine sub_of ?_; repeat (first | exact trivial | refine ⟨rfl, ?_⟩))⟩
      rw [hsc, hs]
      simp only [List.append_assoc, List.singleton_append]
  · have hge : a = w.length := by have := of_decide_eq_false hc; omega
    have hs : scan w (f + 1) a = ([], none) := by
      conv => lhs; unfold scan
      rw [if_neg (by omega)]
    rw [hs, List.append_nil] at hsc
    refine EvtL.exit ?_
    refine cond_t rfl ?_
    refine ⟨.inr rfl, rfl, fun h => ?_, rfl, .inr ⟨_, rfl⟩, ?_⟩
    · refine ⟨rfl, .inl rfl, ?_⟩
      rcases hlg with ⟨rfl, rfl⟩ | hlg
      · rw [hsc]; exact hC0
      · exact absurd h hlg
    · rw [hsc]; exact hC
end
end Go.Proofs.YtmgijfdekpfecaaGreatDoor

/- The loop over tokens, as a value. -/
open Go Am
namespace Go.Proofs.YtmgijfdekpfecaaGreatDoor
section
variable {K : FuncId → List AV → Option AV}
theorem tokens_runs (hK : K 21 = fun _ => none) (w : List UInt8) {s : St} {R : AV → St → Prop}
    (hR : R (.func (.func 57) [] [.ptr s.next 0]) (s.back (s.enter.alloc (.cells [.str w] 9 false)))) :
    RunsV (EK K) 21 [.str w] s R := by
  refine RunsV.gen (fn := Tryz.f21) (by show K 21 _ = none; rw [hK]) (by kernel_rfl) rfl rfl rfl rfl ?_
  refine EvtL.seqReg ?_
  refine RegL.op (OpL.box rfl rfl rfl) rfl rfl rfl ?_
  refine RegL.q (OpQ.assign rfl rfl) rfl rfl rfl ?_
  refine RegL.done ?_
  refine EvtL.seqReg ?_
  refine RegL.q (OpQ.makeFunc rfl rfl rfl) rfl rfl rfl ?_
  refine RegL.q (OpQ.assign rfl rfl) rfl rfl rfl ?_
  refine RegL.done ?_
  refine EvtL.ret ?_
  have hu : underV s.next 40 (.func (.func 57) [] [.ptr s.next 0]) = false := by
    show (([] : List AV).all (underV s.next 39) && [AV.ptr s.next 0].all (underV s.next 39)) = false
    simp only [List.all_nil, List.all_cons, Bool.true_and, Bool.and_true]
    show Nat.blt s.next s.next = false
    cases h : Nat.blt s.next s.next with
    | false => rfl
    | true => exact absurd (Nat.lt_of_lt_of_le (Nat.le_of_ble_eq_true h) (Nat.le_refl _)) (Nat.lt_irrefl _)
  refine ⟨.inl rfl, _, rfl, _, rfl, .val (.func (.func 57) [] [.ptr s.next 0]) (s.back (s.enter.alloc (.cells [.str w] 9 false))), ?_, hR⟩
  unfold leave Am.frozen
  rw [show (EK K).frz 21 = 1 by kernel_rfl]
  show (frozenFrom s.next _ (s.enter.alloc (.cells [.str w] 9 false))).bind _ = _
  show some (leaveQ s (.func (.func 57) [] [.ptr s.next 0]) (s.enter.alloc (.cells [.str w] 9 false)) []) = _
  unfold leaveQ
  rw [hu]; rfl
end
end Go.Proofs.YtmgijfdekpfecaaGreatDoor

/- The tokens of a source. -/
open Go Am
namespace Go.Proofs.YtmgijfdekpfecaaGreatDoor
def CT (w : List UInt8) (lp : ALoop) (out : List Tok) (n : Nat) (h : Tr AObj) : Prop :=
  6 ≤ n ∧ h.get 0 = some (.cells [.nilslice] 24 false) ∧ h.get 1 = some (.cells [.int .i64 0] 25 false) ∧ h.get 3 = some (.cells [.str w] 9 false) ∧ h.get 4 = some (.defs true) ∧ h.get 5 = some (.loop lp) ∧
    ∃ v, h.get 2 = some (.cells [v] 24 false) ∧ Grown { next := n, bound := 0, log := [], heap := h } 74 4 v (cellsT w out) out.length ∧ (∀ c, ownB c v = true → 6 ≤ c)
def DT (_ : Nat) (_ : Nat) (h : Tr AObj) : Prop :=
  h.get 0 = some (.cells [.nilslice] 24 false) ∧ h.get 1 = some (.cells [.int .i64 4] 25 false) ∧ h.get 4 = some (.defs true) ∧ ∃ lp, h.get 5 = some (.loop lp) ∧ lp.state = .done ∧ lp.pending = some .ret
def tokensV (w : List UInt8) : AV := if 3000 < w.length then .tuple [.nilslice, .int .i64 3] else match (scanAll w).2 with
  | some _ => .tuple [.nilslice, .int .i64 4]
  | none => .tuple [outA (cellsT w (scanAll w).1) (scanAll w).1.length 4, .int .i64 0]
theorem get_put {s : St} {b c : Nat} {o : Option AObj} : (s.put b o).heap.get c = if c = b then o else s.heap.get c := get_set ..
theorem get_alloc {s : St} {c : Nat} {o : AObj} : (s.alloc o).heap.get c = if c = s.next then some o else s.heap.get c := get_set ..
theorem res_one {E : Env} {s : St} {l : Sl} {a t n b : Nat} {rs : List ResultVar} {vs : List AV} {v : AV} {e : TypeId} {part : Bool} (hl : Am.look a l = some (.ptr b 0)) (h1 : Am.isAgg E t = some false) (h2 : Am.sizeOf E t = some n) (hg : s.heap.get b = some (.cells [v] e part))
    (h : resultsL E s l rs = some vs) : resultsL E s l (.cell a t :: rs) = some (v :: vs) := by
  have hv : loadC E t s (.ptr b 0) = some v := loadOne_at h1 h2 hg rfl
  unfold resultsL
  rw [hl]
  simp only [Option.bind_some, hv, h]
theorem unwinds_one {s : St} {r : Nat} (h : s.heap.get r = some (.defs true)) : unwinds [{ target := .collected r, args := [] }] s = some (s.put r (some (.defs false))) := by
  show (match s.heap.get r with
    | some (.defs true) => unwinds [] (s.put r (some (.defs false)))
    | _ => none) = _
  rw [h]; rfl
theorem put_low {s : St} {c : Nat} {o : Option AObj} (h : s.bound = 0) : (s.put c o).log = s.log := by
  show (bif Nat.blt c s.bound then _ else s.log) = _
  rw [h]; rfl
theorem below_zero (L l : List Nat) : below 0 L l = l := by
  induction L generalizing l with
  | nil => rfl
  | cons b L ih => exact ih l
theorem range_loop {s : St} {nt : Nat} {T : Tr AV} {ps : List Nat} {a b : Code} : (rangeSt s nt T ps a b).heap.get (s.next + 1) = some (.loop { state := .ready, pending := none, fn := 0, nt, tmps := T, params := ps, assign := a, body := b }) := get_hitO _ _ _
section
variable {K : FuncId → List AV → Option AV}
theorem tokens_to (hK : K 6 = fun _ => none) (hK1 : K 21 = fun _ => none) (hK2 : K 57 = fun _ => none) (h3 : Three K) (h4 : ∀ w : List UInt8, w.length < Big → 0 < w.length → K 59 [.str w] = some (tokenV w))
    (w : List UInt8) (hw : w.length ≤ 4000) : CallTo (EK K) 6 [.str w] S0 (tokensV w) := by
  refine CallTo.gen (fn := Tryz.f6) (by show K 6 _ = none; rw [hK]) (by kernel_rfl) rfl rfl rfl rfl ?_
  refine EvtL.seqReg ?_
  refine RegL.op (OpL.alloc rfl z_toks) rfl rfl rfl ?_
  refine RegL.op (OpL.alloc rfl z_errno) rfl rfl rfl ?_
  refine RegL.done ?_
  refine EvtL.seq ?_
  refine EvtL.seqReg ?_
  refine RegL.q (OpQ.move rfl rfl) rfl rfl rfl ?_
  refine RegL.q (OpQ.lenStr rfl rfl rfl rfl u_string rfl) rfl rfl rfl ?_
  refine RegL.q (OpQ.int2 rfl u_int rfl rfl rfl rfl) rfl rfl rfl ?_
  refine RegL.done ?_
  refine EvtL.cond rfl (fun hc => ?_) (fun hc => ?_)
  · have hlt : 3000 < w.length := by have := of_decide_eq_true hc; omega
    refine EvtL.seqReg ?_
    refine RegL.opN (OpL.store rfl sz_toks rfl rfl (storeN_at (b := 0) (off := 0) (e := 24) (part := false) (cs := [.nilslice]) (cs' := [.nilslice]) (by kernel_rfl) rfl rfl rfl)) rfl rfl ?_
    refine RegL.opN (OpL.store rfl sz_errno rfl rfl (storeN_at (b := 1) (off := 0) (e := 25) (part := false) (cs := [.int .i64 0]) (cs' := [.int .i64 3]) (by kernel_rfl) rfl rfl rfl)) rfl rfl ?_
    refine RegL.done ?_
    refine EvtL.ret ?_
    refine ⟨.inl rfl, _, rfl, [.nilslice, .int .i64 3], res_one (b := 0) (e := 24) (part := false) rfl agg_toks sz_toks (by kernel_rfl) (res_one (b := 1) (e := 25) (part := false) rfl agg_errno sz_errno (by kernel_rfl) rfl), ?_⟩
    rw [show tokensV w = .tuple [.nilslice, .int .i64 3] by unfold tokensV; rw [if_pos hlt]]
    exact leave_flat (fun _ _ => rfl) (fun _ => rfl) rfl
  · have hlt : ¬ 3000 < w.length := by have := of_decide_eq_false hc; omega
    refine EvtL.skip ?_
    refine EvtL.seqReg ?_
    refine RegL.op (OpL.alloc rfl z_toks) rfl rfl rfl ?_
    refine RegL.done ?_
    refine EvtL.seq ?_
    refine EvtL.seqReg ?_
    refine RegL.q (OpQ.move rfl rfl) rfl rfl rfl ?_
    refine RegL.callFn rfl rfl (by kernel_rfl) rfl rfl rfl rfl (tokens_runs hK1 w ?_)
    refine RegL.done ?_
    refine EvtL.block ?_
    refine EvtL.range rfl rfl (by kernel_rfl) fun T hT => ?_
    refine RunsV.mono (gen_to hK2 h3 h4 w hw (e0 := 9) (C := CT w _) (D := DT) ⟨Nat.le_refl _, (by kernel_rfl), (by kernel_rfl), (by kernel_rfl), (by kernel_rfl), range_loop, .nilslice, (by kernel_rfl), Grown.nil _ _ _, fun c hc => by cases hc⟩ ?hbox ?hbn ?hyes ?hno) ?hR
    case hbox => exact fun out n h hC => hC.2.2.2.1
    case hbn => exact fun out n h hC => by have := hC.1; show 3 < n; omega
    case hyes =>
      rintro out st st1 t hol hbd ⟨hn, g0, g1, g3, g4, g5, v, g2, hgr, hown⟩ hF
      have hlow : ∀ c, c < 6 → st1.heap.get c = st.heap.get c := fun c hc => hF.2.1 c (by omega)
      have hnx : 6 ≤ st1.next := by rw [hF.1]; omega
      show Yields (EK K) 5 _ st1 _
      refine ⟨_, _, _, (hlow 5 (by omega)).trans g5, rfl, (hT.put 12 _).put 13 _, ?_⟩
      refine EvtL.seqReg ?_
      refine RegL.op (OpL.alloc rfl zero_tok) rfl rfl rfl ?_
      refine RegL.opN (OpL.store rfl sz_tok rfl rfl (storeN_at (get_hitO _ _ _) rfl rfl rfl)) rfl rfl ?_
      refine RegL.done ?_
      refine EvtL.reg ?_
      refine RegL.q (OpQ.assign rfl rfl) rfl rfl rfl ?_
      refine RegL.done ?_
      have e : ∀ (o : Option AObj) c, c < st1.next → ((st1.alloc (.cells (AV.agg [.int .i64 0, .str [], .int .i64 0, .int .i64 0]).cells 74 false)).put st1.next o).heap.get c = st1.heap.get c := fun o c hc => by
        rw [get_put, if_neg (by omega), get_alloc, if_neg (by omega)]
      refine ⟨rfl, _, (e _ 5 (by omega)).trans ((hlow 5 (by omega)).trans g5), rfl, ?_⟩
      have f5 : ∀ o : Option AObj, ∃ st5 : St, st5 = ((st1.alloc (.cells (AV.agg [.int .i64 0, .str [], .int .i64 0, .int .i64 0]).cells 74 false)).put st1.next (some (.cells (tokCells w t) 74 false))).put 5 o ∧ st5.next = st1.next + 1 ∧ st5.bound = st.bound ∧
          (∀ c, c < st1.next → c ≠ 5 → st5.heap.get c = st1.heap.get c) ∧ st5.heap.get st1.next = some (.cells (tokCells w t) 74 false) ∧ st5.heap.get 5 = o := fun o =>
        ⟨_, rfl, rfl, hF.2.2.2.1, fun c hc h5 => by rw [get_put, if_neg h5, e _ c hc], by rw [get_put, if_neg (by omega), get_put, if_pos rfl], by rw [get_put, if_pos rfl]⟩
      refine (fun {o : Option AObj} {P : St → Prop} (h : ∀ st5 : St, st5.next = st1.next + 1 → st5.bound = st.bound → (∀ c, c < st1.next → c ≠ 5 → st5.heap.get c = st1.heap.get c) → st5.heap.get st1.next = some (.cells (tokCells w t) 74 false) → st5.heap.get 5 = o → P st5) =>
        show P (((st1.alloc (.cells (AV.agg [.int .i64 0, .str [], .int .i64 0, .int .i64 0]).cells 74 false)).put st1.next (some (.cells (tokCells w t) 74 false))).put 5 o) from let ⟨st5, hs5, n5, b5, e5, t5, l5⟩ := f5 o; hs5 ▸ h st5 n5 b5 e5 t5 l5) (P := fun s => EvtL (EK K) _ _ _ s _) ?_
      intro st5 n5 b5 e5 t5 l5
      refine EvtL.block ?_
      refine EvtL.seq ?_
      refine EvtL.seqReg ?_
      refine RegL.q (OpQ.move rfl rfl) rfl rfl rfl ?_
      refine RegL.q (OpQ.not rfl rfl) rfl rfl rfl ?_
      refine RegL.done ?_
      refine EvtL.cond rfl (fun h => by cases h) (fun _ => ?_)
      refine EvtL.skip ?_
      refine EvtL.reg ?_
      refine RegL.op (OpL.load rfl rfl (loadOne_at (b := 2) (off := 0) (v := v) agg_toks sz_toks ((e5 2 (by omega) (by decide)).trans ((hlow 2 (by omega)).trans g2)) rfl)) rfl rfl rfl ?_
      refine RegL.op (OpL.load rfl rfl (loadAgg_at agg_tok sz_tok t5 (Nat.le_refl _))) rfl rfl rfl ?_
      have hgr5 : Grown (st5.alloc (.cells (tokCells w t) 74 false)) 74 4 v (cellsT w out) out.length := by
        refine hgr.keep (by show st.next ≤ st5.next + 1; rw [n5, hF.1]; omega) fun c hc => ?_
        have hc6 := hown c hc
        have hcn : c < st.next := by
          rcases hgr with ⟨rfl, _⟩ | ⟨b, rfl, hb, _⟩
          · cases hc
          · have := Nat.eq_of_beq_eq_true hc
            rw [← this]; exact hb
        rw [get_alloc, if_neg (by rw [n5, hF.1]; omega), e5 c (by rw [hF.1]; omega) (by omega)]
        exact hF.2.1 c hcn
      obtain ⟨v', s6, happ, hg6, hov, hn6, hb6, _, hk6⟩ := hgr5.append (new := tokCells w t) (by_ := 40) rfl (by decide) rfl (by
        have : (out.length + 1) * 40 ≤ 1099511627776 := by omega
        unfold small
        rw [Nat.ble_eq_true_of_le this, Nat.ble_eq_true_of_le (show out.length + 1 ≤ 1099511627776 by omega)]; rfl)
      refine RegL.op (OpL.buildSlice rfl u_toks sz_tok zero_tok rfl rfl (cs := tokCells w t) rfl) rfl rfl rfl ?_
      refine RegL.op (OpL.append rfl rfl rfl rfl u_toks sz_tok by_tok zero_tok (by kernel_rfl) (by kernel_rfl) rfl rfl (new := tokCells w t) (n := 1) (by
        show (cellsOf? ((st5.alloc (.cells (tokCells w t) 74 false)).heap.get st5.next)).bind _ = _
        rw [get_alloc, if_pos rfl]; rfl) happ) rfl rfl rfl ?_
      have nown : ∀ c, c < 6 → ownB c v = false := fun c hc => by
        cases h : ownB c v with
        | false => rfl
        | true => have := hown c h; omega
      have nown2 : ownB st.next v = false := by
        cases h : ownB st.next v with
        | false => rfl
        | true =>
          rcases hgr with ⟨rfl, _⟩ | ⟨b, rfl, hb, _⟩
          · cases h
          · have := Nat.eq_of_beq_eq_true h
            have hb' : b < st.next := hb
            omega
      have k6 : ∀ c, c < st5.next → ownB c v = false → s6.heap.get c = st5.heap.get c := fun c hc ho => by
        rw [hk6 c (Nat.lt_succ_of_lt hc) ho, get_alloc, if_neg (by omega)]
      have kk : ∀ c, c < st1.next → c ≠ 5 → ownB c v = false → s6.heap.get c = st1.heap.get c := fun c hc h5 ho => by
        rw [k6 c (by omega) ho, e5 c hc h5]
      have hx6 : 6 ≤ s6.next := by rw [hn6]; show 6 ≤ st5.next + 1 + 1; omega
      have hown' : ∀ c, ownB c v' = true → 6 ≤ c := fun c hc => by
        rcases hg6 with ⟨rfl, _⟩ | ⟨b, rfl, _⟩
        · cases hc
        · have e1 := Nat.eq_of_beq_eq_true hc
          have e2 := Nat.eq_of_beq_eq_true hov
          have e3 : (st5.alloc (.cells (tokCells w t) 74 false)).next = st5.next + 1 := rfl
          omega
      refine RegL.opN (OpL.store rfl sz_toks rfl rfl (storeN_at (b := 2) (off := 0) (e := 24) (part := false) (cs := [v]) (cs' := [v']) ((kk 2 (by omega) (by decide) (nown 2 (by omega))).trans ((hlow 2 (by omega)).trans g2)) ?_ ?_ ?_)) rfl rfl ?_
      · rcases hg6 with ⟨rfl, _⟩ | ⟨_, rfl, _⟩ <;> rfl
      · rcases hg6 with ⟨rfl, _⟩ | ⟨_, rfl, _⟩ <;> rfl
      · rcases hg6 with ⟨rfl, _⟩ | ⟨_, rfl, _⟩ <;> rfl
      refine RegL.done ?_
      refine ⟨rfl, _, by rw [get_put, if_neg (by decide), k6 5 (by omega) (nown 5 (by omega))]; exact l5, rfl, hx6, ⟨hx6, ?_, ?_, ?_, ?_, by rw [get_put, if_pos rfl], v', ?_, ?_, hown'⟩, ?_, ?_, ?_⟩
      · rw [get_put, if_neg (by decide), get_put, if_neg (by decide), kk 0 (by omega) (by decide) (nown 0 (by omega)), hlow 0 (by omega)]; exact g0
      · rw [get_put, if_neg (by decide), get_put, if_neg (by decide), kk 1 (by omega) (by decide) (nown 1 (by omega)), hlow 1 (by omega)]; exact g1
      · rw [get_put, if_neg (by decide), get_put, if_neg (by decide), kk 3 (by omega) (by decide) (nown 3 (by omega)), hlow 3 (by omega)]; exact g3
      · rw [get_put, if_neg (by decide), get_put, if_neg (by decide), kk 4 (by omega) (by decide) (nown 4 (by omega)), hlow 4 (by omega)]; exact g4
      · rw [get_put, if_neg (by decide), get_put, if_pos rfl]
      · rw [cellsT_snoc, List.length_append]
        refine hg6.keep (Nat.le_refl _) fun c hc => ?_
        have := hown' c hc
        show (St.put (St.put s6 2 _) 5 _).heap.get c = _
        rw [get_put, if_neg (by omega), get_put, if_neg (by omega)]
      · rw [get_put, if_neg (by omega), get_put, if_neg (by omega), kk st.next (by rw [hF.1]; omega) (by omega) nown2]; exact hF.2.2.1
      · refine put_logged (.inr ?_)
        show 5 < s6.bound
        rw [hb6]
        show 5 < st5.bound
        rw [b5, hbd]
        show 5 < 6
        omega
      · show s6.bound = _
        rw [hb6]
        show st5.bound = _
        rw [b5, hbd]
    case hno =>
      rintro out st st1 a kd text ln hbd ⟨hn, g0, g1, g3, g4, g5, v, g2, hgr, hown⟩ hF
      have hlow : ∀ c, c < 6 → st1.heap.get c = st.heap.get c := fun c hc => hF.2.1 c (by omega)
      have hnx : 6 ≤ st1.next := by rw [hF.1]; omega
      show Yields (EK K) 5 _ st1 _
      refine ⟨_, _, _, (hlow 5 (by omega)).trans g5, rfl, (hT.put 12 _).put 13 _, ?_⟩
      refine EvtL.seqReg ?_
      refine RegL.op (OpL.alloc rfl zero_tok) rfl rfl rfl ?_
      refine RegL.opN (OpL.store rfl sz_tok rfl rfl (storeN_at (get_hitO _ _ _) rfl rfl rfl)) rfl rfl ?_
      refine RegL.done ?_
      refine EvtL.reg ?_
      refine RegL.q (OpQ.assign rfl rfl) rfl rfl rfl ?_
      refine RegL.done ?_
      have e : ∀ (o : Option AObj) c, c < 6 → ((st1.alloc (.cells (AV.agg [.int .i64 0, .str [], .int .i64 0, .int .i64 0]).cells 74 false)).put st1.next o).heap.get c = st.heap.get c := fun o c hc => by
        rw [get_put, if_neg (by omega), get_alloc, if_neg (by omega), hlow c hc]
      refine ⟨rfl, _, (e _ 5 (by omega)).trans g5, rfl, ?_⟩
      refine EvtL.block ?_
      refine EvtL.seq ?_
      refine EvtL.seqReg ?_
      refine RegL.q (OpQ.move rfl rfl) rfl rfl rfl ?_
      refine RegL.q (OpQ.not rfl rfl) rfl rfl rfl ?_
      refine RegL.done ?_
      refine EvtL.cond rfl (fun _ => ?_) (fun h => by cases h)
      refine EvtL.seqReg ?_
      refine RegL.opN (OpL.store rfl sz_toks rfl rfl (storeN_at (b := 0) (off := 0) (e := 24) (part := false) (cs := [.nilslice]) (cs' := [.nilslice]) (by rw [get_put, if_neg (by decide), e _ 0 (by omega)]; exact g0) rfl rfl rfl)) rfl rfl ?_
      refine RegL.opN (OpL.store rfl sz_errno rfl rfl (storeN_at (b := 1) (off := 0) (e := 25) (part := false) (cs := [.int .i64 0]) (cs' := [.int .i64 4]) (by rw [get_put, if_neg (by decide), get_put, if_neg (by decide), e _ 1 (by omega)]; exact g1) rfl rfl rfl)) rfl rfl ?_
      refine RegL.done ?_
      refine EvtL.ret ?_
      refine ⟨rfl, _, by rw [get_put, if_neg (by decide), get_put, if_neg (by decide), get_put, if_pos rfl], rfl, ⟨?_, ?_, ?_, _, by rw [get_put, if_pos rfl], rfl, rfl⟩, ?_⟩
      · rw [get_put, if_neg (by decide), get_put, if_neg (by decide), get_put, if_pos rfl]
      · rw [get_put, if_neg (by decide), get_put, if_pos rfl]
      · rw [get_put, if_neg (by decide), get_put, if_neg (by decide), get_put, if_neg (by decide), get_put, if_neg (by decide), e _ 4 (by omega)]; exact g4
      · refine put_logged (.inr ?_)
        show 5 < st1.bound
        rw [hF.2.2.2.1, hbd]
        show 5 < 6
        omega
    case hR =>
      rintro _ s3 ⟨hb3, hl3, hm⟩
      have hbd : s3.bound = 0 := hb3
      have hlg : s3.log = [] := by
        rcases hl3 with h | ⟨L, h⟩
        · exact h
        · rw [h]; exact below_zero L []
      show RangeQ 5 _ s3
      have hT' : tokensV w = match (scanAll w).2 with
        | some _ => .tuple [.nilslice, .int .i64 4]
        | none => .tuple [outA (cellsT w (scanAll w).1) (scanAll w).1.length 4, .int .i64 0] := by unfold tokensV; rw [if_neg hlt]
      cases hsc : (scanAll w).2 with
      | none =>
        rw [hsc] at hm hT'
        obtain ⟨hn, g0, g1, g3, g4, g5, v, g2, hgr, hown⟩ := hm
        refine ⟨_, g5, (fun h => by cases h), ?_⟩
        skip
        refine EvtL.seqReg ?_
        refine RegL.op (OpL.load rfl rfl (loadOne_at (b := 2) (off := 0) (v := v) agg_toks sz_toks (by rw [get_put, if_neg (by decide)]; exact g2) rfl)) rfl rfl rfl ?_
        refine RegL.opN (OpL.store rfl sz_toks rfl rfl (storeN_at (b := 0) (off := 0) (e := 24) (part := false) (cs := [.nilslice]) (cs' := [v]) (by rw [get_put, if_neg (by decide)]; exact g0) ?_ ?_ ?_)) rfl rfl ?_
        · rcases hgr with ⟨rfl, _⟩ | ⟨_, rfl, _⟩ <;> rfl
        · rcases hgr with ⟨rfl, _⟩ | ⟨_, rfl, _⟩ <;> rfl
        · rcases hgr with ⟨rfl, _⟩ | ⟨_, rfl, _⟩ <;> rfl
        refine RegL.opN (OpL.store rfl sz_errno rfl rfl (storeN_at (b := 1) (off := 0) (e := 25) (part := false) (cs := [.int .i64 0]) (cs' := [.int .i64 0]) (by rw [get_put, if_neg (by decide), get_put, if_neg (by decide)]; exact g1) rfl rfl rfl)) rfl rfl ?_
        refine RegL.done ?_
        refine EvtL.ret ?_
        refine ⟨.inl rfl, ?_⟩
        refine ⟨_, unwinds_one (r := 4) (by rw [get_put, if_neg (by decide), get_put, if_neg (by decide), get_put, if_neg (by decide), g4]), [v, .int .i64 0], ?_, ?_⟩
        · exact res_one (b := 0) rfl agg_toks sz_toks (by rw [get_put, if_neg (by decide), get_put, if_neg (by decide), get_put, if_pos rfl]) (res_one (b := 1) rfl agg_errno sz_errno (by rw [get_put, if_neg (by decide), get_put, if_pos rfl]) rfl)
        · rw [hT']
          refine leave_grown (e := 74) (by kernel_rfl) ?_ (fun c _ => Nat.zero_le _) hbd ?_ (cellsT_plain w _) rfl
          · refine hgr.keep (Nat.le_refl _) fun c hc => ?_
            have := hown c hc
            rw [get_put, if_neg (by omega), get_put, if_neg (by omega), get_put, if_neg (by omega), get_put, if_neg (by omega)]
          · rw [put_low, put_low, put_low, put_low hbd, hlg]
            all_goals exact hbd
      | some a =>
        rw [hsc] at hm hT'
        obtain ⟨g0, g1, g4, lp, g5, hst, hpd⟩ := hm
        refine ⟨lp, g5, (by rw [hst]; intro h; cases h), ?_⟩
        rw [hpd]
        skip
        refine ⟨.inl rfl, (s3.put 5 (some (.loop { lp with state := .exhausted, pending := some .ret }))).put 4 (some (.defs false)), ?_, [.nilslice, .int .i64 4], ?_, ?_⟩
        · show (match (s3.put 5 _).heap.get 4 with
            | some (.defs true) => unwinds [] ((s3.put 5 _).put 4 (some (.defs false)))
            | _ => none) = _
          rw [get_put, if_neg (by decide), g4]; rfl
        · exact res_one (b := 0) rfl agg_toks sz_toks (by rw [get_put, if_neg (by decide), get_put, if_neg (by decide)]; exact g0) (res_one (b := 1) rfl agg_errno sz_errno (by rw [get_put, if_neg (by decide), get_put, if_neg (by decide)]; exact g1) rfl)
        · rw [hT']
          refine leave_flat (fun _ _ => rfl) (fun _ => rfl) ?_
          rw [put_low (show (s3.put 5 _).bound = 0 from hbd), put_low hbd, hlg]
end
end Go.Proofs.YtmgijfdekpfecaaGreatDoor

/- Where the tokens of a source stop. -/
open Go Am
namespace Go.Proofs.YtmgijfdekpfecaaGreatDoor
theorem z_int {K : FuncId → List AV → Option AV} : Am.zeroOf (EK K) 3 = some (.int .i64 0) := by kernel_rfl
def CS (w : List UInt8) (lp : ALoop) (_ : List Tok) (n : Nat) (h : Tr AObj) : Prop :=
  5 ≤ n ∧ h.get 0 = some (.cells [.int .i64 0] 3 false) ∧ h.get 1 = some (.cells [.int .i64 0] 25 false) ∧ h.get 2 = some (.cells [.str w] 9 false) ∧ h.get 3 = some (.defs true) ∧ h.get 4 = some (.loop lp)
def DS (a : Nat) (_ : Nat) (h : Tr AObj) : Prop :=
  h.get 0 = some (.cells [.int .i64 (a : Nat)] 3 false) ∧ h.get 1 = some (.cells [.int .i64 0] 25 false) ∧ h.get 3 = some (.defs true) ∧ ∃ lp, h.get 4 = some (.loop lp) ∧ lp.state = .done ∧ lp.pending = some .ret
def stopV (w : List UInt8) : AV := if 3000 < w.length then .tuple [.int .i64 0, .int .i64 3] else match (scanAll w).2 with
  | some a => .tuple [.int .i64 (a : Nat), .int .i64 0]
  | none => .tuple [.int .i64 0, .int .i64 5]
section
variable {K : FuncId → List AV → Option AV}
theorem stop_to (hK : K 7 = fun _ => none) (hK1 : K 21 = fun _ => none) (hK2 : K 57 = fun _ => none) (h3 : Three K) (h4 : ∀ w : List UInt8, w.length < Big → 0 < w.length → K 59 [.str w] = some (tokenV w))
    (w : List UInt8) (hw : w.length ≤ 4000) : CallTo (EK K) 7 [.str w] S0 (stopV w) := by
  refine CallTo.gen (fn := Tryz.f7) (by show K 7 _ = none; rw [hK]) (by kernel_rfl) rfl rfl rfl rfl ?_
  refine EvtL.seqReg ?_
  refine RegL.op (OpL.alloc rfl z_int) rfl rfl rfl ?_
  refine RegL.op (OpL.alloc rfl z_errno) rfl rfl rfl ?_
  refine RegL.done ?_
  refine EvtL.seq ?_
  refine EvtL.seqReg ?_
  refine RegL.q (OpQ.move rfl rfl) rfl rfl rfl ?_
  refine RegL.q (OpQ.lenStr rfl rfl rfl rfl u_string rfl) rfl rfl rfl ?_
  refine RegL.q (OpQ.int2 rfl u_int rfl rfl rfl rfl) rfl rfl rfl ?_
  refine RegL.done ?_
  refine EvtL.cond rfl (fun hc => ?_) (fun hc => ?_)
  · have hlt : 3000 < w.length := by have := of_decide_eq_true hc; omega
    refine EvtL.seqReg ?_
    refine RegL.opN (OpL.store rfl sz_int rfl rfl (storeN_at (b := 0) (off := 0) (e := 3) (part := false) (cs := [.int .i64 0]) (cs' := [.int .i64 0]) (by kernel_rfl) rfl rfl rfl)) rfl rfl ?_
    refine RegL.opN (OpL.store rfl sz_errno rfl rfl (storeN_at (b := 1) (off := 0) (e := 25) (part := false) (cs := [.int .i64 0]) (cs' := [.int .i64 3]) (by kernel_rfl) rfl rfl rfl)) rfl rfl ?_
    refine RegL.done ?_
    refine EvtL.ret ?_
    refine ⟨.inl rfl, _, rfl, [.int .i64 0, .int .i64 3], res_one (b := 0) (e := 3) (part := false) rfl agg_int sz_int (by kernel_rfl) (res_one (b := 1) (e := 25) (part := false) rfl agg_errno sz_errno (by kernel_rfl) rfl), ?_⟩
    rw [show stopV w = .tuple [.int .i64 0, .int .i64 3] by unfold stopV; rw [if_pos hlt]]
    exact leave_flat (fun _ _ => rfl) (fun _ => rfl) rfl
  · have hlt : ¬ 3000 < w.length := by have := of_decide_eq_false hc; omega
    refine EvtL.skip ?_
    refine EvtL.seq ?_
    refine EvtL.seqReg ?_
    refine RegL.q (OpQ.move rfl rfl) rfl rfl rfl ?_
    refine RegL.callFn rfl rfl (by kernel_rfl) rfl rfl rfl rfl (tokens_runs hK1 w ?_)
    refine RegL.done ?_
    refine EvtL.block ?_
    refine EvtL.range rfl rfl (by kernel_rfl) fun T hT => ?_
    refine RunsV.mono (gen_to hK2 h3 h4 w hw (e0 := 9) (C := CS w _) (D := DS) ⟨Nat.le_refl _, (by kernel_rfl), (by kernel_rfl), (by kernel_rfl), (by kernel_rfl), range_loop⟩ ?hbox ?hbn ?hyes ?hno) ?hR
    case hbox => exact fun out n h hC => hC.2.2.2.1
    case hbn => exact fun out n h hC => by have := hC.1; show 2 < n; omega
    case hyes =>
      rintro out st st1 t hol hbd ⟨hn, g0, g1, g2, g3, g4⟩ hF
      have hlow : ∀ c, c < 5 → st1.heap.get c = st.heap.get c := fun c hc => hF.2.1 c (by omega)
      have hnx : 5 ≤ st1.next := by rw [hF.1]; omega
      show Yields (EK K) 4 _ st1 _
      refine ⟨_, _, _, (hlow 4 (by omega)).trans g4, rfl, (hT.put 11 _).put 12 _, ?_⟩
      refine EvtL.seqReg ?_
      refine RegL.op (OpL.alloc rfl zero_tok) rfl rfl rfl ?_
      refine RegL.opN (OpL.store rfl sz_tok rfl rfl (storeN_at (get_hitO _ _ _) rfl rfl rfl)) rfl rfl ?_
      refine RegL.done ?_
      refine EvtL.reg ?_
      refine RegL.q (OpQ.assign rfl rfl) rfl rfl rfl ?_
      refine RegL.done ?_
      have e : ∀ (o : Option AObj) c, c < st1.next → ((st1.alloc (.cells (AV.agg [.int .i64 0, .str [], .int .i64 0, .int .i64 0]).cells 74 false)).put st1.next o).heap.get c = st1.heap.get c := fun o c hc => by
        rw [get_put, if_neg (by omega), get_alloc, if_neg (by omega)]
      refine ⟨rfl, _, (e _ 4 (by omega)).trans ((hlow 4 (by omega)).trans g4), rfl, ?_⟩
      refine EvtL.block ?_
      refine EvtL.seqReg ?_
      refine RegL.q (OpQ.move rfl rfl) rfl rfl rfl ?_
      refine RegL.q (OpQ.not rfl rfl) rfl rfl rfl ?_
      refine RegL.done ?_
      refine EvtL.cond rfl (fun h => by cases h) (fun _ => ?_)
      refine EvtL.skip ?_
      refine ⟨rfl, _, by rw [get_put, if_pos rfl], rfl, ?_, ⟨?_, ?_, ?_, ?_, ?_, by rw [get_put, if_pos rfl]⟩, ?_, ?_, ?_⟩
      · show 5 ≤ st1.next + 1; omega
      · show 5 ≤ st1.next + 1; omega
      · rw [get_put, if_neg (by decide), get_put, if_neg (by decide), e _ 0 (by omega), hlow 0 (by omega)]; exact g0
      · rw [get_put, if_neg (by decide), get_put, if_neg (by decide), e _ 1 (by omega), hlow 1 (by omega)]; exact g1
      · rw [get_put, if_neg (by decide), get_put, if_neg (by decide), e _ 2 (by omega), hlow 2 (by omega)]; exact g2
      · rw [get_put, if_neg (by decide), get_put, if_neg (by decide), e _ 3 (by omega), hlow 3 (by omega)]; exact g3
      · have h4n : st.next ≠ 4 := by have : 5 ≤ st.next := hn; omega
        rw [get_put, if_neg h4n, get_put, if_neg h4n, e _ st.next (by rw [hF.1]; omega)]; exact hF.2.2.1
      · refine put_logged (.inr ?_)
        show 4 < st1.bound
        rw [hF.2.2.2.1, hbd]
        show 4 < 5
        omega
      · show st1.bound = _
        rw [hF.2.2.2.1, hbd]
    case hno =>
      rintro out st st1 a kd text ln hbd ⟨hn, g0, g1, g2, g3, g4⟩ hF
      have hlow : ∀ c, c < 5 → st1.heap.get c = st.heap.get c := fun c hc => hF.2.1 c (by omega)
      have hnx : 5 ≤ st1.next := by rw [hF.1]; omega
      show Yields (EK K) 4 _ st1 _
      refine ⟨_, _, _, (hlow 4 (by omega)).trans g4, rfl, (hT.put 11 _).put 12 _, ?_⟩
      refine EvtL.seqReg ?_
      refine RegL.op (OpL.alloc rfl zero_tok) rfl rfl rfl ?_
      refine RegL.opN (OpL.store rfl sz_tok rfl rfl (storeN_at (get_hitO _ _ _) rfl rfl rfl)) rfl rfl ?_
      refine RegL.done ?_
      refine EvtL.reg ?_
      refine RegL.q (OpQ.assign rfl rfl) rfl rfl rfl ?_
      refine RegL.done ?_
      have e : ∀ (o : Option AObj) c, c < st1.next → ((st1.alloc (.cells (AV.agg [.int .i64 0, .str [], .int .i64 0, .int .i64 0]).cells 74 false)).put st1.next o).heap.get c = st1.heap.get c := fun o c hc => by
        rw [get_put, if_neg (by omega), get_alloc, if_neg (by omega)]
      refine ⟨rfl, _, (e _ 4 (by omega)).trans ((hlow 4 (by omega)).trans g4), rfl, ?_⟩
      refine EvtL.block ?_
      refine EvtL.seqReg ?_
      refine RegL.q (OpQ.move rfl rfl) rfl rfl rfl ?_
      refine RegL.q (OpQ.not rfl rfl) rfl rfl rfl ?_
      refine RegL.done ?_
      refine EvtL.cond rfl (fun _ => ?_) (fun h => by cases h)
      refine EvtL.seqReg ?_
      refine RegL.q (OpQ.fieldAddr rfl f_tok2 rfl) rfl rfl rfl ?_
      refine RegL.op (OpL.load rfl rfl (loadOne_at (v := .int .i64 (a : Nat)) (cs := [.int .i64 kd, .str text, .int .i64 (a : Nat), .int .i64 ln]) (e := 74) (part := false) agg_int sz_int (by rw [get_put, if_neg (by omega), get_put, if_pos rfl]) rfl)) rfl rfl rfl ?_
      refine RegL.opN (OpL.store rfl sz_int rfl rfl (storeN_at (b := 0) (off := 0) (e := 3) (part := false) (cs := [.int .i64 0]) (cs' := [.int .i64 (a : Nat)]) (by rw [get_put, if_neg (by decide), e _ 0 (by omega), hlow 0 (by omega)]; exact g0) rfl rfl rfl)) rfl rfl ?_
      refine RegL.opN (OpL.store rfl sz_errno rfl rfl (storeN_at (b := 1) (off := 0) (e := 25) (part := false) (cs := [.int .i64 0]) (cs' := [.int .i64 0]) (by rw [get_put, if_neg (by decide), get_put, if_neg (by decide), e _ 1 (by omega), hlow 1 (by omega)]; exact g1) rfl rfl rfl)) rfl rfl ?_
      refine RegL.done ?_
      refine EvtL.ret ?_
      refine ⟨rfl, _, by rw [get_put, if_neg (by decide), get_put, if_neg (by decide), get_put, if_pos rfl], rfl, ⟨?_, ?_, ?_, _, by rw [get_put, if_pos rfl], rfl, rfl⟩, ?_⟩
      · rw [get_put, if_neg (by decide), get_put, if_neg (by decide), get_put, if_pos rfl]
      · rw [get_put, if_neg (by decide), get_put, if_pos rfl]
      · rw [get_put, if_neg (by decide), get_put, if_neg (by decide), get_put, if_neg (by decide), get_put, if_neg (by decide), e _ 3 (by omega), hlow 3 (by omega)]; exact g3
      · refine put_logged (.inr ?_)
        show 4 < st1.bound
        rw [hF.2.2.2.1, hbd]
        show 4 < 5
        omega
    case hR =>
      rintro _ s3 ⟨hb3, hl3, hm⟩
      have hbd : s3.bound = 0 := hb3
      have hlg : s3.log = [] := by
        rcases hl3 with h | ⟨L, h⟩
        · exact h
        · rw [h]; exact below_zero L []
      show RangeQ 4 _ s3
      have hT' : stopV w = match (scanAll w).2 with
        | some a => .tuple [.int .i64 (a : Nat), .int .i64 0]
        | none => .tuple [.int .i64 0, .int .i64 5] := by unfold stopV; rw [if_neg hlt]
      cases hsc : (scanAll w).2 with
      | none =>
        rw [hsc] at hm hT'
        obtain ⟨hn, g0, g1, g2, g3, g4⟩ := hm
        refine ⟨_, g4, (fun h => by cases h), ?_⟩
        skip
        refine EvtL.seqReg ?_
        refine RegL.opN (OpL.store rfl sz_int rfl rfl (storeN_at (b := 0) (off := 0) (e := 3) (part := false) (cs := [.int .i64 0]) (cs' := [.int .i64 0]) (by rw [get_put, if_neg (by decide)]; exact g0) rfl rfl rfl)) rfl rfl ?_
        refine RegL.opN (OpL.store rfl sz_errno rfl rfl (storeN_at (b := 1) (off := 0) (e := 25) (part := false) (cs := [.int .i64 0]) (cs' := [.int .i64 5]) (by rw [get_put, if_neg (by decide), get_put, if_neg (by decide)]; exact g1) rfl rfl rfl)) rfl rfl ?_
        refine RegL.done ?_
        refine EvtL.ret ?_
        refine ⟨.inl rfl, ?_⟩
        refine ⟨_, unwinds_one (r := 3) (by rw [get_put, if_neg (by decide), get_put, if_neg (by decide), get_put, if_neg (by decide), g3]), [.int .i64 0, .int .i64 5], ?_, ?_⟩
        · exact res_one (b := 0) rfl agg_int sz_int (by rw [get_put, if_neg (by decide), get_put, if_neg (by decide), get_put, if_pos rfl]) (res_one (b := 1) rfl agg_errno sz_errno (by rw [get_put, if_neg (by decide), get_put, if_pos rfl]) rfl)
        · rw [hT']
          refine leave_flat (fun _ _ => rfl) (fun _ => rfl) ?_
          rw [put_low, put_low, put_low, put_low hbd, hlg]
          all_goals exact hbd
      | some a =>
        rw [hsc] at hm hT'
        obtain ⟨g0, g1, g3, lp, g4, hst, hpd⟩ := hm
        refine ⟨lp, g4, (by rw [hst]; intro h; cases h), ?_⟩
        rw [hpd]
        skip
        refine ⟨.inl rfl, (s3.put 4 (some (.loop { lp with state := .exhausted, pending := some .ret }))).put 3 (some (.defs false)), ?_, [.int .i64 (a : Nat), .int .i64 0], ?_, ?_⟩
        · exact unwinds_one (r := 3) (by rw [get_put, if_neg (by decide), g3])
        · exact res_one (b := 0) rfl agg_int sz_int (by rw [get_put, if_neg (by decide), get_put, if_neg (by decide)]; exact g0) (res_one (b := 1) rfl agg_errno sz_errno (by rw [get_put, if_neg (by decide), get_put, if_neg (by decide)]; exact g1) rfl)
        · rw [hT']
          refine leave_flat (fun _ _ => rfl) (fun _ => rfl) ?_
          rw [put_low (show (s3.put 4 _).bound = 0 from hbd), put_low hbd, hlg]
end
end Go.Proofs.YtmgijfdekpfecaaGreatDoor

/- The law, by its functions. -/
open Go Am
namespace Go.Proofs.YtmgijfdekpfecaaGreatDoor
theorem scan_some (w : List UInt8) : ∀ (f a e : Nat), (scan w f a).2 = some e → e < w.length
  | 0, a, e, h => by cases h
  | f + 1, a, e, h => by
    unfold scan at h
    split at h
    · next hlt =>
      split at h
      · cases h; exact hlt
      · exact scan_some w f _ e h
    · cases h
theorem scan_len (w : List UInt8) : ∀ (f a : Nat), (scan w f a).1.length ≤ f
  | 0, _ => Nat.le_refl _
  | f + 1, a => by
    unfold scan
    split
    · split
      · exact Nat.zero_le _
      · have := scan_len w f (a + (oneS (w.drop a)).2 + blk false (w.drop (a + (oneS (w.drop a)).2)))
        show (scan w f _).1.length + 1 ≤ f + 1
        omega
    · exact Nat.zero_le _
section
variable {K : FuncId → List AV → Option AV}
theorem law_to (hK : K 3 = fun _ => none) (hL : K 4 = fun _ => none) (hT0 : K 6 = fun _ => none) (hT1 : K 21 = fun _ => none) (hT2 : K 57 = fun _ => none)
    (hS : K 7 = fun _ => none) (hR : K 8 = fun _ => none) (hE : K 9 = fun _ => none) (h3 : Three K) (h4 : ∀ w : List UInt8, w.length < Big → 0 < w.length → K 59 [.str w] = some (tokenV w))
    (hkn : K 5 [] = some (.bool true)) (w : List UInt8) : CallTo (EK K) 3 [.str w] S0 (.bool true) := by
  refine CallTo.plain (fn := Tryz.f3) (by show K 3 _ = none; rw [hK]) (by kernel_rfl) rfl rfl rfl rfl rfl ?_
  refine EvtL.seqReg ?_
  refine RegL.q (OpQ.assign rfl rfl) rfl rfl rfl ?_
  refine RegL.done ?_
  refine EvtL.seq ?_
  refine EvtL.seqReg ?_
  refine RegL.q (OpQ.move rfl rfl) rfl rfl rfl ?_
  refine RegL.op (OpL.callFn rfl rfl (by kernel_rfl) rfl (long_to hL w)) rfl rfl rfl ?_
  refine RegL.done ?_
  refine EvtL.cond rfl (fun hc => ?_) (fun hc => ?_)
  · refine EvtL.seqReg ?_
    refine RegL.op (OpL.callFn rfl rfl (by kernel_rfl) rfl (CallTo.memo hkn)) rfl rfl rfl ?_
    refine RegL.q (OpQ.assign rfl rfl) rfl rfl rfl ?_
    refine RegL.done ?_
    refine EvtL.ret ⟨.inl rfl, rfl, rfl, ?_⟩
    rfl
  · have hlen : w.length ≤ 3009 := by
      by_cases h : 3009 < w.length
      · unfold longS at hc
        rw [decide_eq_true h, Bool.or_true] at hc
        cases hc
      · omega
    have hw : w.length ≤ 4000 := by omega
    have hto : CallTo (EK K) 6 [.str w] S0.enter (tokensV w) := tokens_to hT0 hT1 hT2 h3 h4 w hw
    have hst : CallTo (EK K) 7 [.str w] S0.enter (stopV w) := stop_to hS hT1 hT2 h3 h4 w hw
    have hrt : CallTo (EK K) 8 [.str w] S0.enter _ := rtokens_to hR h3 w hw
    by_cases hlt : 3000 < w.length
    · rw [show tokensV w = .tuple [.nilslice, .int .i64 3] by unfold tokensV; rw [if_pos hlt]] at hto
      rw [show stopV w = .tuple [.int .i64 0, .int .i64 3] by unfold stopV; rw [if_pos hlt]] at hst
      refine EvtL.skip ?_
      refine EvtL.seqReg ?_
      refine RegL.q (OpQ.move rfl rfl) rfl rfl rfl ?_
      refine RegL.op (OpL.callFn rfl rfl (by kernel_rfl) rfl hto) rfl rfl rfl ?_
      refine RegL.q (OpQ.move rfl rfl) rfl rfl rfl ?_
      refine RegL.q (OpQ.extract rfl rfl rfl) rfl rfl rfl ?_
      refine RegL.q (OpQ.extract rfl rfl rfl) rfl rfl rfl ?_
      refine RegL.q (OpQ.assign rfl rfl) rfl rfl rfl ?_
      refine RegL.q (OpQ.assign rfl rfl) rfl rfl rfl ?_
      refine RegL.done ?_
      refine EvtL.seqReg ?_
      refine RegL.q (OpQ.move rfl rfl) rfl rfl rfl ?_
      refine RegL.op (OpL.callFn rfl rfl (by kernel_rfl) rfl hst) rfl rfl rfl ?_
      refine RegL.q (OpQ.move rfl rfl) rfl rfl rfl ?_
      refine RegL.q (OpQ.extract rfl rfl rfl) rfl rfl rfl ?_
      refine RegL.q (OpQ.extract rfl rfl rfl) rfl rfl rfl ?_
      refine RegL.q (OpQ.assign rfl rfl) rfl rfl rfl ?_
      refine RegL.q (OpQ.assign rfl rfl) rfl rfl rfl ?_
      refine RegL.done ?_
      refine EvtL.seq ?_
      refine EvtL.seqReg ?_
      refine RegL.q (OpQ.move rfl rfl) rfl rfl rfl ?_
      refine RegL.q (OpQ.lenStr rfl rfl rfl rfl u_string rfl) rfl rfl rfl ?_
      refine RegL.q (OpQ.int2 rfl u_int rfl rfl rfl rfl) rfl rfl rfl ?_
      refine RegL.done ?_
      refine EvtL.cond rfl (fun _ => ?_) (fun h => ?_)
      · refine EvtL.seqReg ?_
        refine RegL.q (OpQ.move rfl rfl) rfl rfl rfl ?_
        refine RegL.q (OpQ.int2 rfl u_errno rfl rfl rfl rfl) rfl rfl rfl ?_
        refine RegL.q (OpQ.move rfl rfl) rfl rfl rfl ?_
        refine RegL.go rfl rfl rfl rfl rfl (OpL.q (OpQ.move rfl rfl)) rfl rfl ?_
        refine RegL.go rfl rfl rfl rfl rfl (OpL.q (OpQ.lenNil rfl rfl rfl rfl u_toks rfl)) rfl rfl ?_
        refine RegL.go rfl rfl rfl rfl rfl (OpL.q (OpQ.int2 rfl u_int rfl rfl rfl rfl)) rfl rfl ?_
        refine RegL.q (OpQ.pickT rfl rfl rfl rfl) rfl rfl rfl ?_
        refine RegL.q (OpQ.move rfl rfl) rfl rfl rfl ?_
        refine RegL.go rfl rfl rfl rfl rfl (OpL.q (OpQ.move rfl rfl)) rfl rfl ?_
        refine RegL.go rfl rfl rfl rfl rfl (OpL.q (OpQ.int2 rfl u_errno rfl rfl rfl rfl)) rfl rfl ?_
        refine RegL.q (OpQ.pickT rfl rfl rfl rfl) rfl rfl rfl ?_
        refine RegL.q (OpQ.move rfl rfl) rfl rfl rfl ?_
        refine RegL.go rfl rfl rfl rfl rfl (OpL.q (OpQ.move rfl rfl)) rfl rfl ?_
        refine RegL.go rfl rfl rfl rfl rfl (OpL.q (OpQ.int2 rfl u_int rfl rfl rfl rfl)) rfl rfl ?_
        refine RegL.q (OpQ.pickT rfl rfl rfl rfl) rfl rfl rfl ?_
        refine RegL.q (OpQ.move rfl rfl) rfl rfl rfl ?_
        refine RegL.go rfl rfl rfl rfl rfl (OpL.callFn rfl rfl (by kernel_rfl) rfl (CallTo.memo hkn)) rfl rfl ?_
        refine RegL.q (OpQ.pickT rfl rfl rfl rfl) rfl rfl rfl ?_
        refine RegL.q (OpQ.assign rfl rfl) rfl rfl rfl ?_
        refine RegL.done ?_
        refine EvtL.ret ⟨.inl rfl, rfl, rfl, ?_⟩
        rfl
      · have := of_decide_eq_false h; omega
    · have hsc := scan_some w (w.length + 1) (blk false w)
      change ∀ e, (scanAll w).2 = some e → _ at hsc
      refine EvtL.skip ?_
      refine EvtL.seqReg ?_
      refine RegL.q (OpQ.move rfl rfl) rfl rfl rfl ?_
      cases hs : (scanAll w).2 with
      | some a =>
        have ha := hsc a hs
        rw [show tokensV w = .tuple [.nilslice, .int .i64 4] by unfold tokensV; rw [if_neg hlt, hs]] at hto
        rw [show stopV w = .tuple [.int .i64 (a : Nat), .int .i64 0] by unfold stopV; rw [if_neg hlt, hs]] at hst
        rw [hs, Option.getD_some] at hrt
        have he : decide ((a : Int) = (a : Int)) = true := decide_eq_true rfl
        refine RegL.op (OpL.callFn rfl rfl (by kernel_rfl) rfl hto) rfl rfl rfl ?_
        refine RegL.q (OpQ.move rfl rfl) rfl rfl rfl ?_
        refine RegL.q (OpQ.extract rfl rfl rfl) rfl rfl rfl ?_
        refine RegL.q (OpQ.extract rfl rfl rfl) rfl rfl rfl ?_
        refine RegL.q (OpQ.assign rfl rfl) rfl rfl rfl ?_
        refine RegL.q (OpQ.assign rfl rfl) rfl rfl rfl ?_
        refine RegL.done ?_
        refine EvtL.seqReg ?_
        refine RegL.q (OpQ.move rfl rfl) rfl rfl rfl ?_
        refine RegL.op (OpL.callFn rfl rfl (by kernel_rfl) rfl hst) rfl rfl rfl ?_
        refine RegL.q (OpQ.move rfl rfl) rfl rfl rfl ?_
        refine RegL.q (OpQ.extract rfl rfl rfl) rfl rfl rfl ?_
        refine RegL.q (OpQ.extract rfl rfl rfl) rfl rfl rfl ?_
        refine RegL.q (OpQ.assign rfl rfl) rfl rfl rfl ?_
        refine RegL.q (OpQ.assign rfl rfl) rfl rfl rfl ?_
        refine RegL.done ?_
        refine EvtL.seq ?_
        refine EvtL.seqReg ?_
        refine RegL.q (OpQ.move rfl rfl) rfl rfl rfl ?_
        refine RegL.q (OpQ.lenStr rfl rfl rfl rfl u_string rfl) rfl rfl rfl ?_
        refine RegL.q (OpQ.int2 rfl u_int rfl rfl rfl rfl) rfl rfl rfl ?_
        refine RegL.done ?_
        refine EvtL.cond rfl (fun h => ?_) (fun _ => ?_)
        · have := of_decide_eq_true h; omega
        refine EvtL.skip ?_
        refine EvtL.seqReg ?_
        refine RegL.q (OpQ.move rfl rfl) rfl rfl rfl ?_
        refine RegL.op (OpL.callFn rfl rfl (by kernel_rfl) rfl hrt) rfl rfl rfl ?_
        refine RegL.q (OpQ.move rfl rfl) rfl rfl rfl ?_
        refine RegL.q (OpQ.extract rfl rfl rfl) rfl rfl rfl ?_
        refine RegL.q (OpQ.extract rfl rfl rfl) rfl rfl rfl ?_
        refine RegL.q (OpQ.assign rfl rfl) rfl rfl rfl ?_
        refine RegL.q (OpQ.assign rfl rfl) rfl rfl rfl ?_
        refine RegL.done ?_
        refine EvtL.seq ?_
        refine EvtL.seqReg ?_
        refine RegL.q (OpQ.move rfl rfl) rfl rfl rfl ?_
        refine RegL.q (OpQ.move rfl rfl) rfl rfl rfl ?_
        refine RegL.q (OpQ.lenStr rfl rfl rfl rfl u_string rfl) rfl rfl rfl ?_
        refine RegL.q (OpQ.int2 rfl u_int rfl rfl rfl rfl) rfl rfl rfl ?_
        refine RegL.done ?_
        refine EvtL.cond rfl (fun _ => ?_) (fun h => ?_)
        · refine EvtL.seqReg ?_
          refine RegL.q (OpQ.move rfl rfl) rfl rfl rfl ?_
          refine RegL.q (OpQ.int2 rfl u_errno rfl rfl rfl rfl) rfl rfl rfl ?_
          refine RegL.q (OpQ.move rfl rfl) rfl rfl rfl ?_
          refine RegL.go rfl rfl rfl rfl rfl (OpL.q (OpQ.move rfl rfl)) rfl rfl ?_
          refine RegL.go rfl rfl rfl rfl rfl (OpL.q (OpQ.lenNil rfl rfl rfl rfl u_toks rfl)) rfl rfl ?_
          refine RegL.go rfl rfl rfl rfl rfl (OpL.q (OpQ.int2 rfl u_int rfl rfl rfl rfl)) rfl rfl ?_
          refine RegL.q (OpQ.pickT rfl rfl rfl rfl) rfl rfl rfl ?_
          refine RegL.q (OpQ.move rfl rfl) rfl rfl rfl ?_
          refine RegL.go rfl rfl rfl rfl rfl (OpL.q (OpQ.move rfl rfl)) rfl rfl ?_
          refine RegL.go rfl rfl rfl rfl rfl (OpL.q (OpQ.int2 rfl u_errno rfl rfl rfl rfl)) rfl rfl ?_
          refine RegL.q (OpQ.pickT rfl rfl rfl rfl) rfl rfl rfl ?_
          refine RegL.q (OpQ.move rfl rfl) rfl rfl rfl ?_
          refine RegL.go rfl rfl rfl rfl rfl (OpL.q (OpQ.move rfl rfl)) rfl rfl ?_
          refine RegL.go rfl rfl rfl rfl rfl (OpL.q (OpQ.move rfl rfl)) rfl rfl ?_
          refine RegL.go rfl rfl rfl rfl rfl (OpL.q (OpQ.int2 rfl u_int rfl rfl rfl rfl)) rfl rfl ?_
          refine RegL.q (OpQ.pickT rfl rfl rfl rfl) rfl rfl rfl ?_
          refine RegL.q (OpQ.move rfl rfl) rfl rfl rfl ?_
          refine RegL.go rfl rfl rfl rfl he (OpL.callFn rfl rfl (by kernel_rfl) rfl (CallTo.memo hkn)) rfl rfl ?_
          refine RegL.q (OpQ.pickT rfl rfl (by assumption) rfl) rfl rfl rfl ?_
          refine RegL.q (OpQ.assign rfl rfl) rfl rfl rfl ?_
          refine RegL.done ?_
          refine EvtL.ret ⟨.inl rfl, rfl, rfl, ?_⟩
          rfl
        · have := of_decide_eq_false h
          omega
      | none =>
        rw [show tokensV w = .tuple [outA (cellsT w (scanAll w).1) (scanAll w).1.length 4, .int .i64 0] by unfold tokensV; rw [if_neg hlt, hs]] at hto
        rw [show stopV w = .tuple [.int .i64 0, .int .i64 5] by unfold stopV; rw [if_neg hlt, hs]] at hst
        rw [hs] at hrt
        refine RegL.op (OpL.callFn rfl rfl (by kernel_rfl) rfl hto) rfl rfl rfl ?_
        refine RegL.q (OpQ.move rfl rfl) rfl rfl rfl ?_
        refine RegL.q (OpQ.extract rfl rfl rfl) rfl rfl rfl ?_
        refine RegL.q (OpQ.extract rfl rfl rfl) rfl rfl rfl ?_
        refine RegL.q (OpQ.assign rfl rfl) rfl rfl rfl ?_
        refine RegL.q (OpQ.assign rfl rfl) rfl rfl rfl ?_
        refine RegL.done ?_
        refine EvtL.seqReg ?_
        refine RegL.q (OpQ.move rfl rfl) rfl rfl rfl ?_
        refine RegL.op (OpL.callFn rfl rfl (by kernel_rfl) rfl hst) rfl rfl rfl ?_
        refine RegL.q (OpQ.move rfl rfl) rfl rfl rfl ?_
        refine RegL.q (OpQ.extract rfl rfl rfl) rfl rfl rfl ?_
        refine RegL.q (OpQ.extract rfl rfl rfl) rfl rfl rfl ?_
        refine RegL.q (OpQ.assign rfl rfl) rfl rfl rfl ?_
        refine RegL.q (OpQ.assign rfl rfl) rfl rfl rfl ?_
        refine RegL.done ?_
        refine EvtL.seq ?_
        refine EvtL.seqReg ?_
        refine RegL.q (OpQ.move rfl rfl) rfl rfl rfl ?_
        refine RegL.q (OpQ.lenStr rfl rfl rfl rfl u_string rfl) rfl rfl rfl ?_
        refine RegL.q (OpQ.int2 rfl u_int rfl rfl rfl rfl) rfl rfl rfl ?_
        refine RegL.done ?_
        refine EvtL.cond rfl (fun h => ?_) (fun _ => ?_)
        · have := of_decide_eq_true h; omega
        refine EvtL.skip ?_
        refine EvtL.seqReg ?_
        refine RegL.q (OpQ.move rfl rfl) rfl rfl rfl ?_
        refine RegL.op (OpL.callFn rfl rfl (by kernel_rfl) rfl hrt) rfl rfl rfl ?_
        refine RegL.q (OpQ.move rfl rfl) rfl rfl rfl ?_
        refine RegL.q (OpQ.extract rfl rfl rfl) rfl rfl rfl ?_
        refine RegL.q (OpQ.extract rfl rfl rfl) rfl rfl rfl ?_
        refine RegL.q (OpQ.assign rfl rfl) rfl rfl rfl ?_
        refine RegL.q (OpQ.assign rfl rfl) rfl rfl rfl ?_
        refine RegL.done ?_
        refine EvtL.seq ?_
        refine EvtL.seqReg ?_
        refine RegL.q (OpQ.move rfl rfl) rfl rfl rfl ?_
        refine RegL.q (OpQ.move rfl rfl) rfl rfl rfl ?_
        refine RegL.q (OpQ.lenStr rfl rfl rfl rfl u_string rfl) rfl rfl rfl ?_
        refine RegL.q (OpQ.int2 rfl u_int rfl rfl rfl rfl) rfl rfl rfl ?_
        refine RegL.done ?_
        refine EvtL.cond rfl (fun h => ?_) (fun _ => ?_)
        · have := of_decide_eq_true h
          simp only [Option.getD_none] at this
          omega
        · have hn : (scanAll w).1.length ≤ 4000 := by
            have := scan_len w (w.length + 1) (blk false w)
            have h2 : (scanAll w).1.length ≤ w.length + 1 := this
            omega
          refine EvtL.skip ?_
          refine EvtL.seqReg ?_
          refine RegL.q (OpQ.move rfl rfl) rfl rfl rfl ?_
          refine RegL.q (OpQ.int2 rfl u_errno rfl rfl rfl rfl) rfl rfl rfl ?_
          refine RegL.q (OpQ.move rfl rfl) rfl rfl rfl ?_
          refine RegL.go rfl rfl rfl rfl rfl (OpL.q (OpQ.move rfl rfl)) rfl rfl ?_
          refine RegL.go rfl rfl rfl rfl rfl (OpL.q (OpQ.int2 rfl u_errno rfl rfl rfl rfl)) rfl rfl ?_
          refine RegL.q (OpQ.pickT rfl rfl rfl rfl) rfl rfl rfl ?_
          refine RegL.q (OpQ.move rfl rfl) rfl rfl rfl ?_
          refine RegL.go rfl rfl rfl rfl rfl (OpL.q (OpQ.move rfl rfl)) rfl rfl ?_
          refine RegL.go rfl rfl rfl rfl rfl (OpL.q (OpQ.int2 rfl u_int rfl rfl rfl rfl)) rfl rfl ?_
          refine RegL.q (OpQ.pickT rfl rfl rfl rfl) rfl rfl rfl ?_
          refine RegL.q (OpQ.move rfl rfl) rfl rfl rfl ?_
          refine RegL.go rfl rfl rfl rfl rfl (OpL.q (OpQ.move rfl rfl)) rfl rfl ?_
          refine RegL.go rfl rfl rfl rfl rfl (OpL.q (OpQ.move rfl rfl)) rfl rfl ?_
          refine RegL.go rfl rfl rfl rfl rfl (OpL.callFn rfl rfl (by kernel_rfl) rfl (rsame_to hE w _ hn)) rfl rfl ?_
          refine RegL.q (OpQ.pickT rfl rfl rfl rfl) rfl rfl rfl ?_
          refine RegL.q (OpQ.move rfl rfl) rfl rfl rfl ?_
          refine RegL.go rfl rfl rfl rfl rfl (OpL.callFn rfl rfl (by kernel_rfl) rfl (CallTo.memo hkn)) rfl rfl ?_
          refine RegL.q (OpQ.pickT rfl rfl rfl rfl) rfl rfl rfl ?_
          refine RegL.q (OpQ.assign rfl rfl) rfl rfl rfl ?_
          refine RegL.done ?_
          refine EvtL.ret ⟨.inl rfl, rfl, rfl, ?_⟩
          rfl
end
end Go.Proofs.YtmgijfdekpfecaaGreatDoor

/- The layers put together. -/
open Go Am
namespace Go.Proofs.YtmgijfdekpfecaaGreatDoor
theorem knownC_F {P : Program} {nt nf mask : Nat} {e : MEnt} (h : KnownC P nt nf mask e) : KnownF P e.f e.args e.v := fun C S w xs c cs hv hS => h [] C S w xs c cs (fun g cs hg => by cases hg) hv hS
/-- The closed part. -/
def K0 (f : FuncId) (args : List AV) : Option AV := match f with
  | 5 => match args with
    | [] => some (.bool true)
    | _ => none
  | _ => none
theorem K0_known (h : KnownF Tryz.prog 5 [] (.bool true)) : KnownAll Tryz.prog K0 := by
  intro f args v hv
  unfold K0 at hv
  split at hv
  · split at hv
    · cases hv; exact h
    · cases hv
  · cases hv
def K1 : FuncId → List AV → Option AV := KB K0
def K2 : FuncId → List AV → Option AV := over spec2 K1
def K3 : FuncId → List AV → Option AV := over spec3 K2
def K4 : FuncId → List AV → Option AV := over spec4 K3
/-- What the last proof steps through. -/
def own5 : List FuncId := [3, 4, 6, 21, 57, 7, 8, 9]
theorem K0_none {f : FuncId} (hf : f ≠ 5) : K0 f = fun _ => none := by
  funext args
  unfold K0
  split
  · exact absurd rfl hf
  · rfl
theorem K1_none {f : FuncId} (hf : f ≠ 5) (hb : byteFn f = none) : K1 f = fun _ => none := by
  funext args
  unfold K1 KB
  rw [hb]
  exact congrFun (K0_none hf) args
theorem over_none {spec K : FuncId → List AV → Option AV} {f : FuncId} (h : ∀ args, spec f args = none) (hK : K f = fun _ => none) : over spec K f = fun _ => none := by
  funext args
  unfold over
  rw [h args, hK]
theorem byte_small {f : FuncId} (h : (byteFn f).isSome = true) : f ≠ 5 := fun e => by subst e; revert h; decide
theorem byte_body {K : FuncId → List AV → Option AV} : ∀ g, (byteFn g).isSome = true → hasBody (EK K) g = true := by
  intro g hg
  unfold byteFn at hg
  split at hg
  all_goals first | exact absurd hg (by decide) | kernel_rfl
theorem KB_bytes {K : FuncId → List AV → Option AV} : Bytes (KB K) := fun g p hg => ⟨byte_body g (by rw [hg]; rfl), fun n => by
  unfold KB
  rw [hg]⟩
theorem three_over {K spec : FuncId → List AV → Option AV} (h : Three K) (hs : ∀ g, (byteFn g).isSome = true → ∀ args, spec g args = none) (ho : ∀ g ∈ own2 ++ own3, ∀ args, spec g args = none) : Three (over spec K) := by
  have e : ∀ g ∈ own3, ∀ args, over spec K g args = K g args := fun g hg args => by unfold over; rw [ho g (List.mem_append_right _ hg) args]
  exact ⟨two_over h.two hs fun g hg => ho g (List.mem_append_left _ hg), fun w hw h0 => by rw [e _ (by decide)]; exact h.letters w hw h0, fun w hw h0 => by rw [e _ (by decide)]; exact h.integer w hw h0, fun w hw => by rw [e _ (by decide)]; exact h.blank w hw,
    fun w k hw hk => by rw [e _ (by decide)]; exact h.rblank w k hw hk, fun w k hw hk => by rw [e _ (by decide)]; exact h.one w k hw hk⟩
theorem spec4_bytes : ∀ g, (byteFn g).isSome = true → ∀ args, spec4 g args = none := by
  intro g hg args
  unfold byteFn at hg
  split at hg <;> first | rfl | cases hg
theorem spec4_own : ∀ g ∈ own2 ++ own3, ∀ args, spec4 g args = none := by
  intro g hg args
  simp only [own2, own3, List.cons_append, List.nil_append, List.mem_cons, List.mem_nil_iff, or_false] at hg
  rcases hg with rfl | rfl | rfl | rfl | rfl | rfl | rfl | rfl | rfl | rfl | rfl | rfl | rfl | rfl | rfl | rfl | rfl | rfl <;> rfl
theorem K1_own2 : ∀ f ∈ own2, K1 f = fun _ => none := by
  intro f hf
  refine K1_none ?_ ?_
  · rintro rfl; revert hf; decide
  · simp only [own2, List.mem_cons, List.mem_nil_iff, or_false] at hf
    rcases hf with rfl | rfl | rfl | rfl | rfl | rfl | rfl | rfl | rfl | rfl | rfl | rfl | rfl <;> rfl
theorem K2_own3 : ∀ f ∈ own3, K2 f = fun _ => none := by
  intro f hf
  refine over_none ?_ (K1_none ?_ ?_)
  · simp only [own3, List.mem_cons, List.mem_nil_iff, or_false] at hf
    rcases hf with rfl | rfl | rfl | rfl | rfl <;> (intro args; rfl)
  · rintro rfl; revert hf; decide
  · simp only [own3, List.mem_cons, List.mem_nil_iff, or_false] at hf
    rcases hf with rfl | rfl | rfl | rfl | rfl <;> rfl
theorem K3_none {f : FuncId} (hf : f = 59 ∨ f ∈ own5) : K3 f = fun _ => none := by
  have hm : f ∈ 59 :: own5 := hf.elim (fun h => h ▸ List.mem_cons_self ..) (fun h => List.mem_cons_of_mem _ h)
  refine over_none ?_ (over_none ?_ (K1_none ?_ ?_))
  all_goals simp only [own5, List.mem_cons, List.mem_nil_iff, or_false] at hm
  all_goals rcases hm with rfl | rfl | rfl | rfl | rfl | rfl | rfl | rfl | rfl
  all_goals first | rfl | (intro args; rfl) | decide
theorem K4_own5 : ∀ f ∈ own5, K4 f = fun _ => none := by
  intro f hf
  refine over_none ?_ (K3_none (.inr hf))
  simp only [own5, List.mem_cons, List.mem_nil_iff, or_false] at hf
  rcases hf with rfl | rfl | rfl | rfl | rfl | rfl | rfl | rfl <;> (intro args; rfl)
theorem two2 : Two K2 := two_of KB_bytes
theorem three3 : Three K3 := three_of two2
theorem three4 : Three K4 := three_over three3 spec4_bytes spec4_own
theorem K4_known : K4 5 [] = some (.bool true) := rfl
theorem K4_token (w : List UInt8) (hw : w.length < Big) (h0 : 0 < w.length) : K4 59 [.str w] = some (tokenV w) := by
  show over spec4 K3 _ _ = _
  unfold over
  simp only [spec4, if_pos (And.intro hw h0)]
theorem progOk5 : ProgOk Tryz.prog 500 500 := ⟨of_decide_eq_true (by kernel_rfl), of_decide_eq_true (by kernel_rfl), by kernel_rfl, by kernel_rfl⟩
theorem all4 (h : KnownF Tryz.prog 5 [] (.bool true)) : KnownAll Tryz.prog K4 := by
  have h1 : KnownAll Tryz.prog K1 := byte_known progOk5 (K0_known h) fun f hf => K0_none (byte_small hf)
  have h2 : KnownAll Tryz.prog K2 := known2 progOk5 h1 KB_bytes K1_own2
  have h3 : KnownAll Tryz.prog K3 := known3 progOk5 h2 two2 K2_own3
  refine over_known h3 fun f args v hv => ?_
  unfold spec4 at hv
  split at hv
  · split at hv
    · split at hv
      · next hw => cases hv; exact known_of progOk5 h3 (token_to (K3_none (.inl rfl)) three3 _ hw.1 hw.2) rfl rfl
      · cases hv
    · cases hv
  · cases hv
/-- The law says true of every string. -/
theorem law_calls (h : KnownF Tryz.prog 5 [] (.bool true)) (w : World) (s : ByteArray) :
    Calls Tryz.prog 3 #[.string s] w fun e w' => e = .returned (.bool true) ∧ Go.RowKit.Below w.heap.size w w' :=
  calls_of progOk5 (all4 h) (args := [.str s.data.toList]) (by rw [K4_own5 _ (by decide)]) (law_to (K4_own5 _ (by decide)) (K4_own5 _ (by decide)) (K4_own5 _ (by decide)) (K4_own5 _ (by decide)) (K4_own5 _ (by decide)) (K4_own5 _ (by decide)) (K4_own5 _ (by decide)) (K4_own5 _ (by decide))
    three4 K4_token K4_known s.data.toList) (.cons (.str rfl) .nil)
end Go.Proofs.YtmgijfdekpfecaaGreatDoor
