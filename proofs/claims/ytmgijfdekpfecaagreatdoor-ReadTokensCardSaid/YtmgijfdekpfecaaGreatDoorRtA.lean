/- ReadTokens: what its smaller functions compute. -/
import Derived.Test.YtmgijfdekpfecaaGreatDoorAmF
import Derived.Test.YtmgijfdekpfecaaGreatDoorProg
import Derived.KernelRfl
set_option linter.unusedSectionVars false
set_option linter.unusedVariables false
set_option linter.unusedSimpArgs false

/- What holds of the program's types and functions; steps. -/
open Go Am
namespace Go.Proofs.YtmgijfdekpfecaaGreatDoor
noncomputable abbrev EK (K : FuncId → List AV → Option AV) : Env := envK Tryz.prog 500 500 0 K
section
variable {K : FuncId → List AV → Option AV}
theorem u_int : und (EK K) 3 = some (.int .i64) := by kernel_rfl
theorem u_byte : und (EK K) 5 = some (.int .u8) := by kernel_rfl
theorem u_errno : und (EK K) 25 = some (.int .i64) := by kernel_rfl
theorem u_string : und (EK K) 9 = some .string := by kernel_rfl
theorem sz_string : Am.sizeOf (EK K) 9 = some (0 + 1) := by kernel_rfl
theorem agg_string : Am.isAgg (EK K) 9 = some false := by kernel_rfl
theorem sz_tok : Am.sizeOf (EK K) 74 = some 4 := by kernel_rfl
theorem agg_tok : Am.isAgg (EK K) 74 = some true := by kernel_rfl
theorem zero_tok : Am.zeroOf (EK K) 74 = some (.agg [.int .i64 0, .str [], .int .i64 0, .int .i64 0]) := by kernel_rfl
theorem plan_tok : Am.buildPlan (EK K) 74 = some ([.int .i64 0, .str [], .int .i64 0, .int .i64 0], nth [(0, 1), (1, 1), (2, 1), (3, 1)]) := by kernel_rfl
theorem sz_int : Am.sizeOf (EK K) 3 = some (0 + 1) := by kernel_rfl
theorem agg_int : Am.isAgg (EK K) 3 = some false := by kernel_rfl
theorem f_tok1 : fieldOf (EK K) 74 1 = some (1, 0 + 1, false) := by kernel_rfl
theorem f_tok2 : fieldOf (EK K) 74 2 = some (2, 0 + 1, false) := by kernel_rfl
theorem f_tok3 : fieldOf (EK K) 74 3 = some (3, 0 + 1, false) := by kernel_rfl
theorem z_toks : Am.zeroOf (EK K) 24 = some .nilslice := by kernel_rfl
theorem z_errno : Am.zeroOf (EK K) 25 = some (.int .i64 0) := by kernel_rfl
theorem sz_toks : Am.sizeOf (EK K) 24 = some 1 := by kernel_rfl
theorem agg_toks : Am.isAgg (EK K) 24 = some false := by kernel_rfl
theorem sz_errno : Am.sizeOf (EK K) 25 = some 1 := by kernel_rfl
theorem agg_errno : Am.isAgg (EK K) 25 = some false := by kernel_rfl
theorem u_toks : und (EK K) 24 = some (.slice 74) := by kernel_rfl
theorem by_tok : bytesOf (EK K) 74 = some 40 := by kernel_rfl
theorem u_strings : und (EK K) 54 = some (.slice 9) := by kernel_rfl
end

theorem cond_t {b : Bool} {x y : Prop} (hb : b = true) (h : x) : cond b x y := by subst hb; exact h
theorem cond_f {b : Bool} {x y : Prop} (hb : b = false) (h : y) : cond b x y := by subst hb; exact h

theorem bool_eq {a b : Bool} (h : a = b) : some (AV.bool a) = some (AV.bool b) := by rw [h]
def SubL : Sl → Sl → Prop
  | [], _ => True
  | p :: r, l => Am.look p.1 l = some p.2 ∧ SubL r l
theorem sub_of {l : Sl} : ∀ {l' : Sl}, SubL l' l → ∀ p ∈ l', Am.look p.1 l = some p.2
  | [], _, _, h => by cases h
  | q :: r, h, p, hp => by
    rcases List.mem_cons.1 hp with rfl | hp
    · exact h.1
    · exact sub_of h.2 p hp
end Go.Proofs.YtmgijfdekpfecaaGreatDoor

/- What single bytes are. -/
open Go Am
namespace Go.Proofs.YtmgijfdekpfecaaGreatDoor
def isIn (a b n : Int) : Bool := decide (a ≤ n) && decide (n ≤ b)
def isBlank (n : Int) : Bool := decide (n = 32) || decide (n = 10)
def isLine (n : Int) : Bool := decide (n = 10)
def notLine (n : Int) : Bool := !decide (n = 10)
def isMinus (n : Int) : Bool := decide (n = 126)
section
variable {K : FuncId → List AV → Option AV} {s : St}
theorem small_to (hK : K 118 = fun _ => none) (n : Int) : CallTo (EK K) 118 [.int .u8 n] s (.bool (isIn 97 122 n)) := by
  refine CallTo.plain (fn := Tryz.f118) (by show K 118 _ = none; rw [hK]) (by kernel_rfl) rfl rfl rfl rfl rfl ?_
  refine EvtL.seqReg ?_
  refine RegL.q (OpQ.assign rfl rfl) rfl rfl rfl ?_
  refine RegL.done ?_
  refine EvtL.seqReg ?_
  refine RegL.q (OpQ.move rfl rfl) rfl rfl rfl ?_
  refine RegL.q (OpQ.int2 rfl u_byte rfl rfl rfl rfl) rfl rfl rfl ?_
  refine RegL.q (OpQ.move rfl rfl) rfl rfl rfl ?_
  refine RegL.both rfl rfl rfl rfl (fun g => ?_) (fun g => ?_)
  · refine RegL.go rfl rfl rfl rfl (by assumption) (OpL.q (OpQ.move rfl rfl)) rfl rfl ?_
    refine RegL.go rfl rfl rfl rfl (by assumption) (OpL.q (OpQ.int2 rfl u_byte rfl rfl rfl rfl)) rfl rfl ?_
    refine RegL.q (OpQ.pickT rfl rfl (by assumption) rfl) rfl rfl rfl ?_
    refine RegL.q (OpQ.assign rfl rfl) rfl rfl rfl ?_
    refine RegL.done ?_
    refine EvtL.ret ⟨.inl rfl, rfl, rfl, ?_⟩
    exact bool_eq (by unfold isIn; rw [g]; rfl)
  · refine RegL.skip rfl rfl rfl rfl (by assumption) rfl rfl ?_
    refine RegL.skip rfl rfl rfl rfl (by assumption) rfl rfl ?_
    refine RegL.q (OpQ.pickF rfl rfl (by assumption) rfl) rfl rfl rfl ?_
    refine RegL.q (OpQ.assign rfl rfl) rfl rfl rfl ?_
    refine RegL.done ?_
    refine EvtL.ret ⟨.inl rfl, rfl, rfl, ?_⟩
    exact bool_eq (by unfold isIn; rw [g]; rfl)
theorem great_to (hK : K 130 = fun _ => none) (n : Int) : CallTo (EK K) 130 [.int .u8 n] s (.bool (isIn 65 90 n)) := by
  refine CallTo.plain (fn := Tryz.f130) (by show K 130 _ = none; rw [hK]) (by kernel_rfl) rfl rfl rfl rfl rfl ?_
  refine EvtL.seqReg ?_
  refine RegL.q (OpQ.assign rfl rfl) rfl rfl rfl ?_
  refine RegL.done ?_
  refine EvtL.seqReg ?_
  refine RegL.q (OpQ.move rfl rfl) rfl rfl rfl ?_
  refine RegL.q (OpQ.int2 rfl u_byte rfl rfl rfl rfl) rfl rfl rfl ?_
  refine RegL.q (OpQ.move rfl rfl) rfl rfl rfl ?_
  refine RegL.both rfl rfl rfl rfl (fun g => ?_) (fun g => ?_)
  · refine RegL.go rfl rfl rfl rfl (by assumption) (OpL.q (OpQ.move rfl rfl)) rfl rfl ?_
    refine RegL.go rfl rfl rfl rfl (by assumption) (OpL.q (OpQ.int2 rfl u_byte rfl rfl rfl rfl)) rfl rfl ?_
    refine RegL.q (OpQ.pickT rfl rfl (by assumption) rfl) rfl rfl rfl ?_
    refine RegL.q (OpQ.assign rfl rfl) rfl rfl rfl ?_
    refine RegL.done ?_
    refine EvtL.ret ⟨.inl rfl, rfl, rfl, ?_⟩
    exact bool_eq (by unfold isIn; rw [g]; rfl)
  · refine RegL.skip rfl rfl rfl rfl (by assumption) rfl rfl ?_
    refine RegL.skip rfl rfl rfl rfl (by assumption) rfl rfl ?_
    refine RegL.q (OpQ.pickF rfl rfl (by assumption) rfl) rfl rfl rfl ?_
    refine RegL.q (OpQ.assign rfl rfl) rfl rfl rfl ?_
    refine RegL.done ?_
    refine EvtL.ret ⟨.inl rfl, rfl, rfl, ?_⟩
    exact bool_eq (by unfold isIn; rw [g]; rfl)
theorem digit_to (hK : K 132 = fun _ => none) (n : Int) : CallTo (EK K) 132 [.int .u8 n] s (.bool (isIn 48 57 n)) := by
  refine CallTo.plain (fn := Tryz.f132) (by show K 132 _ = none; rw [hK]) (by kernel_rfl) rfl rfl rfl rfl rfl ?_
  refine EvtL.seqReg ?_
  refine RegL.q (OpQ.assign rfl rfl) rfl rfl rfl ?_
  refine RegL.done ?_
  refine EvtL.seqReg ?_
  refine RegL.q (OpQ.move rfl rfl) rfl rfl rfl ?_
  refine RegL.q (OpQ.int2 rfl u_byte rfl rfl rfl rfl) rfl rfl rfl ?_
  refine RegL.q (OpQ.move rfl rfl) rfl rfl rfl ?_
  refine RegL.both rfl rfl rfl rfl (fun g => ?_) (fun g => ?_)
  · refine RegL.go rfl rfl rfl rfl (by assumption) (OpL.q (OpQ.move rfl rfl)) rfl rfl ?_
    refine RegL.go rfl rfl rfl rfl (by assumption) (OpL.q (OpQ.int2 rfl u_byte rfl rfl rfl rfl)) rfl rfl ?_
    refine RegL.q (OpQ.pickT rfl rfl (by assumption) rfl) rfl rfl rfl ?_
    refine RegL.q (OpQ.assign rfl rfl) rfl rfl rfl ?_
    refine RegL.done ?_
    refine EvtL.ret ⟨.inl rfl, rfl, rfl, ?_⟩
    exact bool_eq (by unfold isIn; rw [g]; rfl)
  · refine RegL.skip rfl rfl rfl rfl (by assumption) rfl rfl ?_
    refine RegL.skip rfl rfl rfl rfl (by assumption) rfl rfl ?_
    refine RegL.q (OpQ.pickF rfl rfl (by assumption) rfl) rfl rfl rfl ?_
    refine RegL.q (OpQ.assign rfl rfl) rfl rfl rfl ?_
    refine RegL.done ?_
    refine EvtL.ret ⟨.inl rfl, rfl, rfl, ?_⟩
    exact bool_eq (by unfold isIn; rw [g]; rfl)
theorem rsmall_to (hK : K 61 = fun _ => none) (n : Int) : CallTo (EK K) 61 [.int .u8 n] s (.bool (isIn 97 122 n)) := by
  refine CallTo.plain (fn := Tryz.f61) (by show K 61 _ = none; rw [hK]) (by kernel_rfl) rfl rfl rfl rfl rfl ?_
  refine EvtL.seqReg ?_
  refine RegL.q (OpQ.assign rfl rfl) rfl rfl rfl ?_
  refine RegL.done ?_
  refine EvtL.seqReg ?_
  refine RegL.q (OpQ.move rfl rfl) rfl rfl rfl ?_
  refine RegL.q (OpQ.int2 rfl u_byte rfl rfl rfl rfl) rfl rfl rfl ?_
  refine RegL.q (OpQ.move rfl rfl) rfl rfl rfl ?_
  refine RegL.both rfl rfl rfl rfl (fun g => ?_) (fun g => ?_)
  · refine RegL.go rfl rfl rfl rfl (by assumption) (OpL.q (OpQ.move rfl rfl)) rfl rfl ?_
    refine RegL.go rfl rfl rfl rfl (by assumption) (OpL.q (OpQ.int2 rfl u_byte rfl rfl rfl rfl)) rfl rfl ?_
    refine RegL.q (OpQ.pickT rfl rfl (by assumption) rfl) rfl rfl rfl ?_
    refine RegL.q (OpQ.assign rfl rfl) rfl rfl rfl ?_
    refine RegL.done ?_
    refine EvtL.ret ⟨.inl rfl, rfl, rfl, ?_⟩
    exact bool_eq (by unfold isIn; rw [g]; rfl)
  · refine RegL.skip rfl rfl rfl rfl (by assumption) rfl rfl ?_
    refine RegL.skip rfl rfl rfl rfl (by assumption) rfl rfl ?_
    refine RegL.q (OpQ.pickF rfl rfl (by assumption) rfl) rfl rfl rfl ?_
    refine RegL.q (OpQ.assign rfl rfl) rfl rfl rfl ?_
    refine RegL.done ?_
    refine EvtL.ret ⟨.inl rfl, rfl, rfl, ?_⟩
    exact bool_eq (by unfold isIn; rw [g]; rfl)
theorem rgreat_to (hK : K 64 = fun _ => none) (n : Int) : CallTo (EK K) 64 [.int .u8 n] s (.bool (isIn 65 90 n)) := by
  refine CallTo.plain (fn := Tryz.f64) (by show K 64 _ = none; rw [hK]) (by kernel_rfl) rfl rfl rfl rfl rfl ?_
  refine EvtL.seqReg ?_
  refine RegL.q (OpQ.assign rfl rfl) rfl rfl rfl ?_
  refine RegL.done ?_
  refine EvtL.seqReg ?_
  refine RegL.q (OpQ.move rfl rfl) rfl rfl rfl ?_
  refine RegL.q (OpQ.int2 rfl u_byte rfl rfl rfl rfl) rfl rfl rfl ?_
  refine RegL.q (OpQ.move rfl rfl) rfl rfl rfl ?_
  refine RegL.both rfl rfl rfl rfl (fun g => ?_) (fun g => ?_)
  · refine RegL.go rfl rfl rfl rfl (by assumption) (OpL.q (OpQ.move rfl rfl)) rfl rfl ?_
    refine RegL.go rfl rfl rfl rfl (by assumption) (OpL.q (OpQ.int2 rfl u_byte rfl rfl rfl rfl)) rfl rfl ?_
    refine RegL.q (OpQ.pickT rfl rfl (by assumption) rfl) rfl rfl rfl ?_
    refine RegL.q (OpQ.assign rfl rfl) rfl rfl rfl ?_
    refine RegL.done ?_
    refine EvtL.ret ⟨.inl rfl, rfl, rfl, ?_⟩
    exact bool_eq (by unfold isIn; rw [g]; rfl)
  · refine RegL.skip rfl rfl rfl rfl (by assumption) rfl rfl ?_
    refine RegL.skip rfl rfl rfl rfl (by assumption) rfl rfl ?_
    refine RegL.q (OpQ.pickF rfl rfl (by assumption) rfl) rfl rfl rfl ?_
    refine RegL.q (OpQ.assign rfl rfl) rfl rfl rfl ?_
    refine RegL.done ?_
    refine EvtL.ret ⟨.inl rfl, rfl, rfl, ?_⟩
    exact bool_eq (by unfold isIn; rw [g]; rfl)
theorem rdigit_to (hK : K 138 = fun _ => none) (n : Int) : CallTo (EK K) 138 [.int .u8 n] s (.bool (isIn 48 57 n)) := by
  refine CallTo.plain (fn := Tryz.f138) (by show K 138 _ = none; rw [hK]) (by kernel_rfl) rfl rfl rfl rfl rfl ?_
  refine EvtL.seqReg ?_
  refine RegL.q (OpQ.assign rfl rfl) rfl rfl rfl ?_
  refine RegL.done ?_
  refine EvtL.seqReg ?_
  refine RegL.q (OpQ.move rfl rfl) rfl rfl rfl ?_
  refine RegL.q (OpQ.int2 rfl u_byte rfl rfl rfl rfl) rfl rfl rfl ?_
  refine RegL.q (OpQ.move rfl rfl) rfl rfl rfl ?_
  refine RegL.both rfl rfl rfl rfl (fun g => ?_) (fun g => ?_)
  · refine RegL.go rfl rfl rfl rfl (by assumption) (OpL.q (OpQ.move rfl rfl)) rfl rfl ?_
    refine RegL.go rfl rfl rfl rfl (by assumption) (OpL.q (OpQ.int2 rfl u_byte rfl rfl rfl rfl)) rfl rfl ?_
    refine RegL.q (OpQ.pickT rfl rfl (by assumption) rfl) rfl rfl rfl ?_
    refine RegL.q (OpQ.assign rfl rfl) rfl rfl rfl ?_
    refine RegL.done ?_
    refine EvtL.ret ⟨.inl rfl, rfl, rfl, ?_⟩
    exact bool_eq (by unfold isIn; rw [g]; rfl)
  · refine RegL.skip rfl rfl rfl rfl (by assumption) rfl rfl ?_
    refine RegL.skip rfl rfl rfl rfl (by assumption) rfl rfl ?_
    refine RegL.q (OpQ.pickF rfl rfl (by assumption) rfl) rfl rfl rfl ?_
    refine RegL.q (OpQ.assign rfl rfl) rfl rfl rfl ?_
    refine RegL.done ?_
    refine EvtL.ret ⟨.inl rfl, rfl, rfl, ?_⟩
    exact bool_eq (by unfold isIn; rw [g]; rfl)
theorem blank1_to (hK : K 127 = fun _ => none) (n : Int) : CallTo (EK K) 127 [.int .u8 n] s (.bool (isBlank n)) := by
  refine CallTo.plain (fn := Tryz.f127) (by show K 127 _ = none; rw [hK]) (by kernel_rfl) rfl rfl rfl rfl rfl ?_
  refine EvtL.seqReg ?_
  refine RegL.q (OpQ.assign rfl rfl) rfl rfl rfl ?_
  refine RegL.done ?_
  refine EvtL.seqReg ?_
  refine RegL.q (OpQ.move rfl rfl) rfl rfl rfl ?_
  refine RegL.q (OpQ.int2 rfl u_byte rfl rfl rfl rfl) rfl rfl rfl ?_
  refine RegL.q (OpQ.move rfl rfl) rfl rfl rfl ?_
  refine RegL.both rfl rfl rfl rfl (fun g => ?_) (fun g => ?_)
  · refine RegL.skip rfl rfl rfl rfl (by assumption) rfl rfl ?_
    refine RegL.skip rfl rfl rfl rfl (by assumption) rfl rfl ?_
    refine RegL.q (OpQ.pickT rfl rfl (by assumption) rfl) rfl rfl rfl ?_
    refine RegL.q (OpQ.assign rfl rfl) rfl rfl rfl ?_
    refine RegL.done ?_
    refine EvtL.ret ⟨.inl rfl, rfl, rfl, ?_⟩
    exact bool_eq (by unfold isBlank; rw [g]; rfl)
  · refine RegL.go rfl rfl rfl rfl (by assumption) (OpL.q (OpQ.move rfl rfl)) rfl rfl ?_
    refine RegL.go rfl rfl rfl rfl (by assumption) (OpL.q (OpQ.int2 rfl u_byte rfl rfl rfl rfl)) rfl rfl ?_
    refine RegL.q (OpQ.pickF rfl rfl (by assumption) rfl) rfl rfl rfl ?_
    refine RegL.q (OpQ.assign rfl rfl) rfl rfl rfl ?_
    refine RegL.done ?_
    refine EvtL.ret ⟨.inl rfl, rfl, rfl, ?_⟩
    exact bool_eq (by unfold isBlank; rw [g]; rfl)
theorem blank2_to (hK : K 129 = fun _ => none) (n : Int) : CallTo (EK K) 129 [.int .u8 n] s (.bool (notLine n)) := by
  refine CallTo.plain (fn := Tryz.f129) (by show K 129 _ = none; rw [hK]) (by kernel_rfl) rfl rfl rfl rfl rfl ?_
  refine EvtL.seqReg ?_
  refine RegL.q (OpQ.assign rfl rfl) rfl rfl rfl ?_
  refine RegL.done ?_
  refine EvtL.seqReg ?_
  refine RegL.q (OpQ.move rfl rfl) rfl rfl rfl ?_
  refine RegL.q (OpQ.int2 rfl u_byte rfl rfl rfl rfl) rfl rfl rfl ?_
  refine RegL.q (OpQ.assign rfl rfl) rfl rfl rfl ?_
  refine RegL.done ?_
  refine EvtL.ret ⟨.inl rfl, rfl, rfl, ?_⟩
  exact bool_eq rfl
theorem minus_to (hK : K 194 = fun _ => none) (n : Int) : CallTo (EK K) 194 [.int .u8 n] s (.bool (isMinus n)) := by
  refine CallTo.plain (fn := Tryz.f194) (by show K 194 _ = none; rw [hK]) (by kernel_rfl) rfl rfl rfl rfl rfl ?_
  refine EvtL.seqReg ?_
  refine RegL.q (OpQ.assign rfl rfl) rfl rfl rfl ?_
  refine RegL.done ?_
  refine EvtL.seqReg ?_
  refine RegL.q (OpQ.move rfl rfl) rfl rfl rfl ?_
  refine RegL.q (OpQ.int2 rfl u_byte rfl rfl rfl rfl) rfl rfl rfl ?_
  refine RegL.q (OpQ.assign rfl rfl) rfl rfl rfl ?_
  refine RegL.done ?_
  refine EvtL.ret ⟨.inl rfl, rfl, rfl, ?_⟩
  exact bool_eq rfl
end

/-- What a function of bytes reports. -/
def byteFn : FuncId → Option (Int → Bool)
  | 118 => some (isIn 97 122)
  | 130 => some (isIn 65 90)
  | 132 => some (isIn 48 57)
  | 61 => some (isIn 97 122)
  | 64 => some (isIn 65 90)
  | 138 => some (isIn 48 57)
  | 127 => some isBlank
  | 129 => some notLine
  | 194 => some isMinus
  | _ => none
def KB (K : FuncId → List AV → Option AV) (f : FuncId) (args : List AV) : Option AV := match byteFn f with
  | some p => match args with
    | [.int .u8 n] => some (.bool (p n))
    | _ => none
  | none => K f args

theorem byte_known {K : FuncId → List AV → Option AV} (hp : ProgOk Tryz.prog 500 500) (hK : KnownAll Tryz.prog K) (h0 : ∀ f, (byteFn f).isSome = true → K f = fun _ => none) : KnownAll Tryz.prog (KB K) := by
  intro f args v h
  unfold KB at h
  cases hb : byteFn f with
  | none => rw [hb] at h; exact hK f args v h
  | some p =>
    have hk := h0 f (by rw [hb]; rfl)
    rw [hb] at h
    simp only at h
    split at h
    · next n =>
      cases h
      unfold byteFn at hb
      split at hb <;> cases hb
      · exact known_of hp hK (small_to hk n) rfl rfl
      · exact known_of hp hK (great_to hk n) rfl rfl
      · exact known_of hp hK (digit_to hk n) rfl rfl
      · exact known_of hp hK (rsmall_to hk n) rfl rfl
      · exact known_of hp hK (rgreat_to hk n) rfl rfl
      · exact known_of hp hK (rdigit_to hk n) rfl rfl
      · exact known_of hp hK (blank1_to hk n) rfl rfl
      · exact known_of hp hK (blank2_to hk n) rfl rfl
      · exact known_of hp hK (minus_to hk n) rfl rfl
    · cases h
end Go.Proofs.YtmgijfdekpfecaaGreatDoor

/- How many bytes of a kind a string begins with. -/
open Go Am
namespace Go.Proofs.YtmgijfdekpfecaaGreatDoor
/-- How many bytes at the beginning are so. -/
def tw (p : Int → Bool) (w : List UInt8) : Nat := (w.takeWhile fun c => p (c.toNat : Int)).length
theorem tw_le (p : Int → Bool) (w : List UInt8) : tw p w ≤ w.length := (List.takeWhile_sublist _).length_le
theorem tw_step {p : Int → Bool} : ∀ {l : List UInt8} {k : Nat}, k ≤ tw p l → k < l.length → (p ((l.getD k 0).toNat : Int) = true ↔ k < tw p l)
  | [], k, _, h => by simp at h
  | a :: l, 0, _, _ => by
    cases hp : p (a.toNat : Int) <;> simp [tw, List.takeWhile, hp]
  | a :: l, k + 1, h, hl => by
    cases hp : p (a.toNat : Int) with
    | false => simp [tw, List.takeWhile, hp] at h
    | true =>
      simp only [tw, List.takeWhile, hp, List.length_cons] at h ⊢
      have := tw_step (p := p) (l := l) (k := k) (by unfold tw; omega) (by simpa using hl)
      simp only [List.getD_cons_succ]
      rw [this]; unfold tw; omega
/-- Functions of bytes are known. -/
def Bytes (K : FuncId → List AV → Option AV) : Prop := ∀ g p, byteFn g = some p → hasBody (EK K) g = true ∧ ∀ n, K g [.int .u8 n] = some (.bool (p n))
section
variable {K : FuncId → List AV → Option AV} {s : St}
theorem row_to (hK : K 126 = fun _ => none) (hB : Bytes K) {g : FuncId} {p : Int → Bool} (hg : byteFn g = some p) (w : List UInt8) (hw : w.length < 1099511627776) :
    CallTo (EK K) 126 [.str w, .func (.func g) [] []] s (.int .i64 (tw p w : Nat)) := by
  have hle := tw_le p w
  have hb := (hB g p hg).1
  refine CallTo.plain (fn := Tryz.f126) (by show K 126 _ = none; rw [hK]) (by kernel_rfl) rfl rfl rfl rfl rfl ?_
  refine EvtL.seqReg ?_
  refine RegL.q (OpQ.assign rfl rfl) rfl rfl rfl ?_
  refine RegL.done ?_
  refine EvtL.seqReg ?_
  refine RegL.q (OpQ.assign rfl rfl) rfl rfl rfl ?_
  refine RegL.done ?_
  refine EvtL.seq ?_
  refine EvtL.block ?_
  refine EvtL.loopI (fun k : Nat => ([(5, .int .i64 (k : Nat)), (0, .str w), (1, .func (.func g) [] [])], s.enter)) (fun k => w.length - k) (fun k => k ≤ tw p w) 0 (Nat.zero_le _) rfl (by (refine sub_of ?_; repeat (first | exact trivial | refine ⟨rfl, ?_⟩))) fun k hk => ?_
  refine EvtL.seq ?_
  refine EvtL.seqReg ?_
  refine RegL.q (OpQ.move rfl rfl) rfl rfl rfl ?_
  refine RegL.q (OpQ.move rfl rfl) rfl rfl rfl ?_
  refine RegL.q (OpQ.lenStr rfl rfl rfl rfl u_string rfl) rfl rfl rfl ?_
  refine RegL.q (OpQ.int2 rfl u_int rfl rfl rfl rfl) rfl rfl rfl ?_
  refine RegL.q (OpQ.move rfl rfl) rfl rfl rfl ?_
  refine RegL.both rfl rfl rfl rfl (fun g4 => ?_) (fun g4 => ?_)
  · have hlt : k < w.length := by simpa using g4
    refine RegL.go rfl rfl rfl rfl (by assumption) (OpL.q (OpQ.move rfl rfl)) rfl rfl ?_
    refine RegL.go rfl rfl rfl rfl (by assumption) (OpL.q (OpQ.move rfl rfl)) rfl rfl ?_
    refine RegL.go rfl rfl rfl rfl (by assumption) (OpL.q (OpQ.move rfl rfl)) rfl rfl ?_
    refine RegL.go rfl rfl rfl rfl g4 (OpL.q (OpQ.indexD rfl u_string rfl rfl hlt)) rfl rfl ?_
    refine RegL.go rfl rfl rfl rfl g4 (OpL.callVal rfl rfl rfl hb rfl (CallTo.memo ((hB g p hg).2 _))) rfl rfl ?_
    refine RegL.q (OpQ.pickT rfl rfl (by assumption) rfl) rfl rfl rfl ?_
    refine RegL.done ?_
    refine EvtL.cond rfl (fun hc => ?_) (fun hc => ?_)
    · have h1 := (tw_step hk hlt).1 hc
      refine EvtL.skip ?_
      refine EvtL.block ?_
      refine EvtL.reg ?_
      refine RegL.q (OpQ.move rfl rfl) rfl rfl rfl ?_
      refine RegL.q (OpQ.addN (b := 1) rfl u_int rfl rfl (by first | omega | assumption)) rfl rfl rfl ?_
      refine RegL.q (OpQ.assign rfl rfl) rfl rfl rfl ?_
      refine RegL.done ?_
      exact ⟨k + 1, h1, by omega, rfl, rfl, by (refine sub_of ?_; repeat (first | exact trivial | refine ⟨rfl, ?_⟩))⟩
    · have h1 : ¬ k < tw p w := fun h => by rw [(tw_step hk hlt).2 h] at hc; cases hc
      have he : k = tw p w := by omega
      refine EvtL.exit ?_
      refine cond_t rfl ?_
      refine EvtL.seqReg ?_
      refine RegL.q (OpQ.move rfl rfl) rfl rfl rfl ?_
      refine RegL.q (OpQ.assign rfl rfl) rfl rfl rfl ?_
      refine RegL.done ?_
      refine EvtL.ret ?_; exact ⟨.inl rfl, rfl, rfl, by rw [← he]; rfl⟩
  · have hge : ¬ k < w.length := by simpa using g4
    refine RegL.skip rfl rfl rfl rfl (by assumption) rfl rfl ?_
    refine RegL.skip rfl rfl rfl rfl (by assumption) rfl rfl ?_
    refine RegL.skip rfl rfl rfl rfl (by assumption) rfl rfl ?_
    refine RegL.skip rfl rfl rfl rfl (by assumption) rfl rfl ?_
    refine RegL.skip rfl rfl rfl rfl (by assumption) rfl rfl ?_
    refine RegL.q (OpQ.pickF rfl rfl (by assumption) rfl) rfl rfl rfl ?_
    refine RegL.done ?_
    refine EvtL.cond rfl (fun hc => ?_) (fun hc => ?_)
    · cases hc
    · have he : k = tw p w := by omega
      refine EvtL.exit ?_
      refine cond_t rfl ?_
      refine EvtL.seqReg ?_
      refine RegL.q (OpQ.move rfl rfl) rfl rfl rfl ?_
      refine RegL.q (OpQ.assign rfl rfl) rfl rfl rfl ?_
      refine RegL.done ?_
      refine EvtL.ret ?_; exact ⟨.inl rfl, rfl, rfl, by rw [← he]; rfl⟩
end
end Go.Proofs.YtmgijfdekpfecaaGreatDoor

/- How many small letters, and digits, there are from a byte on. -/
open Go Am
namespace Go.Proofs.YtmgijfdekpfecaaGreatDoor
theorem getD_drop (w : List UInt8) (k n : Nat) : (w.drop k).getD n 0 = w.getD (k + n) 0 := by
  simp only [List.getD_eq_getElem?_getD, List.getElem?_drop]
section
variable {K : FuncId → List AV → Option AV} {s : St}
theorem smalls_to (hK : K 62 = fun _ => none) (hB : Bytes K) (w : List UInt8) (hw : w.length < 1099511627776) (k : Nat) (hkw : k ≤ w.length) :
    CallTo (EK K) 62 [.str w, .int .i64 (k : Nat)] s (.int .i64 (tw (isIn 97 122) (w.drop k) : Nat)) := by
  have hle := tw_le (isIn 97 122) (w.drop k)
  have hl : (w.drop k).length = w.length - k := List.length_drop
  have hb := hB 61 _ rfl
  refine CallTo.plain (fn := Tryz.f62) (by show K 62 _ = none; rw [hK]) (by kernel_rfl) rfl rfl rfl rfl rfl ?_
  refine EvtL.seqReg ?_
  refine RegL.q (OpQ.assign rfl rfl) rfl rfl rfl ?_
  refine RegL.done ?_
  refine EvtL.seqReg ?_
  refine RegL.q (OpQ.assign rfl rfl) rfl rfl rfl ?_
  refine RegL.done ?_
  refine EvtL.seq ?_
  refine EvtL.block ?_
  refine EvtL.loopI (fun n : Nat => ([(5, .int .i64 (n : Nat)), (0, .str w), (1, .int .i64 (k : Nat))], s.enter)) (fun n => w.length - n) (fun n => n ≤ tw (isIn 97 122) (w.drop k)) 0 (Nat.zero_le _) rfl (by (refine sub_of ?_; repeat (first | exact trivial | refine ⟨rfl, ?_⟩))) fun n hn => ?_
  refine EvtL.seq ?_
  refine EvtL.seqReg ?_
  refine RegL.q (OpQ.move rfl rfl) rfl rfl rfl ?_
  refine RegL.q (OpQ.move rfl rfl) rfl rfl rfl ?_
  refine RegL.q (OpQ.addN rfl u_int rfl rfl (by first | omega | assumption)) rfl rfl rfl ?_
  refine RegL.q (OpQ.move rfl rfl) rfl rfl rfl ?_
  refine RegL.q (OpQ.lenStr rfl rfl rfl rfl u_string rfl) rfl rfl rfl ?_
  refine RegL.q (OpQ.int2 rfl u_int rfl rfl rfl rfl) rfl rfl rfl ?_
  refine RegL.q (OpQ.move rfl rfl) rfl rfl rfl ?_
  refine RegL.both rfl rfl rfl rfl (fun g4 => ?_) (fun g4 => ?_)
  · have hlt : k + n < w.length := by have := of_decide_eq_true g4; omega
    refine RegL.go rfl rfl rfl rfl (by assumption) (OpL.q (OpQ.move rfl rfl)) rfl rfl ?_
    refine RegL.go rfl rfl rfl rfl (by assumption) (OpL.q (OpQ.move rfl rfl)) rfl rfl ?_
    refine RegL.go rfl rfl rfl rfl (by assumption) (OpL.q (OpQ.move rfl rfl)) rfl rfl ?_
    refine RegL.go rfl rfl rfl rfl (by assumption) (OpL.q (OpQ.addN rfl u_int rfl rfl (by first | omega | assumption))) rfl rfl ?_
    refine RegL.go rfl rfl rfl rfl g4 (OpL.q (OpQ.indexD rfl u_string rfl rfl hlt)) rfl rfl ?_
    refine RegL.go rfl rfl rfl rfl g4 (OpL.callFn rfl rfl hb.1 rfl (CallTo.memo (hb.2 _))) rfl rfl ?_
    have hs := tw_step (p := (isIn 97 122)) hn (by omega)
    rw [getD_drop] at hs
    refine RegL.q (OpQ.pickT rfl rfl (by assumption) rfl) rfl rfl rfl ?_
    refine RegL.done ?_
    refine EvtL.cond rfl (fun hc => ?_) (fun hc => ?_)
    · have h1 := hs.1 hc
      refine EvtL.skip ?_
      refine EvtL.block ?_
      refine EvtL.reg ?_
      refine RegL.q (OpQ.move rfl rfl) rfl rfl rfl ?_
      refine RegL.q (OpQ.addN (b := 1) rfl u_int rfl rfl (by first | omega | assumption)) rfl rfl rfl ?_
      refine RegL.q (OpQ.assign rfl rfl) rfl rfl rfl ?_
      refine RegL.done ?_
      exact ⟨n + 1, h1, by omega, rfl, rfl, by (refine sub_of ?_; repeat (first | exact trivial | refine ⟨rfl, ?_⟩))⟩
    · have h1 : ¬ n < tw (isIn 97 122) (w.drop k) := fun h => by rw [hs.2 h] at hc; cases hc
      have he : n = tw (isIn 97 122) (w.drop k) := by omega
      refine EvtL.exit ?_
      refine cond_t rfl ?_
      refine EvtL.seqReg ?_
      refine RegL.q (OpQ.move rfl rfl) rfl rfl rfl ?_
      refine RegL.q (OpQ.assign rfl rfl) rfl rfl rfl ?_
      refine RegL.done ?_
      refine EvtL.ret ?_; exact ⟨.inl rfl, rfl, rfl, by rw [← he]; rfl⟩
  · have hge : ¬ k + n < w.length := by have := of_decide_eq_false g4; omega
    refine RegL.skip rfl rfl rfl rfl (by assumption) rfl rfl ?_
    refine RegL.skip rfl rfl rfl rfl (by assumption) rfl rfl ?_
    refine RegL.skip rfl rfl rfl rfl (by assumption) rfl rfl ?_
    refine RegL.skip rfl rfl rfl rfl (by assumption) rfl rfl ?_
    refine RegL.skip rfl rfl rfl rfl (by assumption) rfl rfl ?_
    refine RegL.skip rfl rfl rfl rfl (by assumption) rfl rfl ?_
    refine RegL.q (OpQ.pickF rfl rfl (by assumption) rfl) rfl rfl rfl ?_
    refine RegL.done ?_
    refine EvtL.cond rfl (fun hc => ?_) (fun hc => ?_)
    · cases hc
    · have he : n = tw (isIn 97 122) (w.drop k) := by omega
      refine EvtL.exit ?_
      refine cond_t rfl ?_
      refine EvtL.seqReg ?_
      refine RegL.q (OpQ.move rfl rfl) rfl rfl rfl ?_
      refine RegL.q (OpQ.assign rfl rfl) rfl rfl rfl ?_
      refine RegL.done ?_
      refine EvtL.ret ?_; exact ⟨.inl rfl, rfl, rfl, by rw [← he]; rfl⟩
theorem digits_to (hK : K 65 = fun _ => none) (hB : Bytes K) (w : List UInt8) (hw : w.length < 1099511627776) (k : Nat) (hkw : k ≤ w.length) :
    CallTo (EK K) 65 [.str w, .int .i64 (k : Nat)] s (.int .i64 (tw (isIn 48 57) (w.drop k) : Nat)) := by
  have hle := tw_le (isIn 48 57) (w.drop k)
  have hl : (w.drop k).length = w.length - k := List.length_drop
  have hb := hB 138 _ rfl
  refine CallTo.plain (fn := Tryz.f65) (by show K 65 _ = none; rw [hK]) (by kernel_rfl) rfl rfl rfl rfl rfl ?_
  refine EvtL.seqReg ?_
  refine RegL.q (OpQ.assign rfl rfl) rfl rfl rfl ?_
  refine RegL.done ?_
  refine EvtL.seqReg ?_
  refine RegL.q (OpQ.assign rfl rfl) rfl rfl rfl ?_
  refine RegL.done ?_
  refine EvtL.seq ?_
  refine EvtL.block ?_
  refine EvtL.loopI (fun n : Nat => ([(5, .int .i64 (n : Nat)), (0, .str w), (1, .int .i64 (k : Nat))], s.enter)) (fun n => w.length - n) (fun n => n ≤ tw (isIn 48 57) (w.drop k)) 0 (Nat.zero_le _) rfl (by (refine sub_of ?_; repeat (first | exact trivial | refine ⟨rfl, ?_⟩))) fun n hn => ?_
  refine EvtL.seq ?_
  refine EvtL.seqReg ?_
  refine RegL.q (OpQ.move rfl rfl) rfl rfl rfl ?_
  refine RegL.q (OpQ.move rfl rfl) rfl rfl rfl ?_
  refine RegL.q (OpQ.addN rfl u_int rfl rfl (by first | omega | assumption)) rfl rfl rfl ?_
  refine RegL.q (OpQ.move rfl rfl) rfl rfl rfl ?_
  refine RegL.q (OpQ.lenStr rfl rfl rfl rfl u_string rfl) rfl rfl rfl ?_
  refine RegL.q (OpQ.int2 rfl u_int rfl rfl rfl rfl) rfl rfl rfl ?_
  refine RegL.q (OpQ.move rfl rfl) rfl rfl rfl ?_
  refine RegL.both rfl rfl rfl rfl (fun g4 => ?_) (fun g4 => ?_)
  · have hlt : k + n < w.length := by have := of_decide_eq_true g4; omega
    refine RegL.go rfl rfl rfl rfl (by assumption) (OpL.q (OpQ.move rfl rfl)) rfl rfl ?_
    refine RegL.go rfl rfl rfl rfl (by assumption) (OpL.q (OpQ.move rfl rfl)) rfl rfl ?_
    refine RegL.go rfl rfl rfl rfl (by assumption) (OpL.q (OpQ.move rfl rfl)) rfl rfl ?_
    refine RegL.go rfl rfl rfl rfl (by assumption) (OpL.q (OpQ.addN rfl u_int rfl rfl (by first | omega | assumption))) rfl rfl ?_
    refine RegL.go rfl rfl rfl rfl g4 (OpL.q (OpQ.indexD rfl u_string rfl rfl hlt)) rfl rfl ?_
    refine RegL.go rfl rfl rfl rfl g4 (OpL.callFn rfl rfl hb.1 rfl (CallTo.memo (hb.2 _))) rfl rfl ?_
    have hs := tw_step (p := (isIn 48 57)) hn (by omega)
    rw [getD_drop] at hs
    refine RegL.q (OpQ.pickT rfl rfl (by assumption) rfl) rfl rfl rfl ?_
    refine RegL.done ?_
    refine EvtL.cond rfl (fun hc => ?_) (fun hc => ?_)
    · have h1 := hs.1 hc
      refine EvtL.skip ?_
      refine EvtL.block ?_
      refine EvtL.reg ?_
      refine RegL.q (OpQ.move rfl rfl) rfl rfl rfl ?_
      refine RegL.q (OpQ.addN (b := 1) rfl u_int rfl rfl (by first | omega | assumption)) rfl rfl rfl ?_
      refine RegL.q (OpQ.assign rfl rfl) rfl rfl rfl ?_
      refine RegL.done ?_
      exact ⟨n + 1, h1, by omega, rfl, rfl, by (refine sub_of ?_; repeat (first | exact trivial | refine ⟨rfl, ?_⟩))⟩
    · have h1 : ¬ n < tw (isIn 48 57) (w.drop k) := fun h => by rw [hs.2 h] at hc; cases hc
      have he : n = tw (isIn 48 57) (w.drop k) := by omega
      refine EvtL.exit ?_
      refine cond_t rfl ?_
      refine EvtL.seqReg ?_
      refine RegL.q (OpQ.move rfl rfl) rfl rfl rfl ?_
      refine RegL.q (OpQ.assign rfl rfl) rfl rfl rfl ?_
      refine RegL.done ?_
      refine EvtL.ret ?_; exact ⟨.inl rfl, rfl, rfl, by rw [← he]; rfl⟩
  · have hge : ¬ k + n < w.length := by have := of_decide_eq_false g4; omega
    refine RegL.skip rfl rfl rfl rfl (by assumption) rfl rfl ?_
    refine RegL.skip rfl rfl rfl rfl (by assumption) rfl rfl ?_
    refine RegL.skip rfl rfl rfl rfl (by assumption) rfl rfl ?_
    refine RegL.skip rfl rfl rfl rfl (by assumption) rfl rfl ?_
    refine RegL.skip rfl rfl rfl rfl (by assumption) rfl rfl ?_
    refine RegL.skip rfl rfl rfl rfl (by assumption) rfl rfl ?_
    refine RegL.q (OpQ.pickF rfl rfl (by assumption) rfl) rfl rfl rfl ?_
    refine RegL.done ?_
    refine EvtL.cond rfl (fun hc => ?_) (fun hc => ?_)
    · cases hc
    · have he : n = tw (isIn 48 57) (w.drop k) := by omega
      refine EvtL.exit ?_
      refine cond_t rfl ?_
      refine EvtL.seqReg ?_
      refine RegL.q (OpQ.move rfl rfl) rfl rfl rfl ?_
      refine RegL.q (OpQ.assign rfl rfl) rfl rfl rfl ?_
      refine RegL.done ?_
      refine EvtL.ret ?_; exact ⟨.inl rfl, rfl, rfl, by rw [← he]; rfl⟩
end
end Go.Proofs.YtmgijfdekpfecaaGreatDoor

/- Words, beginnings, lines. -/
open Go Am
namespace Go.Proofs.YtmgijfdekpfecaaGreatDoor
def isWord (w : List UInt8) : Bool := bytesEq w [100, 97, 116, 97] || bytesEq w [108, 101, 116] || bytesEq w [105, 110] || bytesEq w [119, 104, 101, 110] || bytesEq w [116, 104, 101, 110]
/-- Does a begin with p? -/
def hasPre (a p : List UInt8) : Bool := decide (p.length ≤ a.length) && bytesEq (a.take p.length) p
/-- How many ends of lines there are. -/
def ends (w : List UInt8) : Nat := (w.filter fun c => c == 10).length
theorem ends_le (w : List UInt8) : ends w ≤ w.length := List.length_filter_le ..
section
variable {K : FuncId → List AV → Option AV} {s : St}
theorem rword_to (hK : K 63 = fun _ => none) (w : List UInt8) : CallTo (EK K) 63 [.str w] s (.bool (isWord w)) := by
  refine CallTo.plain (fn := Tryz.f63) (by show K 63 _ = none; rw [hK]) (by kernel_rfl) rfl rfl rfl rfl rfl ?_
  refine EvtL.seqReg ?_
  refine RegL.q (OpQ.assign rfl rfl) rfl rfl rfl ?_
  refine RegL.done ?_
  refine EvtL.seqReg ?_
  refine RegL.q (OpQ.move rfl rfl) rfl rfl rfl ?_
  refine RegL.q (OpQ.str2 rfl u_string rfl rfl rfl rfl) rfl rfl rfl ?_
  refine RegL.q (OpQ.move rfl rfl) rfl rfl rfl ?_
  refine RegL.both rfl rfl rfl rfl (fun g1 => ?_) (fun g1 => ?_)
  · refine RegL.skip rfl rfl rfl rfl (by assumption) rfl rfl ?_
    refine RegL.skip rfl rfl rfl rfl (by assumption) rfl rfl ?_
    refine RegL.q (OpQ.pickT rfl rfl (by assumption) rfl) rfl rfl rfl ?_
    refine RegL.q (OpQ.move rfl rfl) rfl rfl rfl ?_
    refine RegL.skip rfl rfl rfl rfl rfl rfl rfl ?_
    refine RegL.skip rfl rfl rfl rfl rfl rfl rfl ?_
    refine RegL.q (OpQ.pickT rfl rfl rfl rfl) rfl rfl rfl ?_
    refine RegL.q (OpQ.move rfl rfl) rfl rfl rfl ?_
    refine RegL.skip rfl rfl rfl rfl rfl rfl rfl ?_
    refine RegL.skip rfl rfl rfl rfl rfl rfl rfl ?_
    refine RegL.q (OpQ.pickT rfl rfl rfl rfl) rfl rfl rfl ?_
    refine RegL.q (OpQ.move rfl rfl) rfl rfl rfl ?_
    refine RegL.skip rfl rfl rfl rfl rfl rfl rfl ?_
    refine RegL.skip rfl rfl rfl rfl rfl rfl rfl ?_
    refine RegL.q (OpQ.pickT rfl rfl rfl rfl) rfl rfl rfl ?_
    refine RegL.q (OpQ.assign rfl rfl) rfl rfl rfl ?_
    refine RegL.done ?_
    refine EvtL.ret ⟨.inl rfl, rfl, rfl, ?_⟩
    have h1 : bytesEq w [100, 97, 116, 97] = true := g1
    exact bool_eq (by unfold isWord; rw [h1]; rfl)
  · have h1 : bytesEq w [100, 97, 116, 97] = false := g1
    refine RegL.go rfl rfl rfl rfl (by assumption) (OpL.q (OpQ.move rfl rfl)) rfl rfl ?_
    refine RegL.go rfl rfl rfl rfl (by assumption) (OpL.q (OpQ.str2 rfl u_string rfl rfl rfl rfl)) rfl rfl ?_
    refine RegL.q (OpQ.pickF rfl rfl (by assumption) rfl) rfl rfl rfl ?_
    refine RegL.q (OpQ.move rfl rfl) rfl rfl rfl ?_
    refine RegL.both rfl rfl rfl rfl (fun g2 => ?_) (fun g2 => ?_)
    · have h2 : bytesEq w [108, 101, 116] = true := g2
      refine RegL.skip rfl rfl rfl rfl (by assumption) rfl rfl ?_
      refine RegL.skip rfl rfl rfl rfl (by assumption) rfl rfl ?_
      refine RegL.q (OpQ.pickT rfl rfl (by assumption) rfl) rfl rfl rfl ?_
      refine RegL.q (OpQ.move rfl rfl) rfl rfl rfl ?_
      refine RegL.skip rfl rfl rfl rfl rfl rfl rfl ?_
      refine RegL.skip rfl rfl rfl rfl rfl rfl rfl ?_
      refine RegL.q (OpQ.pickT rfl rfl rfl rfl) rfl rfl rfl ?_
      refine RegL.q (OpQ.move rfl rfl) rfl rfl rfl ?_
      refine RegL.skip rfl rfl rfl rfl rfl rfl rfl ?_
      refine RegL.skip rfl rfl rfl rfl rfl rfl rfl ?_
      refine RegL.q (OpQ.pickT rfl rfl rfl rfl) rfl rfl rfl ?_
      refine RegL.q (OpQ.assign rfl rfl) rfl rfl rfl ?_
      refine RegL.done ?_
      refine EvtL.ret ⟨.inl rfl, rfl, rfl, ?_⟩
      exact bool_eq (by unfold isWord; rw [h1, h2]; rfl)
    · have h2 : bytesEq w [108, 101, 116] = false := g2
      refine RegL.go rfl rfl rfl rfl (by assumption) (OpL.q (OpQ.move rfl rfl)) rfl rfl ?_
      refine RegL.go rfl rfl rfl rfl (by assumption) (OpL.q (OpQ.str2 rfl u_string rfl rfl rfl rfl)) rfl rfl ?_
      refine RegL.q (OpQ.pickF rfl rfl (by assumption) rfl) rfl rfl rfl ?_
      refine RegL.q (OpQ.move rfl rfl) rfl rfl rfl ?_
      refine RegL.both rfl rfl rfl rfl (fun g3 => ?_) (fun g3 => ?_)
      · have h3 : bytesEq w [105, 110] = true := g3
        refine RegL.skip rfl rfl rfl rfl (by assumption) rfl rfl ?_
        refine RegL.skip rfl rfl rfl rfl (by assumption) rfl rfl ?_
        refine RegL.q (OpQ.pickT rfl rfl (by assumption) rfl) rfl rfl rfl ?_
        refine RegL.q (OpQ.move rfl rfl) rfl rfl rfl ?_
        refine RegL.skip rfl rfl rfl rfl rfl rfl rfl ?_
        refine RegL.skip rfl rfl rfl rfl rfl rfl rfl ?_
        refine RegL.q (OpQ.pickT rfl rfl rfl rfl) rfl rfl rfl ?_
        refine RegL.q (OpQ.assign rfl rfl) rfl rfl rfl ?_
        refine RegL.done ?_
        refine EvtL.ret ⟨.inl rfl, rfl, rfl, ?_⟩
        exact bool_eq (by unfold isWord; rw [h1, h2, h3]; rfl)
      · have h3 : bytesEq w [105, 110] = false := g3
        refine RegL.go rfl rfl rfl rfl (by assumption) (OpL.q (OpQ.move rfl rfl)) rfl rfl ?_
        refine RegL.go rfl rfl rfl rfl (by assumption) (OpL.q (OpQ.str2 rfl u_string rfl rfl rfl rfl)) rfl rfl ?_
        refine RegL.q (OpQ.pickF rfl rfl (by assumption) rfl) rfl rfl rfl ?_
        refine RegL.q (OpQ.move rfl rfl) rfl rfl rfl ?_
        refine RegL.both rfl rfl rfl rfl (fun g4 => ?_) (fun g4 => ?_)
        · have h4 : bytesEq w [119, 104, 101, 110] = true := g4
          refine RegL.skip rfl rfl rfl rfl (by assumption) rfl rfl ?_
          refine RegL.skip rfl rfl rfl rfl (by assumption) rfl rfl ?_
          refine RegL.q (OpQ.pickT rfl rfl (by assumption) rfl) rfl rfl rfl ?_
          refine RegL.q (OpQ.assign rfl rfl) rfl rfl rfl ?_
          refine RegL.done ?_
          refine EvtL.ret ⟨.inl rfl, rfl, rfl, ?_⟩
          exact bool_eq (by unfold isWord; rw [h1, h2, h3, h4]; rfl)
        · have h4 : bytesEq w [119, 104, 101, 110] = false := g4
          refine RegL.go rfl rfl rfl rfl (by assumption) (OpL.q (OpQ.move rfl rfl)) rfl rfl ?_
          refine RegL.go rfl rfl rfl rfl (by assumption) (OpL.q (OpQ.str2 rfl u_string rfl rfl rfl rfl)) rfl rfl ?_
          refine RegL.q (OpQ.pickF rfl rfl (by assumption) rfl) rfl rfl rfl ?_
          refine RegL.q (OpQ.assign rfl rfl) rfl rfl rfl ?_
          refine RegL.done ?_
          refine EvtL.ret ⟨.inl rfl, rfl, rfl, ?_⟩
          exact bool_eq (by unfold isWord; rw [h1, h2, h3, h4]; rfl)
theorem pre1_to (hK : K 193 = fun _ => none) (a p : List UInt8) : CallTo (EK K) 193 [.str a, .str p] s (.bool (hasPre a p)) := by
  refine CallTo.plain (fn := Tryz.f193) (by show K 193 _ = none; rw [hK]) (by kernel_rfl) rfl rfl rfl rfl rfl ?_
  refine EvtL.seqReg ?_
  refine RegL.q (OpQ.assign rfl rfl) rfl rfl rfl ?_
  refine RegL.done ?_
  refine EvtL.seqReg ?_
  refine RegL.q (OpQ.move rfl rfl) rfl rfl rfl ?_
  refine RegL.q (OpQ.lenStr rfl rfl rfl rfl u_string rfl) rfl rfl rfl ?_
  refine RegL.q (OpQ.move rfl rfl) rfl rfl rfl ?_
  refine RegL.q (OpQ.lenStr rfl rfl rfl rfl u_string rfl) rfl rfl rfl ?_
  refine RegL.q (OpQ.int2 rfl u_int rfl rfl rfl rfl) rfl rfl rfl ?_
  refine RegL.q (OpQ.move rfl rfl) rfl rfl rfl ?_
  refine RegL.both rfl rfl rfl rfl (fun g => ?_) (fun g => ?_)
  · have hl : p.length ≤ a.length := by have := of_decide_eq_true g; omega
    refine RegL.go rfl rfl rfl rfl (by assumption) (OpL.q (OpQ.move rfl rfl)) rfl rfl ?_
    refine RegL.go rfl rfl rfl rfl (by assumption) (OpL.q (OpQ.move rfl rfl)) rfl rfl ?_
    refine RegL.go rfl rfl rfl rfl (by assumption) (OpL.q (OpQ.lenStr rfl rfl rfl rfl u_string rfl)) rfl rfl ?_
    refine RegL.go rfl rfl rfl rfl g (OpL.q (OpQ.sliceStr rfl u_string rfl rfl rfl (bounds_some hl) rfl ⟨Nat.zero_le _, hl⟩)) rfl rfl ?_
    refine RegL.go rfl rfl rfl rfl (by assumption) (OpL.q (OpQ.move rfl rfl)) rfl rfl ?_
    refine RegL.go rfl rfl rfl rfl (by assumption) (OpL.q (OpQ.str2 rfl u_string rfl rfl rfl rfl)) rfl rfl ?_
    refine RegL.q (OpQ.pickT rfl rfl (by assumption) rfl) rfl rfl rfl ?_
    refine RegL.q (OpQ.assign rfl rfl) rfl rfl rfl ?_
    refine RegL.done ?_
    refine EvtL.ret ⟨.inl rfl, rfl, rfl, ?_⟩
    refine bool_eq ?_
    show bytesEq ((a.drop 0).take (p.length - 0)) p = _
    unfold hasPre
    rw [decide_eq_true hl]; rfl
  · have hl : ¬ p.length ≤ a.length := by have := of_decide_eq_false g; omega
    refine RegL.skip rfl rfl rfl rfl (by assumption) rfl rfl ?_
    refine RegL.skip rfl rfl rfl rfl (by assumption) rfl rfl ?_
    refine RegL.skip rfl rfl rfl rfl (by assumption) rfl rfl ?_
    refine RegL.skip rfl rfl rfl rfl (by assumption) rfl rfl ?_
    refine RegL.skip rfl rfl rfl rfl (by assumption) rfl rfl ?_
    refine RegL.skip rfl rfl rfl rfl (by assumption) rfl rfl ?_
    refine RegL.q (OpQ.pickF rfl rfl (by assumption) rfl) rfl rfl rfl ?_
    refine RegL.q (OpQ.assign rfl rfl) rfl rfl rfl ?_
    refine RegL.done ?_
    refine EvtL.ret ⟨.inl rfl, rfl, rfl, ?_⟩
    exact bool_eq (by unfold hasPre; rw [decide_eq_false hl]; rfl)
theorem pre_to (hK : K 128 = fun _ => none) (hK1 : K 193 = fun _ => none) (a p : List UInt8) : CallTo (EK K) 128 [.str a, .str p] s (.bool (hasPre a p)) := by
  refine CallTo.plain (fn := Tryz.f128) (by show K 128 _ = none; rw [hK]) (by kernel_rfl) rfl rfl rfl rfl rfl ?_
  refine EvtL.seqReg ?_
  refine RegL.q (OpQ.assign rfl rfl) rfl rfl rfl ?_
  refine RegL.done ?_
  refine EvtL.seqReg ?_
  refine RegL.q (OpQ.move rfl rfl) rfl rfl rfl ?_
  refine RegL.q (OpQ.move rfl rfl) rfl rfl rfl ?_
  refine RegL.op (OpL.callFn rfl rfl (by kernel_rfl) rfl (pre1_to hK1 a p)) rfl rfl rfl ?_
  refine RegL.q (OpQ.assign rfl rfl) rfl rfl rfl ?_
  refine RegL.done ?_
  refine EvtL.ret ⟨.inl rfl, rfl, rfl, ?_⟩
  rfl
end
end Go.Proofs.YtmgijfdekpfecaaGreatDoor

/- Lines. -/
open Go Am
namespace Go.Proofs.YtmgijfdekpfecaaGreatDoor
theorem cntA_ends : ∀ w : List UInt8, cntA 10 w = ends w
  | [] => rfl
  | b :: l => by
    unfold cntA
    rw [cntA_ends l]
    unfold ends
    simp only [List.filter_cons]
    cases hb : Nat.beq b.toNat 10 with
    | true =>
      have : b = 10 := UInt8.toNat_inj.1 (Nat.eq_of_beq_eq_true hb)
      subst this; rfl
    | false =>
      have : (b == 10) = false := by
        rw [beq_eq_false_iff_ne]
        intro h
        subst h
        cases hb
      rw [this]; rfl
theorem ends_take {w : List UInt8} {i : Nat} (h : i < w.length) : ends (w.take (i + 1)) = ends (w.take i) + (if w.getD i 0 = 10 then 1 else 0) := by
  unfold ends
  rw [List.take_add_one, List.filter_append, List.length_append]
  have h1 : w[i]? = some w[i] := List.getElem?_eq_getElem h
  have h2 : w.getD i 0 = w[i] := by rw [List.getD_eq_getElem?_getD, h1]; rfl
  rw [h2, h1]
  simp only [Option.toList]
  by_cases hc : w[i] = 10
  · rw [if_pos hc, hc]; rfl
  · rw [if_neg hc, List.filter_cons_of_neg (by simpa using hc)]; rfl
section
variable {K : FuncId → List AV → Option AV} {s : St}
theorem line_to (hK : K 24 = fun _ => none) (w : List UInt8) (hw : w.length < 1099511627776) (k : Nat) (hkw : k ≤ w.length) :
    CallTo (EK K) 24 [.str w, .int .i64 (k : Nat)] s (.int .i64 ((1 + ends (w.take k) : Nat) : Int)) := by
  refine CallTo.plain (fn := Tryz.f24) (by show K 24 _ = none; rw [hK]) (by kernel_rfl) rfl rfl rfl rfl rfl ?_
  refine EvtL.seqReg ?_
  refine RegL.q (OpQ.assign rfl rfl) rfl rfl rfl ?_
  refine RegL.done ?_
  refine EvtL.seqReg ?_
  refine RegL.q (OpQ.assign rfl rfl) rfl rfl rfl ?_
  refine RegL.done ?_
  refine EvtL.seq ?_
  refine EvtL.seqReg ?_
  refine RegL.q (OpQ.assign rfl rfl) rfl rfl rfl ?_
  refine RegL.done ?_
  refine EvtL.block ?_
  refine EvtL.loopI (fun i : Nat => ([(6, .int .i64 (i : Nat)), (5, .int .i64 ((1 + ends (w.take i) : Nat) : Int)), (0, .str w), (1, .int .i64 (k : Nat))], s.enter)) (fun i => k - i) (fun i => i ≤ k) 0 (Nat.zero_le _) rfl (by (refine sub_of ?_; repeat (first | exact trivial | refine ⟨rfl, ?_⟩))) fun i hi => ?_
  refine EvtL.seq ?_
  refine EvtL.seqReg ?_
  refine RegL.q (OpQ.move rfl rfl) rfl rfl rfl ?_
  refine RegL.q (OpQ.move rfl rfl) rfl rfl rfl ?_
  refine RegL.q (OpQ.int2 rfl u_int rfl rfl rfl rfl) rfl rfl rfl ?_
  refine RegL.done ?_
  refine EvtL.cond rfl (fun hc => ?_) (fun hc => ?_)
  · have hlt : i < k := by have := of_decide_eq_true hc; omega
    have hlw : i < w.length := by omega
    have he := ends_take hlw
    have hle := ends_le (w.take i)
    have hlt' : (w.take i).length ≤ w.length := by rw [List.length_take]; omega
    refine EvtL.skip ?_
    refine EvtL.seq ?_
    refine EvtL.block ?_
    refine EvtL.seqReg ?_
    refine RegL.q (OpQ.move rfl rfl) rfl rfl rfl ?_
    refine RegL.q (OpQ.move rfl rfl) rfl rfl rfl ?_
    refine RegL.q (OpQ.indexD rfl u_string rfl rfl hlw) rfl rfl rfl ?_
    refine RegL.q (OpQ.int2 rfl u_byte rfl rfl rfl rfl) rfl rfl rfl ?_
    refine RegL.done ?_
    refine EvtL.cond rfl (fun hd => ?_) (fun hd => ?_)
    · have h1 : w.getD i 0 = 10 := by
        have := of_decide_eq_true hd
        exact UInt8.toNat_inj.1 (Int.ofNat.inj this)
      rw [if_pos h1] at he
      refine EvtL.reg ?_
      refine RegL.q (OpQ.move rfl rfl) rfl rfl rfl ?_
      refine RegL.q (OpQ.addN (b := 1) rfl u_int rfl rfl (by first | omega | assumption)) rfl rfl rfl ?_
      refine RegL.q (OpQ.assign rfl rfl) rfl rfl rfl ?_
      refine RegL.done ?_
      refine EvtL.reg ?_
      refine RegL.q (OpQ.move rfl rfl) rfl rfl rfl ?_
      refine RegL.q (OpQ.addN (b := 1) rfl u_int rfl rfl (by first | omega | assumption)) rfl rfl rfl ?_
      refine RegL.q (OpQ.assign rfl rfl) rfl rfl rfl ?_
      refine RegL.done ?_
      exact ⟨i + 1, hlt, by omega, rfl, rfl, by rw [he, ← Nat.add_assoc]; (refine sub_of ?_; repeat (first | exact trivial | refine ⟨rfl, ?_⟩))⟩
    · have h1 : ¬ w.getD i 0 = 10 := fun h => by
        have := of_decide_eq_false hd
        rw [h] at this
        exact this rfl
      rw [if_neg h1] at he
      refine EvtL.skip ?_
      refine EvtL.reg ?_
      refine RegL.q (OpQ.move rfl rfl) rfl rfl rfl ?_
      refine RegL.q (OpQ.addN (b := 1) rfl u_int rfl rfl (by first | omega | assumption)) rfl rfl rfl ?_
      refine RegL.q (OpQ.assign rfl rfl) rfl rfl rfl ?_
      refine RegL.done ?_
      exact ⟨i + 1, hlt, by omega, rfl, rfl, by rw [he]; (refine sub_of ?_; repeat (first | exact trivial | refine ⟨rfl, ?_⟩))⟩
  · have hge : i = k := by have := of_decide_eq_false hc; omega
    refine EvtL.exit ?_
    refine cond_t rfl ?_
    refine EvtL.seqReg ?_
    refine RegL.q (OpQ.move rfl rfl) rfl rfl rfl ?_
    refine RegL.q (OpQ.assign rfl rfl) rfl rfl rfl ?_
    refine RegL.done ?_
    refine EvtL.ret ?_; exact ⟨.inl rfl, rfl, rfl, by rw [← hge]; rfl⟩
theorem count_to (hK : K 60 = fun _ => none) (w : List UInt8) :
    CallTo (EK K) 60 [.str w, .str [10]] s (.int .i64 (ends w : Nat)) := by
  refine CallTo.plain (fn := Tryz.f60) (by show K 60 _ = none; rw [hK]) (by kernel_rfl) rfl rfl rfl rfl rfl ?_
  refine EvtL.seqReg ?_
  refine RegL.q (OpQ.assign rfl rfl) rfl rfl rfl ?_
  refine RegL.done ?_
  refine EvtL.seq ?_
  refine EvtL.seqReg ?_
  refine RegL.q (OpQ.move rfl rfl) rfl rfl rfl ?_
  refine RegL.q (OpQ.lenStr rfl rfl rfl rfl u_string rfl) rfl rfl rfl ?_
  refine RegL.q (OpQ.int2 rfl u_int rfl rfl rfl rfl) rfl rfl rfl ?_
  refine RegL.done ?_
  refine EvtL.cond rfl (fun hc => by cases hc) (fun _ => ?_)
  refine EvtL.skip ?_
  refine EvtL.seq ?_
  refine EvtL.seqReg ?_
  refine RegL.q (OpQ.move rfl rfl) rfl rfl rfl ?_
  refine RegL.q (OpQ.lenStr rfl rfl rfl rfl u_string rfl) rfl rfl rfl ?_
  refine RegL.q (OpQ.int2 rfl u_int rfl rfl rfl rfl) rfl rfl rfl ?_
  refine RegL.done ?_
  refine EvtL.cond rfl (fun _ => ?_) (fun hc => by cases hc)
  refine EvtL.seqReg ?_
  refine RegL.q (OpQ.move rfl rfl) rfl rfl rfl ?_
  refine RegL.q (OpQ.move rfl rfl) rfl rfl rfl ?_
  refine RegL.q (OpQ.indexStr (n := 0) (b := 10) rfl u_string rfl rfl rfl) rfl rfl rfl ?_
  refine RegL.q (v := .int .i64 (cntA 10 w : Nat)) (OpQ.pure (f := fun T => (opnd (EK K) (.tmp 16) T).bind fun a => (opnd (EK K) (.tmp 18) T).bind fun b => countV a b) (by kernel_rfl) fun T hT => ?_) rfl rfl rfl ?_
  · rw [opndL_ok (x := .tmp 16) (v := .str w) hT rfl, opndL_ok (x := .tmp 18) (v := .int .u8 (10 : Nat)) hT rfl]; rfl
  refine RegL.q (OpQ.assign rfl rfl) rfl rfl rfl ?_
  refine RegL.done ?_
  refine EvtL.ret ?_; exact ⟨.inl rfl, rfl, rfl, by rw [← cntA_ends]; rfl⟩
end
end Go.Proofs.YtmgijfdekpfecaaGreatDoor

/- Is a string in a list? -/
open Go Am
namespace Go.Proofs.YtmgijfdekpfecaaGreatDoor
/-- The strings of the words. -/
def wordL : List (List UInt8) := [[100, 97, 116, 97], [108, 101, 116], [105, 110], [119, 104, 101, 110], [116, 104, 101, 110]]
section
variable {K : FuncId → List AV → Option AV} {s : St}
/-- The place of a string in a list. -/
def placeOf (ws : List (List UInt8)) (w : List UInt8) : Int := if twA (fun x => !bytesEq w x) ws < ws.length then (twA (fun x => !bytesEq w x) ws : Nat) else -1
theorem index_to (hK : K 192 = fun _ => none) {ws : List (List UInt8)} {b : Nat} {e : TypeId} {part : Bool} {cap : Option Nat} (hg : s.heap.get b = some (.cells (ws.map .str) e part)) (hn : ws.length < 1099511627776) (w : List UInt8) :
    CallTo (EK K) 192 [.slice b 0 ws.length 1 cap, .str w] s (.int .i64 (placeOf ws w)) := by
  have hle := twA_le (fun x => !bytesEq w x) ws
  refine CallTo.plain (fn := Tryz.f192) (by show K 192 _ = none; rw [hK]) (by kernel_rfl) rfl rfl rfl rfl rfl ?_
  refine EvtL.seqReg ?_
  refine RegL.q (OpQ.assign rfl rfl) rfl rfl rfl ?_
  refine RegL.done ?_
  refine EvtL.seq ?_
  refine EvtL.seqReg ?_
  refine RegL.q (OpQ.move rfl rfl) rfl rfl rfl ?_
  refine RegL.q (OpQ.lenSlM rfl rfl rfl rfl u_strings rfl) rfl rfl rfl ?_
  refine RegL.q (OpQ.move rfl rfl) rfl rfl rfl ?_
  refine RegL.done ?_
  refine EvtL.block ?_
  refine EvtL.loopI (fun i : Nat => ([(8, .int .i64 (i : Nat)), (7, .int .i64 (ws.length : Nat)), (0, .slice b 0 ws.length 1 cap), (1, .str w)], s.enter)) (fun i => ws.length - i) (fun i => i ≤ twA (fun x => !bytesEq w x) ws) 0 (Nat.zero_le _) rfl (by (refine sub_of ?_; repeat (first | exact trivial | refine ⟨rfl, ?_⟩))) fun i hi => ?_
  refine EvtL.seqReg ?_
  refine RegL.q (OpQ.int2 rfl u_int rfl rfl rfl rfl) rfl rfl rfl ?_
  refine RegL.done ?_
  refine EvtL.seq ?_
  refine EvtL.cond rfl (fun hc => ?_) (fun hc => ?_)
  · have hlt : i < ws.length := by have := of_decide_eq_true hc; omega
    have hx : ws[i]? = some ws[i] := List.getElem?_eq_getElem hlt
    have hst := twA_step hi hx
    refine EvtL.skip ?_
    refine EvtL.seq ?_
    refine EvtL.block ?_
    refine EvtL.seqReg ?_
    refine RegL.q (OpQ.move rfl rfl) rfl rfl rfl ?_
    refine RegL.q (OpQ.assign rfl rfl) rfl rfl rfl ?_
    refine RegL.done ?_
    refine EvtL.seqReg ?_
    refine RegL.q (OpQ.move rfl rfl) rfl rfl rfl ?_
    refine RegL.q (OpQ.move rfl rfl) rfl rfl rfl ?_
    refine RegL.q (OpQ.move rfl rfl) rfl rfl rfl ?_
    refine RegL.q (OpQ.indexAddrM rfl u_strings sz_string rfl rfl hlt) rfl rfl rfl ?_
    refine RegL.op (OpL.load rfl rfl (loadOne_at (v := .str ws[i]) agg_string sz_string hg (by rw [Nat.zero_add, Nat.zero_add, Nat.mul_one, List.getElem?_map, hx]; rfl))) rfl rfl rfl ?_
    refine RegL.q (OpQ.str2 rfl u_string rfl rfl rfl rfl) rfl rfl rfl ?_
    refine RegL.done ?_
    refine EvtL.cond rfl (fun hd => ?_) (fun hd => ?_)
    · have h1 : ¬ i < twA (fun x => !bytesEq w x) ws := fun h => by have := hst.2 h; rw [hd] at this; cases this
      have he : twA (fun x => !bytesEq w x) ws = i := by omega
      refine EvtL.seqReg ?_
      refine RegL.q (OpQ.move rfl rfl) rfl rfl rfl ?_
      refine RegL.q (OpQ.assign rfl rfl) rfl rfl rfl ?_
      refine RegL.done ?_
      refine EvtL.ret ?_; exact ⟨.inl rfl, rfl, rfl, by unfold placeOf; rw [he, if_pos hlt]; rfl⟩
    · have h1 := hst.1 (by rw [hd]; rfl)
      refine EvtL.skip ?_
      refine EvtL.reg ?_
      refine RegL.q (OpQ.addN (b := 1) rfl u_int rfl rfl (by first | omega | assumption)) rfl rfl rfl ?_
      refine RegL.q (OpQ.move rfl rfl) rfl rfl rfl ?_
      refine RegL.done ?_
      exact ⟨i + 1, h1, by omega, rfl, rfl, by (refine sub_of ?_; repeat (first | exact trivial | refine ⟨rfl, ?_⟩))⟩
  · have hge : ¬ i < ws.length := by have := of_decide_eq_false hc; omega
    refine EvtL.exit ?_
    refine cond_t rfl ?_
    refine EvtL.seqReg ?_
    refine RegL.q (OpQ.assign rfl rfl) rfl rfl rfl ?_
    refine RegL.done ?_
    refine EvtL.ret ?_; exact ⟨.inl rfl, rfl, rfl, by unfold placeOf; rw [if_neg (by omega)]; rfl⟩
theorem contains_to (hK : K 125 = fun _ => none) (hK1 : K 192 = fun _ => none) {ws : List (List UInt8)} {b : Nat} {e : TypeId} {part : Bool} {cap : Option Nat} (hg : s.heap.get b = some (.cells (ws.map .str) e part)) (hn : ws.length < 1099511627776) (w : List UInt8) :
    CallTo (EK K) 125 [.slice b 0 ws.length 1 cap, .str w] s (.bool (ws.any fun x => bytesEq w x)) := by
  refine CallTo.plain (fn := Tryz.f125) (by show K 125 _ = none; rw [hK]) (by kernel_rfl) rfl rfl rfl rfl rfl ?_
  refine EvtL.seqReg ?_
  refine RegL.q (OpQ.assign rfl rfl) rfl rfl rfl ?_
  refine RegL.done ?_
  refine EvtL.seqReg ?_
  refine RegL.q (OpQ.move rfl rfl) rfl rfl rfl ?_
  refine RegL.q (OpQ.move rfl rfl) rfl rfl rfl ?_
  refine RegL.op (OpL.callFn rfl rfl (by kernel_rfl) rfl (index_to hK1 (s := s.enter) hg hn w)) rfl rfl rfl ?_
  refine RegL.q (OpQ.int2 rfl u_int rfl rfl rfl rfl) rfl rfl rfl ?_
  refine RegL.q (OpQ.assign rfl rfl) rfl rfl rfl ?_
  refine RegL.done ?_
  refine EvtL.ret ⟨.inl rfl, rfl, rfl, ?_⟩
  refine bool_eq ?_
  show decide (placeOf ws w ≥ 0) = _
  rw [twA_any]
  unfold placeOf
  split
  · next h => rw [decide_eq_true h, decide_eq_true (by omega)]
  · next h => rw [decide_eq_false h]; rfl
theorem word_to (hK : K 124 = fun _ => none) (hK1 : K 125 = fun _ => none) (hK2 : K 192 = fun _ => none) (w : List UInt8) : CallTo (EK K) 124 [.str w] S0 (.bool (isWord w)) := by
  refine CallTo.plain (fn := Tryz.f124) (by show K 124 _ = none; rw [hK]) (by kernel_rfl) rfl rfl rfl rfl rfl ?_
  refine EvtL.seqReg ?_
  refine RegL.q (OpQ.assign rfl rfl) rfl rfl rfl ?_
  refine RegL.done ?_
  refine EvtL.seqReg ?_
  refine RegL.op (OpL.buildSlice rfl u_strings sz_string (z := .str []) (by kernel_rfl) rfl rfl (cs := wordL.map .str) rfl) rfl rfl rfl ?_
  refine RegL.q (OpQ.move rfl rfl) rfl rfl rfl ?_
  refine RegL.op (OpL.callFn rfl rfl (by kernel_rfl) rfl (contains_to (ws := wordL) hK1 hK2 rfl (by decide) w)) rfl rfl rfl ?_
  refine RegL.q (OpQ.assign rfl rfl) rfl rfl rfl ?_
  refine RegL.done ?_
  refine EvtL.ret ⟨.inl rfl, rfl, rfl, ?_⟩
  exact bool_eq (by unfold isWord wordL; simp only [List.any_cons, List.any_nil, Bool.or_false, Bool.or_assoc])
end
end Go.Proofs.YtmgijfdekpfecaaGreatDoor

/- The specification's signs. -/
open Go Am
namespace Go.Proofs.YtmgijfdekpfecaaGreatDoor
/-- The specification's signs. -/
def rsignL : List (List UInt8) := [[61, 58, 61], [61, 61], [45, 62], [61], [59], [124], [40], [41], [44], [60], [43], [45], [63], [38], [64]]
/-- How long the first string is that is so. -/
def firstLen (p : List UInt8 → Bool) (l : List (List UInt8)) : Nat := match l.find? p with
  | some x => x.length
  | none => 0
theorem find_twA {α : Type} {p : α → Bool} : ∀ {l : List α}, l.find? p = l[twA (fun x => !p x) l]?
  | [] => rfl
  | b :: l => by
    cases hp : p b with
    | true => simp [twA, List.takeWhile, hp]
    | false =>
      have ih := find_twA (p := p) (l := l)
      simp only [List.find?, hp, twA, List.takeWhile, Bool.not_false, List.length_cons, List.getElem?_cons_succ]
      exact ih
section
variable {K : FuncId → List AV → Option AV}
theorem sign_to (hK : K 66 = fun _ => none) (w : List UInt8) (hw : w.length < 1099511627776) (k : Nat) (hkw : k ≤ w.length) :
    CallTo (EK K) 66 [.str w, .int .i64 (k : Nat)] S0 (.int .i64 (firstLen (fun x => hasPre (w.drop k) x) rsignL : Nat)) := by
  have hle := twA_le (fun x => !hasPre (w.drop k) x) rsignL
  have hld : (w.drop k).length = w.length - k := List.length_drop
  refine CallTo.plain (fn := Tryz.f66) (by show K 66 _ = none; rw [hK]) (by kernel_rfl) rfl rfl rfl rfl rfl ?_
  refine EvtL.seqReg ?_
  refine RegL.q (OpQ.assign rfl rfl) rfl rfl rfl ?_
  refine RegL.done ?_
  refine EvtL.seqReg ?_
  refine RegL.op (OpL.buildSlice rfl u_strings sz_string (z := .str []) (by kernel_rfl) rfl rfl (cs := rsignL.map .str) rfl) rfl rfl rfl ?_
  refine RegL.q (OpQ.assign rfl rfl) rfl rfl rfl ?_
  refine RegL.done ?_
  refine EvtL.seq ?_
  refine EvtL.seqReg ?_
  refine RegL.q (OpQ.assign rfl rfl) rfl rfl rfl ?_
  refine RegL.done ?_
  refine EvtL.block ?_
  refine EvtL.loopI (fun i : Nat => ([(6, .int .i64 (i : Nat)), (5, .slice 0 0 15 1 (some 15)), (0, .str w), (1, .int .i64 (k : Nat))], S0.enter.alloc (.cells (rsignL.map .str) 9 false))) (fun i => 15 - i) (fun i => i ≤ twA (fun x => !hasPre (w.drop k) x) rsignL) 0 (Nat.zero_le _) rfl (by (refine sub_of ?_; repeat (first | exact trivial | refine ⟨rfl, ?_⟩))) fun i hi => ?_
  refine EvtL.seq ?_
  refine EvtL.seqReg ?_
  refine RegL.q (OpQ.move rfl rfl) rfl rfl rfl ?_
  refine RegL.q (OpQ.move rfl rfl) rfl rfl rfl ?_
  refine RegL.q (OpQ.lenSlM rfl rfl rfl rfl u_strings rfl) rfl rfl rfl ?_
  refine RegL.q (OpQ.int2 rfl u_int rfl rfl rfl rfl) rfl rfl rfl ?_
  refine RegL.done ?_
  refine EvtL.cond rfl (fun hc => ?_) (fun hc => ?_)
  · have hlt : i < 15 := by have := of_decide_eq_true hc; omega
    have hx : rsignL[i]? = some rsignL[i] := List.getElem?_eq_getElem hlt
    have hst := twA_step hi hx
    have hcell : (rsignL.map AV.str)[0 + i * (0 + 1)]? = some (.str rsignL[i]) := by rw [Nat.zero_add, Nat.zero_add, Nat.mul_one, List.getElem?_map, hx]; rfl
    have hxl : rsignL[i].length ≤ 3 := by
      have : ∀ x ∈ rsignL, x.length ≤ 3 := by decide
      exact this _ (List.getElem_mem _)
    refine EvtL.skip ?_
    refine EvtL.seq ?_
    refine EvtL.block ?_
    refine EvtL.seqDraw (by kernel_rfl) ?_
    refine RegD.q (OpQ.move rfl rfl) rfl rfl rfl ?_
    refine RegD.q (OpQ.move rfl rfl) rfl rfl rfl ?_
    refine RegD.q (OpQ.move rfl rfl) rfl rfl rfl ?_
    refine RegD.q (OpQ.indexAddrM rfl u_strings sz_string rfl rfl hlt) rfl rfl rfl ?_
    refine RegD.load rfl rfl rfl (loadOne_at agg_string sz_string rfl hcell) (.inl rfl) rfl rfl ?_
    refine RegD.q (OpQ.lenStr rfl rfl rfl rfl u_string rfl) rfl rfl rfl ?_
    refine RegD.q (OpQ.addN rfl u_int rfl rfl (by first | omega | assumption)) rfl rfl rfl ?_
    refine RegD.q (OpQ.move rfl rfl) rfl rfl rfl ?_
    refine RegD.q (OpQ.lenStr rfl rfl rfl rfl u_string rfl) rfl rfl rfl ?_
    refine RegD.q (OpQ.int2 rfl u_int rfl rfl rfl rfl) rfl rfl rfl ?_
    refine RegD.q (OpQ.move rfl rfl) rfl rfl rfl ?_
    refine RegD.both rfl rfl rfl rfl (fun g => ?_) (fun g => ?_)
    · have hg : k + rsignL[i].length ≤ w.length := by have := of_decide_eq_true g; omega
      refine RegD.qGo rfl rfl rfl rfl (by assumption) (OpQ.move rfl rfl) rfl rfl ?_
      refine RegD.qGo rfl rfl rfl rfl (by assumption) (OpQ.move rfl rfl) rfl rfl ?_
      refine RegD.qGo rfl rfl rfl rfl (by assumption) (OpQ.move rfl rfl) rfl rfl ?_
      refine RegD.qGo rfl rfl rfl rfl (by assumption) (OpQ.move rfl rfl) rfl rfl ?_
      refine RegD.qGo rfl rfl rfl rfl (by assumption) (OpQ.move rfl rfl) rfl rfl ?_
      refine RegD.qGo rfl rfl rfl rfl g (OpQ.indexAddrM rfl u_strings sz_string rfl rfl hlt) rfl rfl ?_
      refine RegD.load rfl rfl rfl (loadOne_at agg_string sz_string rfl hcell) (guardOn_go rfl rfl rfl rfl g) rfl rfl ?_
      refine RegD.qGo rfl rfl rfl rfl (by assumption) (OpQ.lenStr rfl rfl rfl rfl u_string rfl) rfl rfl ?_
      refine RegD.qGo rfl rfl rfl rfl (by assumption) (OpQ.addN rfl u_int rfl rfl (by first | omega | assumption)) rfl rfl ?_
      refine RegD.qGo rfl rfl rfl rfl g (OpQ.sliceStr rfl u_string rfl rfl rfl (bounds_some hg) (bounds_some (by omega)) ⟨by omega, hg⟩) rfl rfl ?_
      refine RegD.qGo rfl rfl rfl rfl (by assumption) (OpQ.move rfl rfl) rfl rfl ?_
      refine RegD.qGo rfl rfl rfl rfl (by assumption) (OpQ.move rfl rfl) rfl rfl ?_
      refine RegD.qGo rfl rfl rfl rfl g (OpQ.indexAddrM rfl u_strings sz_string rfl rfl hlt) rfl rfl ?_
      refine RegD.load rfl rfl rfl (loadOne_at agg_string sz_string rfl hcell) (guardOn_go rfl rfl rfl rfl g) rfl rfl ?_
      refine RegD.qGo rfl rfl rfl rfl (by assumption) (OpQ.str2 rfl u_string rfl rfl rfl rfl) rfl rfl ?_
      refine RegD.q (OpQ.pickT rfl rfl (by assumption) rfl) rfl rfl rfl ?_
      refine RegD.done ?_
      have hpre : bytesEq ((w.drop k).take (k + rsignL[i].length - k)) rsignL[i] = hasPre (w.drop k) rsignL[i] := by
        unfold hasPre
        rw [decide_eq_true (by omega), Nat.add_sub_cancel_left]; rfl
      refine EvtL.cond rfl (fun hd => ?_) (fun hd => ?_)
      · have h1 : ¬ i < twA (fun x => !hasPre (w.drop k) x) rsignL := fun h => by
          have := hst.2 h
          rw [hpre] at hd
          rw [hd] at this; cases this
        have he : twA (fun x => !hasPre (w.drop k) x) rsignL = i := by omega
        refine EvtL.seqReg ?_
        refine RegL.q (OpQ.move rfl rfl) rfl rfl rfl ?_
        refine RegL.q (OpQ.move rfl rfl) rfl rfl rfl ?_
        refine RegL.q (OpQ.indexAddrM rfl u_strings sz_string rfl rfl hlt) rfl rfl rfl ?_
        refine RegL.op (OpL.load rfl rfl (loadOne_at (v := .str rsignL[i]) agg_string sz_string rfl hcell)) rfl rfl rfl ?_
        refine RegL.q (OpQ.lenStr rfl rfl rfl rfl u_string rfl) rfl rfl rfl ?_
        refine RegL.q (OpQ.assign rfl rfl) rfl rfl rfl ?_
        refine RegL.done ?_
        refine EvtL.ret ?_; exact ⟨.inl rfl, rfl, rfl, by unfold firstLen; rw [find_twA, he, hx]; rfl⟩
      · have h1 := hst.1 (by rw [← hpre, hd]; rfl)
        refine EvtL.skip ?_
        refine EvtL.reg ?_
        refine RegL.q (OpQ.move rfl rfl) rfl rfl rfl ?_
        refine RegL.q (OpQ.addN (b := 1) rfl u_int rfl rfl (by first | omega | assumption)) rfl rfl rfl ?_
        refine RegL.q (OpQ.assign rfl rfl) rfl rfl rfl ?_
        refine RegL.done ?_
        exact ⟨i + 1, h1, by omega, rfl, rfl, by (refine sub_of ?_; repeat (first | exact trivial | refine ⟨rfl, ?_⟩))⟩
    · have hg : ¬ k + rsignL[i].length ≤ w.length := by have := of_decide_eq_false g; omega
      refine RegD.skip rfl rfl rfl rfl (by assumption) rfl rfl ?_
      refine RegD.skip rfl rfl rfl rfl (by assumption) rfl rfl ?_
      refine RegD.skip rfl rfl rfl rfl (by assumption) rfl rfl ?_
      refine RegD.skip rfl rfl rfl rfl (by assumption) rfl rfl ?_
      refine RegD.skip rfl rfl rfl rfl (by assumption) rfl rfl ?_
      refine RegD.skip rfl rfl rfl rfl (by assumption) rfl rfl ?_
      refine RegD.skip rfl rfl rfl rfl (by assumption) rfl rfl ?_
      refine RegD.skip rfl rfl rfl rfl (by assumption) rfl rfl ?_
      refine RegD.skip rfl rfl rfl rfl (by assumption) rfl rfl ?_
      refine RegD.skip rfl rfl rfl rfl (by assumption) rfl rfl ?_
      refine RegD.skip rfl rfl rfl rfl (by assumption) rfl rfl ?_
      refine RegD.skip rfl rfl rfl rfl (by assumption) rfl rfl ?_
      refine RegD.skip rfl rfl rfl rfl (by assumption) rfl rfl ?_
      refine RegD.skip rfl rfl rfl rfl (by assumption) rfl rfl ?_
      refine RegD.skip rfl rfl rfl rfl (by assumption) rfl rfl ?_
      refine RegD.q (OpQ.pickF rfl rfl (by assumption) rfl) rfl rfl rfl ?_
      refine RegD.done ?_
      refine EvtL.cond rfl (fun hd => by cases hd) (fun _ => ?_)
      have h1 := hst.1 (by unfold hasPre; rw [decide_eq_false (by omega)]; rfl)
      refine EvtL.skip ?_
      refine EvtL.reg ?_
      refine RegL.q (OpQ.move rfl rfl) rfl rfl rfl ?_
      refine RegL.q (OpQ.addN (b := 1) rfl u_int rfl rfl (by first | omega | assumption)) rfl rfl rfl ?_
      refine RegL.q (OpQ.assign rfl rfl) rfl rfl rfl ?_
      refine RegL.done ?_
      exact ⟨i + 1, h1, by omega, rfl, rfl, by (refine sub_of ?_; repeat (first | exact trivial | refine ⟨rfl, ?_⟩))⟩
  · have hge : ¬ i < 15 := by have := of_decide_eq_false hc; omega
    have hl15 : rsignL.length = 15 := rfl
    have he : twA (fun x => !hasPre (w.drop k) x) rsignL = 15 := by omega
    refine EvtL.exit ?_
    refine cond_t rfl ?_
    refine EvtL.seqReg ?_
    refine RegL.q (OpQ.assign rfl rfl) rfl rfl rfl ?_
    refine RegL.done ?_
    refine EvtL.ret ?_; exact ⟨.inl rfl, rfl, rfl, by unfold firstLen; rw [find_twA, he]; rfl⟩
end
end Go.Proofs.YtmgijfdekpfecaaGreatDoor

/- What is known of the smaller functions. -/
open Go Am
namespace Go.Proofs.YtmgijfdekpfecaaGreatDoor
/-- The signs of the package. -/
def signL : List (List UInt8) := [[61, 58, 61], [61, 61], [45, 62], [59], [61], [124], [40], [41], [44], [60], [43], [45], [63], [38], [64]]
section
variable {K : FuncId → List AV → Option AV}
theorem signs_to (hK : K 134 = fun _ => none) : CallTo (EK K) 134 [] S0 (.islice (signL.map .str) 15 1 true) := by
  refine CallTo.gen (fn := Tryz.f134) (by show K 134 _ = none; rw [hK]) (by kernel_rfl) rfl rfl rfl rfl ?_
  refine EvtL.seqReg ?_
  refine RegL.q (OpQ.assign rfl rfl) rfl rfl rfl ?_
  refine RegL.done ?_
  refine EvtL.seqReg ?_
  refine RegL.op (OpL.buildSlice rfl u_strings sz_string (z := .str []) (by kernel_rfl) rfl rfl (cs := signL.map .str) rfl) rfl rfl rfl ?_
  refine RegL.q (OpQ.assign rfl rfl) rfl rfl rfl ?_
  refine RegL.done ?_
  refine EvtL.ret ?_
  exact ⟨.inl rfl, _, rfl, [.slice 0 0 15 1 (some 15)], rfl, by kernel_rfl⟩
end
abbrev Big : Nat := 1099511627776
/-- What the smaller functions hand back. -/
def spec2 (f : FuncId) (args : List AV) : Option AV := match f with
  | 126 => match args with
    | [.str w, .func (.func g) [] []] => if w.length < Big then (byteFn g).map fun p => .int .i64 (tw p w : Nat) else none
    | _ => none
  | 62 => match args with
    | [.str w, .int .i64 (.ofNat k)] => if w.length < Big ∧ k ≤ w.length then some (.int .i64 (tw (isIn 97 122) (w.drop k) : Nat)) else none
    | _ => none
  | 65 => match args with
    | [.str w, .int .i64 (.ofNat k)] => if w.length < Big ∧ k ≤ w.length then some (.int .i64 (tw (isIn 48 57) (w.drop k) : Nat)) else none
    | _ => none
  | 24 => match args with
    | [.str w, .int .i64 (.ofNat k)] => if w.length < Big ∧ k ≤ w.length then some (.int .i64 ((1 + ends (w.take k) : Nat) : Int)) else none
    | _ => none
  | 66 => match args with
    | [.str w, .int .i64 (.ofNat k)] => if w.length < Big ∧ k ≤ w.length then some (.int .i64 (firstLen (fun x => hasPre (w.drop k) x) rsignL : Nat)) else none
    | _ => none
  | 63 => match args with
    | [.str w] => some (.bool (isWord w))
    | _ => none
  | 124 => match args with
    | [.str w] => some (.bool (isWord w))
    | _ => none
  | 128 => match args with
    | [.str a, .str p] => some (.bool (hasPre a p))
    | _ => none
  | 60 => match args with
    | [.str w, .str [10]] => some (.int .i64 (ends w : Nat))
    | _ => none
  | 134 => match args with
    | [] => some (.islice (signL.map .str) 15 1 true)
    | _ => none
  | _ => none
/-- The functions that these proofs step through. -/
def own2 : List FuncId := [126, 62, 65, 24, 66, 63, 124, 128, 193, 60, 134, 125, 192]
/-- A layer of known calls above another. -/
def over (spec K : FuncId → List AV → Option AV) (f : FuncId) (args : List AV) : Option AV := match spec f args with
  | some v => some v
  | none => K f args
theorem over_known {P : Program} {spec K : FuncId → List AV → Option AV} (hK : KnownAll P K) (h : ∀ f args v, spec f args = some v → KnownF P f args v) : KnownAll P (over spec K) := by
  intro f args v hv
  unfold over at hv
  split at hv
  · next _ u hu => cases hv; exact h f args _ hu
  · exact hK f args v hv
theorem known2 {K : FuncId → List AV → Option AV} (hp : ProgOk Tryz.prog 500 500) (hK : KnownAll Tryz.prog K) (hB : Bytes K) (h0 : ∀ f ∈ own2, K f = fun _ => none) : KnownAll Tryz.prog (over spec2 K) := by
  refine over_known hK fun f args v h => ?_
  unfold spec2 at h
  split at h
  · split at h
    · split at h
      · next hw =>
        obtain ⟨p, hg, hv⟩ := Option.map_eq_some_iff.1 h
        cases hv
        exact known_of hp hK (row_to (h0 _ (by decide)) hB hg _ hw) rfl rfl
      · cases h
    · cases h
  · split at h
    · split at h
      · next hw => cases h; exact known_of hp hK (smalls_to (h0 _ (by decide)) hB _ hw.1 _ hw.2) rfl rfl
      · cases h
    · cases h
  · split at h
    · split at h
      · next hw => cases h; exact known_of hp hK (digits_to (h0 _ (by decide)) hB _ hw.1 _ hw.2) rfl rfl
      · cases h
    · cases h
  · split at h
    · split at h
      · next hw => cases h; exact known_of hp hK (line_to (h0 _ (by decide)) _ hw.1 _ hw.2) rfl rfl
      · cases h
    · cases h
  · split at h
    · split at h
      · next hw => cases h; exact known_of hp hK (sign_to (h0 _ (by decide)) _ hw.1 _ hw.2) rfl rfl
      · cases h
    · cases h
  · split at h
    · cases h; exact known_of hp hK (rword_to (h0 _ (by decide)) _) rfl rfl
    · cases h
  · split at h
    · cases h; exact known_of hp hK (word_to (h0 _ (by decide)) (h0 _ (by decide)) (h0 _ (by decide)) _) rfl rfl
    · cases h
  · split at h
    · cases h; exact known_of hp hK (pre_to (h0 _ (by decide)) (h0 _ (by decide)) _ _) rfl rfl
    · cases h
  · split at h
    · cases h; exact known_of hp hK (count_to (h0 _ (by decide)) _) rfl rfl
    · cases h
  · split at h
    · cases h; exact known_of hp hK (signs_to (h0 _ (by decide))) rfl rfl
    · cases h
  · cases h
/-- What the proofs use of it. -/
structure Two (K : FuncId → List AV → Option AV) : Prop where
  bytes : Bytes K
  row : ∀ {g p}, byteFn g = some p → ∀ w : List UInt8, w.length < Big → K 126 [.str w, .func (.func g) [] []] = some (.int .i64 (tw p w : Nat))
  smalls : ∀ (w : List UInt8) (k : Nat), w.length < Big → k ≤ w.length → K 62 [.str w, .int .i64 (k : Nat)] = some (.int .i64 (tw (isIn 97 122) (w.drop k) : Nat))
  digits : ∀ (w : List UInt8) (k : Nat), w.length < Big → k ≤ w.length → K 65 [.str w, .int .i64 (k : Nat)] = some (.int .i64 (tw (isIn 48 57) (w.drop k) : Nat))
  line : ∀ (w : List UInt8) (k : Nat), w.length < Big → k ≤ w.length → K 24 [.str w, .int .i64 (k : Nat)] = some (.int .i64 ((1 + ends (w.take k) : Nat) : Int))
  sign : ∀ (w : List UInt8) (k : Nat), w.length < Big → k ≤ w.length → K 66 [.str w, .int .i64 (k : Nat)] = some (.int .i64 (firstLen (fun x => hasPre (w.drop k) x) rsignL : Nat))
  rword : ∀ w : List UInt8, K 63 [.str w] = some (.bool (isWord w))
  word : ∀ w : List UInt8, K 124 [.str w] = some (.bool (isWord w))
  pre : ∀ a p : List UInt8, K 128 [.str a, .str p] = some (.bool (hasPre a p))
  count : ∀ w : List UInt8, K 60 [.str w, .str [10]] = some (.int .i64 (ends w : Nat))
  signs : K 134 [] = some (.islice (signL.map .str) 15 1 true)
theorem over_bytes {K : FuncId → List AV → Option AV} {spec : FuncId → List AV → Option AV} (hB : Bytes K) (h : ∀ g, (byteFn g).isSome = true → ∀ args, spec g args = none) : Bytes (over spec K) := fun g p hg => ⟨(hB g p hg).1, fun n => by
  unfold over
  rw [h g (by rw [hg]; rfl)]
  exact (hB g p hg).2 n⟩
theorem spec2_bytes : ∀ g, (byteFn g).isSome = true → ∀ args, spec2 g args = none := by
  intro g hg args
  unfold byteFn at hg
  split at hg <;> first | rfl | cases hg
theorem two_of {K : FuncId → List AV → Option AV} (hB : Bytes K) : Two (over spec2 K) where
  bytes := over_bytes hB spec2_bytes
  row hg w hw := by unfold over; simp only [spec2, if_pos hw, hg, Option.map_some]
  smalls w k hw hk := by unfold over; simp only [spec2]; rw [show ((k : Nat) : Int) = Int.ofNat k from rfl]; simp only [if_pos (And.intro hw hk)]
  digits w k hw hk := by unfold over; simp only [spec2]; rw [show ((k : Nat) : Int) = Int.ofNat k from rfl]; simp only [if_pos (And.intro hw hk)]
  line w k hw hk := by unfold over; simp only [spec2]; rw [show ((k : Nat) : Int) = Int.ofNat k from rfl]; simp only [if_pos (And.intro hw hk)]
  sign w k hw hk := by unfold over; simp only [spec2]; rw [show ((k : Nat) : Int) = Int.ofNat k from rfl]; simp only [if_pos (And.intro hw hk)]
  rword _ := rfl
  word _ := rfl
  pre _ _ := rfl
  count _ := rfl
  signs := rfl
end Go.Proofs.YtmgijfdekpfecaaGreatDoor

/- Blanks. -/
open Go Am
namespace Go.Proofs.YtmgijfdekpfecaaGreatDoor
def isHash (n : Int) : Bool := decide (n = 35)
/-- How many bytes of blanks there are; true: within a remark. -/
def blk : Bool → List UInt8 → Nat
  | _, [] => 0
  | false, c :: l => bif isBlank c.toNat then blk false l + 1 else bif isHash c.toNat then blk true l + 1 else 0
  | true, c :: l => bif notLine c.toNat then blk true l + 1 else blk false l + 1
theorem blk_le : ∀ (b : Bool) (l : List UInt8), blk b l ≤ l.length
  | b, [] => by cases b <;> exact Nat.le_refl _
  | false, c :: l => by
    have h1 := blk_le false l
    have h2 := blk_le true l
    unfold blk
    simp only [List.length_cons]
    cases isBlank c.toNat <;> cases isHash c.toNat <;> simp only [cond_true, cond_false] <;> omega
  | true, c :: l => by
    have h1 := blk_le false l
    have h2 := blk_le true l
    unfold blk
    simp only [List.length_cons]
    cases notLine c.toNat <;> simp only [cond_true, cond_false] <;> omega
theorem tw_cons_true {p : Int → Bool} {c : UInt8} {l : List UInt8} (h : p c.toNat = true) : tw p (c :: l) = tw p l + 1 := by simp [tw, List.takeWhile, h]
theorem tw_cons_false {p : Int → Bool} {c : UInt8} {l : List UInt8} (h : p c.toNat = false) : tw p (c :: l) = 0 := by simp [tw, List.takeWhile, h]
theorem blk_blank : ∀ l : List UInt8, blk false l = tw isBlank l + blk false (l.drop (tw isBlank l))
  | [] => rfl
  | c :: l => by
    cases h : isBlank c.toNat with
    | true =>
      rw [tw_cons_true h, List.drop_succ_cons]
      have := blk_blank l
      conv => lhs; unfold blk
      rw [h, cond_true, this]; omega
    | false => rw [tw_cons_false h, List.drop_zero, Nat.zero_add]
theorem blk_line : ∀ l : List UInt8, blk true l = tw notLine l + blk false (l.drop (tw notLine l))
  | [] => rfl
  | c :: l => by
    cases h : notLine c.toNat with
    | true =>
      rw [tw_cons_true h, List.drop_succ_cons]
      have := blk_line l
      conv => lhs; unfold blk
      rw [h, cond_true, this]; omega
    | false =>
      have hb : isBlank c.toNat = true := by
        have : isLine c.toNat = true := by unfold notLine at h; unfold isLine; revert h; cases decide ((c.toNat : Int) = 10) <;> intro h <;> first | rfl | cases h
        unfold isBlank; unfold isLine at this; rw [this, Bool.or_true]
      rw [tw_cons_false h, List.drop_zero, Nat.zero_add]
      conv => lhs; unfold blk
      conv => rhs; unfold blk
      rw [h, hb]; rfl
theorem hash_notLine {n : Int} (h : isHash n = true) : notLine n = true ∧ isBlank n = false := by
  have := of_decide_eq_true h
  subst this
  exact ⟨rfl, rfl⟩
theorem pre_hash (c : UInt8) (l : List UInt8) : hasPre (c :: l) [35] = isHash c.toNat := by
  unfold hasPre isHash
  have h1 : decide (([35] : List UInt8).length ≤ (c :: l).length) = true := decide_eq_true (by simp)
  rw [h1, Bool.true_and]
  have h2 : (c :: l).take ([35] : List UInt8).length = [c] := rfl
  rw [h2]
  show (bif Nat.beq c.toNat 35 then true else false) = _
  cases hb : Nat.beq c.toNat 35 with
  | true =>
    have := Nat.eq_of_beq_eq_true hb
    rw [decide_eq_true (by omega)]; rfl
  | false =>
    have := Nat.ne_of_beq_eq_false hb
    rw [decide_eq_false (by omega)]; rfl
theorem blk_hash : ∀ {l : List UInt8}, hasPre l [35] = true → blk false l = tw notLine l + blk false (l.drop (tw notLine l))
  | [], h => by cases h
  | c :: l, h => by
    rw [pre_hash] at h
    have hn := hash_notLine h
    rw [tw_cons_true hn.1, List.drop_succ_cons]
    have := blk_line l
    conv => lhs; unfold blk
    rw [hn.2, h, cond_false, cond_true, this]; omega
theorem blk_stop (l : List UInt8) (h : hasPre (l.drop (tw isBlank l)) [35] = false) : blk false (l.drop (tw isBlank l)) = 0 := by
  cases hd : l.drop (tw isBlank l) with
  | nil => rfl
  | cons c r =>
    rw [hd, pre_hash] at h
    have hlt : tw isBlank l < l.length := by
      have := congrArg List.length hd
      rw [List.length_drop, List.length_cons] at this
      omega
    have hst := tw_step (p := isBlank) (Nat.le_refl _) hlt
    have hc : l.getD (tw isBlank l) 0 = c := by
      rw [List.getD_eq_getElem?_getD, ← Nat.add_zero (tw isBlank l), ← List.getElem?_drop, hd]; rfl
    rw [hc] at hst
    have hb : isBlank c.toNat = false := by
      cases hb : isBlank c.toNat with
      | true => exact absurd (hst.1 hb) (Nat.lt_irrefl _)
      | false => rfl
    unfold blk
    rw [hb, h]; rfl
theorem drop_cons {w : List UInt8} {a : Nat} (h : a < w.length) : w.drop a = w.getD a 0 :: w.drop (a + 1) := by
  rw [List.drop_eq_getElem_cons h, List.getD_eq_getElem?_getD, List.getElem?_eq_getElem h]; rfl
theorem drop_tw (p : Int → Bool) (w : List UInt8) (a : Nat) : (w.drop a).drop (tw p (w.drop a)) = w.drop (a + tw p (w.drop a)) := by rw [List.drop_drop]
section
variable {K : FuncId → List AV → Option AV} {s : St}
theorem blank_to (hK : K 58 = fun _ => none) (h2 : Two K) (w : List UInt8) (hw : w.length < Big) :
    CallTo (EK K) 58 [.str w] s (.int .i64 (blk false w : Nat)) := by
  have hw' : w.length < 1099511627776 := hw
  refine CallTo.plain (fn := Tryz.f58) (by show K 58 _ = none; rw [hK]) (by kernel_rfl) rfl rfl rfl rfl rfl ?_
  refine EvtL.seqReg ?_
  refine RegL.q (OpQ.assign rfl rfl) rfl rfl rfl ?_
  refine RegL.done ?_
  refine EvtL.seqReg ?_
  refine RegL.q (OpQ.assign rfl rfl) rfl rfl rfl ?_
  refine RegL.done ?_
  refine EvtL.block ?_
  refine EvtL.loopI (fun n : Nat => ([(3, .int .i64 (n : Nat)), (0, .str w)], s.enter)) (fun n => w.length - n) (fun n => n ≤ w.length ∧ n + blk false (w.drop n) = blk false w) 0 ⟨Nat.zero_le _, by rw [List.drop_zero]; omega⟩ rfl (by (refine sub_of ?_; repeat (first | exact trivial | refine ⟨rfl, ?_⟩))) fun n hn => ?_
  obtain ⟨hn, hT⟩ := hn
  have hl1 : (w.drop n).length = w.length - n := List.length_drop
  have ht1 := tw_le isBlank (w.drop n)
  have hb1 := blk_blank (w.drop n)
  have hn1 : n + tw isBlank (w.drop n) ≤ w.length := by omega
  refine EvtL.block ?_
  refine EvtL.seqReg ?_
  refine RegL.q (OpQ.move rfl rfl) rfl rfl rfl ?_
  refine RegL.q (OpQ.move rfl rfl) rfl rfl rfl ?_
  refine RegL.q (OpQ.move rfl rfl) rfl rfl rfl ?_
  refine RegL.q (OpQ.sliceStr rfl u_string rfl rfl rfl bounds_none (bounds_some hn) ⟨hn, Nat.le_refl _⟩) rfl rfl rfl ?_
  have hsl : ∀ m, (w.drop m).take (w.length - m) = w.drop m := fun m => List.take_of_length_le (by rw [List.length_drop]; exact Nat.le_refl _)
  rw [hsl]
  refine RegL.op (OpL.callFn rfl rfl (by kernel_rfl) rfl (CallTo.memo (h2.row (g := 127) (p := isBlank) rfl _ (by omega)))) rfl rfl rfl ?_
  refine RegL.q (OpQ.addN rfl u_int rfl rfl (by first | omega | assumption)) rfl rfl rfl ?_
  refine RegL.q (OpQ.assign rfl rfl) rfl rfl rfl ?_
  refine RegL.done ?_
  refine EvtL.seq ?_
  refine EvtL.seqReg ?_
  refine RegL.q (OpQ.move rfl rfl) rfl rfl rfl ?_
  refine RegL.q (OpQ.move rfl rfl) rfl rfl rfl ?_
  refine RegL.q (OpQ.sliceStr rfl u_string rfl rfl rfl bounds_none (bounds_some hn1) ⟨hn1, Nat.le_refl _⟩) rfl rfl rfl ?_
  rw [hsl]
  refine RegL.op (OpL.callFn rfl rfl (by kernel_rfl) rfl (CallTo.memo (h2.pre (w.drop (n + tw isBlank (w.drop n))) [35]))) rfl rfl rfl ?_
  refine RegL.q (OpQ.not rfl rfl) rfl rfl rfl ?_
  refine RegL.done ?_
  have e1 := drop_tw isBlank w n
  generalize hn1e : n + tw isBlank (w.drop n) = n1 at *
  rw [e1] at hb1
  refine EvtL.cond rfl (fun hc => ?_) (fun hc => ?_)
  · have hpre : hasPre (w.drop n1) [35] = false := by revert hc; cases hasPre (w.drop n1) [35] <;> intro hc <;> first | rfl | cases hc
    have h0 := blk_stop (w.drop n) (by rw [e1]; exact hpre)
    rw [e1] at h0
    have he : n1 = blk false w := by omega
    refine EvtL.seqReg ?_
    refine RegL.q (OpQ.move rfl rfl) rfl rfl rfl ?_
    refine RegL.q (OpQ.assign rfl rfl) rfl rfl rfl ?_
    refine RegL.done ?_
    refine EvtL.ret ?_
    exact ⟨.inl rfl, rfl, rfl, by rw [← he]; rfl⟩
  · have hpre : hasPre (w.drop n1) [35] = true := by revert hc; cases hasPre (w.drop n1) [35] <;> intro hc <;> first | rfl | cases hc
    have hb2 := blk_hash hpre
    have e2 := drop_tw notLine w n1
    rw [e2] at hb2
    have hl2 : (w.drop n1).length = w.length - n1 := List.length_drop
    have ht2 := tw_le notLine (w.drop n1)
    have hpos : 0 < tw notLine (w.drop n1) := by
      have hlt : n1 < w.length := by
        rcases Nat.lt_or_ge n1 w.length with h | h
        · exact h
        · rw [List.drop_eq_nil_of_le h] at hpre; cases hpre
      rw [drop_cons hlt, pre_hash] at hpre
      rw [drop_cons hlt, tw_cons_true (hash_notLine hpre).1]
      omega
    refine EvtL.skip ?_
    refine EvtL.reg ?_
    refine RegL.q (OpQ.move rfl rfl) rfl rfl rfl ?_
    refine RegL.q (OpQ.move rfl rfl) rfl rfl rfl ?_
    refine RegL.q (OpQ.move rfl rfl) rfl rfl rfl ?_
    refine RegL.q (OpQ.sliceStr rfl u_string rfl rfl rfl bounds_none (bounds_some hn1) ⟨hn1, Nat.le_refl _⟩) rfl rfl rfl ?_
    rw [hsl]
    refine RegL.op (OpL.callFn rfl rfl (by kernel_rfl) rfl (CallTo.memo (h2.row (g := 129) (p := notLine) rfl _ (by omega)))) rfl rfl rfl ?_
    refine RegL.q (OpQ.addN rfl u_int rfl rfl (by first | omega | assumption)) rfl rfl rfl ?_
    refine RegL.q (OpQ.assign rfl rfl) rfl rfl rfl ?_
    refine RegL.done ?_
    exact ⟨n1 + tw notLine (w.drop n1), ⟨by omega, by omega⟩, by omega, rfl, rfl, by (refine sub_of ?_; repeat (first | exact trivial | refine ⟨rfl, ?_⟩))⟩
theorem rblank_to (hK : K 22 = fun _ => none) (w : List UInt8) (hw : w.length < Big) (k : Nat) (hk : k ≤ w.length) :
    CallTo (EK K) 22 [.str w, .int .i64 (k : Nat)] s (.int .i64 ((k + blk false (w.drop k) : Nat) : Int)) := by
  have hw' : w.length < 1099511627776 := hw
  refine CallTo.plain (fn := Tryz.f22) (by show K 22 _ = none; rw [hK]) (by kernel_rfl) rfl rfl rfl rfl rfl ?_
  refine EvtL.seqReg ?_
  refine RegL.q (OpQ.assign rfl rfl) rfl rfl rfl ?_
  refine RegL.done ?_
  refine EvtL.seq ?_
  refine EvtL.block ?_
  refine EvtL.loopI (fun a : Nat => ([(1, .int .i64 (a : Nat)), (0, .str w)], s.enter)) (fun a => w.length - a) (fun a => a ≤ w.length ∧ a + blk false (w.drop a) = k + blk false (w.drop k)) k ⟨hk, rfl⟩ rfl (by (refine sub_of ?_; repeat (first | exact trivial | refine ⟨rfl, ?_⟩))) fun a ha => ?_
  obtain ⟨ha, hT⟩ := ha
  refine EvtL.seq ?_
  refine EvtL.seqReg ?_
  refine RegL.q (OpQ.move rfl rfl) rfl rfl rfl ?_
  refine RegL.q (OpQ.move rfl rfl) rfl rfl rfl ?_
  refine RegL.q (OpQ.lenStr rfl rfl rfl rfl u_string rfl) rfl rfl rfl ?_
  refine RegL.q (OpQ.int2 rfl u_int rfl rfl rfl rfl) rfl rfl rfl ?_
  refine RegL.q (OpQ.move rfl rfl) rfl rfl rfl ?_
  refine RegL.both rfl rfl rfl rfl (fun g => ?_) (fun g => ?_)
  · have hlt : a < w.length := by have := of_decide_eq_true g; omega
    have hd := drop_cons hlt
    refine RegL.go rfl rfl rfl rfl (by assumption) (OpL.q (OpQ.move rfl rfl)) rfl rfl ?_
    refine RegL.go rfl rfl rfl rfl (by assumption) (OpL.q (OpQ.move rfl rfl)) rfl rfl ?_
    refine RegL.go rfl rfl rfl rfl g (OpL.q (OpQ.indexD rfl u_string rfl rfl hlt)) rfl rfl ?_
    refine RegL.go rfl rfl rfl rfl (by assumption) (OpL.q (OpQ.int2 rfl u_byte rfl rfl rfl rfl)) rfl rfl ?_
    refine RegL.go rfl rfl rfl rfl (by assumption) (OpL.q (OpQ.move rfl rfl)) rfl rfl ?_
    generalize hce : w.getD a 0 = c at *
    have one : isBlank c.toNat = true → isHash c.toNat = false := fun h => by
      cases hh : isHash c.toNat with
      | true => rw [(hash_notLine hh).2] at h; cases h
      | false => rfl
    refine RegL.both rfl rfl rfl rfl (fun g2 => ?_) (fun g2 => ?_)
    · have hbl : isBlank c.toNat = true := by unfold isBlank; rw [show decide ((c.toNat : Int) = 32) = true from g2]; rfl
      refine RegL.skip rfl rfl rfl rfl (by assumption) rfl rfl ?_
      refine RegL.skip rfl rfl rfl rfl (by assumption) rfl rfl ?_
      refine RegL.skip rfl rfl rfl rfl (by assumption) rfl rfl ?_
      refine RegL.skip rfl rfl rfl rfl (by assumption) rfl rfl ?_
      refine RegL.go rfl rfl rfl rfl (by assumption) (OpL.q (OpQ.pickT rfl rfl (by assumption) rfl)) rfl rfl ?_
      refine RegL.go rfl rfl rfl rfl (by assumption) (OpL.q (OpQ.move rfl rfl)) rfl rfl ?_
      refine RegL.skip rfl rfl rfl rfl rfl rfl rfl ?_
      refine RegL.skip rfl rfl rfl rfl rfl rfl rfl ?_
      refine RegL.skip rfl rfl rfl rfl rfl rfl rfl ?_
      refine RegL.skip rfl rfl rfl rfl rfl rfl rfl ?_
      refine RegL.go rfl rfl rfl rfl (by assumption) (OpL.q (OpQ.pickT rfl rfl rfl rfl)) rfl rfl ?_
      refine RegL.q (OpQ.pickT rfl rfl (by assumption) rfl) rfl rfl rfl ?_
      refine RegL.done ?_
      refine EvtL.cond rfl (fun _ => ?_) (fun h => by cases h)
      refine EvtL.skip ?_
      refine EvtL.block ?_
      refine EvtL.seqReg ?_
      refine RegL.q (OpQ.move rfl rfl) rfl rfl rfl ?_
      refine RegL.q (OpQ.move rfl rfl) rfl rfl rfl ?_
      refine RegL.q (OpQ.indexD rfl u_string rfl rfl hlt) rfl rfl rfl ?_
      rw [hce]
      refine RegL.q (OpQ.int2 rfl u_byte rfl rfl rfl rfl) rfl rfl rfl ?_
      refine RegL.done ?_
      refine EvtL.cond (t := isHash c.toNat) rfl (fun h => by rw [one hbl] at h; cases h) (fun _ => ?_)
      refine EvtL.reg ?_
      refine RegL.q (OpQ.move rfl rfl) rfl rfl rfl ?_
      refine RegL.q (OpQ.addN (b := 1) rfl u_int rfl rfl (by first | omega | assumption)) rfl rfl rfl ?_
      refine RegL.q (OpQ.assign rfl rfl) rfl rfl rfl ?_
      refine RegL.done ?_
      exact ⟨a + 1, ⟨hlt, by rw [← hT, hd]; simp only [blk, hbl, cond_true]; omega⟩, by omega, rfl, rfl, by (refine sub_of ?_; repeat (first | exact trivial | refine ⟨rfl, ?_⟩))⟩
    · refine RegL.go rfl rfl rfl rfl (by assumption) (OpL.q (OpQ.move rfl rfl)) rfl rfl ?_
      refine RegL.go rfl rfl rfl rfl (by assumption) (OpL.q (OpQ.move rfl rfl)) rfl rfl ?_
      refine RegL.go rfl rfl rfl rfl g2 (OpL.q (OpQ.indexD rfl u_string rfl rfl hlt)) rfl rfl ?_
      rw [hce]
      refine RegL.go rfl rfl rfl rfl (by assumption) (OpL.q (OpQ.int2 rfl u_byte rfl rfl rfl rfl)) rfl rfl ?_
      refine RegL.go rfl rfl rfl rfl (by assumption) (OpL.q (OpQ.pickF rfl rfl (by assumption) rfl)) rfl rfl ?_
      refine RegL.go rfl rfl rfl rfl (by assumption) (OpL.q (OpQ.move rfl rfl)) rfl rfl ?_
      refine RegL.both rfl rfl rfl rfl (fun g3 => ?_) (fun g3 => ?_)
      · have hbl : isBlank c.toNat = true := by unfold isBlank; rw [show decide ((c.toNat : Int) = 10) = true from g3, Bool.or_true]
        refine RegL.skip rfl rfl rfl rfl (by assumption) rfl rfl ?_
        refine RegL.skip rfl rfl rfl rfl (by assumption) rfl rfl ?_
        refine RegL.skip rfl rfl rfl rfl (by assumption) rfl rfl ?_
        refine RegL.skip rfl rfl rfl rfl (by assumption) rfl rfl ?_
        refine RegL.go rfl rfl rfl rfl (by assumption) (OpL.q (OpQ.pickT rfl rfl (by assumption) rfl)) rfl rfl ?_
        refine RegL.q (OpQ.pickT rfl rfl (by assumption) rfl) rfl rfl rfl ?_
        refine RegL.done ?_
        refine EvtL.cond rfl (fun _ => ?_) (fun h => by cases h)
        refine EvtL.skip ?_
        refine EvtL.block ?_
        refine EvtL.seqReg ?_
        refine RegL.q (OpQ.move rfl rfl) rfl rfl rfl ?_
        refine RegL.q (OpQ.move rfl rfl) rfl rfl rfl ?_
        refine RegL.q (OpQ.indexD rfl u_string rfl rfl hlt) rfl rfl rfl ?_
        rw [hce]
        refine RegL.q (OpQ.int2 rfl u_byte rfl rfl rfl rfl) rfl rfl rfl ?_
        refine RegL.done ?_
        refine EvtL.cond (t := isHash c.toNat) rfl (fun h => by rw [one hbl] at h; cases h) (fun _ => ?_)
        refine EvtL.reg ?_
        refine RegL.q (OpQ.move rfl rfl) rfl rfl rfl ?_
        refine RegL.q (OpQ.addN (b := 1) rfl u_int rfl rfl (by first | omega | assumption)) rfl rfl rfl ?_
        refine RegL.q (OpQ.assign rfl rfl) rfl rfl rfl ?_
        refine RegL.done ?_
        exact ⟨a + 1, ⟨hlt, by rw [← hT, hd]; simp only [blk, hbl, cond_true]; omega⟩, by omega, rfl, rfl, by (refine sub_of ?_; repeat (first | exact trivial | refine ⟨rfl, ?_⟩))⟩
      · have hbl : isBlank c.toNat = false := by unfold isBlank; rw [show decide ((c.toNat : Int) = 32) = false from g2, show decide ((c.toNat : Int) = 10) = false from g3]; rfl
        refine RegL.go rfl rfl rfl rfl (by assumption) (OpL.q (OpQ.move rfl rfl)) rfl rfl ?_
        refine RegL.go rfl rfl rfl rfl (by assumption) (OpL.q (OpQ.move rfl rfl)) rfl rfl ?_
        refine RegL.go rfl rfl rfl rfl g3 (OpL.q (OpQ.indexD rfl u_string rfl rfl hlt)) rfl rfl ?_
        rw [hce]
        refine RegL.go rfl rfl rfl rfl (by assumption) (OpL.q (OpQ.int2 rfl u_byte rfl rfl rfl rfl)) rfl rfl ?_
        refine RegL.go rfl rfl rfl rfl (by assumption) (OpL.q (OpQ.pickF rfl rfl (by assumption) rfl)) rfl rfl ?_
        refine RegL.q (OpQ.pickT rfl rfl (by assumption) rfl) rfl rfl rfl ?_
        refine RegL.done ?_
        refine EvtL.cond (t := isHash c.toNat) rfl (fun hh => ?_) (fun hh => ?_)
        · refine EvtL.skip ?_
          refine EvtL.block ?_
          refine EvtL.seqReg ?_
          refine RegL.q (OpQ.move rfl rfl) rfl rfl rfl ?_
          refine RegL.q (OpQ.move rfl rfl) rfl rfl rfl ?_
          refine RegL.q (OpQ.indexD rfl u_string rfl rfl hlt) rfl rfl rfl ?_
          rw [hce]
          refine RegL.q (OpQ.int2 rfl u_byte rfl rfl rfl rfl) rfl rfl rfl ?_
          refine RegL.done ?_
          refine EvtL.cond (t := isHash c.toNat) rfl (fun _ => ?_) (fun h => by rw [hh] at h; cases h)
          refine EvtL.block ?_
          refine EvtL.loopI (fun j : Nat => ([(1, .int .i64 (j : Nat)), (0, .str w)], s.enter)) (fun j => w.length - j) (fun j => a ≤ j ∧ j ≤ w.length ∧ j + blk true (w.drop j) = k + blk false (w.drop k)) a ⟨Nat.le_refl _, ha, by rw [← hT, hd]; simp only [blk, hbl, hh, (hash_notLine hh).1, cond_true, cond_false]⟩ rfl (by (refine sub_of ?_; repeat (first | exact trivial | refine ⟨rfl, ?_⟩))) fun j hj => ?_
          obtain ⟨hj0, hj, hjT⟩ := hj
          refine EvtL.seq ?_
          refine EvtL.seqReg ?_
          refine RegL.q (OpQ.move rfl rfl) rfl rfl rfl ?_
          refine RegL.q (OpQ.move rfl rfl) rfl rfl rfl ?_
          refine RegL.q (OpQ.lenStr rfl rfl rfl rfl u_string rfl) rfl rfl rfl ?_
          refine RegL.q (OpQ.int2 rfl u_int rfl rfl rfl rfl) rfl rfl rfl ?_
          refine RegL.q (OpQ.move rfl rfl) rfl rfl rfl ?_
          refine RegL.both rfl rfl rfl rfl (fun g4 => ?_) (fun g4 => ?_)
          · have hlj : j < w.length := by have := of_decide_eq_true g4; omega
            have hdj := drop_cons hlj
            refine RegL.go rfl rfl rfl rfl (by assumption) (OpL.q (OpQ.move rfl rfl)) rfl rfl ?_
            refine RegL.go rfl rfl rfl rfl (by assumption) (OpL.q (OpQ.move rfl rfl)) rfl rfl ?_
            refine RegL.go rfl rfl rfl rfl g4 (OpL.q (OpQ.indexD rfl u_string rfl rfl hlj)) rfl rfl ?_
            refine RegL.go rfl rfl rfl rfl (by assumption) (OpL.q (OpQ.int2 rfl u_byte rfl rfl rfl rfl)) rfl rfl ?_
            refine RegL.q (OpQ.pickT rfl rfl (by assumption) rfl) rfl rfl rfl ?_
            refine RegL.done ?_
            refine EvtL.cond (t := notLine (w.getD j 0).toNat) rfl (fun hn => ?_) (fun hn => ?_)
            · refine EvtL.skip ?_
              refine EvtL.block ?_
              refine EvtL.reg ?_
              refine RegL.q (OpQ.move rfl rfl) rfl rfl rfl ?_
              refine RegL.q (OpQ.addN (b := 1) rfl u_int rfl rfl (by first | omega | assumption)) rfl rfl rfl ?_
              refine RegL.q (OpQ.assign rfl rfl) rfl rfl rfl ?_
              refine RegL.done ?_
              exact ⟨j + 1, ⟨by omega, hlj, by rw [← hjT, hdj]; simp only [blk, hn, cond_true]; omega⟩, by omega, rfl, rfl, by (refine sub_of ?_; repeat (first | exact trivial | refine ⟨rfl, ?_⟩))⟩
            · refine EvtL.exit ?_
              refine cond_t rfl ?_
              have hne : j ≠ a := fun h => by rw [h, hce, (hash_notLine hh).1] at hn; cases hn
              refine ⟨j, ⟨hj, ?_⟩, by omega, rfl, rfl, by (refine sub_of ?_; repeat (first | exact trivial | refine ⟨rfl, ?_⟩))⟩
              rw [← hjT, hdj]
              have hb10 : isBlank (w.getD j 0).toNat = true := by
                have : decide (((w.getD j 0).toNat : Int) = 10) = true := by unfold notLine at hn; revert hn; cases decide (((w.getD j 0).toNat : Int) = 10) <;> intro h <;> first | rfl | cases h
                unfold isBlank; rw [this, Bool.or_true]
              simp only [blk, hn, hb10, cond_true, cond_false]
          · have hge : ¬ j < w.length := by have := of_decide_eq_false g4; omega
            have he : j = w.length := by omega
            refine RegL.skip rfl rfl rfl rfl (by assumption) rfl rfl ?_
            refine RegL.skip rfl rfl rfl rfl (by assumption) rfl rfl ?_
            refine RegL.skip rfl rfl rfl rfl (by assumption) rfl rfl ?_
            refine RegL.skip rfl rfl rfl rfl (by assumption) rfl rfl ?_
            refine RegL.q (OpQ.pickF rfl rfl (by assumption) rfl) rfl rfl rfl ?_
            refine RegL.done ?_
            refine EvtL.cond rfl (fun h => by cases h) (fun _ => ?_)
            refine EvtL.exit ?_
            refine cond_t rfl ?_
            refine ⟨j, ⟨hj, ?_⟩, by omega, rfl, rfl, by (refine sub_of ?_; repeat (first | exact trivial | refine ⟨rfl, ?_⟩))⟩
            rw [← hjT, he, List.drop_length]; rfl
        · have h0 : blk false (w.drop a) = 0 := by rw [hd]; simp only [blk, hbl, hh, cond_false]
          have he : a = k + blk false (w.drop k) := by omega
          refine EvtL.exit ?_
          refine cond_t rfl ?_
          refine EvtL.seqReg ?_
          refine RegL.q (OpQ.move rfl rfl) rfl rfl rfl ?_
          refine RegL.q (OpQ.assign rfl rfl) rfl rfl rfl ?_
          refine RegL.done ?_
          refine EvtL.ret ?_
          exact ⟨.inl rfl, rfl, rfl, by rw [← he]; rfl⟩
  · have hge : ¬ a < w.length := by have := of_decide_eq_false g; omega
    have he0 : a = w.length := by omega
    have h0 : blk false (w.drop a) = 0 := by rw [he0, List.drop_length]; rfl
    have he : a = k + blk false (w.drop k) := by omega
    refine RegL.skip rfl rfl rfl rfl (by assumption) rfl rfl ?_
    refine RegL.skip rfl rfl rfl rfl (by assumption) rfl rfl ?_
    refine RegL.skip rfl rfl rfl rfl (by assumption) rfl rfl ?_
    refine RegL.skip rfl rfl rfl rfl (by assumption) rfl rfl ?_
    refine RegL.skip rfl rfl rfl rfl (by assumption) rfl rfl ?_
    refine RegL.skipT rfl rfl rfl rfl rfl rfl ?_
    refine RegL.skipT rfl rfl rfl rfl rfl rfl ?_
    refine RegL.skipT rfl rfl rfl rfl rfl rfl ?_
    refine RegL.skipT rfl rfl rfl rfl rfl rfl ?_
    refine RegL.skip rfl rfl rfl rfl (by assumption) rfl rfl ?_
    refine RegL.skip rfl rfl rfl rfl (by assumption) rfl rfl ?_
    refine RegL.skipT rfl rfl rfl rfl rfl rfl ?_
    refine RegL.skipT rfl rfl rfl rfl rfl rfl ?_
    refine RegL.skipT rfl rfl rfl rfl rfl rfl ?_
    refine RegL.skipT rfl rfl rfl rfl rfl rfl ?_
    refine RegL.skip rfl rfl rfl rfl (by assumption) rfl rfl ?_
    refine RegL.q (OpQ.pickF rfl rfl (by assumption) rfl) rfl rfl rfl ?_
    refine RegL.done ?_
    refine EvtL.cond rfl (fun h => by cases h) (fun _ => ?_)
    refine EvtL.exit ?_
    refine cond_t rfl ?_
    refine EvtL.seqReg ?_
    refine RegL.q (OpQ.move rfl rfl) rfl rfl rfl ?_
    refine RegL.q (OpQ.assign rfl rfl) rfl rfl rfl ?_
    refine RegL.done ?_
    refine EvtL.ret ?_
    exact ⟨.inl rfl, rfl, rfl, by rw [← he]; rfl⟩
end
end Go.Proofs.YtmgijfdekpfecaaGreatDoor

/- The specification's one token. -/
open Go Am
namespace Go.Proofs.YtmgijfdekpfecaaGreatDoor
/-- The kind and the length of the token with which a string begins; 0, if there is none. -/
def oneS (r : List UInt8) : Nat × Nat :=
  if isIn 97 122 (r.getD 0 0).toNat = true then
    if isWord (r.take (tw (isIn 97 122) r)) = true then (3, tw (isIn 97 122) r) else if 8 < tw (isIn 97 122) r then (0, 0) else (1, tw (isIn 97 122) r)
  else if isIn 65 90 (r.getD 0 0).toNat = true then
    if 8 < 1 + tw (isIn 97 122) (r.drop 1) then (0, 0) else (2, 1 + tw (isIn 97 122) (r.drop 1))
  else if 0 < tw (isIn 48 57) r then
    if 7 < tw (isIn 48 57) r ∨ (1 < tw (isIn 48 57) r ∧ (r.getD 0 0).toNat = 48) then (0, 0) else (4, tw (isIn 48 57) r)
  else if (r.getD 0 0).toNat = 126 then
    if tw (isIn 48 57) (r.drop 1) < 1 ∨ 7 < tw (isIn 48 57) (r.drop 1) ∨ (r.getD 1 0).toNat = 48 then (0, 0) else (4, 1 + tw (isIn 48 57) (r.drop 1))
  else if 0 < firstLen (fun x => hasPre r x) rsignL then (5, firstLen (fun x => hasPre r x) rsignL) else (0, 0)
def oneV (r : List UInt8) : AV := .tuple [.int .i64 ((oneS r).1 : Nat), .int .i64 ((oneS r).2 : Nat)]
section
variable {K : FuncId → List AV → Option AV} {s : St}
theorem one_to (hK : K 23 = fun _ => none) (h2 : Two K) (w : List UInt8) (hw : w.length < Big) (k : Nat) (hk : k < w.length) :
    CallTo (EK K) 23 [.str w, .int .i64 (k : Nat)] s (oneV (w.drop k)) := by
  have hw' : w.length < 1099511627776 := hw
  have hkl : k ≤ w.length := Nat.le_of_lt hk
  have hlr : (w.drop k).length = w.length - k := List.length_drop
  have e0 : (w.drop k).getD 0 0 = w.getD k 0 := getD_drop w k 0
  have e1 : (w.drop k).getD 1 0 = w.getD (k + 1) 0 := getD_drop w k 1
  have ed : (w.drop k).drop 1 = w.drop (k + 1) := List.drop_drop ..
  have hls : (w.drop (k + 1)).length = w.length - (k + 1) := List.length_drop
  have ts := tw_le (isIn 97 122) (w.drop k)
  have td := tw_le (isIn 48 57) (w.drop k)
  have ts1 := tw_le (isIn 97 122) (w.drop (k + 1))
  have td1 := tw_le (isIn 48 57) (w.drop (k + 1))
  refine CallTo.flat (fn := Tryz.f23) (by show K 23 _ = none; rw [hK]) (by kernel_rfl) rfl rfl rfl rfl (fun _ _ => rfl) (fun _ => rfl) ?_
  refine EvtL.seqReg ?_
  refine RegL.q (OpQ.assign rfl rfl) rfl rfl rfl ?_
  refine RegL.q (OpQ.assign rfl rfl) rfl rfl rfl ?_
  refine RegL.done ?_
  refine EvtL.seq ?_
  refine EvtL.seqReg ?_
  refine RegL.q (OpQ.move rfl rfl) rfl rfl rfl ?_
  refine RegL.q (OpQ.move rfl rfl) rfl rfl rfl ?_
  refine RegL.q (OpQ.indexD rfl u_string rfl rfl hk) rfl rfl rfl ?_
  refine RegL.op (OpL.callFn rfl rfl (h2.bytes _ _ rfl).1 rfl (CallTo.memo ((h2.bytes 61 _ rfl).2 _))) rfl rfl rfl ?_
  refine RegL.done ?_
  refine EvtL.cond rfl (fun c1 => ?_) (fun c1 => ?_)
  · refine EvtL.seqReg ?_
    refine RegL.q (OpQ.move rfl rfl) rfl rfl rfl ?_
    refine RegL.q (OpQ.move rfl rfl) rfl rfl rfl ?_
    refine RegL.op (OpL.callFn rfl rfl (by kernel_rfl) rfl (CallTo.memo (h2.smalls w k hw hkl))) rfl rfl rfl ?_
    refine RegL.q (OpQ.assign rfl rfl) rfl rfl rfl ?_
    refine RegL.done ?_
    refine EvtL.seq ?_
    refine EvtL.seqReg ?_
    refine RegL.q (OpQ.move rfl rfl) rfl rfl rfl ?_
    refine RegL.q (OpQ.move rfl rfl) rfl rfl rfl ?_
    refine RegL.q (OpQ.move rfl rfl) rfl rfl rfl ?_
    refine RegL.q (OpQ.move rfl rfl) rfl rfl rfl ?_
    refine RegL.q (OpQ.addN rfl u_int rfl rfl (by first | omega | assumption)) rfl rfl rfl ?_
    refine RegL.q (OpQ.sliceStr rfl u_string rfl rfl rfl (bounds_some (n := k + tw (isIn 97 122) (w.drop k)) (by omega)) (bounds_some (by omega)) ⟨by omega, by omega⟩) rfl rfl rfl ?_
    rw [Nat.add_sub_cancel_left]
    refine RegL.op (OpL.callFn rfl rfl (by kernel_rfl) rfl (CallTo.memo (h2.rword _))) rfl rfl rfl ?_
    refine RegL.done ?_
    refine EvtL.cond rfl (fun c2 => ?_) (fun c2 => ?_)
    · refine EvtL.seqReg ?_
      refine RegL.q (OpQ.move rfl rfl) rfl rfl rfl ?_
      refine RegL.q (OpQ.assign rfl rfl) rfl rfl rfl ?_
      refine RegL.q (OpQ.assign rfl rfl) rfl rfl rfl ?_
      refine RegL.done ?_
      refine EvtL.ret ?_
      refine ⟨.inl rfl, rfl, rfl, _, rfl, ?_⟩
      unfold oneV
      rw [show oneS _ = _ from (show oneS (w.drop k) = (3, tw (isIn 97 122) (w.drop k)) by unfold oneS; rw [e0, if_pos c1, if_pos c2])]
      rfl
    · refine EvtL.skip ?_
      refine EvtL.seq ?_
      refine EvtL.seqReg ?_
      refine RegL.q (OpQ.move rfl rfl) rfl rfl rfl ?_
      refine RegL.q (OpQ.int2 rfl u_int rfl rfl rfl rfl) rfl rfl rfl ?_
      refine RegL.done ?_
      refine EvtL.cond rfl (fun c3 => ?_) (fun c3 => ?_)
      · have c3' : 8 < tw (isIn 97 122) (w.drop k) := by have := of_decide_eq_true c3; omega
        refine EvtL.seqReg ?_
        refine RegL.q (OpQ.assign rfl rfl) rfl rfl rfl ?_
        refine RegL.q (OpQ.assign rfl rfl) rfl rfl rfl ?_
        refine RegL.done ?_
        refine EvtL.ret ?_
        refine ⟨.inl rfl, rfl, rfl, _, rfl, ?_⟩
        unfold oneV
        rw [show oneS _ = _ from (show oneS (w.drop k) = (0, 0) by unfold oneS; rw [e0, if_pos c1, if_neg (by rw [c2]; exact Bool.false_ne_true), if_pos c3'])]
        rfl
      · have c3' : ¬ 8 < tw (isIn 97 122) (w.drop k) := by have := of_decide_eq_false c3; omega
        refine EvtL.skip ?_
        refine EvtL.seqReg ?_
        refine RegL.q (OpQ.move rfl rfl) rfl rfl rfl ?_
        refine RegL.q (OpQ.assign rfl rfl) rfl rfl rfl ?_
        refine RegL.q (OpQ.assign rfl rfl) rfl rfl rfl ?_
        refine RegL.done ?_
        refine EvtL.ret ?_
        refine ⟨.inl rfl, rfl, rfl, _, rfl, ?_⟩
        unfold oneV
        rw [show oneS _ = _ from (show oneS (w.drop k) = (1, tw (isIn 97 122) (w.drop k)) by unfold oneS; rw [e0, if_pos c1, if_neg (by rw [c2]; exact Bool.false_ne_true), if_neg c3'])]
        rfl
  · have n1 : ¬ isIn 97 122 (w.getD k 0).toNat = true := by rw [c1]; exact Bool.false_ne_true
    refine EvtL.skip ?_
    refine EvtL.seq ?_
    refine EvtL.seqReg ?_
    refine RegL.q (OpQ.move rfl rfl) rfl rfl rfl ?_
    refine RegL.q (OpQ.move rfl rfl) rfl rfl rfl ?_
    refine RegL.q (OpQ.indexD rfl u_string rfl rfl hk) rfl rfl rfl ?_
    refine RegL.op (OpL.callFn rfl rfl (h2.bytes _ _ rfl).1 rfl (CallTo.memo ((h2.bytes 64 _ rfl).2 _))) rfl rfl rfl ?_
    refine RegL.done ?_
    refine EvtL.cond rfl (fun c2 => ?_) (fun c2 => ?_)
    · refine EvtL.seqReg ?_
      refine RegL.q (OpQ.move rfl rfl) rfl rfl rfl ?_
      refine RegL.q (OpQ.move rfl rfl) rfl rfl rfl ?_
      refine RegL.q (OpQ.addN (b := 1) rfl u_int rfl rfl (by first | omega | assumption)) rfl rfl rfl ?_
      refine RegL.op (OpL.callFn rfl rfl (by kernel_rfl) rfl (CallTo.memo (h2.smalls w (k + 1) hw hk))) rfl rfl rfl ?_
      refine RegL.q (OpQ.addN (a := 1) rfl u_int rfl rfl (by first | omega | assumption)) rfl rfl rfl ?_
      refine RegL.q (OpQ.assign rfl rfl) rfl rfl rfl ?_
      refine RegL.done ?_
      refine EvtL.seq ?_
      refine EvtL.seqReg ?_
      refine RegL.q (OpQ.move rfl rfl) rfl rfl rfl ?_
      refine RegL.q (OpQ.int2 rfl u_int rfl rfl rfl rfl) rfl rfl rfl ?_
      refine RegL.done ?_
      refine EvtL.cond rfl (fun c3 => ?_) (fun c3 => ?_)
      · have c3' : 8 < 1 + tw (isIn 97 122) (w.drop (k + 1)) := by have := of_decide_eq_true c3; omega
        refine EvtL.seqReg ?_
        refine RegL.q (OpQ.assign rfl rfl) rfl rfl rfl ?_
        refine RegL.q (OpQ.assign rfl rfl) rfl rfl rfl ?_
        refine RegL.done ?_
        refine EvtL.ret ?_
        refine ⟨.inl rfl, rfl, rfl, _, rfl, ?_⟩
        unfold oneV
        rw [show oneS _ = _ from (show oneS (w.drop k) = (0, 0) by unfold oneS; rw [e0, ed, if_neg n1, if_pos c2, if_pos c3'])]
        rfl
      · have c3' : ¬ 8 < 1 + tw (isIn 97 122) (w.drop (k + 1)) := by have := of_decide_eq_false c3; omega
        refine EvtL.skip ?_
        refine EvtL.seqReg ?_
        refine RegL.q (OpQ.move rfl rfl) rfl rfl rfl ?_
        refine RegL.q (OpQ.assign rfl rfl) rfl rfl rfl ?_
        refine RegL.q (OpQ.assign rfl rfl) rfl rfl rfl ?_
        refine RegL.done ?_
        refine EvtL.ret ?_
        refine ⟨.inl rfl, rfl, rfl, _, rfl, ?_⟩
        unfold oneV
        rw [show oneS _ = _ from (show oneS (w.drop k) = (2, 1 + tw (isIn 97 122) (w.drop (k + 1))) by unfold oneS; rw [e0, ed, if_neg n1, if_pos c2, if_neg c3'])]
        rfl
    · have n2 : ¬ isIn 65 90 (w.getD k 0).toNat = true := by rw [c2]; exact Bool.false_ne_true
      refine EvtL.skip ?_
      refine EvtL.seq ?_
      refine EvtL.seqReg ?_
      refine RegL.q (OpQ.move rfl rfl) rfl rfl rfl ?_
      refine RegL.q (OpQ.move rfl rfl) rfl rfl rfl ?_
      refine RegL.op (OpL.callFn rfl rfl (by kernel_rfl) rfl (CallTo.memo (h2.digits w k hw hkl))) rfl rfl rfl ?_
      refine RegL.q (OpQ.assign rfl rfl) rfl rfl rfl ?_
      refine RegL.done ?_
      refine EvtL.seqReg ?_
      refine RegL.q (OpQ.move rfl rfl) rfl rfl rfl ?_
      refine RegL.q (OpQ.int2 rfl u_int rfl rfl rfl rfl) rfl rfl rfl ?_
      refine RegL.done ?_
      refine EvtL.cond rfl (fun c3 => ?_) (fun c3 => ?_)
      · have p3 : 0 < tw (isIn 48 57) (w.drop k) := by have := of_decide_eq_true c3; omega
        have hbad : (7 < tw (isIn 48 57) (w.drop k) ∨ (1 < tw (isIn 48 57) (w.drop k) ∧ (w.getD k 0).toNat = 48)) → oneS (w.drop k) = (0, 0) := fun h => by unfold oneS; rw [e0, if_neg n1, if_neg n2, if_pos p3, if_pos h]
        have hok : ¬ (7 < tw (isIn 48 57) (w.drop k) ∨ (1 < tw (isIn 48 57) (w.drop k) ∧ (w.getD k 0).toNat = 48)) → oneS (w.drop k) = (4, tw (isIn 48 57) (w.drop k)) := fun h => by unfold oneS; rw [e0, if_neg n1, if_neg n2, if_pos p3, if_neg h]
        refine EvtL.seq ?_
        refine EvtL.seqReg ?_
        refine RegL.q (OpQ.move rfl rfl) rfl rfl rfl ?_
        refine RegL.q (OpQ.int2 rfl u_int rfl rfl rfl rfl) rfl rfl rfl ?_
        refine RegL.q (OpQ.move rfl rfl) rfl rfl rfl ?_
        refine RegL.both rfl rfl rfl rfl (fun g1 => ?_) (fun g1 => ?_)
        · have g1' : 7 < tw (isIn 48 57) (w.drop k) := by have := of_decide_eq_true g1; omega
          refine RegL.skip rfl rfl rfl rfl (by assumption) rfl rfl ?_
          refine RegL.skip rfl rfl rfl rfl (by assumption) rfl rfl ?_
          refine RegL.skip rfl rfl rfl rfl (by assumption) rfl rfl ?_
          refine RegL.skipT rfl rfl rfl rfl rfl rfl ?_
          refine RegL.skipT rfl rfl rfl rfl rfl rfl ?_
          refine RegL.skipT rfl rfl rfl rfl rfl rfl ?_
          refine RegL.skipT rfl rfl rfl rfl rfl rfl ?_
          refine RegL.skip rfl rfl rfl rfl (by assumption) rfl rfl ?_
          refine RegL.q (OpQ.pickT rfl rfl (by assumption) rfl) rfl rfl rfl ?_
          refine RegL.done ?_
          refine EvtL.cond rfl (fun _ => ?_) (fun h => by cases h)
          refine EvtL.seqReg ?_
          refine RegL.q (OpQ.assign rfl rfl) rfl rfl rfl ?_
          refine RegL.q (OpQ.assign rfl rfl) rfl rfl rfl ?_
          refine RegL.done ?_
          refine EvtL.ret ?_
          refine ⟨.inl rfl, rfl, rfl, _, rfl, ?_⟩
          unfold oneV
          rw [show oneS _ = _ from (hbad (.inl g1'))]
          rfl
        · have g1' : ¬ 7 < tw (isIn 48 57) (w.drop k) := by have := of_decide_eq_false g1; omega
          refine RegL.go rfl rfl rfl rfl (by assumption) (OpL.q (OpQ.move rfl rfl)) rfl rfl ?_
          refine RegL.go rfl rfl rfl rfl (by assumption) (OpL.q (OpQ.int2 rfl u_int rfl rfl rfl rfl)) rfl rfl ?_
          refine RegL.go rfl rfl rfl rfl (by assumption) (OpL.q (OpQ.move rfl rfl)) rfl rfl ?_
          refine RegL.both rfl rfl rfl rfl (fun g2 => ?_) (fun g2 => ?_)
          · have g2' : 1 < tw (isIn 48 57) (w.drop k) := by have := of_decide_eq_true g2; omega
            refine RegL.go rfl rfl rfl rfl (by assumption) (OpL.q (OpQ.move rfl rfl)) rfl rfl ?_
            refine RegL.go rfl rfl rfl rfl (by assumption) (OpL.q (OpQ.move rfl rfl)) rfl rfl ?_
            refine RegL.go rfl rfl rfl rfl g2 (OpL.q (OpQ.indexD rfl u_string rfl rfl hk)) rfl rfl ?_
            refine RegL.go rfl rfl rfl rfl (by assumption) (OpL.q (OpQ.int2 rfl u_byte rfl rfl rfl rfl)) rfl rfl ?_
            refine RegL.go rfl rfl rfl rfl (by assumption) (OpL.q (OpQ.pickT rfl rfl (by assumption) rfl)) rfl rfl ?_
            refine RegL.q (OpQ.pickF rfl rfl (by assumption) rfl) rfl rfl rfl ?_
            refine RegL.done ?_
            refine EvtL.cond rfl (fun c4 => ?_) (fun c4 => ?_)
            · refine EvtL.seqReg ?_
              refine RegL.q (OpQ.assign rfl rfl) rfl rfl rfl ?_
              refine RegL.q (OpQ.assign rfl rfl) rfl rfl rfl ?_
              refine RegL.done ?_
              refine EvtL.ret ?_
              refine ⟨.inl rfl, rfl, rfl, _, rfl, ?_⟩
              unfold oneV
              rw [show oneS _ = _ from (hbad (.inr ⟨g2', by have := of_decide_eq_true c4; omega⟩))]
              rfl
            · refine EvtL.skip ?_
              refine EvtL.seqReg ?_
              refine RegL.q (OpQ.move rfl rfl) rfl rfl rfl ?_
              refine RegL.q (OpQ.assign rfl rfl) rfl rfl rfl ?_
              refine RegL.q (OpQ.assign rfl rfl) rfl rfl rfl ?_
              refine RegL.done ?_
              refine EvtL.ret ?_
              refine ⟨.inl rfl, rfl, rfl, _, rfl, ?_⟩
              unfold oneV
              rw [show oneS _ = _ from (hok (by have := of_decide_eq_false c4; omega))]
              rfl
          · have g2' : ¬ 1 < tw (isIn 48 57) (w.drop k) := by have := of_decide_eq_false g2; omega
            refine RegL.skip rfl rfl rfl rfl (by assumption) rfl rfl ?_
            refine RegL.skip rfl rfl rfl rfl (by assumption) rfl rfl ?_
            refine RegL.skip rfl rfl rfl rfl (by assumption) rfl rfl ?_
            refine RegL.skip rfl rfl rfl rfl (by assumption) rfl rfl ?_
            refine RegL.go rfl rfl rfl rfl (by assumption) (OpL.q (OpQ.pickF rfl rfl (by assumption) rfl)) rfl rfl ?_
            refine RegL.q (OpQ.pickF rfl rfl (by assumption) rfl) rfl rfl rfl ?_
            refine RegL.done ?_
            refine EvtL.cond rfl (fun h => by cases h) (fun _ => ?_)
            refine EvtL.skip ?_
            refine EvtL.seqReg ?_
            refine RegL.q (OpQ.move rfl rfl) rfl rfl rfl ?_
            refine RegL.q (OpQ.assign rfl rfl) rfl rfl rfl ?_
            refine RegL.q (OpQ.assign rfl rfl) rfl rfl rfl ?_
            refine RegL.done ?_
            refine EvtL.ret ?_
            refine ⟨.inl rfl, rfl, rfl, _, rfl, ?_⟩
            unfold oneV
            rw [show oneS _ = _ from (hok (by omega))]
            rfl
      · have p3 : ¬ 0 < tw (isIn 48 57) (w.drop k) := by have := of_decide_eq_false c3; omega
        refine EvtL.skip ?_
        refine EvtL.seq ?_
        refine EvtL.seqReg ?_
        refine RegL.q (OpQ.move rfl rfl) rfl rfl rfl ?_
        refine RegL.q (OpQ.move rfl rfl) rfl rfl rfl ?_
        refine RegL.q (OpQ.indexD rfl u_string rfl rfl hk) rfl rfl rfl ?_
        refine RegL.q (OpQ.int2 rfl u_byte rfl rfl rfl rfl) rfl rfl rfl ?_
        refine RegL.done ?_
        refine EvtL.cond rfl (fun c4 => ?_) (fun c4 => ?_)
        · have p4 : (w.getD k 0).toNat = 126 := by have := of_decide_eq_true c4; omega
          have hbad : (tw (isIn 48 57) (w.drop (k + 1)) < 1 ∨ 7 < tw (isIn 48 57) (w.drop (k + 1)) ∨ (w.getD (k + 1) 0).toNat = 48) → oneS (w.drop k) = (0, 0) := fun h => by unfold oneS; rw [e0, e1, ed, if_neg n1, if_neg n2, if_neg p3, if_pos p4, if_pos h]
          have hok : ¬ (tw (isIn 48 57) (w.drop (k + 1)) < 1 ∨ 7 < tw (isIn 48 57) (w.drop (k + 1)) ∨ (w.getD (k + 1) 0).toNat = 48) → oneS (w.drop k) = (4, 1 + tw (isIn 48 57) (w.drop (k + 1))) := fun h => by unfold oneS; rw [e0, e1, ed, if_neg n1, if_neg n2, if_neg p3, if_pos p4, if_neg h]
          refine EvtL.seqReg ?_
          refine RegL.q (OpQ.move rfl rfl) rfl rfl rfl ?_
          refine RegL.q (OpQ.move rfl rfl) rfl rfl rfl ?_
          refine RegL.q (OpQ.addN (b := 1) rfl u_int rfl rfl (by first | omega | assumption)) rfl rfl rfl ?_
          refine RegL.op (OpL.callFn rfl rfl (by kernel_rfl) rfl (CallTo.memo (h2.digits w (k + 1) hw hk))) rfl rfl rfl ?_
          refine RegL.q (OpQ.assign rfl rfl) rfl rfl rfl ?_
          refine RegL.done ?_
          refine EvtL.seq ?_
          refine EvtL.seqReg ?_
          refine RegL.q (OpQ.move rfl rfl) rfl rfl rfl ?_
          refine RegL.q (OpQ.int2 rfl u_int rfl rfl rfl rfl) rfl rfl rfl ?_
          refine RegL.q (OpQ.move rfl rfl) rfl rfl rfl ?_
          refine RegL.both rfl rfl rfl rfl (fun g1 => ?_) (fun g1 => ?_)
          · have g1' : tw (isIn 48 57) (w.drop (k + 1)) < 1 := by have := of_decide_eq_true g1; omega
            refine RegL.skip rfl rfl rfl rfl (by assumption) rfl rfl ?_
            refine RegL.skip rfl rfl rfl rfl (by assumption) rfl rfl ?_
            refine RegL.q (OpQ.pickT rfl rfl (by assumption) rfl) rfl rfl rfl ?_
            refine RegL.q (OpQ.move rfl rfl) rfl rfl rfl ?_
            refine RegL.skip rfl rfl rfl rfl rfl rfl rfl ?_
            refine RegL.skip rfl rfl rfl rfl rfl rfl rfl ?_
            refine RegL.skip rfl rfl rfl rfl rfl rfl rfl ?_
            refine RegL.skip rfl rfl rfl rfl rfl rfl rfl ?_
            refine RegL.skip rfl rfl rfl rfl rfl rfl rfl ?_
            refine RegL.q (OpQ.pickT rfl rfl rfl rfl) rfl rfl rfl ?_
            refine RegL.done ?_
            refine EvtL.cond rfl (fun _ => ?_) (fun h => by cases h)
            refine EvtL.seqReg ?_
            refine RegL.q (OpQ.assign rfl rfl) rfl rfl rfl ?_
            refine RegL.q (OpQ.assign rfl rfl) rfl rfl rfl ?_
            refine RegL.done ?_
            refine EvtL.ret ?_
            refine ⟨.inl rfl, rfl, rfl, _, rfl, ?_⟩
            unfold oneV
            rw [show oneS _ = _ from (hbad (.inl g1'))]
            rfl
          · have g1' : ¬ tw (isIn 48 57) (w.drop (k + 1)) < 1 := by have := of_decide_eq_false g1; omega
            have hk1 : k + 1 < w.length := by omega
            refine RegL.go rfl rfl rfl rfl (by assumption) (OpL.q (OpQ.move rfl rfl)) rfl rfl ?_
            refine RegL.go rfl rfl rfl rfl (by assumption) (OpL.q (OpQ.int2 rfl u_int rfl rfl rfl rfl)) rfl rfl ?_
            refine RegL.q (OpQ.pickF rfl rfl (by assumption) rfl) rfl rfl rfl ?_
            refine RegL.q (OpQ.move rfl rfl) rfl rfl rfl ?_
            refine RegL.both rfl rfl rfl rfl (fun g2 => ?_) (fun g2 => ?_)
            · have g2' : 7 < tw (isIn 48 57) (w.drop (k + 1)) := by have := of_decide_eq_true g2; omega
              refine RegL.skip rfl rfl rfl rfl (by assumption) rfl rfl ?_
              refine RegL.skip rfl rfl rfl rfl (by assumption) rfl rfl ?_
              refine RegL.skip rfl rfl rfl rfl (by assumption) rfl rfl ?_
              refine RegL.skip rfl rfl rfl rfl (by assumption) rfl rfl ?_
              refine RegL.skip rfl rfl rfl rfl (by assumption) rfl rfl ?_
              refine RegL.q (OpQ.pickT rfl rfl (by assumption) rfl) rfl rfl rfl ?_
              refine RegL.done ?_
              refine EvtL.cond rfl (fun _ => ?_) (fun h => by cases h)
              refine EvtL.seqReg ?_
              refine RegL.q (OpQ.assign rfl rfl) rfl rfl rfl ?_
              refine RegL.q (OpQ.assign rfl rfl) rfl rfl rfl ?_
              refine RegL.done ?_
              refine EvtL.ret ?_
              refine ⟨.inl rfl, rfl, rfl, _, rfl, ?_⟩
              unfold oneV
              rw [show oneS _ = _ from (hbad (.inr (.inl g2')))]
              rfl
            · have g2' : ¬ 7 < tw (isIn 48 57) (w.drop (k + 1)) := by have := of_decide_eq_false g2; omega
              refine RegL.go rfl rfl rfl rfl (by assumption) (OpL.q (OpQ.move rfl rfl)) rfl rfl ?_
              refine RegL.go rfl rfl rfl rfl (by assumption) (OpL.q (OpQ.move rfl rfl)) rfl rfl ?_
              refine RegL.go rfl rfl rfl rfl (by assumption) (OpL.q (OpQ.addN (b := 1) rfl u_int rfl rfl (by first | omega | assumption))) rfl rfl ?_
              refine RegL.go rfl rfl rfl rfl g2 (OpL.q (OpQ.indexD rfl u_string rfl rfl hk1)) rfl rfl ?_
              refine RegL.go rfl rfl rfl rfl (by assumption) (OpL.q (OpQ.int2 rfl u_byte rfl rfl rfl rfl)) rfl rfl ?_
              refine RegL.q (OpQ.pickF rfl rfl (by assumption) rfl) rfl rfl rfl ?_
              refine RegL.done ?_
              refine EvtL.cond rfl (fun c5 => ?_) (fun c5 => ?_)
              · refine EvtL.seqReg ?_
                refine RegL.q (OpQ.assign rfl rfl) rfl rfl rfl ?_
                refine RegL.q (OpQ.assign rfl rfl) rfl rfl rfl ?_
                refine RegL.done ?_
                refine EvtL.ret ?_
                refine ⟨.inl rfl, rfl, rfl, _, rfl, ?_⟩
                unfold oneV
                rw [show oneS _ = _ from (hbad (.inr (.inr (by have := of_decide_eq_true c5; omega))))]
                rfl
              · refine EvtL.skip ?_
                refine EvtL.seqReg ?_
                refine RegL.q (OpQ.move rfl rfl) rfl rfl rfl ?_
                refine RegL.q (OpQ.addN (a := 1) rfl u_int rfl rfl (by first | omega | assumption)) rfl rfl rfl ?_
                refine RegL.q (OpQ.assign rfl rfl) rfl rfl rfl ?_
                refine RegL.q (OpQ.assign rfl rfl) rfl rfl rfl ?_
                refine RegL.done ?_
                refine EvtL.ret ?_
                refine ⟨.inl rfl, rfl, rfl, _, rfl, ?_⟩
                unfold oneV
                rw [show oneS _ = _ from (hok (by have := of_decide_eq_false c5; omega))]
                rfl
        · have p4 : ¬ (w.getD k 0).toNat = 126 := by have := of_decide_eq_false c4; omega
          have hf : firstLen (fun x => hasPre (w.drop k) x) rsignL ≤ 3 := by
            unfold firstLen
            split
            · next x hx =>
              have : ∀ x ∈ rsignL, x.length ≤ 3 := by decide
              exact this _ (List.mem_of_find?_eq_some hx)
            · exact Nat.zero_le _
          refine EvtL.skip ?_
          refine EvtL.seq ?_
          refine EvtL.seqReg ?_
          refine RegL.q (OpQ.move rfl rfl) rfl rfl rfl ?_
          refine RegL.q (OpQ.move rfl rfl) rfl rfl rfl ?_
          refine RegL.op (OpL.callFn rfl rfl (by kernel_rfl) rfl (CallTo.memo (h2.sign w k hw hkl))) rfl rfl rfl ?_
          refine RegL.q (OpQ.assign rfl rfl) rfl rfl rfl ?_
          refine RegL.done ?_
          refine EvtL.seqReg ?_
          refine RegL.q (OpQ.move rfl rfl) rfl rfl rfl ?_
          refine RegL.q (OpQ.int2 rfl u_int rfl rfl rfl rfl) rfl rfl rfl ?_
          refine RegL.done ?_
          refine EvtL.cond rfl (fun c5 => ?_) (fun c5 => ?_)
          · have p5 : 0 < firstLen (fun x => hasPre (w.drop k) x) rsignL := by have := of_decide_eq_true c5; omega
            refine EvtL.seqReg ?_
            refine RegL.q (OpQ.move rfl rfl) rfl rfl rfl ?_
            refine RegL.q (OpQ.assign rfl rfl) rfl rfl rfl ?_
            refine RegL.q (OpQ.assign rfl rfl) rfl rfl rfl ?_
            refine RegL.done ?_
            refine EvtL.ret ?_
            refine ⟨.inl rfl, rfl, rfl, _, rfl, ?_⟩
            unfold oneV
            rw [show oneS _ = _ from (show oneS (w.drop k) = (5, firstLen (fun x => hasPre (w.drop k) x) rsignL) by unfold oneS; rw [e0, if_neg n1, if_neg n2, if_neg p3, if_neg p4, if_pos p5])]
            rfl
          · have p5 : ¬ 0 < firstLen (fun x => hasPre (w.drop k) x) rsignL := by have := of_decide_eq_false c5; omega
            refine EvtL.skip ?_
            refine EvtL.seqReg ?_
            refine RegL.q (OpQ.assign rfl rfl) rfl rfl rfl ?_
            refine RegL.q (OpQ.assign rfl rfl) rfl rfl rfl ?_
            refine RegL.done ?_
            refine EvtL.ret ?_
            refine ⟨.inl rfl, rfl, rfl, _, rfl, ?_⟩
            unfold oneV
            rw [show oneS _ = _ from (show oneS (w.drop k) = (0, 0) by unfold oneS; rw [e0, if_neg n1, if_neg n2, if_neg p3, if_neg p4, if_neg p5])]
            rfl
end
end Go.Proofs.YtmgijfdekpfecaaGreatDoor
