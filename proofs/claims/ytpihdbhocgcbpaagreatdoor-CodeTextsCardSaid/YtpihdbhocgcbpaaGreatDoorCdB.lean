/- Code: what is as defined; data of arguments. -/
import Derived.Test.YtpihdbhocgcbpaaGreatDoorCdA
import Derived.Test.YtpihdbhocgcbpaaGreatDoorAmG
set_option linter.unusedSectionVars false
set_option linter.unusedVariables false
set_option linter.unusedSimpArgs false
open Go Am
namespace Go.Proofs.YtpihdbhocgcbpaaGreatDoor
noncomputable def K9 := addC K8 60 (fun p : AtT=>[.agg (encC p.1.1),.int .i64 (p.1.2 : Nat)]) (fun p=>.bool (insV p.1.1 p.1.2 p.x))
theorem hit_60 {c : CodeT} {k : Nat} (h : Fits c) (hk : k < c.ins.length) : K9 60 [.agg (encC c), .int .i64 (k : Nat)] = some (.bool (insV c k c.ins[k])) :=
 AD (f := 60) (enc := fun p : AtT => [.agg (encC p.1.1), .int .i64 (p.1.2 : Nat)]) (res := fun p => .bool (insV p.1.1 p.1.2 p.x)) (fun p q h => by rw [encAt_inj h]) ⟨(c, k), h, hk⟩
theorem all9 (h : KnownF Tryz.prog 10 [] (.bool true)) : KnownAll Tryz.prog K9 := BH AE (all8 h) (fun p : AtT=>ins_to p.1.1 p.1.2 p.2.1 p.2.2) (fun _=>rfl) (fun _=>rfl)
def startAt (c : CodeT) (i : Nat) : Bool := inV (c.starts.getD i 0) 0 (c.ins.length - 1)
def insAt (c : CodeT) (i : Nat) : Bool := insV c i (iAt c i)
def headV (c : CodeT) : Bool := sigV c.cons c.funs && !(decide (1000 < (c.ins.length : Int)) || !decide ((c.starts.length : Int) = c.funs.length))
def codeV (c : CodeT) : Bool := headV c && ((List.range c.starts.length).all (startAt c) && (List.range c.ins.length).all (insAt c))
theorem code_to (c : CodeT) (hf : Fits c) : CallTo (EK K9) 24 [.agg (encC c)] S0 (.bool (codeV c)) := by
 refine Ax (fn := Tryz.f24) rfl rfl (by kernel_rfl) rfl rfl rfl rfl ?_
 have hno : headV c = false → codeV c = false := fun h => by unfold codeV; rw [h]; rfl
 have hcn := hf.cnames
 have hfn := hf.fnames
 have hl1 := hf.starts
 have hl2 := hf.ins
 focus
  refine Es <| Lo (Az 1 rfl rfl rfl rfl) rfl <| qa rfl <| Ld <| Ab <| Es <| Lq (of Ep rfl) rfl <| Lo (A7 rfl ag_24 sz_24 rfl rfl (Qc rfl)) rfl ?_
  refine Lo (Ag rfl rfl (by kernel_rfl) rfl (Ae (hit_59 (by first | assumption | omega | (simp only [LL]; omega)) (by first | assumption | omega | (simp only [LL]; omega))))) rfl ?_
  refine Lq (on rfl) rfl <| qm rfl ?_
  refine Lb rfl (fun g1 => ?_) (fun g1 => ?_)
  have h1 := DK g1
  iterate 4 refine Lk rfl ‹_› ?_
  refine Lq (oT rfl ‹_› rfl) rfl <| qm rfl ?_
  iterate 8 refine Lk rfl rfl ?_
  refine Lq (oT rfl rfl rfl) rfl <| Ld <| Ah rfl rfl <| Es <| qa rfl <| Ld ?_
  refine Aa (Er rfl ?_)
  refine Ad ?_
  rotate_left
  have h1 := DL g1
  refine Lh rfl ‹_› (of Bd rfl) <| Lg rfl ‹_› (l1 BW BV rfl) <| Lh rfl ‹_› (ol u_25 rfl) <| Lh rfl ‹_› (o2 u_3 rfl rfl) <| Lq (oF rfl ‹_› rfl) rfl <| qm rfl ?_
  refine Lb rfl (fun g2 => ?_) (fun g2 => ?_)
  have h2 := dT g2
  iterate 8 refine Lk rfl ‹_› ?_
  refine Lq (oT rfl ‹_› rfl) rfl <| Ld <| Ah rfl rfl <| Es <| qa rfl <| Ld ?_
  refine Aa (Er rfl ?_)
  refine Ad ?_
  rotate_left
  have h2 := dF g2
  refine Lh rfl ‹_› (of f_28_2 rfl) <| Lg rfl ‹_› (l1 BK BJ rfl) <| Lh rfl ‹_› (ol DO rfl) <| Lh rfl ‹_› (of Ep rfl) <| Lh rfl ‹_› (of BT rfl) <| Lg rfl ‹_› (l1 Bp Bo rfl) <| Lh rfl ‹_› (ol DF rfl) <| Lh rfl ‹_› (o2 u_3 rfl rfl) ?_
  refine Lq (oF rfl ‹_› rfl) rfl <| Ld ?_
  refine Ec rfl (fun g3 => ?_) (fun g3 => ?_)
  have h3 := nT g3
  refine Es <| qa rfl <| Ld ?_
  refine Aa (Er rfl ?_)
  refine Ad ?_
  rotate_left
  have h3 := nF g3
  refine Ac <| Ab <| Es <| qa rfl <| Ld <| Ai ?_
  rotate_left
 ·rw [hno (by unfold headV; rw [h1]; rfl)]
 ·rw [hno (by unfold headV; rw [g2]; simp)]
 ·rw [hno (by unfold headV; rw [decide_eq_false h3]; simp)]
 have hhd : headV c = true := by unfold headV; rw [h1, g2, decide_eq_true h3]; rfl
 refine Aw (fun i : Nat => ([(3, .int .i64 (i : Nat)), (1, .ptr 0 0)], mkS 1 0 [] [(0, some (.cells (encC c) 28 false))])) (fun i => c.starts.length - i) (fun i => i ≤ c.starts.length ∧ (List.range i).all (startAt c) = true) 0 ⟨Qo _, rfl⟩ rfl (by (refine Am.Ap ?_; repeat (first | exact trivial | refine ⟨rfl, ?_⟩))) ?_
 rintro i ⟨hi, hs⟩
 dsimp only at hi hs ⊢
 by_cases h : i < c.starts.length
 ·have hp := A1 B5 h
  have hat : startAt c i = inV c.starts[i] 0 (c.ins.length - 1) := by unfold startAt; rw [BD h]
  focus
   refine Ab <| Es <| qm rfl <| Lq (of f_28_2 rfl) rfl <| Lo (l1 BK BJ rfl) rfl <| Lq (ol DO rfl) rfl <| Lq (o2 u_3 rfl rfl) rfl <| Ld ?_
   refine Ec rfl (fun g4 => ?_) (fun g4 => ?_)
   have h4 := dT g4
   refine Ac <| Ab <| Ai <| Av (by kernel_rfl) <| Nq (of f_28_2 rfl) rfl <| AP rfl BK BJ rfl rfl rfl (by kernel_rfl) (.inl rfl) rfl rfl <| Nq (om rfl) rfl <| Nq (Af rfl DO AY rfl rfl ‹_›) rfl ?_
   refine Nq (A3 rfl rfl Bj AY) rfl <| Nq (of Bd rfl) rfl <| AP rfl BW BV rfl rfl rfl (by kernel_rfl) (.inl rfl) rfl rfl <| Nq (ol u_25 rfl) rfl <| Nq (Ef rfl u_3 rfl rfl (by omega)) rfl ?_
   refine E6 (BC rfl rfl (by kernel_rfl) rfl (hit_43)) (.inl rfl) rfl rfl <| Nq (on rfl) rfl <| Ay ?_
   refine Ec rfl (fun g5 => ?_) (fun g5 => ?_)
   have h5 := DK g5
   refine Es <| qa rfl <| Ld ?_
   refine Aa (Er rfl ?_)
   refine Ad ?_
   rotate_left
   have h5 := DL g5
   refine Ac <| Ao <| qm rfl ?_
   refine Lq (At (b := 1) rfl u_3 rfl rfl (by first | assumption | omega | (simp only [LL]; omega))) rfl ?_
   refine qa rfl <| Ld ?_
   rotate_left
   have h4 := dF g4
   exact absurd h4 (by omega)
  ·unfold codeV; rw [ra_no h (hat.trans h5), Bool.false_and, Bool.and_false]
  ·exact ⟨i + 1, ⟨h, DT hs (hat.trans h5)⟩, by show c.starts.length - (i + 1) < c.starts.length - i; omega, rfl, rfl, by (refine Am.Ap ?_; repeat (first | exact trivial | refine ⟨rfl, ?_⟩))⟩
 ·focus
   refine Ab <| Es <| qm rfl <| Lq (of f_28_2 rfl) rfl <| Lo (l1 BK BJ rfl) rfl <| Lq (ol DO rfl) rfl <| Lq (o2 u_3 rfl rfl) rfl <| Ld ?_
   refine Ec rfl (fun g4 => ?_) (fun g4 => ?_)
   have h4 := dT g4
   exact absurd h4 (by omega)
   have h4 := dF g4
   refine A5 <| AX rfl <| Ab <| Es <| qa rfl <| Ld <| Ai ?_
   rotate_left
  obtain rfl : i = c.starts.length := by omega
  refine Aw (fun i : Nat => ([(4, .int .i64 (i : Nat)), (1, .ptr 0 0)], mkS 1 0 [] [(0, some (.cells (encC c) 28 false))])) (fun i => c.ins.length - i) (fun i => i ≤ c.ins.length ∧ (List.range i).all (insAt c) = true) 0 ⟨Qo _, rfl⟩ rfl (by (refine Am.Ap ?_; repeat (first | exact trivial | refine ⟨rfl, ?_⟩))) ?_
  rintro j ⟨hj, hs2⟩
  dsimp only at hj hs2 ⊢
  by_cases h' : j < c.ins.length
  ·have hat : insAt c j = insV c j c.ins[j] := by unfold insAt; rw [iAt_eq h']
   focus
    refine Ab <| Es <| qm rfl <| Lq (of Bd rfl) rfl <| Lo (l1 BW BV rfl) rfl <| Lq (ol u_25 rfl) rfl <| Lq (o2 u_3 rfl rfl) rfl <| Ld ?_
    refine Ec rfl (fun g5 => ?_) (fun g5 => ?_)
    have h5 := dT g5
    refine Ac <| Ab <| Ai <| Es <| Lo (A7 rfl E5 E1 rfl rfl (Qc rfl)) rfl <| qm rfl ?_
    refine Lo (Ag rfl rfl (by kernel_rfl) rfl (Ae (hit_60 (by first | assumption | omega | (simp only [LL]; omega)) (by first | assumption | omega | (simp only [LL]; omega))))) rfl ?_
    refine Lq (on rfl) rfl <| Ld ?_
    refine Ec rfl (fun g6 => ?_) (fun g6 => ?_)
    have h6 := DK g6
    refine Es <| qa rfl <| Ld ?_
    refine Aa (Er rfl ?_)
    refine Ad ?_
    rotate_left
    have h6 := DL g6
    refine Ac <| Ao <| qm rfl ?_
    refine Lq (At (b := 1) rfl u_3 rfl rfl (by first | assumption | omega | (simp only [LL]; omega))) rfl ?_
    refine qa rfl <| Ld ?_
    rotate_left
    have h5 := dF g5
    exact absurd h5 (by omega)
   ·unfold codeV; rw [ra_no h' (hat.trans h6), Bool.and_false, Bool.and_false]
   ·exact ⟨j + 1, ⟨h', DT hs2 (hat.trans h6)⟩, by show c.ins.length - (j + 1) < c.ins.length - j; omega, rfl, rfl, by (refine Am.Ap ?_; repeat (first | exact trivial | refine ⟨rfl, ?_⟩))⟩
  ·focus
    refine Ab <| Es <| qm rfl <| Lq (of Bd rfl) rfl <| Lo (l1 BW BV rfl) rfl <| Lq (ol u_25 rfl) rfl <| Lq (o2 u_3 rfl rfl) rfl <| Ld ?_
    refine Ec rfl (fun g5 => ?_) (fun g5 => ?_)
    have h5 := dT g5
    exact absurd h5 (by omega)
    have h5 := dF g5
    refine A5 <| AX rfl <| Es <| qa rfl <| Ld ?_
    refine Aa (Er rfl ?_)
    refine Ad ?_
    rotate_left
   obtain rfl : j = c.ins.length := by omega
   unfold codeV; rw [hs, hs2, hhd]; rfl
abbrev FitT := { c : CodeT // Fits c }
theorem encF_inj {p q : FitT} (h : ([.agg (encC p.1)] : List AV) = [.agg (encC q.1)]) : p = q := by
 obtain ⟨a, _⟩ := p
 obtain ⟨b, _⟩ := q
 obtain rfl := encC_inj (List.cons.inj h).1
 rfl
noncomputable def K10a := addC K9 24 (fun p : FitT=>[.agg (encC p.1)]) (fun p=>.bool (codeV p.1))
theorem hit_24 {c : CodeT} (h : Fits c) : K10a 24 [.agg (encC c)] = some (.bool (codeV c)) :=
 AD (f := 24) (enc := fun p : FitT => [.agg (encC p.1)]) (res := fun p => .bool (codeV p.1)) (fun p q h => by rw [encF_inj h]) ⟨c, h⟩
theorem rcheck_to (c : CodeT) (hf : Fits c) : CallTo (EK K10a) 14 [.agg (encC c)] S0 (.int .i64 (if codeV c then 0 else 2)) := by
 refine Ax (fn := Tryz.f14) rfl rfl (by kernel_rfl) rfl rfl rfl rfl ?_
 focus
  refine Es <| Lo (Az 1 rfl rfl rfl rfl) rfl <| qa rfl <| Ld <| Ab <| Es <| Lo (A7 rfl E5 E1 rfl rfl (Qc rfl)) rfl ?_
  refine Lo (Ag rfl rfl (by kernel_rfl) rfl (Ae (hit_24 (by first | assumption | omega | (simp only [LL]; omega))))) rfl ?_
  refine Lq (on rfl) rfl <| Ld ?_
  refine Ec rfl (fun g1 => ?_) (fun g1 => ?_)
  have h1 := DK g1
  refine Es <| qa rfl <| Ld ?_
  refine Aa (Er rfl ?_)
  rotate_left
  have h1 := DL g1
  refine Ac <| Es <| qa rfl <| Ld ?_
  refine Aa (Er rfl ?_)
  rotate_left
 ·rw [h1]; rfl
 ·rw [h1]; rfl
noncomputable def K10 := addC K10a 14 (fun p : FitT=>[.agg (encC p.1)]) (fun p=>.int .i64 (if codeV p.1 then 0 else 2))
theorem all10 (h : KnownF Tryz.prog 10 [] (.bool true)) : KnownAll Tryz.prog K10 :=
 BH AE (BH AE (all9 h) (fun p : FitT => code_to p.1 p.2) (fun _ => rfl) (fun _ => rfl)) (fun p : FitT => rcheck_to p.1 p.2) (fun _ => rfl) (fun _ => rfl)
def rgV (x : InsT) : Bool := !decide (x.a = 0)
def csV (x : InsT) : Bool := decide (0 < (x.alts.length : Int))
def tgV (x : InsT) : Bool := decide (0 < (x.to.length : Int))
def ndV (x : InsT) : Bool := !nodeV x
def sh1 (x : InsT) : Bool := decide (x.op = 1) && (!tgV x && !ndV x)
def sh2 (x : InsT) : Bool := decide (x.op = 2) && (!rgV x && (!csV x && !ndV x))
def sh3 (x : InsT) : Bool := decide (x.op = 3) && (!rgV x && (!csV x && (!tgV x && !ndV x)))
def sh4 (x : InsT) : Bool := decide (x.op = 4) && (!rgV x && (!csV x && (!tgV x && !ndV x)))
def sh5 (x : InsT) : Bool := decide (x.op = 5) && (!rgV x && (!csV x && !tgV x))
def sh6 (x : InsT) : Bool := decide (x.op = 6) && (!csV x && (!tgV x && !ndV x))
inductive ShT where
 | looks (reg : Int) (alts : List AltT)
 | goes (to : List Int)
 | fails
 | frees
 | makes (op n : Int) (args : List Int)
 | enters (reg : Int)
 | no
def shA : ShT → AV
 | .looks r l => .iface 114 (.agg [.int .i64 r, recs encA 2 l])
 | .goes l => .iface 117 (.agg [recs encZ 1 l])
 | .fails => .iface 166 (.agg [])
 | .frees => .iface 167 (.agg [])
 | .makes o n l => .iface 119 (.agg [.int .i64 o, .int .i64 n, recs encZ 1 l])
 | .enters r => .iface 121 (.agg [.int .i64 r])
 | .no => .niliface
def shapeV (x : InsT) : ShT :=
 if sh1 x then .looks x.a x.alts else if sh2 x then .goes x.to else if sh3 x then .fails else if sh4 x then .frees else if sh5 x then .makes x.term x.n x.args else if sh6 x then .enters x.a else .no
theorem len_pos {α : Type} {l : List α} : decide (0 < (l.length : Int)) = !decide ((l.length : Int) = 0) := by
 cases l with
 | nil => rfl
 | cons a l => simp; omega
theorem shaped_to (x : InsT) : CallTo (EK K10) 51 [.agg (encI x)] S0 (shA (shapeV x)) := by
 refine Ax (fn := Tryz.f51) rfl rfl (by kernel_rfl) rfl rfl rfl rfl <| Es <| Lo (Az 1 rfl rfl rfl rfl) rfl <| qa rfl <| Ld ?_
 refine Ds [(6, .bool (ndV x)), (5, .bool (tgV x)), (4, .bool (csV x)), (3, .bool (rgV x)), (2, .niliface), (1, .ptr 0 0)] (mkS 1 0 [] [(0, some (.cells (encI x) 58 false))]) ?_ ?_
 ·focus
   refine EN (by kernel_rfl) <| Nq (of f_58_1 rfl) rfl <| AP rfl Bj AY rfl rfl rfl (by kernel_rfl) (.inl rfl) rfl rfl <| Nq (o2 u_3 rfl rfl) rfl <| Nq (of DG rfl) rfl <| AP rfl Fh EO rfl rfl rfl (by kernel_rfl) (.inl rfl) rfl rfl <| Nq (ol u_56 rfl) rfl <| Nq (o2 u_3 rfl rfl) rfl ?_
   refine Nq (of f_58_3 rfl) rfl <| AP rfl BK BJ rfl rfl rfl (by kernel_rfl) (.inl rfl) rfl rfl <| Nq (ol DO rfl) rfl <| Nq (o2 u_3 rfl rfl) rfl <| Nq (of f_58_4 rfl) rfl <| AP rfl ag_37 sz_37 rfl rfl rfl (by kernel_rfl) (.inl rfl) rfl rfl <| Nq (o2 u_37 rfl rfl) rfl <| Nq (om rfl) rfl ?_
   refine DC rfl rfl rfl rfl (fun g1 => ?_) (fun g1 => ?_)
   have h1 := nT g1
   iterate 3 refine Nk rfl ‹_› ?_
   refine Nq (oT rfl ‹_› rfl) rfl <| Nq (om rfl) rfl ?_
   iterate 4 refine Nk rfl rfl ?_
   refine Nq (oT rfl rfl rfl) rfl ?_
   iterate 4 refine Nq (oa rfl) rfl ?_
   refine Ay ?_
   rotate_left
   have h1 := nF g1
   refine Ng rfl ‹_› (of BS rfl) <| AP rfl Bj AY rfl rfl rfl (by kernel_rfl) (AW rfl rfl rfl rfl ‹_›) rfl rfl <| Ng rfl ‹_› (o2 u_3 rfl rfl) <| Nq (oF rfl ‹_› rfl) rfl <| Nq (om rfl) rfl ?_
   refine DC rfl rfl rfl rfl (fun g2 => ?_) (fun g2 => ?_)
   have h2 := nT g2
   iterate 4 refine Nk rfl ‹_› ?_
   refine Nq (oT rfl ‹_› rfl) rfl ?_
   iterate 4 refine Nq (oa rfl) rfl ?_
   refine Ay ?_
   rotate_left
   have h2 := nF g2
   refine Ng rfl ‹_› (of f_58_6 rfl) <| AP rfl BK BJ rfl rfl rfl (by kernel_rfl) (AW rfl rfl rfl rfl ‹_›) rfl rfl <| Ng rfl ‹_› (ol DO rfl) <| Ng rfl ‹_› (o2 u_3 rfl rfl) <| Nq (oF rfl ‹_› rfl) rfl ?_
   iterate 4 refine Nq (oa rfl) rfl ?_
   refine Ay ?_
   rotate_left
  ·refine ⟨rfl, rfl, rfl, ?_⟩
   have e : ndV x = true := by unfold ndV nodeV; rw [decide_eq_false h1]; rfl
   rw [e]
   (refine Am.Ap ?_; repeat (first | exact trivial | refine ⟨rfl, ?_⟩))
  ·refine ⟨rfl, rfl, rfl, ?_⟩
   have e : ndV x = true := by unfold ndV nodeV; rw [decide_eq_true h1, decide_eq_false h2]; rfl
   rw [e]
   (refine Am.Ap ?_; repeat (first | exact trivial | refine ⟨rfl, ?_⟩))
  ·refine ⟨rfl, rfl, rfl, ?_⟩
   have e : ndV x = decide (0 < (x.args.length : Int)) := by unfold ndV nodeV; rw [decide_eq_true h1, decide_eq_true h2, len_pos]; rfl
   rw [e]
   (refine Am.Ap ?_; repeat (first | exact trivial | refine ⟨rfl, ?_⟩))
 refine Ab <| Ai ?_
 refine Ds [(32, .bool (sh1 x)), (6, .bool (ndV x)), (5, .bool (tgV x)), (4, .bool (csV x)), (3, .bool (rgV x)), (2, .niliface), (1, .ptr 0 0)] (mkS 1 0 [] [(0, some (.cells (encI x) 58 false))]) ?_ ?_
 ·focus
   refine Ao <| Lq (of f_58_0 rfl) rfl <| Lo (l1 ag_55 sz_55 rfl) rfl <| Lq (o2 u_55 rfl rfl) rfl <| qm rfl ?_
   refine Lb rfl (fun g1 => ?_) (fun g1 => ?_)
   have h1 := dT g1
   refine Lh rfl ‹_› (om rfl) <| Lh rfl ‹_› (on rfl) <| Lq (oT rfl ‹_› rfl) rfl <| qm rfl ?_
   refine Lb rfl (fun g2 => ?_) (fun g2 => ?_)
   have h2 := DK g2
   refine Lh rfl ‹_› (om rfl) <| Lh rfl ‹_› (on rfl) <| Lq (oT rfl ‹_› rfl) rfl <| qa rfl <| Ld ?_
   rotate_left
   have h2 := DL g2
   iterate 2 refine Lk rfl ‹_› ?_
   refine Lq (oF rfl ‹_› rfl) rfl <| qa rfl <| Ld ?_
   rotate_left
   have h1 := dF g1
   iterate 2 refine Lk rfl ‹_› ?_
   refine Lq (oF rfl ‹_› rfl) rfl <| qm rfl ?_
   iterate 2 refine Lk rfl rfl ?_
   refine Lq (oF rfl rfl rfl) rfl <| qa rfl <| Ld ?_
   rotate_left
  ·refine ⟨rfl, rfl, rfl, ?_⟩
   have e : sh1 x = (!ndV x) := by unfold sh1; rw [g1, g2]; rfl
   rw [e]
   (refine Am.Ap ?_; repeat (first | exact trivial | refine ⟨rfl, ?_⟩))
  ·refine ⟨rfl, rfl, rfl, ?_⟩
   have e : sh1 x = (false) := by unfold sh1; rw [g1, g2]; rfl
   rw [e]
   (refine Am.Ap ?_; repeat (first | exact trivial | refine ⟨rfl, ?_⟩))
  ·refine ⟨rfl, rfl, rfl, ?_⟩
   have e : sh1 x = (false) := by unfold sh1; rw [g1]; rfl
   rw [e]
   (refine Am.Ap ?_; repeat (first | exact trivial | refine ⟨rfl, ?_⟩))
 refine Ec rfl (fun g1 => ?_) (fun g1 => ?_)
 ·refine Es ?_
  refine Lq (of f_58_1 rfl) rfl <| Lo (l1 Bj AY rfl) rfl <| Lq (of DG rfl) rfl <| Lo (l1 Fh EO rfl) rfl <| Lq (Dc rfl pl_114 rfl rfl) rfl <| Lq (D1 rfl Eo rfl) rfl <| qa rfl <| Ld ?_
  refine Aa (Er rfl ?_)
  unfold shapeV
  rw [g1]; rfl
 skip
 refine Ds [(50, .bool (sh2 x)), (6, .bool (ndV x)), (5, .bool (tgV x)), (4, .bool (csV x)), (3, .bool (rgV x)), (2, .niliface), (1, .ptr 0 0)] (mkS 1 0 [] [(0, some (.cells (encI x) 58 false))]) ?_ ?_
 ·focus
   refine Ao <| Lq (of f_58_0 rfl) rfl <| Lo (l1 ag_55 sz_55 rfl) rfl <| Lq (o2 u_55 rfl rfl) rfl <| qm rfl ?_
   refine Lb rfl (fun g2 => ?_) (fun g2 => ?_)
   have h2 := dT g2
   refine Lh rfl ‹_› (om rfl) <| Lh rfl ‹_› (on rfl) <| Lq (oT rfl ‹_› rfl) rfl <| qm rfl ?_
   refine Lb rfl (fun g3 => ?_) (fun g3 => ?_)
   have h3 := DK g3
   refine Lh rfl ‹_› (om rfl) <| Lh rfl ‹_› (on rfl) <| Lq (oT rfl ‹_› rfl) rfl <| qm rfl ?_
   refine Lb rfl (fun g4 => ?_) (fun g4 => ?_)
   have h4 := DK g4
   refine Lh rfl ‹_› (om rfl) <| Lh rfl ‹_› (on rfl) <| Lq (oT rfl ‹_› rfl) rfl <| qa rfl <| Ld ?_
   rotate_left
   have h4 := DL g4
   iterate 2 refine Lk rfl ‹_› ?_
   refine Lq (oF rfl ‹_› rfl) rfl <| qa rfl <| Ld ?_
   rotate_left
   have h3 := DL g3
   iterate 2 refine Lk rfl ‹_› ?_
   refine Lq (oF rfl ‹_› rfl) rfl <| qm rfl ?_
   iterate 2 refine Lk rfl rfl ?_
   refine Lq (oF rfl rfl rfl) rfl <| qa rfl <| Ld ?_
   rotate_left
   have h2 := dF g2
   iterate 2 refine Lk rfl ‹_› ?_
   refine Lq (oF rfl ‹_› rfl) rfl <| qm rfl ?_
   iterate 2 refine Lk rfl rfl ?_
   refine Lq (oF rfl rfl rfl) rfl <| qm rfl ?_
   iterate 2 refine Lk rfl rfl ?_
   refine Lq (oF rfl rfl rfl) rfl <| qa rfl <| Ld ?_
   rotate_left
  ·refine ⟨rfl, rfl, rfl, ?_⟩
   have e : sh2 x = (!ndV x) := by unfold sh2; rw [g2, g3, g4]; rfl
   rw [e]
   (refine Am.Ap ?_; repeat (first | exact trivial | refine ⟨rfl, ?_⟩))
  ·refine ⟨rfl, rfl, rfl, ?_⟩
   have e : sh2 x = (false) := by unfold sh2; rw [g2, g3, g4]; rfl
   rw [e]
   (refine Am.Ap ?_; repeat (first | exact trivial | refine ⟨rfl, ?_⟩))
  ·refine ⟨rfl, rfl, rfl, ?_⟩
   have e : sh2 x = (false) := by unfold sh2; rw [g2, g3]; rfl
   rw [e]
   (refine Am.Ap ?_; repeat (first | exact trivial | refine ⟨rfl, ?_⟩))
  ·refine ⟨rfl, rfl, rfl, ?_⟩
   have e : sh2 x = (false) := by unfold sh2; rw [g2]; rfl
   rw [e]
   (refine Am.Ap ?_; repeat (first | exact trivial | refine ⟨rfl, ?_⟩))
 refine Ec rfl (fun g2 => ?_) (fun g2 => ?_)
 ·refine Es ?_
  refine Lq (of f_58_3 rfl) rfl <| Lo (l1 BK BJ rfl) rfl <| Lq (Dc rfl pl_117 rfl rfl) rfl <| Lq (D1 rfl if_117 rfl) rfl <| qa rfl <| Ld ?_
  refine Aa (Er rfl ?_)
  unfold shapeV
  rw [g1, g2]; rfl
 skip
 refine Ds [(70, .bool (sh3 x)), (6, .bool (ndV x)), (5, .bool (tgV x)), (4, .bool (csV x)), (3, .bool (rgV x)), (2, .niliface), (1, .ptr 0 0)] (mkS 1 0 [] [(0, some (.cells (encI x) 58 false))]) ?_ ?_
 ·focus
   refine Ao <| Lq (of f_58_0 rfl) rfl <| Lo (l1 ag_55 sz_55 rfl) rfl <| Lq (o2 u_55 rfl rfl) rfl <| qm rfl ?_
   refine Lb rfl (fun g3 => ?_) (fun g3 => ?_)
   have h3 := dT g3
   refine Lh rfl ‹_› (om rfl) <| Lh rfl ‹_› (on rfl) <| Lq (oT rfl ‹_› rfl) rfl <| qm rfl ?_
   refine Lb rfl (fun g4 => ?_) (fun g4 => ?_)
   have h4 := DK g4
   refine Lh rfl ‹_› (om rfl) <| Lh rfl ‹_› (on rfl) <| Lq (oT rfl ‹_› rfl) rfl <| qm rfl ?_
   refine Lb rfl (fun g5 => ?_) (fun g5 => ?_)
   have h5 := DK g5
   refine Lh rfl ‹_› (om rfl) <| Lh rfl ‹_› (on rfl) <| Lq (oT rfl ‹_› rfl) rfl <| qm rfl ?_
   refine Lb rfl (fun g6 => ?_) (fun g6 => ?_)
   have h6 := DK g6
   refine Lh rfl ‹_› (om rfl) <| Lh rfl ‹_› (on rfl) <| Lq (oT rfl ‹_› rfl) rfl <| qa rfl <| Ld ?_
   rotate_left
   have h6 := DL g6
   iterate 2 refine Lk rfl ‹_› ?_
   refine Lq (oF rfl ‹_› rfl) rfl <| qa rfl <| Ld ?_
   rotate_left
   have h5 := DL g5
   iterate 2 refine Lk rfl ‹_› ?_
   refine Lq (oF rfl ‹_› rfl) rfl <| qm rfl ?_
   iterate 2 refine Lk rfl rfl ?_
   refine Lq (oF rfl rfl rfl) rfl <| qa rfl <| Ld ?_
   rotate_left
   have h4 := DL g4
   iterate 2 refine Lk rfl ‹_› ?_
   refine Lq (oF rfl ‹_› rfl) rfl <| qm rfl ?_
   iterate 2 refine Lk rfl rfl ?_
   refine Lq (oF rfl rfl rfl) rfl <| qm rfl ?_
   iterate 2 refine Lk rfl rfl ?_
   refine Lq (oF rfl rfl rfl) rfl <| qa rfl <| Ld ?_
   rotate_left
   have h3 := dF g3
   iterate 2 refine Lk rfl ‹_› ?_
   refine Lq (oF rfl ‹_› rfl) rfl <| qm rfl ?_
   iterate 2 refine Lk rfl rfl ?_
   refine Lq (oF rfl rfl rfl) rfl <| qm rfl ?_
   iterate 2 refine Lk rfl rfl ?_
   refine Lq (oF rfl rfl rfl) rfl <| qm rfl ?_
   iterate 2 refine Lk rfl rfl ?_
   refine Lq (oF rfl rfl rfl) rfl <| qa rfl <| Ld ?_
   rotate_left
  ·refine ⟨rfl, rfl, rfl, ?_⟩
   have e : sh3 x = (!ndV x) := by unfold sh3; rw [g3, g4, g5, g6]; rfl
   rw [e]
   (refine Am.Ap ?_; repeat (first | exact trivial | refine ⟨rfl, ?_⟩))
  ·refine ⟨rfl, rfl, rfl, ?_⟩
   have e : sh3 x = (false) := by unfold sh3; rw [g3, g4, g5, g6]; rfl
   rw [e]
   (refine Am.Ap ?_; repeat (first | exact trivial | refine ⟨rfl, ?_⟩))
  ·refine ⟨rfl, rfl, rfl, ?_⟩
   have e : sh3 x = (false) := by unfold sh3; rw [g3, g4, g5]; rfl
   rw [e]
   (refine Am.Ap ?_; repeat (first | exact trivial | refine ⟨rfl, ?_⟩))
  ·refine ⟨rfl, rfl, rfl, ?_⟩
   have e : sh3 x = (false) := by unfold sh3; rw [g3, g4]; rfl
   rw [e]
   (refine Am.Ap ?_; repeat (first | exact trivial | refine ⟨rfl, ?_⟩))
  ·refine ⟨rfl, rfl, rfl, ?_⟩
   have e : sh3 x = (false) := by unfold sh3; rw [g3]; rfl
   rw [e]
   (refine Am.Ap ?_; repeat (first | exact trivial | refine ⟨rfl, ?_⟩))
 refine Ec rfl (fun g3 => ?_) (fun g3 => ?_)
 ·refine Es ?_
  refine Lq (Dc rfl pl_166 rfl rfl) rfl <| Lq (D1 rfl if_166 rfl) rfl <| qa rfl <| Ld ?_
  refine Aa (Er rfl ?_)
  unfold shapeV
  rw [g1, g2, g3]; rfl
 skip
 refine Ds [(92, .bool (sh4 x)), (6, .bool (ndV x)), (5, .bool (tgV x)), (4, .bool (csV x)), (3, .bool (rgV x)), (2, .niliface), (1, .ptr 0 0)] (mkS 1 0 [] [(0, some (.cells (encI x) 58 false))]) ?_ ?_
 ·focus
   refine Ao <| Lq (of f_58_0 rfl) rfl <| Lo (l1 ag_55 sz_55 rfl) rfl <| Lq (o2 u_55 rfl rfl) rfl <| qm rfl ?_
   refine Lb rfl (fun g4 => ?_) (fun g4 => ?_)
   have h4 := dT g4
   refine Lh rfl ‹_› (om rfl) <| Lh rfl ‹_› (on rfl) <| Lq (oT rfl ‹_› rfl) rfl <| qm rfl ?_
   refine Lb rfl (fun g5 => ?_) (fun g5 => ?_)
   have h5 := DK g5
   refine Lh rfl ‹_› (om rfl) <| Lh rfl ‹_› (on rfl) <| Lq (oT rfl ‹_› rfl) rfl <| qm rfl ?_
   refine Lb rfl (fun g6 => ?_) (fun g6 => ?_)
   have h6 := DK g6
   refine Lh rfl ‹_› (om rfl) <| Lh rfl ‹_› (on rfl) <| Lq (oT rfl ‹_› rfl) rfl <| qm rfl ?_
   refine Lb rfl (fun g7 => ?_) (fun g7 => ?_)
   have h7 := DK g7
   refine Lh rfl ‹_› (om rfl) <| Lh rfl ‹_› (on rfl) <| Lq (oT rfl ‹_› rfl) rfl <| qa rfl <| Ld ?_
   rotate_left
   have h7 := DL g7
   iterate 2 refine Lk rfl ‹_› ?_
   refine Lq (oF rfl ‹_› rfl) rfl <| qa rfl <| Ld ?_
   rotate_left
   have h6 := DL g6
   iterate 2 refine Lk rfl ‹_› ?_
   refine Lq (oF rfl ‹_› rfl) rfl <| qm rfl ?_
   iterate 2 refine Lk rfl rfl ?_
   refine Lq (oF rfl rfl rfl) rfl <| qa rfl <| Ld ?_
   rotate_left
   have h5 := DL g5
   iterate 2 refine Lk rfl ‹_› ?_
   refine Lq (oF rfl ‹_› rfl) rfl <| qm rfl ?_
   iterate 2 refine Lk rfl rfl ?_
   refine Lq (oF rfl rfl rfl) rfl <| qm rfl ?_
   iterate 2 refine Lk rfl rfl ?_
   refine Lq (oF rfl rfl rfl) rfl <| qa rfl <| Ld ?_
   rotate_left
   have h4 := dF g4
   iterate 2 refine Lk rfl ‹_› ?_
   refine Lq (oF rfl ‹_› rfl) rfl <| qm rfl ?_
   iterate 2 refine Lk rfl rfl ?_
   refine Lq (oF rfl rfl rfl) rfl <| qm rfl ?_
   iterate 2 refine Lk rfl rfl ?_
   refine Lq (oF rfl rfl rfl) rfl <| qm rfl ?_
   iterate 2 refine Lk rfl rfl ?_
   refine Lq (oF rfl rfl rfl) rfl <| qa rfl <| Ld ?_
   rotate_left
  ·refine ⟨rfl, rfl, rfl, ?_⟩
   have e : sh4 x = (!ndV x) := by unfold sh4; rw [g4, g5, g6, g7]; rfl
   rw [e]
   (refine Am.Ap ?_; repeat (first | exact trivial | refine ⟨rfl, ?_⟩))
  ·refine ⟨rfl, rfl, rfl, ?_⟩
   have e : sh4 x = (false) := by unfold sh4; rw [g4, g5, g6, g7]; rfl
   rw [e]
   (refine Am.Ap ?_; repeat (first | exact trivial | refine ⟨rfl, ?_⟩))
  ·refine ⟨rfl, rfl, rfl, ?_⟩
   have e : sh4 x = (false) := by unfold sh4; rw [g4, g5, g6]; rfl
   rw [e]
   (refine Am.Ap ?_; repeat (first | exact trivial | refine ⟨rfl, ?_⟩))
  ·refine ⟨rfl, rfl, rfl, ?_⟩
   have e : sh4 x = (false) := by unfold sh4; rw [g4, g5]; rfl
   rw [e]
   (refine Am.Ap ?_; repeat (first | exact trivial | refine ⟨rfl, ?_⟩))
  ·refine ⟨rfl, rfl, rfl, ?_⟩
   have e : sh4 x = (false) := by unfold sh4; rw [g4]; rfl
   rw [e]
   (refine Am.Ap ?_; repeat (first | exact trivial | refine ⟨rfl, ?_⟩))
 refine Ec rfl (fun g4 => ?_) (fun g4 => ?_)
 ·refine Es ?_
  refine Lq (Dc rfl pl_167 rfl rfl) rfl <| Lq (D1 rfl if_167 rfl) rfl <| qa rfl <| Ld ?_
  refine Aa (Er rfl ?_)
  unfold shapeV
  rw [g1, g2, g3, g4]; rfl
 skip
 refine Ds [(114, .bool (sh5 x)), (6, .bool (ndV x)), (5, .bool (tgV x)), (4, .bool (csV x)), (3, .bool (rgV x)), (2, .niliface), (1, .ptr 0 0)] (mkS 1 0 [] [(0, some (.cells (encI x) 58 false))]) ?_ ?_
 ·focus
   refine Ao <| Lq (of f_58_0 rfl) rfl <| Lo (l1 ag_55 sz_55 rfl) rfl <| Lq (o2 u_55 rfl rfl) rfl <| qm rfl ?_
   refine Lb rfl (fun g5 => ?_) (fun g5 => ?_)
   have h5 := dT g5
   refine Lh rfl ‹_› (om rfl) <| Lh rfl ‹_› (on rfl) <| Lq (oT rfl ‹_› rfl) rfl <| qm rfl ?_
   refine Lb rfl (fun g6 => ?_) (fun g6 => ?_)
   have h6 := DK g6
   refine Lh rfl ‹_› (om rfl) <| Lh rfl ‹_› (on rfl) <| Lq (oT rfl ‹_› rfl) rfl <| qm rfl ?_
   refine Lb rfl (fun g7 => ?_) (fun g7 => ?_)
   have h7 := DK g7
   refine Lh rfl ‹_› (om rfl) <| Lh rfl ‹_› (on rfl) <| Lq (oT rfl ‹_› rfl) rfl <| qa rfl <| Ld ?_
   rotate_left
   have h7 := DL g7
   iterate 2 refine Lk rfl ‹_› ?_
   refine Lq (oF rfl ‹_› rfl) rfl <| qa rfl <| Ld ?_
   rotate_left
   have h6 := DL g6
   iterate 2 refine Lk rfl ‹_› ?_
   refine Lq (oF rfl ‹_› rfl) rfl <| qm rfl ?_
   iterate 2 refine Lk rfl rfl ?_
   refine Lq (oF rfl rfl rfl) rfl <| qa rfl <| Ld ?_
   rotate_left
   have h5 := dF g5
   iterate 2 refine Lk rfl ‹_› ?_
   refine Lq (oF rfl ‹_› rfl) rfl <| qm rfl ?_
   iterate 2 refine Lk rfl rfl ?_
   refine Lq (oF rfl rfl rfl) rfl <| qm rfl ?_
   iterate 2 refine Lk rfl rfl ?_
   refine Lq (oF rfl rfl rfl) rfl <| qa rfl <| Ld ?_
   rotate_left
  ·refine ⟨rfl, rfl, rfl, ?_⟩
   have e : sh5 x = (!tgV x) := by unfold sh5; rw [g5, g6, g7]; rfl
   rw [e]
   (refine Am.Ap ?_; repeat (first | exact trivial | refine ⟨rfl, ?_⟩))
  ·refine ⟨rfl, rfl, rfl, ?_⟩
   have e : sh5 x = (false) := by unfold sh5; rw [g5, g6, g7]; rfl
   rw [e]
   (refine Am.Ap ?_; repeat (first | exact trivial | refine ⟨rfl, ?_⟩))
  ·refine ⟨rfl, rfl, rfl, ?_⟩
   have e : sh5 x = (false) := by unfold sh5; rw [g5, g6]; rfl
   rw [e]
   (refine Am.Ap ?_; repeat (first | exact trivial | refine ⟨rfl, ?_⟩))
  ·refine ⟨rfl, rfl, rfl, ?_⟩
   have e : sh5 x = (false) := by unfold sh5; rw [g5]; rfl
   rw [e]
   (refine Am.Ap ?_; repeat (first | exact trivial | refine ⟨rfl, ?_⟩))
 refine Ec rfl (fun g5 => ?_) (fun g5 => ?_)
 ·refine Es ?_
  refine Lq (of f_58_4 rfl) rfl <| Lo (l1 ag_37 sz_37 rfl) rfl <| Lq (of BS rfl) rfl <| Lo (l1 Bj AY rfl) rfl <| Lq (of f_58_6 rfl) rfl <| Lo (l1 BK BJ rfl) rfl <| Lq (Dc rfl pl_119 rfl rfl) rfl <| Lq (D1 rfl if_119 rfl) rfl ?_
  refine qa rfl <| Ld ?_
  refine Aa (Er rfl ?_)
  unfold shapeV
  rw [g1, g2, g3, g4, g5]; rfl
 skip
 refine Ds [(138, .bool (sh6 x)), (6, .bool (ndV x)), (5, .bool (tgV x)), (4, .bool (csV x)), (3, .bool (rgV x)), (2, .niliface), (1, .ptr 0 0)] (mkS 1 0 [] [(0, some (.cells (encI x) 58 false))]) ?_ ?_
 ·focus
   refine Ao <| Lq (of f_58_0 rfl) rfl <| Lo (l1 ag_55 sz_55 rfl) rfl <| Lq (o2 u_55 rfl rfl) rfl <| qm rfl ?_
   refine Lb rfl (fun g6 => ?_) (fun g6 => ?_)
   have h6 := dT g6
   refine Lh rfl ‹_› (om rfl) <| Lh rfl ‹_› (on rfl) <| Lq (oT rfl ‹_› rfl) rfl <| qm rfl ?_
   refine Lb rfl (fun g7 => ?_) (fun g7 => ?_)
   have h7 := DK g7
   refine Lh rfl ‹_› (om rfl) <| Lh rfl ‹_› (on rfl) <| Lq (oT rfl ‹_› rfl) rfl <| qm rfl ?_
   refine Lb rfl (fun g8 => ?_) (fun g8 => ?_)
   have h8 := DK g8
   refine Lh rfl ‹_› (om rfl) <| Lh rfl ‹_› (on rfl) <| Lq (oT rfl ‹_› rfl) rfl <| qa rfl <| Ld ?_
   rotate_left
   have h8 := DL g8
   iterate 2 refine Lk rfl ‹_› ?_
   refine Lq (oF rfl ‹_› rfl) rfl <| qa rfl <| Ld ?_
   rotate_left
   have h7 := DL g7
   iterate 2 refine Lk rfl ‹_› ?_
   refine Lq (oF rfl ‹_› rfl) rfl <| qm rfl ?_
   iterate 2 refine Lk rfl rfl ?_
   refine Lq (oF rfl rfl rfl) rfl <| qa rfl <| Ld ?_
   rotate_left
   have h6 := dF g6
   iterate 2 refine Lk rfl ‹_› ?_
   refine Lq (oF rfl ‹_› rfl) rfl <| qm rfl ?_
   iterate 2 refine Lk rfl rfl ?_
   refine Lq (oF rfl rfl rfl) rfl <| qm rfl ?_
   iterate 2 refine Lk rfl rfl ?_
   refine Lq (oF rfl rfl rfl) rfl <| qa rfl <| Ld ?_
   rotate_left
  ·refine ⟨rfl, rfl, rfl, ?_⟩
   have e : sh6 x = (!ndV x) := by unfold sh6; rw [g6, g7, g8]; rfl
   rw [e]
   (refine Am.Ap ?_; repeat (first | exact trivial | refine ⟨rfl, ?_⟩))
  ·refine ⟨rfl, rfl, rfl, ?_⟩
   have e : sh6 x = (false) := by unfold sh6; rw [g6, g7, g8]; rfl
   rw [e]
   (refine Am.Ap ?_; repeat (first | exact trivial | refine ⟨rfl, ?_⟩))
  ·refine ⟨rfl, rfl, rfl, ?_⟩
   have e : sh6 x = (false) := by unfold sh6; rw [g6, g7]; rfl
   rw [e]
   (refine Am.Ap ?_; repeat (first | exact trivial | refine ⟨rfl, ?_⟩))
  ·refine ⟨rfl, rfl, rfl, ?_⟩
   have e : sh6 x = (false) := by unfold sh6; rw [g6]; rfl
   rw [e]
   (refine Am.Ap ?_; repeat (first | exact trivial | refine ⟨rfl, ?_⟩))
 refine Ec rfl (fun g6 => ?_) (fun g6 => ?_)
 ·refine Es ?_
  refine Lq (of f_58_1 rfl) rfl <| Lo (l1 Bj AY rfl) rfl <| Lq (Dc rfl pl_121 rfl rfl) rfl <| Lq (D1 rfl if_121 rfl) rfl <| qa rfl <| Ld ?_
  refine Aa (Er rfl ?_)
  unfold shapeV
  rw [g1, g2, g3, g4, g5, g6]; rfl
 refine Ac <| Es <| qa rfl <| Ld ?_
 refine Aa (Er rfl ?_)
 unfold shapeV
 rw [g1, g2, g3, g4, g5, g6]; rfl
section
variable {K : FuncId → List AV → Option AV} {m : Nat}
def idxP (p : Int → Bool) (l : List Int) : Int := if twA (fun x=>!p x) l < l.length then ((twA (fun x=>!p x) l : Nat) : Int) else -1
theorem idxP_any {p : Int → Bool} {l : List Int} : decide (0 ≤ idxP p l) = l.any p := by
 rw [twA_any]
 unfold idxP
 by_cases h : twA (fun x => !p x) l < l.length
 ·rw [if_pos h, decide_eq_true h, decide_eq_true (by omega)]
 ·rw [if_neg h, decide_eq_false h]; rfl
theorem index_to (hK : K 120 = fun _ => none) {g : FuncId} {cap : List AV} {p : Int → Bool} {st : St} (hb : hasBody (EKm m K) g = true)
  (hcl : ∀ s', s'.heap = st.heap → s'.next = st.next → ∀ r, CallTo (EKm m K) g (.int .i64 r :: cap) s' (.bool (p r))) (l : List Int) (hn : l.length ≤ 4000) :
  CallTo (EKm m K) 120 [recs encZ 1 l, .func (.func g) [] cap] st (.int .i64 (idxP p l)) := by
 refine Dh (fn := Tryz.f120) (by show K 120 _ = none; rw [hK]) (by kernel_rfl) rfl rfl rfl rfl (fun _ _ => rfl) (fun _ => rfl) ?_
 have hle := twA_le (fun x => !p x) l
 refine Es <| qa rfl <| Ld <| Ab <| Es <| qm rfl <| Lq (ol DO rfl) rfl <| qm rfl ?_
 refine Ld <| Ai ?_
 refine Aw (fun i : Nat => ([(8, .int .i64 (i : Nat)), (7, .int .i64 (l.length : Nat)), (1, .func (.func g) [] cap), (0, recs encZ 1 l)], st.enter)) (fun i => l.length - i) (fun i => i ≤ twA (fun x => !p x) l) 0 (Qo _) rfl (by (refine Am.Ap ?_; repeat (first | exact trivial | refine ⟨rfl, ?_⟩))) ?_
 intro i hi
 dsimp only at hi ⊢
 by_cases h : i < l.length
 ·have hp := A1 B5 h
  have hs := twA_step (p := fun x => !p x) hi (Qi h)
  focus
   refine Es <| Lq (o2 u_3 rfl rfl) rfl <| Ld <| Ab ?_
   refine Ec rfl (fun g1 => ?_) (fun g1 => ?_)
   have h1 := dT g1
   refine Ac <| Ab <| Ai <| Es <| qm rfl <| qa rfl <| Ld <| Es ?_
   iterate 3 refine qm rfl ?_
   refine Lq (Af rfl DO AY rfl rfl ‹_›) rfl <| Lq (A3 rfl rfl Bj AY) rfl ?_
   rotate_left
   have h1 := dF g1
   exact absurd h1 (by omega)
  refine Lo (Fo rfl rfl rfl hb rfl (hcl st.enter rfl rfl l[i])) rfl ?_
  focus
   refine Ld ?_
   refine Ec rfl (fun g2 => ?_) (fun g2 => ?_)
   refine Es <| qm rfl <| qa rfl <| Ld ?_
   rotate_left
   refine Ac <| Ao ?_
   refine Lq (At (b := 1) rfl u_3 rfl rfl (by first | assumption | omega | (simp only [LL]; omega))) rfl ?_
   refine qm rfl <| Ld ?_
   rotate_left
  ·refine Aa ⟨.inl rfl, rfl, rfl, _, As rfl rfl, ?_⟩
   have e : i = twA (fun x => !p x) l := by
    rw [g2] at hs
    have := mt hs.2 (by simp); omega
   unfold idxP
   rw [← e, if_pos h]; rfl
  ·refine ⟨i + 1, ?_, by show l.length - (i + 1) < l.length - i; omega, rfl, rfl, by (refine Am.Ap ?_; repeat (first | exact trivial | refine ⟨rfl, ?_⟩))⟩
   rw [g2] at hs
   have := hs.1 rfl
   omega
 ·focus
   refine Es <| Lq (o2 u_3 rfl rfl) rfl <| Ld <| Ab ?_
   refine Ec rfl (fun g1 => ?_) (fun g1 => ?_)
   have h1 := dT g1
   exact absurd h1 (by omega)
   have h1 := dF g1
   refine A5 <| AX rfl <| Es <| qa rfl <| Ld ?_
   rotate_left
  refine Aa ⟨.inl rfl, rfl, rfl, _, As rfl rfl, ?_⟩
  unfold idxP
  rw [if_neg (by omega)]; rfl
theorem containsN_to (hK : K 120 = fun _ => none) (hK2 : K 70 = fun _ => none) {g : FuncId} {cap : List AV} {st : St} :
  CallTo (EKm m K) 70 [.nilslice, .func (.func g) [] cap] st (.bool false) := by
 refine Dh (fn := Tryz.f70) (by show K 70 _ = none; rw [hK2]) (by kernel_rfl) rfl rfl rfl rfl (fun _ _ => rfl) (fun _ => rfl) ?_
 have hi : CallTo (EKm m K) 120 [.nilslice, .func (.func g) [] cap] st.enter (.int .i64 (-1)) := by
  refine Dh (fn := Tryz.f120) (by show K 120 _ = none; rw [hK]) (by kernel_rfl) rfl rfl rfl rfl (fun _ _ => rfl) (fun _ => rfl) ?_
  refine Es <| qa rfl <| Ld <| Ab <| Es <| qm rfl <| Lq (OpQ.lenNil rfl rfl rfl rfl DO rfl) rfl <| qm rfl ?_
  refine Ld <| Ai <| EvtL.loop <| Es <| Lq (o2 u_3 rfl rfl) rfl <| Ld <| Ab <| An rfl rfl ?_
  refine A5 <| AX rfl <| Es <| qa rfl <| Ld ?_
  exact Aa ⟨.inl rfl, rfl, rfl, _, As rfl rfl, rfl⟩
 refine Es <| qa rfl <| Ld <| Es ?_
 iterate 2 refine qm rfl ?_
 refine Lo (Ag rfl rfl (by kernel_rfl) rfl hi) rfl <| Lq (o2 u_3 rfl rfl) rfl <| qa rfl <| Ld ?_
 exact Aa ⟨.inl rfl, rfl, rfl, _, As rfl rfl, rfl⟩
theorem contains_to (hK : K 120 = fun _ => none) (hK2 : K 70 = fun _ => none) {g : FuncId} {cap : List AV} {p : Int → Bool} {st : St} (hb : hasBody (EKm m K) g = true)
  (hcl : ∀ s', s'.heap = st.heap → s'.next = st.next → ∀ r, CallTo (EKm m K) g (.int .i64 r :: cap) s' (.bool (p r))) (l : List Int) (hn : l.length ≤ 4000) :
  CallTo (EKm m K) 70 [recs encZ 1 l, .func (.func g) [] cap] st (.bool (l.any p)) := by
 refine Dh (fn := Tryz.f70) (by show K 70 _ = none; rw [hK2]) (by kernel_rfl) rfl rfl rfl rfl (fun _ _ => rfl) (fun _ => rfl) ?_
 have hi := index_to hK (st := st.enter) hb (fun s' h1 h2 r => hcl s' h1 h2 r) l hn
 refine Es <| qa rfl <| Ld <| Es ?_
 iterate 2 refine qm rfl ?_
 refine Lo (Ag rfl rfl (by kernel_rfl) rfl hi) rfl <| Lq (o2 u_3 rfl rfl) rfl <| qa rfl <| Ld ?_
 refine Aa ⟨.inl rfl, rfl, rfl, _, As rfl rfl, ?_⟩
 rw [← idxP_any]; rfl
end
noncomputable def K11 := addC K10 51 (fun x : InsT=>[.agg (encI x)]) (fun x=>shA (shapeV x))
theorem hit_51 {x : InsT} : K11 51 [.agg (encI x)] = some (shA (shapeV x)) :=
 AD (f := 51) (enc := fun x : InsT => [.agg (encI x)]) (res := fun x => shA (shapeV x)) (fun a b h => by rw [encI_inj _ _ (AV.agg.inj (List.cons.inj h).1)]) x
theorem shA_closed (s : ShT) : closedV 40 (shA s) = true := by cases s <;> rfl
theorem all11 (h : KnownF Tryz.prog 10 [] (.bool true)) : KnownAll Tryz.prog K11 := BH AE (all10 h) (fun x=>shaped_to x) (fun _=>rfl) (fun _=>shA_closed _)
def encM (op n : Int) (args : List Int) : AV := .agg [.int .i64 op,.int .i64 n,recs encZ 1 args]
theorem mv_pair {cons funs : List NameT} {t n : Int} {k : Nat} (ht : t = 6 ∨ t = 7 ∨ 9 ≤ t ∧ t ≤ 15) : madeV cons funs t n k = (decide (n = 0) && decide ((k : Int) = 2)) := by
 unfold madeV
 rw [if_neg (by omega), if_neg (by omega), if_neg (by omega), if_neg (by omega), if_pos ht]
theorem mv_pairT {cons funs : List NameT} {t n : Int} {k : Nat} (ht : t = 6 ∨ t = 7 ∨ 9 ≤ t ∧ t ≤ 15) (hn : n = 0) : decide ((k : Int) = 2) = madeV cons funs t n k := by rw [mv_pair ht,decide_eq_true hn]; rfl
theorem mv_pairF {cons funs : List NameT} {t n : Int} {k : Nat} (ht : t = 6 ∨ t = 7 ∨ 9 ≤ t ∧ t ≤ 15) (hn : ¬ n = 0) : false = madeV cons funs t n k := by rw [mv_pair ht,decide_eq_false hn]; rfl
theorem mv_none {cons funs : List NameT} {t n : Int} {k : Nat} (ht : ¬ (t = 2 ∨ t = 3 ∨ t = 4 ∨ t = 5 ∨ t = 6 ∨ t = 7 ∨ 9 ≤ t ∧ t ≤ 15)) : false = madeV cons funs t n k := by
 unfold madeV
 rw [if_neg (by omega), if_neg (by omega), if_neg (by omega), if_neg (by omega), if_neg (by omega)]
theorem named_to (cons funs : List NameT) (op n : Int) (args : List Int) (hc : cons.length ≤ 4000) (hf : funs.length ≤ 4000) : CallTo (EK K11) 81 [.agg [recs encN 2 cons, recs encN 2 funs], encM op n args] S0 (.bool (madeV cons funs op n args.length)) := by
 refine Ax (fn := Tryz.f81) rfl rfl (by kernel_rfl) rfl rfl rfl rfl ?_
 focus
  refine Es <| Lo (Az 1 rfl rfl rfl rfl) rfl <| Lo (Az 2 rfl rfl rfl rfl) rfl <| qa rfl <| Ld <| Es <| Lq (of f_119_2 rfl) rfl <| Lo (l1 BK BJ rfl) rfl ?_
  refine Lq (ol DO rfl) rfl <| qa rfl <| Ld <| Ab <| Es <| Lq (of f_119_0 rfl) rfl <| Lo (l1 ag_37 sz_37 rfl) rfl <| Ld ?_
  refine Ai <| Es <| Lq (o2 u_37 rfl rfl) rfl <| qa rfl <| Ld ?_
  refine Ec rfl (fun g1 => ?_) (fun g1 => ?_)
  have h1 := dT g1
  refine Es <| Lq (of BE rfl) rfl <| Lo (l1 Bj AY rfl) rfl ?_
  refine Lo (Ag rfl rfl (by kernel_rfl) rfl (Ae (hit_37))) rfl <| qm rfl ?_
  refine Lb rfl (fun g2 => ?_) (fun g2 => ?_)
  refine Lh rfl ‹_› (om rfl) <| Lh rfl ‹_› (o2 u_3 rfl rfl) <| Lq (oT rfl ‹_› rfl) rfl <| qa rfl <| Ld ?_
  refine Aa (Er rfl ?_)
  refine Ad ?_
  rotate_left
  iterate 2 refine Lk rfl ‹_› ?_
  refine Lq (oF rfl ‹_› rfl) rfl <| qa rfl <| Ld ?_
  refine Aa (Er rfl ?_)
  refine Ad ?_
  rotate_left
  have h1 := dF g1
  refine Es <| Lq (o2 u_37 rfl rfl) rfl <| qa rfl <| Ld ?_
  refine Ec rfl (fun g3 => ?_) (fun g3 => ?_)
  have h3 := dT g3
  refine Es <| Lq (of BE rfl) rfl <| Lo (l1 Bj AY rfl) rfl <| Lq (of BU rfl) rfl <| Lo (l1 Bp Bo rfl) rfl <| Lq (ol DF rfl) rfl <| Lq (Ef rfl u_3 rfl rfl (by omega)) rfl ?_
  refine Lo (Ag rfl rfl (by kernel_rfl) rfl (Ae (hit_37))) rfl <| qm rfl ?_
  refine Lb rfl (fun g4 => ?_) (fun g4 => ?_)
  refine Lh rfl ‹_› (om rfl) <| Lh rfl ‹_› (of BU rfl) <| Lg rfl ‹_› (l1 Bp Bo rfl) <| Lh rfl ‹_› (of BE rfl) <| Lg rfl ‹_› (l1 Bj AY rfl) ?_
  rotate_left
  iterate 9 refine Lk rfl ‹_› ?_
  refine Lq (oF rfl ‹_› rfl) rfl <| qa rfl <| Ld ?_
  refine Aa (Er rfl ?_)
  refine Ad ?_
  rotate_left
  have h3 := dF g3
  refine Es <| Lq (o2 u_37 rfl rfl) rfl <| qa rfl <| Ld ?_
  refine Ec rfl (fun g5 => ?_) (fun g5 => ?_)
  have h5 := dT g5
  refine Es <| Lq (of BE rfl) rfl <| Lo (l1 Bj AY rfl) rfl <| Lq (of BT rfl) rfl <| Lo (l1 Bp Bo rfl) rfl <| Lq (ol DF rfl) rfl <| Lq (Ef rfl u_3 rfl rfl (by omega)) rfl ?_
  refine Lo (Ag rfl rfl (by kernel_rfl) rfl (Ae (hit_37))) rfl <| qm rfl ?_
  refine Lb rfl (fun g6 => ?_) (fun g6 => ?_)
  refine Lh rfl ‹_› (om rfl) <| Lh rfl ‹_› (of BT rfl) <| Lg rfl ‹_› (l1 Bp Bo rfl) <| Lh rfl ‹_› (of BE rfl) <| Lg rfl ‹_› (l1 Bj AY rfl) ?_
  rotate_left
  iterate 9 refine Lk rfl ‹_› ?_
  refine Lq (oF rfl ‹_› rfl) rfl <| qa rfl <| Ld ?_
  refine Aa (Er rfl ?_)
  refine Ad ?_
  rotate_left
  have h5 := dF g5
  refine Es <| Lq (o2 u_37 rfl rfl) rfl <| qa rfl <| Ld ?_
  refine Ec rfl (fun g7 => ?_) (fun g7 => ?_)
  have h7 := dT g7
  refine Es <| Lq (of BE rfl) rfl <| Lo (l1 Bj AY rfl) rfl <| Lq (of BT rfl) rfl <| Lo (l1 Bp Bo rfl) rfl <| Lq (ol DF rfl) rfl <| Lq (Ef rfl u_3 rfl rfl (by omega)) rfl ?_
  refine Lo (Ag rfl rfl (by kernel_rfl) rfl (Ae (hit_37))) rfl <| qm rfl ?_
  refine Lb rfl (fun g8 => ?_) (fun g8 => ?_)
  refine Lh rfl ‹_› (om rfl) <| Lh rfl ‹_› (of BT rfl) <| Lg rfl ‹_› (l1 Bp Bo rfl) <| Lh rfl ‹_› (of BE rfl) <| Lg rfl ‹_› (l1 Bj AY rfl) ?_
  rotate_left
  iterate 9 refine Lk rfl ‹_› ?_
  refine Lq (oF rfl ‹_› rfl) rfl <| qa rfl <| Ld ?_
  refine Aa (Er rfl ?_)
  refine Ad ?_
  rotate_left
  have h7 := dF g7
  refine Ab <| Es <| Lq (o2 u_37 rfl rfl) rfl <| qa rfl <| Ld ?_
  refine Ec rfl (fun g9 => ?_) (fun g9 => ?_)
  have h9 := dT g9
  refine Ac <| Ah rfl ‹_› <| Es <| Lq (of BE rfl) rfl <| Lo (l1 Bj AY rfl) rfl <| Lq (o2 u_3 rfl rfl) rfl <| qm rfl ?_
  refine Lb rfl (fun g10 => ?_) (fun g10 => ?_)
  have h10 := dT g10
  refine Lh rfl ‹_› (om rfl) <| Lh rfl ‹_› (o2 u_3 rfl rfl) <| Lq (oT rfl ‹_› rfl) rfl <| qa rfl <| Ld ?_
  refine Aa (Er rfl ?_)
  refine Ad ?_
  rotate_left
  have h10 := dF g10
  iterate 2 refine Lk rfl ‹_› ?_
  refine Lq (oF rfl ‹_› rfl) rfl <| qa rfl <| Ld ?_
  refine Aa (Er rfl ?_)
  refine Ad ?_
  rotate_left
  have h9 := dF g9
  refine Es <| Lq (o2 u_37 rfl rfl) rfl <| qa rfl <| Ld ?_
  refine Ec rfl (fun g11 => ?_) (fun g11 => ?_)
  have h11 := dT g11
  refine Ac <| Ah rfl ‹_› <| Es <| Lq (of BE rfl) rfl <| Lo (l1 Bj AY rfl) rfl <| Lq (o2 u_3 rfl rfl) rfl <| qm rfl ?_
  refine Lb rfl (fun g12 => ?_) (fun g12 => ?_)
  have h12 := dT g12
  refine Lh rfl ‹_› (om rfl) <| Lh rfl ‹_› (o2 u_3 rfl rfl) <| Lq (oT rfl ‹_› rfl) rfl <| qa rfl <| Ld ?_
  refine Aa (Er rfl ?_)
  refine Ad ?_
  rotate_left
  have h12 := dF g12
  iterate 2 refine Lk rfl ‹_› ?_
  refine Lq (oF rfl ‹_› rfl) rfl <| qa rfl <| Ld ?_
  refine Aa (Er rfl ?_)
  refine Ad ?_
  rotate_left
  have h11 := dF g11
  refine Es <| Lq (o2 u_37 rfl rfl) rfl <| qa rfl <| Ld ?_
  refine Ec rfl (fun g13 => ?_) (fun g13 => ?_)
  have h13 := dT g13
  refine Ac <| Ah rfl ‹_› <| Es <| Lq (of BE rfl) rfl <| Lo (l1 Bj AY rfl) rfl <| Lq (o2 u_3 rfl rfl) rfl <| qm rfl ?_
  refine Lb rfl (fun g14 => ?_) (fun g14 => ?_)
  have h14 := dT g14
  refine Lh rfl ‹_› (om rfl) <| Lh rfl ‹_› (o2 u_3 rfl rfl) <| Lq (oT rfl ‹_› rfl) rfl <| qa rfl <| Ld ?_
  refine Aa (Er rfl ?_)
  refine Ad ?_
  rotate_left
  have h14 := dF g14
  iterate 2 refine Lk rfl ‹_› ?_
  refine Lq (oF rfl ‹_› rfl) rfl <| qa rfl <| Ld ?_
  refine Aa (Er rfl ?_)
  refine Ad ?_
  rotate_left
  have h13 := dF g13
  refine Es <| Lq (o2 u_37 rfl rfl) rfl <| qa rfl <| Ld ?_
  refine Ec rfl (fun g15 => ?_) (fun g15 => ?_)
  have h15 := dT g15
  refine Ac <| Ah rfl ‹_› <| Es <| Lq (of BE rfl) rfl <| Lo (l1 Bj AY rfl) rfl <| Lq (o2 u_3 rfl rfl) rfl <| qm rfl ?_
  refine Lb rfl (fun g16 => ?_) (fun g16 => ?_)
  have h16 := dT g16
  refine Lh rfl ‹_› (om rfl) <| Lh rfl ‹_› (o2 u_3 rfl rfl) <| Lq (oT rfl ‹_› rfl) rfl <| qa rfl <| Ld ?_
  refine Aa (Er rfl ?_)
  refine Ad ?_
  rotate_left
  have h16 := dF g16
  iterate 2 refine Lk rfl ‹_› ?_
  refine Lq (oF rfl ‹_› rfl) rfl <| qa rfl <| Ld ?_
  refine Aa (Er rfl ?_)
  refine Ad ?_
  rotate_left
  have h15 := dF g15
  refine Es <| Lq (o2 u_37 rfl rfl) rfl <| qa rfl <| Ld ?_
  refine Ec rfl (fun g17 => ?_) (fun g17 => ?_)
  have h17 := dT g17
  refine Ac <| Ah rfl ‹_› <| Es <| Lq (of BE rfl) rfl <| Lo (l1 Bj AY rfl) rfl <| Lq (o2 u_3 rfl rfl) rfl <| qm rfl ?_
  refine Lb rfl (fun g18 => ?_) (fun g18 => ?_)
  have h18 := dT g18
  refine Lh rfl ‹_› (om rfl) <| Lh rfl ‹_› (o2 u_3 rfl rfl) <| Lq (oT rfl ‹_› rfl) rfl <| qa rfl <| Ld ?_
  refine Aa (Er rfl ?_)
  refine Ad ?_
  rotate_left
  have h18 := dF g18
  iterate 2 refine Lk rfl ‹_› ?_
  refine Lq (oF rfl ‹_› rfl) rfl <| qa rfl <| Ld ?_
  refine Aa (Er rfl ?_)
  refine Ad ?_
  rotate_left
  have h17 := dF g17
  refine Es <| Lq (o2 u_37 rfl rfl) rfl <| qa rfl <| Ld ?_
  refine Ec rfl (fun g19 => ?_) (fun g19 => ?_)
  have h19 := dT g19
  refine Ac <| Ah rfl ‹_› <| Es <| Lq (of BE rfl) rfl <| Lo (l1 Bj AY rfl) rfl <| Lq (o2 u_3 rfl rfl) rfl <| qm rfl ?_
  refine Lb rfl (fun g20 => ?_) (fun g20 => ?_)
  have h20 := dT g20
  refine Lh rfl ‹_› (om rfl) <| Lh rfl ‹_› (o2 u_3 rfl rfl) <| Lq (oT rfl ‹_› rfl) rfl <| qa rfl <| Ld ?_
  refine Aa (Er rfl ?_)
  refine Ad ?_
  rotate_left
  have h20 := dF g20
  iterate 2 refine Lk rfl ‹_› ?_
  refine Lq (oF rfl ‹_› rfl) rfl <| qa rfl <| Ld ?_
  refine Aa (Er rfl ?_)
  refine Ad ?_
  rotate_left
  have h19 := dF g19
  refine Es <| Lq (o2 u_37 rfl rfl) rfl <| qa rfl <| Ld ?_
  refine Ec rfl (fun g21 => ?_) (fun g21 => ?_)
  have h21 := dT g21
  refine Ac <| Ah rfl ‹_› <| Es <| Lq (of BE rfl) rfl <| Lo (l1 Bj AY rfl) rfl <| Lq (o2 u_3 rfl rfl) rfl <| qm rfl ?_
  refine Lb rfl (fun g22 => ?_) (fun g22 => ?_)
  have h22 := dT g22
  refine Lh rfl ‹_› (om rfl) <| Lh rfl ‹_› (o2 u_3 rfl rfl) <| Lq (oT rfl ‹_› rfl) rfl <| qa rfl <| Ld ?_
  refine Aa (Er rfl ?_)
  refine Ad ?_
  rotate_left
  have h22 := dF g22
  iterate 2 refine Lk rfl ‹_› ?_
  refine Lq (oF rfl ‹_› rfl) rfl <| qa rfl <| Ld ?_
  refine Aa (Er rfl ?_)
  refine Ad ?_
  rotate_left
  have h21 := dF g21
  refine Es <| Lq (o2 u_37 rfl rfl) rfl <| qa rfl <| Ld ?_
  refine Ec rfl (fun g23 => ?_) (fun g23 => ?_)
  have h23 := dT g23
  refine Ac <| Ah rfl ‹_› <| Es <| Lq (of BE rfl) rfl <| Lo (l1 Bj AY rfl) rfl <| Lq (o2 u_3 rfl rfl) rfl <| qm rfl ?_
  refine Lb rfl (fun g24 => ?_) (fun g24 => ?_)
  have h24 := dT g24
  refine Lh rfl ‹_› (om rfl) <| Lh rfl ‹_› (o2 u_3 rfl rfl) <| Lq (oT rfl ‹_› rfl) rfl <| qa rfl <| Ld ?_
  refine Aa (Er rfl ?_)
  refine Ad ?_
  rotate_left
  have h24 := dF g24
  iterate 2 refine Lk rfl ‹_› ?_
  refine Lq (oF rfl ‹_› rfl) rfl <| qa rfl <| Ld ?_
  refine Aa (Er rfl ?_)
  refine Ad ?_
  rotate_left
  have h23 := dF g23
  refine Ao <| Lq (o2 u_37 rfl rfl) rfl <| qa rfl <| Ld ?_
  refine Ec rfl (fun g25 => ?_) (fun g25 => ?_)
  have h25 := dT g25
  refine Es <| Lq (of BE rfl) rfl <| Lo (l1 Bj AY rfl) rfl <| Lq (o2 u_3 rfl rfl) rfl <| qm rfl ?_
  refine Lb rfl (fun g26 => ?_) (fun g26 => ?_)
  have h26 := dT g26
  refine Lh rfl ‹_› (om rfl) <| Lh rfl ‹_› (o2 u_3 rfl rfl) <| Lq (oT rfl ‹_› rfl) rfl <| qa rfl <| Ld ?_
  refine Aa (Er rfl ?_)
  refine Ad ?_
  rotate_left
  have h26 := dF g26
  iterate 2 refine Lk rfl ‹_› ?_
  refine Lq (oF rfl ‹_› rfl) rfl <| qa rfl <| Ld ?_
  refine Aa (Er rfl ?_)
  refine Ad ?_
  rotate_left
  have h25 := dF g25
  refine Ac <| Es <| qa rfl <| Ld ?_
  refine Aa (Er rfl ?_)
  refine Ad ?_
  rotate_left
 ·simp only [madeV, h1, if_true, g2, Bool.and_true]
 ·simp only [madeV, h1, if_true, g2, Bool.and_false]
 ·obtain ⟨hz, hlt⟩ := inV_iff.1 g4
  have hp := A1 AH (l := cons) (i := n.toNat) (by omega)
  refine Lh rfl ‹_› (BB rfl DF BI rfl rfl (by first | assumption | omega) ‹_›) <| Lh rfl ‹_› (A0 rfl f_54_1 rfl (Qc rfl)) <| Lh rfl ‹_› (A3 rfl rfl Bj AY) <| Lh rfl ‹_› (o2 u_3 rfl rfl) <| Lq (oT rfl ‹_› rfl) rfl <| qa rfl <| Ld ?_
  refine Aa (Er rfl ?_)
  refine Ad ?_
  simp only [madeV, h3, g4, arity, BD (l := cons) (i := n.toNat) (d := ([], 0)) (by omega)]; rfl
 ·simp only [madeV, h3, g4]; rfl
 ·obtain ⟨hz, hlt⟩ := inV_iff.1 g6
  have hp := A1 AH (l := funs) (i := n.toNat) (by omega)
  refine Lh rfl ‹_› (BB rfl DF BI rfl rfl (by first | assumption | omega) ‹_›) <| Lh rfl ‹_› (A0 rfl f_54_1 rfl (Qc rfl)) <| Lh rfl ‹_› (A3 rfl rfl Bj AY) <| Lh rfl ‹_› (o2 u_3 rfl rfl) <| Lq (oT rfl ‹_› rfl) rfl <| qa rfl <| Ld ?_
  refine Aa (Er rfl ?_)
  refine Ad ?_
  simp only [madeV, h5, g6, arity, BD (l := funs) (i := n.toNat) (d := ([], 0)) (by omega)]; rfl
 ·simp only [madeV, h5, g6]; rfl
 ·obtain ⟨hz, hlt⟩ := inV_iff.1 g8
  have hp := A1 AH (l := funs) (i := n.toNat) (by omega)
  refine Lh rfl ‹_› (BB rfl DF BI rfl rfl (by first | assumption | omega) ‹_›) <| Lh rfl ‹_› (A0 rfl f_54_1 rfl (Qc rfl)) <| Lh rfl ‹_› (A3 rfl rfl Bj AY) <| Lh rfl ‹_› (o2 u_3 rfl rfl) <| Lq (oT rfl ‹_› rfl) rfl <| qa rfl <| Ld ?_
  refine Aa (Er rfl ?_)
  refine Ad ?_
  simp only [madeV, h7, g8, arity, BD (l := funs) (i := n.toNat) (d := ([], 0)) (by omega)]; rfl
 ·simp only [madeV, h7, g8]; rfl
 all_goals first | exact mv_pairT (by omega) ‹_› | exact mv_pairF (by omega) ‹_› | exact mv_none (by omega)
abbrev MakT := { p : List NameT × List NameT × Int × Int × List Int // p.1.length ≤ 4000 ∧ p.2.1.length ≤ 4000 }
noncomputable def K12 := addC K11 81 (fun p : MakT=>[.agg [recs encN 2 p.1.1,recs encN 2 p.1.2.1],encM p.1.2.2.1 p.1.2.2.2.1 p.1.2.2.2.2]) (fun p=>.bool (madeV p.1.1 p.1.2.1 p.1.2.2.1 p.1.2.2.2.1 p.1.2.2.2.2.length))
theorem hit_81 {cons funs : List NameT} {op n : Int} {args : List Int} (h1 : cons.length ≤ 4000) (h2 : funs.length ≤ 4000) : K12 81 [.agg [recs encN 2 cons, recs encN 2 funs], encM op n args] = some (.bool (madeV cons funs op n args.length)) :=
 AD (f := 81) (enc := fun p : MakT => [.agg [recs encN 2 p.1.1, recs encN 2 p.1.2.1], encM p.1.2.2.1 p.1.2.2.2.1 p.1.2.2.2.2]) (res := fun p => .bool (madeV p.1.1 p.1.2.1 p.1.2.2.1 p.1.2.2.2.1 p.1.2.2.2.2.length)) (by
  rintro ⟨⟨a, b, c, d, e⟩, _⟩ ⟨⟨a', b', c', d', e'⟩, _⟩ h
  simp only [List.cons.injEq, and_true, AV.agg.injEq, encM, AV.int.injEq, true_and] at h
  obtain ⟨⟨h1, h2⟩, rfl, rfl, h5⟩ := h
  obtain rfl := AT B6 AH h1
  obtain rfl := AT B6 AH h2
  obtain rfl := AT Fb B5 h5
  rfl) ⟨(cons, funs, op, n, args), h1, h2⟩
theorem all12 (h : KnownF Tryz.prog 10 [] (.bool true)) : KnownAll Tryz.prog K12 := BH AE (all11 h) (fun p : MakT=>named_to p.1.1 p.1.2.1 p.1.2.2.1 p.1.2.2.2.1 p.1.2.2.2.2 p.2.1 p.2.2) (fun _=>rfl) (fun _=>rfl)
theorem regs1_to (r : Int) (l : List AltT) : CallTo (EK K12) 341 [.agg [.int .i64 r, recs encA 2 l]] S0 (recs encZ 1 [r]) := by
 refine Ax (fn := Tryz.f341) rfl rfl (by kernel_rfl) rfl rfl rfl rfl <| Es <| Lo (Az 1 rfl rfl rfl rfl) rfl <| qa rfl <| Ld <| Es <| Lq (of f_114_0 rfl) rfl <| Lo (l1 Bj AY rfl) rfl ?_
 refine Lo (OpL.buildSliceS 2 rfl DO AY z_3 rfl rfl rfl rfl) rfl <| qa rfl <| Ld ?_
 refine Aa (Er rfl ?_)
 rfl
noncomputable def K12a := addC K12 341 (fun p : Int × List AltT=>[.agg [.int .i64 p.1,recs encA 2 p.2]]) (fun p=>recs encZ 1 [p.1])
theorem hit_341 {r : Int} {l : List AltT} : K12a 341 [.agg [.int .i64 r, recs encA 2 l]] = some (recs encZ 1 [r]) :=
 AD (f := 341) (enc := fun p : Int × List AltT => [.agg [.int .i64 p.1, recs encA 2 p.2]]) (res := fun p => recs encZ 1 [p.1]) (by
  rintro ⟨a, b⟩ ⟨c, d⟩ h
  simp only [List.cons.injEq, and_true, AV.agg.injEq, AV.int.injEq, true_and] at h
  obtain ⟨rfl, _⟩ := h
  rfl) (r, l)
theorem regs6_to (r : Int) : CallTo (EK K12a) 344 [.agg [.int .i64 r]] S0 (recs encZ 1 [r]) := by
 refine Ax (fn := Tryz.f344) rfl rfl (by kernel_rfl) rfl rfl rfl rfl <| Es <| Lo (Az 1 rfl rfl rfl rfl) rfl <| qa rfl <| Ld <| Es <| Lq (of f_121_0 rfl) rfl <| Lo (l1 Bj AY rfl) rfl ?_
 refine Lo (OpL.buildSliceS 2 rfl DO AY z_3 rfl rfl rfl rfl) rfl <| qa rfl <| Ld ?_
 refine Aa (Er rfl ?_)
 rfl
noncomputable def K13 := addC K12a 344 (fun r : Int=>[.agg [.int .i64 r]]) (fun r=>recs encZ 1 [r])
theorem hit_344 {r : Int} : K13 344 [.agg [.int .i64 r]] = some (recs encZ 1 [r]) :=
 AD (f := 344) (enc := fun r : Int => [.agg [.int .i64 r]]) (res := fun r => recs encZ 1 [r]) (by
  intro a b h
  simp only [List.cons.injEq, and_true, AV.agg.injEq, AV.int.injEq, true_and] at h
  rw [h]) r
theorem all13 (h : KnownF Tryz.prog 10 [] (.bool true)) : KnownAll Tryz.prog K13 :=
 BH AE (BH AE (all12 h) (fun p : Int × List AltT => regs1_to p.1 p.2) (fun _ => rfl) (fun _ => rfl)) (fun r => regs6_to r) (fun _ => rfl) (fun _ => rfl)
theorem all_range {α : Type} (l : List α) (d : α) (f : α → Bool) : l.all f = (List.range l.length).all fun i => f (l.getD i d) := by
 rw [Bool.eq_iff_iff, List.all_eq_true, List.all_eq_true]
 constructor
 ·intro h i hi
  rw [BD (List.mem_range.1 hi)]
  exact h _ (Ql _)
 ·intro h x hx
  obtain ⟨i, hi, rfl⟩ := List.mem_iff_getElem.1 hx
  have := h i (List.mem_range.2 hi)
  rwa [BD hi] at this
theorem bad_to (r : Int) (s : St) : CallTo (EK K13) 78 [.int .i64 r] s (.bool (!inV r 0 59)) := by
 refine Dh (fn := Tryz.f78) rfl (by kernel_rfl) rfl rfl rfl rfl (fun _ _ => rfl) (fun _ => rfl) <| Es <| qa rfl <| Ld <| Es <| qm rfl ?_
 refine Lo (Ag rfl rfl (by kernel_rfl) rfl (Ae (hit_37))) rfl <| Lq (on rfl) rfl <| qa rfl <| Ld ?_
 exact Aa ⟨.inl rfl, rfl, rfl, _, As rfl rfl, rfl⟩
def tgt (c : CodeT) (k : Nat) (n : Int) : Bool := inV n ((k + 1 : Nat) : Int) ((c.ins.length - 1 : Nat) : Int)
theorem target_to {c : CodeT} {k : Nat} (hk : k < c.ins.length) (hn : c.ins.length ≤ 4000) {s : St} {b0 b1 : Nat} (h0 : s.heap.get b0 = some (.cells (encC c) 28 false)) (h1 : s.heap.get b1 = some (.cells [.int .i64 (k : Nat)] 3 false)) (n : Int) :
  CallTo (EK K13) 79 [.int .i64 n, .ptr b1 0, .ptr b0 0] s (.bool (tgt c k n)) := by
 refine Dh (fn := Tryz.f79) rfl (by kernel_rfl) rfl rfl rfl rfl (fun _ _ => rfl) (fun _ => rfl) ?_
 have h0' : s.enter.heap.get b0 = some (.cells (encC c) 28 false) := h0
 have h1' : s.enter.heap.get b1 = some (.cells [.int .i64 (k : Nat)] 3 false) := h1
 refine Es <| qa rfl <| Ld <| Es <| qm rfl <| Lo (A8 rfl rfl (Al Bj AY ‹_› rfl)) rfl ?_
 refine Lq (At (b := 1) rfl u_3 rfl rfl (by first | assumption | omega | (simp only [LL]; omega))) rfl ?_
 refine Lq (of Bd rfl) rfl <| Lo (A8 rfl rfl (Al BW BV ‹_› rfl)) rfl <| Lq (ol u_25 rfl) rfl <| Lq (A6 (b := 1) rfl u_3 rfl rfl (by omega)) rfl ?_
 refine Lo (Ag rfl rfl (by kernel_rfl) rfl (Ae (hit_37))) rfl <| qa rfl <| Ld ?_
 exact Aa ⟨.inl rfl, rfl, rfl, _, As rfl rfl, rfl⟩
theorem untarget_to {c : CodeT} {k : Nat} (hk : k < c.ins.length) (hn : c.ins.length ≤ 4000) {s : St} {b0 b1 b2 : Nat} (h0 : s.heap.get b0 = some (.cells (encC c) 28 false)) (h1 : s.heap.get b1 = some (.cells [.int .i64 (k : Nat)] 3 false))
  (h2 : s.heap.get b2 = some (.cells [.func (.func 79) [] [.ptr b1 0, .ptr b0 0]] 146 false)) (n : Int) :
  CallTo (EK K13) 80 [.int .i64 n, .ptr b2 0] s (.bool (!tgt c k n)) := by
 refine Dh (fn := Tryz.f80) rfl (by kernel_rfl) rfl rfl rfl rfl (fun _ _ => rfl) (fun _ => rfl) ?_
 have h2' : s.enter.heap.get b2 = some (.cells [.func (.func 79) [] [.ptr b1 0, .ptr b0 0]] 146 false) := h2
 have ht := target_to hk hn (s := s.enter) h0 h1 n
 refine Es <| qa rfl <| Ld <| Es <| Lo (A8 rfl rfl (Al ag_146 sz_146 ‹_› rfl)) rfl <| qm rfl <| Lo (Fo rfl rfl rfl (by kernel_rfl) rfl ht) rfl <| Lq (on rfl) rfl ?_
 refine qa rfl <| Ld ?_
 exact Aa ⟨.inl rfl, rfl, rfl, _, As rfl rfl, rfl⟩
theorem regsV_any (l : List Int) : (l.any fun r => !inV r 0 59) = !regsV l := by
 unfold regsV
 rw [← List.not_all_eq_any_not]
 congr 1
 exact all_range l 0 (fun r => inV r 0 59)
theorem run_70 {l : List Int} {s : St} (hn : l.length ≤ 4000) : CallTo (EK K13) 70 [recs encZ 1 l, .func (.func 78) [] []] s (.bool (!regsV l)) := by
 rw [← regsV_any]
 exact contains_to rfl rfl (by kernel_rfl) (fun s' _ _ r => bad_to r s') l hn
def insS (c : CodeT) (k : Nat) : ShT → Bool
 | .looks r l => inV r 0 59 && altsV c.cons.length c.ins.length k l
 | .goes l => targetsV c.ins.length k l
 | .fails => true
 | .frees => true
 | .makes o n l => regsV l && madeV c.cons c.funs o n l.length
 | .enters r => inV r 0 59
 | .no => false
theorem tg_eq (x : InsT) : (!tgV x) = decide ((x.to.length : Int) = 0) := by unfold tgV; rw [len_pos,Bool.not_not]
theorem cs_eq (x : InsT) : (!csV x) = decide ((x.alts.length : Int) = 0) := by unfold csV; rw [len_pos,Bool.not_not]
theorem rg_eq (x : InsT) : (!rgV x) = decide (x.a = 0) := by unfold rgV; rw [Bool.not_not]
theorem nd_eq (x : InsT) : (!ndV x) = nodeV x := by unfold ndV; rw [Bool.not_not]
theorem Dz (c : CodeT) (k : Nat) (x : InsT) : insV c k x = insS c k (shapeV x) := by
 unfold shapeV
 unfold sh1 sh2 sh3 sh4 sh5 sh6
 simp only [tg_eq, cs_eq, rg_eq, nd_eq]
 by_cases h1 : x.op = 1
 ·rw [insV_1 h1]; simp only [h1]
  cases nodeV x <;> cases decide ((x.to.length : Int) = 0) <;> rfl
 by_cases h2 : x.op = 2
 ·rw [insV_2 h2]; simp only [h2]
  cases nodeV x <;> cases decide ((x.alts.length : Int) = 0) <;> cases decide (x.a = 0) <;> rfl
 by_cases h3 : x.op = 3
 ·rw [insV_3 (.inl h3)]; simp only [h3]
  cases nodeV x <;> cases decide ((x.alts.length : Int) = 0) <;> cases decide (x.a = 0) <;> cases decide ((x.to.length : Int) = 0) <;> rfl
 by_cases h4 : x.op = 4
 ·rw [insV_3 (.inr h4)]; simp only [h4]
  cases nodeV x <;> cases decide ((x.alts.length : Int) = 0) <;> cases decide (x.a = 0) <;> cases decide ((x.to.length : Int) = 0) <;> rfl
 by_cases h5 : x.op = 5
 ·rw [insV_5 h5]; simp only [h5]
  cases decide ((x.alts.length : Int) = 0) <;> cases decide (x.a = 0) <;> cases decide ((x.to.length : Int) = 0) <;> rfl
 by_cases h6 : x.op = 6
 ·rw [insV_6 h6]; simp only [h6]
  cases nodeV x <;> cases decide ((x.alts.length : Int) = 0) <;> cases decide ((x.to.length : Int) = 0) <;> first | rfl | (cases inV x.a 0 59 <;> rfl)
 rw [insV_0 (by omega)]; simp only [h1, h2, h3, h4, h5, h6, decide_false, Bool.false_and]
 rfl
theorem regsV_one (r : Int) : regsV [r] = inV r 0 59 := by
 show ((List.range 1).all _) = _
 simp [List.range_succ]
theorem runb_70 {s : St} : CallTo (EK K13) 70 [.nilslice,.func (.func 78) [] []] s (.bool false) := containsN_to rfl rfl
theorem shape_looks {x : InsT} {r : Int} {l : List AltT} (h : shapeV x = .looks r l) : l = x.alts := by
 unfold shapeV at h
 repeat (split at h; first | (cases h; rfl) | cases h | skip)
 all_goals cases h
theorem shape_goes {x : InsT} {l : List Int} (h : shapeV x = .goes l) : l = x.to := by
 unfold shapeV at h
 repeat (split at h; first | (cases h; rfl) | cases h | skip)
 all_goals cases h
theorem shape_makes {x : InsT} {o n : Int} {l : List Int} (h : shapeV x = .makes o n l) : l = x.args := by
 unfold shapeV at h
 repeat (split at h; first | (cases h; rfl) | cases h | skip)
 all_goals cases h
theorem instr_looks (c : CodeT) (k : Nat) (hf : Fits c) (hk : k < c.ins.length) (r : Int) (l : List AltT) (hs : shapeV c.ins[k] = .looks r l) : CallTo (EK K13) 38 [.agg (encC c), .int .i64 (k : Nat)] S0 (.bool (insV c k c.ins[k])) := by
 refine Ax (fn := Tryz.f38) rfl rfl (by kernel_rfl) rfl rfl rfl rfl ?_
 have hp0 := A1 B7 hk
 have ha := hf.args _ (Ql hk)
 have hk1 := hf.cons
 have hk2 := hf.funs
 have hk3 := hf.ins
 have hto := hf.to _ (Ql hk)
 have hal := hf.alts _ (Ql hk)
 generalize hx : c.ins[k] = x at *
 refine Es <| Lo (Az 1 rfl rfl rfl rfl) rfl <| Lo (Az 2 rfl rfl rfl rfl) rfl <| qa rfl <| Ld <| Es <| Lq (of Bd rfl) rfl <| Lo (l1 BW BV rfl) rfl ?_
 refine Lo (l1 Bj AY rfl) rfl <| Lq (Af rfl u_25 BX rfl rfl ‹_›) rfl <| Lq (AM rfl rfl ag_58 BX (Qc rfl)) rfl ?_
 refine Lo (Ag rfl rfl (by kernel_rfl) rfl (Ae (hit_51))) rfl <| qa rfl <| Ld <| Ab ?_
 rw [hs]
 obtain rfl := shape_looks hs
 have hes := Dz c k x
 rw [hs] at hes
 generalize x.alts = l at *
 focus
  refine Es <| qm rfl <| Lq (Fl (neg := false) rfl if_111 rfl rfl rfl) rfl <| qm rfl <| Lh rfl rfl (om rfl) ?_
  refine Lg rfl rfl (OpL.invoke rfl rfl rfl rfl m_114_registers (by kernel_rfl) rfl (Ae (hit_341))) ?_
  refine Lg rfl rfl (Ag rfl rfl (by kernel_rfl) rfl (run_70 (by first | assumption | omega | (simp only [LL]; omega)))) ?_
  refine Lq (oF rfl rfl rfl) rfl <| Ld ?_
  refine Ec rfl (fun g1 => ?_) (fun g1 => ?_)
  have h1 := DK g1
  refine Es <| qa rfl <| Ld ?_
  refine Aa (Er rfl ?_)
  refine Ad ?_
  rotate_left
  have h1 := DL g1
  refine Ac <| Es <| Lq (B4 rfl rfl rfl) rfl <| Lo (Bf 3 rfl z_146 rfl) rfl <| AB (AK rfl sz_146 rfl rfl rfl rfl rfl rfl) rfl rfl <| Ld <| Ab <| Es ?_
  refine qm rfl <| Ld <| Ai <| Es <| Lq (A2 rfl Eo z_114 rfl rfl) rfl ?_
  iterate 2 refine Lq (oe rfl) rfl ?_
  refine Ld <| Ah rfl rfl <| Es <| Lo (Bf 4 rfl z_114 rfl) rfl <| AB (AK rfl sz_114 rfl rfl rfl rfl rfl rfl) rfl rfl <| Ld <| Es <| Lq (of f_114_1 rfl) rfl ?_
  refine Lo (l1 Fh EO rfl) rfl <| Lq (ol u_56 rfl) rfl <| qm rfl <| Ld <| Ai ?_
  rotate_left
 ·rw [hes, insS, ← regsV_one, h1]; rfl
 refine Aw (fun y : Nat × St => ([(33, .int .i64 (y.1 : Nat)), (32, .int .i64 (l.length : Nat)), (31, recs encA 2 l), (7, .ptr 3 0), (6, .ptr 2 0), (4, .bool false), (2, .ptr 0 0)], y.2)) (fun y => l.length - y.1)
  (fun y => y.1 ≤ l.length ∧ (List.range y.1).all (altAt c.cons.length c.ins.length k l) = true ∧ (y.2.heap.get 0 = some (.cells (encC c) 28 false) ∧ y.2.heap.get 1 = some (.cells [.int .i64 (k : Nat)] 3 false) ∧ y.2.heap.get 2 = some (.cells [.func (.func 79) [] [.ptr 1 0, .ptr 0 0]] 146 false) ∧ y.2.heap.get 3 = some (.cells [.int .i64 r, recs encA 2 l] 114 false)) ∧ 4 ≤ y.2.next ∧ y.2.bound = 0 ∧ y.2.log = [])
  (0, mkS 4 0 [] [(3, some (.cells [.int .i64 r, recs encA 2 l] 114 false)), (3, some (.cells [.int .i64 0, .nilslice] 114 false)), (2, some (.cells [.func (.func 79) [] [.ptr 1 0, .ptr 0 0]] 146 false)), (2, some (.cells [.nilfunc] 146 false)), (1, some (.cells [.int .i64 (k : Nat)] 3 false)), (0, some (.cells (encC c) 28 false))]) ⟨Qo _, rfl, ⟨Dq 0, Dq 1, Dq 2, Dq 3⟩, Qj _, rfl, rfl⟩ rfl (by (refine Am.Ap ?_; repeat (first | exact trivial | refine ⟨rfl, ?_⟩))) ?_
 rintro ⟨i, st⟩ ⟨hi, hall, ⟨hg0, hg1, hg2, hg3⟩, hn, hb, hlg⟩
 dsimp only at hi hall hg0 hg1 hg2 hg3 hn hb hlg ⊢
 by_cases h : i < l.length
 ·have hp := A1 Et h
  have hp1 := A1 Et (l := l) (i := i - 1) (by omega)
  have hat : altAt c.cons.length c.ins.length k l i = ((inV l[i].1 0 (c.cons.length - 1) && !(decide (0 < (i : Int)) && decide (l[i].1 ≤ l[i - 1].1))) && tgt c k l[i].2) := by
   unfold altAt
   rw [BD h, BD (by omega)]; rfl
  have hno : altAt c.cons.length c.ins.length k l i = false → false = altsV c.cons.length c.ins.length k l := fun hf => (ra_no h hf).symm
  obtain ⟨hc1, hc2, hc3, hc4, hc5, hc6, hc7⟩ := copied (st := st) (z := [.int .i64 0, .int .i64 0]) (cs := encA l[i]) (T := 60)
  have hlog := (hc6 (by omega)).trans hlg
  have hbd := hc5.trans hb
  have hg0' := (hc4 0 (by omega)).trans hg0
  have hg1' := (hc4 1 (by omega)).trans hg1
  have hg2' := (hc4 2 (by omega)).trans hg2
  have hg3' := (hc4 3 (by omega)).trans hg3
  have hno2 : altAt c.cons.length c.ins.length k l i = false → false = insV c k x := fun hf => by rw [hes, insS, ← hno hf, Bool.and_false]
  focus
   refine Es <| Lq (o2 u_3 rfl rfl) rfl <| Ld <| Ab ?_
   refine Ec rfl (fun g2 => ?_) (fun g2 => ?_)
   have h2 := dT g2
   refine Ac <| Ab <| Ai <| Es <| qm rfl <| Lq (Af rfl u_56 sz_60 rfl rfl ‹_›) rfl <| Lq (AM rfl rfl ag_60 sz_60 (Qc rfl)) rfl <| Lo (Bz rfl z_60) rfl ?_
   refine qa rfl <| AB (Ba rfl sz_60 rfl rfl (AZ ‹_› rfl rfl rfl)) rfl rfl <| Ld <| Av (by kernel_rfl) <| Nq (of f_60_0 rfl) rfl <| AL rfl rfl (Al Bj AY ‹_› rfl) rfl (.inl rfl) rfl rfl <| Nq (of Ep rfl) rfl <| Nq (of BU rfl) rfl ?_
   refine AL rfl rfl (Al Bp Bo ‹_› rfl) rfl (.inl rfl) rfl rfl <| Nq (ol DF rfl) rfl <| Nq (Ef rfl u_3 rfl rfl (by omega)) rfl ?_
   refine E6 (BC rfl rfl (by kernel_rfl) rfl (hit_37)) (.inl rfl) rfl rfl <| Nq (on rfl) rfl <| Nq (om rfl) rfl ?_
   refine DC rfl rfl rfl rfl (fun g3 => ?_) (fun g3 => ?_)
   have h3 := DK g3
   iterate 3 refine Nk rfl ‹_› ?_
   iterate 10 refine Nt rfl ?_
   refine Nk rfl ‹_› <| Nq (oT rfl ‹_› rfl) rfl <| Nq (om rfl) rfl ?_
   iterate 5 refine Nk rfl rfl ?_
   refine Nq (oT rfl rfl rfl) rfl <| Ay <| Ah rfl rfl <| Es <| qa rfl <| Ld ?_
   refine Aa ⟨.inl rfl, rfl, ‹_›, ‹_›, _, _, _, (As rfl rfl), rfl, rfl, ?_⟩
   refine Ad ?_
   rotate_left
   have h3 := DL g3
   refine Ng rfl ‹_› (om rfl) <| Ng rfl ‹_› (o2 u_3 rfl rfl) <| Ng rfl ‹_› (om rfl) ?_
   refine DC rfl rfl rfl rfl (fun g4 => ?_) (fun g4 => ?_)
   have h4 := dT g4
   refine Ng rfl ‹_› (of f_60_0 rfl) <| AL rfl rfl (Al Bj AY ‹_› rfl) rfl (AW rfl rfl rfl rfl ‹_›) rfl rfl <| Ng rfl ‹_› (of f_114_1 rfl) <| AL rfl rfl (Al Fh EO ‹_› rfl) rfl (AW rfl rfl rfl rfl ‹_›) rfl rfl <| Ng rfl ‹_› (om rfl) <| Ng rfl ‹_› (A6 (b := 1) rfl u_3 rfl rfl (by omega)) <| Ng rfl ‹_› (Af rfl u_56 sz_60 rfl rfl ‹_›) <| Ng rfl ‹_› (A0 rfl f_60_0 rfl (Qc rfl)) ?_
   refine Ng rfl ‹_› (A3 rfl rfl Bj AY) <| Ng rfl ‹_› (o2 u_3 rfl rfl) <| Ng rfl ‹_› (oT rfl ‹_› rfl) <| Nq (oF rfl ‹_› rfl) rfl <| Nq (om rfl) rfl ?_
   refine DC rfl rfl rfl rfl (fun g5 => ?_) (fun g5 => ?_)
   have h5 := dT g5
   iterate 5 refine Nk rfl ‹_› ?_
   refine Nq (oT rfl ‹_› rfl) rfl <| Ay <| Ah rfl rfl <| Es <| qa rfl <| Ld ?_
   refine Aa ⟨.inl rfl, rfl, ‹_›, ‹_›, _, _, _, (As rfl rfl), rfl, rfl, ?_⟩
   refine Ad ?_
   rotate_left
   have h5 := dF g5
   refine AL rfl rfl (Al ag_146 sz_146 ‹_› rfl) rfl (AW rfl rfl rfl rfl ‹_›) rfl rfl <| Ng rfl ‹_› (of f_60_1 rfl) <| AL rfl rfl (Al Bj AY ‹_› rfl) rfl (AW rfl rfl rfl rfl ‹_›) rfl rfl ?_
   rotate_left
   have h4 := dF g4
   iterate 10 refine Nk rfl ‹_› ?_
   refine Ng rfl ‹_› (oF rfl ‹_› rfl) <| Nq (oF rfl ‹_› rfl) rfl <| Nq (om rfl) rfl <| AL rfl rfl (Al ag_146 sz_146 ‹_› rfl) rfl (AW rfl rfl rfl rfl rfl) rfl rfl <| Ng rfl rfl (of f_60_1 rfl) <| AL rfl rfl (Al Bj AY ‹_› rfl) rfl (AW rfl rfl rfl rfl rfl) rfl rfl ?_
   rotate_left
   have h2 := dF g2
   exact absurd h2 (by omega)
  ·exact hno2 (by rw [hat, h3]; rfl)
  ·exact hno2 (by rw [hat, h3, g4, g5]; rfl)
  ·refine RegN.look (by kernel_rfl) (fun _ _ => rfl) (Fo rfl rfl rfl (by kernel_rfl) rfl (target_to (s := St.sub _ _) hk hk3 hg0' hg1' l[i].2)) rfl (AW rfl rfl rfl rfl g5) rfl rfl ?_
   focus
    refine Ng rfl ‹_› (on rfl) <| Nq (oF rfl ‹_› rfl) rfl <| Ay ?_
    refine Ec rfl (fun g6 => ?_) (fun g6 => ?_)
    have h6 := DK g6
    refine Es <| qa rfl <| Ld ?_
    refine Aa ⟨.inl rfl, rfl, ‹_›, ‹_›, _, _, _, (As rfl rfl), rfl, rfl, ?_⟩
    refine Ad ?_
    rotate_left
    have h6 := DL g6
    refine Ac <| Ao ?_
    refine Lq (At (b := 1) rfl u_3 rfl rfl (by first | assumption | omega | (simp only [LL]; omega))) rfl ?_
    refine qm rfl <| Ld ?_
    rotate_left
   ·exact hno2 (by rw [hat, h6, Bool.and_false])
   ·exact ⟨(i + 1, _), ⟨h, DT hall (by rw [hat, h3, g4, g5, h6]; rfl), ⟨hg0', hg1', hg2', hg3'⟩, Nat.le_succ_of_le hn, hbd, hlog⟩, by show l.length - (i + 1) < l.length - i; omega, rfl, rfl, by (refine Am.Ap ?_; repeat (first | exact trivial | refine ⟨rfl, ?_⟩))⟩
  ·refine RegN.look (by kernel_rfl) (fun _ _ => rfl) (Fo rfl rfl rfl (by kernel_rfl) rfl (target_to (s := St.sub _ _) hk hk3 hg0' hg1' l[i].2)) rfl (AW rfl rfl rfl rfl rfl) rfl rfl ?_
   focus
    refine Ng rfl rfl (on rfl) <| Nq (oF rfl rfl rfl) rfl <| Ay ?_
    refine Ec rfl (fun g5 => ?_) (fun g5 => ?_)
    have h5 := DK g5
    refine Es <| qa rfl <| Ld ?_
    refine Aa ⟨.inl rfl, rfl, ‹_›, ‹_›, _, _, _, (As rfl rfl), rfl, rfl, ?_⟩
    refine Ad ?_
    rotate_left
    have h5 := DL g5
    refine Ac <| Ao ?_
    refine Lq (At (b := 1) rfl u_3 rfl rfl (by first | assumption | omega | (simp only [LL]; omega))) rfl ?_
    refine qm rfl <| Ld ?_
    rotate_left
   ·exact hno2 (by rw [hat, h5, Bool.and_false])
   ·exact ⟨(i + 1, _), ⟨h, DT hall (by rw [hat, h3, g4, h5]; rfl), ⟨hg0', hg1', hg2', hg3'⟩, Nat.le_succ_of_le hn, hbd, hlog⟩, by show l.length - (i + 1) < l.length - i; omega, rfl, rfl, by (refine Am.Ap ?_; repeat (first | exact trivial | refine ⟨rfl, ?_⟩))⟩
 ·focus
   refine Es <| Lq (o2 u_3 rfl rfl) rfl <| Ld <| Ab ?_
   refine Ec rfl (fun g2 => ?_) (fun g2 => ?_)
   have h2 := dT g2
   exact absurd h2 (by omega)
   have h2 := dF g2
   refine A5 <| AX rfl <| Es <| qa rfl <| Ld ?_
   refine Aa ⟨.inl rfl, rfl, ‹_›, ‹_›, _, _, _, (As rfl rfl), rfl, rfl, ?_⟩
   refine Ad ?_
   rotate_left
  obtain rfl : i = l.length := by omega
  rw [hes, insS, ← regsV_one, h1]
  exact hall.symm
theorem instr_goes (c : CodeT) (k : Nat) (hf : Fits c) (hk : k < c.ins.length) (l : List Int) (hs : shapeV c.ins[k] = .goes l) : CallTo (EK K13) 38 [.agg (encC c), .int .i64 (k : Nat)] S0 (.bool (insV c k c.ins[k])) := by
 refine Ax (fn := Tryz.f38) rfl rfl (by kernel_rfl) rfl rfl rfl rfl ?_
 have hp0 := A1 B7 hk
 have ha := hf.args _ (Ql hk)
 have hk1 := hf.cons
 have hk2 := hf.funs
 have hk3 := hf.ins
 have hto := hf.to _ (Ql hk)
 have hal := hf.alts _ (Ql hk)
 generalize hx : c.ins[k] = x at *
 refine Es <| Lo (Az 1 rfl rfl rfl rfl) rfl <| Lo (Az 2 rfl rfl rfl rfl) rfl <| qa rfl <| Ld <| Es <| Lq (of Bd rfl) rfl <| Lo (l1 BW BV rfl) rfl ?_
 refine Lo (l1 Bj AY rfl) rfl <| Lq (Af rfl u_25 BX rfl rfl ‹_›) rfl <| Lq (AM rfl rfl ag_58 BX (Qc rfl)) rfl ?_
 refine Lo (Ag rfl rfl (by kernel_rfl) rfl (Ae (hit_51))) rfl <| qa rfl <| Ld <| Ab ?_
 rw [hs]
 obtain rfl := shape_goes hs
 have hes := Dz c k x
 rw [hs] at hes
 generalize x.to = l at *
 focus
  refine Es <| qm rfl <| Lq (Fl (neg := false) rfl if_111 rfl rfl rfl) rfl <| qm rfl <| Lh rfl rfl (om rfl) <| Fj rfl rfl rfl rfl rfl <| Fk (fn := Tryz.f342) (by kernel_rfl) m_117_registers (by kernel_rfl) rfl rfl rfl rfl rfl rfl rfl rfl rfl rfl rfl rfl rfl <| Es ?_
  refine Lo (Az 3 rfl rfl rfl rfl) rfl <| qa rfl <| Ld <| Es <| qa rfl <| Ld ?_
  refine Aa (DE rfl (As rfl rfl) rfl rfl rfl rfl ?_)
  refine Lg rfl rfl (Ag rfl rfl (by kernel_rfl) rfl (runb_70)) <| Lq (oF rfl rfl rfl) rfl <| Ld <| An rfl rfl <| Ac <| Es <| Lq (B4 rfl rfl rfl) rfl <| Lo (Bf 3 rfl z_146 rfl) rfl ?_
  refine AB (AK rfl sz_146 rfl rfl rfl rfl rfl rfl) rfl rfl <| Ld <| Ab <| Es <| qm rfl <| Ld <| Ai <| Es ?_
  refine Lq (A2 rfl Eo z_114 rfl rfl) rfl ?_
  iterate 2 refine Lq (oe rfl) rfl ?_
  refine Ld <| An rfl rfl <| Es <| Lq (A2 rfl if_117 z_117 rfl rfl) rfl ?_
  iterate 2 refine Lq (oe rfl) rfl ?_
  refine Ld <| Ah rfl rfl <| Es <| Lo (Bf 4 rfl z_117 rfl) rfl <| AB (AK rfl sz_117 rfl rfl rfl rfl rfl rfl) rfl rfl <| Ld <| Es <| Lq (of f_117_0 rfl) rfl ?_
  refine Lo (l1 BK BJ rfl) rfl <| Lq (ol DO rfl) rfl <| Lq (o2 u_3 rfl rfl) rfl <| qm rfl ?_
  refine Lb rfl (fun g1 => ?_) (fun g1 => ?_)
  have h1 := dT g1
  refine Lh rfl ‹_› (of f_117_0 rfl) <| Lg rfl ‹_› (l1 BK BJ rfl) <| Lh rfl ‹_› (B4 rfl rfl rfl) ?_
  rotate_left
  have h1 := dF g1
  iterate 5 refine Lk rfl ‹_› ?_
  refine Lq (oF rfl ‹_› rfl) rfl <| qa rfl <| Ld ?_
  refine Aa (Er rfl ?_)
  refine Ad ?_
  rotate_left
 ·refine Fj rfl rfl rfl rfl g1 ?_
  refine Lo (Ag rfl rfl (by kernel_rfl) rfl (contains_to rfl rfl (p := fun r => !tgt c k r) (by kernel_rfl) (fun s' h1 h2 r => untarget_to hk hk3 (by rw [h1]; exact Dq 0) (by rw [h1]; exact Dq 1) (by rw [h1]; exact Dq 2) r) l hto)) rfl ?_
  refine Lh rfl ‹_› (on rfl) <| Lq (oT rfl ‹_› rfl) rfl <| qa rfl <| Ld ?_
  refine Aa (Er rfl ?_)
  refine Ad ?_
  rw [hes, insS, targetsV, g1, Bool.and_true, ← List.not_all_eq_any_not, Bool.not_not]
  exact all_range l 0 (tgt c k)
 ·rw [hes, insS, targetsV, g1, Bool.and_false]
theorem instr_fails (c : CodeT) (k : Nat) (hf : Fits c) (hk : k < c.ins.length) (hs : shapeV c.ins[k] = .fails) : CallTo (EK K13) 38 [.agg (encC c), .int .i64 (k : Nat)] S0 (.bool (insV c k c.ins[k])) := by
 refine Ax (fn := Tryz.f38) rfl rfl (by kernel_rfl) rfl rfl rfl rfl ?_
 have hp0 := A1 B7 hk
 have ha := hf.args _ (Ql hk)
 have hk1 := hf.cons
 have hk2 := hf.funs
 have hk3 := hf.ins
 have hto := hf.to _ (Ql hk)
 have hal := hf.alts _ (Ql hk)
 generalize hx : c.ins[k] = x at *
 refine Es <| Lo (Az 1 rfl rfl rfl rfl) rfl <| Lo (Az 2 rfl rfl rfl rfl) rfl <| qa rfl <| Ld <| Es <| Lq (of Bd rfl) rfl <| Lo (l1 BW BV rfl) rfl ?_
 refine Lo (l1 Bj AY rfl) rfl <| Lq (Af rfl u_25 BX rfl rfl ‹_›) rfl <| Lq (AM rfl rfl ag_58 BX (Qc rfl)) rfl ?_
 refine Lo (Ag rfl rfl (by kernel_rfl) rfl (Ae (hit_51))) rfl <| qa rfl <| Ld <| Ab ?_
 rw [hs]
 have hes := Dz c k x
 rw [hs] at hes
 refine Es <| qm rfl <| Lq (Fl (neg := false) rfl if_111 rfl rfl rfl) rfl <| qm rfl <| Lh rfl rfl (om rfl) <| Fj rfl rfl rfl rfl rfl <| Fk (fn := Tryz.f345) (by kernel_rfl) m_166_registers (by kernel_rfl) rfl rfl rfl rfl rfl rfl rfl rfl rfl rfl rfl rfl rfl <| Es ?_
 refine Lo (Az 3 rfl rfl rfl rfl) rfl <| qa rfl <| Ld <| Es <| qa rfl <| Ld ?_
 refine Aa (DE rfl (As rfl rfl) rfl rfl rfl rfl ?_)
 refine Lg rfl rfl (Ag rfl rfl (by kernel_rfl) rfl (runb_70)) <| Lq (oF rfl rfl rfl) rfl <| Ld <| An rfl rfl <| Ac <| Es <| Lq (B4 rfl rfl rfl) rfl <| Lo (Bf 3 rfl z_146 rfl) rfl ?_
 refine AB (AK rfl sz_146 rfl rfl rfl rfl rfl rfl) rfl rfl <| Ld <| Ab <| Es <| qm rfl <| Ld <| Ai <| Es ?_
 refine Lq (A2 rfl Eo z_114 rfl rfl) rfl ?_
 iterate 2 refine Lq (oe rfl) rfl ?_
 refine Ld <| An rfl rfl <| Es <| Lq (A2 rfl if_117 z_117 rfl rfl) rfl ?_
 iterate 2 refine Lq (oe rfl) rfl ?_
 refine Ld <| An rfl rfl <| Es <| Lq (A2 rfl if_119 z_119 rfl rfl) rfl ?_
 iterate 2 refine Lq (oe rfl) rfl ?_
 refine Ld <| An rfl rfl <| Ac <| Es <| qa rfl <| Ld ?_
 refine Aa (Er rfl ?_)
 refine Ad ?_
 exact hes.symm
theorem instr_frees (c : CodeT) (k : Nat) (hf : Fits c) (hk : k < c.ins.length) (hs : shapeV c.ins[k] = .frees) : CallTo (EK K13) 38 [.agg (encC c), .int .i64 (k : Nat)] S0 (.bool (insV c k c.ins[k])) := by
 refine Ax (fn := Tryz.f38) rfl rfl (by kernel_rfl) rfl rfl rfl rfl ?_
 have hp0 := A1 B7 hk
 have ha := hf.args _ (Ql hk)
 have hk1 := hf.cons
 have hk2 := hf.funs
 have hk3 := hf.ins
 have hto := hf.to _ (Ql hk)
 have hal := hf.alts _ (Ql hk)
 generalize hx : c.ins[k] = x at *
 refine Es <| Lo (Az 1 rfl rfl rfl rfl) rfl <| Lo (Az 2 rfl rfl rfl rfl) rfl <| qa rfl <| Ld <| Es <| Lq (of Bd rfl) rfl <| Lo (l1 BW BV rfl) rfl ?_
 refine Lo (l1 Bj AY rfl) rfl <| Lq (Af rfl u_25 BX rfl rfl ‹_›) rfl <| Lq (AM rfl rfl ag_58 BX (Qc rfl)) rfl ?_
 refine Lo (Ag rfl rfl (by kernel_rfl) rfl (Ae (hit_51))) rfl <| qa rfl <| Ld <| Ab ?_
 rw [hs]
 have hes := Dz c k x
 rw [hs] at hes
 refine Es <| qm rfl <| Lq (Fl (neg := false) rfl if_111 rfl rfl rfl) rfl <| qm rfl <| Lh rfl rfl (om rfl) <| Fj rfl rfl rfl rfl rfl <| Fk (fn := Tryz.f346) (by kernel_rfl) m_167_registers (by kernel_rfl) rfl rfl rfl rfl rfl rfl rfl rfl rfl rfl rfl rfl rfl <| Es ?_
 refine Lo (Az 3 rfl rfl rfl rfl) rfl <| qa rfl <| Ld <| Es <| qa rfl <| Ld ?_
 refine Aa (DE rfl (As rfl rfl) rfl rfl rfl rfl ?_)
 refine Lg rfl rfl (Ag rfl rfl (by kernel_rfl) rfl (runb_70)) <| Lq (oF rfl rfl rfl) rfl <| Ld <| An rfl rfl <| Ac <| Es <| Lq (B4 rfl rfl rfl) rfl <| Lo (Bf 3 rfl z_146 rfl) rfl ?_
 refine AB (AK rfl sz_146 rfl rfl rfl rfl rfl rfl) rfl rfl <| Ld <| Ab <| Es <| qm rfl <| Ld <| Ai <| Es ?_
 refine Lq (A2 rfl Eo z_114 rfl rfl) rfl ?_
 iterate 2 refine Lq (oe rfl) rfl ?_
 refine Ld <| An rfl rfl <| Es <| Lq (A2 rfl if_117 z_117 rfl rfl) rfl ?_
 iterate 2 refine Lq (oe rfl) rfl ?_
 refine Ld <| An rfl rfl <| Es <| Lq (A2 rfl if_119 z_119 rfl rfl) rfl ?_
 iterate 2 refine Lq (oe rfl) rfl ?_
 refine Ld <| An rfl rfl <| Ac <| Es <| qa rfl <| Ld ?_
 refine Aa (Er rfl ?_)
 refine Ad ?_
 exact hes.symm
theorem instr_makes (c : CodeT) (k : Nat) (hf : Fits c) (hk : k < c.ins.length) (o n : Int) (l : List Int) (hs : shapeV c.ins[k] = .makes o n l) : CallTo (EK K13) 38 [.agg (encC c), .int .i64 (k : Nat)] S0 (.bool (insV c k c.ins[k])) := by
 refine Ax (fn := Tryz.f38) rfl rfl (by kernel_rfl) rfl rfl rfl rfl ?_
 have hp0 := A1 B7 hk
 have ha := hf.args _ (Ql hk)
 have hk1 := hf.cons
 have hk2 := hf.funs
 have hk3 := hf.ins
 have hto := hf.to _ (Ql hk)
 have hal := hf.alts _ (Ql hk)
 generalize hx : c.ins[k] = x at *
 refine Es <| Lo (Az 1 rfl rfl rfl rfl) rfl <| Lo (Az 2 rfl rfl rfl rfl) rfl <| qa rfl <| Ld <| Es <| Lq (of Bd rfl) rfl <| Lo (l1 BW BV rfl) rfl ?_
 refine Lo (l1 Bj AY rfl) rfl <| Lq (Af rfl u_25 BX rfl rfl ‹_›) rfl <| Lq (AM rfl rfl ag_58 BX (Qc rfl)) rfl ?_
 refine Lo (Ag rfl rfl (by kernel_rfl) rfl (Ae (hit_51))) rfl <| qa rfl <| Ld <| Ab ?_
 rw [hs]
 obtain rfl := shape_makes hs
 have hes := Dz c k x
 rw [hs] at hes
 generalize x.args = l at *
 focus
  refine Es <| qm rfl <| Lq (Fl (neg := false) rfl if_111 rfl rfl rfl) rfl <| qm rfl <| Lh rfl rfl (om rfl) <| Fj rfl rfl rfl rfl rfl <| Fk (fn := Tryz.f343) (by kernel_rfl) m_119_registers (by kernel_rfl) rfl rfl rfl rfl rfl rfl rfl rfl rfl rfl rfl rfl rfl <| Es ?_
  refine Lo (Az 3 rfl rfl rfl rfl) rfl <| qa rfl <| Ld <| Es <| Lq (of f_119_2 rfl) rfl <| Lo (l1 BK BJ rfl) rfl <| qa rfl <| Ld ?_
  refine Aa (DE rfl (As rfl rfl) rfl rfl rfl rfl ?_)
  refine Lg rfl rfl (Ag rfl rfl (by kernel_rfl) rfl (run_70 (by first | assumption | omega | (simp only [LL]; omega)))) ?_
  refine Lq (oF rfl rfl rfl) rfl <| Ld ?_
  refine Ec rfl (fun g1 => ?_) (fun g1 => ?_)
  have h1 := DK g1
  refine Es <| qa rfl <| Ld ?_
  refine Aa (Er rfl ?_)
  refine Ad ?_
  rotate_left
  have h1 := DL g1
  refine Ac <| Es <| Lq (B4 rfl rfl rfl) rfl <| Lo (Bf 3 rfl z_146 rfl) rfl <| AB (AK rfl sz_146 rfl rfl rfl rfl rfl rfl) rfl rfl <| Ld <| Ab <| Es ?_
  refine qm rfl <| Ld <| Ai <| Es <| Lq (A2 rfl Eo z_114 rfl rfl) rfl ?_
  iterate 2 refine Lq (oe rfl) rfl ?_
  refine Ld <| An rfl rfl <| Es <| Lq (A2 rfl if_117 z_117 rfl rfl) rfl ?_
  iterate 2 refine Lq (oe rfl) rfl ?_
  refine Ld <| An rfl rfl <| Es <| Lq (A2 rfl if_119 z_119 rfl rfl) rfl ?_
  iterate 2 refine Lq (oe rfl) rfl ?_
  refine Ld <| Ah rfl rfl <| Es <| Lo (Bf 4 rfl z_119 rfl) rfl <| AB (AK rfl sz_119 rfl rfl rfl rfl rfl rfl) rfl rfl <| Ld <| Es <| Lq (of Ep rfl) rfl ?_
  refine Lo (A7 rfl ag_24 sz_24 rfl rfl (Qc rfl)) rfl <| Lo (A7 rfl ag_119 sz_119 rfl rfl (Qc rfl)) rfl ?_
  refine Lo (Ag rfl rfl (by kernel_rfl) rfl (Ae (hit_81 (by first | assumption | omega | (simp only [LL]; omega)) (by first | assumption | omega | (simp only [LL]; omega))))) rfl ?_
  refine qa rfl <| Ld ?_
  refine Aa (Er rfl ?_)
  refine Ad ?_
  rotate_left
 ·rw [hes, insS, h1]; rfl
 ·rw [hes, insS, h1]; rfl
theorem instr_enters (c : CodeT) (k : Nat) (hf : Fits c) (hk : k < c.ins.length) (r : Int) (hs : shapeV c.ins[k] = .enters r) : CallTo (EK K13) 38 [.agg (encC c), .int .i64 (k : Nat)] S0 (.bool (insV c k c.ins[k])) := by
 refine Ax (fn := Tryz.f38) rfl rfl (by kernel_rfl) rfl rfl rfl rfl ?_
 have hp0 := A1 B7 hk
 have ha := hf.args _ (Ql hk)
 have hk1 := hf.cons
 have hk2 := hf.funs
 have hk3 := hf.ins
 have hto := hf.to _ (Ql hk)
 have hal := hf.alts _ (Ql hk)
 generalize hx : c.ins[k] = x at *
 refine Es <| Lo (Az 1 rfl rfl rfl rfl) rfl <| Lo (Az 2 rfl rfl rfl rfl) rfl <| qa rfl <| Ld <| Es <| Lq (of Bd rfl) rfl <| Lo (l1 BW BV rfl) rfl ?_
 refine Lo (l1 Bj AY rfl) rfl <| Lq (Af rfl u_25 BX rfl rfl ‹_›) rfl <| Lq (AM rfl rfl ag_58 BX (Qc rfl)) rfl ?_
 refine Lo (Ag rfl rfl (by kernel_rfl) rfl (Ae (hit_51))) rfl <| qa rfl <| Ld <| Ab ?_
 rw [hs]
 have hes := Dz c k x
 rw [hs] at hes
 focus
  refine Es <| qm rfl <| Lq (Fl (neg := false) rfl if_111 rfl rfl rfl) rfl <| qm rfl <| Lh rfl rfl (om rfl) ?_
  refine Lg rfl rfl (OpL.invoke rfl rfl rfl rfl m_121_registers (by kernel_rfl) rfl (Ae (hit_344))) ?_
  refine Lg rfl rfl (Ag rfl rfl (by kernel_rfl) rfl (run_70 (by first | assumption | omega | (simp only [LL]; omega)))) ?_
  refine Lq (oF rfl rfl rfl) rfl <| Ld ?_
  refine Ec rfl (fun g1 => ?_) (fun g1 => ?_)
  have h1 := DK g1
  refine Es <| qa rfl <| Ld ?_
  refine Aa (Er rfl ?_)
  refine Ad ?_
  rotate_left
  have h1 := DL g1
  refine Ac <| Es <| Lq (B4 rfl rfl rfl) rfl <| Lo (Bf 3 rfl z_146 rfl) rfl <| AB (AK rfl sz_146 rfl rfl rfl rfl rfl rfl) rfl rfl <| Ld <| Ab <| Es ?_
  refine qm rfl <| Ld <| Ai <| Es <| Lq (A2 rfl Eo z_114 rfl rfl) rfl ?_
  iterate 2 refine Lq (oe rfl) rfl ?_
  refine Ld <| An rfl rfl <| Es <| Lq (A2 rfl if_117 z_117 rfl rfl) rfl ?_
  iterate 2 refine Lq (oe rfl) rfl ?_
  refine Ld <| An rfl rfl <| Es <| Lq (A2 rfl if_119 z_119 rfl rfl) rfl ?_
  iterate 2 refine Lq (oe rfl) rfl ?_
  refine Ld <| An rfl rfl <| Ac <| Es <| qa rfl <| Ld ?_
  refine Aa (Er rfl ?_)
  refine Ad ?_
  rotate_left
 ·rw [hes, insS, ← regsV_one, h1]
 ·rw [hes, insS, ← regsV_one, h1]
theorem instr_no (c : CodeT) (k : Nat) (hf : Fits c) (hk : k < c.ins.length) (hs : shapeV c.ins[k] = .no) : CallTo (EK K13) 38 [.agg (encC c), .int .i64 (k : Nat)] S0 (.bool (insV c k c.ins[k])) := by
 refine Ax (fn := Tryz.f38) rfl rfl (by kernel_rfl) rfl rfl rfl rfl ?_
 have hp0 := A1 B7 hk
 have ha := hf.args _ (Ql hk)
 have hk1 := hf.cons
 have hk2 := hf.funs
 have hk3 := hf.ins
 have hto := hf.to _ (Ql hk)
 have hal := hf.alts _ (Ql hk)
 generalize hx : c.ins[k] = x at *
 refine Es <| Lo (Az 1 rfl rfl rfl rfl) rfl <| Lo (Az 2 rfl rfl rfl rfl) rfl <| qa rfl <| Ld <| Es <| Lq (of Bd rfl) rfl <| Lo (l1 BW BV rfl) rfl ?_
 refine Lo (l1 Bj AY rfl) rfl <| Lq (Af rfl u_25 BX rfl rfl ‹_›) rfl <| Lq (AM rfl rfl ag_58 BX (Qc rfl)) rfl ?_
 refine Lo (Ag rfl rfl (by kernel_rfl) rfl (Ae (hit_51))) rfl <| qa rfl <| Ld <| Ab ?_
 rw [hs]
 have hes := Dz c k x
 rw [hs] at hes
 refine Es <| qm rfl <| Lq (Fl (neg := false) rfl if_111 rfl rfl rfl) rfl <| qm rfl ?_
 iterate 3 refine Lk rfl rfl ?_
 refine Lq (oT rfl rfl rfl) rfl <| Ld <| Ah rfl rfl <| Es <| qa rfl <| Ld ?_
 refine Aa (Er rfl ?_)
 refine Ad ?_
 exact hes.symm
theorem instruction_to (c : CodeT) (k : Nat) (hf : Fits c) (hk : k < c.ins.length) : CallTo (EK K13) 38 [.agg (encC c), .int .i64 (k : Nat)] S0 (.bool (insV c k c.ins[k])) := by
 rcases hs : shapeV c.ins[k] with ⟨r, l⟩ | l | _ | _ | ⟨o, n, l⟩ | r | _
 ·exact instr_looks c k hf hk r l hs
 ·exact instr_goes c k hf hk l hs
 ·exact instr_fails c k hf hk hs
 ·exact instr_frees c k hf hk hs
 ·exact instr_makes c k hf hk o n l hs
 ·exact instr_enters c k hf hk r hs
 ·exact instr_no c k hf hk hs
noncomputable def K14 := addC K13 38 (fun p : AtT=>[.agg (encC p.1.1),.int .i64 (p.1.2 : Nat)]) (fun p=>.bool (insV p.1.1 p.1.2 p.x))
theorem hit_38 {c : CodeT} {k : Nat} (h : Fits c) (hk : k < c.ins.length) : K14 38 [.agg (encC c), .int .i64 (k : Nat)] = some (.bool (insV c k c.ins[k])) :=
 AD (f := 38) (enc := fun p : AtT => [.agg (encC p.1.1), .int .i64 (p.1.2 : Nat)]) (res := fun p => .bool (insV p.1.1 p.1.2 p.x)) (fun p q h => by rw [encAt_inj h]) ⟨(c, k), h, hk⟩
theorem all14 (h : KnownF Tryz.prog 10 [] (.bool true)) : KnownAll Tryz.prog K14 := BH AE (all13 h) (fun p : AtT=>instruction_to p.1.1 p.1.2 p.2.1 p.2.2) (fun _=>rfl) (fun _=>rfl)
theorem err0 {b : Bool} (h : (if b = true then (0 : Int) else 2) = 0) : b = true := by cases b with
 | true => rfl
 | false => cases h
theorem err2 {b : Bool} (h : ¬ (if b = true then (0 : Int) else 2) = 0) : b = false := by cases b with
 | true => exact absurd rfl h
 | false => rfl
theorem check_to (c : CodeT) (hf : Fits c) : CallTo (EK K14) 13 [.agg (encC c)] S0 (.int .i64 (if codeV c then 0 else 2)) := by
 refine Ax (fn := Tryz.f13) rfl rfl (by kernel_rfl) rfl rfl rfl rfl ?_
 have hno : headV c = false → codeV c = false := fun h => by unfold codeV; rw [h]; rfl
 have hcn := hf.cnames
 have hfn := hf.fnames
 have hl1 := hf.starts
 have hl2 := hf.ins
 focus
  refine Es <| Lo (Az 1 rfl rfl rfl rfl) rfl <| qa rfl <| Ld <| Ab <| Es <| Lq (of Ep rfl) rfl <| Lo (A7 rfl ag_24 sz_24 rfl rfl (Qc rfl)) rfl ?_
  refine Lo (Ag rfl rfl (by kernel_rfl) rfl (Ae (hit_36 (by first | assumption | omega | (simp only [LL]; omega)) (by first | assumption | omega | (simp only [LL]; omega))))) rfl ?_
  refine Lq (o2 u_31 rfl rfl) rfl <| qm rfl ?_
  refine Lb rfl (fun g1 => ?_) (fun g1 => ?_)
  have h1 := nT g1
  iterate 4 refine Lk rfl ‹_› ?_
  refine Lq (oT rfl ‹_› rfl) rfl <| qm rfl ?_
  iterate 8 refine Lk rfl rfl ?_
  refine Lq (oT rfl rfl rfl) rfl <| Ld <| Ah rfl rfl <| Es <| qa rfl <| Ld ?_
  refine Aa (Er rfl ?_)
  rotate_left
  have h1 := nF g1
  refine Lh rfl ‹_› (of Bd rfl) <| Lg rfl ‹_› (l1 BW BV rfl) <| Lh rfl ‹_› (ol u_25 rfl) <| Lh rfl ‹_› (o2 u_3 rfl rfl) <| Lq (oF rfl ‹_› rfl) rfl <| qm rfl ?_
  refine Lb rfl (fun g2 => ?_) (fun g2 => ?_)
  have h2 := dT g2
  iterate 8 refine Lk rfl ‹_› ?_
  refine Lq (oT rfl ‹_› rfl) rfl <| Ld <| Ah rfl rfl <| Es <| qa rfl <| Ld ?_
  refine Aa (Er rfl ?_)
  rotate_left
  have h2 := dF g2
  refine Lh rfl ‹_› (of f_28_2 rfl) <| Lg rfl ‹_› (l1 BK BJ rfl) <| Lh rfl ‹_› (ol DO rfl) <| Lh rfl ‹_› (of Ep rfl) <| Lh rfl ‹_› (of BT rfl) <| Lg rfl ‹_› (l1 Bp Bo rfl) <| Lh rfl ‹_› (ol DF rfl) <| Lh rfl ‹_› (o2 u_3 rfl rfl) ?_
  refine Lq (oF rfl ‹_› rfl) rfl <| Ld ?_
  refine Ec rfl (fun g3 => ?_) (fun g3 => ?_)
  have h3 := nT g3
  refine Es <| qa rfl <| Ld ?_
  refine Aa (Er rfl ?_)
  rotate_left
  have h3 := nF g3
  refine Ac <| Ab <| Es <| Lq (of f_28_2 rfl) rfl <| Lo (l1 BK BJ rfl) rfl <| Lq (ol DO rfl) rfl <| qm rfl <| Ld ?_
  refine Ai ?_
  rotate_left
 ·rw [hno (by unfold headV; rw [err2 h1]; rfl)]; rfl
 ·rw [hno (by unfold headV; rw [g2]; simp)]; rfl
 ·rw [hno (by unfold headV; rw [decide_eq_false h3]; simp)]; rfl
 have hhd : headV c = true := by unfold headV; rw [err0 h1, g2, decide_eq_true h3]; rfl
 refine Aw (fun i : Nat => ([(29, .int .i64 (i : Nat)), (28, .int .i64 (c.starts.length : Nat)), (27, recs encZ 1 c.starts), (2, .int .i64 0), (1, .ptr 0 0)], mkS 1 0 [] [(0, some (.cells (encC c) 28 false))])) (fun i => c.starts.length - i) (fun i => i ≤ c.starts.length ∧ (List.range i).all (startAt c) = true) 0 ⟨Qo _, rfl⟩ rfl (by (refine Am.Ap ?_; repeat (first | exact trivial | refine ⟨rfl, ?_⟩))) ?_
 rintro i ⟨hi, hs⟩
 dsimp only at hi hs ⊢
 by_cases h : i < c.starts.length
 ·have hp := A1 B5 h
  have hat : startAt c i = inV c.starts[i] 0 (c.ins.length - 1) := by unfold startAt; rw [BD h]
  focus
   refine Es <| Lq (o2 u_3 rfl rfl) rfl <| Ld <| Ab ?_
   refine Ec rfl (fun g4 => ?_) (fun g4 => ?_)
   have h4 := dT g4
   refine Ac <| Ab <| Ai <| Es <| Lq (Af rfl DO AY rfl rfl ‹_›) rfl <| Lq (A3 rfl rfl Bj AY) rfl <| qa rfl <| Ld ?_
   refine Es <| qm rfl <| Lq (of Bd rfl) rfl <| Lo (l1 BW BV rfl) rfl <| Lq (ol u_25 rfl) rfl <| Lq (Ef rfl u_3 rfl rfl (by omega)) rfl ?_
   refine Lo (Ag rfl rfl (by kernel_rfl) rfl (Ae (hit_37))) rfl <| Lq (on rfl) rfl <| Ld ?_
   refine Ec rfl (fun g5 => ?_) (fun g5 => ?_)
   have h5 := DK g5
   refine Es <| qa rfl <| Ld ?_
   refine Aa (Er rfl ?_)
   rotate_left
   have h5 := DL g5
   refine Ac <| Ao ?_
   refine Lq (At (b := 1) rfl u_3 rfl rfl (by first | assumption | omega | (simp only [LL]; omega))) rfl ?_
   refine qm rfl <| Ld ?_
   rotate_left
   have h4 := dF g4
   exact absurd h4 (by omega)
  ·have : codeV c = false := by unfold codeV; rw [ra_no h (hat.trans h5), Bool.false_and, Bool.and_false]
   rw [this]; rfl
  ·exact ⟨i + 1, ⟨h, DT hs (hat.trans h5)⟩, by show c.starts.length - (i + 1) < c.starts.length - i; omega, rfl, rfl, by (refine Am.Ap ?_; repeat (first | exact trivial | refine ⟨rfl, ?_⟩))⟩
 ·focus
   refine Es <| Lq (o2 u_3 rfl rfl) rfl <| Ld <| Ab ?_
   refine Ec rfl (fun g4 => ?_) (fun g4 => ?_)
   have h4 := dT g4
   exact absurd h4 (by omega)
   have h4 := dF g4
   refine A5 <| AX rfl <| Ab <| Es <| Lq (of Bd rfl) rfl <| Lo (l1 BW BV rfl) rfl <| Lq (ol u_25 rfl) rfl <| qm rfl ?_
   refine Ld <| Ai ?_
   rotate_left
  obtain rfl : i = c.starts.length := by omega
  refine Aw (fun i : Nat => ([(44, .int .i64 (i : Nat)), (43, .int .i64 (c.ins.length : Nat)), (2, .int .i64 0), (1, .ptr 0 0)], mkS 1 0 [] [(0, some (.cells (encC c) 28 false))])) (fun i => c.ins.length - i) (fun i => i ≤ c.ins.length ∧ (List.range i).all (insAt c) = true) 0 ⟨Qo _, rfl⟩ rfl (by (refine Am.Ap ?_; repeat (first | exact trivial | refine ⟨rfl, ?_⟩))) ?_
  rintro j ⟨hj, hs2⟩
  dsimp only at hj hs2 ⊢
  by_cases h' : j < c.ins.length
  ·have hat : insAt c j = insV c j c.ins[j] := by unfold insAt; rw [iAt_eq h']
   focus
    refine Es <| Lq (o2 u_3 rfl rfl) rfl <| Ld <| Ab ?_
    refine Ec rfl (fun g5 => ?_) (fun g5 => ?_)
    have h5 := dT g5
    refine Ac <| Ab <| Ai <| Es <| qm rfl <| qa rfl <| Ld <| Es ?_
    refine Lo (A7 rfl E5 E1 rfl rfl (Qc rfl)) rfl <| qm rfl ?_
    refine Lo (Ag rfl rfl (by kernel_rfl) rfl (Ae (hit_38 (by first | assumption | omega | (simp only [LL]; omega)) (by first | assumption | omega | (simp only [LL]; omega))))) rfl ?_
    refine Lq (on rfl) rfl <| Ld ?_
    refine Ec rfl (fun g6 => ?_) (fun g6 => ?_)
    have h6 := DK g6
    refine Es <| qa rfl <| Ld ?_
    refine Aa (Er rfl ?_)
    rotate_left
    have h6 := DL g6
    refine Ac <| Ao ?_
    refine Lq (At (b := 1) rfl u_3 rfl rfl (by first | assumption | omega | (simp only [LL]; omega))) rfl ?_
    refine qm rfl <| Ld ?_
    rotate_left
    have h5 := dF g5
    exact absurd h5 (by omega)
   ·have : codeV c = false := by unfold codeV; rw [ra_no h' (hat.trans h6), Bool.and_false, Bool.and_false]
    rw [this]; rfl
   ·exact ⟨j + 1, ⟨h', DT hs2 (hat.trans h6)⟩, by show c.ins.length - (j + 1) < c.ins.length - j; omega, rfl, rfl, by (refine Am.Ap ?_; repeat (first | exact trivial | refine ⟨rfl, ?_⟩))⟩
  ·focus
    refine Es <| Lq (o2 u_3 rfl rfl) rfl <| Ld <| Ab ?_
    refine Ec rfl (fun g5 => ?_) (fun g5 => ?_)
    have h5 := dT g5
    exact absurd h5 (by omega)
    have h5 := dF g5
    refine A5 <| AX rfl <| Es <| qa rfl <| Ld ?_
    refine Aa (Er rfl ?_)
    rotate_left
   obtain rfl : j = c.ins.length := by omega
   have : codeV c = true := by unfold codeV; rw [hs, hs2, hhd]; rfl
   rw [this]; rfl
noncomputable def K15 := addC K14 13 (fun p : FitT=>[.agg (encC p.1)]) (fun p=>.int .i64 (if codeV p.1 then 0 else 2))
theorem hit_13 {c : CodeT} (h : Fits c) : K15 13 [.agg (encC c)] = some (.int .i64 (if codeV c then 0 else 2)) :=
 AD (f := 13) (enc := fun p : FitT => [.agg (encC p.1)]) (res := fun p => .int .i64 (if codeV p.1 then 0 else 2)) (fun p q h => by rw [encF_inj h]) ⟨c, h⟩
theorem all15 (h : KnownF Tryz.prog 10 [] (.bool true)) : KnownAll Tryz.prog K15 := BH AE (all14 h) (fun p : FitT=>check_to p.1 p.2) (fun _=>rfl) (fun _=>rfl)
section
variable {P : Program}
theorem Ew {t : TypeId} {k : IntKind} {l : List AV} (h : Am.Data P t l) (hu : P.underlying t = some (.int k)) : ∃ n, l = [.int k n] := by
 cases h with
 | bool h => rw [hu] at h; cases h
 | int h => rw [hu] at h; cases h; exact ⟨_, rfl⟩
 | str h => rw [hu] at h; cases h
 | sl h => rw [hu] at h; cases h
 | st h => rw [hu] at h; cases h
theorem data_str {t : TypeId} {l : List AV} (h : Am.Data P t l) (hu : P.underlying t = some .string) : ∃ w, l = [.str w] := by
 cases h with
 | bool h => rw [hu] at h; cases h
 | int h => rw [hu] at h; cases h
 | str h => exact ⟨_, rfl⟩
 | sl h => rw [hu] at h; cases h
 | st h => rw [hu] at h; cases h
theorem data_sl {t e : TypeId} {l : List AV} (h : Am.Data P t l) (hu : P.underlying t = some (.slice e)) : ∃ ls : List (List AV), l = [.islice ls.flatten ls.length (P.cellsOf e) true] ∧ ∀ x ∈ ls, Am.Data P e x := by
 cases h with
 | bool h => rw [hu] at h; cases h
 | int h => rw [hu] at h; cases h
 | str h => rw [hu] at h; cases h
 | sl h hn hl hd => rw [hu] at h; cases h; exact ⟨_, rfl, hd⟩
 | st h => rw [hu] at h; cases h
theorem data_st {t : TypeId} {fs : Array Field} {l : List AV} (h : Am.Data P t l) (hu : P.underlying t = some (.struct fs)) : ∃ ls : List (List AV), l = ls.flatten ∧ ls.length = fs.toList.length ∧ ∀ (i : Nat) f x, fs.toList[i]? = some f → ls[i]? = some x → Am.Data P f.type x := by
 cases h with
 | bool h => rw [hu] at h; cases h
 | int h => rw [hu] at h; cases h
 | str h => rw [hu] at h; cases h
 | sl h => rw [hu] at h; cases h
 | st h hl hd => rw [hu] at h; cases h; exact ⟨_, rfl, hl, hd⟩
theorem list_dec {α : Type} {enc : α → List AV} : ∀ {ls : List (List AV)}, (∀ l ∈ ls, ∃ a, l = enc a) → ∃ xs : List α, ls = xs.map enc
 | [], _ => ⟨[], rfl⟩
 | l :: ls, h => by
  obtain ⟨a, rfl⟩ := h l (Qh ..)
  obtain ⟨xs, rfl⟩ := list_dec (ls := ls) fun x hx => h x (Qg _ hx)
  exact ⟨a :: xs, rfl⟩
theorem data_recs {α : Type} {enc : α → List AV} {t e : TypeId} {k : Nat} {l : List AV} (h : Am.Data P t l) (hu : P.underlying t = some (.slice e)) (hk : P.cellsOf e = k) (hd : ∀ x, Am.Data P e x → ∃ a, x = enc a) : ∃ xs : List α, l = [recs enc k xs] := by
 obtain ⟨ls, rfl, hm⟩ := data_sl h hu
 obtain ⟨xs, rfl⟩ := list_dec fun x hx => hd x (hm x hx)
 refine ⟨xs, ?_⟩
 unfold recs
 rw [hk, Qn, List.flatMap_def]
end
noncomputable def fieldsOf (t : TypeId) : Array Field := match Tryz.prog.underlying t with
 | some (.struct fs) => fs
 | _ => #[]
noncomputable def ftype (t : TypeId) (i : Nat) : Option TypeId := ((fieldsOf t).toList[i]?).map Field.type
theorem AU {t : TypeId} {ls : List (List AV)} (hd : ∀ (i : Nat) f x, (fieldsOf t).toList[i]? = some f → ls[i]? = some x → Am.Data Tryz.prog f.type x) {i : Nat} {u : TypeId} {x : List AV} (h : ftype t i = some u) (hx : ls[i]? = some x) : Am.Data Tryz.prog u x := by
 unfold ftype at h
 obtain ⟨f, hf, rfl⟩ := Option.map_eq_some_iff.1 h
 exact hd i f x hf hx
theorem data_Z {x : List AV} (h : Am.Data Tryz.prog 3 x) : ∃ n,x = encZ n := Ew h (by kernel_rfl)
theorem data_A {x : List AV} (h : Am.Data Tryz.prog 60 x) : ∃ p, x = encA p := by
 obtain ⟨ls, rfl, hl, hd⟩ := data_st (fs := fieldsOf 60) h (by kernel_rfl)
 have hl : ls.length = 2 := hl.trans (by kernel_rfl)
 match ls, hl, hd with
 | [a, b], _, hd =>
  obtain ⟨m, rfl⟩ := Ew (k := .i64) (AU hd (i := 0) (u := 3) (by kernel_rfl) rfl) (by kernel_rfl)
  obtain ⟨n, rfl⟩ := Ew (k := .i64) (AU hd (i := 1) (u := 3) (by kernel_rfl) rfl) (by kernel_rfl)
  exact ⟨(m, n), rfl⟩
theorem data_N {x : List AV} (h : Am.Data Tryz.prog 54 x) : ∃ p, x = encN p := by
 obtain ⟨ls, rfl, hl, hd⟩ := data_st (fs := fieldsOf 54) h (by kernel_rfl)
 have hl : ls.length = 2 := hl.trans (by kernel_rfl)
 match ls, hl, hd with
 | [a, b], _, hd =>
  obtain ⟨w, rfl⟩ := data_str (AU hd (i := 0) (u := 9) (by kernel_rfl) rfl) (by kernel_rfl)
  obtain ⟨n, rfl⟩ := Ew (k := .i64) (AU hd (i := 1) (u := 3) (by kernel_rfl) rfl) (by kernel_rfl)
  exact ⟨(w, n), rfl⟩
theorem data_Zs {x : List AV} (h : Am.Data Tryz.prog 26 x) : ∃ l,x = [recs encZ 1 l] := data_recs h (e := 3) (by kernel_rfl) (by kernel_rfl) fun _=>data_Z
theorem data_As {x : List AV} (h : Am.Data Tryz.prog 56 x) : ∃ l,x = [recs encA 2 l] := data_recs h (e := 60) (by kernel_rfl) (by kernel_rfl) fun _=>data_A
theorem data_Ns {x : List AV} (h : Am.Data Tryz.prog 22 x) : ∃ l,x = [recs encN 2 l] := data_recs h (e := 54) (by kernel_rfl) (by kernel_rfl) fun _=>data_N
theorem data_I {x : List AV} (h : Am.Data Tryz.prog 58 x) : ∃ p, x = encI p := by
 obtain ⟨ls, rfl, hl, hd⟩ := data_st (fs := fieldsOf 58) h (by kernel_rfl)
 have hl : ls.length = 7 := hl.trans (by kernel_rfl)
 match ls, hl, hd with
 | [a, b, c, d, e, f, g], _, hd =>
  obtain ⟨op, rfl⟩ := Ew (k := .i64) (AU hd (i := 0) (u := 55) (by kernel_rfl) rfl) (by kernel_rfl)
  obtain ⟨a, rfl⟩ := Ew (k := .i64) (AU hd (i := 1) (u := 3) (by kernel_rfl) rfl) (by kernel_rfl)
  obtain ⟨alts, rfl⟩ := data_As (AU hd (i := 2) (u := 56) (by kernel_rfl) rfl)
  obtain ⟨to, rfl⟩ := data_Zs (AU hd (i := 3) (u := 26) (by kernel_rfl) rfl)
  obtain ⟨term, rfl⟩ := Ew (k := .i64) (AU hd (i := 4) (u := 37) (by kernel_rfl) rfl) (by kernel_rfl)
  obtain ⟨n, rfl⟩ := Ew (k := .i64) (AU hd (i := 5) (u := 3) (by kernel_rfl) rfl) (by kernel_rfl)
  obtain ⟨args, rfl⟩ := data_Zs (AU hd (i := 6) (u := 26) (by kernel_rfl) rfl)
  exact ⟨⟨op, a, alts, to, term, n, args⟩, rfl⟩
theorem data_Is {x : List AV} (h : Am.Data Tryz.prog 25 x) : ∃ l,x = [recs encI 7 l] := data_recs h (e := 58) (by kernel_rfl) (by kernel_rfl) fun _=>data_I
theorem data_C {x : List AV} (h : Am.Data Tryz.prog 28 x) : ∃ c, x = encC c := by
 obtain ⟨ls, rfl, hl, hd⟩ := data_st (fs := fieldsOf 28) h (by kernel_rfl)
 have hl : ls.length = 3 := hl.trans (by kernel_rfl)
 match ls, hl, hd with
 | [a, b, c], _, hd =>
  obtain ⟨ls2, rfl, hl2, hd2⟩ := data_st (fs := fieldsOf 24) (AU hd (i := 0) (u := 24) (by kernel_rfl) rfl) (by kernel_rfl)
  have hl2 : ls2.length = 2 := hl2.trans (by kernel_rfl)
  obtain ⟨ins, rfl⟩ := data_Is (AU hd (i := 1) (u := 25) (by kernel_rfl) rfl)
  obtain ⟨starts, rfl⟩ := data_Zs (AU hd (i := 2) (u := 26) (by kernel_rfl) rfl)
  match ls2, hl2, hd2 with
  | [a, b], _, hd2 =>
   obtain ⟨cons, rfl⟩ := data_Ns (AU hd2 (i := 0) (u := 22) (by kernel_rfl) rfl)
   obtain ⟨funs, rfl⟩ := data_Ns (AU hd2 (i := 1) (u := 22) (by kernel_rfl) rfl)
   exact ⟨⟨cons, funs, ins, starts⟩, rfl⟩
end Go.Proofs.YtpihdbhocgcbpaaGreatDoor
