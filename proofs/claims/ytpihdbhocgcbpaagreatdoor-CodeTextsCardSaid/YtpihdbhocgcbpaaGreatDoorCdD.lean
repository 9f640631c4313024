/- Code: texts are one-to-one; the law of texts. -/
import Derived.Test.YtpihdbhocgcbpaaGreatDoorCdC
import Derived.Test.YtpihdbhocgcbpaaGreatDoorCdB
import Derived.Lib.LaidTab
set_option linter.unusedSectionVars false
set_option linter.unusedVariables false
set_option linter.unusedSimpArgs false
open Go Am
namespace Go.Proofs.YtpihdbhocgcbpaaGreatDoor.Gl
def dval (l : List UInt8) : Nat := l.foldl (fun a b=>10 * a + (b.toNat - 48)) 0
theorem u8_at {n : Nat} (h : n < 256) : (UInt8.ofNat n).toNat = n := by
 rw [UInt8.toNat_ofNat']; exact Nat.mod_eq_of_lt h
theorem dval_dig : ∀ (d m : Nat), m < 10 ^ d → dval (digV m d) = m
 | 0, m, h => by
  have : m = 0 := by simpa using h
  subst this; rfl
 | d + 1, m, h => by
  have ih := dval_dig d (m / 10) (by rw [Nat.pow_succ] at h; omega)
  unfold dval at ih ⊢
  rw [digV, List.foldl_append, ih]
  simp only [List.foldl_cons, List.foldl_nil]
  rw [u8_at (by omega)]; omega
def numB (b : UInt8) : Prop := b.toNat = 45 ∨ (48 ≤ b.toNat ∧ b.toNat ≤ 57)
theorem dig_digits : ∀ (d m : Nat), ∀ b ∈ digV m d, 48 ≤ b.toNat ∧ b.toNat ≤ 57
 | 0, m, b, h => by cases h
 | d + 1, m, b, h => by
  rw [digV, List.mem_append] at h
  rcases h with h | h
  ·exact dig_digits d _ b h
  ·rw [Qp.1 h, u8_at (by omega)]; omega
theorem small_digits {n : Nat} (h : n < 100) : ∀ b ∈ smallV n, 48 ≤ b.toNat ∧ b.toNat ≤ 57 := by
 intro b hb
 unfold smallV at hb
 split at hb
 ·rw [Qp.1 hb, u8_at (by omega)]; omega
 ·rcases Qk.1 hb with hb | hb
  ·rw [hb, u8_at (by omega)]; omega
  ·rw [Qp.1 hb, u8_at (by omega)]; omega
theorem dval_small {n : Nat} (h : n < 100) : dval (smallV n) = n := by
 unfold smallV dval
 split
 ·simp only [List.foldl_cons, List.foldl_nil]; rw [u8_at (by omega)]; omega
 ·simp only [List.foldl_cons, List.foldl_nil]; rw [u8_at (by omega), u8_at (by omega)]; omega
theorem itoa_bytes (n : Int) : ∀ b ∈ itoaV n, numB b := by
 intro b hb
 unfold itoaV at hb
 split at hb
 ·exact .inr (small_digits (by omega) b hb)
 ·split at hb
  ·rcases Qk.1 hb with hb | hb
   ·exact .inl (by rw [hb]; rfl)
   ·exact .inr (dig_digits _ _ b hb)
  ·exact .inr (dig_digits _ _ b hb)
def ival (l : List UInt8) : Int := if l.head? = some 45 then -(dval l.tail : Nat) else (dval l : Nat)
theorem ival_pos {l : List UInt8} (h : ∀ b ∈ l, 48 ≤ b.toNat ∧ b.toNat ≤ 57) : ival l = (dval l : Nat) := by
 unfold ival
 rw [if_neg]
 intro hh
 have := h 45 (List.mem_of_mem_head? hh)
 exact absurd this.1 (by decide)
theorem ival_itoa {n : Int} (h0 : -10000000 < n) (h1 : n < 10000000) : ival (itoaV n) = n := by
 unfold itoaV
 split
 ·rw [ival_pos (small_digits (by omega)), dval_small (by omega)]; omega
 ·split
  ·unfold ival
   rw [if_pos (show (45 :: digV n.natAbs (numV n.natAbs)).head? = some 45 from rfl)]
   rw [show (45 :: digV n.natAbs (numV n.natAbs)).tail = digV n.natAbs (numV n.natAbs) from rfl, dval_dig _ _ (num_law (by omega) (by omega)).2.2.2]; omega
  ·rw [ival_pos (dig_digits _ _), dval_dig _ _ (num_law (by omega) (by omega)).2.2.2]; omega
theorem EX {n m : Int} (h0 : -10000000 < n) (h1 : n < 10000000) (h2 : -10000000 < m) (h3 : m < 10000000) (h : itoaV n = itoaV m) : n = m := by
 rw [← ival_itoa h0 h1, h, ival_itoa h2 h3]
theorem parts_inj {x : UInt8} : ∀ {A B : List (List UInt8)}, (∀ w ∈ A, x ∉ w) → (∀ w ∈ B, x ∉ w) → A.flatMap (· ++ [x]) = B.flatMap (· ++ [x]) → A = B
 | [], [], _, _, _ => rfl
 | [], b :: B, _, _, h => by simp at h
 | a :: A, [], _, _, h => by simp at h
 | a :: A, b :: B, hA, hB, h => by
  rw [List.flatMap_cons, List.flatMap_cons, List.append_assoc, List.append_assoc] at h
  have hd : ∀ (u : List UInt8) (r : List UInt8), x ∉ u → (u ++ ([x] ++ r)).takeWhile (· != x) = u := by
   intro u r hu
   rw [List.takeWhile_append_of_pos (by intro c hc; simp only [bne_iff_ne, ne_eq]; intro he; exact hu (he ▸ hc))]
   simp
  have h1 : a = b := by
   have := congrArg (List.takeWhile (· != x)) h
   rwa [hd a _ (hA a Qh), hd b _ (hB b Qh)] at this
  subst h1
  have h2 := List.append_cancel_left (List.append_cancel_left h)
  rw [parts_inj (fun w hw => hA w (Qg _ hw)) (fun w hw => hB w (Qg _ hw)) h2]
theorem join_app {x : UInt8} : ∀ {a : List UInt8} {l : List (List UInt8)}, joinS [x] (a :: l) ++ [x] = (a :: l).flatMap (· ++ [x])
 | a, [] => by simp [joinS]
 | a, b :: l => by
  have ih := join_app (x := x) (a := b) (l := l)
  rw [joinS] at ih ⊢
  simp only [List.flatMap_cons, List.append_assoc] at ih ⊢
  rw [← ih]
theorem join_inj {x : UInt8} {A B : List (List UInt8)} (hA : A ≠ []) (hB : B ≠ []) (h1 : ∀ w ∈ A, x ∉ w) (h2 : ∀ w ∈ B, x ∉ w) (h : joinS [x] A = joinS [x] B) : A = B := by
 cases A with
 | nil => exact absurd rfl hA
 | cons a A =>
  cases B with
  | nil => exact absurd rfl hB
  | cons b B =>
   refine parts_inj h1 h2 ?_
   rw [← join_app, ← join_app, h]
theorem join_mem {x : UInt8} {A : List (List UInt8)} {b : UInt8} (h : b ∈ joinS [x] A) : b = x ∨ ∃ w ∈ A, b ∈ w := by
 cases A with
 | nil => cases h
 | cons a A =>
  rw [joinS, List.mem_append] at h
  rcases h with h | h
  ·exact .inr ⟨a, Qh, h⟩
  ·obtain ⟨w, hw, hb⟩ := List.mem_flatMap.1 h
   rcases List.mem_append.1 hb with hb | hb
   ·exact .inl (Qp.1 hb)
   ·exact .inr ⟨w, Qg _ hw, hb⟩
def wordB (w : List UInt8) : Prop := 32 ∉ w ∧ 10 ∉ w
def textL (L : List (List (List UInt8))) : List UInt8 := L.flatMap fun l=>joinS [32] l ++ [10]
theorem textL_inj {A B : List (List (List UInt8))} (hA : ∀ l ∈ A, l ≠ [] ∧ ∀ w ∈ l, wordB w) (hB : ∀ l ∈ B, l ≠ [] ∧ ∀ w ∈ l, wordB w) (h : textL A = textL B) : A = B := by
 have hm : ∀ L : List (List (List UInt8)), textL L = (L.map (joinS [32])).flatMap (· ++ [10]) := fun L => by unfold textL; rw [List.flatMap_map]
 have hno : ∀ L : List (List (List UInt8)), (∀ l ∈ L, l ≠ [] ∧ ∀ w ∈ l, wordB w) → ∀ w ∈ L.map (joinS [32]), (10 : UInt8) ∉ w := by
  intro L hL w hw hb
  obtain ⟨l, hl, rfl⟩ := List.mem_map.1 hw
  rcases join_mem hb with h | ⟨u, hu, hb⟩
  ·exact absurd h (by decide)
  ·exact ((hL l hl).2 u hu).2 hb
 rw [hm, hm] at h
 have h2 := parts_inj (hno A hA) (hno B hB) h
 clear h
 induction A generalizing B with
 | nil => cases B with
  | nil => rfl
  | cons b B => simp at h2
 | cons a A ih => cases B with
  | nil => simp at h2
  | cons b B =>
   rw [List.map_cons, List.map_cons, List.cons.injEq] at h2
   have ha := hA a Qh
   have hb := hB b Qh
   rw [join_inj ha.1 hb.1 (fun w hw => (ha.2 w hw).1) (fun w hw => (hb.2 w hw).1) h2.1, ih (fun l hl => hA l (Qg _ hl)) (fun l hl => hB l (Qg _ hl)) h2.2]
def altW (p : AltT) : List UInt8 := itoaV p.1 ++ [58] ++ itoaV p.2
def opW (op : Int) : List UInt8 := wordsL.getD op.toNat []
def shW (x : InsT) : List (List UInt8) := if x.op = 1 then itoaV x.a :: x.alts.map altW else if x.op = 2 then x.to.map itoaV else if x.op = 5 then itoaV x.term :: itoaV x.n :: x.args.map itoaV else if x.op = 6 then [itoaV x.a] else []
def insW (x : InsT) : List (List UInt8) := opW x.op :: shW x
def conW (p : NameT) : List (List UInt8) := [[99,111,110],p.1,itoaV p.2]
def funW (p : NameT) (n : Int) : List (List UInt8) := [[102,117,110],p.1,itoaV p.2,itoaV n]
def linesV (c : CodeT) : List (List (List UInt8)) := c.cons.map conW ++ (List.zipWith funW c.funs c.starts ++ c.ins.map insW)
def textV (c : CodeT) : List UInt8 := textL (linesV c)
theorem map_inj {α β : Type} {f : α → β} {p : α → Prop} (hf : ∀ a b, p a → p b → f a = f b → a = b) : ∀ {l m : List α}, (∀ a ∈ l, p a) → (∀ a ∈ m, p a) → l.map f = m.map f → l = m
 | [], [], _, _, _ => rfl
 | [], b :: m, _, _, h => by simp at h
 | a :: l, [], _, _, h => by simp at h
 | a :: l, b :: m, hl, hm, h => by
  rw [List.map_cons, List.map_cons, List.cons.injEq] at h
  rw [hf a b (hl a Qh) (hm b Qh) h.1, map_inj hf (fun c hc => hl c (Qg _ hc)) (fun c hc => hm c (Qg _ hc)) h.2]
def numP (n : Int) : Prop := -10000000 < n ∧ n < 10000000
theorem nums_inj {l m : List Int} (hl : ∀ a ∈ l, numP a) (hm : ∀ a ∈ m, numP a) (h : l.map itoaV = m.map itoaV) : l = m :=
 map_inj (p := numP) (fun _ _ ha hb h => EX ha.1 ha.2 hb.1 hb.2 h) hl hm h
theorem itoa_no {n : Int} {b : UInt8} (hb : ¬ numB b) : b ∉ itoaV n := fun h=>hb (itoa_bytes n b h)
theorem BZ (n : Int) : wordB (itoaV n) := ⟨itoa_no (by unfold numB; decide),itoa_no (by unfold numB; decide)⟩
theorem alt_word (p : AltT) : wordB (altW p) := by
 have h1 := BZ p.1
 have h2 := BZ p.2
 unfold altW
 constructor
 ·simp only [List.mem_append, Qp, not_or]; exact ⟨⟨h1.1, by decide⟩, h2.1⟩
 ·simp only [List.mem_append, Qp, not_or]; exact ⟨⟨h1.2, by decide⟩, h2.2⟩
def altP (p : AltT) : Prop := numP p.1 ∧ numP p.2
theorem alt_inj (p q : AltT) (hp : altP p) (hq : altP q) (h : altW p = altW q) : p = q := by
 have e : ∀ p : AltT, (altW p ++ [58]) = [itoaV p.1, itoaV p.2].flatMap (· ++ [58]) := fun p => by simp [altW]
 have h2 : altW p ++ [58] = altW q ++ [58] := by rw [h]
 rw [e, e] at h2
 have hno : ∀ p : AltT, ∀ w ∈ [itoaV p.1, itoaV p.2], (58 : UInt8) ∉ w := fun p w hw => by
  rcases Qk.1 hw with rfl | hw
  ·exact itoa_no (by unfold numB; decide)
  ·rw [Qp.1 hw]; exact itoa_no (by unfold numB; decide)
 have h3 := parts_inj (hno p) (hno q) h2
 simp only [List.cons.injEq, and_true] at h3
 exact Prod.ext (EX hp.1.1 hp.1.2 hq.1.1 hq.1.2 h3.1) (EX hp.2.1 hp.2.2 hq.2.1 hq.2.2 h3.2)
structure InsP (x : InsT) : Prop where
 op : 1 ≤ x.op ∧ x.op ≤ 6
 a : numP x.a
 alts : ∀ p ∈ x.alts, altP p
 to : ∀ n ∈ x.to, numP n
 term : numP x.term
 n : numP x.n
 args : ∀ n ∈ x.args, numP n
 a0 : x.op ≠ 1 → x.op ≠ 6 → x.a = 0
 alts0 : x.op ≠ 1 → x.alts = []
 to0 : x.op ≠ 2 → x.to = []
 node0 : x.op ≠ 5 → x.term = 0 ∧ x.n = 0 ∧ x.args = []
theorem op_inj {a b : Int} (ha : 1 ≤ a ∧ a ≤ 6) (hb : 1 ≤ b ∧ b ≤ 6) (h : opW a = opW b) : a = b := by
 obtain rfl | rfl | rfl | rfl | rfl | rfl : a = 1 ∨ a = 2 ∨ a = 3 ∨ a = 4 ∨ a = 5 ∨ a = 6 := by omega
 all_goals
  obtain rfl | rfl | rfl | rfl | rfl | rfl : b = 1 ∨ b = 2 ∨ b = 3 ∨ b = 4 ∨ b = 5 ∨ b = 6 := by omega
  all_goals first | rfl | exact absurd h (by decide)
theorem ins_inj (x y : InsT) (hx : InsP x) (hy : InsP y) (h : insW x = insW y) : x = y := by
 obtain ⟨o, a, al, to, te, n, ar⟩ := x
 obtain ⟨o', a', al', to', te', n', ar'⟩ := y
 obtain ⟨x1, x2, x3, x4, x5, x6, x7, x8, x9, x10, x11⟩ := hx
 obtain ⟨y1, y2, y3, y4, y5, y6, y7, y8, y9, y10, y11⟩ := hy
 unfold insW shW at h
 dsimp only at *
 obtain ⟨h1, h2⟩ := List.cons.inj h
 obtain rfl := op_inj x1 y1 h1
 clear h h1
 have num : ∀ {n m : Int}, numP n → numP m → itoaV n = itoaV m → n = m := fun hn hm h => EX hn.1 hn.2 hm.1 hm.2 h
 by_cases c1 : o = 1
 ·rw [if_pos c1, if_pos c1] at h2
  obtain ⟨h2, h3⟩ := List.cons.inj h2
  obtain rfl := num x2 y2 h2
  obtain rfl := map_inj alt_inj x3 y3 h3
  obtain rfl := x10 (by omega)
  obtain rfl := y10 (by omega)
  obtain ⟨rfl, rfl, rfl⟩ := x11 (by omega)
  obtain ⟨rfl, rfl, rfl⟩ := y11 (by omega)
  rfl
 ·rw [if_neg c1, if_neg c1] at h2
  obtain rfl := x9 c1
  obtain rfl := y9 c1
  by_cases c2 : o = 2
  ·rw [if_pos c2, if_pos c2] at h2
   obtain rfl := nums_inj x4 y4 h2
   obtain rfl := x8 c1 (by omega)
   obtain rfl := y8 c1 (by omega)
   obtain ⟨rfl, rfl, rfl⟩ := x11 (by omega)
   obtain ⟨rfl, rfl, rfl⟩ := y11 (by omega)
   rfl
  ·rw [if_neg c2, if_neg c2] at h2
   obtain rfl := x10 c2
   obtain rfl := y10 c2
   by_cases c5 : o = 5
   ·rw [if_pos c5, if_pos c5] at h2
    obtain ⟨h2, h3⟩ := List.cons.inj h2
    obtain ⟨h3, h4⟩ := List.cons.inj h3
    obtain rfl := num x5 y5 h2
    obtain rfl := num x6 y6 h3
    obtain rfl := nums_inj x7 y7 h4
    obtain rfl := x8 c1 (by omega)
    obtain rfl := y8 c1 (by omega)
    rfl
   ·rw [if_neg c5, if_neg c5] at h2
    obtain ⟨rfl, rfl, rfl⟩ := x11 c5
    obtain ⟨rfl, rfl, rfl⟩ := y11 c5
    by_cases c6 : o = 6
    ·rw [if_pos c6, if_pos c6] at h2
     obtain rfl := num x2 y2 (List.cons.inj h2).1
     rfl
    ·obtain rfl := x8 c1 c6
     obtain rfl := y8 c1 c6
     rfl
structure CodeP (c : CodeT) : Prop where
 cons : ∀ p ∈ c.cons, wordB p.1 ∧ numP p.2
 funs : ∀ p ∈ c.funs, wordB p.1 ∧ numP p.2
 starts : ∀ n ∈ c.starts, numP n
 len : c.starts.length = c.funs.length
 ins : ∀ x ∈ c.ins, InsP x
theorem con_inj (p q : NameT) (hp : wordB p.1 ∧ numP p.2) (hq : wordB q.1 ∧ numP q.2) (h : conW p = conW q) : p = q := by
 unfold conW at h
 simp only [List.cons.injEq, and_true, true_and] at h
 exact Prod.ext h.1 (EX hp.2.1 hp.2.2 hq.2.1 hq.2.2 h.2)
theorem funs_inj : ∀ {f g : List NameT} {s t : List Int}, (∀ p ∈ f, wordB p.1 ∧ numP p.2) → (∀ p ∈ g, wordB p.1 ∧ numP p.2) → (∀ n ∈ s, numP n) → (∀ n ∈ t, numP n) → s.length = f.length → t.length = g.length → List.zipWith funW f s = List.zipWith funW g t → f = g ∧ s = t
 | [], [], [], [], _, _, _, _, _, _, _ => ⟨rfl, rfl⟩
 | [], _, _ :: _, _, _, _, _, _, h, _, _ => by cases h
 | _, [], _, _ :: _, _, _, _, _, _, h, _ => by cases h
 | _ :: _, _, [], _, _, _, _, _, h, _, _ => by cases h
 | _, _ :: _, _, [], _, _, _, _, _, h, _ => by cases h
 | [], _ :: _, [], _ :: _, _, _, _, _, _, _, h => by simp at h
 | _ :: _, [], _ :: _, [], _, _, _, _, _, _, h => by simp at h
 | p :: f, q :: g, n :: s, m :: t, hf, hg, hs, ht, h1, h2, h => by
  rw [List.zipWith_cons_cons, List.zipWith_cons_cons, List.cons.injEq] at h
  obtain ⟨h, hr⟩ := h
  unfold funW at h
  simp only [List.cons.injEq, and_true, true_and] at h
  obtain ⟨e1, e2, e3⟩ := h
  have hp := hf p Qh
  have hq := hg q Qh
  have hn := hs n Qh
  have hm := ht m Qh
  obtain rfl : p = q := Prod.ext e1 (EX hp.2.1 hp.2.2 hq.2.1 hq.2.2 e2)
  obtain rfl : n = m := EX hn.1 hn.2 hm.1 hm.2 e3
  obtain ⟨rfl, rfl⟩ := funs_inj (fun x hx => hf x (Qg _ hx)) (fun x hx => hg x (Qg _ hx)) (fun x hx => hs x (Qg _ hx)) (fun x hx => ht x (Qg _ hx)) (by simpa using h1) (by simpa using h2) hr
  exact ⟨rfl, rfl⟩
theorem app_inj {α : Type} (p : α → Bool) {A B C D : List α} (hA : ∀ x ∈ A, p x = true) (hC : ∀ x ∈ C, p x = true) (hB : ∀ x ∈ B, p x = false) (hD : ∀ x ∈ D, p x = false) (h : A ++ B = C ++ D) : A = C ∧ B = D := by
 have key : ∀ {A B : List α}, (∀ x ∈ A, p x = true) → (∀ x ∈ B, p x = false) → (A ++ B).filter p = A := fun h1 h2 => by
  rw [List.filter_append, List.filter_eq_self.2 h1, List.filter_eq_nil_iff.2 (fun x hx => by rw [h2 x hx]; simp), List.append_nil]
 have h1 := congrArg (List.filter p) h
 rw [key hA hB, key hC hD] at h1
 subst h1
 exact ⟨rfl, List.append_cancel_left h⟩
theorem ins_head (o : Int) : opW o ≠ [99, 111, 110] ∧ opW o ≠ [102, 117, 110] := by
 unfold opW
 generalize o.toNat = k
 rcases k with _ | _ | _ | _ | _ | _ | _ | k
 all_goals first | decide | exact ⟨by simp [wordsL, List.getD], by simp [wordsL, List.getD]⟩
theorem zip_mem {f : List NameT} {s : List Int} {l : List (List UInt8)} (h : l ∈ List.zipWith funW f s) : ∃ p ∈ f, ∃ n ∈ s, l = funW p n := by
 induction f generalizing s with
 | nil => simp at h
 | cons p f ih =>
  cases s with
  | nil => simp at h
  | cons n s =>
   rw [List.zipWith_cons_cons, Qk] at h
   rcases h with rfl | h
   ·exact ⟨p, Qh, n, Qh, rfl⟩
   ·obtain ⟨q, hq, m, hm, rfl⟩ := ih h
    exact ⟨q, Qg _ hq, m, Qg _ hm, rfl⟩
theorem opW_word (o : Int) : wordB (opW o) := by
 unfold opW
 generalize o.toNat = k
 rcases k with _ | _ | _ | _ | _ | _ | _ | k
 all_goals first | (unfold wordB; decide) | (simp [wordsL, List.getD, wordB])
theorem ins_words (x : InsT) : insW x ≠ [] ∧ ∀ w ∈ insW x, wordB w := by
 refine ⟨by simp [insW], fun w hw => ?_⟩
 rcases Qk.1 hw with rfl | hw
 ·exact opW_word _
 ·have hl : ∀ (l : List Int), ∀ w ∈ l.map itoaV, wordB w := fun l w hw => by
   obtain ⟨n, _, rfl⟩ := List.mem_map.1 hw
   exact BZ n
  unfold shW at hw
  split at hw
  ·rcases Qk.1 hw with rfl | hw
   ·exact BZ _
   ·obtain ⟨n, _, rfl⟩ := List.mem_map.1 hw
    exact alt_word n
  ·split at hw
   ·exact hl _ w hw
   ·split at hw
    ·rcases Qk.1 hw with rfl | hw
     ·exact BZ _
     ·rcases Qk.1 hw with rfl | hw
      ·exact BZ _
      ·exact hl _ w hw
    ·split at hw
     ·rw [Qp.1 hw]; exact BZ _
     ·cases hw
theorem lines_words {c : CodeT} (h : CodeP c) : ∀ l ∈ linesV c, l ≠ [] ∧ ∀ w ∈ l, wordB w := by
 intro l hl
 unfold linesV at hl
 rcases List.mem_append.1 hl with hl | hl
 ·obtain ⟨p, hp, rfl⟩ := List.mem_map.1 hl
  refine ⟨by simp [conW], fun w hw => ?_⟩
  simp only [conW, Qk, List.not_mem_nil, or_false] at hw
  rcases hw with rfl | rfl | rfl
  ·unfold wordB; decide
  ·exact (h.cons p hp).1
  ·exact BZ _
 ·rcases List.mem_append.1 hl with hl | hl
  ·obtain ⟨p, hp, n, _, rfl⟩ := zip_mem hl
   refine ⟨by simp [funW], fun w hw => ?_⟩
   simp only [funW, Qk, List.not_mem_nil, or_false] at hw
   rcases hw with rfl | rfl | rfl | rfl
   ·unfold wordB; decide
   ·exact (h.funs p hp).1
   ·exact BZ _
   ·exact BZ _
  ·obtain ⟨x, _, rfl⟩ := List.mem_map.1 hl
   exact ins_words x
theorem text_inj {a b : CodeT} (ha : CodeP a) (hb : CodeP b) (h : textV a = textV b) : a = b := by
 have h1 := textL_inj (lines_words ha) (lines_words hb) h
 unfold linesV at h1
 let p1 : List (List UInt8) → Bool := fun l => l.headD [] == [99, 111, 110]
 let p2 : List (List UInt8) → Bool := fun l => l.headD [] == [102, 117, 110]
 have i1 : ∀ c : CodeT, ∀ x ∈ c.ins.map insW, p1 x = false ∧ p2 x = false := fun c x hx => by
  obtain ⟨y, _, rfl⟩ := List.mem_map.1 hx
  exact ⟨by simpa [p1, insW] using (ins_head y.op).1, by simpa [p2, insW] using (ins_head y.op).2⟩
 have f1 : ∀ c : CodeT, ∀ x ∈ List.zipWith funW c.funs c.starts, p1 x = false ∧ p2 x = true := fun c x hx => by
  obtain ⟨p, _, n, _, rfl⟩ := zip_mem hx
  exact ⟨by simp [p1, funW], by simp [p2, funW]⟩
 have c1 : ∀ c : CodeT, ∀ x ∈ c.cons.map conW, p1 x = true := fun c x hx => by
  obtain ⟨p, _, rfl⟩ := List.mem_map.1 hx
  simp [p1, conW]
 have hno : ∀ c : CodeT, ∀ x ∈ List.zipWith funW c.funs c.starts ++ c.ins.map insW, p1 x = false := fun c x hx => by
  rcases List.mem_append.1 hx with hx | hx
  ·exact (f1 c x hx).1
  ·exact (i1 c x hx).1
 obtain ⟨e1, h2⟩ := app_inj p1 (c1 a) (c1 b) (hno a) (hno b) h1
 obtain ⟨e2, e3⟩ := app_inj p2 (fun x hx => (f1 a x hx).2) (fun x hx => (f1 b x hx).2) (fun x hx => (i1 a x hx).2) (fun x hx => (i1 b x hx).2) h2
 obtain ⟨c, f, i, s⟩ := a
 obtain ⟨c', f', i', s'⟩ := b
 have hc := map_inj con_inj ha.cons hb.cons e1
 have hfs := funs_inj ha.funs hb.funs ha.starts hb.starts ha.len hb.len e2
 have hi := map_inj ins_inj ha.ins hb.ins e3
 dsimp only at hc hfs hi
 rw [hc, hfs.1, hfs.2, hi]
theorem in_at {n a b : Int} (h : inV n a b = true) : a ≤ n ∧ n ≤ b := by
 unfold inV at h
 rw [Qf] at h
 exact ⟨dT h.1, dT h.2⟩
theorem tw_all {p : Int → Bool} : ∀ {w : List UInt8}, tw p w = w.length → ∀ b ∈ w, p b.toNat = true
 | [], _, _, h => by cases h
 | c :: w, h, b, hb => by
  cases hc : p c.toNat with
  | false => simp [tw, hc] at h
  | true =>
   have e : tw p (c :: w) = tw p w + 1 := by simp [tw, hc]
   rcases Qk.1 hb with rfl | hb
   ·exact hc
   ·exact tw_all (by rw [e] at h; simpa using h) b hb
theorem name_word {w : List UInt8} (h : nameV w = true) : wordB w := by
 unfold nameV at h
 rw [Qf] at h
 have h1 := tw_all (dT h.1)
 exact ⟨fun hb => absurd (h1 _ hb) (by decide), fun hb => absurd (h1 _ hb) (by decide)⟩
theorem names_at : ∀ {l : List NameT} {bs cs : List (List UInt8)}, namesV bs l = some cs → ∀ p ∈ l, wordB p.1 ∧ numP p.2
 | [], _, _, _, _, hp => by cases hp
 | q :: l, bs, cs, h, p, hp => by
  unfold namesV at h
  split at h
  ·next ho =>
   rcases Qk.1 hp with rfl | hp
   ·unfold okN at ho
    rw [Qf, Qf] at ho
    have := in_at ho.2.2
    exact ⟨name_word ho.2.1, by unfold numP; omega⟩
   ·exact names_at h p hp
  ·cases h
theorem len0 {α : Type} {l : List α} (h : decide ((l.length : Int) = 0) = true) : l = [] := by
 have := dT h
 exact List.length_eq_zero_iff.1 (by omega)
theorem node_at {x : InsT} (h : nodeV x = true) : x.term = 0 ∧ x.n = 0 ∧ x.args = [] := by
 unfold nodeV at h
 rw [Qf, Qf] at h
 exact ⟨dT h.1, dT h.2.1, len0 h.2.2⟩
theorem mem_at {α : Type} {l : List α} {d : α} {q : α → Prop} (h : ∀ i, i < l.length → q (l.getD i d)) : ∀ p ∈ l, q p := by
 intro p hp
 obtain ⟨i, hi, rfl⟩ := List.getElem_of_mem hp
 have := h i hi
 rwa [BD hi] at this
theorem num0 : numP 0 := by unfold numP; omega
theorem insP_of {c : CodeT} {k : Nat} {x : InsT} (hc : c.cons.length ≤ 12) (hf : c.funs.length ≤ 8) (hi : c.ins.length ≤ 1000) (h : insV c k x = true) : InsP x := by
 have nil : ∀ {α : Type} {l : List α} {q : α → Prop}, l = [] → ∀ p ∈ l, q p := fun e p hp => by rw [e] at hp; cases hp
 unfold insV at h
 split at h
 ·next ho =>
  rw [Qf, Qf, Qf] at h
  obtain ⟨h1, h2, h3, h4⟩ := h
  obtain ⟨e1, e2, e3⟩ := node_at h1
  have ha := in_at h3
  refine ⟨by omega, by unfold numP; omega, mem_at (d := (0, 0)) fun i hi => ?_, nil (len0 h2), by rw [e1]; exact num0, by rw [e2]; exact num0, nil e3, fun hh => absurd ho hh, fun hh => absurd ho hh, fun _ => len0 h2, fun _ => ⟨e1, e2, e3⟩⟩
  have := ra_at h4 hi
  unfold altAt at this
  rw [Qf, Qf] at this
  have h5 := in_at this.1.1
  have h6 := in_at this.2
  unfold altP numP
  omega
 ·split at h
  ·next ho1 ho =>
   rw [Qf, Qf, Qf] at h
   obtain ⟨h1, h2, h3, h4⟩ := h
   obtain ⟨e1, e2, e3⟩ := node_at h1
   have ha := dT h2
   refine ⟨by omega, by rw [ha]; exact num0, nil (len0 h3), mem_at (d := 0) fun i hi => ?_, by rw [e1]; exact num0, by rw [e2]; exact num0, nil e3, fun _ _ => ha, fun _ => len0 h3, fun hh => absurd ho hh, fun _ => ⟨e1, e2, e3⟩⟩
   unfold targetsV at h4
   rw [Qf] at h4
   have h5 := ra_at h4.1 hi
   unfold targetAt at h5
   have h6 := in_at h5
   unfold numP
   omega
  ·split at h
   ·next ho =>
    rw [Qf, Qf, Qf] at h
    obtain ⟨h1, h2, h3, h4⟩ := h
    obtain ⟨e1, e2, e3⟩ := node_at h1
    have ha := dT h2
    exact ⟨by omega, by rw [ha]; exact num0, nil (len0 h3), nil (len0 h4), by rw [e1]; exact num0, by rw [e2]; exact num0, nil e3, fun _ _ => ha, fun _ => len0 h3, fun _ => len0 h4, fun _ => ⟨e1, e2, e3⟩⟩
   ·split at h
    ·next ho =>
     rw [Qf, Qf, Qf, Qf] at h
     obtain ⟨h1, h2, h3, h4, h5⟩ := h
     have ha := dT h1
     have hn : numP x.term ∧ numP x.n := by
      unfold madeI madeV at h5
      unfold numP
      split at h5
      ·rw [Qf] at h5
       have := in_at h5.2
       omega
      ·split at h5
       ·rw [Qf] at h5
        have := in_at h5.1
        omega
       ·split at h5
        ·rw [Qf] at h5
         have := in_at h5.1
         omega
        ·split at h5
         ·rw [Qf] at h5
          have := in_at h5.1
          omega
         ·split at h5
          ·rw [Qf] at h5
           have := dT h5.1
           omega
          ·cases h5
     refine ⟨by omega, by rw [ha]; exact num0, nil (len0 h2), nil (len0 h3), hn.1, hn.2, mem_at (d := 0) fun i hi => ?_, fun _ _ => ha, fun _ => len0 h2, fun _ => len0 h3, fun hh => absurd ho hh⟩
     unfold regsV at h4
     have := in_at (ra_at h4 hi)
     unfold numP
     omega
    ·split at h
     ·next ho =>
      rw [Qf, Qf, Qf] at h
      obtain ⟨h1, h2, h3, h4⟩ := h
      obtain ⟨e1, e2, e3⟩ := node_at h1
      have ha := in_at h4
      exact ⟨by omega, by unfold numP; omega, nil (len0 h2), nil (len0 h3), by rw [e1]; exact num0, by rw [e2]; exact num0, nil e3, fun _ hh => absurd ho hh, fun _ => len0 h2, fun _ => len0 h3, fun _ => ⟨e1, e2, e3⟩⟩
     ·cases h
structure CodeS (c : CodeT) : Prop where
 cons : c.cons.length ≤ 12
 funs : c.funs.length ≤ 8
 ins : c.ins.length ≤ 1000
 starts : c.starts.length = c.funs.length
theorem codeS_of {c : CodeT} (h : codeV c = true) : CodeS c := by
 unfold codeV headV sigV at h
 simp only [Qf, Bool.not_eq_true', Bool.or_eq_false_iff] at h
 obtain ⟨⟨⟨⟨⟨⟨h1, h2⟩, _⟩, _⟩, _⟩, h3, h4⟩, _⟩ := h
 have h1 := in_at h1
 have h2 := dT h2
 have h3 := dF h3
 have h4 : ((c.starts.length : Nat) : Int) = c.funs.length := by
  cases hd : decide (((c.starts.length : Nat) : Int) = c.funs.length) with
  | true => exact dT hd
  | false => rw [hd] at h4; cases h4
 exact ⟨by omega, by omega, by omega, by omega⟩
theorem codeP_of {c : CodeT} (h : codeV c = true) : CodeP c := by
 have hs := codeS_of h
 unfold codeV headV sigV at h
 rw [Qf, Qf (a := (List.range _).all _), Qf, Qf] at h
 obtain ⟨⟨⟨_, hn⟩, _⟩, hst, hin⟩ := h
 have hN : ∃ l l', namesV [] c.cons = some l ∧ namesV l c.funs = some l' := by
  cases h1 : namesV [] c.cons with
  | none => rw [h1] at hn; cases hn
  | some l =>
   rw [h1] at hn
   dsimp only at hn
   cases h2 : namesV l c.funs with
   | none => rw [h2] at hn; cases hn
   | some l' => exact ⟨l, l', rfl, h2⟩
 obtain ⟨l, l', h1, h2⟩ := hN
 refine ⟨names_at h1, names_at h2, mem_at (d := 0) fun i hi => ?_, hs.starts, ?_⟩
 ·have := in_at (ra_at hst hi)
  have := hs.ins
  unfold numP
  omega
 ·exact mem_at (d := (⟨0, 0, [], [], 0, 0, []⟩ : InsT)) fun i hi => insP_of (k := i) hs.cons hs.funs hs.ins (ra_at hin hi)
theorem numbers_run {s : St} {v iv : AV} {ws : List (List UInt8)} {l : List Int} (hv : FullR s 9 v (ws.map .str)) (hl : ListR s iv (l.map (.int .i64))) (hd : ∀ c, ownB c v = true → ownB c iv = false) (hnum : ∀ n ∈ l, numP n) (hsm : ws.length + l.length ≤ 8000) {R : AV → St → Prop}
  (hR : ∀ s' v', Chg s s' (fun c => ownB c v = true) → FullR s' 9 v' ((ws ++ l.map itoaV).map .str) → (∀ c, ownB c v' = true → ownB c v = true ∨ s.next ≤ c) → (s.bound ≤ s.next → Loggd s s') → R v' s') :
  RunsV (EK KL6) 49 [v, iv] s R := by
 refine RunsV.gen (fn := Tryz.f49) (by rfl) (by kernel_rfl) rfl rfl rfl rfl ?_
 have hlen := (show ListR s.enter iv (l.map (.int .i64)) from hl).len
 rw [Qn] at hlen
 refine Es <| qa rfl <| Ld <| Ab <| Es <| qm rfl <| Lq (D5 rfl rfl rfl rfl DO rfl ‹_›) rfl <| qm rfl ?_
 refine Ld <| Ai ?_
 refine Aw (fun x : Nat × AV × St => ([(9, .int .i64 (x.1 : Nat)), (8, .int .i64 (l.length : Nat)), (7, iv), (0, x.2.1)], x.2.2)) (fun x => l.length - x.1)
  (fun x => x.1 ≤ l.length ∧ Chg s.enter x.2.2 (fun c => ownB c v = true) ∧ Loggd s.enter x.2.2 ∧ FullR x.2.2 9 x.2.1 ((ws ++ (l.take x.1).map itoaV).map .str) ∧ ((x.1 = 0 ∧ x.2.1 = v) ∨ ∀ c, ownB c x.2.1 = true → s.next ≤ c))
  (0, v, s.enter) ⟨Qo _, Chg.refl, Loggd.refl, by rw [List.take_zero, List.map_nil, List.append_nil]; exact hv, .inl ⟨rfl, rfl⟩⟩ rfl (by (refine Am.Ap ?_; repeat (first | exact trivial | refine ⟨rfl, ?_⟩))) ?_
 rintro ⟨i, vi, st⟩ ⟨hi, hc, hlg, hf, ho⟩
 dsimp only at hi hc hlg hf ho ⊢
 have hown : ∀ c, ownB c vi = true → ownB c v = true ∨ s.next ≤ c := fun c h => by
  rcases ho with ⟨_, rfl⟩ | ho
  ·exact .inl h
  ·exact .inr (ho c h)
 have hli : ListR st iv (l.map (.int .i64)) := hl.keep hc.next fun c h => hc.heap c (hl.own h) fun h2 => by rw [hd c h2] at h; cases h
 by_cases h : i < l.length
 ·obtain ⟨p, hp, hpl⟩ := hli.at (E := EK KL6) (i := i) (by rw [Qn]; exact h) Bj AY
  rw [List.getElem_map] at hpl
  have hn := hnum l[i] (Ql _)
  focus
   refine Es <| Lq (o2 u_3 rfl rfl) rfl <| Ld <| Ab ?_
   refine Ec rfl (fun g1 => ?_) (fun g1 => ?_)
   have h1 := dT g1
   refine Ac <| Ab <| Ai <| Es <| Lq (Af rfl DO AY rfl rfl ‹_›) rfl <| Lo (A8 rfl rfl ‹_›) rfl <| qa rfl <| Ld ?_
   refine Ao ?_
   iterate 2 refine qm rfl ?_
   refine Lo (Ag rfl rfl (by kernel_rfl) rfl (Ae (hit_52 (by first | assumption | omega | (simp only [LL]; omega))))) rfl ?_
   refine Lo (Br rfl D7 sz_9 z_9 rfl rfl rfl) rfl ?_
   rotate_left
   have h1 := dF g1
   exact absurd h1 (by omega)
  have hf1 : FullR (st.alloc (.cells [.str (itoaV l[i])] 9 false)) 9 vi ((ws ++ (l.take i).map itoaV).map .str) := hf.keep (Nat.le_succ _) fun c hc => Bk (hf.own hc)
  have hcs : ((ws ++ (l.take i).map itoaV).map AV.str).length = ws.length + i := by rw [Qn, Qm, Qn, List.length_take, Nat.min_eq_left hi]
  obtain ⟨v', s2, happ, hf2, how2, hnx2, hbd2, hlg2, hhp2⟩ := hf1.append (by_ := 16) (x := .str (itoaV l[i])) (by
   rw [hcs]
   unfold small
   rw [Qd (by omega : (ws.length + i + 1) * 16 ≤ 1099511627776), Qd (by omega : ws.length + i + 1 ≤ 1099511627776)]; rfl)
  have hnx2' : s2.next = st.next + 1 + 1 := hnx2
  refine Lo (OpL.append rfl rfl rfl rfl D7 sz_9 by_9 z_9 (by kernel_rfl) (by kernel_rfl) rfl rfl (new := [.str (itoaV l[i])]) (n := 1) (appended_new (e := 9) (part := false) DX rfl) happ) rfl <| qa rfl <| Ld <| Ao ?_
  refine Lq (At (b := 1) rfl u_3 rfl rfl (by first | assumption | omega | (simp only [LL]; omega))) rfl ?_
  refine qm rfl <| Ld ?_
  have hch2 : Chg st s2 (fun c => ownB c vi = true) := ⟨by omega, hbd2, hlg2, fun c hc ho => (hhp2 c (Nat.lt_succ_of_lt hc) (by simpa using ho)).trans (Bk hc)⟩
  have hnx := hc.next
  refine ⟨(i + 1, v', s2), ⟨h, hc.trans hch2 (fun _ h => h) (fun c h => hown c h) (Qj _), hlg.trans ((Loggd.alloc (by rw [hc.bound]; exact hnx)).trans (Fg (s := st.alloc _) (by
   show st.bound ≤ st.next + 1
   rw [hc.bound]; exact Nat.le_trans hnx (Nat.le_succ _)) happ)), ?_, .inr fun c h => ?_⟩, by show l.length - (i + 1) < l.length - i; omega, rfl, rfl, by (refine Am.Ap ?_; repeat (first | exact trivial | refine ⟨rfl, ?_⟩))⟩
  ·have e : (ws ++ (l.take (i + 1)).map itoaV).map AV.str = (ws ++ (l.take i).map itoaV).map .str ++ [.str (itoaV l[i])] := by
    rw [List.take_succ_eq_append_getElem h, List.map_append (l₂ := [l[i]]), ← List.append_assoc, List.map_append (l₂ := [l[i]].map itoaV)]; rfl
   show FullR s2 9 v' ((ws ++ (l.take (i + 1)).map itoaV).map .str)
   rw [e]
   exact hf2
  ·have := how2 c h
   have e : (st.alloc (.cells [.str (itoaV l[i])] 9 false)).next = st.next + 1 := rfl
   have e2 : s.enter.next = s.next := rfl
   omega
 ·focus
   refine Es <| Lq (o2 u_3 rfl rfl) rfl <| Ld <| Ab ?_
   refine Ec rfl (fun g1 => ?_) (fun g1 => ?_)
   have h1 := dT g1
   exact absurd h1 (by omega)
   have h1 := dF g1
   refine A5 <| AX rfl <| Es <| qm rfl <| qa rfl <| Ld ?_
   rotate_left
  have hil : i = l.length := by omega
  subst hil
  rw [List.take_length] at hf
  refine Aa ?_
  refine ⟨.inl rfl, _, rfl, _, As rfl rfl, leave_raw rfl (fun hl0 hu => ?_) (hR _ vi hc.back hf hown fun hb => Loggd.back hlg hb)⟩
  rcases ho with ⟨h0, rfl⟩ | ho
  ·have : l = [] := List.length_eq_zero_iff.1 h0
   subst this
   exact hR s vi Chg.refl (by rw [List.map_nil, List.append_nil]; exact hv) (fun c h => .inl h) fun _ => Loggd.refl
  ·rw [oneA, hf.under ho 39] at hu
   cases hu
structure Wr (c : CodeT) (n : Nat) (st : St) (w : List UInt8) : Prop where
 code : st.heap.get 0 = some (.cells (encC c) 28 false)
 ex : ∃ a bv, st.heap.get 1 = some (.cells [a, bv] 104 false) ∧ (a = .nilptr ∨ a = .ptr 1 0) ∧ BufR st 5 bv w ∧ ∀ k, ownB k bv = true → 2 ≤ k ∧ k < n
 two : 2 ≤ n
 le : n ≤ st.next
 bound : st.bound = 0
 log : st.log = []
theorem Wr.keep {c : CodeT} {n : Nat} {st st' : St} {w : List UInt8} (h : Wr c n st w) (hh : ∀ k, k < n → st'.heap.get k = st.heap.get k) (hn : st.next ≤ st'.next) (hb : st'.bound = 0) (hl : st'.log = []) : Wr c n st' w := by
 obtain ⟨h1, ⟨a, bv, h2, h3, h4, h5⟩, h6, h7, _, _⟩ := h
 exact ⟨(hh 0 (by omega)).trans h1, ⟨a, bv, (hh 1 (by omega)).trans h2, h3, h4.keep hn fun k hk => hh k (h5 k hk).2, h5⟩, h6, by omega, hb, hl⟩
theorem Wr.alloc {c : CodeT} {n : Nat} {st : St} {w : List UInt8} {o : AObj} (h : Wr c n st w) : Wr c n (st.alloc o) w :=
 h.keep (fun k hk => Bk (by have := h.le; omega)) (Nat.le_succ _) h.bound h.log
theorem Wr.put {c : CodeT} {n b : Nat} {st : St} {w : List UInt8} {o : Option AObj} (h : Wr c n st w) (hb : n ≤ b) : Wr c n (st.put b o) w :=
 h.keep (fun k hk => by rw [AS, if_neg (by omega)]) (Qj _) h.bound (by
  show (bif Nat.blt b st.bound then logged b st.log else st.log) = []
  rw [h.bound]; exact h.log)
theorem log_nil {s s' : St} {own : Nat → Prop} (h : Chg s s' own) (hb : s.bound = 0) (hl : s.log = []) : s'.log = [] := by
 cases hs : s'.log with
 | nil => rfl
 | cons k r =>
  rcases h.log k (by rw [hs]; exact Qh) with h | ⟨h, _⟩
  ·rw [hl] at h; cases h
  ·omega
theorem Wr.chg {c : CodeT} {n : Nat} {s s' : St} {w : List UInt8} {own : Nat → Prop} (h : Wr c n s w) (hc : Chg s s' own) (ho : ∀ k, own k → n ≤ k) : Wr c n s' w :=
 h.keep (fun k hk => hc.heap k (by have := h.le; omega) fun hh => by have := ho k hh; omega) hc.next (hc.bound.trans h.bound) (log_nil hc h.bound h.log)
theorem Wr.lists {c : CodeT} {n : Nat} {st : St} {w : List UInt8} (h : Wr c n st w) {A : List (List UInt8)} {B : List Int} (hA : A ≠ []) {ka kb : Nat} (ha : ka = A.length) (hb : kb = B.length) :
  Wr c n ((st.alloc (.cells (A.map .str) 9 false)).alloc (.cells (B.map (.int .i64)) 3 false)) w ∧
  FullR ((st.alloc (.cells (A.map .str) 9 false)).alloc (.cells (B.map (.int .i64)) 3 false)) 9 (.slice st.next 0 ka 1 (some ka)) (A.map .str) ∧
  ListR ((st.alloc (.cells (A.map .str) 9 false)).alloc (.cells (B.map (.int .i64)) 3 false)) (.slice (st.next + 1) 0 kb 1 (some kb)) (B.map (.int .i64)) ∧
  (∀ k, ownB k (.slice st.next 0 ka 1 (some ka)) = true → n ≤ k) ∧ (∀ k, ownB k (.slice st.next 0 ka 1 (some ka)) = true → ownB k (.slice (st.next + 1) 0 kb 1 (some kb)) = false) :=
 ⟨h.alloc.alloc, FullR.new (part := false) ((Bk (Nat.lt_succ_self _)).trans DX) (by show st.next < st.next + 1 + 1; omega) (by simpa using hA) (by rw [Qn]; exact ha), ListR.new (e := 3) (part := false) DX (Nat.lt_succ_self _) (by rw [Qn]; exact hb),
  fun k hk => by have : st.next = k := Qb hk; have := h.le; omega, fun k hk => by
   have : st.next = k := Qb hk
   show Nat.beq (st.next + 1) k = false
   cases hb : Nat.beq (st.next + 1) k with
   | false => rfl
   | true => have := Qb hb; omega⟩
theorem Wr.line {c : CodeT} {n : Nat} {s : St} {w : List UInt8} (h : Wr c n s w) {v : AV} {l : List (List UInt8)} (hl : StrsR s v l) (hsum : sumL l + 2 * (l.length + 1) ≤ 1000000) (hsm : w.length ≤ 100000000000) {R : AV → St → Prop}
  (hR : ∀ s', Wr c s'.next s' (w ++ (joinS [32] l ++ [10])) → (joinS [32] l).length ≤ 1000000 → R (.tuple []) s') : RunsV (EK KL6) 48 [.ptr 1 0, v] s R := by
 obtain ⟨h1, ⟨a, bv, h2, h3, h4, h5⟩, h6, h7, h8, h9⟩ := h
 have hov : ownB 1 bv = false := by
  cases hh : ownB 1 bv with
  | false => rfl
  | true => have := (h5 1 hh).1; omega
 have hj : (joinS [32] l).length ≤ 1000000 := by
  cases l with
  | nil => show 0 ≤ 1000000; omega
  | cons a l =>
   rw [joinS, Qm, Fa]
   rw [show sumL (a :: l) = a.length + sumL l by simp [sumL]] at hsum
   simp only [List.length_cons, List.length_nil] at hsum ⊢
   omega
 refine line_run rfl rfl rfl rfl rfl rfl rfl rfl h2 h3 (by omega) h4 hov hl (by omega) (by omega) fun s' v' c1 c2 c3 c4 _ => hR s' ?_ hj
 have hnx := c1.next
 refine ⟨(c1.heap 0 (by omega) ?_).trans h1, ⟨_, v', c2, .inr rfl, by rw [← List.append_assoc]; exact c3, fun k hk => ⟨?_, c3.own hk⟩⟩, by omega, Qj _, c1.bound.trans h8, log_nil c1 h8 h9⟩
 ·rintro (h | h)
  ·cases h
  ·have := (h5 0 h).1; omega
 ·rcases c4 k hk with h | h
  ·exact (h5 k h).1
  ·omega
theorem Wr.numbers {c : CodeT} {n : Nat} {s : St} {w : List UInt8} (h : Wr c n s w) {v iv : AV} {ws : List (List UInt8)} {l : List Int} (hv : FullR s 9 v (ws.map .str)) (hvn : ∀ k, ownB k v = true → n ≤ k) (hl : ListR s iv (l.map (.int .i64))) (hd : ∀ c, ownB c v = true → ownB c iv = false) (hnum : ∀ n ∈ l, numP n)
  (hsm : ws.length + l.length ≤ 8000) {R : AV → St → Prop} (hR : ∀ s' v', Wr c n s' w → FullR s' 9 v' ((ws ++ l.map itoaV).map .str) → (∀ k, ownB k v' = true → n ≤ k) → s.next ≤ s'.next → (∀ k, k < s.next → ownB k v = false → s'.heap.get k = s.heap.get k) → R v' s') :
  RunsV (EK KL6) 49 [v, iv] s R := by
 have hle := h.le
 refine numbers_run hv hl hd hnum hsm fun s' v' c1 c2 c3 _ => hR s' v' (h.keep (fun k hk => c1.heap k (by omega) fun ho => by have := hvn k ho; omega) c1.next (c1.bound.trans h.bound) (log_nil c1 h.bound h.log)) c2 (fun k hk => ?_) c1.next fun k hk ho => c1.heap k hk (by simpa using ho)
 rcases c3 k hk with h | h
 ·exact hvn k h
 ·omega
theorem Wr.numbersN {c : CodeT} {n : Nat} {st : St} {w : List UInt8} (h : Wr c n st w) {v iv : AV} {ws : List (List UInt8)} {l : List Int} (hv : FullR st 9 v (ws.map .str)) (hvn : ∀ k, ownB k v = true → n ≤ k) (hl : ListR st iv (l.map (.int .i64))) (hd : ∀ c, ownB c v = true → ownB c iv = false) (hnum : ∀ n ∈ l, numP n)
  (hsm : ws.length + l.length ≤ 8000) :
  RunsV (EK KL6) 49 [v, iv] (st.sub st.heap) fun v' s2 => st.next ≤ s2.next ∧ (∀ b ∈ s2.log, b < st.next) ∧ Wr c n (st.merged s2) w ∧ FullR (st.merged s2) 9 v' ((ws ++ l.map itoaV).map .str) ∧ (∀ k, ownB k v' = true → n ≤ k) ∧ (∀ k, k < st.next → ownB k v = false → (st.merged s2).heap.get k = st.heap.get k) ∧ (∀ b ∈ s2.log, ownB b v = true) := by
 have hle := h.le
 refine numbers_run (s := st.sub st.heap) (hv.keep (Qj _) fun _ _ => rfl) (hl.keep (Qj _) fun _ _ => rfl) hd hnum hsm fun s' v' c1 c2 c3 c5 => ?_
 have c5 := c5 (Qj _)
 have hmg := Eh (st := st) c1.next c5 rfl
 have hch := Chg.merged (st := st) c1
 have hnx : st.next ≤ s'.next := c1.next
 refine ⟨hnx, fun b hb => ?_, h.keep (fun k hk => hch.heap k (by omega) fun ho => by have := hvn k ho; omega) hch.next (hch.bound.trans h.bound) (log_nil hch h.bound h.log), c2.keep (Qj _) fun k hk => hmg k (c2.own hk), fun k hk => ?_, fun k hk ho => hch.heap k hk (by simpa using ho), fun b hb => ?_⟩
 ·rcases c1.log b hb with h | ⟨h, _⟩
  ·cases h
  ·exact h
 ·rcases c3 k hk with h | h
  ·exact hvn k h
  ·have : (st.sub st.heap).next = st.next := rfl
   omega
 ·rcases c1.log b hb with h | ⟨_, h⟩
  ·cases h
  ·exact h
theorem Wr.numbersB {c : CodeT} {n : Nat} {C : St} {w : List UInt8} (h : Wr c n C w) {v : AV} {ws : List (List UInt8)} {B : List Int} {kb : Nat} (hv : FullR C 9 v (ws.map .str)) (hvn : ∀ k, ownB k v = true → n ≤ k) (hb : kb = B.length) (hnum : ∀ n ∈ B, numP n) (hsm : ws.length + B.length ≤ 8000)
  {R : AV → St → Prop} (hR : ∀ s' v', Wr c n s' w → FullR s' 9 v' ((ws ++ B.map itoaV).map .str) → (∀ k, ownB k v' = true → n ≤ k) → C.next ≤ s'.next → (∀ k, k < C.next → ownB k v = false → s'.heap.get k = C.heap.get k) → R v' s') :
  RunsV (EK KL6) 49 [v, .slice C.next 0 kb 1 (some kb)] (C.alloc (.cells (B.map (.int .i64)) 3 false)) R :=
 h.alloc.numbers (hv.keep (Nat.le_succ _) fun k hk => Bk (hv.own hk)) hvn (ListR.new (e := 3) (part := false) DX (Nat.lt_succ_self _) (by rw [Qn]; exact hb)) (fun k hk => by
  have := hv.own hk
  show Nat.beq C.next k = false
  cases hb : Nat.beq C.next k with
  | false => rfl
  | true => have := Qb hb; omega) hnum hsm fun s' v' h1 h2 h3 h4 h5 => hR s' v' h1 h2 h3 (Nat.le_of_succ_le h4) fun k hk ho => (h5 k (Nat.lt_succ_of_lt hk) ho).trans (Bk hk)
theorem ListR.fresh {C : St} {v : AV} {e : TypeId} {cs : List AV} {kb : Nat} (hv : FullR C e v cs) : ∀ k, ownB k v = true → ownB k (.slice C.next 0 kb 1 (some kb)) = false := fun k hk => by
 have := hv.own hk
 show Nat.beq C.next k = false
 cases hb : Nat.beq C.next k with
 | false => rfl
 | true => have := Qb hb; omega
theorem Wr.lineN {c : CodeT} {n : Nat} {st : St} {w : List UInt8} (h : Wr c n st w) {v : AV} {l : List (List UInt8)} (hl : StrsR st v l) (hsum : sumL l + 2 * (l.length + 1) ≤ 1000000) (hsm : w.length ≤ 100000000000) :
  RunsV (EK KL6) 48 [.ptr 1 0, v] (st.sub st.heap) fun _ s2 => st.next ≤ s2.next ∧ (∀ b ∈ s2.log, b < st.next) ∧ Wr c (st.merged s2).next (st.merged s2) (w ++ (joinS [32] l ++ [10])) ∧ (joinS [32] l).length ≤ 1000000 := by
 obtain ⟨h1, ⟨a, bv, h2, h3, h4, h5⟩, h6, h7, h8, h9⟩ := h
 have hov : ownB 1 bv = false := by
  cases hh : ownB 1 bv with
  | false => rfl
  | true => have := (h5 1 hh).1; omega
 have hj : (joinS [32] l).length ≤ 1000000 := by
  cases l with
  | nil => show 0 ≤ 1000000; omega
  | cons a l =>
   rw [joinS, Qm, Fa]
   rw [show sumL (a :: l) = a.length + sumL l by simp [sumL]] at hsum
   simp only [List.length_cons, List.length_nil] at hsum ⊢
   omega
 refine line_run (s := st.sub st.heap) rfl rfl rfl rfl rfl rfl rfl rfl h2 h3 (show 1 < st.next by omega) (h4.keep (Qj _) fun _ _ => rfl) hov (hl.keep (Qj _) fun _ _ => rfl) (by omega) (by omega) fun s' v' c1 c2 c3 c4 c5 => ?_
 have c5 := c5 (Qj _)
 have hmg := Eh (st := st) c1.next c5 rfl
 have hch := Chg.merged (st := st) c1
 have hnx : st.next ≤ s'.next := c1.next
 have hmn : (st.merged s').next = s'.next := rfl
 refine ⟨hnx, fun b hb => ?_, ⟨(hch.heap 0 (by omega) ?_).trans h1, ⟨_, v', (hmg 1 (by omega)).trans c2, .inr rfl, ?_, fun k hk => ⟨?_, c3.own hk⟩⟩, by omega, Qj _, hch.bound.trans h8, log_nil hch h8 h9⟩, hj⟩
 ·rcases c1.log b hb with h | ⟨h, _⟩
  ·cases h
  ·exact h
 ·rintro (h | h)
  ·cases h
  ·have := (h5 0 h).1; omega
 ·rw [← List.append_assoc]
  exact c3.keep (Qj _) fun k hk => hmg k (c3.own hk)
 ·rcases c4 k hk with h | h
  ·exact (h5 k h).1
  ·have : (st.sub st.heap).next = st.next := rfl
   omega
theorem dig_len : ∀ (d m : Nat), (digV m d).length = d
 | 0, _ => rfl
 | d + 1, m => by rw [digV, Qm, dig_len d]; rfl
theorem En {n : Int} (h : numP n) : (itoaV n).length ≤ 8 := by
 obtain ⟨h0, h1⟩ := h
 unfold itoaV
 split
 ·unfold smallV
  split
  ·show 1 ≤ 8; omega
  ·show 2 ≤ 8; omega
 ·split
  ·rw [List.length_cons, dig_len]
   have := (num_law (m := n.natAbs) (by omega) (by omega)).2.1
   omega
  ·rw [dig_len]
   have := (num_law (m := n.natAbs) (by omega) (by omega)).2.1
   omega
theorem sum_le {k : Nat} : ∀ {l : List (List UInt8)}, (∀ w ∈ l, w.length ≤ k) → sumL l ≤ l.length * k
 | [], _ => Qo _
 | a :: l, h => by
  have := sum_le (k := k) (l := l) fun w hw => h w (Qg _ hw)
  have h1 := h a Qh
  rw [show sumL (a :: l) = a.length + sumL l by simp [sumL], List.length_cons, Nat.succ_mul]
  omega
theorem textL_app (A B : List (List (List UInt8))) : textL (A ++ B) = textL A ++ textL B := by unfold textL; rw [List.flatMap_append]
theorem textL_one (l : List (List UInt8)) : textL [l] = joinS [32] l ++ [10] := by unfold textL; simp
def consL (c : CodeT) (i : Nat) : List (List (List UInt8)) := (c.cons.take i).map conW
theorem cons_succ {c : CodeT} {i : Nat} (h : i < c.cons.length) : textL (consL c (i + 1)) = textL (consL c i) ++ (joinS [32] (conW c.cons[i]) ++ [10]) := by
 unfold consL
 rw [List.take_succ_eq_append_getElem h, List.map_append, textL_app, ← textL_one]; rfl
def funL (c : CodeT) (i : Nat) : List (List (List UInt8)) := (List.zipWith funW c.funs c.starts).take i
theorem fun_succ {c : CodeT} {i : Nat} (h : i < c.funs.length) (h' : i < c.starts.length) : textL (funL c (i + 1)) = textL (funL c i) ++ (joinS [32] (funW c.funs[i] c.starts[i]) ++ [10]) := by
 unfold funL
 rw [List.take_succ_eq_append_getElem (by rw [List.length_zipWith]; omega), textL_app, ← textL_one, List.getElem_zipWith]
def insL (c : CodeT) (i : Nat) : List (List (List UInt8)) := (c.ins.take i).map insW
theorem ins_succ {c : CodeT} {i : Nat} (h : i < c.ins.length) : textL (insL c (i + 1)) = textL (insL c i) ++ (joinS [32] (insW c.ins[i]) ++ [10]) := by
 unfold insL
 rw [List.take_succ_eq_append_getElem h, List.map_append, textL_app, ← textL_one]; rfl
theorem word7 {K : FuncId → List AV → Option AV} {l : Sl} {o : Oper} {y i : Operand} {k : IntKind} {op : Int} (h : 1 ≤ op ∧ op ≤ 6) (ho : o.op = .index 108 y i) (hx : opndL y l = some wordsA) (hi : opndL i l = some (.int k op)) : OpQ (EK K) o l (.str (opW op)) := by
 obtain ⟨n, rfl⟩ : ∃ n : Nat, op = n := ⟨op.toNat, by omega⟩
 refine OpQ.indexArr ho u_108 ag_9 sz_9 hx hi (by omega) ?_
 obtain rfl | rfl | rfl | rfl | rfl | rfl : n = 1 ∨ n = 2 ∨ n = 3 ∨ n = 4 ∨ n = 5 ∨ n = 6 := by omega
 all_goals rfl
theorem node_of {x : InsT} (h : x.term = 0 ∧ x.n = 0 ∧ x.args = []) : nodeV x = true := by
 unfold nodeV
 rw [h.1, h.2.1, h.2.2]; rfl
theorem shape_at {x : InsT} (h : InsP x) : shapeV x = if x.op = 1 then .looks x.a x.alts else if x.op = 2 then .goes x.to else if x.op = 3 then .fails else if x.op = 4 then .frees else if x.op = 5 then .makes x.term x.n x.args else .enters x.a := by
 obtain ⟨o, a, al, to, te, n, ar⟩ := x
 obtain ⟨x1, x2, x3, x4, x5, x6, x7, x8, x9, x10, x11⟩ := h
 dsimp only at *
 obtain rfl | rfl | rfl | rfl | rfl | rfl : o = 1 ∨ o = 2 ∨ o = 3 ∨ o = 4 ∨ o = 5 ∨ o = 6 := by omega
 ·have := x10 (by omega); have := x11 (by omega); have := node_of (x := ⟨1, a, al, to, te, n, ar⟩) this
  subst to
  unfold shapeV sh1 tgV ndV
  rw [this]; rfl
 ·have := x8 (by omega) (by omega); have := x9 (by omega); have := x11 (by omega); have := node_of (x := ⟨2, a, al, to, te, n, ar⟩) this
  subst a al
  unfold shapeV sh1 sh2 rgV csV ndV
  rw [this]; rfl
 ·have := x8 (by omega) (by omega); have := x9 (by omega); have := x10 (by omega); have := x11 (by omega); have := node_of (x := ⟨3, a, al, to, te, n, ar⟩) this
  subst a al to
  unfold shapeV sh1 sh2 sh3 rgV csV ndV
  rw [this]; rfl
 ·have := x8 (by omega) (by omega); have := x9 (by omega); have := x10 (by omega); have := x11 (by omega); have := node_of (x := ⟨4, a, al, to, te, n, ar⟩) this
  subst a al to
  unfold shapeV sh1 sh2 sh3 sh4 rgV csV ndV
  rw [this]; rfl
 ·have := x8 (by omega) (by omega); have := x9 (by omega); have := x10 (by omega)
  subst a al to
  rfl
 ·have := x9 (by omega); have := x10 (by omega); have := x11 (by omega); have := node_of (x := ⟨6, a, al, to, te, n, ar⟩) this
  subst al to
  unfold shapeV sh1 sh2 sh3 sh4 sh5 sh6 rgV csV ndV
  rw [this]; rfl
theorem op_len (o : Int) : (opW o).length ≤ 17 := by
 unfold opW
 generalize o.toNat = k
 rcases k with _ | _ | _ | _ | _ | _ | _ | k
 all_goals first | decide | (rw [List.getD_eq_getElem?_getD]; simp [wordsL])
theorem ins_sum {x : InsT} (h : InsP x) (h1 : x.alts.length ≤ 4000) (h2 : x.to.length ≤ 4000) (h3 : x.args.length ≤ 4000) : sumL (insW x) + 2 * ((insW x).length + 1) ≤ 1000000 := by
 have hn : ∀ n, numP n → (itoaV n).length ≤ 17 := fun n hn => by have := En hn; omega
 have hl : (insW x).length ≤ 4003 := by
  unfold insW shW
  split
  ·simp only [List.length_cons, Qn]; omega
  ·split
   ·simp only [List.length_cons, Qn]; omega
   ·split
    ·simp only [List.length_cons, Qn]; omega
    ·split
     ·simp only [List.length_cons, List.length_nil]; omega
     ·simp only [List.length_cons, List.length_nil]; omega
 have hs : sumL (insW x) ≤ (insW x).length * 17 := sum_le fun w hw => by
  rcases Qk.1 hw with rfl | hw
  ·exact op_len _
  ·unfold shW at hw
   split at hw
   ·rcases Qk.1 hw with rfl | hw
    ·exact hn _ h.a
    ·obtain ⟨p, hp, rfl⟩ := List.mem_map.1 hw
     have h1 := En (h.alts p hp).1
     have h2 := En (h.alts p hp).2
     unfold altW
     simp only [Qm, List.length_cons, List.length_nil]; omega
   ·split at hw
    ·obtain ⟨p, hp, rfl⟩ := List.mem_map.1 hw
     exact hn _ (h.to p hp)
    ·split at hw
     ·rcases Qk.1 hw with rfl | hw
      ·exact hn _ h.term
      ·rcases Qk.1 hw with rfl | hw
       ·exact hn _ h.n
       ·obtain ⟨p, hp, rfl⟩ := List.mem_map.1 hw
        exact hn _ (h.args p hp)
     ·split at hw
      ·rw [Qp.1 hw]; exact hn _ h.a
      ·cases hw
 omega
theorem print_to (c : CodeT) (hf : Fits c) (hc : codeV c = true) : CallTo (EK KL6) 19 [.agg (encC c)] S0 (.tuple [.str (textV c), .int .i64 0]) := by
 refine Ax (fn := Tryz.f19) rfl rfl (by kernel_rfl) rfl rfl rfl rfl ?_
 have hs := codeS_of hc
 have hp := codeP_of hc
 focus
  refine Es <| Lo (Az 1 rfl rfl rfl rfl) rfl ?_
  iterate 2 refine qa rfl ?_
  refine Ld <| Ab <| Es <| Lo (A7 rfl E5 E1 rfl rfl (Qc rfl)) rfl ?_
  refine Lo (Ag rfl rfl (by kernel_rfl) rfl (Ae (hit_13 (by first | assumption | omega | (simp only [LL]; omega))))) rfl ?_
  refine Lq (o2 u_31 rfl rfl) rfl <| Ld ?_
  refine Ec rfl (fun g1 => ?_) (fun g1 => ?_)
  have h1 := nT g1
  refine Es ?_
  iterate 2 refine qa rfl ?_
  refine Ld ?_
  refine Aa ⟨.inl rfl, rfl, rfl, rfl, _, _, _, (As rfl (As rfl rfl)), rfl, rfl, ?_⟩
  rotate_left
  have h1 := nF g1
  refine Ac <| Es <| Lo (Bf 2 rfl z_104 rfl) rfl <| Ld <| Ab <| Es <| Lq (of Ep rfl) rfl <| Lq (of BU rfl) rfl ?_
  refine Lo (l1 Bp Bo rfl) rfl <| Lq (ol DF rfl) rfl <| qm rfl <| Ld <| Ai ?_
  rotate_left
 ·rw [hc] at h1; exact absurd rfl h1
 refine Aw (fun x : Nat × St => ([(25, .int .i64 (x.1 : Nat)), (24, .int .i64 (c.cons.length : Nat)), (23, recs encN 2 c.cons), (4, .ptr 1 0), (1, .ptr 0 0)], x.2)) (fun x => c.cons.length - x.1)
   (fun x => x.1 ≤ c.cons.length ∧ Wr c x.2.next x.2 (textL (consL c x.1)) ∧ (textL (consL c x.1)).length ≤ 1000001 * x.1) (0, _) ⟨Qo _, ⟨rfl, ⟨.nilptr, .nilslice, rfl, .inl rfl, .inl ⟨rfl, rfl⟩, fun k hk => by cases hk⟩, Qj _, Qj _, rfl, rfl⟩, Qj _⟩ rfl (by (refine Am.Ap ?_; repeat (first | exact trivial | refine ⟨rfl, ?_⟩))) ?_
 rintro ⟨i, st⟩ ⟨hi, hw, hwl⟩
 dsimp only at hi hw hwl ⊢
 have hl1 := hf.cons
 have hl2 := hf.funs
 have hl3 := hf.ins
 by_cases h : i < c.cons.length
 ·have hp1 := A1 AH h
  have hcp := hp.cons _ (Ql h)
  have hcl := hf.cnames _ (Ql h)
  obtain ⟨a1, a2, a3, a4, a5, a6, a7⟩ := copied (st := st) (z := [.str [], .int .i64 0]) (cs := encN c.cons[i]) (T := 54)
  have hw1 : Wr c st.next ((st.alloc (.cells [.str [], .int .i64 0] 54 false)).put st.next (some (.cells (encN c.cons[i]) 54 false))) (textL (consL c i)) := hw.alloc.put (Qj _)
  have a8 : (((st.alloc (.cells [.str [], .int .i64 0] 54 false)).put st.next (some (.cells (encN c.cons[i]) 54 false))).alloc (.cells [.str [99, 111, 110], .str c.cons[i].1] 9 false)).heap.get st.next = some (.cells (encN c.cons[i]) 54 false) := (Bk (by rw [a7]; omega)).trans a2
  obtain ⟨b1, b2, b3, b4, b5⟩ := hw1.lists (A := [[99, 111, 110], c.cons[i].1]) (B := [c.cons[i].2]) (by simp) (ka := 2) (kb := 1) rfl rfl
  focus
   refine Es <| Lq (o2 u_3 rfl rfl) rfl <| Ld <| Ab ?_
   refine Ec rfl (fun g2 => ?_) (fun g2 => ?_)
   have h2 := dT g2
   refine Ac <| Ab <| Ai <| Es <| Lq (Af rfl DF BI rfl rfl ‹_›) rfl <| Lq (AM rfl rfl ag_54 BI (Qc rfl)) rfl <| Lo (Bz rfl z_54) rfl <| AB (Ba rfl BI rfl rfl (AZ ‹_› rfl rfl rfl)) rfl rfl ?_
   refine Ld <| Ao <| Lq (of f_54_0 rfl) rfl <| Lo (A8 rfl rfl (Al ag_9 sz_9 ‹_› rfl)) rfl <| Lo (Br rfl D7 sz_9 z_9 rfl rfl rfl) rfl <| Lq (of f_54_1 rfl) rfl <| Lo (A8 rfl rfl (Al Bj AY ‹_› rfl)) rfl <| Lo (Br rfl DO AY z_3 rfl rfl rfl) rfl ?_
   rotate_left
   have h2 := dF g2
   exact absurd h2 (by omega)
  refine AJ rfl rfl (by kernel_rfl) rfl rfl rfl rfl (b1.numbers b2 b4 b3 b5 (fun n hn => by rw [Qp.1 hn]; exact hcp.2) (by simp) ?_)
  intro s4 v4 c1 c2 c3 c4 _
  have hlen : sumL (conW c.cons[i]) ≤ 8000 := by
   have := En hcp.2
   simp only [conW, sumL, List.map_cons, List.map_nil, List.sum_cons, List.sum_nil, List.length_cons, List.length_nil]
   omega
  skip
  refine AJ rfl rfl (by kernel_rfl) rfl rfl rfl rfl (c1.line (l := conW c.cons[i]) c2.strs (by show _ + 2 * (3 + 1) ≤ _; omega) (by omega) ?_)
  intro s5 d1 d2
  refine Ld <| Ao ?_
  refine Lq (At (b := 1) rfl u_3 rfl rfl (by first | assumption | omega | (simp only [LL]; omega))) rfl ?_
  refine qm rfl <| Ld ?_
  exact ⟨(i + 1, s5), ⟨h, by rw [cons_succ h]; exact d1, by rw [cons_succ h, Qm, Qm]; simp only [List.length_cons, List.length_nil]; omega⟩, by show c.cons.length - (i + 1) < c.cons.length - i; omega, rfl, rfl, by (refine Am.Ap ?_; repeat (first | exact trivial | refine ⟨rfl, ?_⟩))⟩
 ·have hg0 := hw.code
  focus
   refine Es <| Lq (o2 u_3 rfl rfl) rfl <| Ld <| Ab ?_
   refine Ec rfl (fun g2 => ?_) (fun g2 => ?_)
   have h2 := dT g2
   exact absurd h2 (by omega)
   have h2 := dF g2
   refine A5 <| AX rfl <| Ab <| Es <| Lq (of Ep rfl) rfl <| Lq (of BT rfl) rfl <| Lo (A8 rfl rfl (Al Bp Bo ‹_› rfl)) rfl <| Lq (ol DF rfl) rfl ?_
   refine qm rfl <| Ld <| Ai ?_
   rotate_left
  obtain rfl : i = c.cons.length := by omega
  refine Aw (fun x : Nat × St => ([(42, .int .i64 (x.1 : Nat)), (41, .int .i64 (c.funs.length : Nat)), (40, recs encN 2 c.funs), (4, .ptr 1 0), (1, .ptr 0 0)], x.2)) (fun x => c.funs.length - x.1)
   (fun x => x.1 ≤ c.funs.length ∧ Wr c x.2.next x.2 (textL (consL c c.cons.length) ++ textL (funL c x.1)) ∧ (textL (funL c x.1)).length ≤ 1000001 * x.1) (0, _) ⟨Qo _, by rw [show textL (funL c 0) = [] from rfl, List.append_nil]; exact hw, Qj _⟩ rfl (by (refine Am.Ap ?_; repeat (first | exact trivial | refine ⟨rfl, ?_⟩))) ?_
  clear hw hg0
  rintro ⟨i, st⟩ ⟨hi, hw, hwl2⟩
  dsimp only at hi hw hwl2 ⊢
  by_cases h : i < c.funs.length
  ·have hp1 := A1 AH h
   have h' : i < c.starts.length := by rw [hs.starts]; exact h
   have hp2 := A1 B5 h'
   have hcp := hp.funs _ (Ql h)
   have hcl := hf.fnames _ (Ql h)
   have hst := hp.starts _ (Ql h')
   obtain ⟨a1, a2, a3, a4, a5, a6, a7⟩ := copied (st := st) (z := [.str [], .int .i64 0]) (cs := encN c.funs[i]) (T := 54)
   have hw1 : Wr c st.next ((st.alloc (.cells [.str [], .int .i64 0] 54 false)).put st.next (some (.cells (encN c.funs[i]) 54 false))) (textL (consL c c.cons.length) ++ textL (funL c i)) := hw.alloc.put (Qj _)
   have a8 : (((st.alloc (.cells [.str [], .int .i64 0] 54 false)).put st.next (some (.cells (encN c.funs[i]) 54 false))).alloc (.cells [.str [102, 117, 110], .str c.funs[i].1] 9 false)).heap.get st.next = some (.cells (encN c.funs[i]) 54 false) := (Bk (by rw [a7]; omega)).trans a2
   have a9 := hw1.alloc (o := .cells [.str [102, 117, 110], .str c.funs[i].1] 9 false) |>.code
   obtain ⟨b1, b2, b3, b4, b5⟩ := hw1.lists (A := [[102, 117, 110], c.funs[i].1]) (B := [c.funs[i].2, c.starts[i]]) (by simp) (ka := 2) (kb := 2) rfl rfl
   have hne1 : st.next ≠ ((st.alloc (.cells [.str [], .int .i64 0] 54 false)).put st.next (some (.cells (encN c.funs[i]) 54 false))).next := by rw [a7]; omega
   have hne0 : 0 ≠ ((st.alloc (.cells [.str [], .int .i64 0] 54 false)).put st.next (some (.cells (encN c.funs[i]) 54 false))).next := by rw [a7]; omega
   focus
    refine Es <| Lq (o2 u_3 rfl rfl) rfl <| Ld <| Ab ?_
    refine Ec rfl (fun g3 => ?_) (fun g3 => ?_)
    have h3 := dT g3
    refine Ac <| Ab <| Ai <| Es <| qm rfl <| Lq (Af rfl DF BI rfl rfl ‹_›) rfl <| Lq (AM rfl rfl ag_54 BI (Qc rfl)) rfl <| Lo (Bz rfl z_54) rfl ?_
    refine qa rfl <| AB (Ba rfl BI rfl rfl (AZ ‹_› rfl rfl rfl)) rfl rfl <| Ld <| EN (by kernel_rfl) <| Nq (of f_54_0 rfl) rfl <| AL rfl rfl (Al ag_9 sz_9 ‹_› rfl) rfl (.inl rfl) rfl rfl <| Bx rfl D7 sz_9 z_9 rfl rfl rfl (.inl rfl) rfl rfl <| Nq (of f_54_1 rfl) rfl ?_
    rotate_left
    have h3 := dF g3
    exact absurd h3 (by omega)
   refine AL rfl rfl (Al Bj AY a8 rfl) (clear_ne hne1 rfl) (.inl rfl) rfl rfl <| Nq (of f_28_2 rfl) rfl <| AL rfl rfl (Al BK BJ ‹_› rfl) rfl (.inl rfl) rfl rfl <| Nq (om rfl) rfl <| Nq (Af rfl DO AY rfl rfl ‹_›) rfl <| Nq (A3 rfl rfl Bj AY) rfl <| Bx rfl DO AY z_3 rfl rfl rfl (.inl rfl) rfl rfl ?_
   refine Fi (by kernel_rfl) rfl rfl rfl (b1.numbersN b2 b4 b3 b5 (fun n hn => by
    simp only [Qk, List.not_mem_nil, or_false] at hn
    rcases hn with rfl | rfl
    ·exact hcp.2
    ·exact hst) (by simp)) (by kernel_rfl) (by kernel_rfl) (.inl rfl) rfl rfl ?_
   rintro v4 s4 ⟨c0, c0', c1, c2, c3, _, _⟩
   refine ⟨c0, c0', fun nl2 hn2 => ?_⟩
   have hlen : sumL (funW c.funs[i] c.starts[i]) ≤ 8000 := by
    have := En hcp.2
    have := En hst
    simp only [funW, sumL, List.map_cons, List.map_nil, List.sum_cons, List.sum_nil, List.length_cons, List.length_nil]
    omega
   refine Fi (by kernel_rfl) rfl rfl rfl (c1.lineN (l := funW c.funs[i] c.starts[i]) c2.strs (by show _ + 2 * (4 + 1) ≤ _; omega) (by rw [Qm]; omega)) (by kernel_rfl) (hn2.all (by kernel_rfl) (by kernel_rfl)) (.inl rfl) rfl rfl ?_
   rintro v5 s5 ⟨e0, e0', d1, d2⟩
   refine ⟨e0, e0', fun nl3 _ => ?_⟩
   refine Ay <| Ao ?_
   refine Lq (At (b := 1) rfl u_3 rfl rfl (by first | assumption | omega | (simp only [LL]; omega))) rfl ?_
   refine qm rfl <| Ld ?_
   exact ⟨(i + 1, _), ⟨h, by rw [fun_succ h h', ← List.append_assoc]; exact d1, by rw [fun_succ h h', Qm, Qm]; simp only [List.length_cons, List.length_nil]; omega⟩, by show c.funs.length - (i + 1) < c.funs.length - i; omega, rfl, rfl, by (refine Am.Ap ?_; repeat (first | exact trivial | refine ⟨rfl, ?_⟩))⟩
  ·have hg0 := hw.code
   focus
    refine Es <| Lq (o2 u_3 rfl rfl) rfl <| Ld <| Ab ?_
    refine Ec rfl (fun g3 => ?_) (fun g3 => ?_)
    have h3 := dT g3
    exact absurd h3 (by omega)
    have h3 := dF g3
    refine A5 <| AX rfl <| Ab <| Es <| Lq (of Bd rfl) rfl <| Lo (A8 rfl rfl (Al BW BV ‹_› rfl)) rfl <| Lq (ol u_25 rfl) rfl <| qm rfl ?_
    refine Ld <| Ai ?_
    rotate_left
   obtain rfl : i = c.funs.length := by omega
   have hW0 : (textL (consL c c.cons.length) ++ textL (funL c c.funs.length)).length ≤ 8000008000 := by rw [Qm]; omega
   generalize hW : textL (consL c c.cons.length) ++ textL (funL c c.funs.length) = W0 at hW0 hw
   refine Aw (fun x : Nat × St => ([(64, .int .i64 (x.1 : Nat)), (63, .int .i64 (c.ins.length : Nat)), (62, recs encI 7 c.ins), (4, .ptr 1 0), (1, .ptr 0 0)], x.2)) (fun x => c.ins.length - x.1)
    (fun x => x.1 ≤ c.ins.length ∧ Wr c x.2.next x.2 (W0 ++ textL (insL c x.1)) ∧ (textL (insL c x.1)).length ≤ 1000001 * x.1) (0, _) ⟨Qo _, by rw [show textL (insL c 0) = [] from rfl, List.append_nil]; exact hw, Qj _⟩ rfl (by (refine Am.Ap ?_; repeat (first | exact trivial | refine ⟨rfl, ?_⟩))) ?_
   clear hw hg0 hwl2
   rintro ⟨i, st⟩ ⟨hi, hw, hwl2⟩
   dsimp only at hi hw hwl2 ⊢
   by_cases h : i < c.ins.length
   ·have hp1 := A1 B7 h
    have hip := hp.ins _ (Ql h)
    have hal := hf.alts _ (Ql h)
    have hto := hf.to _ (Ql h)
    have har := hf.args _ (Ql h)
    generalize hx : c.ins[i] = x at hip hal hto har
    rw [hx] at hp1
    obtain ⟨a1, a2, a3, a4, a5, a6, a7⟩ := copied (st := st) (z := [.int .i64 0, .int .i64 0, .nilslice, .nilslice, .int .i64 0, .int .i64 0, .nilslice]) (cs := encI x) (T := 58)
    have hw1 : Wr c st.next ((st.alloc (.cells [.int .i64 0, .int .i64 0, .nilslice, .nilslice, .int .i64 0, .int .i64 0, .nilslice] 58 false)).put st.next (some (.cells (encI x) 58 false))) (W0 ++ textL (insL c i)) := hw.alloc.put (Qj _)
    have b1 := hw1.alloc (o := .cells [.str (opW x.op)] 9 false)
    have b2 : FullR (((st.alloc (.cells [.int .i64 0, .int .i64 0, .nilslice, .nilslice, .int .i64 0, .int .i64 0, .nilslice] 58 false)).put st.next (some (.cells (encI x) 58 false))).alloc (.cells [.str (opW x.op)] 9 false)) 9 (.slice (st.next + 1) 0 1 1 (some 1)) ([opW x.op].map .str) := FullR.new (part := false) DX (Nat.lt_succ_self _) (by simp) rfl
    have b3 := (Bk (st := (st.alloc (.cells [.int .i64 0, .int .i64 0, .nilslice, .nilslice, .int .i64 0, .int .i64 0, .nilslice] 58 false)).put st.next (some (.cells (encI x) 58 false))) (ob := .cells [.str (opW x.op)] 9 false) (by rw [a7]; omega)).trans a2
    focus
     refine Es <| Lq (o2 u_3 rfl rfl) rfl <| Ld <| Ab ?_
     refine Ec rfl (fun g4 => ?_) (fun g4 => ?_)
     have h4 := dT g4
     refine Ac <| Ab <| Ai <| Es <| Lq (Af rfl u_25 BX rfl rfl ‹_›) rfl <| Lq (AM rfl rfl ag_58 BX (Qc rfl)) rfl <| Lo (Bz rfl z_58) rfl <| AB (Ba rfl BX rfl rfl (AZ ‹_› rfl rfl rfl)) rfl rfl ?_
     refine Ld <| Av (by kernel_rfl) ?_
     refine E6 (BC rfl rfl (by kernel_rfl) rfl (hit_50)) (.inl rfl) rfl rfl <| Nq (of f_58_0 rfl) rfl <| AL rfl rfl (Al ag_55 sz_55 ‹_› rfl) rfl (.inl rfl) rfl rfl ?_
     rotate_left
     have h4 := dF g4
     exact absurd h4 (by omega)
    refine Nq (word7 hip.op rfl rfl rfl) rfl <| Bx rfl D7 sz_9 z_9 rfl rfl rfl (.inl rfl) rfl rfl <| Nq (oa rfl) rfl <| Ay <| Ab <| Es <| Lo (A8 rfl rfl (loadAgg_at ag_58 BX ‹_› (Qc rfl))) rfl ?_
    refine Lo (Ag rfl rfl (by kernel_rfl) rfl (Ae (hit_51))) rfl <| Ld <| Ai ?_
    obtain ⟨s0, hs0⟩ : ∃ s0 : St, ((st.alloc (.cells [.int .i64 0, .int .i64 0, .nilslice, .nilslice, .int .i64 0, .int .i64 0, .nilslice] 58 false)).put st.next (some (.cells (encI x) 58 false))).alloc (.cells [.str (opW x.op)] 9 false) = s0 := ⟨_, rfl⟩
    rw [hs0] at b1 b2
    refine EvtL.at (l' := [(74, shA (shapeV x)), (11, .slice (st.next + 1) 0 1 1 (some 1)), (64, .int .i64 (i : Nat)), (63, .int .i64 (c.ins.length : Nat)), (62, recs encI 7 c.ins), (4, .ptr 1 0), (1, .ptr 0 0)]) hs0 (by (refine Am.Ap ?_; repeat (first | exact trivial | refine ⟨rfl, ?_⟩))) ?_
    have b4 : ∀ k, ownB k (.slice (st.next + 1) 0 1 1 (some 1)) = true → st.next ≤ k := fun k hk => by have : st.next + 1 = k := Qb hk; omega
    have hnx0 : st.next ≤ s0.next := b1.le
    clear a1 a2 a3 a4 a5 a6 a7 hw1 b3 hs0 hp1
    generalize AV.slice (st.next + 1) 0 1 1 (some 1) = v0 at b2 b4 ⊢
    refine EvtL.cutM (fun y : AV × St => ([(11, y.1), (64, .int .i64 (i : Nat)), (63, .int .i64 (c.ins.length : Nat)), (62, recs encI 7 c.ins), (4, .ptr 1 0), (1, .ptr 0 0)], y.2)) (fun y => Wr c st.next y.2 (W0 ++ textL (insL c i)) ∧ FullR y.2 9 y.1 ((insW x).map .str) ∧ ∀ k, ownB k y.1 = true → st.next ≤ k) ?_ ?_
    ·rw [shape_at hip]
     unfold insW shW
     by_cases o1 : x.op = 1
     ·rw [if_pos o1, if_pos o1]
      obtain ⟨d1, d2, d3, d4, d5, d6, d7⟩ := copied (st := s0) (z := [.int .i64 0, .nilslice]) (cs := [.int .i64 x.a, recs encA 2 x.alts]) (T := 114)
      have e1 := b1.alloc (o := .cells [.int .i64 0, .nilslice] 114 false) |>.put (o := some (.cells [.int .i64 x.a, recs encA 2 x.alts] 114 false)) hnx0
      have e2 := b2.keep (by rw [d7]; omega) fun k hk => d4 k (b2.own hk)
      refine Es <| Lq (A2 rfl Eo z_114 rfl rfl) rfl ?_
      iterate 2 refine Lq (oe rfl) rfl ?_
      refine Ld <| Ah rfl rfl <| Es <| Lo (Bz rfl z_114) rfl <| AB (Ba rfl sz_114 rfl rfl (AZ ‹_› rfl rfl rfl)) rfl rfl <| Ld <| Es <| qm rfl ?_
      refine Lq (of f_114_0 rfl) rfl <| Lo (A8 rfl rfl (Al Bj AY ‹_› rfl)) rfl <| Lo (Br rfl DO AY z_3 rfl rfl rfl) rfl ?_
      refine AJ rfl rfl (by kernel_rfl) rfl rfl rfl rfl (e1.numbersB e2 b4 (B := [x.a]) rfl (fun n hn => by rw [Qp.1 hn]; exact hip.a) (by simp) ?_)
      intro s4 v4 c1 c2 c3 c4 c5
      have g12 : s4.heap.get s0.next = some (.cells [.int .i64 x.a, recs encA 2 x.alts] 114 false) := (c5 s0.next (by rw [d7]; omega) (by
       cases hh : ownB s0.next v0 with
       | false => rfl
       | true => have := b2.own hh; omega)).trans d2
      refine qa rfl <| Ld <| Es <| Lq (of f_114_1 rfl) rfl <| Lo (A8 rfl rfl (Al Fh EO ‹_› rfl)) rfl <| Lq (ol u_56 rfl) rfl <| qm rfl <| Ld ?_
      refine Ai ?_
      refine Aw (fun y : Nat × AV × St => ([(86, .int .i64 (y.1 : Nat)), (85, .int .i64 (x.alts.length : Nat)), (84, recs encA 2 x.alts), (11, y.2.1), (64, .int .i64 (i : Nat)), (63, .int .i64 (c.ins.length : Nat)), (62, recs encI 7 c.ins), (4, .ptr 1 0), (1, .ptr 0 0)], y.2.2)) (fun y => x.alts.length - y.1)
       (fun y => y.1 ≤ x.alts.length ∧ Wr c st.next y.2.2 (W0 ++ textL (insL c i)) ∧ FullR y.2.2 9 y.2.1 ((opW x.op :: itoaV x.a :: (x.alts.take y.1).map altW).map .str) ∧ ∀ k, ownB k y.2.1 = true → st.next ≤ k) (0, v4, s4) ⟨Qo _, c1, c2, c3⟩ rfl (by (refine Am.Ap ?_; repeat (first | exact trivial | refine ⟨rfl, ?_⟩))) ?_
      rintro ⟨j, vj, sj⟩ ⟨hj, q1, q2, q3⟩
      dsimp only at hj q1 q2 q3 ⊢
      by_cases hjl : j < x.alts.length
      ·have hp3 := A1 Et hjl
       obtain ⟨hap1, hap2⟩ := hip.alts _ (Ql hjl)
       obtain ⟨r1, r2, r3, r4, r5, r6, r7⟩ := copied (st := sj) (z := [.int .i64 0, .int .i64 0]) (cs := encA x.alts[j]) (T := 60)
       have e3 := q1.alloc (o := .cells [.int .i64 0, .int .i64 0] 60 false) |>.put (b := sj.next) (o := some (.cells (encA x.alts[j]) 60 false)) q1.le
       have e4 := q2.keep (by rw [r7]; omega) fun k hk => r4 k (q2.own hk)
       have hi1 := En hap1
       have hi2 := En hap2
       have hcl : ((opW x.op :: itoaV x.a :: (x.alts.take j).map altW).map AV.str).length = j + 2 := by
        rw [Qn, List.length_cons, List.length_cons, Qn, List.length_take, Nat.min_eq_left hj]
       obtain ⟨v', s2, t1, t2, t3, t4, t5, t6⟩ := e4.one (by_ := 16) (x := .str (altW x.alts[j])) (by
        rw [hcl]
        unfold small
        rw [Qd (by omega : (j + 2 + 1) * 16 ≤ 1099511627776), Qd (by omega : j + 2 + 1 ≤ 1099511627776)]; rfl)
       focus
        refine Es <| Lq (o2 u_3 rfl rfl) rfl <| Ld <| Ab ?_
        refine Ec rfl (fun g13 => ?_) (fun g13 => ?_)
        have h13 := dT g13
        refine Ac <| Ab <| Ai <| Es <| Lq (Af rfl u_56 sz_60 rfl rfl ‹_›) rfl <| Lq (AM rfl rfl ag_60 sz_60 (Qc rfl)) rfl <| Lo (Bz rfl z_60) rfl <| AB (Ba rfl sz_60 rfl rfl (AZ ‹_› rfl rfl rfl)) rfl rfl ?_
        refine Ld <| EN (by kernel_rfl) <| Nq (om rfl) rfl <| Nq (of f_60_0 rfl) rfl <| AL rfl rfl (Al Bj AY ‹_› rfl) rfl (.inl rfl) rfl rfl ?_
        refine E6 (BC rfl rfl (by kernel_rfl) rfl (hit_52 (by first | assumption | omega | (simp only [LL]; omega)))) (.inl rfl) rfl rfl ?_
        refine Nq (OpQ.strAdd rfl u_9 rfl rfl (by first | assumption | omega | (simp only [LL]; omega))) rfl ?_
        refine Nq (of f_60_1 rfl) rfl <| AL rfl rfl (Al Bj AY ‹_› rfl) rfl (.inl rfl) rfl rfl ?_
        refine E6 (BC rfl rfl (by kernel_rfl) rfl (hit_52 (by first | assumption | omega | (simp only [LL]; omega)))) (.inl rfl) rfl rfl ?_
        refine Nq (OpQ.strAdd rfl u_9 rfl rfl (by first | assumption | omega | (simp only [LL]; omega))) rfl ?_
        refine Bx rfl D7 sz_9 z_9 rfl rfl rfl (.inl rfl) rfl rfl ?_
        rotate_left
        have h13 := dF g13
        exact absurd h13 (by omega)
       refine RegN.append rfl rfl rfl rfl D7 sz_9 by_9 z_9 (by kernel_rfl) (by kernel_rfl) rfl rfl (appended_new (e := 9) (part := false) DX rfl) t1 t2 (fun b hb => ⟨t3 b hb, clear_all (by kernel_rfl)⟩) (by kernel_rfl) (by kernel_rfl) (.inl rfl) rfl rfl <| Nq (oa rfl) rfl <| Ay <| Ao ?_
       refine Lq (At (b := 1) rfl u_3 rfl rfl (by first | assumption | omega | (simp only [LL]; omega))) rfl ?_
       refine qm rfl <| Ld ?_
       have e5 : (opW x.op :: itoaV x.a :: (x.alts.take (j + 1)).map altW).map AV.str = (opW x.op :: itoaV x.a :: (x.alts.take j).map altW).map AV.str ++ [.str (altW x.alts[j])] := by
        rw [List.take_succ_eq_append_getElem hjl, List.map_append (l₂ := [x.alts[j]]), ← List.cons_append, ← List.cons_append, List.map_append (l₂ := [x.alts[j]].map altW)]; rfl
       have hq := q1.le
       exact ⟨(j + 1, v', _), ⟨hjl, (Wr.alloc (o := .cells [.str (altW x.alts[j])] 9 false) e3).chg t6 q3, by
        show FullR _ 9 v' ((opW x.op :: itoaV x.a :: (x.alts.take (j + 1)).map altW).map AV.str)
        rw [e5]; exact t4, fun k hk => by have := t5 k hk; rw [r7] at this; omega⟩, by show x.alts.length - (j + 1) < x.alts.length - j; omega, rfl, rfl, by (refine Am.Ap ?_; repeat (first | exact trivial | refine ⟨rfl, ?_⟩))⟩
      ·focus
        refine Es <| Lq (o2 u_3 rfl rfl) rfl <| Ld <| Ab ?_
        refine Ec rfl (fun g13 => ?_) (fun g13 => ?_)
        have h13 := dT g13
        exact absurd h13 (by omega)
        have h13 := dF g13
        refine A5 <| AX rfl ?_
        rotate_left
       obtain rfl : j = x.alts.length := by omega
       rw [List.take_length] at q2
       exact ⟨rfl, rfl, (vj, sj), ⟨q1, q2, q3⟩, rfl, by (refine Am.Ap ?_; repeat (first | exact trivial | refine ⟨rfl, ?_⟩))⟩
     ·rw [if_neg o1, if_neg o1]
      by_cases o2 : x.op = 2
      ·rw [if_pos o2, if_pos o2]
       obtain ⟨d1, d2, d3, d4, d5, d6, d7⟩ := copied (st := s0) (z := [.nilslice]) (cs := [recs encZ 1 x.to]) (T := 117)
       have e1 := b1.alloc (o := .cells [.nilslice] 117 false) |>.put (o := some (.cells [recs encZ 1 x.to] 117 false)) hnx0
       have e2 := b2.keep (by rw [d7]; omega) fun k hk => d4 k (b2.own hk)
       refine Es <| Lq (A2 rfl Eo z_114 rfl rfl) rfl ?_
       iterate 2 refine Lq (oe rfl) rfl ?_
       refine Ld <| An rfl rfl <| Es <| Lq (A2 rfl if_117 z_117 rfl rfl) rfl ?_
       iterate 2 refine Lq (oe rfl) rfl ?_
       refine Ld <| Ah rfl rfl <| Es <| Lo (Bz rfl z_117) rfl <| AB (Ba rfl sz_117 rfl rfl (AZ ‹_› rfl rfl rfl)) rfl rfl <| Ld <| Ao <| qm rfl ?_
       refine Lq (of f_117_0 rfl) rfl <| Lo (A8 rfl rfl (Al BK BJ ‹_› rfl)) rfl ?_
       refine AJ rfl rfl (by kernel_rfl) rfl rfl rfl rfl (e1.numbers e2 b4 (ListR.recs (enc := AV.int .i64) x.to) (fun _ _ => rfl) hip.to (by simp only [List.length_cons, List.length_nil]; omega) ?_)
       intro s4 v4 c1 c2 c3 c4 c5
       refine qa rfl <| Ld ?_
       exact ⟨rfl, rfl, (v4, s4), ⟨c1, c2, c3⟩, rfl, by (refine Am.Ap ?_; repeat (first | exact trivial | refine ⟨rfl, ?_⟩))⟩
      ·rw [if_neg o2, if_neg o2]
       by_cases o3 : x.op = 3
       ·rw [if_pos o3, if_neg (by omega), if_neg (by omega)]
        refine Es <| Lq (A2 rfl Eo z_114 rfl rfl) rfl ?_
        iterate 2 refine Lq (oe rfl) rfl ?_
        refine Ld <| An rfl rfl <| Es <| Lq (A2 rfl if_117 z_117 rfl rfl) rfl ?_
        iterate 2 refine Lq (oe rfl) rfl ?_
        refine Ld <| An rfl rfl <| Es <| Lq (A2 rfl if_119 z_119 rfl rfl) rfl ?_
        iterate 2 refine Lq (oe rfl) rfl ?_
        refine Ld <| An rfl rfl <| Es <| Lq (A2 rfl if_121 z_121 rfl rfl) rfl ?_
        iterate 2 refine Lq (oe rfl) rfl ?_
        refine Ld <| An rfl rfl <| Ac ?_
        exact ⟨rfl, rfl, (v0, s0), ⟨b1, b2, b4⟩, rfl, by (refine Am.Ap ?_; repeat (first | exact trivial | refine ⟨rfl, ?_⟩))⟩
       ·rw [if_neg o3]
        by_cases o4 : x.op = 4
        ·rw [if_pos o4, if_neg (by omega), if_neg (by omega)]
         refine Es <| Lq (A2 rfl Eo z_114 rfl rfl) rfl ?_
         iterate 2 refine Lq (oe rfl) rfl ?_
         refine Ld <| An rfl rfl <| Es <| Lq (A2 rfl if_117 z_117 rfl rfl) rfl ?_
         iterate 2 refine Lq (oe rfl) rfl ?_
         refine Ld <| An rfl rfl <| Es <| Lq (A2 rfl if_119 z_119 rfl rfl) rfl ?_
         iterate 2 refine Lq (oe rfl) rfl ?_
         refine Ld <| An rfl rfl <| Es <| Lq (A2 rfl if_121 z_121 rfl rfl) rfl ?_
         iterate 2 refine Lq (oe rfl) rfl ?_
         refine Ld <| An rfl rfl <| Ac ?_
         exact ⟨rfl, rfl, (v0, s0), ⟨b1, b2, b4⟩, rfl, by (refine Am.Ap ?_; repeat (first | exact trivial | refine ⟨rfl, ?_⟩))⟩
        ·rw [if_neg o4]
         by_cases o5 : x.op = 5
         ·rw [if_pos o5, if_pos o5]
          obtain ⟨d1, d2, d3, d4, d5, d6, d7⟩ := copied (st := s0) (z := [.int .i64 0, .int .i64 0, .nilslice]) (cs := [.int .i64 x.term, .int .i64 x.n, recs encZ 1 x.args]) (T := 119)
          have e1 := b1.alloc (o := .cells [.int .i64 0, .int .i64 0, .nilslice] 119 false) |>.put (o := some (.cells [.int .i64 x.term, .int .i64 x.n, recs encZ 1 x.args] 119 false)) hnx0
          have e2 := b2.keep (by rw [d7]; omega) fun k hk => d4 k (b2.own hk)
          have e3 := e1.alloc (o := .cells [.int .i64 x.term, .int .i64 x.n] 3 false)
          have e4 := e2.keep (s' := (((s0.alloc (.cells [.int .i64 0, .int .i64 0, .nilslice] 119 false)).put s0.next (some (.cells [.int .i64 x.term, .int .i64 x.n, recs encZ 1 x.args] 119 false))).alloc (.cells [.int .i64 x.term, .int .i64 x.n] 3 false))) (Nat.le_succ _) fun k hk => Bk (e2.own hk)
          have d8 : s0.next < ((s0.alloc (.cells [.int .i64 0, .int .i64 0, .nilslice] 119 false)).put s0.next (some (.cells [.int .i64 x.term, .int .i64 x.n, recs encZ 1 x.args] 119 false))).next := by rw [d7]; omega
          refine Es <| Lq (A2 rfl Eo z_114 rfl rfl) rfl ?_
          iterate 2 refine Lq (oe rfl) rfl ?_
          refine Ld <| An rfl rfl <| Es <| Lq (A2 rfl if_117 z_117 rfl rfl) rfl ?_
          iterate 2 refine Lq (oe rfl) rfl ?_
          refine Ld <| An rfl rfl <| Es <| Lq (A2 rfl if_119 z_119 rfl rfl) rfl ?_
          iterate 2 refine Lq (oe rfl) rfl ?_
          refine Ld <| Ah rfl rfl <| Es <| Lo (Bz rfl z_119) rfl <| AB (Ba rfl sz_119 rfl rfl (AZ ‹_› rfl rfl rfl)) rfl rfl <| Ld <| EN (by kernel_rfl) <| Nq (om rfl) rfl ?_
          refine Nq (of f_119_0 rfl) rfl <| AL rfl rfl (Al ag_37 sz_37 ‹_› rfl) rfl (.inl rfl) rfl rfl <| Nq (of BE rfl) rfl <| AL rfl rfl (Al Bj AY ‹_› rfl) rfl (.inl rfl) rfl rfl <| Bx rfl DO AY z_3 rfl rfl rfl (.inl rfl) rfl rfl ?_
          refine Fi (by kernel_rfl) rfl rfl rfl (e3.numbersN (l := [x.term, x.n]) e4 b4 (ListR.new (e := 3) (part := false) DX (Nat.lt_succ_self _) rfl) (ListR.fresh e2) (fun n hn => by
           simp only [Qk, List.not_mem_nil, or_false] at hn
           rcases hn with rfl | rfl
           ·exact hip.term
           ·exact hip.n) (by simp)) (by kernel_rfl) (by kernel_rfl) (.inl rfl) rfl rfl ?_
          rintro v4 s4 ⟨f0, f0', f1, f2, f3, f4, f5⟩
          refine ⟨f0, f0', fun nl2 hn2 => ?_⟩
          have hov : ownB s0.next v0 = false := by
           cases hh : ownB s0.next v0 with
           | false => rfl
           | true => have := b2.own hh; omega
          have g16 := (f4 s0.next (Nat.lt_succ_of_lt d8) hov).trans ((Bk d8).trans d2)
          refine Nq (of f_119_2 rfl) rfl ?_
          refine AL rfl rfl (Al BK BJ g16 rfl) (hn2.clear (clear_ne (Nat.ne_of_lt d8) rfl) (Nat.lt_succ_of_lt d8) fun hh => by rw [f5 _ hh] at hov; cases hov) (.inl rfl) rfl rfl ?_
          refine Fi (by kernel_rfl) rfl rfl rfl (f1.numbersN (l := x.args) f2 f3 (ListR.recs (enc := AV.int .i64) x.args) (fun _ _ => rfl) hip.args (by simp only [Qm, Qn, List.length_cons, List.length_nil]; omega)) (by kernel_rfl) (hn2.all (by kernel_rfl) (by kernel_rfl)) (.inl rfl) rfl rfl ?_
          rintro v5 s5 ⟨u0, u0', u1, u2, u3, _, _⟩
          refine ⟨u0, u0', fun nl3 _ => ?_⟩
          refine Nq (oa rfl) rfl <| Ay ?_
          exact ⟨rfl, rfl, (v5, _), ⟨u1, u2, u3⟩, rfl, by (refine Am.Ap ?_; repeat (first | exact trivial | refine ⟨rfl, ?_⟩))⟩
         ·rw [if_neg o5, if_neg o5, if_pos (by have := hip.op; omega)]
          obtain ⟨d1, d2, d3, d4, d5, d6, d7⟩ := copied (st := s0) (z := [.int .i64 0]) (cs := [.int .i64 x.a]) (T := 121)
          have e1 := b1.alloc (o := .cells [.int .i64 0] 121 false) |>.put (o := some (.cells [.int .i64 x.a] 121 false)) hnx0
          have e2 := b2.keep (by rw [d7]; omega) fun k hk => d4 k (b2.own hk)
          refine Es <| Lq (A2 rfl Eo z_114 rfl rfl) rfl ?_
          iterate 2 refine Lq (oe rfl) rfl ?_
          refine Ld <| An rfl rfl <| Es <| Lq (A2 rfl if_117 z_117 rfl rfl) rfl ?_
          iterate 2 refine Lq (oe rfl) rfl ?_
          refine Ld <| An rfl rfl <| Es <| Lq (A2 rfl if_119 z_119 rfl rfl) rfl ?_
          iterate 2 refine Lq (oe rfl) rfl ?_
          refine Ld <| An rfl rfl <| Es <| Lq (A2 rfl if_121 z_121 rfl rfl) rfl ?_
          iterate 2 refine Lq (oe rfl) rfl ?_
          refine Ld <| Ah rfl rfl <| Es <| Lo (Bz rfl z_121) rfl <| AB (Ba rfl sz_121 rfl rfl (AZ ‹_› rfl rfl rfl)) rfl rfl <| Ld <| Ao <| qm rfl ?_
          refine Lq (of f_121_0 rfl) rfl <| Lo (A8 rfl rfl (Al Bj AY ‹_› rfl)) rfl <| Lo (Br rfl DO AY z_3 rfl rfl rfl) rfl ?_
          refine AJ rfl rfl (by kernel_rfl) rfl rfl rfl rfl (e1.numbersB e2 b4 (B := [x.a]) rfl (fun n hn => by rw [Qp.1 hn]; exact hip.a) (by simp) ?_)
          intro s4 v4 c1 c2 c3 c4 c5
          refine qa rfl <| Ld ?_
          exact ⟨rfl, rfl, (v4, s4), ⟨c1, c2, c3⟩, rfl, by (refine Am.Ap ?_; repeat (first | exact trivial | refine ⟨rfl, ?_⟩))⟩
    ·rintro ⟨v1, s1⟩ l1 ⟨f1, f2, f3⟩ hl1
     dsimp only at f1 f2 f3 hl1 ⊢
     skip
     refine EvtL.sub ?_ hl1
     refine Ao <| qm rfl ?_
     refine AJ rfl rfl (by kernel_rfl) rfl rfl rfl rfl (f1.line (l := insW x) f2.strs (ins_sum hip hal hto har) (by rw [Qm]; omega) ?_)
     intro s5 d1 d2
     refine Ld <| Ao ?_
     refine Lq (At (b := 1) rfl u_3 rfl rfl (by first | assumption | omega | (simp only [LL]; omega))) rfl ?_
     refine qm rfl <| Ld ?_
     subst hx
     exact ⟨(i + 1, s5), ⟨h, by rw [ins_succ h, ← List.append_assoc]; exact d1, by rw [ins_succ h, Qm, Qm]; simp only [List.length_cons, List.length_nil]; omega⟩, by show c.ins.length - (i + 1) < c.ins.length - i; omega, rfl, rfl, by (refine Am.Ap ?_; repeat (first | exact trivial | refine ⟨rfl, ?_⟩))⟩
   ·focus
     refine Es <| Lq (o2 u_3 rfl rfl) rfl <| Ld <| Ab ?_
     refine Ec rfl (fun g4 => ?_) (fun g4 => ?_)
     have h4 := dT g4
     exact absurd h4 (by omega)
     have h4 := dF g4
     refine A5 <| AX rfl <| Es <| Lq (of f_104_0 rfl) rfl ?_
     rotate_left
    obtain rfl : i = c.ins.length := by omega
    obtain ⟨w1, ⟨a, bv, w2, w3, w4, w5⟩, w6, w7, w8, w9⟩ := hw
    refine AJ rfl rfl (by kernel_rfl) rfl rfl rfl rfl (text_run rfl w2 (by omega) w4 (by rw [Qm]; omega) ?_)
    intro s5 hc5
    have hl5 := log_nil hc5 w8 w9
    have hb5 := hc5.bound.trans w8
    iterate 2 refine qa rfl ?_
    refine Ld ?_
    refine Aa ⟨.inl rfl, rfl, ‹_›, ‹_›, _, _, _, (As rfl (As rfl rfl)), rfl, rfl, ?_⟩
    show AV.tuple [.str (W0 ++ textL (insL c c.ins.length)), .int .i64 0] = _
    rw [← hW, ← textL_app, ← textL_app]
    unfold textV linesV consL funL insL
    rw [List.take_length, List.take_length, List.take_of_length_le (by rw [List.length_zipWith]; omega), List.append_assoc]
abbrev PriT := { c : CodeT // Fits c ∧ codeV c = true }
noncomputable def KL7 := addC KL6 19 (fun p : PriT=>[.agg (encC p.1)]) (fun p=>.tuple [.str (textV p.1),.int .i64 0])
theorem hit_19 {c : CodeT} (h : Fits c) (hc : codeV c = true) : KL7 19 [.agg (encC c)] = some (.tuple [.str (textV c), .int .i64 0]) :=
 AD (f := 19) (enc := fun p : PriT => [.agg (encC p.1)]) (res := fun p => .tuple [.str (textV p.1), .int .i64 0]) (by
  rintro ⟨a, _⟩ ⟨b, _⟩ h
  obtain rfl := encC_inj (List.cons.inj h).1
  rfl) ⟨c, h, hc⟩
theorem gall7 (h : KnownF Tryz.prog 10 [] (.bool true)) : KnownGs Tryz.prog gl0 KL7 :=
 Db AE BA (gall6 h) (fun p : PriT => print_to p.1 p.2.1 p.2.2) (fun _ => rfl) (fun _ => rfl)
noncomputable def eqB {α : Type} (a b : α) : Bool := @decide (a = b) (Classical.propDecidable _)
theorem eqB_t {α : Type} {a b : α} (h : a = b) : eqB a b = true := @decide_eq_true _ (Classical.propDecidable _) h
theorem E4 {α : Type} {a b : α} (h : ¬ a = b) : eqB a b = false := @decide_eq_false _ (Classical.propDecidable _) h
theorem eqB_of {α : Type} {a b : α} (h : eqB a b = true) : a = b := @dT _ (Classical.propDecidable _) h
theorem eqB_no {α : Type} {a b : α} (h : eqB a b = false) : ¬ a = b := @dF _ (Classical.propDecidable _) h
theorem at_ne {α : Type} {a b : List α} {i : Nat} (h : i < a.length) (h' : i < b.length) (hn : ¬ a[i] = b[i]) : ¬ a = b := fun e=>by subst e; exact hn rfl
theorem len_ne {α : Type} {a b : List α} (hn : ¬ a.length = b.length) : ¬ a = b := fun e=>hn (by rw [e])
theorem take_eq {α : Type} {a b : List α} {i : Nat} (h : i < a.length) (h' : i < b.length) (ht : a.take i = b.take i) (he : a[i] = b[i]) : a.take (i + 1) = b.take (i + 1) := by
 rw [List.take_succ_eq_append_getElem h, List.take_succ_eq_append_getElem h', ht, he]
theorem take_all {α : Type} {a b : List α} (hl : a.length = b.length) (ht : a.take a.length = b.take a.length) : a = b := by
 rw [List.take_length, hl, List.take_length] at ht; exact ht
theorem ints_to (a b : List Int) (ha : a.length ≤ 4000) (hb : b.length ≤ 4000) : CallTo (EK KL7) 15 [recs encZ 1 a, recs encZ 1 b] S0 (.bool (eqB a b)) := by
 refine Ax (fn := Tryz.f15) rfl rfl (by kernel_rfl) rfl rfl rfl rfl ?_
 focus
  refine Es <| qa rfl <| Ld <| Ab <| Es <| qm rfl <| Lq (ol DO rfl) rfl <| qm rfl ?_
  refine Lq (ol DO rfl) rfl <| Lq (o2 u_3 rfl rfl) rfl <| Ld ?_
  refine Ec rfl (fun g1 => ?_) (fun g1 => ?_)
  have h1 := nT g1
  refine Es <| qa rfl <| Ld ?_
  refine Aa (Er rfl ?_)
  refine Ad ?_
  rotate_left
  have h1 := nF g1
  refine Ac <| Ab <| Es <| qa rfl <| Ld <| Ai ?_
  rotate_left
 ·rw [E4 (len_ne (by omega))]
 refine Aw (fun i : Nat => ([(5, .int .i64 (i : Nat)), (1, recs encZ 1 b), (0, recs encZ 1 a)], mkS 0 0 [] [])) (fun i => a.length - i) (fun i => i ≤ a.length ∧ a.take i = b.take i) 0 ⟨Qo _, by rw [List.take_zero, List.take_zero]⟩ rfl (by (refine Am.Ap ?_; repeat (first | exact trivial | refine ⟨rfl, ?_⟩))) ?_
 rintro i ⟨hi, hs⟩
 dsimp only at hi hs ⊢
 by_cases h : i < a.length
 ·have h' : i < b.length := by omega
  have hp := A1 B5 h
  have hp' := A1 B5 h'
  focus
   refine Ab <| Es ?_
   iterate 2 refine qm rfl ?_
   refine Lq (ol DO rfl) rfl <| Lq (o2 u_3 rfl rfl) rfl <| Ld ?_
   refine Ec rfl (fun g2 => ?_) (fun g2 => ?_)
   have h2 := dT g2
   refine Ac <| Ab <| Ai <| Av (by kernel_rfl) ?_
   iterate 2 refine Nq (om rfl) rfl ?_
   refine Nq (Af rfl DO AY rfl rfl ‹_›) rfl <| Nq (A3 rfl rfl Bj AY) rfl ?_
   iterate 2 refine Nq (om rfl) rfl ?_
   refine Nq (Af rfl DO AY rfl rfl ‹_›) rfl <| Nq (A3 rfl rfl Bj AY) rfl <| Nq (o2 u_3 rfl rfl) rfl <| Ay ?_
   refine Ec rfl (fun g3 => ?_) (fun g3 => ?_)
   have h3 := nT g3
   refine Es <| qa rfl <| Ld ?_
   refine Aa (Er rfl ?_)
   refine Ad ?_
   rotate_left
   have h3 := nF g3
   refine Ac <| Ao <| qm rfl ?_
   refine Lq (At (b := 1) rfl u_3 rfl rfl (by first | assumption | omega | (simp only [LL]; omega))) rfl ?_
   refine qa rfl <| Ld ?_
   rotate_left
   have h2 := dF g2
   exact absurd h2 (by omega)
  ·rw [E4 (at_ne h h' h3)]
  ·exact ⟨i + 1, ⟨h, take_eq h h' hs h3⟩, by show a.length - (i + 1) < a.length - i; omega, rfl, rfl, by (refine Am.Ap ?_; repeat (first | exact trivial | refine ⟨rfl, ?_⟩))⟩
 ·focus
   refine Ab <| Es ?_
   iterate 2 refine qm rfl ?_
   refine Lq (ol DO rfl) rfl <| Lq (o2 u_3 rfl rfl) rfl <| Ld ?_
   refine Ec rfl (fun g2 => ?_) (fun g2 => ?_)
   have h2 := dT g2
   exact absurd h2 (by omega)
   have h2 := dF g2
   refine A5 <| AX rfl <| Es <| qa rfl <| Ld ?_
   refine Aa (Er rfl ?_)
   refine Ad ?_
   rotate_left
  rw [eqB_t (take_all (by omega) (by rw [show i = a.length by omega] at hs; exact hs))]
abbrev Ints2 := { p : List Int × List Int // p.1.length ≤ 4000 ∧ p.2.length ≤ 4000 }
abbrev Names2 := { p : List NameT × List NameT // p.1.length ≤ 4000 ∧ p.2.length ≤ 4000 }
noncomputable def KL8a := addC KL7 15 (fun p : Ints2=>[recs encZ 1 p.1.1,recs encZ 1 p.1.2]) (fun p=>.bool (eqB p.1.1 p.1.2))
theorem hit_15 {a b : List Int} (ha : a.length ≤ 4000) (hb : b.length ≤ 4000) : KL8a 15 [recs encZ 1 a, recs encZ 1 b] = some (.bool (eqB a b)) :=
 AD (f := 15) (enc := fun p : Ints2 => [recs encZ 1 p.1.1, recs encZ 1 p.1.2]) (res := fun p => .bool (eqB p.1.1 p.1.2)) (by
  rintro ⟨⟨a, b⟩, _⟩ ⟨⟨c, d⟩, _⟩ h
  simp only [List.cons.injEq, and_true] at h
  obtain rfl := AT Fb B5 h.1
  obtain rfl := AT Fb B5 h.2
  rfl) ⟨(a, b), ha, hb⟩
theorem names_to (a b : List NameT) (ha : a.length ≤ 4000) (hb : b.length ≤ 4000) : CallTo (EK KL8a) 98 [recs encN 2 a, recs encN 2 b] S0 (.bool (eqB a b)) := by
 refine Ax (fn := Tryz.f98) rfl rfl (by kernel_rfl) rfl rfl rfl rfl ?_
 focus
  refine Es <| qa rfl <| Ld <| Ab <| Es <| qm rfl <| Lq (ol DF rfl) rfl <| qm rfl ?_
  refine Lq (ol DF rfl) rfl <| Lq (o2 u_3 rfl rfl) rfl <| Ld ?_
  refine Ec rfl (fun g1 => ?_) (fun g1 => ?_)
  have h1 := nT g1
  refine Es <| qa rfl <| Ld ?_
  refine Aa (Er rfl ?_)
  refine Ad ?_
  rotate_left
  have h1 := nF g1
  refine Ac <| Ab <| Es <| qa rfl <| Ld <| Ai ?_
  rotate_left
 ·rw [E4 (len_ne (by omega))]
 refine Aw (fun i : Nat => ([(5, .int .i64 (i : Nat)), (1, recs encN 2 b), (0, recs encN 2 a)], mkS 0 0 [] [])) (fun i => a.length - i) (fun i => i ≤ a.length ∧ a.take i = b.take i) 0 ⟨Qo _, by rw [List.take_zero, List.take_zero]⟩ rfl (by (refine Am.Ap ?_; repeat (first | exact trivial | refine ⟨rfl, ?_⟩))) ?_
 rintro i ⟨hi, hs⟩
 dsimp only at hi hs ⊢
 by_cases h : i < a.length
 ·have h' : i < b.length := by omega
  have hp := A1 AH h
  have hp' := A1 AH h'
  have he := eqN a[i] b[i]
  focus
   refine Ab <| Es ?_
   iterate 2 refine qm rfl ?_
   refine Lq (ol DF rfl) rfl <| Lq (o2 u_3 rfl rfl) rfl <| Ld ?_
   refine Ec rfl (fun g2 => ?_) (fun g2 => ?_)
   have h2 := dT g2
   refine Ac <| Ab <| Ai <| Av (by kernel_rfl) ?_
   iterate 2 refine Nq (om rfl) rfl ?_
   refine Nq (Af rfl DF BI rfl rfl ‹_›) rfl <| Nq (AM rfl rfl ag_54 BI (Qc rfl)) rfl ?_
   iterate 2 refine Nq (om rfl) rfl ?_
   refine Nq (Af rfl DF BI rfl rfl ‹_›) rfl <| Nq (AM rfl rfl ag_54 BI (Qc rfl)) rfl <| Nq (Dn (neg := true) rfl st_54 kd_54 rfl rfl ‹_›) rfl <| Ay ?_
   refine Ec rfl (fun g3 => ?_) (fun g3 => ?_)
   have h3 := nT g3
   refine Es <| qa rfl <| Ld ?_
   refine Aa (Er rfl ?_)
   refine Ad ?_
   rotate_left
   have h3 := nF g3
   refine Ac <| Ao <| qm rfl ?_
   refine Lq (At (b := 1) rfl u_3 rfl rfl (by first | assumption | omega | (simp only [LL]; omega))) rfl ?_
   refine qa rfl <| Ld ?_
   rotate_left
   have h2 := dF g2
   exact absurd h2 (by omega)
  ·rw [E4 (at_ne h h' h3)]
  ·exact ⟨i + 1, ⟨h, take_eq h h' hs h3⟩, by show a.length - (i + 1) < a.length - i; omega, rfl, rfl, by (refine Am.Ap ?_; repeat (first | exact trivial | refine ⟨rfl, ?_⟩))⟩
 ·focus
   refine Ab <| Es ?_
   iterate 2 refine qm rfl ?_
   refine Lq (ol DF rfl) rfl <| Lq (o2 u_3 rfl rfl) rfl <| Ld ?_
   refine Ec rfl (fun g2 => ?_) (fun g2 => ?_)
   have h2 := dT g2
   exact absurd h2 (by omega)
   have h2 := dF g2
   refine A5 <| AX rfl <| Es <| qa rfl <| Ld ?_
   refine Aa (Er rfl ?_)
   refine Ad ?_
   rotate_left
  rw [eqB_t (take_all (by omega) (by rw [show i = a.length by omega] at hs; exact hs))]
noncomputable def KL8 := addC KL8a 98 (fun p : Names2=>[recs encN 2 p.1.1,recs encN 2 p.1.2]) (fun p=>.bool (eqB p.1.1 p.1.2))
theorem hit_98 {a b : List NameT} (ha : a.length ≤ 4000) (hb : b.length ≤ 4000) : KL8 98 [recs encN 2 a, recs encN 2 b] = some (.bool (eqB a b)) :=
 AD (f := 98) (enc := fun p : Names2 => [recs encN 2 p.1.1, recs encN 2 p.1.2]) (res := fun p => .bool (eqB p.1.1 p.1.2)) (by
  rintro ⟨⟨a, b⟩, _⟩ ⟨⟨c, d⟩, _⟩ h
  simp only [List.cons.injEq, and_true] at h
  obtain rfl := AT B6 AH h.1
  obtain rfl := AT B6 AH h.2
  rfl) ⟨(a, b), ha, hb⟩
theorem gall8 (h : KnownF Tryz.prog 10 [] (.bool true)) : KnownGs Tryz.prog gl0 KL8 := by
 have a1 : KnownGs Tryz.prog gl0 KL8a := Db AE BA (gall7 h) (fun p : Ints2 => ints_to p.1.1 p.1.2 p.2.1 p.2.2) (fun _ => rfl) (fun _ => rfl)
 have hn : ∀ p : Names2, CallTo (EK KL8a) 98 [recs encN 2 p.1.1, recs encN 2 p.1.2] S0 (.bool (eqB p.1.1 p.1.2)) := fun p => names_to p.1.1 p.1.2 p.2.1 p.2.2
 exact Db AE BA a1 hn (fun _ => rfl) (fun _ => rfl)
theorem sigs_to (a b : List NameT × List NameT) (h1 : a.1.length ≤ 4000) (h2 : a.2.length ≤ 4000) (h3 : b.1.length ≤ 4000) (h4 : b.2.length ≤ 4000) : CallTo (EK KL8) 56 [.agg [recs encN 2 a.1, recs encN 2 a.2], .agg [recs encN 2 b.1, recs encN 2 b.2]] S0 (.bool (eqB a b)) := by
 refine Ax (fn := Tryz.f56) rfl rfl (by kernel_rfl) rfl rfl rfl rfl ?_
 focus
  refine Es <| Lo (Az 1 rfl rfl rfl rfl) rfl <| Lo (Az 2 rfl rfl rfl rfl) rfl <| qa rfl <| Ld <| Es <| Lq (of BU rfl) rfl <| Lo (l1 Bp Bo rfl) rfl ?_
  refine Lq (of BU rfl) rfl <| Lo (l1 Bp Bo rfl) rfl ?_
  refine Lo (Ag rfl rfl (by kernel_rfl) rfl (Ae (hit_98 (by first | assumption | omega | (simp only [LL]; omega)) (by first | assumption | omega | (simp only [LL]; omega))))) rfl ?_
  refine qm rfl ?_
  refine Lb rfl (fun g1 => ?_) (fun g1 => ?_)
  refine Lh rfl ‹_› (of BT rfl) <| Lg rfl ‹_› (l1 Bp Bo rfl) <| Lh rfl ‹_› (of BT rfl) <| Lg rfl ‹_› (l1 Bp Bo rfl) ?_
  refine Lg rfl ‹_› (Ag rfl rfl (by kernel_rfl) rfl (Ae (hit_98 (by first | assumption | omega | (simp only [LL]; omega)) (by first | assumption | omega | (simp only [LL]; omega))))) ?_
  refine Lq (oT rfl ‹_› rfl) rfl <| qa rfl <| Ld ?_
  refine Aa (Er rfl ?_)
  refine Ad ?_
  rotate_left
  iterate 5 refine Lk rfl ‹_› ?_
  refine Lq (oF rfl ‹_› rfl) rfl <| qa rfl <| Ld ?_
  refine Aa (Er rfl ?_)
  refine Ad ?_
  rotate_left
 ·by_cases h : a.2 = b.2
  ·rw [eqB_t h, eqB_t (Prod.ext (eqB_of g1) h)]
  ·rw [E4 h, E4 fun e => h (by rw [e])]
 ·rw [E4 fun e => eqB_no g1 (by rw [e])]
abbrev SigsA := { p : (List NameT × List NameT) × (List NameT × List NameT) // p.1.1.length ≤ 4000 ∧ p.1.2.length ≤ 4000 ∧ p.2.1.length ≤ 4000 ∧ p.2.2.length ≤ 4000 }
noncomputable def KL9 := addC KL8 56 (fun p : SigsA=>[.agg [recs encN 2 p.1.1.1,recs encN 2 p.1.1.2],.agg [recs encN 2 p.1.2.1,recs encN 2 p.1.2.2]]) (fun p=>.bool (eqB p.1.1 p.1.2))
theorem hit_56 {a b c d : List NameT} (h1 : a.length ≤ 4000) (h2 : b.length ≤ 4000) (h3 : c.length ≤ 4000) (h4 : d.length ≤ 4000) : KL9 56 [.agg [recs encN 2 a, recs encN 2 b], .agg [recs encN 2 c, recs encN 2 d]] = some (.bool (eqB (a, b) (c, d))) :=
 AD (f := 56) (enc := fun p : SigsA => [.agg [recs encN 2 p.1.1.1, recs encN 2 p.1.1.2], .agg [recs encN 2 p.1.2.1, recs encN 2 p.1.2.2]]) (res := fun p => .bool (eqB p.1.1 p.1.2)) (by
  rintro ⟨⟨⟨a, b⟩, ⟨c, d⟩⟩, _⟩ ⟨⟨⟨a', b'⟩, ⟨c', d'⟩⟩, _⟩ h
  simp only [List.cons.injEq, and_true, AV.agg.injEq] at h
  obtain rfl := AT B6 AH h.1.1
  obtain rfl := AT B6 AH h.1.2
  obtain rfl := AT B6 AH h.2.1
  obtain rfl := AT B6 AH h.2.2
  rfl) ⟨((a, b), (c, d)), h1, h2, h3, h4⟩
theorem gall9 (h : KnownF Tryz.prog 10 [] (.bool true)) : KnownGs Tryz.prog gl0 KL9 :=
 Db AE BA (gall8 h) (fun p : SigsA => sigs_to p.1.1 p.1.2 p.2.1 p.2.2.1 p.2.2.2.1 p.2.2.2.2) (fun _ => rfl) (fun _ => rfl)
theorem eqA (a b : AltT) : boolV true (eqKd (.flat [.int .i64, .int .i64]) (.agg (encA a)) (.agg (encA b))) = some (.bool (!(decide (a = b)))) := by
 obtain ⟨a1, a2⟩ := a
 obtain ⟨b1, b2⟩ := b
 show boolV true ((some (decide (a1 = b1))).bind fun r => bif r then (some (decide (a2 = b2))).bind (fun r => bif r then some true else some false) else some false) = _
 by_cases h1 : a1 = b1
 ·subst h1
  by_cases h2 : a2 = b2
  ·subst h2; simp [boolV]
  ·simp [boolV, h2]
 ·simp [boolV, h1]
theorem sameIns_to (x y : InsT) (w1 : x.alts.length ≤ 4000) (w2 : x.to.length ≤ 4000) (w3 : x.args.length ≤ 4000) (k1 : y.alts.length ≤ 4000) (k2 : y.to.length ≤ 4000) (k3 : y.args.length ≤ 4000) : CallTo (EK KL9) 57 [.agg (encI x), .agg (encI y)] S0 (.bool (eqB x y)) := by
 refine Ax (fn := Tryz.f57) rfl rfl (by kernel_rfl) rfl rfl rfl rfl ?_
 focus
  refine Es <| Lo (Az 1 rfl rfl rfl rfl) rfl <| Lo (Az 2 rfl rfl rfl rfl) rfl <| qa rfl <| Ld <| Ab <| Es <| Lq (of f_58_0 rfl) rfl ?_
  refine Lo (l1 ag_55 sz_55 rfl) rfl <| Lq (of f_58_0 rfl) rfl <| Lo (l1 ag_55 sz_55 rfl) rfl <| Lq (o2 u_55 rfl rfl) rfl <| qm rfl ?_
  refine Lb rfl (fun g1 => ?_) (fun g1 => ?_)
  have h1 := nT g1
  iterate 5 refine Lk rfl ‹_› ?_
  refine Lq (oT rfl ‹_› rfl) rfl <| qm rfl ?_
  iterate 5 refine Lk rfl rfl ?_
  refine Lq (oT rfl rfl rfl) rfl <| qm rfl ?_
  iterate 5 refine Lk rfl rfl ?_
  refine Lq (oT rfl rfl rfl) rfl <| qm rfl ?_
  iterate 7 refine Lk rfl rfl ?_
  refine Lq (oT rfl rfl rfl) rfl <| Ld <| Ah rfl rfl <| Es <| qa rfl <| Ld ?_
  refine Aa (Er rfl ?_)
  refine Ad ?_
  rotate_left
  have h1 := nF g1
  refine Lh rfl ‹_› (of f_58_1 rfl) <| Lg rfl ‹_› (l1 Bj AY rfl) <| Lh rfl ‹_› (of f_58_1 rfl) <| Lg rfl ‹_› (l1 Bj AY rfl) <| Lh rfl ‹_› (o2 u_3 rfl rfl) <| Lq (oF rfl ‹_› rfl) rfl <| qm rfl ?_
  refine Lb rfl (fun g2 => ?_) (fun g2 => ?_)
  have h2 := nT g2
  iterate 5 refine Lk rfl ‹_› ?_
  refine Lq (oT rfl ‹_› rfl) rfl <| qm rfl ?_
  iterate 5 refine Lk rfl rfl ?_
  refine Lq (oT rfl rfl rfl) rfl <| qm rfl ?_
  iterate 7 refine Lk rfl rfl ?_
  refine Lq (oT rfl rfl rfl) rfl <| Ld <| Ah rfl rfl <| Es <| qa rfl <| Ld ?_
  refine Aa (Er rfl ?_)
  refine Ad ?_
  rotate_left
  have h2 := nF g2
  refine Lh rfl ‹_› (of f_58_4 rfl) <| Lg rfl ‹_› (l1 ag_37 sz_37 rfl) <| Lh rfl ‹_› (of f_58_4 rfl) <| Lg rfl ‹_› (l1 ag_37 sz_37 rfl) <| Lh rfl ‹_› (o2 u_37 rfl rfl) <| Lq (oF rfl ‹_› rfl) rfl <| qm rfl ?_
  refine Lb rfl (fun g3 => ?_) (fun g3 => ?_)
  have h3 := nT g3
  iterate 5 refine Lk rfl ‹_› ?_
  refine Lq (oT rfl ‹_› rfl) rfl <| qm rfl ?_
  iterate 7 refine Lk rfl rfl ?_
  refine Lq (oT rfl rfl rfl) rfl <| Ld <| Ah rfl rfl <| Es <| qa rfl <| Ld ?_
  refine Aa (Er rfl ?_)
  refine Ad ?_
  rotate_left
  have h3 := nF g3
  refine Lh rfl ‹_› (of BS rfl) <| Lg rfl ‹_› (l1 Bj AY rfl) <| Lh rfl ‹_› (of BS rfl) <| Lg rfl ‹_› (l1 Bj AY rfl) <| Lh rfl ‹_› (o2 u_3 rfl rfl) <| Lq (oF rfl ‹_› rfl) rfl <| qm rfl ?_
  refine Lb rfl (fun g4 => ?_) (fun g4 => ?_)
  have h4 := nT g4
  iterate 7 refine Lk rfl ‹_› ?_
  refine Lq (oT rfl ‹_› rfl) rfl <| Ld <| Ah rfl rfl <| Es <| qa rfl <| Ld ?_
  refine Aa (Er rfl ?_)
  refine Ad ?_
  rotate_left
  have h4 := nF g4
  refine Lh rfl ‹_› (of DG rfl) <| Lg rfl ‹_› (l1 Fh EO rfl) <| Lh rfl ‹_› (ol u_56 rfl) <| Lh rfl ‹_› (of DG rfl) <| Lg rfl ‹_› (l1 Fh EO rfl) <| Lh rfl ‹_› (ol u_56 rfl) <| Lh rfl ‹_› (o2 u_3 rfl rfl) <| Lq (oF rfl ‹_› rfl) rfl ?_
  refine Ld ?_
  refine Ec rfl (fun g5 => ?_) (fun g5 => ?_)
  have h5 := nT g5
  refine Es <| qa rfl <| Ld ?_
  refine Aa (Er rfl ?_)
  refine Ad ?_
  rotate_left
  have h5 := nF g5
  refine Ac <| Ab <| Es <| qa rfl <| Ld <| Ai ?_
  rotate_left
 ·rw [E4 fun e => h1 (by rw [e])]
 ·rw [E4 fun e => h2 (by rw [e])]
 ·rw [E4 fun e => h3 (by rw [e])]
 ·rw [E4 fun e => h4 (by rw [e])]
 ·rw [E4 fun e => h5 (by rw [e])]
 have hl : x.alts.length = y.alts.length := by omega
 refine Aw (fun i : Nat => ([(5, .int .i64 (i : Nat)), (3, .ptr 1 0), (2, .ptr 0 0)], mkS 2 0 [] [(1, some (.cells (encI y) 58 false)), (0, some (.cells (encI x) 58 false))])) (fun i => x.alts.length - i) (fun i => i ≤ x.alts.length ∧ x.alts.take i = y.alts.take i) 0 ⟨Qo _, by rw [List.take_zero, List.take_zero]⟩ rfl (by (refine Am.Ap ?_; repeat (first | exact trivial | refine ⟨rfl, ?_⟩))) ?_
 rintro i ⟨hi, hs⟩
 dsimp only at hi hs ⊢
 by_cases h : i < x.alts.length
 ·have h' : i < y.alts.length := by omega
  have hp := A1 Et h
  have hp' := A1 Et h'
  have he := eqA x.alts[i] y.alts[i]
  focus
   refine Ab <| Es <| qm rfl <| Lq (of DG rfl) rfl <| Lo (l1 Fh EO rfl) rfl <| Lq (ol u_56 rfl) rfl <| Lq (o2 u_3 rfl rfl) rfl <| Ld ?_
   refine Ec rfl (fun g6 => ?_) (fun g6 => ?_)
   have h6 := dT g6
   refine Ac <| Ab <| Ai <| Av (by kernel_rfl) <| Nq (of DG rfl) rfl <| AP rfl Fh EO rfl rfl rfl (by kernel_rfl) (.inl rfl) rfl rfl <| Nq (om rfl) rfl <| Nq (Af rfl u_56 sz_60 rfl rfl ‹_›) rfl ?_
   refine Nq (AM rfl rfl ag_60 sz_60 (Qc rfl)) rfl <| Nq (of DG rfl) rfl <| AP rfl Fh EO rfl rfl rfl (by kernel_rfl) (.inl rfl) rfl rfl <| Nq (om rfl) rfl <| Nq (Af rfl u_56 sz_60 rfl rfl ‹_›) rfl <| Nq (AM rfl rfl ag_60 sz_60 (Qc rfl)) rfl <| Nq (Dn (neg := true) rfl st_60 kd_60 rfl rfl ‹_›) rfl <| Ay ?_
   refine Ec rfl (fun g7 => ?_) (fun g7 => ?_)
   have h7 := nT g7
   refine Es <| qa rfl <| Ld ?_
   refine Aa (Er rfl ?_)
   refine Ad ?_
   rotate_left
   have h7 := nF g7
   refine Ac <| Ao <| qm rfl ?_
   refine Lq (At (b := 1) rfl u_3 rfl rfl (by first | assumption | omega | (simp only [LL]; omega))) rfl ?_
   refine qa rfl <| Ld ?_
   rotate_left
   have h6 := dF g6
   exact absurd h6 (by omega)
  ·rw [E4 fun e => at_ne h h' h7 (by rw [e])]
  ·exact ⟨i + 1, ⟨h, take_eq h h' hs h7⟩, by show x.alts.length - (i + 1) < x.alts.length - i; omega, rfl, rfl, by (refine Am.Ap ?_; repeat (first | exact trivial | refine ⟨rfl, ?_⟩))⟩
 ·have e3 : x.alts = y.alts := take_all hl (by rw [show i = x.alts.length by omega] at hs; exact hs)
  focus
   refine Ab <| Es <| qm rfl <| Lq (of DG rfl) rfl <| Lo (l1 Fh EO rfl) rfl <| Lq (ol u_56 rfl) rfl <| Lq (o2 u_3 rfl rfl) rfl <| Ld ?_
   refine Ec rfl (fun g6 => ?_) (fun g6 => ?_)
   have h6 := dT g6
   exact absurd h6 (by omega)
   have h6 := dF g6
   refine A5 <| AX rfl <| Es <| Lq (of f_58_3 rfl) rfl <| Lo (l1 BK BJ rfl) rfl <| Lq (of f_58_3 rfl) rfl <| Lo (l1 BK BJ rfl) rfl ?_
   refine Lo (Ag rfl rfl (by kernel_rfl) rfl (Ae (hit_15 (by first | assumption | omega | (simp only [LL]; omega)) (by first | assumption | omega | (simp only [LL]; omega))))) rfl ?_
   refine qm rfl ?_
   refine Lb rfl (fun g7 => ?_) (fun g7 => ?_)
   refine Lh rfl ‹_› (of f_58_6 rfl) <| Lg rfl ‹_› (l1 BK BJ rfl) <| Lh rfl ‹_› (of f_58_6 rfl) <| Lg rfl ‹_› (l1 BK BJ rfl) ?_
   refine Lg rfl ‹_› (Ag rfl rfl (by kernel_rfl) rfl (Ae (hit_15 (by first | assumption | omega | (simp only [LL]; omega)) (by first | assumption | omega | (simp only [LL]; omega))))) ?_
   refine Lq (oT rfl ‹_› rfl) rfl <| qa rfl <| Ld ?_
   refine Aa (Er rfl ?_)
   refine Ad ?_
   rotate_left
   iterate 5 refine Lk rfl ‹_› ?_
   refine Lq (oF rfl ‹_› rfl) rfl <| qa rfl <| Ld ?_
   refine Aa (Er rfl ?_)
   refine Ad ?_
   rotate_left
  ·by_cases h : x.args = y.args
   ·rw [eqB_t h, eqB_t]
    have e4 := eqB_of g7
    obtain ⟨o, a, al, to, te, n, ar⟩ := x
    obtain ⟨o', a', al', to', te', n', ar'⟩ := y
    dsimp only at h1 h2 h3 h4 e3 e4 h
    rw [h1, h2, h3, h4, e3, e4, h]
   ·rw [E4 h, E4 fun e => h (by rw [e])]
  ·rw [E4 fun e => eqB_no g7 (by rw [e])]
structure InsL (x : InsT) : Prop where
 alts : x.alts.length ≤ 4000
 to : x.to.length ≤ 4000
 args : x.args.length ≤ 4000
abbrev Ins2 := { p : InsT × InsT // InsL p.1 ∧ InsL p.2 }
noncomputable def KL10 := addC KL9 57 (fun p : Ins2=>[.agg (encI p.1.1),.agg (encI p.1.2)]) (fun p=>.bool (eqB p.1.1 p.1.2))
theorem hit_57 {x y : InsT} (h1 : InsL x) (h2 : InsL y) : KL10 57 [.agg (encI x), .agg (encI y)] = some (.bool (eqB x y)) :=
 AD (f := 57) (enc := fun p : Ins2 => [.agg (encI p.1.1), .agg (encI p.1.2)]) (res := fun p => .bool (eqB p.1.1 p.1.2)) (by
  rintro ⟨⟨a, b⟩, _⟩ ⟨⟨c, d⟩, _⟩ h
  simp only [List.cons.injEq, and_true, AV.agg.injEq] at h
  obtain rfl := encI_inj _ _ h.1
  obtain rfl := encI_inj _ _ h.2
  rfl) ⟨(x, y), h1, h2⟩
theorem gall10 (h : KnownF Tryz.prog 10 [] (.bool true)) : KnownGs Tryz.prog gl0 KL10 :=
 Db AE BA (gall9 h) (fun p : Ins2 => sameIns_to p.1.1 p.1.2 p.2.1.alts p.2.1.to p.2.1.args p.2.2.alts p.2.2.to p.2.2.args) (fun _ => rfl) (fun _ => rfl)
theorem same_to (a b : CodeT) (ha : Fits a) (hb : Fits b) : CallTo (EK KL10) 22 [.agg (encC a), .agg (encC b)] S0 (.bool (eqB a b)) := by
 refine Ax (fn := Tryz.f22) rfl rfl (by kernel_rfl) rfl rfl rfl rfl ?_
 have w1 := ha.cons
 have w2 := ha.funs
 have w3 := ha.ins
 have w4 := ha.starts
 have k1 := hb.cons
 have k2 := hb.funs
 have k3 := hb.ins
 have k4 := hb.starts
 focus
  refine Es <| Lo (Az 1 rfl rfl rfl rfl) rfl <| Lo (Az 2 rfl rfl rfl rfl) rfl <| qa rfl <| Ld <| Ab <| Es <| Lq (of Ep rfl) rfl ?_
  refine Lo (A7 rfl ag_24 sz_24 rfl rfl (Qc rfl)) rfl <| Lq (of Ep rfl) rfl <| Lo (A7 rfl ag_24 sz_24 rfl rfl (Qc rfl)) rfl ?_
  refine Lo (Ag rfl rfl (by kernel_rfl) rfl (Ae (hit_56 (by first | assumption | omega | (simp only [LL]; omega)) (by first | assumption | omega | (simp only [LL]; omega)) (by first | assumption | omega | (simp only [LL]; omega)) (by first | assumption | omega | (simp only [LL]; omega))))) rfl ?_
  refine Lq (on rfl) rfl <| qm rfl ?_
  refine Lb rfl (fun g1 => ?_) (fun g1 => ?_)
  have h1 := DK g1
  iterate 6 refine Lk rfl ‹_› ?_
  refine Lq (oT rfl ‹_› rfl) rfl <| qm rfl ?_
  iterate 7 refine Lk rfl rfl ?_
  refine Lq (oT rfl rfl rfl) rfl <| Ld <| Ah rfl rfl <| Es <| qa rfl <| Ld ?_
  refine Aa (Er rfl ?_)
  refine Ad ?_
  rotate_left
  have h1 := DL g1
  refine Lh rfl ‹_› (of f_28_2 rfl) <| Lg rfl ‹_› (l1 BK BJ rfl) <| Lh rfl ‹_› (of f_28_2 rfl) <| Lg rfl ‹_› (l1 BK BJ rfl) ?_
  refine Lg rfl ‹_› (Ag rfl rfl (by kernel_rfl) rfl (Ae (hit_15 (by first | assumption | omega | (simp only [LL]; omega)) (by first | assumption | omega | (simp only [LL]; omega))))) ?_
  refine Lh rfl ‹_› (on rfl) <| Lq (oF rfl ‹_› rfl) rfl <| qm rfl ?_
  refine Lb rfl (fun g2 => ?_) (fun g2 => ?_)
  have h2 := DK g2
  iterate 7 refine Lk rfl ‹_› ?_
  refine Lq (oT rfl ‹_› rfl) rfl <| Ld <| Ah rfl rfl <| Es <| qa rfl <| Ld ?_
  refine Aa (Er rfl ?_)
  refine Ad ?_
  rotate_left
  have h2 := DL g2
  refine Lh rfl ‹_› (of Bd rfl) <| Lg rfl ‹_› (l1 BW BV rfl) <| Lh rfl ‹_› (ol u_25 rfl) <| Lh rfl ‹_› (of Bd rfl) <| Lg rfl ‹_› (l1 BW BV rfl) <| Lh rfl ‹_› (ol u_25 rfl) <| Lh rfl ‹_› (o2 u_3 rfl rfl) <| Lq (oF rfl ‹_› rfl) rfl ?_
  refine Ld ?_
  refine Ec rfl (fun g3 => ?_) (fun g3 => ?_)
  have h3 := nT g3
  refine Es <| qa rfl <| Ld ?_
  refine Aa (Er rfl ?_)
  refine Ad ?_
  rotate_left
  have h3 := nF g3
  refine Ac <| Ab <| Es <| qa rfl <| Ld <| Ai ?_
  rotate_left
 ·rw [E4 fun e => eqB_no h1 (by rw [e])]
 ·rw [E4 fun e => eqB_no h2 (by rw [e])]
 ·rw [E4 fun e => h3 (by rw [e])]
 have hl : a.ins.length = b.ins.length := by omega
 refine Aw (fun i : Nat => ([(5, .int .i64 (i : Nat)), (3, .ptr 1 0), (2, .ptr 0 0)], mkS 2 0 [] [(1, some (.cells (encC b) 28 false)), (0, some (.cells (encC a) 28 false))])) (fun i => a.ins.length - i) (fun i => i ≤ a.ins.length ∧ a.ins.take i = b.ins.take i) 0 ⟨Qo _, by rw [List.take_zero, List.take_zero]⟩ rfl (by (refine Am.Ap ?_; repeat (first | exact trivial | refine ⟨rfl, ?_⟩))) ?_
 rintro i ⟨hi, hs⟩
 dsimp only at hi hs ⊢
 by_cases h : i < a.ins.length
 ·have h' : i < b.ins.length := by omega
  have hp := A1 B7 h
  have hp' := A1 B7 h'
  have q1 : InsL a.ins[i] := ⟨ha.alts _ (Ql _), ha.to _ (Ql _), ha.args _ (Ql _)⟩
  have q2 : InsL b.ins[i] := ⟨hb.alts _ (Ql _), hb.to _ (Ql _), hb.args _ (Ql _)⟩
  focus
   refine Ab <| Es <| qm rfl <| Lq (of Bd rfl) rfl <| Lo (l1 BW BV rfl) rfl <| Lq (ol u_25 rfl) rfl <| Lq (o2 u_3 rfl rfl) rfl <| Ld ?_
   refine Ec rfl (fun g4 => ?_) (fun g4 => ?_)
   have h4 := dT g4
   refine Ac <| Ab <| Ai <| Av (by kernel_rfl) <| Nq (of Bd rfl) rfl <| AP rfl BW BV rfl rfl rfl (by kernel_rfl) (.inl rfl) rfl rfl <| Nq (om rfl) rfl <| Nq (Af rfl u_25 BX rfl rfl ‹_›) rfl ?_
   refine Nq (AM rfl rfl ag_58 BX (Qc rfl)) rfl <| Nq (of Bd rfl) rfl <| AP rfl BW BV rfl rfl rfl (by kernel_rfl) (.inl rfl) rfl rfl <| Nq (om rfl) rfl <| Nq (Af rfl u_25 BX rfl rfl ‹_›) rfl <| Nq (AM rfl rfl ag_58 BX (Qc rfl)) rfl ?_
   refine E6 (BC rfl rfl (by kernel_rfl) rfl (hit_57 (by first | assumption | omega | (simp only [LL]; omega)) (by first | assumption | omega | (simp only [LL]; omega)))) (.inl rfl) rfl rfl ?_
   refine Nq (on rfl) rfl <| Ay ?_
   refine Ec rfl (fun g5 => ?_) (fun g5 => ?_)
   have h5 := DK g5
   refine Es <| qa rfl <| Ld ?_
   refine Aa (Er rfl ?_)
   refine Ad ?_
   rotate_left
   have h5 := DL g5
   refine Ac <| Ao <| qm rfl ?_
   refine Lq (At (b := 1) rfl u_3 rfl rfl (by first | assumption | omega | (simp only [LL]; omega))) rfl ?_
   refine qa rfl <| Ld ?_
   rotate_left
   have h4 := dF g4
   exact absurd h4 (by omega)
  ·rw [E4 fun e => at_ne h h' (eqB_no h5) (by rw [e])]
  ·exact ⟨i + 1, ⟨h, take_eq h h' hs (eqB_of h5)⟩, by show a.ins.length - (i + 1) < a.ins.length - i; omega, rfl, rfl, by (refine Am.Ap ?_; repeat (first | exact trivial | refine ⟨rfl, ?_⟩))⟩
 ·have e3 : a.ins = b.ins := take_all hl (by rw [show i = a.ins.length by omega] at hs; exact hs)
  focus
   refine Ab <| Es <| qm rfl <| Lq (of Bd rfl) rfl <| Lo (l1 BW BV rfl) rfl <| Lq (ol u_25 rfl) rfl <| Lq (o2 u_3 rfl rfl) rfl <| Ld ?_
   refine Ec rfl (fun g4 => ?_) (fun g4 => ?_)
   have h4 := dT g4
   exact absurd h4 (by omega)
   have h4 := dF g4
   refine A5 <| AX rfl <| Es <| qa rfl <| Ld ?_
   refine Aa (Er rfl ?_)
   refine Ad ?_
   rotate_left
  rw [eqB_t]
  have e1 := eqB_of h1
  have e2 := eqB_of h2
  obtain ⟨c, f, i, s⟩ := a
  obtain ⟨c', f', i', s'⟩ := b
  dsimp only at e1 e2 e3
  rw [(Prod.mk.inj e1).1, (Prod.mk.inj e1).2, e2, e3]
abbrev Fit2 := { p : CodeT × CodeT // Fits p.1 ∧ Fits p.2 }
noncomputable def KL11 := addC KL10 22 (fun p : Fit2=>[.agg (encC p.1.1),.agg (encC p.1.2)]) (fun p=>.bool (eqB p.1.1 p.1.2))
theorem hit_22 {x y : CodeT} (h1 : Fits x) (h2 : Fits y) : KL11 22 [.agg (encC x), .agg (encC y)] = some (.bool (eqB x y)) :=
 AD (f := 22) (enc := fun p : Fit2 => [.agg (encC p.1.1), .agg (encC p.1.2)]) (res := fun p => .bool (eqB p.1.1 p.1.2)) (by
  rintro ⟨⟨a, b⟩, _⟩ ⟨⟨c, d⟩, _⟩ h
  simp only [List.cons.injEq, and_true] at h
  obtain rfl := encC_inj h.1
  obtain rfl := encC_inj h.2
  rfl) ⟨(x, y), h1, h2⟩
theorem gall11 (h : KnownF Tryz.prog 10 [] (.bool true)) : KnownGs Tryz.prog gl0 KL11 :=
 Db AE BA (gall10 h) (fun p : Fit2 => same_to p.1.1 p.1.2 p.2.1 p.2.2) (fun _ => rfl) (fun _ => rfl)
theorem fits_of {c : CodeT} (h : smallCodeV c = true) : Fits c := by
 unfold smallCodeV at h
 rw [Qf, Qf] at h
 obtain ⟨⟨h1, h2⟩, h3⟩ := h
 rw [Bool.not_eq_true', Bool.or_eq_false_iff, decide_eq_false_iff_not, decide_eq_false_iff_not] at h2
 unfold smallSigV at h1
 rw [Qf, Qf, Bool.not_eq_true', Bool.or_eq_false_iff, decide_eq_false_iff_not, decide_eq_false_iff_not] at h1
 obtain ⟨⟨h4, h5⟩, h6, h7⟩ := h1
 have hins : ∀ x ∈ c.ins, x.alts.length ≤ 4000 ∧ x.to.length ≤ 4000 ∧ x.args.length ≤ 4000 := fun x hx => by
  obtain ⟨i, hi, rfl⟩ := List.mem_iff_getElem.1 hx
  have := ra_at h3 hi
  rw [iAt_eq hi] at this
  unfold smallI at this
  rw [Bool.not_eq_true', Bool.or_eq_false_iff, Bool.or_eq_false_iff, decide_eq_false_iff_not, decide_eq_false_iff_not, decide_eq_false_iff_not] at this
  omega
 have hnm : ∀ l : List NameT, shortV l l.length = true → ∀ p ∈ l, p.1.length ≤ 4000 := fun l hs p hp => by
  unfold shortV at hs
  rw [List.take_length] at hs
  have := dT (List.all_eq_true.1 hs p hp)
  omega
 exact ⟨by omega, by omega, by omega, by omega, fun x hx => (hins x hx).1, fun x hx => (hins x hx).2.1, fun x hx => (hins x hx).2.2, hnm _ h6, hnm _ h7⟩
theorem hit_10 : K0 10 [] = some (.bool true) := rfl
theorem texts_to (a b : CodeT) : CallTo (EK KL11) 8 [.agg (encC a), .agg (encC b)] S0 (.bool true) := by
 refine Ax (fn := Tryz.f8) rfl rfl (by kernel_rfl) rfl rfl rfl rfl ?_
 cases hsa : smallCodeV a with
 | false =>
  focus
   refine Es <| Lo (Az 1 rfl rfl rfl rfl) rfl <| Lo (Az 2 rfl rfl rfl rfl) rfl <| qa rfl <| Ld <| Ab <| Es <| Lo (A7 rfl E5 E1 rfl rfl (Qc rfl)) rfl ?_
   refine Lo (Ag rfl rfl (by kernel_rfl) rfl (Ae (hit_9))) rfl <| Lq (on rfl) rfl <| qm rfl ?_
   refine Lb rfl (fun g1 => ?_) (fun g1 => ?_)
   have h1 := DK g1
   iterate 3 refine Lk rfl ‹_› ?_
   refine Lq (oT rfl ‹_› rfl) rfl <| qm rfl ?_
   iterate 3 refine Lk rfl rfl ?_
   refine Lq (oT rfl rfl rfl) rfl <| qm rfl ?_
   iterate 3 refine Lk rfl rfl ?_
   refine Lq (oT rfl rfl rfl) rfl <| Ld <| Ah rfl rfl <| Es ?_
   refine Lo (Ag rfl rfl (by kernel_rfl) rfl (Ae (hit_10))) rfl <| qa rfl <| Ld ?_
   refine Aa (Er rfl ?_)
   exact Ad rfl
   have h1 := DL g1
   refine Lg rfl ‹_› (A7 rfl E5 E1 rfl rfl (Qc rfl)) ?_
   refine Lg rfl ‹_› (Ag rfl rfl (by kernel_rfl) rfl (Ae (hit_9))) <| Lh rfl ‹_› (on rfl) <| Lq (oF rfl ‹_› rfl) rfl <| qm rfl ?_
   refine Lb rfl (fun g2 => ?_) (fun g2 => ?_)
   have h2 := DK g2
   iterate 3 refine Lk rfl ‹_› ?_
   refine Lq (oT rfl ‹_› rfl) rfl <| qm rfl ?_
   iterate 3 refine Lk rfl rfl ?_
   refine Lq (oT rfl rfl rfl) rfl <| Ld <| Ah rfl rfl <| Es ?_
   refine Lo (Ag rfl rfl (by kernel_rfl) rfl (Ae (hit_10))) rfl <| qa rfl <| Ld ?_
   refine Aa (Er rfl ?_)
   exact Ad rfl
   have h2 := DL g2
   refine Lg rfl ‹_› (A7 rfl E5 E1 rfl rfl (Qc rfl)) <| Fj rfl rfl rfl rfl ‹_› ?_
   rotate_left
  exact absurd h1 (by rw [hsa]; decide)
 | true =>
  have ha := fits_of hsa
  cases hsb : smallCodeV b with
  | false =>
   focus
    refine Es <| Lo (Az 1 rfl rfl rfl rfl) rfl <| Lo (Az 2 rfl rfl rfl rfl) rfl <| qa rfl <| Ld <| Ab <| Es <| Lo (A7 rfl E5 E1 rfl rfl (Qc rfl)) rfl ?_
    refine Lo (Ag rfl rfl (by kernel_rfl) rfl (Ae (hit_9))) rfl <| Lq (on rfl) rfl <| qm rfl ?_
    refine Lb rfl (fun g1 => ?_) (fun g1 => ?_)
    have h1 := DK g1
    iterate 3 refine Lk rfl ‹_› ?_
    refine Lq (oT rfl ‹_› rfl) rfl <| qm rfl ?_
    iterate 3 refine Lk rfl rfl ?_
    refine Lq (oT rfl rfl rfl) rfl <| qm rfl ?_
    iterate 3 refine Lk rfl rfl ?_
    refine Lq (oT rfl rfl rfl) rfl <| Ld <| Ah rfl rfl <| Es ?_
    refine Lo (Ag rfl rfl (by kernel_rfl) rfl (Ae (hit_10))) rfl <| qa rfl <| Ld ?_
    refine Aa (Er rfl ?_)
    exact Ad rfl
    have h1 := DL g1
    refine Lg rfl ‹_› (A7 rfl E5 E1 rfl rfl (Qc rfl)) ?_
    refine Lg rfl ‹_› (Ag rfl rfl (by kernel_rfl) rfl (Ae (hit_9))) <| Lh rfl ‹_› (on rfl) <| Lq (oF rfl ‹_› rfl) rfl <| qm rfl ?_
    refine Lb rfl (fun g2 => ?_) (fun g2 => ?_)
    have h2 := DK g2
    iterate 3 refine Lk rfl ‹_› ?_
    refine Lq (oT rfl ‹_› rfl) rfl <| qm rfl ?_
    iterate 3 refine Lk rfl rfl ?_
    refine Lq (oT rfl rfl rfl) rfl <| Ld <| Ah rfl rfl <| Es ?_
    refine Lo (Ag rfl rfl (by kernel_rfl) rfl (Ae (hit_10))) rfl <| qa rfl <| Ld ?_
    refine Aa (Er rfl ?_)
    exact Ad rfl
    have h2 := DL g2
    refine Lg rfl ‹_› (A7 rfl E5 E1 rfl rfl (Qc rfl)) ?_
    refine Lg rfl ‹_› (Ag rfl rfl (by kernel_rfl) rfl (Ae (hit_24 (by first | assumption | omega | (simp only [LL]; omega))))) ?_
    refine Lh rfl ‹_› (on rfl) <| Lq (oF rfl ‹_› rfl) rfl <| qm rfl ?_
    refine Lb rfl (fun g3 => ?_) (fun g3 => ?_)
    have h3 := DK g3
    iterate 3 refine Lk rfl ‹_› ?_
    refine Lq (oT rfl ‹_› rfl) rfl <| Ld <| Ah rfl rfl <| Es ?_
    refine Lo (Ag rfl rfl (by kernel_rfl) rfl (Ae (hit_10))) rfl <| qa rfl <| Ld ?_
    refine Aa (Er rfl ?_)
    exact Ad rfl
    have h3 := DL g3
    refine Lg rfl ‹_› (A7 rfl E5 E1 rfl rfl (Qc rfl)) <| Fj rfl rfl rfl rfl ‹_› ?_
    rotate_left
   exact absurd h2 (by rw [hsb]; decide)
  | true =>
   have hb := fits_of hsb
   focus
    refine Es <| Lo (Az 1 rfl rfl rfl rfl) rfl <| Lo (Az 2 rfl rfl rfl rfl) rfl <| qa rfl <| Ld <| Ab <| Es <| Lo (A7 rfl E5 E1 rfl rfl (Qc rfl)) rfl ?_
    refine Lo (Ag rfl rfl (by kernel_rfl) rfl (Ae (hit_9))) rfl <| Lq (on rfl) rfl <| qm rfl ?_
    refine Lb rfl (fun g1 => ?_) (fun g1 => ?_)
    have h1 := DK g1
    iterate 3 refine Lk rfl ‹_› ?_
    refine Lq (oT rfl ‹_› rfl) rfl <| qm rfl ?_
    iterate 3 refine Lk rfl rfl ?_
    refine Lq (oT rfl rfl rfl) rfl <| qm rfl ?_
    iterate 3 refine Lk rfl rfl ?_
    refine Lq (oT rfl rfl rfl) rfl <| Ld <| Ah rfl rfl <| Es ?_
    refine Lo (Ag rfl rfl (by kernel_rfl) rfl (Ae (hit_10))) rfl <| qa rfl <| Ld ?_
    refine Aa (Er rfl ?_)
    exact Ad rfl
    have h1 := DL g1
    refine Lg rfl ‹_› (A7 rfl E5 E1 rfl rfl (Qc rfl)) ?_
    refine Lg rfl ‹_› (Ag rfl rfl (by kernel_rfl) rfl (Ae (hit_9))) <| Lh rfl ‹_› (on rfl) <| Lq (oF rfl ‹_› rfl) rfl <| qm rfl ?_
    refine Lb rfl (fun g2 => ?_) (fun g2 => ?_)
    have h2 := DK g2
    iterate 3 refine Lk rfl ‹_› ?_
    refine Lq (oT rfl ‹_› rfl) rfl <| qm rfl ?_
    iterate 3 refine Lk rfl rfl ?_
    refine Lq (oT rfl rfl rfl) rfl <| Ld <| Ah rfl rfl <| Es ?_
    refine Lo (Ag rfl rfl (by kernel_rfl) rfl (Ae (hit_10))) rfl <| qa rfl <| Ld ?_
    refine Aa (Er rfl ?_)
    exact Ad rfl
    have h2 := DL g2
    refine Lg rfl ‹_› (A7 rfl E5 E1 rfl rfl (Qc rfl)) ?_
    refine Lg rfl ‹_› (Ag rfl rfl (by kernel_rfl) rfl (Ae (hit_24 (by first | assumption | omega | (simp only [LL]; omega))))) ?_
    refine Lh rfl ‹_› (on rfl) <| Lq (oF rfl ‹_› rfl) rfl <| qm rfl ?_
    refine Lb rfl (fun g3 => ?_) (fun g3 => ?_)
    have h3 := DK g3
    iterate 3 refine Lk rfl ‹_› ?_
    refine Lq (oT rfl ‹_› rfl) rfl <| Ld <| Ah rfl rfl <| Es ?_
    refine Lo (Ag rfl rfl (by kernel_rfl) rfl (Ae (hit_10))) rfl <| qa rfl <| Ld ?_
    refine Aa (Er rfl ?_)
    exact Ad rfl
    have h3 := DL g3
    refine Lg rfl ‹_› (A7 rfl E5 E1 rfl rfl (Qc rfl)) ?_
    refine Lg rfl ‹_› (Ag rfl rfl (by kernel_rfl) rfl (Ae (hit_24 (by first | assumption | omega | (simp only [LL]; omega))))) ?_
    refine Lh rfl ‹_› (on rfl) <| Lq (oF rfl ‹_› rfl) rfl <| Ld ?_
    refine Ec rfl (fun g4 => ?_) (fun g4 => ?_)
    have h4 := DK g4
    refine Es ?_
    refine Lo (Ag rfl rfl (by kernel_rfl) rfl (Ae (hit_10))) rfl <| qa rfl <| Ld ?_
    refine Aa (Er rfl ?_)
    exact Ad rfl
    have h4 := DL g4
    refine Ac <| Es <| Lo (A7 rfl E5 E1 rfl rfl (Qc rfl)) rfl ?_
    refine Lo (Ag rfl rfl (by kernel_rfl) rfl (Ae (hit_19 (by first | assumption | omega | (simp only [LL]; omega)) (by first | assumption | omega | (simp only [LL]; omega))))) rfl ?_
    refine qm rfl ?_
    iterate 2 refine Lq (oe rfl) rfl ?_
    iterate 2 refine qa rfl ?_
    refine Ld <| Es <| Lo (A7 rfl E5 E1 rfl rfl (Qc rfl)) rfl ?_
    refine Lo (Ag rfl rfl (by kernel_rfl) rfl (Ae (hit_19 (by first | assumption | omega | (simp only [LL]; omega)) (by first | assumption | omega | (simp only [LL]; omega))))) rfl ?_
    refine qm rfl ?_
    iterate 2 refine Lq (oe rfl) rfl ?_
    iterate 2 refine qa rfl ?_
    refine Ld <| Es <| qm rfl <| Lq (o2 u_31 rfl rfl) rfl <| qm rfl <| Lh rfl rfl (om rfl) <| Lh rfl rfl (o2 u_31 rfl rfl) <| Lq (oT rfl rfl rfl) rfl ?_
    refine qm rfl ?_
    iterate 2 refine Lh rfl rfl (om rfl) ?_
    refine Lh rfl rfl (OpQ.str2 rfl u_9 rfl rfl rfl rfl) ?_
    iterate 2 refine Lg rfl rfl (A7 rfl E5 E1 rfl rfl (Qc rfl)) ?_
    refine Lg rfl rfl (Ag rfl rfl (by kernel_rfl) rfl (Ae (hit_22 (by first | assumption | omega | (simp only [LL]; omega)) (by first | assumption | omega | (simp only [LL]; omega))))) ?_
    refine Lh rfl rfl (OpQ.eqBool (neg := false) rfl u_4 rfl rfl) <| Lq (oT rfl rfl rfl) rfl <| qm rfl ?_
    refine Lb rfl (fun g5 => ?_) (fun g5 => ?_)
    refine Lg rfl ‹_› (Ag rfl rfl (by kernel_rfl) rfl (Ae (hit_10))) <| Lq (oT rfl ‹_› rfl) rfl <| qa rfl <| Ld ?_
    refine Aa (Er rfl ?_)
    exact Ad rfl
    refine Lk rfl ‹_› <| Lq (oF rfl ‹_› rfl) rfl <| qa rfl <| Ld ?_
    refine Aa (Er rfl ?_)
    refine Ad ?_
    rotate_left
   have hT : bytesEq (textV a) (textV b) = eqB a b := by
    rw [Bc]
    by_cases h : a = b
    ·subst h; rw [eqB_t rfl, decide_eq_true rfl]
    ·rw [E4 h, decide_eq_false fun e => h (text_inj (codeP_of h3) (codeP_of h4) e)]
   rw [hT] at g5
   cases h : eqB a b <;> rw [h] at g5 <;> cases g5
def pow10Z : List Int := [1,10,100,1000,10000,100000,1000000,10000000,100000000,1000000000,10000000000,100000000000,1000000000000,10000000000000,100000000000000,1000000000000000,10000000000000000,100000000000000000,1000000000000000000,10000000000000000000]
theorem vrs_ints (C : Cx) (k : IntKind) : ∀ zs : List Int, VRs C (zs.map (AV.int k)) (zs.map (Value.int k))
 | [] => .nil
 | z :: zs => .cons (.int k z) (vrs_ints C k zs)
theorem globS_of {w : World} (h : Lib.TabIs Tryz.prog w "internal/strconv.uint64pow10" .u64 pow10Z) : GlobS gl0 (Cx.memory w) := by
 intro g cs hg
 unfold gl0 at hg
 cases hb : Nat.beq g 0 with
 | false => rw [hb] at hg; cases hg
 | true =>
  rw [hb] at hg
  obtain rfl := Qb hb
  obtain rfl : pow10 = cs := Option.some.inj hg
  unfold Lib.TabIs World.var? at h
  rw [show Tryz.prog.globalNamed "internal/strconv.uint64pow10" = some 0 by kernel_rfl] at h
  refine ⟨pow10Z.map (Value.int .u64), ?_, vrs_ints _ .u64 pow10Z, fun v hv => ?_⟩
  ·show (match w.heap[0]? with
    | some (.cells c _ _) => some c.toList
    | _ => none) = _
   cases hw : w.heap[0]? with
   | none => rw [Qe, hw] at h; cases h
   | some o =>
    rw [Qe, hw] at h
    cases o with
    | cells c t f =>
     have h : some c = some _ := h
     rw [Option.some.inj h]
    | _ => cases h
  ·rw [show pow10 = pow10Z.map (AV.int .u64) from rfl] at hv
   obtain ⟨z, _, rfl⟩ := List.mem_map.1 hv
   rfl
theorem texts_calls (h : KnownF Tryz.prog 10 [] (.bool true)) (w : World) (a b : CodeT) {x y : Value} (hg : Lib.TabIs Tryz.prog w "internal/strconv.uint64pow10" .u64 pow10Z) (hx : VR (Cx.memory w) (.agg (encC a)) x) (hy : VR (Cx.memory w) (.agg (encC b)) y) :
  Calls Tryz.prog 8 #[x, y] w fun e w' => e = .returned (.bool true) ∧ Go.RowKit.Below w.heap.size w w' :=
 callsG_of AE (gall11 h) (args := [.agg (encC a), .agg (encC b)]) (by rfl) (texts_to a b) (globS_of hg) (.cons hx (.cons hy .nil))
theorem tab_third {P : Program} {W : World} {x y : String × DataW Unit} {name : String} {k : IntKind} {zs : List Int} {rest : List (String × DataW Unit)} {g : Nat} {t e : TypeId} {n : Nat}
  (hg : P.globalNamed name = some g) (hty : (P.globals[g]?).map (·.type) = some t) (ht : P.underlying t = some (.array n e)) (he : P.underlying e = some (.int k)) (hce : P.cellsOf e = 1) (hct : P.cellsOf t = n)
  (h : laidMet P (x :: y :: (name, Lib.tabData k zs) :: rest) W) : Lib.TabIs P W name k zs := by
 obtain ⟨ps, ⟨_, _, _, _, _, _, _, _, _, _, ⟨_, _, _, _, _, _, _, _, _, _, ⟨g', t', cs, fuel, p, q, hg', ht', hvar, hd, _, _⟩, _⟩, _⟩, _⟩ := h
 obtain rfl := Option.some.inj (hg.symm.trans hg')
 obtain rfl := Option.some.inj (hty.symm.trans ht')
 unfold Lib.TabIs
 rw [hvar, ← Lib.cells_of_tab ht he hce hct hd]
theorem table_of {w : World} {x y : String × DataW Unit} {rest : List (String × DataW Unit)} (h : laidMet Tryz.prog (x :: y :: ("internal/strconv.uint64pow10", Lib.tabData .u64 pow10Z) :: rest) w) : Lib.TabIs Tryz.prog w "internal/strconv.uint64pow10" .u64 pow10Z :=
 tab_third (g := 0) (t := 305) (e := 253) (n := 20) (by kernel_rfl) (by kernel_rfl) (by kernel_rfl) (by kernel_rfl) (by kernel_rfl) (by kernel_rfl) h
end Go.Proofs.YtpihdbhocgcbpaaGreatDoor.Gl
