/- slices.Insert at lists of answers: what it does, by the model's own builtins. -/
import Derived.Test.YtlclpmbeaofohaaGreatProg
import Derived.WalkKit
import Derived.WalkSpells
import Derived.Lib.Walk
import Derived.Lib.SliceRun
import Derived.Lib.AppendZeros
import Derived.Lib.Overlaps
import Derived.Deep.RegionLaw
set_option linter.unusedVariables false
namespace Go.Proofs.YtlclpmbeaofohaaGreat
open Go.RowKit Go.Lib
set_option maxHeartbeats 4000000
set_option maxRecDepth 100000
section
variable {P : Program}
theorem wp_copyI (w : World) {o : Oper} {a : Act} {K : Act → World → Prop} {Q : Exit → Act → World → Prop} (d s : Operand) (t u : TypeId)
    (ho : o.op = .call { callee := .builtin .copy, args := #[d, s], argTypes := #[t, u] }) (x y : Value) (hd : a.eval d = x) (hs : a.eval s = y) {v : Value} {W : World}
    (hr : (Builtin.copy_ #[t, u] o.type #[x, y]).run P w = .ok v W) (h : K (a.put o.dst v) W) : o.wp P a w K Q := by
  unfold Oper.wp execOp
  simp only [ho, resolve, invoke, builtin, Sem.run_bind, Sem.run_pure, Result.andThen_ok, List.map_toArray, List.map_cons, List.map_nil, hd, hs, hr]
  exact h
theorem wpList_copyI (w : World) {ops : Array Oper} {rest : List Oper} {o : Oper} {a : Act} {Q : Exit → Act → World → Prop} (hgd : o.guard = none) (d s : Operand) (t u : TypeId)
    (ho : o.op = .call { callee := .builtin .copy, args := #[d, s], argTypes := #[t, u] }) (x y : Value) (hd : a.eval d = x) (hs : a.eval s = y) {v : Value} {W : World}
    (hr : (Builtin.copy_ #[t, u] o.type #[x, y]).run P w = .ok v W) (h : wpList P ops Q rest (a.put o.dst v) W) : wpList P ops Q (o :: rest) a w :=
  wpList_plain hgd fun _ hK => wp_copyI w d s t u ho x y hd hs hr (hK _ _ h)
theorem step_copyI {ops : Array Oper} {o : Oper} {a : Act} {w : World} {K : Act → World → Prop} {Q : Exit → Act → World → Prop} {E : Prop}
    (hg : o.guard = none) (d s : Operand) (t u : TypeId) (ho : o.op = Op.call { callee := Callee.builtin Builtin.copy, args := #[d, s], argTypes := #[t, u] })
    (x y : Value) (hd : a.eval d = x) (hs : a.eval s = y) {v : Value} {W : World} (hr : (Builtin.copy_ #[t, u] o.type #[x, y]).run P w = .ok v W) (hK : K (a.put o.dst v) W) :
    if Region.wanted o (yielded ops a.tmps) = true then Oper.wp P o a w K Q else E := by
  rw [if_pos (by simp [Region.wanted, hg])]
  exact wp_copyI w d s t u ho x y hd hs hr hK
end
theorem ins_fin (base : Option Addr) (n c m mc : Nat) (ya : Option Addr) (w w' : World) (v' : Value) (hnc : n ≤ c) (hnil : base = none → n = 0) (hm : 0 < m)
    (hr : (Builtin.append_ #[27, 27] 27 #[.slice base n c, .slice ya m mc]).run Tryz.prog w = .ok v' w') :
    Calls Tryz.prog 24 #[.slice base n c, .int .i64 n, .slice ya m mc] w fun e W => e = .returned v' ∧ W = w' := by
  have hz1 : ¬ ((m : Int) = 0) := by omega
  have mixed : Tryz.prog.follows .mixedOrders = true := by kernel_rfl
  go_enter Tryz.func24, Tryz.ntmps24
  cases base with
  | none =>
    have h0 := hnil rfl
    subst h0
    go_wp2_with (at_builtin; refine Lib.wpList_append_run _ rfl _ _ _ _ rfl _ _ rfl rfl _ _ hr ?_)
    go_ret
    exact ⟨rfl, rfl⟩
  | some a =>
    obtain ⟨ab, ao, asp⟩ := a
    go_wp2_with (at_builtin; refine Lib.wpList_append_run _ rfl _ _ _ _ rfl _ _ rfl rfl _ _ hr ?_)
    all_goals (go_ret; exact ⟨rfl, rfl⟩)
theorem ins_room (b off n c i m mc vb vo : Nat) (w W1 W2 : World) (k1 k2 : Value) (hi : i < n) (hm : 0 < m) (hroom : n + m ≤ c) (hsm : n + m ≤ 9223372036854775807)
    (hov : ∀ lb cb, (callFunc 47 #[.slice (some ⟨vb, vo, none⟩) m mc, .slice (some ⟨b, off + (i + m) * 4, none⟩) lb cb]).run Tryz.prog w = .ok (.value (.bool false)) w)
    (h1 : ∀ dc sc, (Builtin.copy_ #[27, 27] 3 #[.slice (some ⟨b, off + (i + m) * 4, none⟩) (n + m - (i + m)) dc, .slice (some ⟨b, off + i * 4, none⟩) (n + m - i) sc]).run Tryz.prog w.drew = .ok k1 W1)
    (h2 : ∀ dc, (Builtin.copy_ #[27, 27] 3 #[.slice (some ⟨b, off + i * 4, none⟩) (n + m - i) dc, .slice (some ⟨vb, vo, none⟩) m mc]).run Tryz.prog W1 = .ok k2 W2) :
    Calls Tryz.prog 24 #[.slice (some ⟨b, off, none⟩) n c, .int .i64 i, .slice (some ⟨vb, vo, none⟩) m mc] w fun e W => e = .returned (.slice (some ⟨b, off, none⟩) (n + m) c) ∧ W = W2 := by
  have hz1 : ¬ ((m : Int) = 0) := by omega
  have hz2 : ¬ ((i : Int) = (n : Int)) := by omega
  have mixed : Tryz.prog.follows .mixedOrders = true := by kernel_rfl
  have hw1 : IntKind.i64.wrap ((i : Int) + (m : Int)) = (i : Int) + (m : Int) := by rw [IntKind.wrap_i64]; omega
  have hb1 : (0 : Int) ≤ (i : Int) + (m : Int) := by omega
  have hin : i ≤ n := by omega
  have htn : ((i : Int) + (m : Int)).toNat = i + m := by omega
  have hb2 : ¬ (c = i + m) := by omega
  have hb3 : (i : Int) ≤ (n : Int) + (m : Int) := by omega
  have hb4 : ¬ (c = i) := by omega
  go_enter Tryz.func24, Tryz.ntmps24
  go_wp2_with (simp only [hov])
  go_region_law (refine step_copyI rfl _ _ 27 27 rfl _ _ (by simp [Act.eval, Act.put]) (by simp [Act.eval, Act.put]) (h1 _ _) ?_)
  go_wp2_with (at_builtin; refine wpList_copyI _ rfl _ _ 27 27 rfl _ _ rfl rfl (h2 _) ?_)
  go_ret
  exact ⟨rfl, rfl⟩
theorem ins_grow (b off n c i m mc nb G : Nat) (ya : Option Addr) (w W1 W2 W3 : World) (k1 k2 : Value) (hi : i < n) (hm : 0 < m) (hnc : n ≤ c) (hroom : c < n + m) (hbig : n + m ≤ 9223372036854775807) (hG : n + m ≤ G)
    (hz : (Builtin.append_ #[27, 3] 27 #[.slice (some ⟨b, off, none⟩) i c, .int .i64 ((n : Int) + (m : Int) - (i : Int))]).run Tryz.prog w = .ok (.slice (some ⟨nb, 0, none⟩) (n + m) G) W1)
    (h1 : ∀ dc, (Builtin.copy_ #[27, 27] 3 #[.slice (some ⟨nb, i * 4, none⟩) (n + m - i) dc, .slice ya m mc]).run Tryz.prog W1 = .ok k1 W2)
    (h2 : ∀ dc sc, (Builtin.copy_ #[27, 27] 3 #[.slice (some ⟨nb, (i + m) * 4, none⟩) (n + m - (i + m)) dc, .slice (some ⟨b, off + i * 4, none⟩) (n - i) sc]).run Tryz.prog W2.drew = .ok k2 W3) :
    Calls Tryz.prog 24 #[.slice (some ⟨b, off, none⟩) n c, .int .i64 i, .slice ya m mc] w fun e W => e = .returned (.slice (some ⟨nb, 0, none⟩) (n + m) G) ∧ W = W3 := by
  have hz1 : ¬ ((m : Int) = 0) := by omega
  have hz2 : ¬ ((i : Int) = (n : Int)) := by omega
  have hz3 : (c : Int) < (n : Int) + (m : Int) := by omega
  have mixed : Tryz.prog.follows .mixedOrders = true := by kernel_rfl
  have hw1 : IntKind.i64.wrap ((i : Int) + (m : Int)) = (i : Int) + (m : Int) := by rw [IntKind.wrap_i64]; omega
  have hb1 : (0 : Int) ≤ (i : Int) + (m : Int) := by omega
  have hin : i ≤ n := by omega
  have htn : ((i : Int) + (m : Int)).toNat = i + m := by omega
  have hGi : ¬ (G = i) := by omega
  have hGim : ¬ (G = i + m) := by omega
  have hci : ¬ (c = i) := by omega
  have hb3 : (i : Int) ≤ (n : Int) := by omega
  go_enter Tryz.func24, Tryz.ntmps24
  go_wp2_with (first
    | (at_builtin; refine Lib.wpList_append_run _ rfl _ _ _ _ rfl _ _ rfl rfl _ _ hz ?_)
    | (at_builtin; refine wpList_copyI _ rfl _ _ 27 27 rfl _ _ rfl rfl (h1 _) ?_))
  go_region_law (refine step_copyI rfl _ _ 27 27 rfl _ _ (by simp [Act.eval, Act.put]) (by simp [Act.eval, Act.put]) (h2 _ _) ?_)
  go_wp2
  go_ret
  exact ⟨rfl, rfl⟩
theorem ins_apart (vb vo m mc b bo lb cb tA kA tB kB : Nat) (w : World) (hvb : vb ≠ b) (hsa : w.shape? vb = some (tA, kA)) (hsb : w.shape? b = some (tB, kB)) (hkB : kB ≠ 0) (hfa : w.frozen? ⟨vb, vo, none⟩ = false) (hfe : w.frozen? ⟨vb, kA, none⟩ = false) :
    (callFunc 47 #[.slice (some ⟨vb, vo, none⟩) m mc, .slice (some ⟨b, bo, none⟩) lb cb]).run Tryz.prog w = .ok (.value (.bool false)) w := by
  rw [run_callFunc_extern Tryz.func47 (by kernel_rfl) (by kernel_rfl) (by kernel_rfl) (e := Extern.SlicesOverlaps.overlaps #[27, 27] #[4]) (by kernel_rfl),
    Lib.run_overlaps_apart w 27 4 36 Tryz.underlying27 4 (fun _ => by simp [go_sem]) ⟨vb, vo, none⟩ ⟨b, bo, none⟩ m mc lb cb hvb tA tB kA kB hsa hsb hkB hfa hfe]
  rfl
end Go.Proofs.YtlclpmbeaofohaaGreat
