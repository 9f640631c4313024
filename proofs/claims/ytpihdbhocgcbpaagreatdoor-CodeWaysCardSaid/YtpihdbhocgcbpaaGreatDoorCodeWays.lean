/- The function swingle/swinglelaw19.CodeWays returns true for every code program, integer and list of integers, and reads them alone, if the listed tables of the library hold what the program's text lays (which the card ties): contracts of the functions that it calls are proved over an abstract machine whose soundness over the model is proved in the texts Am..; its closed part is run by that machine, and every run is checked by the kernel; no run reads a listed table. The frame is the guide's own shell. -/
import Derived.Test.YtpihdbhocgcbpaaGreatDoorTie
import Derived.WalkKit
import Derived.ProofKit
import Derived.OpenShut
import Derived.Below
import Derived.ChangeSame
import Derived.LaidMore
import Derived.Lay
import Derived.SevenTiedAt
import Derived.Stop.Joined
import Derived.Test.YtpihdbhocgcbpaaGreatDoorCards
import Derived.ChangeMaps5
import Derived.WideKeyArgs
import Derived.Test.YtpihdbhocgcbpaaGreatDoorKnAll
import Derived.Test.YtpihdbhocgcbpaaGreatDoorCdG
import Derived.Test.YtpihdbhocgcbpaaGreatDoorCodeWaysFacts
namespace Go.Proofs.YtpihdbhocgcbpaaGreatDoor.codeWays
open Go.ChangeShapes Go.WideShapes Go.ChangeAt Go.RowKit Go.ChangeMaps
set_option linter.unusedVariables false      -- a walk jC not use every one (that an integer argument fits its kind)

theorem laid : laidOutB Tryz.prog = true := fact1
theorem R2 : Am.tN Tryz.prog [28, 24, 54, 58, 60, 55, 37, 3, 9, 26, 56, 22, 25] = true := by kernel_rfl
theorem own : ownKnob Tryz.prog.godebug = none := by kernel_rfl

/-! What the call's last step asks, of what lies below the world's end alone (the guide's own lemma). -/
section
variable {H : Type} {enc : TypeId × Value → H} {P : Program}
theorem Mo {f : Func} {s : ChangeSpec} {apart fresh handsOn again : Bool} {W W' : World} {args : Array Value} {v : Value} {ds gs : List (DataW H)} {before pa pv : List MemPlace}
    (hW : DataW.Whole enc P f.params.toList s.vars apart W args.toList ds gs before)
    (aA : ∀ (b : Nat) (sp : Nat → Bool) (hd : Bool), DataW.TrodAll enc P W' b sp hd f.resultTypes.toList (v.resultList f.resultTypes.size) (s.fn H (ds ++ gs)).results [])
    (Xx : ∀ sp : Nat → Bool, (∀ p ∈ before, sp p.block = true) → DataW.TrodAll enc P W' 0 sp true f.params.toList args.toList (s.fn H (ds ++ gs)).args pa)
    (hvars : ∀ sp : Nat → Bool, (∀ p ∈ before, sp p.block = true) → DataW.TrodVars enc P W' sp s.vars (s.fn H (ds ++ gs)).vars pv)
    (ti : before = pa ++ pv) (hb : Below W.heap.size W W')
    (WO : ∀ (j : Nat) (t : TypeId) (r : Value), f.resultTypes[j]? = some t → (v.resultList f.resultTypes.size)[j]? = some r → Value.okWide P W' .any 0 t r) :
    s.post enc P f apart fresh handsOn again W args v W' := by
  have C5 : ∀ p ∈ before, p.block < W.heap.size := fun p hp => hW.lt p hp
  have hold : ∀ p ∈ before, (fun b => decide (b < W.heap.size)) p.block = true := fun p hp => by simpa using C5 p hp
  refine ⟨ds, gs, before, [], pa, pv, hW, aA _ _ _, Xx _ hold, hvars _ hold, World.keptBut_mono (fun p hp => ⟨hp, ?_⟩) (hb.frame (· ∈ before)), fun _ => ?_⟩
  · rw [ti, List.mem_append] at hp
    exact Or.inr hp
  · obtain ⟨_, _, _, _, _, hz, hn⟩ := hW
    refine ⟨WO, _, _, ([] ++ pa) ++ pv, ⟨[] ++ pa, pv, trodAll_append (Xx _ (fun _ _ => rfl)) (aA _ _ _), hvars _ (fun _ _ => rfl), rfl, ?_, ?_⟩, ?_⟩
    · intro b off hp
      have Yi : MemPlace.cell b off ∈ before := by rw [ti]; simpa using hp
      rw [hb.frozen (C5 _ Yi)]
      exact hz b off Yi
    · intro ha
      have := hn ha
      rw [ti] at this
      simpa using this
    · intro p hp _
      rw [ti]
      simpa using hp
end

/-! ### The row's step -/
set_option maxRecDepth 100000 in
theorem lifted (os : Os) (started : os.Started) (H : Type) (enc : TypeId × Value → H) :
    ReturnsInHanded {} Tryz.checked os 4 .any (fun w args => (Rows.codeWaysSpec.pre enc Tryz.prog Tryz.f4 Rows.codeWaysRow.domain false w args ∧ laidMetH Tryz.prog Rows.codeWaysRow.laid w) ∧ sizedMet enc Tryz.prog Tryz.f4 (OpenSpec.ofChange Rows.codeWaysSpec) false w args)
      (Rows.codeWaysSpec.post enc Tryz.prog Tryz.f4 false true false false) := by
  refine returnsInHanded_of_change_and (C := Tryz.checked) (X := fun w _ => laidMetH Tryz.prog Rows.codeWaysRow.laid w) (fun _ _ _ hh h => h.of_heap hh) own started (by kernel_rfl) Tryz.func4
    (ChangeSpec.witness_shaped (enc := enc) (C := Tryz.checked) (os := os) (X := fun w _ => laidMetH Tryz.prog Rows.codeWaysRow.laid w) false (World.laidAll Tryz.prog os Rows.codeWaysRow.laid) #[.agg #[.slice .none 0 0, .slice .none 0 0, .slice .none 0 0, .slice .none 0 0], .int .i64 0, .slice .none 0 0] 8 (World.laidAll_os _ _ _)
      (World.shaped_of_ZipB (by kernel_rfl) (by kernel_rfl)) (by kernel_rfl) (by kernel_rfl) (by kernel_rfl)
      (by rw [MakeChecks.laidMetH_plain _ _ _ (by kernel_rfl)]; exact laidMet_laidAll _ (by kernel_rfl) (by kernel_rfl))) ?_
  intro W base args ds gs before hval0 hW hcnd _ hL _
  have jf : ∀ (j : Nat) t v, Tryz.f4.params[j]? = some t → args[j]? = some v → Value.okWide Tryz.prog W .any base t v := hval0
  have hW' := hW
  obtain ⟨p, q, hA0, hV, rfl, rK, Zw⟩ := hW
  have hA : DataW.TrodAll enc Tryz.prog W 0 (fun _ => true) true Tryz.f4.params.toList args.toList ds p := hA0
  rw [Tryz.params4] at hA jf
  obtain ⟨v, v2, v3, d, d2, d3, p1, p2, p3, rfl, rfl, rfl, h1, h2, h3⟩ := trodAll_three hA
  obtain ⟨rfl, rfl⟩ := trodVars_none hV
  obtain ⟨uX, hv, hd⟩ := Am.SS R2 (t := 28) (by decide) Tryz.underlying28 (jf 0 28 v rfl rfl) h1
  obtain ⟨c, rfl⟩ := data_C hd
  obtain ⟨kb, rfl⟩ := okWide_int Tryz.underlying3 (jf 1 3 v2 rfl rfl)
  have wU : Am.VR (Am.Cx.memory W) (.int .i64 kb) (.int .i64 kb) := .int _ _
  obtain ⟨av3, hv3, hd3⟩ := Am.VG R2 (t := 26) (by decide) Tryz.underlying26 (jf 2 26 v3 rfl rfl) h3
  obtain ⟨ws, hws⟩ := MI hd3
  obtain rfl := List.cons.inj hws |>.1
  clear hA0 hval0
  simp only [List.append_nil] at hW'
  have stays : ∀ {t : Nat} {v : Value} {d : DataW H} {q : List MemPlace} (W' : World) (sp : Nat → Bool), Tryz.prog.readableRec t = true → t < Tryz.prog.types.size → DataW.Trod enc Tryz.prog W 0 (fun _ => true) true t v d q → (∀ x ∈ q, x ∈ p1 ++ p2 ++ p3) → Below W.heap.size W W' → (∀ x ∈ p1 ++ p2 ++ p3, sp x.block = true) → DataW.Trod enc Tryz.prog W' 0 sp true t v d q := fun W' sp hr ht h hq hb hs =>
    WideElems.Trod_stays laid hr ht h (fun x hx => hb.same (hW'.lt x (hq x hx))) (fun x hx => hs x (hq x hx))
  have q1 : ∀ x ∈ p1, x ∈ p1 ++ p2 ++ p3 := fun x hx => List.mem_append_left _ (List.mem_append_left _ hx)
  have q2 : ∀ x ∈ p2, x ∈ p1 ++ p2 ++ p3 := fun x hx => List.mem_append_left _ (List.mem_append_right _ hx)
  have q3 : ∀ x ∈ p3, x ∈ p1 ++ p2 ++ p3 := fun x hx => List.mem_append_right _ hx
  refine (Wy.RC Kn.known W c kb ws hv wU hv3).mono fun e W' ⟨he, hg⟩ => ?_
  subst he
  exact ⟨_, rfl, Mo (pa := p1 ++ (p2 ++ p3)) (pv := []) hW' (fun _ _ _ => (trodAll_cons_mk (shut_bool Tryz.underlying4 _) trodAll_mk0)) (fun sp hs => trodAll_mk3 (stays _ sp (by kernel_rfl) (of_decide_eq_true (by kernel_rfl)) h1 q1 hg hs) (stays _ sp (by kernel_rfl) (of_decide_eq_true (by kernel_rfl)) h2 q2 hg hs) (stays _ sp (by kernel_rfl) (of_decide_eq_true (by kernel_rfl)) h3 q3 hg hs)) (fun _ _ => rfl) (by rw [List.append_nil, List.append_assoc]) hg
    (ok_one (by kernel_rfl) rfl (okWide_bool_mk Tryz.underlying4 _))⟩

theorem over : Rows.CodeWaysSaid :=
  OpenClaim.holds_of_wide 4 Tryz.f4 rfl rfl rfl rfl rfl rfl rfl ⟨rfl, rfl, rfl, rfl, rfl⟩ rfl rfl rfl rfl rfl (by kernel_rfl) Tryz.func4 V4
    (of_decide_eq_true (by kernel_rfl)) (by unfold Func.isWrapper; first | (rw [if_pos (by decide +kernel)]; kernel_rfl) | (rw [if_neg (by decide +kernel)]; exact ⟨rfl, rfl⟩))
    (fun os started H enc _ => lifted os started H enc)

/-- The statement. -/
theorem proved : Rows.CodeWaysCardSaid :=
  Claim7.holds_tied_plain_at .later [] [.data, .data, .data, .data, .pinned] true (true, "51dede4be561a9c1a0eaf5377c89ea2e06d1199a907e78ba5c3d9e8500b78221") true over (fun _ h => by cases h) (by kernel_rfl) (fun _ h => by cases h) codeWays_row_tie rfl ⟨rfl, rfl⟩ (by kernel_rfl) rfl
    (fun f fn hf qM => by
      obtain rfl : f = 4 := Option.some.inj ((show Tryz.prog.funcNamed "swingle/swinglelaw19.CodeWays" = some 4 by kernel_rfl).symm.trans hf) |>.symm
      obtain rfl : fn = Tryz.f4 := (Option.some.inj (Tryz.func4.symm.trans qM)).symm
      exact ⟨by kernel_rfl, fun j t ht => by
        rw [Tryz.params4] at ht
        rcases j with _ | _ | _ | j
        · obtain rfl : 28 = t := Option.some.inj ht
          exact (show Tryz.prog.wantsStandIn 28 = false by kernel_rfl)
        · obtain rfl : 3 = t := Option.some.inj ht
          exact (show Tryz.prog.wantsStandIn 3 = false by kernel_rfl)
        · obtain rfl : 26 = t := Option.some.inj ht
          exact (show Tryz.prog.wantsStandIn 26 = false by kernel_rfl)
        · simp at ht⟩)
    (by kernel_rfl)
#print axioms proved
end Go.Proofs.YtpihdbhocgcbpaaGreatDoor.codeWays
