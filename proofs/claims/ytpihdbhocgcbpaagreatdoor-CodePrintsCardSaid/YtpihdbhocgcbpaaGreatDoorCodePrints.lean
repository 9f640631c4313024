/- The function swingle/swinglelaw19.CodePrints returns true for every value of a code program, and reads it alone, if the listed tables of the library hold what the program's text lays (which the card ties): contracts of the functions that it calls are proved over an abstract machine whose soundness over the model is proved in the texts Am..; its closed part is run by that machine, and every run is checked by the kernel; the table of powers of ten is read off the listed variables. The frame is the guide's own shell. -/
import Derived.Test.YtpihdbhocgcbpaaGreatDoorTie
import Derived.WalkKit
import Derived.ProofKit
import Derived.OpenShut
import Derived.Below
import Derived.ChangeSame
import Derived.LaidMore
import Derived.Lay
import Derived.SevenTiedAt
import Derived.Stop.Joined
import Derived.Test.YtpihdbhocgcbpaaGreatDoorCards
import Derived.ChangeMaps5
import Derived.WideKeyArgs
import Derived.Test.YtpihdbhocgcbpaaGreatDoorKnAll
import Derived.Test.YtpihdbhocgcbpaaGreatDoorCdE
import Derived.Test.YtpihdbhocgcbpaaGreatDoorCodePrintsFacts
namespace Go.Proofs.YtpihdbhocgcbpaaGreatDoor.codePrints
open Go.ChangeShapes Go.WideShapes Go.ChangeAt Go.RowKit Go.ChangeMaps
set_option linter.unusedVariables false      -- a walk fY not use every one (that an integer argument fits its kind)

theorem laid : laidOutB Tryz.prog = true := zp
theorem argTypes : Am.sQ Tryz.prog [28, 24, 54, 58, 60, 55, 37, 3, 9, 26, 56, 22, 25] = true := by kernel_rfl
theorem own : ownKnob Tryz.prog.godebug = none := by kernel_rfl

/-! What the call's last step asks, of what lies below the world's end alone (the guide's own lemma). -/
section
variable {H : Type} {enc : TypeId × Value → H} {P : Program}
theorem Ml {f : Func} {s : ChangeSpec} {apart fresh handsOn again : Bool} {W W' : World} {args : Array Value} {v : Value} {ds gs : List (DataW H)} {before pa pv : List MemPlace}
    (hW : DataW.Whole enc P f.params.toList s.vars apart W args.toList ds gs before)
    (p9 : ∀ (b : Nat) (sp : Nat → Bool) (hd : Bool), DataW.TrodAll enc P W' b sp hd f.resultTypes.toList (v.resultList f.resultTypes.size) (s.fn H (ds ++ gs)).results [])
    (X0 : ∀ sp : Nat → Bool, (∀ p ∈ before, sp p.block = true) → DataW.TrodAll enc P W' 0 sp true f.params.toList args.toList (s.fn H (ds ++ gs)).args pa)
    (zq : ∀ sp : Nat → Bool, (∀ p ∈ before, sp p.block = true) → DataW.TrodVars enc P W' sp s.vars (s.fn H (ds ++ gs)).vars pv)
    (ow : before = pa ++ pv) (hb : Below W.heap.size W W')
    (WX : ∀ (j : Nat) (t : TypeId) (r : Value), f.resultTypes[j]? = some t → (v.resultList f.resultTypes.size)[j]? = some r → Value.okWide P W' .any 0 t r) :
    s.post enc P f apart fresh handsOn again W args v W' := by
  have C6 : ∀ p ∈ before, p.block < W.heap.size := fun p hp => hW.lt p hp
  have hold : ∀ p ∈ before, (fun b => decide (b < W.heap.size)) p.block = true := fun p hp => by simpa using C6 p hp
  refine ⟨ds, gs, before, [], pa, pv, hW, p9 _ _ _, X0 _ hold, zq _ hold, World.keptBut_mono (fun p hp => ⟨hp, ?_⟩) (hb.frame (· ∈ before)), fun _ => ?_⟩
  · rw [ow, List.mem_append] at hp
    exact Or.inr hp
  · obtain ⟨_, _, _, _, _, hz, hn⟩ := hW
    refine ⟨WX, _, _, ([] ++ pa) ++ pv, ⟨[] ++ pa, pv, trodAll_append (X0 _ (fun _ _ => rfl)) (p9 _ _ _), zq _ (fun _ _ => rfl), rfl, ?_, ?_⟩, ?_⟩
    · intro b off hp
      have yE : MemPlace.cell b off ∈ before := by rw [ow]; simpa using hp
      rw [hb.frozen (C6 _ yE)]
      exact hz b off yE
    · intro ha
      have := hn ha
      rw [ow] at this
      simpa using this
    · intro p hp _
      rw [ow]
      simpa using hp
end

/-! ### The row's step -/
set_option maxRecDepth 100000 in
theorem lifted (os : Os) (started : os.Started) (H : Type) (enc : TypeId × Value → H) :
    ReturnsInHanded {} Tryz.checked os 5 .any (fun w args => (Rows.codePrintsSpec.pre enc Tryz.prog Tryz.f5 Rows.codePrintsRow.domain false w args ∧ laidMetH Tryz.prog Rows.codePrintsRow.laid w) ∧ sizedMet enc Tryz.prog Tryz.f5 (OpenSpec.ofChange Rows.codePrintsSpec) false w args)
      (Rows.codePrintsSpec.post enc Tryz.prog Tryz.f5 false true false false) := by
  refine returnsInHanded_of_change_and (C := Tryz.checked) (X := fun w _ => laidMetH Tryz.prog Rows.codePrintsRow.laid w) (fun _ _ _ hh h => h.of_heap hh) own started (by kernel_rfl) Tryz.func5
    (ChangeSpec.witness_shaped (enc := enc) (C := Tryz.checked) (os := os) (X := fun w _ => laidMetH Tryz.prog Rows.codePrintsRow.laid w) false (World.laidAll Tryz.prog os Rows.codePrintsRow.laid) #[.agg #[.slice .none 0 0, .slice .none 0 0, .slice .none 0 0, .slice .none 0 0]] 8 (World.laidAll_os _ _ _)
      (World.shaped_of_ZipB (by kernel_rfl) (by kernel_rfl)) (by kernel_rfl) (by kernel_rfl) (by kernel_rfl)
      (by rw [MakeChecks.laidMetH_plain _ _ _ (by kernel_rfl)]; exact laidMet_laidAll _ (by kernel_rfl) (by kernel_rfl))) ?_
  intro W base args ds gs before zr hW hcnd _ hL _
  have gT : ∀ (j : Nat) t v, Tryz.f5.params[j]? = some t → args[j]? = some v → Value.okWide Tryz.prog W .any base t v := zr
  have hW' := hW
  obtain ⟨p, q, hA0, hV, rfl, pX, ZA⟩ := hW
  have hA : DataW.TrodAll enc Tryz.prog W 0 (fun _ => true) true Tryz.f5.params.toList args.toList ds p := hA0
  rw [Tryz.params5] at hA gT
  obtain ⟨v, d, rfl, rfl, h1⟩ := trodAll_one hA
  obtain ⟨rfl, rfl⟩ := trodVars_none hV
  obtain ⟨sU, hv, hd⟩ := Am.SB argTypes (t := 28) (by decide) Tryz.underlying28 (gT 0 28 v rfl rfl) h1
  obtain ⟨c, rfl⟩ := data_C hd
  rw [MakeChecks.laidMetH_plain _ _ _ (by kernel_rfl)] at hL
  have hT := Gl.uZ (show laidMet Tryz.prog (("math/bits.deBruijn32tab", Rows.laid_math_bits_deBruijn32tab) :: ("math/bits.deBruijn64tab", Rows.laid_math_bits_deBruijn64tab) :: ("internal/strconv.uint64pow10", Lib.tabData .u64 Gl.cY) :: _) W from hL)
  clear hA0 zr hL
  simp only [List.append_nil] at hW'
  have stays : ∀ (W' : World) (sp : Nat → Bool), Below W.heap.size W W' → (∀ x ∈ p, sp x.block = true) → DataW.Trod enc Tryz.prog W' 0 sp true 28 v d p := fun W' sp hb hs =>
    WideElems.Trod_stays laid (by kernel_rfl) (of_decide_eq_true (by kernel_rfl)) h1 (fun x hx => hb.same (hW'.lt x hx)) hs
  refine (Gl.N4 Kn.Pu W c hT hv).mono fun e W' ⟨he, hg⟩ => ?_
  subst he
  exact ⟨_, rfl, Ml (pa := p) (pv := []) hW' (fun _ _ _ => (trodAll_cons_mk (shut_bool Tryz.underlying4 _) trodAll_mk0)) (fun sp hs => trodAll_mk1 (stays _ sp hg hs)) (fun _ _ => rfl) (by simp) hg
    (ok_one (by kernel_rfl) rfl (okWide_bool_mk Tryz.underlying4 _))⟩

theorem over : Rows.CodePrintsSaid :=
  OpenClaim.holds_of_wide 5 Tryz.f5 rfl rfl rfl rfl rfl rfl rfl ⟨rfl, rfl, rfl, rfl, rfl⟩ rfl rfl rfl rfl rfl (by kernel_rfl) Tryz.func5 Vo
    (of_decide_eq_true (by kernel_rfl)) (by unfold Func.isWrapper; first | (rw [if_pos (by decide +kernel)]; kernel_rfl) | (rw [if_neg (by decide +kernel)]; exact ⟨rfl, rfl⟩))
    (fun os started H enc _ => lifted os started H enc)

/-- The statement. -/
theorem proved : Rows.CodePrintsCardSaid :=
  Claim7.holds_tied_plain_at .later [] [.data, .data, .data, .data, .pinned] true (true, "51dede4be561a9c1a0eaf5377c89ea2e06d1199a907e78ba5c3d9e8500b78221") true over (fun _ h => by cases h) (by kernel_rfl) (fun _ h => by cases h) codePrints_row_tie rfl ⟨rfl, rfl⟩ (by kernel_rfl) rfl
    (fun f fn hf kZ => by
      obtain rfl : f = 5 := Option.some.inj ((show Tryz.prog.funcNamed "swingle/swinglelaw19.CodePrints" = some 5 by kernel_rfl).symm.trans hf) |>.symm
      obtain rfl : fn = Tryz.f5 := (Option.some.inj (Tryz.func5.symm.trans kZ)).symm
      exact ⟨by kernel_rfl, fun j t ht => by
        rw [Tryz.params5] at ht
        cases j with
        | zero =>
          obtain rfl : 28 = t := Option.some.inj ht
          kernel_rfl
        | succ j => simp at ht⟩)
    (by kernel_rfl)
#print axioms proved
end Go.Proofs.YtpihdbhocgcbpaaGreatDoor.codePrints
