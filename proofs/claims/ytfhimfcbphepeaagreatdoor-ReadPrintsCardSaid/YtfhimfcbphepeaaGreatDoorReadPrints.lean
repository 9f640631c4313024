/- The function swingle/swinglelaw02.ReadPrints returns true for every program and term, and reads them alone, if the listed tables of the library hold what the program's text lays (which the card ties): contracts of the functions that it calls are proved over an abstract machine whose soundness over the model is proved in the texts Am..; its closed part is run by that machine, and every run is checked by the kernel; no run reads a listed table. The frame is the guide's own shell. -/
import Derived.Test.YtfhimfcbphepeaaGreatDoorTie
import Derived.WalkKit
import Derived.ProofKit
import Derived.OpenShut
import Derived.Below
import Derived.ChangeSame
import Derived.LaidMore
import Derived.Lay
import Derived.SevenTiedAt
import Derived.Stop.Joined
import Derived.Test.YtfhimfcbphepeaaGreatDoorCards
import Derived.ChangeMaps5
import Derived.WideKeyArgs
import Derived.Test.YtfhimfcbphepeaaGreatDoorKnAll
import Derived.Test.YtfhimfcbphepeaaGreatDoorCdH
import Derived.Test.YtfhimfcbphepeaaGreatDoorReadPrintsFacts
namespace Go.Proofs.YtfhimfcbphepeaaGreatDoor.readPrints
open Ty Go.ChangeShapes Go.WideShapes Go.ChangeAt Go.RowKit Go.ChangeMaps
set_option linter.unusedVariables false      -- a walk nK not use every one (that an integer argument fits its kind)

theorem laid : laidOutB Tryz.prog = true := fact1
theorem T7 : Am.Aag Tryz.prog [43, 40, 38, 137, 9, 3, 41, 115, 45, 47, 44] = true := by kernel_rfl
theorem own : ownKnob Tryz.prog.godebug = none := by kernel_rfl

/-! What the call's last step asks, of what lies below the world's end alone (the guide's own lemma). -/
section
variable {H : Type} {enc : TypeId × Value → H} {P : Program}
theorem Nb {f : Func} {s : ChangeSpec} {apart fresh handsOn again : Bool} {W W' : World} {args : Array Value} {v : Value} {ds gs : List (DataW H)} {before pa pv : List MemPlace}
    (hW : DataW.Whole enc P f.params.toList s.vars apart W args.toList ds gs before)
    (wR : ∀ (b : Nat) (sp : Nat → Bool) (hd : Bool), DataW.TrodAll enc P W' b sp hd f.resultTypes.toList (v.resultList f.resultTypes.size) (s.fn H (ds ++ gs)).results [])
    (aN : ∀ sp : Nat → Bool, (∀ p ∈ before, sp p.block = true) → DataW.TrodAll enc P W' 0 sp true f.params.toList args.toList (s.fn H (ds ++ gs)).args pa)
    (hvars : ∀ sp : Nat → Bool, (∀ p ∈ before, sp p.block = true) → DataW.TrodVars enc P W' sp s.vars (s.fn H (ds ++ gs)).vars pv)
    (nG : before = pa ++ pv) (hb : Below W.heap.size W W')
    (ZO : ∀ (j : Nat) (t : TypeId) (r : Value), f.resultTypes[j]? = some t → (v.resultList f.resultTypes.size)[j]? = some r → Value.okWide P W' .any 0 t r) :
    s.post enc P f apart fresh handsOn again W args v W' := by
  have C8 : ∀ p ∈ before, p.block < W.heap.size := fun p hp => hW.lt p hp
  have hold : ∀ p ∈ before, (fun b => decide (b < W.heap.size)) p.block = true := fun p hp => by simpa using C8 p hp
  refine ⟨ds, gs, before, [], pa, pv, hW, wR _ _ _, aN _ hold, hvars _ hold, World.keptBut_mono (fun p hp => ⟨hp, ?_⟩) (hb.frame (· ∈ before)), fun _ => ?_⟩
  · rw [nG, List.mem_append] at hp
    exact Or.inr hp
  · obtain ⟨_, _, _, _, _, hz, hn⟩ := hW
    refine ⟨ZO, _, _, ([] ++ pa) ++ pv, ⟨[] ++ pa, pv, trodAll_append (aN _ (fun _ _ => rfl)) (wR _ _ _), hvars _ (fun _ _ => rfl), rfl, ?_, ?_⟩, ?_⟩
    · intro b off hp
      have Z2 : MemPlace.cell b off ∈ before := by rw [nG]; simpa using hp
      rw [hb.frozen (C8 _ Z2)]
      exact hz b off Z2
    · intro ha
      have := hn ha
      rw [nG] at this
      simpa using this
    · intro p hp _
      rw [nG]
      simpa using hp
end

/-! ### The row's step -/
set_option maxRecDepth 100000 in
theorem lifted (os : Os) (started : os.Started) (H : Type) (enc : TypeId × Value → H) :
    ReturnsInHanded {} Tryz.checked os 4 .any (fun w args => (Rows.readPrintsSpec.pre enc Tryz.prog Tryz.f4 Rows.readPrintsRow.domain false w args ∧ laidMetH Tryz.prog Rows.readPrintsRow.laid w) ∧ sizedMet enc Tryz.prog Tryz.f4 (OpenSpec.ofChange Rows.readPrintsSpec) false w args)
      (Rows.readPrintsSpec.post enc Tryz.prog Tryz.f4 false true false false) := by
  refine returnsInHanded_of_change_and (C := Tryz.checked) (X := fun w _ => laidMetH Tryz.prog Rows.readPrintsRow.laid w) (fun _ _ _ hh h => h.of_heap hh) own started (by kernel_rfl) Tryz.func4
    (ChangeSpec.witness_shaped (enc := enc) (C := Tryz.checked) (os := os) (X := fun w _ => laidMetH Tryz.prog Rows.readPrintsRow.laid w) false (World.laidAll Tryz.prog os Rows.readPrintsRow.laid) #[.agg #[.slice .none 0 0, .slice .none 0 0, .slice .none 0 0], .agg #[.int .i64 0, .int .i64 0, .slice .none 0 0]] 8 (World.laidAll_os _ _ _)
      (World.shaped_of_ZipB (by kernel_rfl) (by kernel_rfl)) (by kernel_rfl) (by kernel_rfl) (by kernel_rfl)
      (by rw [MakeChecks.laidMetH_plain _ _ _ (by kernel_rfl)]; exact laidMet_laidAll _ (by kernel_rfl) (by kernel_rfl))) ?_
  intro W base args ds gs before hval0 hW hcnd _ hL _
  have nR : ∀ (j : Nat) t v, Tryz.f4.params[j]? = some t → args[j]? = some v → Value.okWide Tryz.prog W .any base t v := hval0
  have hW' := hW
  obtain ⟨p, q, hA0, hV, rfl, hfz, cW⟩ := hW
  have hA : DataW.TrodAll enc Tryz.prog W 0 (fun _ => true) true Tryz.f4.params.toList args.toList ds p := hA0
  rw [Tryz.params4] at hA nR
  obtain ⟨v, v2, d, d2, p1, p2, rfl, rfl, rfl, h1, h2⟩ := trodAll_two hA
  obtain ⟨rfl, rfl⟩ := trodVars_none hV
  obtain ⟨avs, hv, hd⟩ := Am.M9 T7 (t := 43) (by decide) Tryz.underlying43 (nR 0 43 v rfl rfl) h1
  obtain ⟨c, rfl⟩ := data_P hd
  obtain ⟨avs2, vQ, po⟩ := Am.M9 T7 (t := 47) (by decide) Tryz.underlying47 (nR 1 47 v2 rfl rfl) h2
  obtain ⟨c2, rfl⟩ := data_T po
  rw [MakeChecks.laidMetH_plain _ _ _ (by kernel_rfl)] at hL
  have hT := Ty.table_of (show laidMet Tryz.prog (("math/bits.deBruijn32tab", Rows.laid_math_bits_deBruijn32tab) :: ("math/bits.deBruijn64tab", Rows.laid_math_bits_deBruijn64tab) :: ("internal/strconv.uint64pow10", Lib.tabData .u64 Ty.jT) :: _) W from hL)
  clear hA0 hval0 hL
  simp only [List.append_nil] at hW'
  have stays : ∀ {t : Nat} {v : Value} {d : DataW H} {q : List MemPlace} (W' : World) (sp : Nat → Bool), Tryz.prog.readableRec t = true → t < Tryz.prog.types.size → DataW.Trod enc Tryz.prog W 0 (fun _ => true) true t v d q → (∀ x ∈ q, x ∈ p1 ++ p2) → Below W.heap.size W W' → (∀ x ∈ p1 ++ p2, sp x.block = true) → DataW.Trod enc Tryz.prog W' 0 sp true t v d q := fun W' sp hr ht h hq hb hs =>
    WideElems.Trod_stays laid hr ht h (fun x hx => hb.same (hW'.lt x (hq x hx))) (fun x hx => hs x (hq x hx))
  have q1 : ∀ x ∈ p1, x ∈ p1 ++ p2 := fun x hx => List.mem_append_left _ hx
  have q2 : ∀ x ∈ p2, x ∈ p1 ++ p2 := fun x hx => List.mem_append_right _ hx
  refine (Ty.tb Kn.known W c c2 hT hv vQ).mono fun e W' ⟨he, hg⟩ => ?_
  subst he
  exact ⟨_, rfl, Nb (pa := p1 ++ p2) (pv := []) hW' (fun _ _ _ => (trodAll_cons_mk (shut_bool Tryz.underlying4 _) trodAll_mk0)) (fun sp hs => trodAll_mk2 (stays _ sp (by kernel_rfl) (of_decide_eq_true (by kernel_rfl)) h1 q1 hg hs) (stays _ sp (by kernel_rfl) (of_decide_eq_true (by kernel_rfl)) h2 q2 hg hs)) (fun _ _ => rfl) (by rw [List.append_nil]) hg
    (ok_one (by kernel_rfl) rfl (okWide_bool_mk Tryz.underlying4 _))⟩

theorem over : Rows.ReadPrintsSaid :=
  OpenClaim.holds_of_wide 4 Tryz.f4 rfl rfl rfl rfl rfl rfl rfl ⟨rfl, rfl, rfl, rfl, rfl⟩ rfl rfl rfl rfl rfl (by kernel_rfl) Tryz.func4 XL
    (of_decide_eq_true (by kernel_rfl)) (by unfold Func.isWrapper; first | (rw [if_pos (by decide +kernel)]; kernel_rfl) | (rw [if_neg (by decide +kernel)]; exact ⟨rfl, rfl⟩))
    (fun os started H enc _ => lifted os started H enc)

/-- The statement. -/
theorem proved : Rows.ReadPrintsCardSaid :=
  Claim7.holds_tied_plain_at .later [] [.data, .data, .data] true (true, "84de658d01dca045e5eeef07efe4a8c3e5e12e32758f20c97336b490e30fc8c2") true over (fun _ h => by cases h) (by kernel_rfl) (fun _ h => by cases h) readPrints_row_tie rfl ⟨rfl, rfl⟩ (by kernel_rfl) rfl
    (fun f fn hf sg => by
      obtain rfl : f = 4 := Option.some.inj ((show Tryz.prog.funcNamed "swingle/swinglelaw02.ReadPrints" = some 4 by kernel_rfl).symm.trans hf) |>.symm
      obtain rfl : fn = Tryz.f4 := (Option.some.inj (Tryz.func4.symm.trans sg)).symm
      exact ⟨by kernel_rfl, fun j t ht => by
        rw [Tryz.params4] at ht
        rcases j with _ | _ | j
        · obtain rfl : 43 = t := Option.some.inj ht
          exact (show Tryz.prog.wantsStandIn 43 = false by kernel_rfl)
        · obtain rfl : 47 = t := Option.some.inj ht
          exact (show Tryz.prog.wantsStandIn 47 = false by kernel_rfl)
        · simp at ht⟩)
    (by kernel_rfl)
#print axioms proved
end Go.Proofs.YtfhimfcbphepeaaGreatDoor.readPrints
