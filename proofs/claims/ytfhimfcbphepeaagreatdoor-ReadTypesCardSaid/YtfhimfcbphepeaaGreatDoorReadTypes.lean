/- The function swingle/swinglelaw02.ReadTypes returns true for every list of data types, string and type, and reads them alone, if the listed tables of the library hold what the program's text lays (which the card ties): contracts of the functions that it calls are proved over an abstract machine whose soundness over the model is proved in the texts Am..; its closed part is run by that machine, and every run is checked by the kernel; no run reads a listed table. The frame is the guide's own shell. -/
import Derived.Test.YtfhimfcbphepeaaGreatDoorTie
import Derived.WalkKit
import Derived.ProofKit
import Derived.OpenShut
import Derived.Below
import Derived.ChangeSame
import Derived.LaidMore
import Derived.Lay
import Derived.SevenTiedAt
import Derived.Stop.Joined
import Derived.Test.YtfhimfcbphepeaaGreatDoorCards
import Derived.ChangeMaps5
import Derived.WideKeyArgs
import Derived.Test.YtfhimfcbphepeaaGreatDoorKnAll
import Derived.Test.YtfhimfcbphepeaaGreatDoorCdG
import Derived.Test.YtfhimfcbphepeaaGreatDoorReadTypesFacts
namespace Go.Proofs.YtfhimfcbphepeaaGreatDoor.readTypes
open Ty Go.ChangeShapes Go.WideShapes Go.ChangeAt Go.RowKit Go.ChangeMaps
set_option linter.unusedVariables false      -- a walk iU not use every one (that an integer argument fits its kind)

theorem laid : laidOutB Tryz.prog = true := fact1
theorem Ri : Am.rJ Tryz.prog [22, 54, 9, 3, 52, 24, 26, 23] = true := by kernel_rfl
theorem own : ownKnob Tryz.prog.godebug = none := by kernel_rfl

/-! What the call's last step asks, of what lies below the world's end alone (the guide's own lemma). -/
section
variable {H : Type} {enc : TypeId × Value → H} {P : Program}
theorem Mh {f : Func} {s : ChangeSpec} {apart fresh handsOn again : Bool} {W W' : World} {args : Array Value} {v : Value} {ds gs : List (DataW H)} {before pa pv : List MemPlace}
    (hW : DataW.Whole enc P f.params.toList s.vars apart W args.toList ds gs before)
    (sO : ∀ (b : Nat) (sp : Nat → Bool) (hd : Bool), DataW.TrodAll enc P W' b sp hd f.resultTypes.toList (v.resultList f.resultTypes.size) (s.fn H (ds ++ gs)).results [])
    (XY : ∀ sp : Nat → Bool, (∀ p ∈ before, sp p.block = true) → DataW.TrodAll enc P W' 0 sp true f.params.toList args.toList (s.fn H (ds ++ gs)).args pa)
    (hvars : ∀ sp : Nat → Bool, (∀ p ∈ before, sp p.block = true) → DataW.TrodVars enc P W' sp s.vars (s.fn H (ds ++ gs)).vars pv)
    (nD : before = pa ++ pv) (hb : Below W.heap.size W W')
    (X2 : ∀ (j : Nat) (t : TypeId) (r : Value), f.resultTypes[j]? = some t → (v.resultList f.resultTypes.size)[j]? = some r → Value.okWide P W' .any 0 t r) :
    s.post enc P f apart fresh handsOn again W args v W' := by
  have Co : ∀ p ∈ before, p.block < W.heap.size := fun p hp => hW.lt p hp
  have hold : ∀ p ∈ before, (fun b => decide (b < W.heap.size)) p.block = true := fun p hp => by simpa using Co p hp
  refine ⟨ds, gs, before, [], pa, pv, hW, sO _ _ _, XY _ hold, hvars _ hold, World.keptBut_mono (fun p hp => ⟨hp, ?_⟩) (hb.frame (· ∈ before)), fun _ => ?_⟩
  · rw [nD, List.mem_append] at hp
    exact Or.inr hp
  · obtain ⟨_, _, _, _, _, hz, hn⟩ := hW
    refine ⟨X2, _, _, ([] ++ pa) ++ pv, ⟨[] ++ pa, pv, trodAll_append (XY _ (fun _ _ => rfl)) (sO _ _ _), hvars _ (fun _ _ => rfl), rfl, ?_, ?_⟩, ?_⟩
    · intro b off hp
      have hin : MemPlace.cell b off ∈ before := by rw [nD]; simpa using hp
      rw [hb.frozen (Co _ hin)]
      exact hz b off hin
    · intro ha
      have := hn ha
      rw [nD] at this
      simpa using this
    · intro p hp _
      rw [nD]
      simpa using hp
end

/-! ### The row's step -/
set_option maxRecDepth 100000 in
theorem lifted (os : Os) (started : os.Started) (H : Type) (enc : TypeId × Value → H) :
    ReturnsInHanded {} Tryz.checked os 3 .any (fun w args => (Rows.readTypesSpec.pre enc Tryz.prog Tryz.f3 Rows.readTypesRow.domain false w args ∧ laidMetH Tryz.prog Rows.readTypesRow.laid w) ∧ sizedMet enc Tryz.prog Tryz.f3 (OpenSpec.ofChange Rows.readTypesSpec) false w args)
      (Rows.readTypesSpec.post enc Tryz.prog Tryz.f3 false true false false) := by
  refine returnsInHanded_of_change_and (C := Tryz.checked) (X := fun w _ => laidMetH Tryz.prog Rows.readTypesRow.laid w) (fun _ _ _ hh h => h.of_heap hh) own started (by kernel_rfl) Tryz.func3
    (ChangeSpec.witness_shaped (enc := enc) (C := Tryz.checked) (os := os) (X := fun w _ => laidMetH Tryz.prog Rows.readTypesRow.laid w) false (World.laidAll Tryz.prog os Rows.readTypesRow.laid) #[.slice .none 0 0, .string ⟨#[]⟩, .agg #[.int .i64 0, .int .i64 0, .slice .none 0 0]] 8 (World.laidAll_os _ _ _)
      (World.shaped_of_ZipB (by kernel_rfl) (by kernel_rfl)) (by kernel_rfl) (by kernel_rfl) (by kernel_rfl)
      (by rw [MakeChecks.laidMetH_plain _ _ _ (by kernel_rfl)]; exact laidMet_laidAll _ (by kernel_rfl) (by kernel_rfl))) ?_
  intro W base args ds gs before hval0 hW hcnd _ hL _
  have iw : ∀ (j : Nat) t v, Tryz.f3.params[j]? = some t → args[j]? = some v → Value.okWide Tryz.prog W .any base t v := hval0
  have hW' := hW
  obtain ⟨p, q, hA0, hV, rfl, hfz, aB⟩ := hW
  have hA : DataW.TrodAll enc Tryz.prog W 0 (fun _ => true) true Tryz.f3.params.toList args.toList ds p := hA0
  rw [Tryz.params3] at hA iw
  obtain ⟨v, v2, v3, d, d2, d3, p1, p2, p3, rfl, rfl, rfl, h1, h2, h3⟩ := trodAll_three hA
  obtain ⟨rfl, rfl⟩ := trodVars_none hV
  obtain ⟨av1, hv, du⟩ := Am.VC Ri (t := 22) (by decide) Tryz.underlying22 (iw 0 22 v rfl rfl) h1
  obtain ⟨ds, iE⟩ := data_Ds du
  obtain rfl := List.cons.inj iE |>.1
  obtain ⟨str, rfl⟩ := okWide_string Tryz.underlying9 (iw 1 9 v2 rfl rfl)
  obtain ⟨av3, hv3, hd3⟩ := Am.SD Ri (t := 26) (by decide) Tryz.underlying26 (iw 2 26 v3 rfl rfl) h3
  obtain ⟨c, rfl⟩ := data_T hd3
  clear hA0 hval0
  simp only [List.append_nil] at hW'
  have stays : ∀ {t : Nat} {v : Value} {d : DataW H} {q : List MemPlace} (W' : World) (sp : Nat → Bool), Tryz.prog.readableRec t = true → t < Tryz.prog.types.size → DataW.Trod enc Tryz.prog W 0 (fun _ => true) true t v d q → (∀ x ∈ q, x ∈ p1 ++ p2 ++ p3) → Below W.heap.size W W' → (∀ x ∈ p1 ++ p2 ++ p3, sp x.block = true) → DataW.Trod enc Tryz.prog W' 0 sp true t v d q := fun W' sp hr ht h hq hb hs =>
    WideElems.Trod_stays laid hr ht h (fun x hx => hb.same (hW'.lt x (hq x hx))) (fun x hx => hs x (hq x hx))
  have q1 : ∀ x ∈ p1, x ∈ p1 ++ p2 ++ p3 := fun x hx => List.mem_append_left _ (List.mem_append_left _ hx)
  have q2 : ∀ x ∈ p2, x ∈ p1 ++ p2 ++ p3 := fun x hx => List.mem_append_left _ (List.mem_append_right _ hx)
  have q3 : ∀ x ∈ p3, x ∈ p1 ++ p2 ++ p3 := fun x hx => List.mem_append_right _ hx
  refine (Ty.pM Kn.known W ds str.data.toList c hv (.str rfl) hv3).mono fun e W' ⟨he, hg⟩ => ?_
  subst he
  exact ⟨_, rfl, Mh (pa := p1 ++ (p2 ++ p3)) (pv := []) hW' (fun _ _ _ => (trodAll_cons_mk (shut_bool Tryz.underlying4 _) trodAll_mk0)) (fun sp hs => trodAll_mk3 (stays _ sp (by kernel_rfl) (of_decide_eq_true (by kernel_rfl)) h1 q1 hg hs) (stays _ sp (by kernel_rfl) (of_decide_eq_true (by kernel_rfl)) h2 q2 hg hs) (stays _ sp (by kernel_rfl) (of_decide_eq_true (by kernel_rfl)) h3 q3 hg hs)) (fun _ _ => rfl) (by rw [List.append_nil, List.append_assoc]) hg
    (ok_one (by kernel_rfl) rfl (okWide_bool_mk Tryz.underlying4 _))⟩

theorem over : Rows.ReadTypesSaid :=
  OpenClaim.holds_of_wide 3 Tryz.f3 rfl rfl rfl rfl rfl rfl rfl ⟨rfl, rfl, rfl, rfl, rfl⟩ rfl rfl rfl rfl rfl (by kernel_rfl) Tryz.func3 Vz
    (of_decide_eq_true (by kernel_rfl)) (by unfold Func.isWrapper; first | (rw [if_pos (by decide +kernel)]; kernel_rfl) | (rw [if_neg (by decide +kernel)]; exact ⟨rfl, rfl⟩))
    (fun os started H enc _ => lifted os started H enc)

/-- The statement. -/
theorem proved : Rows.ReadTypesCardSaid :=
  Claim7.holds_tied_plain_at .later [] [.data, .data, .data] true (true, "84de658d01dca045e5eeef07efe4a8c3e5e12e32758f20c97336b490e30fc8c2") true over (fun _ h => by cases h) (by kernel_rfl) (fun _ h => by cases h) readTypes_row_tie rfl ⟨rfl, rfl⟩ (by kernel_rfl) rfl
    (fun f fn hf nO => by
      obtain rfl : f = 3 := Option.some.inj ((show Tryz.prog.funcNamed "swingle/swinglelaw02.ReadTypes" = some 3 by kernel_rfl).symm.trans hf) |>.symm
      obtain rfl : fn = Tryz.f3 := (Option.some.inj (Tryz.func3.symm.trans nO)).symm
      exact ⟨by kernel_rfl, fun j t ht => by
        rw [Tryz.params3] at ht
        rcases j with _ | _ | _ | j
        · obtain rfl : 22 = t := Option.some.inj ht
          exact (show Tryz.prog.wantsStandIn 22 = false by kernel_rfl)
        · obtain rfl : 9 = t := Option.some.inj ht
          exact (show Tryz.prog.wantsStandIn 9 = false by kernel_rfl)
        · obtain rfl : 26 = t := Option.some.inj ht
          exact (show Tryz.prog.wantsStandIn 26 = false by kernel_rfl)
        · simp at ht⟩)
    (by kernel_rfl)
#print axioms proved
end Go.Proofs.YtfhimfcbphepeaaGreatDoor.readTypes
