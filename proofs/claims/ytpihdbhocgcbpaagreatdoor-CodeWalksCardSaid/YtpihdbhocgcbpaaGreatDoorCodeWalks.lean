/- The function swingle/swinglelaw19.CodeWalks returns true for every code program, byte and list of bytes, and reads them alone, if the listed tables of the library hold what the program's text lays (which the card ties): contracts of the functions that it calls are proved over an abstract machine whose soundness over the model is proved in the texts Am..; its closed part is run by that machine, and every run is checked by the kernel; no run reads a listed table. The frame is the guide's own shell. -/
import Derived.Test.YtpihdbhocgcbpaaGreatDoorTie
import Derived.WalkKit
import Derived.ProofKit
import Derived.OpenShut
import Derived.Below
import Derived.ChangeSame
import Derived.LaidMore
import Derived.Lay
import Derived.SevenTiedAt
import Derived.Stop.Joined
import Derived.Test.YtpihdbhocgcbpaaGreatDoorCards
import Derived.ChangeMaps5
import Derived.WideKeyArgs
import Derived.Test.YtpihdbhocgcbpaaGreatDoorKnAll
import Derived.Test.YtpihdbhocgcbpaaGreatDoorCdD
import Derived.Test.YtpihdbhocgcbpaaGreatDoorCodeWalksFacts
namespace Go.Proofs.YtpihdbhocgcbpaaGreatDoor.codeWalks
open Go.ChangeShapes Go.WideShapes Go.ChangeAt Go.RowKit Go.ChangeMaps
set_option linter.unusedVariables false      -- a walk need not use every one (that an integer argument fits its kind)

theorem laid : laidOutB Tryz.prog = true := fact1
theorem argTypes : Am.dataB Tryz.prog [5, 52, 28, 24, 54, 58, 60, 55, 37, 3, 9, 26, 56, 22, 25] = true := by kernel_rfl
theorem own : ownKnob Tryz.prog.godebug = none := by kernel_rfl

/-! What the call's last step asks, of what lies below the world's end alone (the guide's own lemma). -/
section
variable {H : Type} {enc : TypeId × Value → H} {P : Program}
theorem post_of_below {f : Func} {s : ChangeSpec} {apart fresh handsOn again : Bool} {W W' : World} {args : Array Value} {v : Value} {ds gs : List (DataW H)} {before pa pv : List MemPlace}
    (hW : DataW.Whole enc P f.params.toList s.vars apart W args.toList ds gs before)
    (hres : ∀ (b : Nat) (sp : Nat → Bool) (hd : Bool), DataW.TrodAll enc P W' b sp hd f.resultTypes.toList (v.resultList f.resultTypes.size) (s.fn H (ds ++ gs)).results [])
    (hargs : ∀ sp : Nat → Bool, (∀ p ∈ before, sp p.block = true) → DataW.TrodAll enc P W' 0 sp true f.params.toList args.toList (s.fn H (ds ++ gs)).args pa)
    (hvars : ∀ sp : Nat → Bool, (∀ p ∈ before, sp p.block = true) → DataW.TrodVars enc P W' sp s.vars (s.fn H (ds ++ gs)).vars pv)
    (hps : before = pa ++ pv) (hb : Below W.heap.size W W')
    (hok : ∀ (j : Nat) (t : TypeId) (r : Value), f.resultTypes[j]? = some t → (v.resultList f.resultTypes.size)[j]? = some r → Value.okWide P W' .any 0 t r) :
    s.post enc P f apart fresh handsOn again W args v W' := by
  have hlt : ∀ p ∈ before, p.block < W.heap.size := fun p hp => hW.lt p hp
  have hold : ∀ p ∈ before, (fun b => decide (b < W.heap.size)) p.block = true := fun p hp => by simpa using hlt p hp
  refine ⟨ds, gs, before, [], pa, pv, hW, hres _ _ _, hargs _ hold, hvars _ hold, World.keptBut_mono (fun p hp => ⟨hp, ?_⟩) (hb.frame (· ∈ before)), fun _ => ?_⟩
  · rw [hps, List.mem_append] at hp
    exact Or.inr hp
  · obtain ⟨_, _, _, _, _, hz, hn⟩ := hW
    refine ⟨hok, _, _, ([] ++ pa) ++ pv, ⟨[] ++ pa, pv, trodAll_append (hargs _ (fun _ _ => rfl)) (hres _ _ _), hvars _ (fun _ _ => rfl), rfl, ?_, ?_⟩, ?_⟩
    · intro b off hp
      have hin : MemPlace.cell b off ∈ before := by rw [hps]; simpa using hp
      rw [hb.frozen (hlt _ hin)]
      exact hz b off hin
    · intro ha
      have := hn ha
      rw [hps] at this
      simpa using this
    · intro p hp _
      rw [hps]
      simpa using hp
end

/-! ### The row's step -/
set_option maxRecDepth 100000 in
theorem lifted (os : Os) (started : os.Started) (H : Type) (enc : TypeId × Value → H) :
    ReturnsInHanded {} Tryz.checked os 7 .any (fun w args => (Rows.codeWalksSpec.pre enc Tryz.prog Tryz.f7 Rows.codeWalksRow.domain false w args ∧ laidMetH Tryz.prog Rows.codeWalksRow.laid w) ∧ sizedMet enc Tryz.prog Tryz.f7 (OpenSpec.ofChange Rows.codeWalksSpec) false w args)
      (Rows.codeWalksSpec.post enc Tryz.prog Tryz.f7 false true false false) := by
  refine returnsInHanded_of_change_and (C := Tryz.checked) (X := fun w _ => laidMetH Tryz.prog Rows.codeWalksRow.laid w) (fun _ _ _ hh h => h.of_heap hh) own started (by kernel_rfl) Tryz.func7
    (ChangeSpec.witness_shaped (enc := enc) (C := Tryz.checked) (os := os) (X := fun w _ => laidMetH Tryz.prog Rows.codeWalksRow.laid w) false (World.laidAll Tryz.prog os Rows.codeWalksRow.laid) #[.agg #[.slice .none 0 0, .slice .none 0 0, .slice .none 0 0, .slice .none 0 0], .int .u8 0, .slice .none 0 0] 8 (World.laidAll_os _ _ _)
      (World.shaped_of_ZipB (by kernel_rfl) (by kernel_rfl)) (by kernel_rfl) (by kernel_rfl) (by kernel_rfl)
      (by rw [MakeChecks.laidMetH_plain _ _ _ (by kernel_rfl)]; exact laidMet_laidAll _ (by kernel_rfl) (by kernel_rfl))) ?_
  intro W base args ds gs before hval0 hW hcnd _ hL _
  have hval : ∀ (j : Nat) t v, Tryz.f7.params[j]? = some t → args[j]? = some v → Value.okWide Tryz.prog W .any base t v := hval0
  have hW' := hW
  obtain ⟨p, q, hA0, hV, rfl, hfz, hnd⟩ := hW
  have hA : DataW.TrodAll enc Tryz.prog W 0 (fun _ => true) true Tryz.f7.params.toList args.toList ds p := hA0
  rw [Tryz.params7] at hA hval
  obtain ⟨v, v2, v3, d, d2, d3, p1, p2, p3, rfl, rfl, rfl, h1, h2, h3⟩ := trodAll_three hA
  obtain ⟨rfl, rfl⟩ := trodVars_none hV
  obtain ⟨avs, hv, hd⟩ := Am.arg_struct argTypes (t := 28) (by decide) Tryz.underlying28 (hval 0 28 v rfl rfl) h1
  obtain ⟨c, rfl⟩ := data_C hd
  obtain ⟨kb, rfl⟩ := okWide_int Tryz.underlying5 (hval 1 5 v2 rfl rfl)
  have hd2 : Am.Data Tryz.prog 5 [.int .u8 kb] := by
    obtain ⟨n2, hn2⟩ := h2
    obtain ⟨k', e0, -, wk⟩ := DataW.trod_int Tryz.underlying5 hn2
    obtain rfl : kb = k' := (Value.int.inj (List.cons.inj (show [Value.int .u8 kb] = [Value.int .u8 k'] from e0)).1).2
    exact .int Tryz.underlying5 wk
  obtain ⟨fb, hfb⟩ := data_u8 hd2 Tryz.underlying5
  obtain rfl : kb = ((fb.1 : Nat) : Int) := (Am.AV.int.inj (List.cons.inj hfb).1).2
  have hv2 : Am.VR (Am.Cx.memory W) (.int .u8 (fb.1 : Nat)) (.int .u8 (fb.1 : Nat)) := .int _ _
  obtain ⟨av3, hv3, hd3⟩ := Am.arg_slice argTypes (t := 52) (by decide) Tryz.underlying52 (hval 2 52 v3 rfl rfl) h3
  obtain ⟨ws, hws⟩ := data_u8s hd3
  obtain rfl := List.cons.inj hws |>.1
  clear hA0 hval0
  simp only [List.append_nil] at hW'
  have stays : ∀ {t : Nat} {v : Value} {d : DataW H} {q : List MemPlace} (W' : World) (sp : Nat → Bool), Tryz.prog.readableRec t = true → t < Tryz.prog.types.size → DataW.Trod enc Tryz.prog W 0 (fun _ => true) true t v d q → (∀ x ∈ q, x ∈ p1 ++ p2 ++ p3) → Below W.heap.size W W' → (∀ x ∈ p1 ++ p2 ++ p3, sp x.block = true) → DataW.Trod enc Tryz.prog W' 0 sp true t v d q := fun W' sp hr ht h hq hb hs =>
    WideElems.Trod_stays laid hr ht h (fun x hx => hb.same (hW'.lt x (hq x hx))) (fun x hx => hs x (hq x hx))
  have q1 : ∀ x ∈ p1, x ∈ p1 ++ p2 ++ p3 := fun x hx => List.mem_append_left _ (List.mem_append_left _ hx)
  have q2 : ∀ x ∈ p2, x ∈ p1 ++ p2 ++ p3 := fun x hx => List.mem_append_left _ (List.mem_append_right _ hx)
  have q3 : ∀ x ∈ p3, x ∈ p1 ++ p2 ++ p3 := fun x hx => List.mem_append_right _ hx
  refine (walks_calls Kn.known W c fb ws hv hv2 hv3).mono fun e W' ⟨he, hg⟩ => ?_
  subst he
  exact ⟨_, rfl, post_of_below (pa := p1 ++ (p2 ++ p3)) (pv := []) hW' (fun _ _ _ => (trodAll_cons_mk (shut_bool Tryz.underlying4 _) trodAll_mk0)) (fun sp hs => trodAll_mk3 (stays _ sp (by kernel_rfl) (of_decide_eq_true (by kernel_rfl)) h1 q1 hg hs) (stays _ sp (by kernel_rfl) (of_decide_eq_true (by kernel_rfl)) h2 q2 hg hs) (stays _ sp (by kernel_rfl) (of_decide_eq_true (by kernel_rfl)) h3 q3 hg hs)) (fun _ _ => rfl) (by rw [List.append_nil, List.append_assoc]) hg
    (ok_one (by kernel_rfl) rfl (okWide_bool_mk Tryz.underlying4 _))⟩

theorem over : Rows.CodeWalksSaid :=
  OpenClaim.holds_of_wide 7 Tryz.f7 rfl rfl rfl rfl rfl rfl rfl ⟨rfl, rfl, rfl, rfl, rfl⟩ rfl rfl rfl rfl rfl (by kernel_rfl) Tryz.func7 closed
    (of_decide_eq_true (by kernel_rfl)) (by unfold Func.isWrapper; first | (rw [if_pos (by decide +kernel)]; kernel_rfl) | (rw [if_neg (by decide +kernel)]; exact ⟨rfl, rfl⟩))
    (fun os started H enc _ => lifted os started H enc)

/-- The statement. -/
theorem proved : Rows.CodeWalksCardSaid :=
  Claim7.holds_tied_plain_at .later [] [.data, .data, .data, .data, .pinned] true (true, "51dede4be561a9c1a0eaf5377c89ea2e06d1199a907e78ba5c3d9e8500b78221") true over (fun _ h => by cases h) (by kernel_rfl) (fun _ h => by cases h) codeWalks_row_tie rfl ⟨rfl, rfl⟩ (by kernel_rfl) rfl
    (fun f fn hf hfn => by
      obtain rfl : f = 7 := Option.some.inj ((show Tryz.prog.funcNamed "swingle/swinglelaw19.CodeWalks" = some 7 by kernel_rfl).symm.trans hf) |>.symm
      obtain rfl : fn = Tryz.f7 := (Option.some.inj (Tryz.func7.symm.trans hfn)).symm
      exact ⟨by kernel_rfl, fun j t ht => by
        rw [Tryz.params7] at ht
        rcases j with _ | _ | _ | j
        · obtain rfl : 28 = t := Option.some.inj ht
          exact (show Tryz.prog.wantsStandIn 28 = false by kernel_rfl)
        · obtain rfl : 5 = t := Option.some.inj ht
          exact (show Tryz.prog.wantsStandIn 5 = false by kernel_rfl)
        · obtain rfl : 52 = t := Option.some.inj ht
          exact (show Tryz.prog.wantsStandIn 52 = false by kernel_rfl)
        · simp at ht⟩)
    (by kernel_rfl)
#print axioms proved
end Go.Proofs.YtpihdbhocgcbpaaGreatDoor.codeWalks
