/- The law Known. For every input that the card allows the law returns true and leaves its input as it was; no condition beyond the card's own. -/
import Derived.Test.YtmojbghcngdkpaaGreatDoorTie
import Derived.Test.YtmojbghcngdkpaaGreatDoorCards
import Derived.Test.YtmojbghcngdkpaaGreatDoorG06
import Derived.Test.YtmojbghcngdkpaaGreatDoorG07

set_option linter.unusedVariables false
set_option linter.unusedSimpArgs false
set_option linter.unusedSectionVars false

namespace Go.Proofs.YtmojbghcngdkpaaGreatDoor
open Go.ChangeShapes Go.WideShapes Go.ChangeAt Go.RowKit Go.Eng Go.Plain
set_option maxRecDepth 100000 in
theorem programsKnown_lifted (os : Os) (started : os.Started) (H : Type) (enc : TypeId × Value → H) :
    ReturnsInHanded {} Tryz.checked os 15 .any (fun w args => (Rows.programsKnownSpec.pre enc Tryz.prog Tryz.f15 [] false w args ∧ laidMetH Tryz.prog Rows.programsKnownRow.laid w) ∧ sizedMet enc Tryz.prog Tryz.f15 (OpenSpec.ofChange Rows.programsKnownSpec) false w args)
      (Rows.programsKnownSpec.post enc Tryz.prog Tryz.f15 false true false false) := by
  refine handed_of (C := Tryz.checked) (X := fun w _ => laidMetH Tryz.prog Rows.programsKnownRow.laid w) (fun _ _ _ hh h => h.of_heap hh) own started (by kernel_rfl) Tryz.func15
    (ChangeSpec.witness_shaped (enc := enc) (C := Tryz.checked) (os := os) (X := fun w _ => laidMetH Tryz.prog Rows.programsKnownRow.laid w) false (World.laidAll Tryz.prog os Rows.programsKnownRow.laid) #[] 8 (World.laidAll_os _ _ _)
      (World.shaped_of_ZipB (by kernel_rfl) (by kernel_rfl)) (by kernel_rfl) (by kernel_rfl) (by kernel_rfl)
      (by rw [MakeChecks.laidMetH_plain _ _ _ (by kernel_rfl)]; exact laidMet_laidAll _ (by kernel_rfl) (by kernel_rfl))) ?_
  intro W base args ds gs before hval0 hW hL hsh
  have hval : ∀ (j : Nat) t v, Tryz.f15.params[j]? = some t → args[j]? = some v → Value.okWide Tryz.prog W .any base t v := hval0
  have hglob := globs_of hL hsh
  have hW' := hW
  obtain ⟨p, q, hA0, hV, rfl, hfz, hnd⟩ := hW
  have hA : DataW.TrodAll enc Tryz.prog W 0 (fun _ => true) true Tryz.f15.params.toList args.toList ds p := hA0
  rw [Tryz.params15] at hA hval
  obtain ⟨hargs, rfl, rfl⟩ := trodAll_nil hA
  obtain rfl : args = #[] := Array.ext' (by simpa using hargs)
  obtain ⟨rfl, rfl⟩ := trodVars_none hV
  clear hA0 hval0
  refine (law_calls (law_known) (W := W) (args := #[]) rfl hglob).mono fun e W' ⟨he, bel⟩ => ?_
  subst he
  exact ⟨_, rfl, _, _, _, [], _, [], hW', trodAll_mk1 (shut_bool Tryz.underlying4 _), trodAll_mk0, rfl, bel.frame _, fun h => by cases h⟩

theorem programsKnown_b1 : (Rows.programsKnownRow.inPlace == Tryz.prog.inPlace 15) = true := by kernel_rfl
theorem programsKnown_b2 : (Rows.programsKnownRow.unfollowed == Tryz.prog.unfollowed 15) = true := by kernel_rfl
theorem programsKnown_b3 : (Rows.programsKnownRow.recurses == Tryz.prog.recurses 15) = true := by kernel_rfl
theorem programsKnown_b4 : (Rows.programsKnownRow.named == Tryz.prog.varsNamed 15) = true := by kernel_rfl
theorem programsKnown_a1 : Rows.programsKnownRow.wf (OpenSpec.ofChange Rows.programsKnownSpec) = true := by kernel_rfl
theorem programsKnown_closed : joinedFacts Tryz.prog 15 Tryz.f15 Rows.programsKnownSpec Rows.programsKnownRow = true := by
  unfold joinedFacts
  exact (and2 (and2 (and2 (and2 (and2 (and2 (and2 (and2 (and2 (and2 (and2 (and2 (and2 (and2 (and2 (and2 (and2 (and2 (and2 (and2 (and2 (and2 (and2 (and2 (and2 (and2 (and2 (and2 (and2 (and2 (and2 programsKnown_a1 laidOut) pf_maps) (by kernel_rfl)) (by kernel_rfl)) (by kernel_rfl)) (by kernel_rfl)) (by kernel_rfl)) (by kernel_rfl)) programsKnown_b1) programsKnown_b2) programsKnown_b3) programsKnown_b4) (by kernel_rfl)) (by kernel_rfl)) (by kernel_rfl)) (by kernel_rfl)) (by kernel_rfl)) (by kernel_rfl)) (by kernel_rfl)) (by kernel_rfl)) (by kernel_rfl)) pf_keys) (by kernel_rfl)) pf_heard) pf_enter) pf_lifts) pf_make) (by kernel_rfl)) (by kernel_rfl)) (by kernel_rfl)) (by kernel_rfl))
theorem programsKnown_row : Rows.programsKnownRow.holds Tryz.pinned (OpenSpec.ofChange Rows.programsKnownSpec) :=
  OpenClaim.holds_of_wide 15 Tryz.f15 rfl rfl rfl rfl rfl rfl rfl ⟨rfl, rfl, rfl, rfl, rfl⟩ rfl rfl rfl rfl rfl (by kernel_rfl) Tryz.func15 programsKnown_closed
    (of_decide_eq_true (by kernel_rfl)) (by unfold Func.isWrapper; first | (rw [if_pos (by decide +kernel)]; kernel_rfl) | (rw [if_neg (by decide +kernel)]; exact ⟨rfl, rfl⟩))
    (fun os started H enc _ => programsKnown_lifted os started H enc)
theorem programsKnown_holds : Rows.ProgramsKnownCardSaid :=
  Claim7.holds_tied_plain_at .later [] [.data, .data, .data, .data, .sentinel, .sentinel, .pinned] true (true, "a96e9f6bf76b45ab3a89c1000cebd0c1c4b389b439417acd4c3f1e5305db6828") true
    programsKnown_row (fun _ h => by cases h) (by kernel_rfl) (fun _ h => by cases h) programsKnown_row_tie rfl ⟨rfl, rfl⟩ (by kernel_rfl) rfl
    (fun f fn hf hfn => by
      obtain rfl : f = 15 := Option.some.inj ((show Tryz.prog.funcNamed "caisson/caissonlaw23.ProgramsKnown" = some 15 by kernel_rfl).symm.trans hf) |>.symm
      obtain rfl : fn = Tryz.f15 := (Option.some.inj (Tryz.func15.symm.trans hfn)).symm
      exact ⟨by kernel_rfl, fun j t ht => by
        rw [Tryz.params15] at ht
        have hm : t ∈ [] := by simpa using Array.mem_of_getElem? ht
        have hall : ([].all fun u => !Tryz.prog.wantsStandIn u) = true := by kernel_rfl
        exact (show Tryz.prog.wantsStandIn t = false by simpa using List.all_eq_true.1 hall t hm)⟩)
    (by kernel_rfl)
end Go.Proofs.YtmojbghcngdkpaaGreatDoor
