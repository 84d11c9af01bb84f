/- For every two lists of programs the law ProgramsSame returns true and leaves its input as it was; no condition beyond the card's own. -/
import Derived.Test.YtmojbghcngdkpaaGreatDoorTie
import Derived.Test.YtmojbghcngdkpaaGreatDoorCards
import Derived.Test.YtmojbghcngdkpaaGreatDoorG06

set_option linter.unusedVariables false
set_option linter.unusedSimpArgs false
set_option linter.unusedSectionVars false

namespace Go.Proofs.YtmojbghcngdkpaaGreatDoor
open Go.ChangeShapes Go.WideShapes Go.ChangeAt Go.RowKit Go.Eng Go.Plain
set_option maxRecDepth 100000 in
theorem programsSame_lifted (os : Os) (started : os.Started) (H : Type) (enc : TypeId × Value → H) :
    ReturnsInHanded {} Tryz.checked os 16 .any (fun w args => (Rows.programsSameSpec.pre enc Tryz.prog Tryz.f16 [] false w args ∧ laidMetH Tryz.prog Rows.programsSameRow.laid w) ∧ sizedMet enc Tryz.prog Tryz.f16 (OpenSpec.ofChange Rows.programsSameSpec) false w args)
      (Rows.programsSameSpec.post enc Tryz.prog Tryz.f16 false true false false) := by
  refine handed_of (C := Tryz.checked) (X := fun w _ => laidMetH Tryz.prog Rows.programsSameRow.laid w) (fun _ _ _ hh h => h.of_heap hh) own started (by kernel_rfl) Tryz.func16
    (ChangeSpec.witness_shaped (enc := enc) (C := Tryz.checked) (os := os) (X := fun w _ => laidMetH Tryz.prog Rows.programsSameRow.laid w) false (World.laidAll Tryz.prog os Rows.programsSameRow.laid) #[(.slice none 0 0), (.slice none 0 0)] 8 (World.laidAll_os _ _ _)
      (World.shaped_of_ZipB (by kernel_rfl) (by kernel_rfl)) (by kernel_rfl) (by kernel_rfl) (by kernel_rfl)
      (by rw [MakeChecks.laidMetH_plain _ _ _ (by kernel_rfl)]; exact laidMet_laidAll _ (by kernel_rfl) (by kernel_rfl))) ?_
  intro W base args ds gs before hval0 hW hL hsh
  have hval : ∀ (j : Nat) t v, Tryz.f16.params[j]? = some t → args[j]? = some v → Value.okWide Tryz.prog W .any base t v := hval0
  have hglob := globs_of hL hsh
  have hW' := hW
  obtain ⟨p, q, hA0, hV, rfl, hfz, hnd⟩ := hW
  have hA : DataW.TrodAll enc Tryz.prog W 0 (fun _ => true) true Tryz.f16.params.toList args.toList ds p := hA0
  rw [Tryz.params16] at hA hval
  obtain ⟨v0, vs0, d0, ds0, p0, q0, hargs, rfl, rfl, h0, r0⟩ := trodAll_cons hA
  obtain ⟨v1, vs1, d1, ds1, p1, q1, rfl, rfl, rfl, h1, r1⟩ := trodAll_cons r0
  obtain ⟨rfl, rfl, rfl⟩ := trodAll_nil r1
  obtain rfl : args = #[v0, v1] := Array.ext' (by simpa using hargs)
  obtain ⟨rfl, rfl⟩ := trodVars_none hV
  have k0 := h0
  have lt0 : ∀ x ∈ p0, x.block < W.heap.size := by obtain ⟨m, hm⟩ := k0; exact DataW.trod_lt m _ _ _ hm
  obtain ⟨fuel0, hfu0⟩ := h0
  obtain ⟨x0, e0, _, w0⟩ := opens_progs H enc W _ _ fuel0 _ _ hfu0
  obtain ⟨ad0, ln0, cp0, hcs0⟩ := okWide_slice Tryz.underlying72 (hval 0 72 v0 rfl rfl)
  have rel0 : RelV (fun _ => none) W (fun _ => False) (.d (encPL x0)) v0 := e0.relV ⟨fun ⟨c, hc⟩ => (by rw [hcs0] at hc; cases hc), fun hc => (by cases hc)⟩
  have k1 := h1
  have lt1 : ∀ x ∈ p1, x.block < W.heap.size := by obtain ⟨m, hm⟩ := k1; exact DataW.trod_lt m _ _ _ hm
  obtain ⟨fuel1, hfu1⟩ := h1
  obtain ⟨x1, e1, _, w1⟩ := opens_progs H enc W _ _ fuel1 _ _ hfu1
  obtain ⟨ad1, ln1, cp1, hcs1⟩ := okWide_slice Tryz.underlying72 (hval 1 72 v1 rfl rfl)
  have rel1 : RelV (fun _ => none) W (fun _ => False) (.d (encPL x1)) v1 := e1.relV ⟨fun ⟨c, hc⟩ => (by rw [hcs1] at hc; cases hc), fun hc => (by cases hc)⟩
  clear hA0 hval0
  refine (law_calls (law_same x0 x1) (W := W) (args := #[v0, v1]) ⟨v0, [v1], rfl, ⟨rel0, trivial⟩, ⟨v1, [], rfl, ⟨rel1, trivial⟩, rfl⟩⟩ hglob).mono fun e W' ⟨he, bel⟩ => ?_
  subst he
  exact ⟨_, rfl, _, _, _, [], _, [], hW', trodAll_mk1 (shut_bool Tryz.underlying4 _), (trodAll_cons_mk (Below.trod laidOut (by kernel_rfl) (of_decide_eq_true (by kernel_rfl)) k0 bel lt0) (trodAll_cons_mk (Below.trod laidOut (by kernel_rfl) (of_decide_eq_true (by kernel_rfl)) k1 bel lt1) trodAll_mk0)), rfl, bel.frame _, fun h => by cases h⟩

theorem programsSame_b1 : (Rows.programsSameRow.inPlace == Tryz.prog.inPlace 16) = true := by kernel_rfl
theorem programsSame_b2 : (Rows.programsSameRow.unfollowed == Tryz.prog.unfollowed 16) = true := by kernel_rfl
theorem programsSame_b3 : (Rows.programsSameRow.recurses == Tryz.prog.recurses 16) = true := by kernel_rfl
theorem programsSame_b4 : (Rows.programsSameRow.named == Tryz.prog.varsNamed 16) = true := by kernel_rfl
theorem programsSame_a1 : Rows.programsSameRow.wf (OpenSpec.ofChange Rows.programsSameSpec) = true := by kernel_rfl
theorem programsSame_closed : joinedFacts Tryz.prog 16 Tryz.f16 Rows.programsSameSpec Rows.programsSameRow = true := by
  unfold joinedFacts
  exact (and2 (and2 (and2 (and2 (and2 (and2 (and2 (and2 (and2 (and2 (and2 (and2 (and2 (and2 (and2 (and2 (and2 (and2 (and2 (and2 (and2 (and2 (and2 (and2 (and2 (and2 (and2 (and2 (and2 (and2 (and2 programsSame_a1 laidOut) pf_maps) (by kernel_rfl)) (by kernel_rfl)) (by kernel_rfl)) (by kernel_rfl)) (by kernel_rfl)) (by kernel_rfl)) programsSame_b1) programsSame_b2) programsSame_b3) programsSame_b4) (by kernel_rfl)) (by kernel_rfl)) (by kernel_rfl)) (by kernel_rfl)) (by kernel_rfl)) (by kernel_rfl)) (by kernel_rfl)) (by kernel_rfl)) (by kernel_rfl)) pf_keys) (by kernel_rfl)) pf_heard) pf_enter) pf_lifts) pf_make) (by kernel_rfl)) (by kernel_rfl)) (by kernel_rfl)) (by kernel_rfl))
theorem programsSame_row : Rows.programsSameRow.holds Tryz.pinned (OpenSpec.ofChange Rows.programsSameSpec) :=
  OpenClaim.holds_of_wide 16 Tryz.f16 rfl rfl rfl rfl rfl rfl rfl ⟨rfl, rfl, rfl, rfl, rfl⟩ rfl rfl rfl rfl rfl (by kernel_rfl) Tryz.func16 programsSame_closed
    (of_decide_eq_true (by kernel_rfl)) (by unfold Func.isWrapper; first | (rw [if_pos (by decide +kernel)]; kernel_rfl) | (rw [if_neg (by decide +kernel)]; exact ⟨rfl, rfl⟩))
    (fun os started H enc _ => programsSame_lifted os started H enc)
theorem programsSame_holds : Rows.ProgramsSameCardSaid :=
  Claim7.holds_tied_plain_at .later [] [.data, .data, .data, .data, .sentinel, .sentinel, .pinned] true (true, "a96e9f6bf76b45ab3a89c1000cebd0c1c4b389b439417acd4c3f1e5305db6828") true
    programsSame_row (fun _ h => by cases h) (by kernel_rfl) (fun _ h => by cases h) programsSame_row_tie rfl ⟨rfl, rfl⟩ (by kernel_rfl) rfl
    (fun f fn hf hfn => by
      obtain rfl : f = 16 := Option.some.inj ((show Tryz.prog.funcNamed "caisson/caissonlaw23.ProgramsSame" = some 16 by kernel_rfl).symm.trans hf) |>.symm
      obtain rfl : fn = Tryz.f16 := (Option.some.inj (Tryz.func16.symm.trans hfn)).symm
      exact ⟨by kernel_rfl, fun j t ht => by
        rw [Tryz.params16] at ht
        have hm : t ∈ [72, 72] := by simpa using Array.mem_of_getElem? ht
        have hall : ([72, 72].all fun u => !Tryz.prog.wantsStandIn u) = true := by kernel_rfl
        exact (show Tryz.prog.wantsStandIn t = false by simpa using List.all_eq_true.1 hall t hm)⟩)
    (by kernel_rfl)
end Go.Proofs.YtmojbghcngdkpaaGreatDoor
