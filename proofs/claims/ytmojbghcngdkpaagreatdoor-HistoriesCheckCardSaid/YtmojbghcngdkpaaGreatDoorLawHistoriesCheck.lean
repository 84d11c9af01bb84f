/- Exactly the well-formed histories are accepted, with the first event that may not stand at its place, and the other functions return the error, for any history of at most 60 events with at most 70 bytes each and any client. No condition. -/
import Derived.Test.YtmojbghcngdkpaaGreatDoorTie
import Derived.Test.YtmojbghcngdkpaaGreatDoorCards
import Derived.Test.YtmojbghcngdkpaaGreatDoorG04
import Derived.Test.YtmojbghcngdkpaaGreatDoorG06

set_option linter.unusedVariables false
set_option linter.unusedSimpArgs false
set_option linter.unusedSectionVars false

namespace Go.Proofs.YtmojbghcngdkpaaGreatDoor
open Go.ChangeShapes Go.WideShapes Go.ChangeAt Go.RowKit Go.Eng Go.Plain
set_option maxRecDepth 100000 in
theorem historiesCheck_lifted (os : Os) (started : os.Started) (H : Type) (enc : TypeId × Value → H) :
    ReturnsInHanded {} Tryz.checked os 3 .any (fun w args => (Rows.historiesCheckSpec.pre enc Tryz.prog Tryz.f3 [] false w args ∧ laidMetH Tryz.prog Rows.historiesCheckRow.laid w) ∧ sizedMet enc Tryz.prog Tryz.f3 (OpenSpec.ofChange Rows.historiesCheckSpec) false w args)
      (Rows.historiesCheckSpec.post enc Tryz.prog Tryz.f3 false true false false) := by
  refine handed_of (C := Tryz.checked) (X := fun w _ => laidMetH Tryz.prog Rows.historiesCheckRow.laid w) (fun _ _ _ hh h => h.of_heap hh) own started (by kernel_rfl) Tryz.func3
    (ChangeSpec.witness_shaped (enc := enc) (C := Tryz.checked) (os := os) (X := fun w _ => laidMetH Tryz.prog Rows.historiesCheckRow.laid w) false (World.laidAll Tryz.prog os Rows.historiesCheckRow.laid) #[(.slice none 0 0), (.int .i64 0)] 8 (World.laidAll_os _ _ _)
      (World.shaped_of_ZipB (by kernel_rfl) (by kernel_rfl)) (by kernel_rfl) (by kernel_rfl) (by kernel_rfl)
      (by rw [MakeChecks.laidMetH_plain _ _ _ (by kernel_rfl)]; exact laidMet_laidAll _ (by kernel_rfl) (by kernel_rfl))) ?_
  intro W base args ds gs before hval0 hW hL hsh
  have hval : ∀ (j : Nat) t v, Tryz.f3.params[j]? = some t → args[j]? = some v → Value.okWide Tryz.prog W .any base t v := hval0
  have hglob := globs_of hL hsh
  have hW' := hW
  obtain ⟨p, q, hA0, hV, rfl, hfz, hnd⟩ := hW
  have hA : DataW.TrodAll enc Tryz.prog W 0 (fun _ => true) true Tryz.f3.params.toList args.toList ds p := hA0
  rw [Tryz.params3] at hA hval
  obtain ⟨v0, vs0, d0, ds0, p0, q0, hargs, rfl, rfl, h0, r0⟩ := trodAll_cons hA
  obtain ⟨v1, vs1, d1, ds1, p1, q1, rfl, rfl, rfl, h1, r1⟩ := trodAll_cons r0
  obtain ⟨rfl, rfl, rfl⟩ := trodAll_nil r1
  obtain rfl : args = #[v0, v1] := Array.ext' (by simpa using hargs)
  obtain ⟨rfl, rfl⟩ := trodVars_none hV
  have k0 := h0
  have lt0 : ∀ x ∈ p0, x.block < W.heap.size := by obtain ⟨m, hm⟩ := k0; exact DataW.trod_lt m _ _ _ hm
  obtain ⟨fuel0, hfu0⟩ := h0
  obtain ⟨x0, e0, _, w0⟩ := opens_events H enc W _ _ fuel0 _ _ hfu0
  obtain ⟨ad0, ln0, cp0, hcs0⟩ := okWide_slice Tryz.underlying22 (hval 0 22 v0 rfl rfl)
  have rel0 : RelV (fun _ => none) W (fun _ => False) (.d (encH x0)) v0 := e0.relV ⟨fun ⟨c, hc⟩ => (by rw [hcs0] at hc; cases hc), fun hc => (by cases hc)⟩
  have k1 := h1
  have lt1 : ∀ x ∈ p1, x.block < W.heap.size := by obtain ⟨m, hm⟩ := k1; exact DataW.trod_lt m _ _ _ hm
  obtain ⟨x1, e1, _, w1⟩ : ∃ m : Int, Enc W (fun _ => False) (.sc (.int .i64 m)) v1.cells.toList ∧ v1.cells.toList.length = 1 ∧ (Lit.int .i64 m).wf = true := by obtain ⟨fuel, hfu⟩ := h1; exact opens_int (P := Tryz.prog) Tryz.underlying3 H enc W _ _ fuel _ _ hfu
  obtain ⟨m1, hcs1⟩ := okWide_int Tryz.underlying3 (hval 1 3 v1 rfl rfl)
  have rel1 : RelV (fun _ => none) W (fun _ => False) (.d (.sc (.int .i64 x1))) v1 := e1.relV ⟨fun ⟨c, hc⟩ => (by rw [hcs1] at hc; cases hc), fun hc => (by cases hc)⟩
  clear hA0 hval0
  refine (law_calls (law24_check x0 w0 x1 (pi64_of w1).1 (pi64_of w1).2) (W := W) (args := #[v0, v1]) ⟨v0, [v1], rfl, ⟨rel0, trivial⟩, ⟨v1, [], rfl, ⟨rel1, trivial⟩, rfl⟩⟩ hglob).mono fun e W' ⟨he, bel⟩ => ?_
  subst he
  exact ⟨_, rfl, _, _, _, [], _, [], hW', trodAll_mk1 (shut_bool Tryz.underlying4 _), (trodAll_cons_mk (Below.trod laidOut (by kernel_rfl) (of_decide_eq_true (by kernel_rfl)) k0 bel lt0) (trodAll_cons_mk (Below.trod laidOut (by kernel_rfl) (of_decide_eq_true (by kernel_rfl)) k1 bel lt1) trodAll_mk0)), rfl, bel.frame _, fun h => by cases h⟩

theorem historiesCheck_b1 : (Rows.historiesCheckRow.inPlace == Tryz.prog.inPlace 3) = true := by kernel_rfl
theorem historiesCheck_b2 : (Rows.historiesCheckRow.unfollowed == Tryz.prog.unfollowed 3) = true := by kernel_rfl
theorem historiesCheck_b3 : (Rows.historiesCheckRow.recurses == Tryz.prog.recurses 3) = true := by kernel_rfl
theorem historiesCheck_b4 : (Rows.historiesCheckRow.named == Tryz.prog.varsNamed 3) = true := by kernel_rfl
theorem historiesCheck_a1 : Rows.historiesCheckRow.wf (OpenSpec.ofChange Rows.historiesCheckSpec) = true := by kernel_rfl
theorem historiesCheck_closed : joinedFacts Tryz.prog 3 Tryz.f3 Rows.historiesCheckSpec Rows.historiesCheckRow = true := by
  unfold joinedFacts
  exact (and2 (and2 (and2 (and2 (and2 (and2 (and2 (and2 (and2 (and2 (and2 (and2 (and2 (and2 (and2 (and2 (and2 (and2 (and2 (and2 (and2 (and2 (and2 (and2 (and2 (and2 (and2 (and2 (and2 (and2 (and2 historiesCheck_a1 laidOut) pf_maps) (by kernel_rfl)) (by kernel_rfl)) (by kernel_rfl)) (by kernel_rfl)) (by kernel_rfl)) (by kernel_rfl)) historiesCheck_b1) historiesCheck_b2) historiesCheck_b3) historiesCheck_b4) (by kernel_rfl)) (by kernel_rfl)) (by kernel_rfl)) (by kernel_rfl)) (by kernel_rfl)) (by kernel_rfl)) (by kernel_rfl)) (by kernel_rfl)) (by kernel_rfl)) pf_keys) (by kernel_rfl)) pf_heard) pf_enter) pf_lifts) pf_make) (by kernel_rfl)) (by kernel_rfl)) (by kernel_rfl)) (by kernel_rfl))
theorem historiesCheck_row : Rows.historiesCheckRow.holds Tryz.pinned (OpenSpec.ofChange Rows.historiesCheckSpec) :=
  OpenClaim.holds_of_wide 3 Tryz.f3 rfl rfl rfl rfl rfl rfl rfl ⟨rfl, rfl, rfl, rfl, rfl⟩ rfl rfl rfl rfl rfl (by kernel_rfl) Tryz.func3 historiesCheck_closed
    (of_decide_eq_true (by kernel_rfl)) (by unfold Func.isWrapper; first | (rw [if_pos (by decide +kernel)]; kernel_rfl) | (rw [if_neg (by decide +kernel)]; exact ⟨rfl, rfl⟩))
    (fun os started H enc _ => historiesCheck_lifted os started H enc)
theorem historiesCheck_holds : Rows.HistoriesCheckCardSaid :=
  Claim7.holds_tied_plain_at .later [] [.data, .data, .data, .data, .sentinel, .sentinel, .pinned] true (true, "a96e9f6bf76b45ab3a89c1000cebd0c1c4b389b439417acd4c3f1e5305db6828") true
    historiesCheck_row (fun _ h => by cases h) (by kernel_rfl) (fun _ h => by cases h) historiesCheck_row_tie rfl ⟨rfl, rfl⟩ (by kernel_rfl) rfl
    (fun f fn hf hfn => by
      obtain rfl : f = 3 := Option.some.inj ((show Tryz.prog.funcNamed "caisson/caissonlaw24.HistoriesCheck" = some 3 by kernel_rfl).symm.trans hf) |>.symm
      obtain rfl : fn = Tryz.f3 := (Option.some.inj (Tryz.func3.symm.trans hfn)).symm
      exact ⟨by kernel_rfl, fun j t ht => by
        rw [Tryz.params3] at ht
        have hm : t ∈ [22, 3] := by simpa using Array.mem_of_getElem? ht
        have hall : ([22, 3].all fun u => !Tryz.prog.wantsStandIn u) = true := by kernel_rfl
        exact (show Tryz.prog.wantsStandIn t = false by simpa using List.all_eq_true.1 hall t hm)⟩)
    (by kernel_rfl)
end Go.Proofs.YtmojbghcngdkpaaGreatDoor
