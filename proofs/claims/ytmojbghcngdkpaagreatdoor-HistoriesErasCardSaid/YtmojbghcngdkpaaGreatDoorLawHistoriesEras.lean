/- The events of all eras with a crash between any two are the history, so are the events of each client in their order, and a beginning of a history is well formed, for every history of plain data. No condition. -/
import Derived.Test.YtmojbghcngdkpaaGreatDoorTie
import Derived.Test.YtmojbghcngdkpaaGreatDoorCards
import Derived.Test.YtmojbghcngdkpaaGreatDoorG04
import Derived.Test.YtmojbghcngdkpaaGreatDoorG06

set_option linter.unusedVariables false
set_option linter.unusedSimpArgs false
set_option linter.unusedSectionVars false

namespace Go.Proofs.YtmojbghcngdkpaaGreatDoor
open Go.ChangeShapes Go.WideShapes Go.ChangeAt Go.RowKit Go.Eng Go.Plain
set_option maxRecDepth 100000 in
theorem historiesEras_lifted (os : Os) (started : os.Started) (H : Type) (enc : TypeId × Value → H) :
    ReturnsInHanded {} Tryz.checked os 5 .any (fun w args => (Rows.historiesErasSpec.pre enc Tryz.prog Tryz.f5 [] false w args ∧ laidMetH Tryz.prog Rows.historiesErasRow.laid w) ∧ sizedMet enc Tryz.prog Tryz.f5 (OpenSpec.ofChange Rows.historiesErasSpec) false w args)
      (Rows.historiesErasSpec.post enc Tryz.prog Tryz.f5 false true false false) := by
  refine handed_of (C := Tryz.checked) (X := fun w _ => laidMetH Tryz.prog Rows.historiesErasRow.laid w) (fun _ _ _ hh h => h.of_heap hh) own started (by kernel_rfl) Tryz.func5
    (ChangeSpec.witness_shaped (enc := enc) (C := Tryz.checked) (os := os) (X := fun w _ => laidMetH Tryz.prog Rows.historiesErasRow.laid w) false (World.laidAll Tryz.prog os Rows.historiesErasRow.laid) #[(.agg #[.slice none 0 0]), (.int .u8 0)] 8 (World.laidAll_os _ _ _)
      (World.shaped_of_ZipB (by kernel_rfl) (by kernel_rfl)) (by kernel_rfl) (by kernel_rfl) (by kernel_rfl)
      (by rw [MakeChecks.laidMetH_plain _ _ _ (by kernel_rfl)]; exact laidMet_laidAll _ (by kernel_rfl) (by kernel_rfl))) ?_
  intro W base args ds gs before hval0 hW hL hsh
  have hval : ∀ (j : Nat) t v, Tryz.f5.params[j]? = some t → args[j]? = some v → Value.okWide Tryz.prog W .any base t v := hval0
  have hglob := globs_of hL hsh
  have hW' := hW
  obtain ⟨p, q, hA0, hV, rfl, hfz, hnd⟩ := hW
  have hA : DataW.TrodAll enc Tryz.prog W 0 (fun _ => true) true Tryz.f5.params.toList args.toList ds p := hA0
  rw [Tryz.params5] at hA hval
  obtain ⟨v0, vs0, d0, ds0, p0, q0, hargs, rfl, rfl, h0, r0⟩ := trodAll_cons hA
  obtain ⟨v1, vs1, d1, ds1, p1, q1, rfl, rfl, rfl, h1, r1⟩ := trodAll_cons r0
  obtain ⟨rfl, rfl, rfl⟩ := trodAll_nil r1
  obtain rfl : args = #[v0, v1] := Array.ext' (by simpa using hargs)
  obtain ⟨rfl, rfl⟩ := trodVars_none hV
  have k0 := h0
  have lt0 : ∀ x ∈ p0, x.block < W.heap.size := by obtain ⟨m, hm⟩ := k0; exact DataW.trod_lt m _ _ _ hm
  obtain ⟨fuel0, hfu0⟩ := h0
  obtain ⟨x0, e0, _, w0⟩ := opens_xh H enc W _ _ fuel0 _ _ hfu0
  obtain ⟨cs0, hcs0, _⟩ := okWide_struct Tryz.underlying43 (hval 0 43 v0 rfl rfl)
  have rel0 : RelV (fun _ => none) W (fun _ => False) (.d (encXH x0)) v0 := e0.relV ⟨fun _ => rfl, fun _ => ⟨cs0, hcs0⟩⟩
  have k1 := h1
  have lt1 : ∀ x ∈ p1, x.block < W.heap.size := by obtain ⟨m, hm⟩ := k1; exact DataW.trod_lt m _ _ _ hm
  obtain ⟨x1, e1, _, w1⟩ : ∃ m : Int, Enc W (fun _ => False) (.sc (.int .u8 m)) v1.cells.toList ∧ v1.cells.toList.length = 1 ∧ (Lit.int .u8 m).wf = true := by obtain ⟨fuel, hfu⟩ := h1; exact opens_int (P := Tryz.prog) Tryz.underlying5 H enc W _ _ fuel _ _ hfu
  obtain ⟨m1, hcs1⟩ := okWide_int Tryz.underlying5 (hval 1 5 v1 rfl rfl)
  have rel1 : RelV (fun _ => none) W (fun _ => False) (.d (.sc (.int .u8 x1))) v1 := e1.relV ⟨fun ⟨c, hc⟩ => (by rw [hcs1] at hc; cases hc), fun hc => (by cases hc)⟩
  clear hA0 hval0
  refine (law_calls ((show FnIs Tryz.prog 5 [.d (encXH x0), .int .u8 x1] [] (.bool true) [] from by have := law24_eras x0 x1.toNat.toUInt8; rwa [u8_back w1] at this)) (W := W) (args := #[v0, v1]) ⟨v0, [v1], rfl, ⟨rel0, trivial⟩, ⟨v1, [], rfl, ⟨rel1, trivial⟩, rfl⟩⟩ hglob).mono fun e W' ⟨he, bel⟩ => ?_
  subst he
  exact ⟨_, rfl, _, _, _, [], _, [], hW', trodAll_mk1 (shut_bool Tryz.underlying4 _), (trodAll_cons_mk (Below.trod laidOut (by kernel_rfl) (of_decide_eq_true (by kernel_rfl)) k0 bel lt0) (trodAll_cons_mk (Below.trod laidOut (by kernel_rfl) (of_decide_eq_true (by kernel_rfl)) k1 bel lt1) trodAll_mk0)), rfl, bel.frame _, fun h => by cases h⟩

theorem historiesEras_b1 : (Rows.historiesErasRow.inPlace == Tryz.prog.inPlace 5) = true := by kernel_rfl
theorem historiesEras_b2 : (Rows.historiesErasRow.unfollowed == Tryz.prog.unfollowed 5) = true := by kernel_rfl
theorem historiesEras_b3 : (Rows.historiesErasRow.recurses == Tryz.prog.recurses 5) = true := by kernel_rfl
theorem historiesEras_b4 : (Rows.historiesErasRow.named == Tryz.prog.varsNamed 5) = true := by kernel_rfl
theorem historiesEras_a1 : Rows.historiesErasRow.wf (OpenSpec.ofChange Rows.historiesErasSpec) = true := by kernel_rfl
theorem historiesEras_closed : joinedFacts Tryz.prog 5 Tryz.f5 Rows.historiesErasSpec Rows.historiesErasRow = true := by
  unfold joinedFacts
  exact (and2 (and2 (and2 (and2 (and2 (and2 (and2 (and2 (and2 (and2 (and2 (and2 (and2 (and2 (and2 (and2 (and2 (and2 (and2 (and2 (and2 (and2 (and2 (and2 (and2 (and2 (and2 (and2 (and2 (and2 (and2 historiesEras_a1 laidOut) pf_maps) (by kernel_rfl)) (by kernel_rfl)) (by kernel_rfl)) (by kernel_rfl)) (by kernel_rfl)) (by kernel_rfl)) historiesEras_b1) historiesEras_b2) historiesEras_b3) historiesEras_b4) (by kernel_rfl)) (by kernel_rfl)) (by kernel_rfl)) (by kernel_rfl)) (by kernel_rfl)) (by kernel_rfl)) (by kernel_rfl)) (by kernel_rfl)) (by kernel_rfl)) pf_keys) (by kernel_rfl)) pf_heard) pf_enter) pf_lifts) pf_make) (by kernel_rfl)) (by kernel_rfl)) (by kernel_rfl)) (by kernel_rfl))
theorem historiesEras_row : Rows.historiesErasRow.holds Tryz.pinned (OpenSpec.ofChange Rows.historiesErasSpec) :=
  OpenClaim.holds_of_wide 5 Tryz.f5 rfl rfl rfl rfl rfl rfl rfl ⟨rfl, rfl, rfl, rfl, rfl⟩ rfl rfl rfl rfl rfl (by kernel_rfl) Tryz.func5 historiesEras_closed
    (of_decide_eq_true (by kernel_rfl)) (by unfold Func.isWrapper; first | (rw [if_pos (by decide +kernel)]; kernel_rfl) | (rw [if_neg (by decide +kernel)]; exact ⟨rfl, rfl⟩))
    (fun os started H enc _ => historiesEras_lifted os started H enc)
theorem historiesEras_holds : Rows.HistoriesErasCardSaid :=
  Claim7.holds_tied_plain_at .later [] [.data, .data, .data, .data, .sentinel, .sentinel, .pinned] true (true, "a96e9f6bf76b45ab3a89c1000cebd0c1c4b389b439417acd4c3f1e5305db6828") true
    historiesEras_row (fun _ h => by cases h) (by kernel_rfl) (fun _ h => by cases h) historiesEras_row_tie rfl ⟨rfl, rfl⟩ (by kernel_rfl) rfl
    (fun f fn hf hfn => by
      obtain rfl : f = 5 := Option.some.inj ((show Tryz.prog.funcNamed "caisson/caissonlaw24.HistoriesEras" = some 5 by kernel_rfl).symm.trans hf) |>.symm
      obtain rfl : fn = Tryz.f5 := (Option.some.inj (Tryz.func5.symm.trans hfn)).symm
      exact ⟨by kernel_rfl, fun j t ht => by
        rw [Tryz.params5] at ht
        have hm : t ∈ [43, 5] := by simpa using Array.mem_of_getElem? ht
        have hall : ([43, 5].all fun u => !Tryz.prog.wantsStandIn u) = true := by kernel_rfl
        exact (show Tryz.prog.wantsStandIn t = false by simpa using List.all_eq_true.1 hall t hm)⟩)
    (by kernel_rfl)
end Go.Proofs.YtmojbghcngdkpaaGreatDoor
