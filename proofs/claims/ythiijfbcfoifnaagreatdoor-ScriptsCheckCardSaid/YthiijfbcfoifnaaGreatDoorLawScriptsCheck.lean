/- exactly the valid scripts are accepted with the errors in their order, and the text of a script that is not valid is none -/
import Derived.Test.YthiijfbcfoifnaaGreatDoorTie
import Derived.Test.YthiijfbcfoifnaaGreatDoorCards
import Derived.Test.YthiijfbcfoifnaaGreatDoorG03
import Derived.Test.YthiijfbcfoifnaaGreatDoorG06

set_option linter.unusedVariables false
set_option linter.unusedSimpArgs false
set_option linter.unusedSectionVars false

namespace Go.Proofs.YthiijfbcfoifnaaGreatDoor
open Go.ChangeShapes Go.WideShapes Go.ChangeAt Go.RowKit Go.Eng Go.Plain
set_option maxRecDepth 100000 in
theorem scriptsCheck_lifted (os : Os) (started : os.Started) (H : Type) (enc : TypeId × Value → H) :
  ReturnsInHanded {} Tryz.checked os 3 .any (fun w args => (Rows.scriptsCheckSpec.pre enc Tryz.prog Tryz.f3 [] false w args ∧ laidMetH Tryz.prog Rows.scriptsCheckRow.laid w) ∧ sizedMet enc Tryz.prog Tryz.f3 (OpenSpec.ofChange Rows.scriptsCheckSpec) false w args)
   (Rows.scriptsCheckSpec.post enc Tryz.prog Tryz.f3 false true false false) := by
 refine handed_of (C := Tryz.checked) (X := fun w _ => laidMetH Tryz.prog Rows.scriptsCheckRow.laid w) (fun _ _ _ hh h => h.of_heap hh) own started (by kernel_rfl) Tryz.func3
  (ChangeSpec.witness_shaped (enc := enc) (C := Tryz.checked) (os := os) (X := fun w _ => laidMetH Tryz.prog Rows.scriptsCheckRow.laid w) false (World.laidAll Tryz.prog os Rows.scriptsCheckRow.laid) #[(.agg #[.int .i64 0, .int .i64 0, .int .i64 0, .int .i64 0, .int .u64 0, .int .u64 0, .int .u8 0, .int .u8 0, .int .u8 0, .int .u8 0, .int .u8 0, .int .u8 0, .int .u8 0, .int .u8 0, .int .u8 0, .int .u8 0, .int .u8 0, .int .u8 0, .int .u8 0, .int .u8 0, .int .u8 0, .int .u8 0, .int .u8 0, .int .u8 0, .int .u8 0, .int .u8 0, .int .u8 0, .int .u8 0, .int .u8 0, .int .u8 0, .int .u8 0, .int .u8 0, .int .u8 0, .int .u8 0, .int .u8 0, .int .u8 0, .int .u8 0, .int .u8 0, .int .u8 0, .slice none 0 0, .slice none 0 0]), (.bool false)] 8 (World.laidAll_os _ _ _)
   (World.shaped_of_ZipB (by kernel_rfl) (by kernel_rfl)) (by kernel_rfl) (by kernel_rfl) (by kernel_rfl)
   (by rw [MakeChecks.laidMetH_plain _ _ _ (by kernel_rfl)]; exact laidMet_laidAll _ (by kernel_rfl) (by kernel_rfl))) ?_
 intro W base args ds gs before hval0 hW hL hsh
 have hval : ∀ (j : Nat) t v, Tryz.f3.params[j]? = some t → args[j]? = some v → Value.okWide Tryz.prog W .any base t v := hval0
 have hglob := globs_of hL hsh
 have hW' := hW
 obtain ⟨p, q, hA0, hV, rfl, hfz, hnd⟩ := hW
 have hA : DataW.TrodAll enc Tryz.prog W 0 (fun _ => true) true Tryz.f3.params.toList args.toList ds p := hA0
 rw [Tryz.params3] at hA hval
 obtain ⟨v0, vs0, d0, ds0, p0, q0, hargs, rfl, rfl, h0, r0⟩ := trodAll_cons hA
 obtain ⟨v1, vs1, d1, ds1, p1, q1, rfl, rfl, rfl, h1, r1⟩ := trodAll_cons r0
 obtain ⟨rfl, rfl, rfl⟩ := trodAll_nil r1
 obtain rfl : args = #[v0, v1] := Array.ext' (by simpa using hargs)
 obtain ⟨rfl, rfl⟩ := trodVars_none hV
 have k0 := h0
 have lt0 : ∀ x ∈ p0, x.block < W.heap.size := by obtain ⟨m, hm⟩ := k0; exact DataW.trod_lt m _ _ _ hm
 obtain ⟨fuel0, hfu0⟩ := h0
 obtain ⟨x0, e0, _, w0⟩ := opens_script H enc W _ _ fuel0 _ _ hfu0
 obtain ⟨cs0, hcs0, _⟩ := okWide_struct Tryz.underlying30 (hval 0 30 v0 rfl rfl)
 have rel0 : RelV (fun _ => none) W (fun _ => False) (.d (encS3 x0)) v0 := e0.relV ⟨fun _ => rfl, fun _ => ⟨cs0, hcs0⟩⟩
 have k1 := h1
 have lt1 : ∀ x ∈ p1, x.block < W.heap.size := by obtain ⟨m, hm⟩ := k1; exact DataW.trod_lt m _ _ _ hm
 obtain ⟨x1, e1, _, w1⟩ : ∃ m : Bool, Enc W (fun _ => False) (.sc (.bool m)) v1.cells.toList ∧ v1.cells.toList.length = 1 ∧ True := by obtain ⟨fuel, hfu⟩ := h1; exact opens_bool (P := Tryz.prog) Tryz.underlying4 H enc W _ _ fuel _ _ hfu
 obtain ⟨m1, hcs1⟩ := okWide_bool Tryz.underlying4 (hval 1 4 v1 rfl rfl)
 have rel1 : RelV (fun _ => none) W (fun _ => False) (.d (.sc (.bool x1))) v1 := e1.relV ⟨fun ⟨c, hc⟩ => (by rw [hcs1] at hc; cases hc), fun hc => (by cases hc)⟩
 clear hA0 hval0
 refine (law_calls (law34_check x0.1 x0.2.1 x0.2.2 x1 w0.1 w0.2.1 w0.2.2) (W := W) (args := #[v0, v1]) ⟨v0, [v1], rfl, ⟨rel0, trivial⟩, ⟨v1, [], rfl, ⟨rel1, trivial⟩, rfl⟩⟩ hglob).mono fun e W' ⟨he, bel⟩ => ?_
 subst he
 exact ⟨_, rfl, _, _, _, [], _, [], hW', trodAll_mk1 (shut_bool Tryz.underlying4 _), (trodAll_cons_mk (Below.trod laidOut (by kernel_rfl) (of_decide_eq_true (by kernel_rfl)) k0 bel lt0) (trodAll_cons_mk (Below.trod laidOut (by kernel_rfl) (of_decide_eq_true (by kernel_rfl)) k1 bel lt1) trodAll_mk0)), rfl, bel.frame _, fun h => by cases h⟩
theorem scriptsCheck_b1 : (Rows.scriptsCheckRow.inPlace == Tryz.prog.inPlace 3) = true := by kernel_rfl
theorem scriptsCheck_b2 : (Rows.scriptsCheckRow.unfollowed == Tryz.prog.unfollowed 3) = true := by kernel_rfl
theorem scriptsCheck_b3 : (Rows.scriptsCheckRow.recurses == Tryz.prog.recurses 3) = true := by kernel_rfl
theorem scriptsCheck_b4 : (Rows.scriptsCheckRow.named == Tryz.prog.varsNamed 3) = true := by kernel_rfl
theorem scriptsCheck_a1 : Rows.scriptsCheckRow.wf (OpenSpec.ofChange Rows.scriptsCheckSpec) = true := by kernel_rfl
theorem scriptsCheck_closed : joinedFacts Tryz.prog 3 Tryz.f3 Rows.scriptsCheckSpec Rows.scriptsCheckRow = true := by
 unfold joinedFacts
 exact (and2 (and2 (and2 (and2 (and2 (and2 (and2 (and2 (and2 (and2 (and2 (and2 (and2 (and2 (and2 (and2 (and2 (and2 (and2 (and2 (and2 (and2 (and2 (and2 (and2 (and2 (and2 (and2 (and2 (and2 (and2 scriptsCheck_a1 laidOut) pf_maps) (by kernel_rfl)) (by kernel_rfl)) (by kernel_rfl)) (by kernel_rfl)) (by kernel_rfl)) (by kernel_rfl)) scriptsCheck_b1) scriptsCheck_b2) scriptsCheck_b3) scriptsCheck_b4) (by kernel_rfl)) (by kernel_rfl)) (by kernel_rfl)) (by kernel_rfl)) (by kernel_rfl)) (by kernel_rfl)) (by kernel_rfl)) (by kernel_rfl)) (by kernel_rfl)) pf_keys) (by kernel_rfl)) pf_heard) pf_enter) pf_lifts) pf_make) (by kernel_rfl)) (by kernel_rfl)) (by kernel_rfl)) (by kernel_rfl))
theorem scriptsCheck_row : Rows.scriptsCheckRow.holds Tryz.pinned (OpenSpec.ofChange Rows.scriptsCheckSpec) :=
 OpenClaim.holds_of_wide 3 Tryz.f3 rfl rfl rfl rfl rfl rfl rfl ⟨rfl, rfl, rfl, rfl, rfl⟩ rfl rfl rfl rfl rfl (by kernel_rfl) Tryz.func3 scriptsCheck_closed
  (of_decide_eq_true (by kernel_rfl)) (by unfold Func.isWrapper; first | (rw [if_pos (by decide +kernel)]; kernel_rfl) | (rw [if_neg (by decide +kernel)]; exact ⟨rfl, rfl⟩))
  (fun os started H enc _ => scriptsCheck_lifted os started H enc)
theorem scriptsCheck_holds : Rows.ScriptsCheckCardSaid :=
 Claim7.holds_tied_plain_at .later [] [.data, .data, .data, .data, .sentinel, .sentinel, .pinned] true (true, "efd16c42048204b25462f9d200c0422dbb9ac9922e630226d4d36f68a6da0c6d") true
  scriptsCheck_row (fun _ h => by cases h) (by kernel_rfl) (fun _ h => by cases h) scriptsCheck_row_tie rfl ⟨rfl, rfl⟩ (by kernel_rfl) rfl
  (fun f fn hf hfn => by
   obtain rfl : f = 3 := Option.some.inj ((show Tryz.prog.funcNamed "caisson/caissonlaw34.ScriptsCheck" = some 3 by kernel_rfl).symm.trans hf) |>.symm
   obtain rfl : fn = Tryz.f3 := (Option.some.inj (Tryz.func3.symm.trans hfn)).symm
   exact ⟨by kernel_rfl, fun j t ht => by
    rw [Tryz.params3] at ht
    have hm : t ∈ [30, 4] := by simpa using Array.mem_of_getElem? ht
    have hall : ([30, 4].all fun u => !Tryz.prog.wantsStandIn u) = true := by kernel_rfl
    exact (show Tryz.prog.wantsStandIn t = false by simpa using List.all_eq_true.1 hall t hm)⟩)
  (by kernel_rfl)
end Go.Proofs.YthiijfbcfoifnaaGreatDoor
