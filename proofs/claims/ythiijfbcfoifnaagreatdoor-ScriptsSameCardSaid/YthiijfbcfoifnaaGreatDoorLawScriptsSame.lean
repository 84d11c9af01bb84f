/- For every two scripts as plain data and every change of one field, Same tells whether all fields are equal -/
import Derived.Test.YthiijfbcfoifnaaGreatDoorTie
import Derived.Test.YthiijfbcfoifnaaGreatDoorCards
import Derived.Test.YthiijfbcfoifnaaGreatDoorG03
import Derived.Test.YthiijfbcfoifnaaGreatDoorG06
import Derived.Test.YthiijfbcfoifnaaGreatDoorG07

set_option linter.unusedVariables false
set_option linter.unusedSimpArgs false
set_option linter.unusedSectionVars false

namespace Go.Proofs.YthiijfbcfoifnaaGreatDoor
open Go.ChangeShapes Go.WideShapes Go.ChangeAt Go.RowKit Go.Eng Go.Plain
set_option maxRecDepth 100000 in
theorem scriptsSame_lifted (os : Os) (started : os.Started) (H : Type) (enc : TypeId × Value → H) :
  ReturnsInHanded {} Tryz.checked os 8 .any (fun w args => (Rows.scriptsSameSpec.pre enc Tryz.prog Tryz.f8 [] false w args ∧ laidMetH Tryz.prog Rows.scriptsSameRow.laid w) ∧ sizedMet enc Tryz.prog Tryz.f8 (OpenSpec.ofChange Rows.scriptsSameSpec) false w args)
   (Rows.scriptsSameSpec.post enc Tryz.prog Tryz.f8 false true false false) := by
 refine handed_of (C := Tryz.checked) (X := fun w _ => laidMetH Tryz.prog Rows.scriptsSameRow.laid w) (fun _ _ _ hh h => h.of_heap hh) own started (by kernel_rfl) Tryz.func8
  (ChangeSpec.witness_shaped (enc := enc) (C := Tryz.checked) (os := os) (X := fun w _ => laidMetH Tryz.prog Rows.scriptsSameRow.laid w) false (World.laidAll Tryz.prog os Rows.scriptsSameRow.laid) #[(.agg #[.int .u8 0, .int .u8 0, .int .u8 0, .int .u8 0, .int .u8 0, .int .u8 0, .int .u8 0, .slice none 0 0, .slice none 0 0]), (.agg #[.int .u8 0, .int .u8 0, .int .u8 0, .int .u8 0, .int .u8 0, .int .u8 0, .int .u8 0, .slice none 0 0, .slice none 0 0]), (.agg #[.int .u8 0, .int .u8 0, .int .u8 0])] 8 (World.laidAll_os _ _ _)
   (World.shaped_of_ZipB (by kernel_rfl) (by kernel_rfl)) (by kernel_rfl) (by kernel_rfl) (by kernel_rfl)
   (by rw [MakeChecks.laidMetH_plain _ _ _ (by kernel_rfl)]; exact laidMet_laidAll _ (by kernel_rfl) (by kernel_rfl))) ?_
 intro W base args ds gs before hval0 hW hL hsh
 have hval : ∀ (j : Nat) t v, Tryz.f8.params[j]? = some t → args[j]? = some v → Value.okWide Tryz.prog W .any base t v := hval0
 have hglob := globs_of hL hsh
 have hW' := hW
 obtain ⟨p, q, hA0, hV, rfl, hfz, hnd⟩ := hW
 have hA : DataW.TrodAll enc Tryz.prog W 0 (fun _ => true) true Tryz.f8.params.toList args.toList ds p := hA0
 rw [Tryz.params8] at hA hval
 obtain ⟨v0, vs0, d0, ds0, p0, q0, hargs, rfl, rfl, h0, r0⟩ := trodAll_cons hA
 obtain ⟨v1, vs1, d1, ds1, p1, q1, rfl, rfl, rfl, h1, r1⟩ := trodAll_cons r0
 obtain ⟨v2, vs2, d2, ds2, p2, q2, rfl, rfl, rfl, h2, r2⟩ := trodAll_cons r1
 obtain ⟨rfl, rfl, rfl⟩ := trodAll_nil r2
 obtain rfl : args = #[v0, v1, v2] := Array.ext' (by simpa using hargs)
 obtain ⟨rfl, rfl⟩ := trodVars_none hV
 have k0 := h0
 have lt0 : ∀ x ∈ p0, x.block < W.heap.size := by obtain ⟨m, hm⟩ := k0; exact DataW.trod_lt m _ _ _ hm
 obtain ⟨fuel0, hfu0⟩ := h0
 obtain ⟨x0, e0, _, w0⟩ := opens_xs H enc W _ _ fuel0 _ _ hfu0
 obtain ⟨cs0, hcs0, _⟩ := okWide_struct Tryz.underlying64 (hval 0 64 v0 rfl rfl)
 have rel0 : RelV (fun _ => none) W (fun _ => False) (.d (encS4 x0)) v0 := e0.relV ⟨fun _ => rfl, fun _ => ⟨cs0, hcs0⟩⟩
 have k1 := h1
 have lt1 : ∀ x ∈ p1, x.block < W.heap.size := by obtain ⟨m, hm⟩ := k1; exact DataW.trod_lt m _ _ _ hm
 obtain ⟨fuel1, hfu1⟩ := h1
 obtain ⟨x1, e1, _, w1⟩ := opens_xs H enc W _ _ fuel1 _ _ hfu1
 obtain ⟨cs1, hcs1, _⟩ := okWide_struct Tryz.underlying64 (hval 1 64 v1 rfl rfl)
 have rel1 : RelV (fun _ => none) W (fun _ => False) (.d (encS4 x1)) v1 := e1.relV ⟨fun _ => rfl, fun _ => ⟨cs1, hcs1⟩⟩
 have k2 := h2
 have lt2 : ∀ x ∈ p2, x.block < W.heap.size := by obtain ⟨m, hm⟩ := k2; exact DataW.trod_lt m _ _ _ hm
 obtain ⟨fuel2, hfu2⟩ := h2
 obtain ⟨x2, e2, _, w2⟩ := opens_z3 H enc W _ _ fuel2 _ _ hfu2
 obtain ⟨cs2, hcs2, _⟩ := okWide_arr Tryz.underlying69 (hval 2 69 v2 rfl rfl)
 have rel2 : RelV (fun _ => none) W (fun _ => False) (.d (encZ3 x2)) v2 := e2.relV ⟨fun _ => rfl, fun _ => ⟨cs2, hcs2⟩⟩
 clear hA0 hval0
 refine (law_calls (law34_same x0.1.1 x0.1.2 x0.2 x1.1.1 x1.1.2 x1.2 x2) (W := W) (args := #[v0, v1, v2]) ⟨v0, [v1, v2], rfl, ⟨rel0, trivial⟩, ⟨v1, [v2], rfl, ⟨rel1, trivial⟩, ⟨v2, [], rfl, ⟨rel2, trivial⟩, rfl⟩⟩⟩ hglob).mono fun e W' ⟨he, bel⟩ => ?_
 subst he
 exact ⟨_, rfl, _, _, _, [], _, [], hW', trodAll_mk1 (shut_bool Tryz.underlying4 _), (trodAll_cons_mk (Below.trod laidOut (by kernel_rfl) (of_decide_eq_true (by kernel_rfl)) k0 bel lt0) (trodAll_cons_mk (Below.trod laidOut (by kernel_rfl) (of_decide_eq_true (by kernel_rfl)) k1 bel lt1) (trodAll_cons_mk (Below.trod laidOut (by kernel_rfl) (of_decide_eq_true (by kernel_rfl)) k2 bel lt2) trodAll_mk0))), rfl, bel.frame _, fun h => by cases h⟩
theorem scriptsSame_b1 : (Rows.scriptsSameRow.inPlace == Tryz.prog.inPlace 8) = true := by kernel_rfl
theorem scriptsSame_b2 : (Rows.scriptsSameRow.unfollowed == Tryz.prog.unfollowed 8) = true := by kernel_rfl
theorem scriptsSame_b3 : (Rows.scriptsSameRow.recurses == Tryz.prog.recurses 8) = true := by kernel_rfl
theorem scriptsSame_b4 : (Rows.scriptsSameRow.named == Tryz.prog.varsNamed 8) = true := by kernel_rfl
theorem scriptsSame_a1 : Rows.scriptsSameRow.wf (OpenSpec.ofChange Rows.scriptsSameSpec) = true := by kernel_rfl
theorem scriptsSame_closed : joinedFacts Tryz.prog 8 Tryz.f8 Rows.scriptsSameSpec Rows.scriptsSameRow = true := by
 unfold joinedFacts
 exact (and2 (and2 (and2 (and2 (and2 (and2 (and2 (and2 (and2 (and2 (and2 (and2 (and2 (and2 (and2 (and2 (and2 (and2 (and2 (and2 (and2 (and2 (and2 (and2 (and2 (and2 (and2 (and2 (and2 (and2 (and2 scriptsSame_a1 laidOut) pf_maps) (by kernel_rfl)) (by kernel_rfl)) (by kernel_rfl)) (by kernel_rfl)) (by kernel_rfl)) (by kernel_rfl)) scriptsSame_b1) scriptsSame_b2) scriptsSame_b3) scriptsSame_b4) (by kernel_rfl)) (by kernel_rfl)) (by kernel_rfl)) (by kernel_rfl)) (by kernel_rfl)) (by kernel_rfl)) (by kernel_rfl)) (by kernel_rfl)) (by kernel_rfl)) pf_keys) (by kernel_rfl)) pf_heard) pf_enter) pf_lifts) pf_make) (by kernel_rfl)) (by kernel_rfl)) (by kernel_rfl)) (by kernel_rfl))
theorem scriptsSame_row : Rows.scriptsSameRow.holds Tryz.pinned (OpenSpec.ofChange Rows.scriptsSameSpec) :=
 OpenClaim.holds_of_wide 8 Tryz.f8 rfl rfl rfl rfl rfl rfl rfl ⟨rfl, rfl, rfl, rfl, rfl⟩ rfl rfl rfl rfl rfl (by kernel_rfl) Tryz.func8 scriptsSame_closed
  (of_decide_eq_true (by kernel_rfl)) (by unfold Func.isWrapper; first | (rw [if_pos (by decide +kernel)]; kernel_rfl) | (rw [if_neg (by decide +kernel)]; exact ⟨rfl, rfl⟩))
  (fun os started H enc _ => scriptsSame_lifted os started H enc)
theorem scriptsSame_holds : Rows.ScriptsSameCardSaid :=
 Claim7.holds_tied_plain_at .later [] [.data, .data, .data, .data, .sentinel, .sentinel, .pinned] true (true, "efd16c42048204b25462f9d200c0422dbb9ac9922e630226d4d36f68a6da0c6d") true
  scriptsSame_row (fun _ h => by cases h) (by kernel_rfl) (fun _ h => by cases h) scriptsSame_row_tie rfl ⟨rfl, rfl⟩ (by kernel_rfl) rfl
  (fun f fn hf hfn => by
   obtain rfl : f = 8 := Option.some.inj ((show Tryz.prog.funcNamed "caisson/caissonlaw34.ScriptsSame" = some 8 by kernel_rfl).symm.trans hf) |>.symm
   obtain rfl : fn = Tryz.f8 := (Option.some.inj (Tryz.func8.symm.trans hfn)).symm
   exact ⟨by kernel_rfl, fun j t ht => by
    rw [Tryz.params8] at ht
    have hm : t ∈ [64, 64, 69] := by simpa using Array.mem_of_getElem? ht
    have hall : ([64, 64, 69].all fun u => !Tryz.prog.wantsStandIn u) = true := by kernel_rfl
    exact (show Tryz.prog.wantsStandIn t = false by simpa using List.all_eq_true.1 hall t hm)⟩)
  (by kernel_rfl)
end Go.Proofs.YthiijfbcfoifnaaGreatDoor
