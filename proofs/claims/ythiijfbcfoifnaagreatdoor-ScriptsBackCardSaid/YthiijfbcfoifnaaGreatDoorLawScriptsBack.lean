/- For every script as plain data, its text is the one that is defined and is read back as the script -/
import Derived.Test.YthiijfbcfoifnaaGreatDoorTie
import Derived.Test.YthiijfbcfoifnaaGreatDoorCards
import Derived.Test.YthiijfbcfoifnaaGreatDoorG03
import Derived.Test.YthiijfbcfoifnaaGreatDoorG06

set_option linter.unusedVariables false
set_option linter.unusedSimpArgs false
set_option linter.unusedSectionVars false

namespace Go.Proofs.YthiijfbcfoifnaaGreatDoor
open Go.ChangeShapes Go.WideShapes Go.ChangeAt Go.RowKit Go.Eng Go.Plain
set_option maxRecDepth 100000 in
theorem scriptsBack_lifted (os : Os) (started : os.Started) (H : Type) (enc : TypeId × Value → H) :
  ReturnsInHanded {} Tryz.checked os 7 .any (fun w args => (Rows.scriptsBackSpec.pre enc Tryz.prog Tryz.f7 [] false w args ∧ laidMetH Tryz.prog Rows.scriptsBackRow.laid w) ∧ sizedMet enc Tryz.prog Tryz.f7 (OpenSpec.ofChange Rows.scriptsBackSpec) false w args)
   (Rows.scriptsBackSpec.post enc Tryz.prog Tryz.f7 false true false false) := by
 refine handed_of (C := Tryz.checked) (X := fun w _ => laidMetH Tryz.prog Rows.scriptsBackRow.laid w) (fun _ _ _ hh h => h.of_heap hh) own started (by kernel_rfl) Tryz.func7
  (ChangeSpec.witness_shaped (enc := enc) (C := Tryz.checked) (os := os) (X := fun w _ => laidMetH Tryz.prog Rows.scriptsBackRow.laid w) false (World.laidAll Tryz.prog os Rows.scriptsBackRow.laid) #[(.agg #[.int .u8 0, .int .u8 0, .int .u8 0, .int .u8 0, .int .u8 0, .int .u8 0, .int .u8 0, .slice none 0 0, .slice none 0 0])] 8 (World.laidAll_os _ _ _)
   (World.shaped_of_ZipB (by kernel_rfl) (by kernel_rfl)) (by kernel_rfl) (by kernel_rfl) (by kernel_rfl)
   (by rw [MakeChecks.laidMetH_plain _ _ _ (by kernel_rfl)]; exact laidMet_laidAll _ (by kernel_rfl) (by kernel_rfl))) ?_
 intro W base args ds gs before hval0 hW hL hsh
 have hval : ∀ (j : Nat) t v, Tryz.f7.params[j]? = some t → args[j]? = some v → Value.okWide Tryz.prog W .any base t v := hval0
 have hglob := globs_of hL hsh
 have hW' := hW
 obtain ⟨p, q, hA0, hV, rfl, hfz, hnd⟩ := hW
 have hA : DataW.TrodAll enc Tryz.prog W 0 (fun _ => true) true Tryz.f7.params.toList args.toList ds p := hA0
 rw [Tryz.params7] at hA hval
 obtain ⟨v0, vs0, d0, ds0, p0, q0, hargs, rfl, rfl, h0, r0⟩ := trodAll_cons hA
 obtain ⟨rfl, rfl, rfl⟩ := trodAll_nil r0
 obtain rfl : args = #[v0] := Array.ext' (by simpa using hargs)
 obtain ⟨rfl, rfl⟩ := trodVars_none hV
 have k0 := h0
 have lt0 : ∀ x ∈ p0, x.block < W.heap.size := by obtain ⟨m, hm⟩ := k0; exact DataW.trod_lt m _ _ _ hm
 obtain ⟨fuel0, hfu0⟩ := h0
 obtain ⟨x0, e0, _, w0⟩ := opens_xs H enc W _ _ fuel0 _ _ hfu0
 obtain ⟨cs0, hcs0, _⟩ := okWide_struct Tryz.underlying64 (hval 0 64 v0 rfl rfl)
 have rel0 : RelV (fun _ => none) W (fun _ => False) (.d (encS4 x0)) v0 := e0.relV ⟨fun _ => rfl, fun _ => ⟨cs0, hcs0⟩⟩
 clear hA0 hval0
 refine (law_calls (law34_back x0.1.1 x0.1.2 x0.2) (W := W) (args := #[v0]) ⟨v0, [], rfl, ⟨rel0, trivial⟩, rfl⟩ hglob).mono fun e W' ⟨he, bel⟩ => ?_
 subst he
 exact ⟨_, rfl, _, _, _, [], _, [], hW', trodAll_mk1 (shut_bool Tryz.underlying4 _), (trodAll_cons_mk (Below.trod laidOut (by kernel_rfl) (of_decide_eq_true (by kernel_rfl)) k0 bel lt0) trodAll_mk0), rfl, bel.frame _, fun h => by cases h⟩
theorem scriptsBack_b1 : (Rows.scriptsBackRow.inPlace == Tryz.prog.inPlace 7) = true := by kernel_rfl
theorem scriptsBack_b2 : (Rows.scriptsBackRow.unfollowed == Tryz.prog.unfollowed 7) = true := by kernel_rfl
theorem scriptsBack_b3 : (Rows.scriptsBackRow.recurses == Tryz.prog.recurses 7) = true := by kernel_rfl
theorem scriptsBack_b4 : (Rows.scriptsBackRow.named == Tryz.prog.varsNamed 7) = true := by kernel_rfl
theorem scriptsBack_a1 : Rows.scriptsBackRow.wf (OpenSpec.ofChange Rows.scriptsBackSpec) = true := by kernel_rfl
theorem scriptsBack_closed : joinedFacts Tryz.prog 7 Tryz.f7 Rows.scriptsBackSpec Rows.scriptsBackRow = true := by
 unfold joinedFacts
 exact (and2 (and2 (and2 (and2 (and2 (and2 (and2 (and2 (and2 (and2 (and2 (and2 (and2 (and2 (and2 (and2 (and2 (and2 (and2 (and2 (and2 (and2 (and2 (and2 (and2 (and2 (and2 (and2 (and2 (and2 (and2 scriptsBack_a1 laidOut) pf_maps) (by kernel_rfl)) (by kernel_rfl)) (by kernel_rfl)) (by kernel_rfl)) (by kernel_rfl)) (by kernel_rfl)) scriptsBack_b1) scriptsBack_b2) scriptsBack_b3) scriptsBack_b4) (by kernel_rfl)) (by kernel_rfl)) (by kernel_rfl)) (by kernel_rfl)) (by kernel_rfl)) (by kernel_rfl)) (by kernel_rfl)) (by kernel_rfl)) (by kernel_rfl)) pf_keys) (by kernel_rfl)) pf_heard) pf_enter) pf_lifts) pf_make) (by kernel_rfl)) (by kernel_rfl)) (by kernel_rfl)) (by kernel_rfl))
theorem scriptsBack_row : Rows.scriptsBackRow.holds Tryz.pinned (OpenSpec.ofChange Rows.scriptsBackSpec) :=
 OpenClaim.holds_of_wide 7 Tryz.f7 rfl rfl rfl rfl rfl rfl rfl ⟨rfl, rfl, rfl, rfl, rfl⟩ rfl rfl rfl rfl rfl (by kernel_rfl) Tryz.func7 scriptsBack_closed
  (of_decide_eq_true (by kernel_rfl)) (by unfold Func.isWrapper; first | (rw [if_pos (by decide +kernel)]; kernel_rfl) | (rw [if_neg (by decide +kernel)]; exact ⟨rfl, rfl⟩))
  (fun os started H enc _ => scriptsBack_lifted os started H enc)
theorem scriptsBack_holds : Rows.ScriptsBackCardSaid :=
 Claim7.holds_tied_plain_at .later [] [.data, .data, .data, .data, .sentinel, .sentinel, .pinned] true (true, "efd16c42048204b25462f9d200c0422dbb9ac9922e630226d4d36f68a6da0c6d") true
  scriptsBack_row (fun _ h => by cases h) (by kernel_rfl) (fun _ h => by cases h) scriptsBack_row_tie rfl ⟨rfl, rfl⟩ (by kernel_rfl) rfl
  (fun f fn hf hfn => by
   obtain rfl : f = 7 := Option.some.inj ((show Tryz.prog.funcNamed "caisson/caissonlaw34.ScriptsBack" = some 7 by kernel_rfl).symm.trans hf) |>.symm
   obtain rfl : fn = Tryz.f7 := (Option.some.inj (Tryz.func7.symm.trans hfn)).symm
   exact ⟨by kernel_rfl, fun j t ht => by
    rw [Tryz.params7] at ht
    have hm : t ∈ [64] := by simpa using Array.mem_of_getElem? ht
    have hall : ([64].all fun u => !Tryz.prog.wantsStandIn u) = true := by kernel_rfl
    exact (show Tryz.prog.wantsStandIn t = false by simpa using List.all_eq_true.1 hall t hm)⟩)
  (by kernel_rfl)
end Go.Proofs.YthiijfbcfoifnaaGreatDoor
