/- FramesCheck holds for every frame. -/
import Derived.Test.YtmdfeekpehcieaaFA
import Derived.Test.YtmdfeekpehcieaaEngB
import Derived.Test.YtmdfeekpehcieaaRows
import Derived.Test.YtmdfeekpehcieaaFB

/- FramesCheck. -/
namespace Go.Proofs.Ytmdfeekpehcieaa
open Go.Eng
set_option maxHeartbeats 1000000
attribute [local irreducible] WC RegS RegD SeqQ BlkQ ScoQ RegK CutK Sat SatN FnIs LoopQ StepIs OpIs
theorem framesCheck_is (hl : FnIs Try.prog 15 [] [] (.bool true) []) (f : Frame) : FnIs Try.prog 6 [.d (encFrame f)] [] (.bool true) [] := by
  refine fnIs_of tab_ok Try.func6 rfl rfl rfl ?_
  refine wc_seq ?_
  refine wc_region ?_
  refine reg_new (step_C tab_ok (fun K hk => hk)) rfl ?_
  refine reg_quiet rfl (step_C tab_ok (fun K hk => hk)) ?_
  refine reg_nil ?_
  refine seq_n ?_
  refine wc_seq ?_
  refine wc_draw (by kernel_rfl) ?_
  refine dreg_step rfl (load_box tab_ok rfl rfl rfl rfl) rfl rfl ?_
  refine dreg_step rfl (call_r (check_is _) rfl rfl (arg_e arg_nil) (.inl rfl) (fun _ => rfl)) rfl rfl ?_
  refine dreg_step rfl (load_box tab_ok rfl rfl rfl rfl) rfl rfl ?_
  refine dreg_step rfl (call_r (refcheck_is _) rfl rfl (arg_e arg_nil) (.inl rfl) (fun _ => rfl)) rfl rfl ?_
  refine dreg_step rfl (step_C tab_ok (fun K hk => hk)) rfl rfl ?_
  refine dreg_step rfl (step_C tab_ok (fun K hk => hk)) rfl rfl ?_
  refine dreg_split rfl rfl rfl (fun hb => ?_) (fun hb => ?_)
  refine dreg_on rfl rfl (by assumption) rfl (load_box tab_ok rfl rfl rfl rfl) rfl rfl ?_
  refine dreg_on rfl rfl (by assumption) rfl (call_r (evictable_is _) rfl rfl (arg_e arg_nil) (.inl rfl) (fun _ => rfl)) rfl rfl ?_
  refine dreg_on rfl rfl (by assumption) rfl (load_box tab_ok rfl rfl rfl rfl) rfl rfl ?_
  refine dreg_on rfl rfl (by assumption) rfl (call_r (ev_is _) rfl rfl (arg_e arg_nil) (.inl rfl) (fun _ => rfl)) rfl rfl ?_
  refine dreg_on rfl rfl (by assumption) rfl (step_C tab_ok (fun K hk => hk)) rfl rfl ?_
  refine dreg_on rfl rfl (by assumption) rfl (step_C tab_ok (fun K hk => hk)) rfl rfl ?_
  refine dreg_step rfl (pick_T tab_ok rfl (by assumption) rfl) rfl rfl ?_
  refine dreg_step rfl (step_C tab_ok (fun K hk => hk)) rfl rfl ?_
  refine dreg_split rfl rfl rfl (fun hb => ?_) (fun hb => ?_)
  refine dreg_on rfl rfl (by assumption) rfl (call_r hl rfl rfl arg_nil (.inl rfl) (fun _ => rfl)) rfl rfl ?_
  refine dreg_step rfl (pick_T tab_ok rfl (by assumption) rfl) rfl rfl ?_
  refine dreg_step rfl (step_C tab_ok (fun K hk => hk)) rfl rfl ?_
  refine dreg_nil (by kernel_rfl) ?_
  refine seq_n ?_
  refine wc_ret ?_
  rotate_left
  refine dreg_off rfl rfl (by assumption) rfl rfl ?_
  refine dreg_step rfl (pick_F tab_ok rfl (by assumption) rfl) rfl rfl ?_
  refine dreg_step rfl (step_C tab_ok (fun K hk => hk)) rfl rfl ?_
  refine dreg_nil (by kernel_rfl) ?_
  refine seq_n ?_
  refine wc_ret ?_
  rotate_left
  refine dreg_off rfl rfl (by assumption) rfl rfl ?_
  refine dreg_off rfl rfl (by assumption) rfl rfl ?_
  refine dreg_off rfl rfl (by assumption) rfl rfl ?_
  refine dreg_off rfl rfl (by assumption) rfl rfl ?_
  refine dreg_off rfl rfl (by assumption) rfl rfl ?_
  refine dreg_off rfl rfl (by assumption) rfl rfl ?_
  refine dreg_step rfl (pick_F tab_ok rfl (by assumption) rfl) rfl rfl ?_
  refine dreg_step rfl (step_C tab_ok (fun K hk => hk)) rfl rfl ?_
  refine dreg_off rfl rfl rfl rfl rfl ?_
  refine dreg_step rfl (pick_F tab_ok rfl rfl rfl) rfl rfl ?_
  refine dreg_step rfl (step_C tab_ok (fun K hk => hk)) rfl rfl ?_
  refine dreg_nil (by kernel_rfl) ?_
  refine seq_n ?_
  refine wc_ret ?_
  rotate_left
  all_goals refine ⟨trivial, [], .of rfl rfl rfl rfl rfl ⟨⟨_, rfl, AVLe.of_eq ?_⟩, rfl, trivial⟩ trivial⟩
  all_goals (simp_all [retOne, AV.ren]; done)
end Go.Proofs.Ytmdfeekpehcieaa

/- FramesCheck is true of every frame. -/
namespace Go.Proofs.Ytmdfeekpehcieaa
open Go.ChangeShapes Go.WideShapes Go.ChangeAt Go.RowKit Go.Eng
theorem own : ownKnob Try.prog.godebug = none := by kernel_rfl
theorem laidOut : laidOutB Try.prog = true := by kernel_rfl
set_option maxRecDepth 100000 in
theorem lifted6 (hl : FnIs Try.prog 15 [] [] (.bool true) []) (os : Os) (started : os.Started) (H : Type) (enc : TypeId × Value → H) :
    ReturnsInHanded {} Try.checked os 6 .any (Rows.framesCheckSpec.pre6 enc Try.prog Try.f6 Rows.framesCheckRow.domain false) (Rows.framesCheckSpec.post enc Try.prog Try.f6 false true false false) := by
  refine returnsInHanded_of_change (C := Try.checked) own started (by kernel_rfl) Try.func6
    (ChangeSpec.witness6 (enc := enc) (C := Try.checked) false ⟨#[], #[(.agg #[.bool false, .int .i64 0, .int .u8 0, .int .u8 0, .int .u8 0, .int .u8 0, .int .u8 0, .int .u8 0, .int .u8 0, .int .u8 0, .int .u8 0, .int .u8 0, .int .u8 0, .int .u8 0, .int .u8 0, .int .u8 0, .int .u8 0, .int .u8 0, .int .u8 0, .int .u8 0, .int .u8 0, .int .u8 0, .int .u8 0, .int .u8 0, .int .u8 0, .int .u8 0, .int .u8 0, .int .u8 0, .int .u8 0, .int .u8 0, .int .u8 0, .int .u8 0, .int .u8 0, .int .u8 0, .bool false, .bool false, .bool false, .bool false, .int .u32 0, .int .u64 0])], []⟩ 8 (by kernel_rfl) (by kernel_rfl) (by kernel_rfl) (by kernel_rfl)) ?_
  intro W base args ds gs before hval0 hW hcnd _
  have hval : ∀ (j : Nat) t v, Try.f6.params[j]? = some t → args[j]? = some v → Value.okWide Try.prog W .any base t v := hval0
  have hW' := hW
  obtain ⟨p, q, hA0, hV, rfl, hfz, hnd⟩ := hW
  have hA : DataW.TrodAll enc Try.prog W 0 (fun _ => true) true Try.f6.params.toList args.toList ds p := hA0
  rw [Try.params6] at hA hval
  obtain ⟨v0, vs0, d0, ds0, p0, q0, hargs, rfl, rfl, h0, r0⟩ := trodAll_cons hA
  obtain ⟨rfl, rfl, rfl⟩ := trodAll_nil r0
  obtain rfl : args = #[v0] := by cases args; simp_all
  obtain ⟨rfl, rfl⟩ := trodVars_none hV
  have k0 := h0
  have lt0 : ∀ x ∈ p0, x.block < W.heap.size := by obtain ⟨m, hm⟩ := k0; exact DataW.trod_lt m _ _ _ hm
  obtain ⟨f, hf, _, wf⟩ : ∃ f, Enc W (fun _ => False) (encFrame f) v0.cells.toList ∧ v0.cells.toList.length = 40 ∧ f.Wf := by obtain ⟨fuel, hfu⟩ := h0; exact opens_frame H enc W _ _ fuel _ _ hfu
  obtain ⟨cs, hcs, _⟩ := okWide_struct Try.underlying39 (hval 0 39 v0 rfl rfl)
  have hr : RelV (fun _ => none) W (fun _ => False) (.d (encFrame f)) v0 := hf.relV ⟨fun _ => rfl, fun _ => ⟨cs, hcs⟩⟩
  clear hA0 hval0
  refine (law_calls (framesCheck_is hl f) (W := W) (args := #[v0]) ⟨v0, [], rfl, ⟨hr, trivial⟩, rfl⟩).mono fun e W' ⟨he, bel⟩ => ?_
  subst he
  exact ⟨_, rfl, _, _, _, [], _, [], hW', trodAll_mk1 (shut_bool Try.underlying4 _), (trodAll_cons_mk (Below.trod laidOut (by kernel_rfl) (of_decide_eq_true (by kernel_rfl)) k0 bel lt0) trodAll_mk0), rfl, bel.frame _, fun h => by cases h⟩

theorem over6 (hl : FnIs Try.prog 15 [] [] (.bool true) []) : Rows.framesCheckRow.holds Try.pinned (OpenSpec.ofChange Rows.framesCheckSpec) :=
  OpenClaim.holds_of_wide 6 Try.f6 rfl rfl rfl rfl rfl rfl rfl ⟨rfl, rfl, rfl, rfl, rfl⟩ rfl rfl rfl rfl rfl (by kernel_rfl) Try.func6 (by kernel_rfl)
    (of_decide_eq_true (by kernel_rfl)) (by unfold Func.isWrapper; first | (rw [if_pos (by decide +kernel)]; kernel_rfl) | (rw [if_neg (by decide +kernel)]; exact ⟨rfl, rfl⟩))
    (fun os started H enc _ => lifted6 hl os started H enc)
theorem x6 (hl : FnIs Try.prog 15 [] [] (.bool true) []) : Rows.FramesCheckSaid := over6 hl
theorem framesCheck_holds : Rows.FramesCheckSaid := x6 lives_is
end Go.Proofs.Ytmdfeekpehcieaa
