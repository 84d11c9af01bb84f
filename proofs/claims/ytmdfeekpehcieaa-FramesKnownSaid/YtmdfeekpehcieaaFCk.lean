/- FramesCheck walked. -/
import Derived.Test.YtmdfeekpehcieaaFA
import Derived.Test.YtmdfeekpehcieaaEngB

set_option linter.unusedVariables false
set_option linter.unusedSimpArgs false

/- FramesCheck. -/
namespace Go.Proofs.Ytmdfeekpehcieaa
open Go.Eng
set_option maxHeartbeats 1000000
attribute [local irreducible] WC RegS RegD SeqQ BlkQ ScoQ RegK CutK Sat SatN FnIs LoopQ StepIs OpIs
theorem framesCheck_is (hl : FnIs Try.prog 15 [] [] (.bool true) []) (f : Frame) : FnIs Try.prog 6 [.d (encFrame f)] [] (.bool true) [] := by
  refine fnIs_of tab_ok Try.func6 rfl rfl rfl ?_
  refine wc_seq ?_
  refine wc_region ?_
  refine reg_new (step_C tab_ok (fun K hk => hk)) rfl ?_
  refine reg_quiet rfl (step_C tab_ok (fun K hk => hk)) ?_
  refine reg_nil ?_
  refine seq_n ?_
  refine wc_seq ?_
  refine wc_draw (by kernel_rfl) ?_
  refine dreg_step rfl (load_box tab_ok rfl rfl rfl rfl) rfl rfl ?_
  refine dreg_step rfl (call_r (check_is _) rfl rfl (arg_e arg_nil) (.inl rfl) (fun _ => rfl)) rfl rfl ?_
  refine dreg_step rfl (load_box tab_ok rfl rfl rfl rfl) rfl rfl ?_
  refine dreg_step rfl (call_r (refcheck_is _) rfl rfl (arg_e arg_nil) (.inl rfl) (fun _ => rfl)) rfl rfl ?_
  refine dreg_step rfl (step_C tab_ok (fun K hk => hk)) rfl rfl ?_
  refine dreg_step rfl (step_C tab_ok (fun K hk => hk)) rfl rfl ?_
  refine dreg_split rfl rfl rfl (fun hb => ?_) (fun hb => ?_)
  refine dreg_on rfl rfl (by assumption) rfl (load_box tab_ok rfl rfl rfl rfl) rfl rfl ?_
  refine dreg_on rfl rfl (by assumption) rfl (call_r (evictable_is _) rfl rfl (arg_e arg_nil) (.inl rfl) (fun _ => rfl)) rfl rfl ?_
  refine dreg_on rfl rfl (by assumption) rfl (load_box tab_ok rfl rfl rfl rfl) rfl rfl ?_
  refine dreg_on rfl rfl (by assumption) rfl (call_r (ev_is _) rfl rfl (arg_e arg_nil) (.inl rfl) (fun _ => rfl)) rfl rfl ?_
  refine dreg_on rfl rfl (by assumption) rfl (step_C tab_ok (fun K hk => hk)) rfl rfl ?_
  refine dreg_on rfl rfl (by assumption) rfl (step_C tab_ok (fun K hk => hk)) rfl rfl ?_
  refine dreg_step rfl (pick_T tab_ok rfl (by assumption) rfl) rfl rfl ?_
  refine dreg_step rfl (step_C tab_ok (fun K hk => hk)) rfl rfl ?_
  refine dreg_split rfl rfl rfl (fun hb => ?_) (fun hb => ?_)
  refine dreg_on rfl rfl (by assumption) rfl (call_r hl rfl rfl arg_nil (.inl rfl) (fun _ => rfl)) rfl rfl ?_
  refine dreg_step rfl (pick_T tab_ok rfl (by assumption) rfl) rfl rfl ?_
  refine dreg_step rfl (step_C tab_ok (fun K hk => hk)) rfl rfl ?_
  refine dreg_nil (by kernel_rfl) ?_
  refine seq_n ?_
  refine wc_ret ?_
  rotate_left
  refine dreg_off rfl rfl (by assumption) rfl rfl ?_
  refine dreg_step rfl (pick_F tab_ok rfl (by assumption) rfl) rfl rfl ?_
  refine dreg_step rfl (step_C tab_ok (fun K hk => hk)) rfl rfl ?_
  refine dreg_nil (by kernel_rfl) ?_
  refine seq_n ?_
  refine wc_ret ?_
  rotate_left
  refine dreg_off rfl rfl (by assumption) rfl rfl ?_
  refine dreg_off rfl rfl (by assumption) rfl rfl ?_
  refine dreg_off rfl rfl (by assumption) rfl rfl ?_
  refine dreg_off rfl rfl (by assumption) rfl rfl ?_
  refine dreg_off rfl rfl (by assumption) rfl rfl ?_
  refine dreg_off rfl rfl (by assumption) rfl rfl ?_
  refine dreg_step rfl (pick_F tab_ok rfl (by assumption) rfl) rfl rfl ?_
  refine dreg_step rfl (step_C tab_ok (fun K hk => hk)) rfl rfl ?_
  refine dreg_off rfl rfl rfl rfl rfl ?_
  refine dreg_step rfl (pick_F tab_ok rfl rfl rfl) rfl rfl ?_
  refine dreg_step rfl (step_C tab_ok (fun K hk => hk)) rfl rfl ?_
  refine dreg_nil (by kernel_rfl) ?_
  refine seq_n ?_
  refine wc_ret ?_
  rotate_left
  all_goals refine ⟨trivial, [], .of rfl rfl rfl rfl rfl ⟨⟨_, rfl, AVLe.of_eq ?_⟩, rfl, trivial⟩ trivial⟩
  all_goals (simp_all [retOne, AV.ren]; done)
end Go.Proofs.Ytmdfeekpehcieaa
