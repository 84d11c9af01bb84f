/- Disks: the functions of the program and of the definition, runs of changes. -/
import Derived.Test.YtfmemklkkmiicaaDA
import Derived.Test.YtfmemklkkmiicaaEngD

set_option linter.unusedVariables false
set_option linter.unusedSimpArgs false

/- Disks: Write, Replay, Version, Present. -/
namespace Go.Proofs.Ytfmemklkkmiicaa
open Go.Eng
set_option maxHeartbeats 4000000
attribute [local irreducible] WC RegS RegD SeqQ BlkQ ScoQ RegK CutK Sat SatN FnIs LoopQ StepIs OpIs
theorem write_bad (d : Dk) (s : Int) (b : List Int) (h : outB d s = true) : FnIs Try.prog 23 [.d (encDk d), .d (i6 s), .d (.arr 1 encU8 b)] [] (tup2 (encDk zeroK) (i6 1)) [] := by
  refine fnIs_of tab_ok Try.func23 rfl rfl rfl ?_
  refine wc_seq ?_
  refine wc_region ?_
  refine reg_new (step_C tab_ok (fun K hk => hk)) rfl ?_
  refine reg_new (step_C tab_ok (fun K hk => hk)) rfl ?_
  refine reg_quiet rfl (step_C tab_ok (fun K hk => hk)) ?_
  refine reg_nil ?_
  refine seq_n ?_
  refine wc_seq ?_
  refine wc_seq ?_
  refine wc_region ?_
  refine reg_quiet rfl (load_box tab_ok rfl rfl rfl rfl) ?_
  refine reg_quiet rfl (step_C tab_ok (fun K hk => hk)) ?_
  refine reg_quiet rfl (call_r (newest_bad d s h) rfl rfl (arg_e (arg_e arg_nil)) (.inl rfl) (fun _ => rfl)) ?_
  refine reg_quiet rfl (step_C tab_ok (fun K hk => hk)) ?_
  refine reg_quiet rfl (step_C tab_ok (fun K hk => hk)) ?_
  refine reg_quiet rfl (step_C tab_ok (fun K hk => hk)) ?_
  refine reg_quiet rfl (step_C tab_ok (fun K hk => hk)) ?_
  refine reg_quiet rfl (step_C tab_ok (fun K hk => hk)) ?_
  refine reg_nil ?_
  refine seq_n ?_
  refine wc_seq ?_
  refine wc_region ?_
  refine reg_quiet rfl (step_C tab_ok (fun K hk => hk)) ?_
  refine reg_quiet rfl (step_C tab_ok (fun K hk => hk)) ?_
  refine reg_nil ?_
  refine seq_n ?_
  refine wc_true rfl rfl ?_
  refine wc_seq ?_
  refine wc_region ?_
  refine reg_quiet rfl (build_struct tab_ok rfl rfl rfl rfl) ?_
  refine reg_quiet rfl (step_C tab_ok (fun K hk => hk)) ?_
  refine reg_store (store_row tab_ok rfl rfl rfl ⟨_, ⟨rfl, rfl, rfl⟩, rfl⟩ rfl) ?_
  refine reg_quiet rfl (step_C tab_ok (fun K hk => hk)) ?_
  refine reg_nil ?_
  refine seq_n ?_
  refine wc_ret ?_
  refine seq_r ?_
  exact ⟨trivial, _, rfl, [], .of rfl rfl rfl rfl rfl ⟨⟨_, rfl, AVLe.tup1 zero_le rfl⟩, rfl, trivial⟩ trivial⟩
theorem replay_bad (d : Dk) (s k : Int) (h : outB d s = true) : FnIs Try.prog 26 [.d (encDk d), .d (i6 s), .d (i6 k)] [] (tup2 (encDk zeroK) (i6 1)) [] := by
  refine fnIs_of tab_ok Try.func26 rfl rfl rfl ?_
  refine wc_seq ?_
  refine wc_region ?_
  refine reg_new (step_C tab_ok (fun K hk => hk)) rfl ?_
  refine reg_new (step_C tab_ok (fun K hk => hk)) rfl ?_
  refine reg_quiet rfl (step_C tab_ok (fun K hk => hk)) ?_
  refine reg_nil ?_
  refine seq_n ?_
  refine wc_seq ?_
  refine wc_region ?_
  refine reg_quiet rfl (load_box tab_ok rfl rfl rfl rfl) ?_
  refine reg_quiet rfl (step_C tab_ok (fun K hk => hk)) ?_
  refine reg_quiet rfl (call_r (newest_bad d s h) rfl rfl (arg_e (arg_e arg_nil)) (.inl rfl) (fun _ => rfl)) ?_
  refine reg_quiet rfl (step_C tab_ok (fun K hk => hk)) ?_
  refine reg_quiet rfl (step_C tab_ok (fun K hk => hk)) ?_
  refine reg_quiet rfl (step_C tab_ok (fun K hk => hk)) ?_
  refine reg_quiet rfl (step_C tab_ok (fun K hk => hk)) ?_
  refine reg_quiet rfl (step_C tab_ok (fun K hk => hk)) ?_
  refine reg_nil ?_
  refine seq_n ?_
  refine wc_seq ?_
  refine wc_block ?_
  refine wc_seq ?_
  refine wc_region ?_
  refine reg_quiet rfl (step_C tab_ok (fun K hk => hk)) ?_
  refine reg_quiet rfl (step_C tab_ok (fun K hk => hk)) ?_
  refine reg_quiet rfl (step_C tab_ok (fun K hk => hk)) ?_
  refine reg_nil ?_
  refine seq_n ?_
  refine wc_true rfl rfl ?_
  refine wc_seq ?_
  refine wc_region ?_
  refine reg_quiet rfl (build_struct tab_ok rfl rfl rfl rfl) ?_
  refine reg_quiet rfl (step_C tab_ok (fun K hk => hk)) ?_
  refine reg_store (store_row tab_ok rfl rfl rfl ⟨_, ⟨rfl, rfl, rfl⟩, rfl⟩ rfl) ?_
  refine reg_quiet rfl (step_C tab_ok (fun K hk => hk)) ?_
  refine reg_nil ?_
  refine seq_n ?_
  refine wc_ret ?_
  refine blk_r ?_
  refine seq_r ?_
  exact ⟨trivial, _, rfl, [], .of rfl rfl rfl rfl rfl ⟨⟨_, rfl, AVLe.tup1 zero_le rfl⟩, rfl, trivial⟩ trivial⟩
theorem version_bad (d : Dk) (s k : Int) (h : outB d s = true) : FnIs Try.prog 25 [.d (encDk d), .d (i6 s), .d (i6 k)] [] (tup2 (.sc nil_) (i6 1)) [] := by
  refine fnIs_of tab_ok Try.func25 rfl rfl rfl ?_
  refine wc_seq ?_
  refine wc_region ?_
  refine reg_new (step_C tab_ok (fun K hk => hk)) rfl ?_
  refine reg_quiet rfl (step_C tab_ok (fun K hk => hk)) ?_
  refine reg_quiet rfl (step_C tab_ok (fun K hk => hk)) ?_
  refine reg_nil ?_
  refine seq_n ?_
  refine wc_seq ?_
  refine wc_region ?_
  refine reg_quiet rfl (load_box tab_ok rfl rfl rfl rfl) ?_
  refine reg_quiet rfl (step_C tab_ok (fun K hk => hk)) ?_
  refine reg_quiet rfl (call_r (newest_bad d s h) rfl rfl (arg_e (arg_e arg_nil)) (.inl rfl) (fun _ => rfl)) ?_
  refine reg_quiet rfl (step_C tab_ok (fun K hk => hk)) ?_
  refine reg_quiet rfl (step_C tab_ok (fun K hk => hk)) ?_
  refine reg_quiet rfl (step_C tab_ok (fun K hk => hk)) ?_
  refine reg_quiet rfl (step_C tab_ok (fun K hk => hk)) ?_
  refine reg_quiet rfl (step_C tab_ok (fun K hk => hk)) ?_
  refine reg_nil ?_
  refine seq_n ?_
  refine wc_seq ?_
  refine wc_seq ?_
  refine wc_region ?_
  refine reg_quiet rfl (step_C tab_ok (fun K hk => hk)) ?_
  refine reg_quiet rfl (step_C tab_ok (fun K hk => hk)) ?_
  refine reg_quiet rfl (step_C tab_ok (fun K hk => hk)) ?_
  refine reg_skip rfl rfl rfl rfl rfl ?_
  refine reg_skip rfl rfl rfl rfl rfl ?_
  refine reg_skip rfl rfl rfl rfl rfl ?_
  refine reg_skipU rfl rfl rfl rfl ?_
  refine reg_skipU rfl rfl rfl rfl ?_
  refine reg_skipU rfl rfl rfl rfl ?_
  refine reg_skipU rfl rfl rfl rfl ?_
  refine reg_skip rfl rfl rfl rfl rfl ?_
  refine reg_quiet rfl (pick_F tab_ok rfl rfl rfl) ?_
  refine reg_nil ?_
  refine seq_n ?_
  refine wc_false rfl rfl ?_
  refine wc_skip ?_
  refine seq_n ?_
  refine wc_seq ?_
  refine wc_seq ?_
  refine wc_region ?_
  refine reg_quiet rfl (step_C tab_ok (fun K hk => hk)) ?_
  refine reg_quiet rfl (step_C tab_ok (fun K hk => hk)) ?_
  refine reg_nil ?_
  refine seq_n ?_
  refine wc_true rfl rfl ?_
  refine wc_seq ?_
  refine wc_region ?_
  refine reg_quiet rfl (step_C tab_ok (fun K hk => hk)) ?_
  refine reg_quiet rfl (step_C tab_ok (fun K hk => hk)) ?_
  refine reg_quiet rfl (step_C tab_ok (fun K hk => hk)) ?_
  refine reg_nil ?_
  refine seq_n ?_
  refine wc_ret ?_
  refine seq_r ?_
  exact ⟨trivial, [], .of rfl rfl rfl rfl rfl ⟨⟨_, rfl, AVLe.of_eq rfl⟩, rfl, trivial⟩ trivial⟩
theorem write_long (d : Dk) (s : Nat) (b : List Int) (c : List Vs) (v : Vs) (h : At d s c v) (hl : decide (256 < (b.length : Int)) = true) : FnIs Try.prog 23 [.d (encDk d), .d (i6 s), .d (.arr 1 encU8 b)] [] (tup2 (encDk zeroK) (i6 3)) [] := by
  have hN := h.new
  refine fnIs_of tab_ok Try.func23 rfl rfl rfl ?_
  refine wc_seq ?_
  refine wc_region ?_
  refine reg_new (step_C tab_ok (fun K hk => hk)) rfl ?_
  refine reg_new (step_C tab_ok (fun K hk => hk)) rfl ?_
  refine reg_quiet rfl (step_C tab_ok (fun K hk => hk)) ?_
  refine reg_nil ?_
  refine seq_n ?_
  refine wc_seq ?_
  refine wc_seq ?_
  refine wc_region ?_
  refine reg_quiet rfl (load_box tab_ok rfl rfl rfl rfl) ?_
  refine reg_quiet rfl (step_C tab_ok (fun K hk => hk)) ?_
  refine reg_quiet rfl (call_r hN rfl rfl (arg_e (arg_e arg_nil)) (.inl rfl) (fun _ => rfl)) ?_
  refine reg_quiet rfl (step_C tab_ok (fun K hk => hk)) ?_
  refine reg_quiet rfl (step_C tab_ok (fun K hk => hk)) ?_
  refine reg_quiet rfl (step_C tab_ok (fun K hk => hk)) ?_
  refine reg_quiet rfl (step_C tab_ok (fun K hk => hk)) ?_
  refine reg_quiet rfl (step_C tab_ok (fun K hk => hk)) ?_
  refine reg_nil ?_
  refine seq_n ?_
  refine wc_seq ?_
  refine wc_region ?_
  refine reg_quiet rfl (step_C tab_ok (fun K hk => hk)) ?_
  refine reg_quiet rfl (step_C tab_ok (fun K hk => hk)) ?_
  refine reg_nil ?_
  refine seq_n ?_
  refine wc_false rfl rfl ?_
  refine wc_skip ?_
  refine seq_n ?_
  refine wc_seq ?_
  refine wc_seq ?_
  refine wc_region ?_
  refine reg_quiet rfl (step_C tab_ok (fun K hk => hk)) ?_
  refine reg_quiet rfl (len_arr tab_ok rfl rfl) ?_
  refine reg_quiet rfl (step_C tab_ok (fun K hk => hk)) ?_
  refine reg_nil ?_
  refine seq_n ?_
  refine wc_true rfl (by assumption) ?_
  refine wc_seq ?_
  refine wc_region ?_
  refine reg_quiet rfl (build_struct tab_ok rfl rfl rfl rfl) ?_
  refine reg_store (store_row tab_ok rfl rfl rfl ⟨_, ⟨rfl, rfl, rfl⟩, rfl⟩ rfl) ?_
  refine reg_quiet rfl (step_C tab_ok (fun K hk => hk)) ?_
  refine reg_nil ?_
  refine seq_n ?_
  refine wc_ret ?_
  refine seq_r ?_
  exact ⟨trivial, _, rfl, [], .of rfl rfl rfl rfl rfl ⟨⟨_, rfl, AVLe.tup1 zero_le rfl⟩, rfl, trivial⟩ trivial⟩
theorem write_ok (d : Dk) (s : Nat) (b : List Int) (c : List Vs) (v : Vs) (h : At d s c v) (hl : decide (256 < (b.length : Int)) = false) : FnIs Try.prog 23 [.d (encDk d), .d (i6 s), .d (.arr 1 encU8 b)] [] (tup2 (encDk (put d s c v ⟨true, b⟩)) (i6 0)) [] := by
  have hN := h.new
  have hl' := of_decide_eq_false hl
  cases b with
  | nil =>
    have hE := (h.with ⟨true, []⟩).args_le (.same (.same (.same (.emp .nil))))
    refine fnIs_of tab_ok Try.func23 rfl rfl rfl ?_
    refine wc_seq ?_
    refine wc_region ?_
    refine reg_new (step_C tab_ok (fun K hk => hk)) rfl ?_
    refine reg_new (step_C tab_ok (fun K hk => hk)) rfl ?_
    refine reg_quiet rfl (step_C tab_ok (fun K hk => hk)) ?_
    refine reg_nil ?_
    refine seq_n ?_
    refine wc_seq ?_
    refine wc_seq ?_
    refine wc_region ?_
    refine reg_quiet rfl (load_box tab_ok rfl rfl rfl rfl) ?_
    refine reg_quiet rfl (step_C tab_ok (fun K hk => hk)) ?_
    refine reg_quiet rfl (call_r hN rfl rfl (arg_e (arg_e arg_nil)) (.inl rfl) (fun _ => rfl)) ?_
    refine reg_quiet rfl (step_C tab_ok (fun K hk => hk)) ?_
    refine reg_quiet rfl (step_C tab_ok (fun K hk => hk)) ?_
    refine reg_quiet rfl (step_C tab_ok (fun K hk => hk)) ?_
    refine reg_quiet rfl (step_C tab_ok (fun K hk => hk)) ?_
    refine reg_quiet rfl (step_C tab_ok (fun K hk => hk)) ?_
    refine reg_nil ?_
    refine seq_n ?_
    refine wc_seq ?_
    refine wc_region ?_
    refine reg_quiet rfl (step_C tab_ok (fun K hk => hk)) ?_
    refine reg_quiet rfl (step_C tab_ok (fun K hk => hk)) ?_
    refine reg_nil ?_
    refine seq_n ?_
    refine wc_false rfl rfl ?_
    refine wc_skip ?_
    refine seq_n ?_
    refine wc_seq ?_
    refine wc_seq ?_
    refine wc_region ?_
    refine reg_quiet rfl (step_C tab_ok (fun K hk => hk)) ?_
    refine reg_quiet rfl (len_arr tab_ok rfl rfl) ?_
    refine reg_quiet rfl (step_C tab_ok (fun K hk => hk)) ?_
    refine reg_nil ?_
    refine seq_n ?_
    refine wc_false rfl rfl ?_
    refine wc_skip ?_
    refine seq_n ?_
    refine wc_seq ?_
    refine wc_draw (by kernel_rfl) ?_
    refine dreg_q [3] [64] rfl (load_box tab_ok rfl rfl rfl rfl) ?_
    refine dreg_q [1] [] rfl (step_C tab_ok (fun K hk => hk)) ?_
    refine dreg_q [2] [] rfl (step_C tab_ok (fun K hk => hk)) ?_
    refine dreg_q [26] [] rfl (call_r clone_e rfl rfl (arg_e arg_nil) (.inl rfl) (fun _ => rfl)) ?_
    refine dreg_q [24, 25, 27] [] rfl (call_r hE rfl rfl (arg_e (arg_e (arg_e (Go.Eng.arg_emp arg_nil)))) (.inl rfl) (fun _ => rfl)) ?_
    refine dreg_s [6, 28] [72] (store_row tab_ok rfl rfl rfl ⟨_, ⟨rfl, rfl, rfl⟩, rfl⟩ rfl) ?_
    refine dreg_q [] [] rfl (step_C tab_ok (fun K hk => hk)) ?_
    refine dreg_end (by kernel_rfl) ?_
    refine seq_n ?_
    refine wc_ret ?_
    exact ⟨trivial, _, rfl, [], .of rfl rfl rfl rfl rfl ⟨⟨_, rfl, AVLe.of_eq rfl⟩, rfl, trivial⟩ trivial⟩
  | cons x b =>
    obtain ⟨b, hb⟩ : ∃ y, y = x :: b := ⟨_, rfl⟩
    rw [← hb] at hl hl' ⊢
    have hp : 0 < b.length := by rw [hb]; simp
    have hlen : b.length ≤ 1048576 := by omega
    have hW : FnIs Try.prog 36 [.d (encDk d), .d (i6 s), .d (bo true), .own 0 0 b.length 1 none] [(0, .ds 5 1 false encU8 b)] (.d (encDk (put d s c v ⟨true, b⟩))) [] :=
      FnIs.freeze (avs' := [.d (encDk d), .d (i6 s), .d (bo true), .d (.arr 1 encU8 b)]) (h0' := []) 0 (.ds 5 1 false encU8 b) rfl ⟨⟨_, rfl, .refl _⟩, ⟨_, rfl, .refl _⟩, ⟨_, rfl, .refl _⟩, ⟨_, rfl, Frz.own rfl⟩, trivial⟩ trivial rfl (h.with ⟨true, b⟩)
    refine fnIs_of tab_ok Try.func23 rfl rfl rfl ?_
    refine wc_seq ?_
    refine wc_region ?_
    refine reg_new (step_C tab_ok (fun K hk => hk)) rfl ?_
    refine reg_new (step_C tab_ok (fun K hk => hk)) rfl ?_
    refine reg_quiet rfl (step_C tab_ok (fun K hk => hk)) ?_
    refine reg_nil ?_
    refine seq_n ?_
    refine wc_seq ?_
    refine wc_seq ?_
    refine wc_region ?_
    refine reg_quiet rfl (load_box tab_ok rfl rfl rfl rfl) ?_
    refine reg_quiet rfl (step_C tab_ok (fun K hk => hk)) ?_
    refine reg_quiet rfl (call_r hN rfl rfl (arg_e (arg_e arg_nil)) (.inl rfl) (fun _ => rfl)) ?_
    refine reg_quiet rfl (step_C tab_ok (fun K hk => hk)) ?_
    refine reg_quiet rfl (step_C tab_ok (fun K hk => hk)) ?_
    refine reg_quiet rfl (step_C tab_ok (fun K hk => hk)) ?_
    refine reg_quiet rfl (step_C tab_ok (fun K hk => hk)) ?_
    refine reg_quiet rfl (step_C tab_ok (fun K hk => hk)) ?_
    refine reg_nil ?_
    refine seq_n ?_
    refine wc_seq ?_
    refine wc_region ?_
    refine reg_quiet rfl (step_C tab_ok (fun K hk => hk)) ?_
    refine reg_quiet rfl (step_C tab_ok (fun K hk => hk)) ?_
    refine reg_nil ?_
    refine seq_n ?_
    refine wc_false rfl rfl ?_
    refine wc_skip ?_
    refine seq_n ?_
    refine wc_seq ?_
    refine wc_seq ?_
    refine wc_region ?_
    refine reg_quiet rfl (step_C tab_ok (fun K hk => hk)) ?_
    refine reg_quiet rfl (len_arr tab_ok rfl rfl) ?_
    refine reg_quiet rfl (step_C tab_ok (fun K hk => hk)) ?_
    refine reg_nil ?_
    refine seq_n ?_
    refine wc_false rfl (by assumption) ?_
    refine wc_skip ?_
    refine seq_n ?_
    refine wc_seq ?_
    refine wc_draw (by kernel_rfl) ?_
    refine dreg_q [3] [64] rfl (load_box tab_ok rfl rfl rfl rfl) ?_
    refine dreg_q [1] [] rfl (step_C tab_ok (fun K hk => hk)) ?_
    refine dreg_q [2] [] rfl (step_C tab_ok (fun K hk => hk)) ?_
    refine dreg_w [26] [] rfl (call_new (clone_ne b hp hlen) rfl rfl (arg_e arg_nil) (.inl rfl) rfl rfl) ?_
    refine dreg_w [24, 25, 27] [216] rfl (call_h [(0, some 216)] hW rfl rfl rfl (arg_e (arg_e (arg_e (arg_give rfl rfl arg_nil)))) ⟨⟨rfl, rfl, _, _, rfl, rfl, .refl _⟩, trivial⟩ rfl rfl (.inl rfl) rfl rfl) ?_
    refine dreg_s [6, 28] [72] (store_row tab_ok rfl rfl rfl ⟨_, ⟨rfl, rfl, rfl⟩, rfl⟩ rfl) ?_
    refine dreg_q [] [] rfl (step_C tab_ok (fun K hk => hk)) ?_
    refine dreg_end (by kernel_rfl) ?_
    refine seq_n ?_
    refine wc_ret ?_
    exact ⟨trivial, _, rfl, [], .of rfl rfl rfl rfl rfl ⟨⟨_, rfl, AVLe.of_eq rfl⟩, rfl, trivial⟩ trivial⟩
theorem replay_neg (d : Dk) (s : Nat) (k : Int) (c : List Vs) (v : Vs) (h : At d s c v) (hk : decide (k < 0) = true) : FnIs Try.prog 26 [.d (encDk d), .d (i6 s), .d (i6 k)] [] (tup2 (encDk zeroK) (i6 1)) [] := by
  have hN := h.new
  refine fnIs_of tab_ok Try.func26 rfl rfl rfl ?_
  refine wc_seq ?_
  refine wc_region ?_
  refine reg_new (step_C tab_ok (fun K hk => hk)) rfl ?_
  refine reg_new (step_C tab_ok (fun K hk => hk)) rfl ?_
  refine reg_quiet rfl (step_C tab_ok (fun K hk => hk)) ?_
  refine reg_nil ?_
  refine seq_n ?_
  refine wc_seq ?_
  refine wc_region ?_
  refine reg_quiet rfl (load_box tab_ok rfl rfl rfl rfl) ?_
  refine reg_quiet rfl (step_C tab_ok (fun K hk => hk)) ?_
  refine reg_quiet rfl (call_r hN rfl rfl (arg_e (arg_e arg_nil)) (.inl rfl) (fun _ => rfl)) ?_
  refine reg_quiet rfl (step_C tab_ok (fun K hk => hk)) ?_
  refine reg_quiet rfl (step_C tab_ok (fun K hk => hk)) ?_
  refine reg_quiet rfl (step_C tab_ok (fun K hk => hk)) ?_
  refine reg_quiet rfl (step_C tab_ok (fun K hk => hk)) ?_
  refine reg_quiet rfl (step_C tab_ok (fun K hk => hk)) ?_
  refine reg_nil ?_
  refine seq_n ?_
  refine wc_seq ?_
  refine wc_block ?_
  refine wc_seq ?_
  refine wc_region ?_
  refine reg_quiet rfl (step_C tab_ok (fun K hk => hk)) ?_
  refine reg_quiet rfl (step_C tab_ok (fun K hk => hk)) ?_
  refine reg_quiet rfl (step_C tab_ok (fun K hk => hk)) ?_
  refine reg_nil ?_
  refine seq_n ?_
  refine wc_false rfl rfl ?_
  refine wc_seq ?_
  refine wc_region ?_
  refine reg_quiet rfl (step_C tab_ok (fun K hk => hk)) ?_
  refine reg_quiet rfl (step_C tab_ok (fun K hk => hk)) ?_
  refine reg_quiet rfl (step_C tab_ok (fun K hk => hk)) ?_
  refine reg_nil ?_
  refine seq_n ?_
  refine wc_true rfl (by assumption) ?_
  refine wc_seq ?_
  refine wc_region ?_
  refine reg_quiet rfl (build_struct tab_ok rfl rfl rfl rfl) ?_
  refine reg_store (store_row tab_ok rfl rfl rfl ⟨_, ⟨rfl, rfl, rfl⟩, rfl⟩ rfl) ?_
  refine reg_quiet rfl (step_C tab_ok (fun K hk => hk)) ?_
  refine reg_nil ?_
  refine seq_n ?_
  refine wc_ret ?_
  refine blk_r ?_
  refine seq_r ?_
  exact ⟨trivial, _, rfl, [], .of rfl rfl rfl rfl rfl ⟨⟨_, rfl, AVLe.tup1 zero_le rfl⟩, rfl, trivial⟩ trivial⟩
theorem replay_none (d : Dk) (s : Nat) (k : Int) (c : List Vs) (v : Vs) (h : At d s c v) (hk : decide (k < 0) = false) (hk2 : decide ((v.length : Int) < k) = true) : FnIs Try.prog 26 [.d (encDk d), .d (i6 s), .d (i6 k)] [] (tup2 (encDk zeroK) (i6 11)) [] := by
  have hN := h.new
  refine fnIs_of tab_ok Try.func26 rfl rfl rfl ?_
  refine wc_seq ?_
  refine wc_region ?_
  refine reg_new (step_C tab_ok (fun K hk => hk)) rfl ?_
  refine reg_new (step_C tab_ok (fun K hk => hk)) rfl ?_
  refine reg_quiet rfl (step_C tab_ok (fun K hk => hk)) ?_
  refine reg_nil ?_
  refine seq_n ?_
  refine wc_seq ?_
  refine wc_region ?_
  refine reg_quiet rfl (load_box tab_ok rfl rfl rfl rfl) ?_
  refine reg_quiet rfl (step_C tab_ok (fun K hk => hk)) ?_
  refine reg_quiet rfl (call_r hN rfl rfl (arg_e (arg_e arg_nil)) (.inl rfl) (fun _ => rfl)) ?_
  refine reg_quiet rfl (step_C tab_ok (fun K hk => hk)) ?_
  refine reg_quiet rfl (step_C tab_ok (fun K hk => hk)) ?_
  refine reg_quiet rfl (step_C tab_ok (fun K hk => hk)) ?_
  refine reg_quiet rfl (step_C tab_ok (fun K hk => hk)) ?_
  refine reg_quiet rfl (step_C tab_ok (fun K hk => hk)) ?_
  refine reg_nil ?_
  refine seq_n ?_
  refine wc_seq ?_
  refine wc_block ?_
  refine wc_seq ?_
  refine wc_region ?_
  refine reg_quiet rfl (step_C tab_ok (fun K hk => hk)) ?_
  refine reg_quiet rfl (step_C tab_ok (fun K hk => hk)) ?_
  refine reg_quiet rfl (step_C tab_ok (fun K hk => hk)) ?_
  refine reg_nil ?_
  refine seq_n ?_
  refine wc_false rfl rfl ?_
  refine wc_seq ?_
  refine wc_region ?_
  refine reg_quiet rfl (step_C tab_ok (fun K hk => hk)) ?_
  refine reg_quiet rfl (step_C tab_ok (fun K hk => hk)) ?_
  refine reg_quiet rfl (step_C tab_ok (fun K hk => hk)) ?_
  refine reg_nil ?_
  refine seq_n ?_
  refine wc_false rfl (by assumption) ?_
  refine wc_seq ?_
  refine wc_region ?_
  refine reg_quiet rfl (step_C tab_ok (fun K hk => hk)) ?_
  refine reg_quiet rfl (step_C tab_ok (fun K hk => hk)) ?_
  refine reg_quiet rfl (call_r (count_is v) rfl rfl (arg_e arg_nil) (.inl rfl) (fun _ => rfl)) ?_
  refine reg_quiet rfl (step_C tab_ok (fun K hk => hk)) ?_
  refine reg_quiet rfl (step_C tab_ok (fun K hk => hk)) ?_
  refine reg_nil ?_
  refine seq_n ?_
  refine wc_true rfl (by assumption) ?_
  refine wc_seq ?_
  refine wc_region ?_
  refine reg_quiet rfl (build_struct tab_ok rfl rfl rfl rfl) ?_
  refine reg_store (store_row tab_ok rfl rfl rfl ⟨_, ⟨rfl, rfl, rfl⟩, rfl⟩ rfl) ?_
  refine reg_quiet rfl (step_C tab_ok (fun K hk => hk)) ?_
  refine reg_nil ?_
  refine seq_n ?_
  refine wc_ret ?_
  refine blk_r ?_
  refine seq_r ?_
  exact ⟨trivial, _, rfl, [], .of rfl rfl rfl rfl rfl ⟨⟨_, rfl, AVLe.tup1 zero_le rfl⟩, rfl, trivial⟩ trivial⟩
/-- The content that a version list begins with. -/
def topV : Vs → Ver
  | x :: _ => x
  | [] => ⟨false, []⟩
theorem replay_ok (d : Dk) (s : Nat) (k : Nat) (c : List Vs) (v : Vs) (h : At d s c v) (hk : k ≤ v.length) : FnIs Try.prog 26 [.d (encDk d), .d (i6 s), .d (i6 k)] [] (tup2 (encDk (put d s c v (topV (v.drop k)))) (i6 0)) [] := by
  have hN := h.new
  have hB := back_is v k hk (by have := h.vl; omega)
  have hk1 : decide ((k : Int) < 0) = false := decide_eq_false (by omega)
  have hk2 : decide ((v.length : Int) < (k : Int)) = false := decide_eq_false (by omega)
  match hd : v.drop k with
  | [] =>
    rw [hd] at hB
    refine fnIs_of tab_ok Try.func26 rfl rfl rfl ?_
    refine wc_seq ?_
    refine wc_region ?_
    refine reg_new (step_C tab_ok (fun K hk => hk)) rfl ?_
    refine reg_new (step_C tab_ok (fun K hk => hk)) rfl ?_
    refine reg_quiet rfl (step_C tab_ok (fun K hk => hk)) ?_
    refine reg_nil ?_
    refine seq_n ?_
    refine wc_seq ?_
    refine wc_region ?_
    refine reg_quiet rfl (load_box tab_ok rfl rfl rfl rfl) ?_
    refine reg_quiet rfl (step_C tab_ok (fun K hk => hk)) ?_
    refine reg_quiet rfl (call_r hN rfl rfl (arg_e (arg_e arg_nil)) (.inl rfl) (fun _ => rfl)) ?_
    refine reg_quiet rfl (step_C tab_ok (fun K hk => hk)) ?_
    refine reg_quiet rfl (step_C tab_ok (fun K hk => hk)) ?_
    refine reg_quiet rfl (step_C tab_ok (fun K hk => hk)) ?_
    refine reg_quiet rfl (step_C tab_ok (fun K hk => hk)) ?_
    refine reg_quiet rfl (step_C tab_ok (fun K hk => hk)) ?_
    refine reg_nil ?_
    refine seq_n ?_
    refine wc_seq ?_
    refine wc_block ?_
    refine wc_seq ?_
    refine wc_region ?_
    refine reg_quiet rfl (step_C tab_ok (fun K hk => hk)) ?_
    refine reg_quiet rfl (step_C tab_ok (fun K hk => hk)) ?_
    refine reg_quiet rfl (step_C tab_ok (fun K hk => hk)) ?_
    refine reg_nil ?_
    refine seq_n ?_
    refine wc_false rfl rfl ?_
    refine wc_seq ?_
    refine wc_region ?_
    refine reg_quiet rfl (step_C tab_ok (fun K hk => hk)) ?_
    refine reg_quiet rfl (step_C tab_ok (fun K hk => hk)) ?_
    refine reg_quiet rfl (step_C tab_ok (fun K hk => hk)) ?_
    refine reg_nil ?_
    refine seq_n ?_
    refine wc_false rfl rfl ?_
    refine wc_seq ?_
    refine wc_region ?_
    refine reg_quiet rfl (step_C tab_ok (fun K hk => hk)) ?_
    refine reg_quiet rfl (step_C tab_ok (fun K hk => hk)) ?_
    refine reg_quiet rfl (call_r (count_is v) rfl rfl (arg_e arg_nil) (.inl rfl) (fun _ => rfl)) ?_
    refine reg_quiet rfl (step_C tab_ok (fun K hk => hk)) ?_
    refine reg_quiet rfl (step_C tab_ok (fun K hk => hk)) ?_
    refine reg_nil ?_
    refine seq_n ?_
    refine wc_false rfl (by assumption) ?_
    refine wc_skip ?_
    refine blk_n ?_
    refine seq_n ?_
    refine wc_seq ?_
    refine wc_seq ?_
    refine wc_region ?_
    refine reg_quiet rfl (step_C tab_ok (fun K hk => hk)) ?_
    refine reg_quiet rfl (step_C tab_ok (fun K hk => hk)) ?_
    refine reg_quiet rfl (call_r hB rfl rfl (arg_e (arg_e arg_nil)) (.inl rfl) (fun _ => rfl)) ?_
    refine reg_quiet rfl (step_C tab_ok (fun K hk => hk)) ?_
    refine reg_nil ?_
    refine seq_n ?_
    refine wc_seq ?_
    refine wc_region ?_
    refine reg_quiet rfl (step_C tab_ok (fun K hk => hk)) ?_
    refine reg_quiet rfl (eql_pn rfl rfl rfl) ?_
    refine reg_nil ?_
    refine seq_n ?_
    refine wc_true rfl rfl ?_
    refine wc_seq ?_
    refine wc_region ?_
    refine reg_quiet rfl (load_box tab_ok rfl rfl rfl rfl) ?_
    refine reg_quiet rfl (step_C tab_ok (fun K hk => hk)) ?_
    refine reg_quiet rfl (call_r (h.with ⟨false, []⟩) rfl rfl (arg_e (arg_e (arg_e (arg_nilslice arg_nil)))) (.inl rfl) (fun _ => rfl)) ?_
    refine reg_store (store_row tab_ok rfl rfl rfl ⟨_, ⟨rfl, rfl, rfl⟩, rfl⟩ rfl) ?_
    refine reg_quiet rfl (step_C tab_ok (fun K hk => hk)) ?_
    refine reg_nil ?_
    refine seq_n ?_
    refine wc_ret ?_
    refine seq_r ?_
    exact ⟨trivial, _, rfl, [], .of rfl rfl rfl rfl rfl ⟨⟨_, rfl, AVLe.of_eq rfl⟩, rfl, trivial⟩ trivial⟩
  | ⟨th, b⟩ :: l =>
    rw [hd] at hB
    refine fnIs_of tab_ok Try.func26 rfl rfl rfl ?_
    refine wc_seq ?_
    refine wc_region ?_
    refine reg_new (step_C tab_ok (fun K hk => hk)) rfl ?_
    refine reg_new (step_C tab_ok (fun K hk => hk)) rfl ?_
    refine reg_quiet rfl (step_C tab_ok (fun K hk => hk)) ?_
    refine reg_nil ?_
    refine seq_n ?_
    refine wc_seq ?_
    refine wc_region ?_
    refine reg_quiet rfl (load_box tab_ok rfl rfl rfl rfl) ?_
    refine reg_quiet rfl (step_C tab_ok (fun K hk => hk)) ?_
    refine reg_quiet rfl (call_r hN rfl rfl (arg_e (arg_e arg_nil)) (.inl rfl) (fun _ => rfl)) ?_
    refine reg_quiet rfl (step_C tab_ok (fun K hk => hk)) ?_
    refine reg_quiet rfl (step_C tab_ok (fun K hk => hk)) ?_
    refine reg_quiet rfl (step_C tab_ok (fun K hk => hk)) ?_
    refine reg_quiet rfl (step_C tab_ok (fun K hk => hk)) ?_
    refine reg_quiet rfl (step_C tab_ok (fun K hk => hk)) ?_
    refine reg_nil ?_
    refine seq_n ?_
    refine wc_seq ?_
    refine wc_block ?_
    refine wc_seq ?_
    refine wc_region ?_
    refine reg_quiet rfl (step_C tab_ok (fun K hk => hk)) ?_
    refine reg_quiet rfl (step_C tab_ok (fun K hk => hk)) ?_
    refine reg_quiet rfl (step_C tab_ok (fun K hk => hk)) ?_
    refine reg_nil ?_
    refine seq_n ?_
    refine wc_false rfl rfl ?_
    refine wc_seq ?_
    refine wc_region ?_
    refine reg_quiet rfl (step_C tab_ok (fun K hk => hk)) ?_
    refine reg_quiet rfl (step_C tab_ok (fun K hk => hk)) ?_
    refine reg_quiet rfl (step_C tab_ok (fun K hk => hk)) ?_
    refine reg_nil ?_
    refine seq_n ?_
    refine wc_false rfl rfl ?_
    refine wc_seq ?_
    refine wc_region ?_
    refine reg_quiet rfl (step_C tab_ok (fun K hk => hk)) ?_
    refine reg_quiet rfl (step_C tab_ok (fun K hk => hk)) ?_
    refine reg_quiet rfl (call_r (count_is v) rfl rfl (arg_e arg_nil) (.inl rfl) (fun _ => rfl)) ?_
    refine reg_quiet rfl (step_C tab_ok (fun K hk => hk)) ?_
    refine reg_quiet rfl (step_C tab_ok (fun K hk => hk)) ?_
    refine reg_nil ?_
    refine seq_n ?_
    refine wc_false rfl (by assumption) ?_
    refine wc_skip ?_
    refine blk_n ?_
    refine seq_n ?_
    refine wc_seq ?_
    refine wc_seq ?_
    refine wc_region ?_
    refine reg_quiet rfl (step_C tab_ok (fun K hk => hk)) ?_
    refine reg_quiet rfl (step_C tab_ok (fun K hk => hk)) ?_
    refine reg_quiet rfl (call_r hB rfl rfl (arg_e (arg_e arg_nil)) (.inl rfl) (fun _ => rfl)) ?_
    refine reg_quiet rfl (step_C tab_ok (fun K hk => hk)) ?_
    refine reg_nil ?_
    refine seq_n ?_
    refine wc_seq ?_
    refine wc_region ?_
    refine reg_quiet rfl (step_C tab_ok (fun K hk => hk)) ?_
    refine reg_quiet rfl (eql_pt rfl rfl rfl) ?_
    refine reg_nil ?_
    refine seq_n ?_
    refine wc_false rfl rfl ?_
    refine wc_skip ?_
    refine seq_n ?_
    refine wc_seq ?_
    refine wc_draw (by kernel_rfl) ?_
    refine dreg_q [3] [64] rfl (load_box tab_ok rfl rfl rfl rfl) ?_
    refine dreg_q [1] [] rfl (step_C tab_ok (fun K hk => hk)) ?_
    refine dreg_q [8] [] rfl (step_C tab_ok (fun K hk => hk)) ?_
    refine dreg_q [41] [] rfl (nilCheck_pt rfl) ?_
    refine dreg_q [42] [] rfl (step_C tab_ok (fun K hk => hk)) ?_
    refine dreg_q [43] [] rfl (load_i tab_ok rfl rfl) ?_
    refine dreg_q [8] [] rfl (step_C tab_ok (fun K hk => hk)) ?_
    refine dreg_q [45] [] rfl (nilCheck_pt rfl) ?_
    refine dreg_q [46] [] rfl (step_C tab_ok (fun K hk => hk)) ?_
    refine dreg_q [47] [] rfl (load_i tab_ok rfl rfl) ?_
    refine dreg_q [39, 40, 44, 48] [] rfl (call_r (h.with ⟨th, b⟩) rfl rfl (arg_e (arg_e (arg_e (arg_e arg_nil)))) (.inl rfl) (fun _ => rfl)) ?_
    refine dreg_s [6, 49] [72] (store_row tab_ok rfl rfl rfl ⟨_, ⟨rfl, rfl, rfl⟩, rfl⟩ rfl) ?_
    refine dreg_q [] [] rfl (step_C tab_ok (fun K hk => hk)) ?_
    refine dreg_end (by kernel_rfl) ?_
    refine seq_n ?_
    refine wc_ret ?_
    exact ⟨trivial, _, rfl, [], .of rfl rfl rfl rfl rfl ⟨⟨_, rfl, AVLe.of_eq rfl⟩, rfl, trivial⟩ trivial⟩
theorem version_neg (d : Dk) (s : Nat) (k : Int) (c : List Vs) (v : Vs) (h : At d s c v) (hk : decide (k < 0) = true) : FnIs Try.prog 25 [.d (encDk d), .d (i6 s), .d (i6 k)] [] (tup2 (.sc nil_) (i6 1)) [] := by
  have hN := h.new
  refine fnIs_of tab_ok Try.func25 rfl rfl rfl ?_
  refine wc_seq ?_
  refine wc_region ?_
  refine reg_new (step_C tab_ok (fun K hk => hk)) rfl ?_
  refine reg_quiet rfl (step_C tab_ok (fun K hk => hk)) ?_
  refine reg_quiet rfl (step_C tab_ok (fun K hk => hk)) ?_
  refine reg_nil ?_
  refine seq_n ?_
  refine wc_seq ?_
  refine wc_region ?_
  refine reg_quiet rfl (load_box tab_ok rfl rfl rfl rfl) ?_
  refine reg_quiet rfl (step_C tab_ok (fun K hk => hk)) ?_
  refine reg_quiet rfl (call_r hN rfl rfl (arg_e (arg_e arg_nil)) (.inl rfl) (fun _ => rfl)) ?_
  refine reg_quiet rfl (step_C tab_ok (fun K hk => hk)) ?_
  refine reg_quiet rfl (step_C tab_ok (fun K hk => hk)) ?_
  refine reg_quiet rfl (step_C tab_ok (fun K hk => hk)) ?_
  refine reg_quiet rfl (step_C tab_ok (fun K hk => hk)) ?_
  refine reg_quiet rfl (step_C tab_ok (fun K hk => hk)) ?_
  refine reg_nil ?_
  refine seq_n ?_
  refine wc_seq ?_
  refine wc_seq ?_
  refine wc_region ?_
  refine reg_quiet rfl (step_C tab_ok (fun K hk => hk)) ?_
  refine reg_quiet rfl (step_C tab_ok (fun K hk => hk)) ?_
  refine reg_quiet rfl (step_C tab_ok (fun K hk => hk)) ?_
  refine reg_on rfl rfl rfl ?_
  refine reg_quiet rfl (step_C tab_ok (fun K hk => hk)) ?_
  refine reg_on rfl rfl rfl ?_
  refine reg_quiet rfl (step_C tab_ok (fun K hk => hk)) ?_
  refine reg_on rfl rfl rfl ?_
  refine reg_quiet rfl (step_C tab_ok (fun K hk => hk)) ?_
  refine reg_skip rfl rfl (by assumption) rfl rfl ?_
  refine reg_skip rfl rfl (by assumption) rfl rfl ?_
  refine reg_skip rfl rfl (by assumption) rfl rfl ?_
  refine reg_skip rfl rfl (by assumption) rfl rfl ?_
  refine reg_on rfl rfl rfl ?_
  refine reg_quiet rfl (pick_T tab_ok rfl (by assumption) rfl) ?_
  refine reg_quiet rfl (pick_T tab_ok rfl rfl rfl) ?_
  refine reg_nil ?_
  refine seq_n ?_
  refine wc_true rfl rfl ?_
  refine wc_region ?_
  refine reg_quiet rfl (step_C tab_ok (fun K hk => hk)) ?_
  refine reg_nil ?_
  refine seq_n ?_
  refine wc_seq ?_
  refine wc_seq ?_
  refine wc_region ?_
  refine reg_quiet rfl (step_C tab_ok (fun K hk => hk)) ?_
  refine reg_quiet rfl (step_C tab_ok (fun K hk => hk)) ?_
  refine reg_nil ?_
  refine seq_n ?_
  refine wc_true rfl rfl ?_
  refine wc_seq ?_
  refine wc_region ?_
  refine reg_quiet rfl (step_C tab_ok (fun K hk => hk)) ?_
  refine reg_quiet rfl (step_C tab_ok (fun K hk => hk)) ?_
  refine reg_quiet rfl (step_C tab_ok (fun K hk => hk)) ?_
  refine reg_nil ?_
  refine seq_n ?_
  refine wc_ret ?_
  refine seq_r ?_
  exact ⟨trivial, [], .of rfl rfl rfl rfl rfl ⟨⟨_, rfl, AVLe.of_eq rfl⟩, rfl, trivial⟩ trivial⟩
theorem version_big (d : Dk) (s : Nat) (k : Int) (c : List Vs) (v : Vs) (h : At d s c v) (hk : decide (k < 0) = false) (hk2 : decide ((v.length : Int) < k) = true) : FnIs Try.prog 25 [.d (encDk d), .d (i6 s), .d (i6 k)] [] (tup2 (.sc nil_) (i6 1)) [] := by
  have hN := h.new
  refine fnIs_of tab_ok Try.func25 rfl rfl rfl ?_
  refine wc_seq ?_
  refine wc_region ?_
  refine reg_new (step_C tab_ok (fun K hk => hk)) rfl ?_
  refine reg_quiet rfl (step_C tab_ok (fun K hk => hk)) ?_
  refine reg_quiet rfl (step_C tab_ok (fun K hk => hk)) ?_
  refine reg_nil ?_
  refine seq_n ?_
  refine wc_seq ?_
  refine wc_region ?_
  refine reg_quiet rfl (load_box tab_ok rfl rfl rfl rfl) ?_
  refine reg_quiet rfl (step_C tab_ok (fun K hk => hk)) ?_
  refine reg_quiet rfl (call_r hN rfl rfl (arg_e (arg_e arg_nil)) (.inl rfl) (fun _ => rfl)) ?_
  refine reg_quiet rfl (step_C tab_ok (fun K hk => hk)) ?_
  refine reg_quiet rfl (step_C tab_ok (fun K hk => hk)) ?_
  refine reg_quiet rfl (step_C tab_ok (fun K hk => hk)) ?_
  refine reg_quiet rfl (step_C tab_ok (fun K hk => hk)) ?_
  refine reg_quiet rfl (step_C tab_ok (fun K hk => hk)) ?_
  refine reg_nil ?_
  refine seq_n ?_
  refine wc_seq ?_
  refine wc_seq ?_
  refine wc_region ?_
  refine reg_quiet rfl (step_C tab_ok (fun K hk => hk)) ?_
  refine reg_quiet rfl (step_C tab_ok (fun K hk => hk)) ?_
  refine reg_quiet rfl (step_C tab_ok (fun K hk => hk)) ?_
  refine reg_on rfl rfl rfl ?_
  refine reg_quiet rfl (step_C tab_ok (fun K hk => hk)) ?_
  refine reg_on rfl rfl rfl ?_
  refine reg_quiet rfl (step_C tab_ok (fun K hk => hk)) ?_
  refine reg_on rfl rfl rfl ?_
  refine reg_quiet rfl (step_C tab_ok (fun K hk => hk)) ?_
  refine reg_on rfl rfl (by assumption) ?_
  refine reg_quiet rfl (step_C tab_ok (fun K hk => hk)) ?_
  refine reg_on rfl rfl (by assumption) ?_
  refine reg_quiet rfl (step_C tab_ok (fun K hk => hk)) ?_
  refine reg_on rfl rfl (by assumption) ?_
  refine reg_quiet rfl (call_r (count_is v) rfl rfl (arg_e arg_nil) (.inl rfl) (fun _ => rfl)) ?_
  refine reg_on rfl rfl (by assumption) ?_
  refine reg_quiet rfl (step_C tab_ok (fun K hk => hk)) ?_
  refine reg_on rfl rfl rfl ?_
  refine reg_quiet rfl (pick_F tab_ok rfl (by assumption) rfl) ?_
  refine reg_quiet rfl (pick_T tab_ok rfl rfl rfl) ?_
  refine reg_nil ?_
  refine seq_n ?_
  refine wc_true rfl (by assumption) ?_
  refine wc_region ?_
  refine reg_quiet rfl (step_C tab_ok (fun K hk => hk)) ?_
  refine reg_nil ?_
  refine seq_n ?_
  refine wc_seq ?_
  refine wc_seq ?_
  refine wc_region ?_
  refine reg_quiet rfl (step_C tab_ok (fun K hk => hk)) ?_
  refine reg_quiet rfl (step_C tab_ok (fun K hk => hk)) ?_
  refine reg_nil ?_
  refine seq_n ?_
  refine wc_true rfl rfl ?_
  refine wc_seq ?_
  refine wc_region ?_
  refine reg_quiet rfl (step_C tab_ok (fun K hk => hk)) ?_
  refine reg_quiet rfl (step_C tab_ok (fun K hk => hk)) ?_
  refine reg_quiet rfl (step_C tab_ok (fun K hk => hk)) ?_
  refine reg_nil ?_
  refine seq_n ?_
  refine wc_ret ?_
  refine seq_r ?_
  exact ⟨trivial, [], .of rfl rfl rfl rfl rfl ⟨⟨_, rfl, AVLe.of_eq rfl⟩, rfl, trivial⟩ trivial⟩
theorem version_ok (d : Dk) (s : Nat) (k : Nat) (c : List Vs) (v : Vs) (h : At d s c v) (hk : k ≤ v.length) : FnIs Try.prog 25 [.d (encDk d), .d (i6 s), .d (i6 k)] [] (contR (v.drop (v.length - k))) [] := by
  have hN := h.new
  have hvl := h.vl
  have hB := back_is v (v.length - k) (by omega) (by omega)
  have hC := content_is (v.drop (v.length - k)) (fun x hx => h.b x (List.mem_of_mem_drop hx))
  have hk1 : decide ((k : Int) < 0) = false := decide_eq_false (by omega)
  have hk2 : decide ((v.length : Int) < (k : Int)) = false := decide_eq_false (by omega)
  have hsub : IntKind.i64.wrap ((v.length : Int) - k) = ((v.length - k : Nat) : Int) := by rw [wrap_i64 (by omega) (by omega)]; omega
  rcases contR_cases (v.drop (v.length - k)) with ⟨b, l, _, hr⟩ | hr
  · rw [hr] at hC ⊢
    refine fnIs_of tab_ok Try.func25 rfl rfl rfl ?_
    refine wc_seq ?_
    refine wc_region ?_
    refine reg_new (step_C tab_ok (fun K hk => hk)) rfl ?_
    refine reg_quiet rfl (step_C tab_ok (fun K hk => hk)) ?_
    refine reg_quiet rfl (step_C tab_ok (fun K hk => hk)) ?_
    refine reg_nil ?_
    refine seq_n ?_
    refine wc_seq ?_
    refine wc_region ?_
    refine reg_quiet rfl (load_box tab_ok rfl rfl rfl rfl) ?_
    refine reg_quiet rfl (step_C tab_ok (fun K hk => hk)) ?_
    refine reg_quiet rfl (call_r hN rfl rfl (arg_e (arg_e arg_nil)) (.inl rfl) (fun _ => rfl)) ?_
    refine reg_quiet rfl (step_C tab_ok (fun K hk => hk)) ?_
    refine reg_quiet rfl (step_C tab_ok (fun K hk => hk)) ?_
    refine reg_quiet rfl (step_C tab_ok (fun K hk => hk)) ?_
    refine reg_quiet rfl (step_C tab_ok (fun K hk => hk)) ?_
    refine reg_quiet rfl (step_C tab_ok (fun K hk => hk)) ?_
    refine reg_nil ?_
    refine seq_n ?_
    refine wc_seq ?_
    refine wc_seq ?_
    refine wc_region ?_
    refine reg_quiet rfl (step_C tab_ok (fun K hk => hk)) ?_
    refine reg_quiet rfl (step_C tab_ok (fun K hk => hk)) ?_
    refine reg_quiet rfl (step_C tab_ok (fun K hk => hk)) ?_
    refine reg_on rfl rfl rfl ?_
    refine reg_quiet rfl (step_C tab_ok (fun K hk => hk)) ?_
    refine reg_on rfl rfl rfl ?_
    refine reg_quiet rfl (step_C tab_ok (fun K hk => hk)) ?_
    refine reg_on rfl rfl rfl ?_
    refine reg_quiet rfl (step_C tab_ok (fun K hk => hk)) ?_
    refine reg_on rfl rfl rfl ?_
    refine reg_quiet rfl (step_C tab_ok (fun K hk => hk)) ?_
    refine reg_on rfl rfl rfl ?_
    refine reg_quiet rfl (step_C tab_ok (fun K hk => hk)) ?_
    refine reg_on rfl rfl rfl ?_
    refine reg_quiet rfl (call_r (count_is v) rfl rfl (arg_e arg_nil) (.inl rfl) (fun _ => rfl)) ?_
    refine reg_on rfl rfl rfl ?_
    refine reg_quiet rfl (step_C tab_ok (fun K hk => hk)) ?_
    refine reg_on rfl rfl rfl ?_
    refine reg_quiet rfl (pick_F tab_ok rfl rfl rfl) ?_
    refine reg_quiet rfl (pick_T tab_ok rfl rfl rfl) ?_
    refine reg_nil ?_
    refine seq_n ?_
    refine wc_false rfl (by assumption) ?_
    refine wc_skip ?_
    refine seq_n ?_
    refine wc_seq ?_
    refine wc_seq ?_
    refine wc_region ?_
    refine reg_quiet rfl (step_C tab_ok (fun K hk => hk)) ?_
    refine reg_quiet rfl (step_C tab_ok (fun K hk => hk)) ?_
    refine reg_nil ?_
    refine seq_n ?_
    refine wc_false rfl rfl ?_
    refine wc_skip ?_
    refine seq_n ?_
    refine wc_seq ?_
    refine wc_region ?_
    refine reg_quiet rfl (step_C tab_ok (fun K hk => hk)) ?_
    refine reg_quiet rfl (step_C tab_ok (fun K hk => hk)) ?_
    refine reg_quiet rfl (call_r (count_is v) rfl rfl (arg_e arg_nil) (.inl rfl) (fun _ => rfl)) ?_
    refine reg_quiet rfl (step_C tab_ok (fun K hk => hk)) ?_
    refine reg_quiet rfl (sub_int (m := ((v.length - k : Nat) : Int)) tab_ok rfl rfl hsub) ?_
    refine reg_quiet rfl (call_r hB rfl rfl (arg_e (arg_e arg_nil)) (.inl rfl) (fun _ => rfl)) ?_
    refine reg_quiet rfl (call_r hC rfl rfl (arg_e arg_nil) (.inl rfl) (fun _ => rfl)) ?_
    refine reg_quiet rfl (step_C tab_ok (fun K hk => hk)) ?_
    refine reg_quiet rfl (step_C tab_ok (fun K hk => hk)) ?_
    refine reg_quiet rfl (step_C tab_ok (fun K hk => hk)) ?_
    refine reg_quiet rfl (step_C tab_ok (fun K hk => hk)) ?_
    refine reg_nil ?_
    refine seq_n ?_
    refine wc_ret ?_
    exact ⟨trivial, [], .of rfl rfl rfl rfl rfl ⟨⟨_, rfl, AVLe.of_eq rfl⟩, rfl, trivial⟩ trivial⟩
  · rw [hr] at hC ⊢
    refine fnIs_of tab_ok Try.func25 rfl rfl rfl ?_
    refine wc_seq ?_
    refine wc_region ?_
    refine reg_new (step_C tab_ok (fun K hk => hk)) rfl ?_
    refine reg_quiet rfl (step_C tab_ok (fun K hk => hk)) ?_
    refine reg_quiet rfl (step_C tab_ok (fun K hk => hk)) ?_
    refine reg_nil ?_
    refine seq_n ?_
    refine wc_seq ?_
    refine wc_region ?_
    refine reg_quiet rfl (load_box tab_ok rfl rfl rfl rfl) ?_
    refine reg_quiet rfl (step_C tab_ok (fun K hk => hk)) ?_
    refine reg_quiet rfl (call_r hN rfl rfl (arg_e (arg_e arg_nil)) (.inl rfl) (fun _ => rfl)) ?_
    refine reg_quiet rfl (step_C tab_ok (fun K hk => hk)) ?_
    refine reg_quiet rfl (step_C tab_ok (fun K hk => hk)) ?_
    refine reg_quiet rfl (step_C tab_ok (fun K hk => hk)) ?_
    refine reg_quiet rfl (step_C tab_ok (fun K hk => hk)) ?_
    refine reg_quiet rfl (step_C tab_ok (fun K hk => hk)) ?_
    refine reg_nil ?_
    refine seq_n ?_
    refine wc_seq ?_
    refine wc_seq ?_
    refine wc_region ?_
    refine reg_quiet rfl (step_C tab_ok (fun K hk => hk)) ?_
    refine reg_quiet rfl (step_C tab_ok (fun K hk => hk)) ?_
    refine reg_quiet rfl (step_C tab_ok (fun K hk => hk)) ?_
    refine reg_on rfl rfl rfl ?_
    refine reg_quiet rfl (step_C tab_ok (fun K hk => hk)) ?_
    refine reg_on rfl rfl rfl ?_
    refine reg_quiet rfl (step_C tab_ok (fun K hk => hk)) ?_
    refine reg_on rfl rfl rfl ?_
    refine reg_quiet rfl (step_C tab_ok (fun K hk => hk)) ?_
    refine reg_on rfl rfl rfl ?_
    refine reg_quiet rfl (step_C tab_ok (fun K hk => hk)) ?_
    refine reg_on rfl rfl rfl ?_
    refine reg_quiet rfl (step_C tab_ok (fun K hk => hk)) ?_
    refine reg_on rfl rfl rfl ?_
    refine reg_quiet rfl (call_r (count_is v) rfl rfl (arg_e arg_nil) (.inl rfl) (fun _ => rfl)) ?_
    refine reg_on rfl rfl rfl ?_
    refine reg_quiet rfl (step_C tab_ok (fun K hk => hk)) ?_
    refine reg_on rfl rfl rfl ?_
    refine reg_quiet rfl (pick_F tab_ok rfl rfl rfl) ?_
    refine reg_quiet rfl (pick_T tab_ok rfl rfl rfl) ?_
    refine reg_nil ?_
    refine seq_n ?_
    refine wc_false rfl (by assumption) ?_
    refine wc_skip ?_
    refine seq_n ?_
    refine wc_seq ?_
    refine wc_seq ?_
    refine wc_region ?_
    refine reg_quiet rfl (step_C tab_ok (fun K hk => hk)) ?_
    refine reg_quiet rfl (step_C tab_ok (fun K hk => hk)) ?_
    refine reg_nil ?_
    refine seq_n ?_
    refine wc_false rfl rfl ?_
    refine wc_skip ?_
    refine seq_n ?_
    refine wc_seq ?_
    refine wc_region ?_
    refine reg_quiet rfl (step_C tab_ok (fun K hk => hk)) ?_
    refine reg_quiet rfl (step_C tab_ok (fun K hk => hk)) ?_
    refine reg_quiet rfl (call_r (count_is v) rfl rfl (arg_e arg_nil) (.inl rfl) (fun _ => rfl)) ?_
    refine reg_quiet rfl (step_C tab_ok (fun K hk => hk)) ?_
    refine reg_quiet rfl (sub_int (m := ((v.length - k : Nat) : Int)) tab_ok rfl rfl hsub) ?_
    refine reg_quiet rfl (call_r hB rfl rfl (arg_e (arg_e arg_nil)) (.inl rfl) (fun _ => rfl)) ?_
    refine reg_quiet rfl (call_r hC rfl rfl (arg_e arg_nil) (.inl rfl) (fun _ => rfl)) ?_
    refine reg_quiet rfl (step_C tab_ok (fun K hk => hk)) ?_
    refine reg_quiet rfl (step_C tab_ok (fun K hk => hk)) ?_
    refine reg_quiet rfl (step_C tab_ok (fun K hk => hk)) ?_
    refine reg_quiet rfl (step_C tab_ok (fun K hk => hk)) ?_
    refine reg_nil ?_
    refine seq_n ?_
    refine wc_ret ?_
    exact ⟨trivial, [], .of rfl rfl rfl rfl rfl ⟨⟨_, rfl, AVLe.of_eq rfl⟩, rfl, trivial⟩ trivial⟩
end Go.Proofs.Ytfmemklkkmiicaa

/- Disks: Present; the definition's New, Last, Back. -/
namespace Go.Proofs.Ytfmemklkkmiicaa
open Go.Eng
set_option maxHeartbeats 4000000
attribute [local irreducible] WC RegS RegD SeqQ BlkQ ScoQ RegK CutK Sat SatN FnIs LoopQ StepIs OpIs
/-- The versions of a sector. -/
def vat (d : Dk) (s : Nat) : Vs := ((d.cs[((s : Int).tdiv 64).toNat]?).bind fun c => c[((s : Int).tmod 64).toNat]?).getD []
theorem At.vat {d : Dk} {s : Nat} {c : List Vs} {v : Vs} (h : At d s c v) : vat d s = v := by
  unfold Ytfmemklkkmiicaa.vat
  rw [h.hc]
  show (c[_]?).getD [] = v
  rw [h.hv]
  rfl
/-- All sectors are there. -/
def Good (N : Nat) (d : Dk) : Prop := d.n = N ∧ ∀ s, s < N → ∃ c v, At d s c v
def presK (d : Dk) (k : Nat) : List Int := ((List.range k).filter fun (i : Nat) => (topV (vat d i)).there).map fun (i : Nat) => (i : Int)
theorem pres_len (d : Dk) (k : Nat) : (presK d k).length ≤ k := by
  have := List.length_filter_le (fun (i : Nat) => (topV (vat d i)).there) (List.range k)
  simp only [presK, List.length_map]
  simpa using this
theorem pres_yes {d : Dk} {k : Nat} (h : (topV (vat d k)).there = true) : presK d (k + 1) = presK d k ++ [(k : Int)] := by simp [presK, List.range_succ, List.filter_append, h]
theorem pres_no {d : Dk} {k : Nat} (h : (topV (vat d k)).there = false) : presK d (k + 1) = presK d k := by simp [presK, List.range_succ, List.filter_append, h]
theorem present_is (d : Dk) (N : Nat) (hN2 : N ≤ 10922) (hg : Good N d) : FnIs Try.prog 29 [.d (encDk d)] [] (.own 64 0 (presK d N).length 1 (some (presK d N).length)) [(64, .ds 3 1 false i6 (presK d N))] := by
  obtain ⟨hn, hg⟩ := hg
  refine fnIs_of tab_ok Try.func29 rfl rfl rfl ?_
  refine wc_seq ?_
  refine wc_region ?_
  refine reg_new (step_C tab_ok (fun K hk => hk)) rfl ?_
  refine reg_quiet rfl (step_C tab_ok (fun K hk => hk)) ?_
  refine reg_nil ?_
  refine seq_n ?_
  refine wc_seq ?_
  refine wc_region ?_
  refine reg_quiet rfl (step_C tab_ok (fun K hk => hk)) ?_
  refine reg_nil ?_
  refine seq_n ?_
  refine wc_seq ?_
  refine wc_seq ?_
  refine wc_region ?_
  refine reg_quiet rfl (step_C tab_ok (fun K hk => hk)) ?_
  refine reg_quiet rfl (load_box tab_ok rfl rfl ⟨_, rfl, rfl⟩ rfl) ?_
  refine reg_quiet rfl (step_C tab_ok (fun K hk => hk)) ?_
  refine reg_nil ?_
  refine seq_n ?_
  refine wc_block ?_
  refine wc_inv (fun i : Nat => ⟨[(9, .int .i64 i), (8, .int .i64 d.n), (3, .own 66 0 (presK d i).length 1 none), (1, .ptr 64 [])], [(64, some (.box 27 (.d (encDk d)))), (66, some (.ds 3 1 false i6 (presK d i)))], 72, Try.f29.ntmps, 64⟩) (fun i => i ≤ N) (fun i => N - i) 0 [(66, none)] (Nat.zero_le _)
    (.of rfl rfl rfl rfl rfl ⟨⟨_, rfl, .refl _⟩, rfl, ⟨_, rfl, .refl _⟩, rfl, ⟨_, rfl, .refl _⟩, rfl, ⟨_, rfl, .refl _⟩, rfl, trivial⟩ ⟨⟨rfl, rfl, _, rfl, .refl _⟩, ⟨rfl, rfl, rfl⟩, trivial⟩) ?_
  intro i hi
  have hlen : (presK d i).length + 1 ≤ 1048576 := by have := pres_len d i; omega
  refine wc_of ?_
  refine wc_seq ?_
  refine wc_region ?_
  refine reg_quiet rfl (step_C tab_ok (fun K hk => hk)) ?_
  refine reg_nil ?_
  refine seq_n ?_
  refine wc_seq ?_
  refine wc_cond rfl (fun h3 => ?_) (fun h3 => ?_)
  · have hlt : i < N := by have := of_decide_eq_true h3; omega
    obtain ⟨c, v, ha⟩ := hg i hlt
    have hN := ha.new
    have hv := ha.vat
    match v with
    | [] =>
      have hs := pres_no (d := d) (k := i) (by rw [hv]; rfl)
      refine wc_skip ?_
      refine seq_n ?_
      refine wc_seq ?_
      refine wc_block ?_
      refine wc_seq ?_
      refine wc_region ?_
      refine reg_quiet rfl (step_C tab_ok (fun K hk => hk)) ?_
      refine reg_quiet rfl (step_C tab_ok (fun K hk => hk)) ?_
      refine reg_nil ?_
      refine seq_n ?_
      refine wc_seq ?_
      refine wc_region ?_
      refine reg_quiet rfl (load_box tab_ok rfl rfl rfl rfl) ?_
      refine reg_quiet rfl (step_C tab_ok (fun K hk => hk)) ?_
      refine reg_quiet rfl (call_r hN rfl rfl (arg_e (arg_e arg_nil)) (.inl rfl) (fun _ => rfl)) ?_
      refine reg_quiet rfl (step_C tab_ok (fun K hk => hk)) ?_
      refine reg_quiet rfl (step_C tab_ok (fun K hk => hk)) ?_
      refine reg_quiet rfl (step_C tab_ok (fun K hk => hk)) ?_
      refine reg_quiet rfl (step_C tab_ok (fun K hk => hk)) ?_
      refine reg_quiet rfl (step_C tab_ok (fun K hk => hk)) ?_
      refine reg_nil ?_
      refine seq_n ?_
      refine wc_seq ?_
      refine wc_region ?_
      refine reg_quiet rfl (step_C tab_ok (fun K hk => hk)) ?_
      refine reg_quiet rfl (neq_pn rfl rfl rfl) ?_
      refine reg_quiet rfl (step_C tab_ok (fun K hk => hk)) ?_
      refine reg_skip rfl rfl rfl rfl rfl ?_
      refine reg_skip rfl rfl rfl rfl rfl ?_
      refine reg_skip rfl rfl rfl rfl rfl ?_
      refine reg_skip rfl rfl rfl rfl rfl ?_
      refine reg_quiet rfl (pick_F tab_ok rfl rfl rfl) ?_
      refine reg_nil ?_
      refine seq_n ?_
      refine wc_false rfl rfl ?_
      refine wc_skip ?_
      refine blk_n ?_
      refine seq_n ?_
      refine wc_region ?_
      refine reg_quiet rfl (add_int tab_ok rfl rfl (wrap_i64 (by omega) (by omega))) ?_
      refine reg_quiet rfl (step_C tab_ok (fun K hk => hk)) ?_
      refine reg_nil ?_
      refine loop_n (i + 1) [(66, some 66)] (show i + 1 ≤ N from hlt) (show N - (i + 1) < N - i by omega) ?_
      exact .of rfl rfl rfl rfl rfl ⟨⟨_, rfl, .refl _⟩, rfl, ⟨_, rfl, .refl _⟩, rfl, ⟨_, rfl, .of_eq (by rw [hs]; rfl)⟩, rfl, ⟨_, rfl, .refl _⟩, rfl, trivial⟩ ⟨⟨rfl, rfl, _, rfl, .refl _⟩, ⟨rfl, rfl, _, rfl, .of_eq (by rw [hs]; rfl)⟩, trivial⟩
    | ⟨false, b⟩ :: l =>
      have hs := pres_no (d := d) (k := i) (by rw [hv]; rfl)
      refine wc_skip ?_
      refine seq_n ?_
      refine wc_seq ?_
      refine wc_block ?_
      refine wc_seq ?_
      refine wc_region ?_
      refine reg_quiet rfl (step_C tab_ok (fun K hk => hk)) ?_
      refine reg_quiet rfl (step_C tab_ok (fun K hk => hk)) ?_
      refine reg_nil ?_
      refine seq_n ?_
      refine wc_seq ?_
      refine wc_region ?_
      refine reg_quiet rfl (load_box tab_ok rfl rfl rfl rfl) ?_
      refine reg_quiet rfl (step_C tab_ok (fun K hk => hk)) ?_
      refine reg_quiet rfl (call_r hN rfl rfl (arg_e (arg_e arg_nil)) (.inl rfl) (fun _ => rfl)) ?_
      refine reg_quiet rfl (step_C tab_ok (fun K hk => hk)) ?_
      refine reg_quiet rfl (step_C tab_ok (fun K hk => hk)) ?_
      refine reg_quiet rfl (step_C tab_ok (fun K hk => hk)) ?_
      refine reg_quiet rfl (step_C tab_ok (fun K hk => hk)) ?_
      refine reg_quiet rfl (step_C tab_ok (fun K hk => hk)) ?_
      refine reg_nil ?_
      refine seq_n ?_
      refine wc_seq ?_
      refine wc_region ?_
      refine reg_quiet rfl (step_C tab_ok (fun K hk => hk)) ?_
      refine reg_quiet rfl (neq_pt rfl rfl rfl) ?_
      refine reg_quiet rfl (step_C tab_ok (fun K hk => hk)) ?_
      refine reg_on rfl rfl rfl ?_
      refine reg_quiet rfl (step_C tab_ok (fun K hk => hk)) ?_
      refine reg_on rfl rfl rfl ?_
      refine reg_quiet rfl (nilCheck_pt rfl) ?_
      refine reg_on rfl rfl rfl ?_
      refine reg_quiet rfl (step_C tab_ok (fun K hk => hk)) ?_
      refine reg_on rfl rfl rfl ?_
      refine reg_quiet rfl (load_i tab_ok rfl rfl) ?_
      refine reg_quiet rfl (pick_T tab_ok rfl rfl rfl) ?_
      refine reg_nil ?_
      refine seq_n ?_
      refine wc_false rfl rfl ?_
      refine wc_skip ?_
      refine blk_n ?_
      refine seq_n ?_
      refine wc_region ?_
      refine reg_quiet rfl (add_int tab_ok rfl rfl (wrap_i64 (by omega) (by omega))) ?_
      refine reg_quiet rfl (step_C tab_ok (fun K hk => hk)) ?_
      refine reg_nil ?_
      refine loop_n (i + 1) [(66, some 66)] (show i + 1 ≤ N from hlt) (show N - (i + 1) < N - i by omega) ?_
      exact .of rfl rfl rfl rfl rfl ⟨⟨_, rfl, .refl _⟩, rfl, ⟨_, rfl, .refl _⟩, rfl, ⟨_, rfl, .of_eq (by rw [hs]; rfl)⟩, rfl, ⟨_, rfl, .refl _⟩, rfl, trivial⟩ ⟨⟨rfl, rfl, _, rfl, .refl _⟩, ⟨rfl, rfl, _, rfl, .of_eq (by rw [hs]; rfl)⟩, trivial⟩
    | ⟨true, b⟩ :: l =>
      have hs := pres_yes (d := d) (k := i) (by rw [hv]; rfl)
      refine wc_skip ?_
      refine seq_n ?_
      refine wc_seq ?_
      refine wc_block ?_
      refine wc_seq ?_
      refine wc_region ?_
      refine reg_quiet rfl (step_C tab_ok (fun K hk => hk)) ?_
      refine reg_quiet rfl (step_C tab_ok (fun K hk => hk)) ?_
      refine reg_nil ?_
      refine seq_n ?_
      refine wc_seq ?_
      refine wc_region ?_
      refine reg_quiet rfl (load_box tab_ok rfl rfl rfl rfl) ?_
      refine reg_quiet rfl (step_C tab_ok (fun K hk => hk)) ?_
      refine reg_quiet rfl (call_r hN rfl rfl (arg_e (arg_e arg_nil)) (.inl rfl) (fun _ => rfl)) ?_
      refine reg_quiet rfl (step_C tab_ok (fun K hk => hk)) ?_
      refine reg_quiet rfl (step_C tab_ok (fun K hk => hk)) ?_
      refine reg_quiet rfl (step_C tab_ok (fun K hk => hk)) ?_
      refine reg_quiet rfl (step_C tab_ok (fun K hk => hk)) ?_
      refine reg_quiet rfl (step_C tab_ok (fun K hk => hk)) ?_
      refine reg_nil ?_
      refine seq_n ?_
      refine wc_seq ?_
      refine wc_region ?_
      refine reg_quiet rfl (step_C tab_ok (fun K hk => hk)) ?_
      refine reg_quiet rfl (neq_pt rfl rfl rfl) ?_
      refine reg_quiet rfl (step_C tab_ok (fun K hk => hk)) ?_
      refine reg_on rfl rfl rfl ?_
      refine reg_quiet rfl (step_C tab_ok (fun K hk => hk)) ?_
      refine reg_on rfl rfl rfl ?_
      refine reg_quiet rfl (nilCheck_pt rfl) ?_
      refine reg_on rfl rfl rfl ?_
      refine reg_quiet rfl (step_C tab_ok (fun K hk => hk)) ?_
      refine reg_on rfl rfl rfl ?_
      refine reg_quiet rfl (load_i tab_ok rfl rfl) ?_
      refine reg_quiet rfl (pick_T tab_ok rfl rfl rfl) ?_
      refine reg_nil ?_
      refine seq_n ?_
      refine wc_true rfl rfl ?_
      refine wc_region ?_
      refine reg_quiet rfl (step_C tab_ok (fun K hk => hk)) ?_
      refine reg_quiet rfl (step_C tab_ok (fun K hk => hk)) ?_
      refine reg_new (build_slice tab_ok rfl rfl rfl rfl rfl rfl rfl rfl) rfl ?_
      refine reg_new2 (append_one (s := 1) (enc := i6) tab_ok (i : Int) rfl rfl rfl rfl rfl rfl rfl rfl rfl hlen rfl) rfl ?_
      refine reg_quiet rfl (step_C tab_ok (fun K hk => hk)) ?_
      refine reg_nil ?_
      refine blk_n ?_
      refine seq_n ?_
      refine wc_region ?_
      refine reg_quiet rfl (add_int tab_ok rfl rfl (wrap_i64 (by omega) (by omega))) ?_
      refine reg_quiet rfl (step_C tab_ok (fun K hk => hk)) ?_
      refine reg_nil ?_
      refine loop_n (i + 1) [(66, some 248)] (show i + 1 ≤ N from hlt) (show N - (i + 1) < N - i by omega) ?_
      exact .of rfl rfl rfl rfl rfl ⟨⟨_, rfl, .refl _⟩, rfl, ⟨_, rfl, .refl _⟩, rfl, ⟨_, rfl, .of_eq (by rw [hs, List.length_append]; rfl)⟩, rfl, ⟨_, rfl, .refl _⟩, rfl, trivial⟩ ⟨⟨rfl, rfl, _, rfl, .refl _⟩, ⟨rfl, rfl, _, rfl, .of_eq (by rw [hs]; rfl)⟩, trivial⟩
  · obtain rfl : i = N := by have := of_decide_eq_false h3; omega
    refine wc_exit ?_
    refine seq_x ?_
    refine loop_x ?_
    refine blk_x ?_
    refine seq_n ?_
    refine wc_seq ?_
    refine wc_region ?_
    refine reg_quiet rfl (step_C tab_ok (fun K hk => hk)) ?_
    refine reg_new2 (call_h [(0, some 66)] (clipI_is (presK d i) (presK d i).length false) rfl rfl rfl (arg_give rfl rfl arg_nil) ⟨⟨rfl, rfl, _, _, rfl, rfl, .refl _⟩, trivial⟩ rfl rfl (.inl rfl) rfl rfl) rfl ?_
    refine reg_quiet rfl (step_C tab_ok (fun K hk => hk)) ?_
    refine reg_nil ?_
    refine seq_n ?_
    refine wc_ret ?_
    exact ⟨trivial, [(64, some 66)], .of rfl rfl rfl rfl rfl ⟨⟨_, rfl, AVLe.of_eq rfl⟩, rfl, trivial⟩ ⟨⟨rfl, rfl, _, rfl, .refl _⟩, trivial⟩⟩
theorem RowLe.split1 {t : TypeId} {x : D} : RowLe (.box t (.d (.cons x .nil))) (.box t (.acons (.d x) .anil)) := by
  rintro σ w X r ⟨_, b, cs, h1, h2, h3⟩
  exact ⟨rfl, b, cs, h1, h2, h3⟩
abbrev noV : Ver := ⟨false, []⟩
theorem refnew_is (N : Nat) (hN2 : N ≤ 10922) : FnIs Try.prog 11 [.d (i6 N)] [] (.d (encRD (List.replicate N [noV]))) [] := by
  refine fnIs_of tab_ok Try.func11 rfl rfl rfl ?_
  refine wc_seq ?_
  refine wc_region ?_
  refine reg_new (step_C tab_ok (fun K hk => hk)) rfl ?_
  refine reg_nil ?_
  refine seq_n ?_
  refine wc_seq ?_
  refine wc_region ?_
  refine reg_new (step_C tab_ok (fun K hk => hk)) rfl ?_
  refine reg_nil ?_
  refine seq_n ?_
  refine wc_seq ?_
  refine wc_seq ?_
  refine wc_region ?_
  refine reg_quiet rfl (step_C tab_ok (fun K hk => hk)) ?_
  refine reg_nil ?_
  refine seq_n ?_
  refine wc_block ?_
  refine wc_inv (fun i : Nat => ⟨[(4, .int .i64 i), (0, .int .i64 N), (3, .ptr 65 []), (2, .ptr 64 [])], [(64, some (.box 34 (.d (.cons (.sc nil_) .nil)))), (65, some (.box 34 (.acons (.own 66 0 (List.replicate i [noV]).length 1 none) .anil))), (66, some (.ds 61 1 false encVs (List.replicate i [noV])))], 72, Try.f11.ntmps, 64⟩) (fun i => i ≤ N) (fun i => N - i) 0 [(65, some 72), (66, none)] (Nat.zero_le _)
    (.of rfl rfl rfl rfl rfl ⟨⟨_, rfl, .refl _⟩, rfl, ⟨_, rfl, .refl _⟩, rfl, ⟨_, rfl, .refl _⟩, rfl, ⟨_, rfl, .refl _⟩, rfl, trivial⟩ ⟨⟨rfl, rfl, _, rfl, .refl _⟩, ⟨rfl, rfl, _, rfl, RowLe.split1⟩, ⟨rfl, rfl, rfl⟩, trivial⟩) ?_
  intro i hi
  have hlen : (List.replicate i [noV]).length + 1 ≤ 1048576 := by simp; omega
  have hs : List.replicate (i + 1) [noV] = List.replicate i [noV] ++ [[noV]] := List.replicate_succ' ..
  refine wc_of ?_
  refine wc_seq ?_
  refine wc_seq ?_
  refine wc_region ?_
  refine reg_quiet rfl (step_C tab_ok (fun K hk => hk)) ?_
  refine reg_quiet rfl (step_C tab_ok (fun K hk => hk)) ?_
  refine reg_quiet rfl (step_C tab_ok (fun K hk => hk)) ?_
  refine reg_nil ?_
  refine seq_n ?_
  refine wc_cond rfl (fun h3 => ?_) (fun h3 => ?_)
  · have hlt : i < N := by have := of_decide_eq_true h3; omega
    refine wc_skip ?_
    refine seq_n ?_
    refine wc_seq ?_
    refine wc_block ?_
    refine wc_region ?_
    refine reg_quiet rfl (step_C tab_ok (fun K hk => hk)) ?_
    refine reg_quiet rfl (load_box tab_ok rfl rfl rfl rfl) ?_
    refine reg_quiet rfl (build_struct tab_ok rfl rfl rfl rfl) ?_
    refine reg_new (build_slice tab_ok rfl rfl rfl rfl rfl rfl rfl rfl) rfl ?_
    refine reg_freeze (env' := [(13, _), (11, _), (4, _), (0, _), (3, _), (2, _)]) (h' := [(64, some _), (65, some _), (66, some _)]) 120 _ rfl ⟨⟨_, rfl, Frz.lits1 (enc := encV) noV rfl rfl⟩, ⟨_, rfl, .refl _⟩, ⟨_, rfl, .refl _⟩, ⟨_, rfl, .refl _⟩, ⟨_, rfl, .refl _⟩, ⟨_, rfl, .refl _⟩, trivial⟩ ⟨⟨rfl, _, rfl, .refl _⟩, ⟨rfl, _, rfl, .refl _⟩, ⟨rfl, _, rfl, .refl _⟩, trivial⟩ ?_
    refine reg_new (build_slice tab_ok rfl rfl rfl rfl rfl rfl rfl rfl) rfl ?_
    refine reg_new2 (append_one (s := 1) (enc := encVs) tab_ok [noV] rfl rfl rfl rfl rfl rfl rfl rfl rfl hlen rfl) rfl ?_
    refine reg_quiet rfl (step_C tab_ok (fun K hk => hk)) ?_
    refine reg_store (store_row tab_ok rfl rfl rfl ⟨_, ⟨_, ⟨rfl, rfl, rfl⟩, rfl⟩, rfl⟩ rfl) ?_
    refine reg_nil ?_
    refine blk_n ?_
    refine seq_n ?_
    refine wc_region ?_
    refine reg_quiet rfl (step_C tab_ok (fun K hk => hk)) ?_
    refine reg_quiet rfl (add_int tab_ok rfl rfl (wrap_i64 (by omega) (by omega))) ?_
    refine reg_quiet rfl (step_C tab_ok (fun K hk => hk)) ?_
    refine reg_nil ?_
    refine loop_n (i + 1) [(64, some 64), (65, some 65), (66, some 136)] (show i + 1 ≤ N from hlt) (show N - (i + 1) < N - i by omega) ?_
    exact .of rfl rfl rfl rfl rfl ⟨⟨_, rfl, .refl _⟩, rfl, ⟨_, rfl, .refl _⟩, rfl, ⟨_, rfl, .refl _⟩, rfl, ⟨_, rfl, .refl _⟩, rfl, trivial⟩ ⟨⟨rfl, rfl, _, rfl, .refl _⟩, ⟨rfl, rfl, _, rfl, .of_eq (by rw [hs, List.length_append]; rfl)⟩, ⟨rfl, rfl, _, rfl, .of_eq (by rw [hs]; rfl)⟩, trivial⟩
  · obtain rfl : i = N := by have := of_decide_eq_false h3; omega
    refine wc_exit ?_
    refine seq_x ?_
    refine loop_x ?_
    refine blk_x ?_
    refine seq_n ?_
    refine wc_freeze (env' := [(3, _), (2, _)]) (h' := [(64, some _), (65, some _)]) 66 _ rfl ⟨⟨_, rfl, .refl _⟩, ⟨_, rfl, .refl _⟩, trivial⟩ ⟨⟨rfl, _, rfl, .refl _⟩, ⟨rfl, _, rfl, FrzR.box (Frz.dcons (Frz.own rfl) Frz.dnil)⟩, trivial⟩ ?_
    refine wc_seq ?_
    refine wc_region ?_
    refine reg_quiet rfl (load_box tab_ok rfl rfl rfl rfl) ?_
    refine reg_store (store_row tab_ok rfl rfl rfl ⟨_, ⟨rfl, rfl, rfl⟩, rfl⟩ rfl) ?_
    refine reg_nil ?_
    refine seq_n ?_
    refine wc_ret ?_
    exact ⟨trivial, _, rfl, [], .of rfl rfl rfl rfl rfl ⟨⟨_, rfl, AVLe.of_eq rfl⟩, rfl, trivial⟩ trivial⟩
end Go.Proofs.Ytfmemklkkmiicaa

/- Disks: the definition's Last, Back, With; content. -/
namespace Go.Proofs.Ytfmemklkkmiicaa
open Go.Eng
set_option maxHeartbeats 4000000
attribute [local irreducible] WC RegS RegD SeqQ BlkQ ScoQ RegK CutK Sat SatN FnIs LoopQ StepIs OpIs
theorem last_is (L : List Vs) (i : Nat) (l : Vs) (x : Ver) (hp : 0 < l.length) (hlen : l.length ≤ 1000000) (hl : L[((i : Int)).toNat]? = some l) (hx : l[((l.length : Int) - 1).toNat]? = some x) : FnIs Try.prog 20 [.d (encRD L), .d (i6 i)] [] (.d (encV x)) [] := by
  refine fnIs_of tab_ok Try.func20 rfl rfl rfl ?_
  refine wc_seq ?_
  refine wc_region ?_
  refine reg_new (step_C tab_ok (fun K hk => hk)) rfl ?_
  refine reg_new (step_C tab_ok (fun K hk => hk)) rfl ?_
  refine reg_nil ?_
  refine seq_n ?_
  refine wc_seq ?_
  refine wc_draw (by kernel_rfl) ?_
  refine dreg_q [2] [64] rfl (step_C tab_ok (fun K hk => hk)) ?_
  refine dreg_q [5] [64] rfl (load_box tab_ok rfl rfl ⟨_, rfl, rfl⟩ rfl) ?_
  refine dreg_q [1] [] rfl (step_C tab_ok (fun K hk => hk)) ?_
  refine dreg_q [6, 7] [] rfl (index_arr (el := l) tab_ok rfl rfl rfl rfl rfl (by omega) hl) ?_
  refine dreg_q [8] [] rfl (load_i tab_ok rfl rfl) ?_
  refine dreg_q [2] [64] rfl (step_C tab_ok (fun K hk => hk)) ?_
  refine dreg_q [10] [64] rfl (load_box tab_ok rfl rfl ⟨_, rfl, rfl⟩ rfl) ?_
  refine dreg_q [1] [] rfl (step_C tab_ok (fun K hk => hk)) ?_
  refine dreg_q [11, 12] [] rfl (index_arr (el := l) tab_ok rfl rfl rfl rfl rfl (by omega) hl) ?_
  refine dreg_q [13] [] rfl (load_i tab_ok rfl rfl) ?_
  refine dreg_q [14] [] rfl (len_arr tab_ok rfl rfl) ?_
  refine dreg_q [15] [] rfl (sub_int tab_ok rfl rfl (wrap_i64 (by omega) (by omega))) ?_
  refine dreg_q [9, 16] [] rfl (index_arr (el := x) tab_ok rfl rfl rfl rfl rfl (by omega) hx) ?_
  refine dreg_q [17] [] rfl (load_i tab_ok rfl rfl) ?_
  refine dreg_s [4, 18] [72] (store_row tab_ok rfl rfl rfl ⟨_, ⟨rfl, rfl, rfl⟩, rfl⟩ rfl) ?_
  refine dreg_end (by kernel_rfl) ?_
  refine seq_n ?_
  refine wc_ret ?_
  exact ⟨trivial, _, rfl, [], .of rfl rfl rfl rfl rfl ⟨⟨_, rfl, AVLe.of_eq rfl⟩, rfl, trivial⟩ trivial⟩
theorem rback_no (L : List Vs) (i k : Nat) (l : Vs) (hlen : l.length ≤ 1000000) (hk : k ≤ 1000) (hl : L[((i : Int)).toNat]? = some l) (h1 : decide (((l.length : Int) - 1 - k) < 0) = true) : FnIs Try.prog 33 [.d (encRD L), .d (i6 i), .d (i6 k)] [] (tup2 (encV noV) (bo false)) [] := by
  have h0 : decide ((k : Int) < 0) = false := decide_eq_false (by omega)
  refine fnIs_of tab_ok Try.func33 rfl rfl rfl ?_
  refine wc_seq ?_
  refine wc_region ?_
  refine reg_new (step_C tab_ok (fun K hk => hk)) rfl ?_
  refine reg_new (step_C tab_ok (fun K hk => hk)) rfl ?_
  refine reg_quiet rfl (step_C tab_ok (fun K hk => hk)) ?_
  refine reg_nil ?_
  refine seq_n ?_
  refine wc_seq ?_
  refine wc_region ?_
  refine reg_quiet rfl (step_C tab_ok (fun K hk => hk)) ?_
  refine reg_quiet rfl (load_box tab_ok rfl rfl ⟨_, rfl, rfl⟩ rfl) ?_
  refine reg_quiet rfl (step_C tab_ok (fun K hk => hk)) ?_
  refine reg_quiet rfl (index_arr (el := l) tab_ok rfl rfl rfl rfl rfl (by omega) hl) ?_
  refine reg_quiet rfl (load_i tab_ok rfl rfl) ?_
  refine reg_quiet rfl (len_arr tab_ok rfl rfl) ?_
  refine reg_quiet rfl (sub_int tab_ok rfl rfl (wrap_i64 (by omega) (by omega))) ?_
  refine reg_quiet rfl (step_C tab_ok (fun K hk => hk)) ?_
  refine reg_quiet rfl (sub_int tab_ok rfl rfl (wrap_i64 (by omega) (by omega))) ?_
  refine reg_quiet rfl (step_C tab_ok (fun K hk => hk)) ?_
  refine reg_nil ?_
  refine seq_n ?_
  refine wc_seq ?_
  refine wc_seq ?_
  refine wc_region ?_
  refine reg_quiet rfl (step_C tab_ok (fun K hk => hk)) ?_
  refine reg_quiet rfl (step_C tab_ok (fun K hk => hk)) ?_
  refine reg_quiet rfl (step_C tab_ok (fun K hk => hk)) ?_
  refine reg_on rfl rfl rfl ?_
  refine reg_quiet rfl (step_C tab_ok (fun K hk => hk)) ?_
  refine reg_on rfl rfl rfl ?_
  refine reg_quiet rfl (step_C tab_ok (fun K hk => hk)) ?_
  refine reg_quiet rfl (pick_F tab_ok rfl rfl rfl) ?_
  refine reg_nil ?_
  refine seq_n ?_
  refine wc_true rfl (by assumption) ?_
  refine wc_seq ?_
  refine wc_region ?_
  refine reg_quiet rfl (build_struct tab_ok rfl rfl rfl rfl) ?_
  refine reg_store (store_row tab_ok rfl rfl rfl ⟨_, ⟨rfl, rfl, rfl⟩, rfl⟩ rfl) ?_
  refine reg_quiet rfl (step_C tab_ok (fun K hk => hk)) ?_
  refine reg_nil ?_
  refine seq_n ?_
  refine wc_ret ?_
  refine seq_r ?_
  exact ⟨trivial, _, rfl, [], .of rfl rfl rfl rfl rfl ⟨⟨_, rfl, AVLe.of_eq rfl⟩, rfl, trivial⟩ trivial⟩
theorem rback_yes (L : List Vs) (i k : Nat) (l : Vs) (x : Ver) (hlen : l.length ≤ 1000000) (hk : k ≤ 1000) (hl : L[((i : Int)).toNat]? = some l) (h1 : decide (((l.length : Int) - 1 - k) < 0) = false) (hx : l[((l.length : Int) - 1 - k).toNat]? = some x) : FnIs Try.prog 33 [.d (encRD L), .d (i6 i), .d (i6 k)] [] (tup2 (encV x) (bo true)) [] := by
  have h0 : decide ((k : Int) < 0) = false := decide_eq_false (by omega)
  have h2 := of_decide_eq_false h1
  refine fnIs_of tab_ok Try.func33 rfl rfl rfl ?_
  refine wc_seq ?_
  refine wc_region ?_
  refine reg_new (step_C tab_ok (fun K hk => hk)) rfl ?_
  refine reg_new (step_C tab_ok (fun K hk => hk)) rfl ?_
  refine reg_quiet rfl (step_C tab_ok (fun K hk => hk)) ?_
  refine reg_nil ?_
  refine seq_n ?_
  refine wc_seq ?_
  refine wc_region ?_
  refine reg_quiet rfl (step_C tab_ok (fun K hk => hk)) ?_
  refine reg_quiet rfl (load_box tab_ok rfl rfl ⟨_, rfl, rfl⟩ rfl) ?_
  refine reg_quiet rfl (step_C tab_ok (fun K hk => hk)) ?_
  refine reg_quiet rfl (index_arr (el := l) tab_ok rfl rfl rfl rfl rfl (by omega) hl) ?_
  refine reg_quiet rfl (load_i tab_ok rfl rfl) ?_
  refine reg_quiet rfl (len_arr tab_ok rfl rfl) ?_
  refine reg_quiet rfl (sub_int tab_ok rfl rfl (wrap_i64 (by omega) (by omega))) ?_
  refine reg_quiet rfl (step_C tab_ok (fun K hk => hk)) ?_
  refine reg_quiet rfl (sub_int tab_ok rfl rfl (wrap_i64 (by omega) (by omega))) ?_
  refine reg_quiet rfl (step_C tab_ok (fun K hk => hk)) ?_
  refine reg_nil ?_
  refine seq_n ?_
  refine wc_seq ?_
  refine wc_seq ?_
  refine wc_region ?_
  refine reg_quiet rfl (step_C tab_ok (fun K hk => hk)) ?_
  refine reg_quiet rfl (step_C tab_ok (fun K hk => hk)) ?_
  refine reg_quiet rfl (step_C tab_ok (fun K hk => hk)) ?_
  refine reg_on rfl rfl rfl ?_
  refine reg_quiet rfl (step_C tab_ok (fun K hk => hk)) ?_
  refine reg_on rfl rfl rfl ?_
  refine reg_quiet rfl (step_C tab_ok (fun K hk => hk)) ?_
  refine reg_quiet rfl (pick_F tab_ok rfl rfl rfl) ?_
  refine reg_nil ?_
  refine seq_n ?_
  refine wc_false rfl (by assumption) ?_
  refine wc_skip ?_
  refine seq_n ?_
  refine wc_seq ?_
  refine wc_region ?_
  refine reg_quiet rfl (step_C tab_ok (fun K hk => hk)) ?_
  refine reg_quiet rfl (load_box tab_ok rfl rfl ⟨_, rfl, rfl⟩ rfl) ?_
  refine reg_quiet rfl (step_C tab_ok (fun K hk => hk)) ?_
  refine reg_quiet rfl (index_arr (el := l) tab_ok rfl rfl rfl rfl rfl (by omega) hl) ?_
  refine reg_quiet rfl (load_i tab_ok rfl rfl) ?_
  refine reg_quiet rfl (step_C tab_ok (fun K hk => hk)) ?_
  refine reg_quiet rfl (index_arr (el := x) tab_ok rfl rfl rfl rfl rfl (by omega) hx) ?_
  refine reg_quiet rfl (load_i tab_ok rfl rfl) ?_
  refine reg_store (store_row tab_ok rfl rfl rfl ⟨_, ⟨rfl, rfl, rfl⟩, rfl⟩ rfl) ?_
  refine reg_quiet rfl (step_C tab_ok (fun K hk => hk)) ?_
  refine reg_nil ?_
  refine seq_n ?_
  refine wc_ret ?_
  exact ⟨trivial, _, rfl, [], .of rfl rfl rfl rfl rfl ⟨⟨_, rfl, AVLe.of_eq rfl⟩, rfl, trivial⟩ trivial⟩
theorem content_yes (b : List Int) : FnIs Try.prog 19 [.d (.arx 1 encU8 b), .d (i6 0), .d (encV ⟨true, b⟩)] [] (.int .i64 1) [] := by
  have f1 : (!decide (strOf b = strOf b)) = false := by simp
  have f2 : (!decide ((b.length : Int) = b.length)) = false := by simp
  refine fnIs_of tab_ok Try.func19 rfl rfl rfl ?_
  refine wc_seq ?_
  refine wc_region ?_
  refine reg_new (step_C tab_ok (fun K hk => hk)) rfl ?_
  refine reg_quiet rfl (step_C tab_ok (fun K hk => hk)) ?_
  refine reg_nil ?_
  refine seq_n ?_
  refine wc_seq ?_
  refine wc_seq ?_
  refine wc_region ?_
  refine reg_quiet rfl (step_C tab_ok (fun K hk => hk)) ?_
  refine reg_quiet rfl (load_box tab_ok rfl rfl ⟨_, rfl, rfl⟩ rfl) ?_
  refine reg_quiet rfl (step_C tab_ok (fun K hk => hk)) ?_
  refine reg_nil ?_
  refine seq_n ?_
  refine wc_false rfl rfl ?_
  refine wc_skip ?_
  refine seq_n ?_
  refine wc_seq ?_
  refine wc_seq ?_
  refine wc_region ?_
  refine reg_quiet rfl (step_C tab_ok (fun K hk => hk)) ?_
  refine reg_quiet rfl (step_C tab_ok (fun K hk => hk)) ?_
  refine reg_quiet rfl (step_C tab_ok (fun K hk => hk)) ?_
  refine reg_on rfl rfl rfl ?_
  refine reg_quiet rfl (step_C tab_ok (fun K hk => hk)) ?_
  refine reg_on rfl rfl rfl ?_
  refine reg_quiet rfl (conv_bytesx tab_ok rfl rfl rfl rfl) ?_
  refine reg_on rfl rfl rfl ?_
  refine reg_quiet rfl (step_C tab_ok (fun K hk => hk)) ?_
  refine reg_on rfl rfl rfl ?_
  refine reg_quiet rfl (load_box tab_ok rfl rfl ⟨_, rfl, rfl⟩ rfl) ?_
  refine reg_on rfl rfl rfl ?_
  refine reg_quiet rfl (neq_str tab_ok rfl rfl rfl) ?_
  refine reg_quiet rfl (pick_F tab_ok rfl rfl rfl) ?_
  refine reg_quiet rfl (step_C tab_ok (fun K hk => hk)) ?_
  refine reg_on rfl rfl (by assumption) ?_
  refine reg_quiet rfl (step_C tab_ok (fun K hk => hk)) ?_
  refine reg_on rfl rfl (by assumption) ?_
  refine reg_quiet rfl (cap_arx tab_ok rfl rfl) ?_
  refine reg_on rfl rfl (by assumption) ?_
  refine reg_quiet rfl (step_C tab_ok (fun K hk => hk)) ?_
  refine reg_on rfl rfl (by assumption) ?_
  refine reg_quiet rfl (len_arx tab_ok rfl rfl) ?_
  refine reg_on rfl rfl (by assumption) ?_
  refine reg_quiet rfl (step_C tab_ok (fun K hk => hk)) ?_
  refine reg_quiet rfl (pick_F tab_ok rfl (by assumption) rfl) ?_
  refine reg_nil ?_
  refine seq_n ?_
  refine wc_false rfl (by assumption) ?_
  refine wc_skip ?_
  refine seq_n ?_
  refine wc_seq ?_
  refine wc_region ?_
  refine reg_quiet rfl (step_C tab_ok (fun K hk => hk)) ?_
  refine reg_nil ?_
  refine seq_n ?_
  refine wc_ret ?_
  exact ⟨trivial, [], .of rfl rfl rfl rfl rfl ⟨⟨_, rfl, AVLe.of_eq rfl⟩, rfl, trivial⟩ trivial⟩
theorem content_no (b : List Int) : FnIs Try.prog 19 [.d (.sc nil_), .d (i6 11), .d (encV ⟨false, b⟩)] [] (.int .i64 1) [] := by
  refine fnIs_of tab_ok Try.func19 rfl rfl rfl ?_
  refine wc_seq ?_
  refine wc_region ?_
  refine reg_new (step_C tab_ok (fun K hk => hk)) rfl ?_
  refine reg_quiet rfl (step_C tab_ok (fun K hk => hk)) ?_
  refine reg_nil ?_
  refine seq_n ?_
  refine wc_seq ?_
  refine wc_seq ?_
  refine wc_region ?_
  refine reg_quiet rfl (step_C tab_ok (fun K hk => hk)) ?_
  refine reg_quiet rfl (load_box tab_ok rfl rfl ⟨_, rfl, rfl⟩ rfl) ?_
  refine reg_quiet rfl (step_C tab_ok (fun K hk => hk)) ?_
  refine reg_nil ?_
  refine seq_n ?_
  refine wc_true rfl rfl ?_
  refine wc_seq ?_
  refine wc_seq ?_
  refine wc_region ?_
  refine reg_quiet rfl (step_C tab_ok (fun K hk => hk)) ?_
  refine reg_quiet rfl (step_C tab_ok (fun K hk => hk)) ?_
  refine reg_quiet rfl (step_C tab_ok (fun K hk => hk)) ?_
  refine reg_on rfl rfl rfl ?_
  refine reg_quiet rfl (step_C tab_ok (fun K hk => hk)) ?_
  refine reg_on rfl rfl rfl ?_
  refine reg_quiet rfl (len_nil tab_ok rfl rfl) ?_
  refine reg_on rfl rfl rfl ?_
  refine reg_quiet rfl (step_C tab_ok (fun K hk => hk)) ?_
  refine reg_quiet rfl (pick_T tab_ok rfl rfl rfl) ?_
  refine reg_nil ?_
  refine seq_n ?_
  refine wc_true rfl rfl ?_
  refine wc_seq ?_
  refine wc_region ?_
  refine reg_quiet rfl (step_C tab_ok (fun K hk => hk)) ?_
  refine reg_nil ?_
  refine seq_n ?_
  refine wc_ret ?_
  refine seq_r ?_
  refine seq_r ?_
  exact ⟨trivial, [], .of rfl rfl rfl rfl rfl ⟨⟨_, rfl, AVLe.of_eq rfl⟩, rfl, trivial⟩ trivial⟩
/-- The contents of a sector behind a change. -/
def wEl (L : List Vs) (s : Nat) (v : Ver) (i : Nat) : Vs := if i = s then (L[i]?.getD []) ++ [v] else L[i]?.getD []
def wl (L : List Vs) (s : Nat) (v : Ver) (k : Nat) : List Vs := (List.range k).map (wEl L s v)
theorem wl_succ {L : List Vs} {s : Nat} {v : Ver} {k : Nat} : wl L s v (k + 1) = wl L s v k ++ [wEl L s v k] := by simp [wl, List.range_succ]
theorem wl_len {L : List Vs} {s : Nat} {v : Ver} {k : Nat} : (wl L s v k).length = k := by simp [wl]
theorem rwith_is (L : List Vs) (s : Nat) (v : Ver) (hL : L.length ≤ 10922) (hl0 : ∀ l ∈ L, 0 < l.length ∧ l.length ≤ 1000000) : FnIs Try.prog 32 [.d (encRD L), .d (i6 s), .d (encV v)] [] (.d (encRD (wl L s v L.length))) [] := by
  refine fnIs_of tab_ok Try.func32 rfl rfl rfl ?_
  refine wc_seq ?_
  refine wc_region ?_
  refine reg_new (step_C tab_ok (fun K hk => hk)) rfl ?_
  refine reg_new (step_C tab_ok (fun K hk => hk)) rfl ?_
  refine reg_new (step_C tab_ok (fun K hk => hk)) rfl ?_
  refine reg_nil ?_
  refine seq_n ?_
  refine wc_seq ?_
  refine wc_region ?_
  refine reg_new (step_C tab_ok (fun K hk => hk)) rfl ?_
  refine reg_nil ?_
  refine seq_n ?_
  refine wc_seq ?_
  refine wc_seq ?_
  refine wc_region ?_
  refine reg_quiet rfl (step_C tab_ok (fun K hk => hk)) ?_
  refine reg_nil ?_
  refine seq_n ?_
  refine wc_block ?_
  refine wc_inv (fun i : Nat => ⟨[(8, .int .i64 i), (1, .int .i64 s), (3, .ptr 64 []), (5, .ptr 65 []), (6, .ptr 66 []), (7, .ptr 67 [])], [(64, some (.box 34 (.d (encRD L)))), (65, some (.box 51 (.d (encV v)))), (66, some (.box 34 (.d (.cons (.sc nil_) .nil)))), (67, some (.box 34 (.acons (.own 68 0 (wl L s v i).length 1 none) .anil))), (68, some (.ds 61 1 false encVs (wl L s v i)))], 72, Try.f32.ntmps, 64⟩) (fun i => i ≤ L.length) (fun i => L.length - i) 0 [(64, some 64), (65, some 72), (66, some 80), (67, some 88), (68, none)] (Nat.zero_le _)
    (.of rfl rfl rfl rfl rfl ⟨⟨_, rfl, .refl _⟩, rfl, ⟨_, rfl, .refl _⟩, rfl, ⟨_, rfl, .refl _⟩, rfl, ⟨_, rfl, .refl _⟩, rfl, ⟨_, rfl, .refl _⟩, rfl, ⟨_, rfl, .refl _⟩, rfl, trivial⟩ ⟨⟨rfl, rfl, _, rfl, .refl _⟩, ⟨rfl, rfl, _, rfl, .refl _⟩, ⟨rfl, rfl, _, rfl, .refl _⟩, ⟨rfl, rfl, _, rfl, RowLe.split1⟩, ⟨rfl, rfl, rfl⟩, trivial⟩) ?_
  intro i hi
  have hlen2 : (wl L s v i).length + 1 ≤ 1048576 := by rw [wl_len]; omega
  have hs := wl_succ (L := L) (s := s) (v := v) (k := i)
  refine wc_of ?_
  refine wc_seq ?_
  refine wc_seq ?_
  refine wc_region ?_
  refine reg_quiet rfl (step_C tab_ok (fun K hk => hk)) ?_
  refine reg_quiet rfl (step_C tab_ok (fun K hk => hk)) ?_
  refine reg_quiet rfl (load_box tab_ok rfl rfl ⟨_, rfl, rfl⟩ rfl) ?_
  refine reg_quiet rfl (len_arr tab_ok rfl rfl) ?_
  refine reg_quiet rfl (step_C tab_ok (fun K hk => hk)) ?_
  refine reg_nil ?_
  refine seq_n ?_
  refine wc_cond rfl (fun h3 => ?_) (fun h3 => ?_)
  · have hlt : i < L.length := by have := of_decide_eq_true h3; omega
    obtain ⟨l, hl1⟩ : ∃ l, L[i]? = some l := ⟨_, List.getElem?_eq_getElem hlt⟩
    have hl : L[((i : Int)).toNat]? = some l := by rw [Int.toNat_natCast]; exact hl1
    obtain ⟨hp, hlen0⟩ := hl0 l (List.mem_of_getElem? hl1)
    have hlen : l.length ≤ 1048576 := by omega
    have hlen1 : l.length + 1 ≤ 1048576 := by omega
    refine wc_skip ?_
    refine seq_n ?_
    refine wc_seq ?_
    refine wc_block ?_
    refine wc_seq ?_
    refine wc_region ?_
    refine reg_quiet rfl (step_C tab_ok (fun K hk => hk)) ?_
    refine reg_quiet rfl (load_box tab_ok rfl rfl ⟨_, rfl, rfl⟩ rfl) ?_
    refine reg_quiet rfl (step_C tab_ok (fun K hk => hk)) ?_
    refine reg_quiet rfl (index_arr (el := l) tab_ok rfl rfl rfl rfl rfl (by omega) hl) ?_
    refine reg_quiet rfl (load_i tab_ok rfl rfl) ?_
    refine reg_new (append_empty_arr tab_ok rfl rfl rfl rfl rfl (.inr rfl) rfl hp hlen rfl) rfl ?_
    refine reg_quiet rfl (step_C tab_ok (fun K hk => hk)) ?_
    refine reg_nil ?_
    refine seq_n ?_
    refine wc_seq ?_
    refine wc_seq ?_
    refine wc_region ?_
    refine reg_quiet rfl (step_C tab_ok (fun K hk => hk)) ?_
    refine reg_quiet rfl (step_C tab_ok (fun K hk => hk)) ?_
    refine reg_quiet rfl (step_C tab_ok (fun K hk => hk)) ?_
    refine reg_nil ?_
    refine seq_n ?_
    refine wc_cond rfl (fun hu => ?_) (fun hu => ?_)
    · have hq : i = s := by have := of_decide_eq_true hu; omega
      rw [wEl, if_pos hq, hl1] at hs
      refine wc_region ?_
      refine reg_quiet rfl (step_C tab_ok (fun K hk => hk)) ?_
      refine reg_quiet rfl (load_box tab_ok rfl rfl rfl rfl) ?_
      refine reg_new (build_slice tab_ok rfl rfl rfl rfl rfl rfl rfl rfl) rfl ?_
      refine reg_new2 (append_one (s := 2) (enc := encV) tab_ok v rfl rfl rfl rfl rfl rfl rfl rfl rfl hlen1 rfl) rfl ?_
      refine reg_quiet rfl (step_C tab_ok (fun K hk => hk)) ?_
      refine reg_nil ?_
      refine seq_n ?_
      refine wc_region ?_
      refine reg_freeze (env' := [(9, _), (8, _), (1, _), (3, _), (5, _), (6, _), (7, _)]) (h' := [(64, some _), (65, some _), (66, some _), (67, some _), (68, some _)]) 216 _ rfl ⟨⟨_, rfl, Frz.own (by simp)⟩, ⟨_, rfl, .refl _⟩, ⟨_, rfl, .refl _⟩, ⟨_, rfl, .refl _⟩, ⟨_, rfl, .refl _⟩, ⟨_, rfl, .refl _⟩, ⟨_, rfl, .refl _⟩, trivial⟩ ⟨⟨rfl, _, rfl, .refl _⟩, ⟨rfl, _, rfl, .refl _⟩, ⟨rfl, _, rfl, .refl _⟩, ⟨rfl, _, rfl, .refl _⟩, ⟨rfl, _, rfl, .refl _⟩, trivial⟩ ?_
      refine reg_quiet rfl (step_C tab_ok (fun K hk => hk)) ?_
      refine reg_quiet rfl (load_box tab_ok rfl rfl rfl rfl) ?_
      refine reg_quiet rfl (step_C tab_ok (fun K hk => hk)) ?_
      refine reg_new (build_slice tab_ok rfl rfl rfl rfl rfl rfl rfl rfl) rfl ?_
      refine reg_new2 (append_one (s := 1) (enc := encVs) tab_ok (l ++ [v]) rfl rfl rfl rfl rfl rfl rfl rfl rfl hlen2 rfl) rfl ?_
      refine reg_quiet rfl (step_C tab_ok (fun K hk => hk)) ?_
      refine reg_store (store_row tab_ok rfl rfl rfl ⟨_, ⟨_, ⟨rfl, rfl, rfl⟩, rfl⟩, rfl⟩ rfl) ?_
      refine reg_nil ?_
      refine blk_n ?_
      refine seq_n ?_
      refine wc_region ?_
      refine reg_quiet rfl (step_C tab_ok (fun K hk => hk)) ?_
      refine reg_quiet rfl (add_int tab_ok rfl rfl (wrap_i64 (by omega) (by omega))) ?_
      refine reg_quiet rfl (step_C tab_ok (fun K hk => hk)) ?_
      refine reg_nil ?_
      refine loop_n (i + 1) [(64, some 64), (65, some 65), (66, some 66), (67, some 67), (68, some 264)] (show i + 1 ≤ L.length from hlt) (show L.length - (i + 1) < L.length - i by omega) ?_
      exact .of rfl rfl rfl rfl rfl ⟨⟨_, rfl, .refl _⟩, rfl, ⟨_, rfl, .refl _⟩, rfl, ⟨_, rfl, .refl _⟩, rfl, ⟨_, rfl, .refl _⟩, rfl, ⟨_, rfl, .refl _⟩, rfl, ⟨_, rfl, .refl _⟩, rfl, trivial⟩ ⟨⟨rfl, rfl, _, rfl, .refl _⟩, ⟨rfl, rfl, _, rfl, .refl _⟩, ⟨rfl, rfl, _, rfl, .refl _⟩, ⟨rfl, rfl, _, rfl, .of_eq (by rw [hs, List.length_append]; rfl)⟩, ⟨rfl, rfl, _, rfl, .of_eq (by rw [hs]; rfl)⟩, trivial⟩
    · have hq : ¬ i = s := by have := of_decide_eq_false hu; omega
      rw [wEl, if_neg hq, hl1] at hs
      refine wc_skip ?_
      refine seq_n ?_
      refine wc_region ?_
      refine reg_freeze (env' := [(9, _), (8, _), (1, _), (3, _), (5, _), (6, _), (7, _)]) (h' := [(64, some _), (65, some _), (66, some _), (67, some _), (68, some _)]) 152 _ rfl ⟨⟨_, rfl, Frz.own rfl⟩, ⟨_, rfl, .refl _⟩, ⟨_, rfl, .refl _⟩, ⟨_, rfl, .refl _⟩, ⟨_, rfl, .refl _⟩, ⟨_, rfl, .refl _⟩, ⟨_, rfl, .refl _⟩, trivial⟩ ⟨⟨rfl, _, rfl, .refl _⟩, ⟨rfl, _, rfl, .refl _⟩, ⟨rfl, _, rfl, .refl _⟩, ⟨rfl, _, rfl, .refl _⟩, ⟨rfl, _, rfl, .refl _⟩, trivial⟩ ?_
      refine reg_quiet rfl (step_C tab_ok (fun K hk => hk)) ?_
      refine reg_quiet rfl (load_box tab_ok rfl rfl rfl rfl) ?_
      refine reg_quiet rfl (step_C tab_ok (fun K hk => hk)) ?_
      refine reg_new (build_slice tab_ok rfl rfl rfl rfl rfl rfl rfl rfl) rfl ?_
      refine reg_new2 (append_one (s := 1) (enc := encVs) tab_ok l rfl rfl rfl rfl rfl rfl rfl rfl rfl hlen2 rfl) rfl ?_
      refine reg_quiet rfl (step_C tab_ok (fun K hk => hk)) ?_
      refine reg_store (store_row tab_ok rfl rfl rfl ⟨_, ⟨_, ⟨rfl, rfl, rfl⟩, rfl⟩, rfl⟩ rfl) ?_
      refine reg_nil ?_
      refine blk_n ?_
      refine seq_n ?_
      refine wc_region ?_
      refine reg_quiet rfl (step_C tab_ok (fun K hk => hk)) ?_
      refine reg_quiet rfl (add_int tab_ok rfl rfl (wrap_i64 (by omega) (by omega))) ?_
      refine reg_quiet rfl (step_C tab_ok (fun K hk => hk)) ?_
      refine reg_nil ?_
      refine loop_n (i + 1) [(64, some 64), (65, some 65), (66, some 66), (67, some 67), (68, some 224)] (show i + 1 ≤ L.length from hlt) (show L.length - (i + 1) < L.length - i by omega) ?_
      exact .of rfl rfl rfl rfl rfl ⟨⟨_, rfl, .refl _⟩, rfl, ⟨_, rfl, .refl _⟩, rfl, ⟨_, rfl, .refl _⟩, rfl, ⟨_, rfl, .refl _⟩, rfl, ⟨_, rfl, .refl _⟩, rfl, ⟨_, rfl, .refl _⟩, rfl, trivial⟩ ⟨⟨rfl, rfl, _, rfl, .refl _⟩, ⟨rfl, rfl, _, rfl, .refl _⟩, ⟨rfl, rfl, _, rfl, .refl _⟩, ⟨rfl, rfl, _, rfl, .of_eq (by rw [hs, List.length_append]; rfl)⟩, ⟨rfl, rfl, _, rfl, .of_eq (by rw [hs]; rfl)⟩, trivial⟩
  · obtain rfl : i = L.length := by have := of_decide_eq_false h3; omega
    refine wc_exit ?_
    refine seq_x ?_
    refine loop_x ?_
    refine blk_x ?_
    refine seq_n ?_
    refine wc_freeze (env' := [(3, _), (6, _), (7, _)]) (h' := [(64, some _), (65, some _), (66, some _), (67, some _)]) 68 _ rfl ⟨⟨_, rfl, .refl _⟩, ⟨_, rfl, .refl _⟩, ⟨_, rfl, .refl _⟩, trivial⟩ ⟨⟨rfl, _, rfl, .refl _⟩, ⟨rfl, _, rfl, .refl _⟩, ⟨rfl, _, rfl, .refl _⟩, ⟨rfl, _, rfl, FrzR.box (Frz.dcons (Frz.own rfl) Frz.dnil)⟩, trivial⟩ ?_
    refine wc_seq ?_
    refine wc_region ?_
    refine reg_quiet rfl (load_box tab_ok rfl rfl rfl rfl) ?_
    refine reg_store (store_row tab_ok rfl rfl rfl ⟨_, ⟨rfl, rfl, rfl⟩, rfl⟩ rfl) ?_
    refine reg_nil ?_
    refine seq_n ?_
    refine wc_ret ?_
    exact ⟨trivial, _, rfl, [], .of rfl rfl rfl rfl rfl ⟨⟨_, rfl, AVLe.of_eq rfl⟩, rfl, trivial⟩ trivial⟩
end Go.Proofs.Ytfmemklkkmiicaa

/- Disks: one change. -/
namespace Go.Proofs.Ytfmemklkkmiicaa
open Go.Eng
set_option maxHeartbeats 4000000
attribute [local irreducible] WC RegS RegD SeqQ BlkQ ScoQ RegK CutK Sat SatN FnIs LoopQ StepIs OpIs
theorem rem_to {P : Program} {T : Tab} {env : Env} {h : Upds} {n : Nat} (hT : TabOk P T) {x y : Operand} {t t' : TypeId} {k : IntKind} {a b m : Int} (hx : evalA env x = some (.int k a)) (hy : evalA env y = some (.int k b)) (hb : b ≠ 0) (hm : a.tmod b = m) : StepIs P (.binOp .rem t x y t') env h n (some (.int k m)) [] := by
  subst hm
  exact rem_int hT hx hy hb
structure OpOk (o : Opr) : Prop where
  k : 0 ≤ o.kind ∧ o.kind ≤ 255
  s : 0 ≤ o.sector ∧ o.sector ≤ 255
  b : 0 ≤ o.back ∧ o.back ≤ 255
theorem do_w (o : Opr) (ho : OpOk o) (d d2 : Dk) (N s : Nat) (hN : 1 ≤ N ∧ N ≤ 10922) (hs : o.sector.tmod (N : Int) = s) (hk : o.kind.tmod 3 = 0) 
    (hC : FnIs Try.prog 23 [.d (encDk d), .d (i6 s), .d (.arr 1 encU8 o.bytes)] [] (tup2 (encDk d2) (i6 0)) []) : FnIs Try.prog 13 [.d (encOpr o), .d (encDk d), .d (i6 N)] [] (tup2 (encDk d2) (i6 0)) [] := by
  obtain ⟨⟨_, _⟩, ⟨_, _⟩, ⟨_, _⟩⟩ := ho
  refine fnIs_of tab_ok Try.func13 rfl rfl rfl ?_
  refine wc_seq ?_
  refine wc_region ?_
  refine reg_new (step_C tab_ok (fun K hk => hk)) rfl ?_
  refine reg_new (step_C tab_ok (fun K hk => hk)) rfl ?_
  refine reg_new (step_C tab_ok (fun K hk => hk)) rfl ?_
  refine reg_quiet rfl (step_C tab_ok (fun K hk => hk)) ?_
  refine reg_nil ?_
  refine seq_n ?_
  refine wc_seq ?_
  refine wc_region ?_
  refine reg_quiet rfl (step_C tab_ok (fun K hk => hk)) ?_
  refine reg_quiet rfl (load_box tab_ok rfl rfl ⟨_, rfl, rfl⟩ rfl) ?_
  refine reg_quiet rfl (conv_int (m := o.sector) tab_ok rfl rfl rfl (wrap_i64 (by omega) (by omega))) ?_
  refine reg_quiet rfl (step_C tab_ok (fun K hk => hk)) ?_
  refine reg_quiet rfl (rem_to tab_ok rfl rfl (by omega) hs) ?_
  refine reg_quiet rfl (step_C tab_ok (fun K hk => hk)) ?_
  refine reg_nil ?_
  refine seq_n ?_
  refine wc_seq ?_
  refine wc_region ?_
  refine reg_new (step_C tab_ok (fun K hk => hk)) rfl ?_
  refine reg_nil ?_
  refine seq_n ?_
  refine wc_seq ?_
  refine wc_region ?_
  refine reg_quiet rfl (step_C tab_ok (fun K hk => hk)) ?_
  refine reg_nil ?_
  refine seq_n ?_
  refine wc_seq ?_
  refine wc_seq ?_
  refine wc_region ?_
  refine reg_quiet rfl (step_C tab_ok (fun K hk => hk)) ?_
  refine reg_quiet rfl (load_box tab_ok rfl rfl ⟨_, rfl, rfl⟩ rfl) ?_
  refine reg_quiet rfl (rem_to tab_ok rfl rfl (by decide) hk) ?_
  refine reg_nil ?_
  refine seq_n ?_
  refine wc_block ?_
  refine wc_seq ?_
  refine wc_region ?_
  refine reg_quiet rfl (step_C tab_ok (fun K hk => hk)) ?_
  refine reg_quiet rfl (step_C tab_ok (fun K hk => hk)) ?_
  refine reg_nil ?_
  refine seq_n ?_
  refine wc_true rfl rfl ?_
  refine wc_region ?_
  refine reg_quiet rfl (load_box tab_ok rfl rfl rfl rfl) ?_
  refine reg_quiet rfl (step_C tab_ok (fun K hk => hk)) ?_
  refine reg_quiet rfl (step_C tab_ok (fun K hk => hk)) ?_
  refine reg_quiet rfl (load_box tab_ok rfl rfl ⟨_, rfl, rfl⟩ rfl) ?_
  refine reg_quiet rfl (call_r hC rfl rfl (arg_e (arg_e (arg_e arg_nil))) (.inl rfl) (fun _ => rfl)) ?_
  refine reg_quiet rfl (step_C tab_ok (fun K hk => hk)) ?_
  refine reg_quiet rfl (step_C tab_ok (fun K hk => hk)) ?_
  refine reg_quiet rfl (step_C tab_ok (fun K hk => hk)) ?_
  refine reg_store (store_row tab_ok rfl rfl rfl ⟨_, ⟨rfl, rfl, rfl⟩, rfl⟩ rfl) ?_
  refine reg_quiet rfl (step_C tab_ok (fun K hk => hk)) ?_
  refine reg_nil ?_
  refine blk_n ?_
  refine seq_n ?_
  refine wc_seq ?_
  refine wc_seq ?_
  refine wc_region ?_
  refine reg_quiet rfl (step_C tab_ok (fun K hk => hk)) ?_
  refine reg_quiet rfl (step_C tab_ok (fun K hk => hk)) ?_
  refine reg_nil ?_
  refine seq_n ?_
  refine wc_false rfl rfl ?_
  refine wc_skip ?_
  refine seq_n ?_
  refine wc_seq ?_
  refine wc_region ?_
  refine reg_quiet rfl (load_box tab_ok rfl rfl rfl rfl) ?_
  refine reg_store (store_row tab_ok rfl rfl rfl ⟨_, ⟨rfl, rfl, rfl⟩, rfl⟩ rfl) ?_
  refine reg_quiet rfl (step_C tab_ok (fun K hk => hk)) ?_
  refine reg_nil ?_
  refine seq_n ?_
  refine wc_ret ?_
  exact ⟨trivial, _, rfl, [], .of rfl rfl rfl rfl rfl ⟨⟨_, rfl, AVLe.of_eq rfl⟩, rfl, trivial⟩ trivial⟩
theorem do_wx (o : Opr) (ho : OpOk o) (d d2 : Dk) (N s : Nat) (hN : 1 ≤ N ∧ N ≤ 10922) (hs : o.sector.tmod (N : Int) = s) (hk : o.kind.tmod 3 = 0) 
    (hC : FnIs Try.prog 23 [.d (encDk d), .d (i6 s), .d (.arr 1 encU8 o.bytes)] [] (tup2 (encDk d2) (i6 3)) []) : FnIs Try.prog 13 [.d (encOpr o), .d (encDk d), .d (i6 N)] [] (tup2 (encDk d) (i6 3)) [] := by
  obtain ⟨⟨_, _⟩, ⟨_, _⟩, ⟨_, _⟩⟩ := ho
  refine fnIs_of tab_ok Try.func13 rfl rfl rfl ?_
  refine wc_seq ?_
  refine wc_region ?_
  refine reg_new (step_C tab_ok (fun K hk => hk)) rfl ?_
  refine reg_new (step_C tab_ok (fun K hk => hk)) rfl ?_
  refine reg_new (step_C tab_ok (fun K hk => hk)) rfl ?_
  refine reg_quiet rfl (step_C tab_ok (fun K hk => hk)) ?_
  refine reg_nil ?_
  refine seq_n ?_
  refine wc_seq ?_
  refine wc_region ?_
  refine reg_quiet rfl (step_C tab_ok (fun K hk => hk)) ?_
  refine reg_quiet rfl (load_box tab_ok rfl rfl ⟨_, rfl, rfl⟩ rfl) ?_
  refine reg_quiet rfl (conv_int (m := o.sector) tab_ok rfl rfl rfl (wrap_i64 (by omega) (by omega))) ?_
  refine reg_quiet rfl (step_C tab_ok (fun K hk => hk)) ?_
  refine reg_quiet rfl (rem_to tab_ok rfl rfl (by omega) hs) ?_
  refine reg_quiet rfl (step_C tab_ok (fun K hk => hk)) ?_
  refine reg_nil ?_
  refine seq_n ?_
  refine wc_seq ?_
  refine wc_region ?_
  refine reg_new (step_C tab_ok (fun K hk => hk)) rfl ?_
  refine reg_nil ?_
  refine seq_n ?_
  refine wc_seq ?_
  refine wc_region ?_
  refine reg_quiet rfl (step_C tab_ok (fun K hk => hk)) ?_
  refine reg_nil ?_
  refine seq_n ?_
  refine wc_seq ?_
  refine wc_seq ?_
  refine wc_region ?_
  refine reg_quiet rfl (step_C tab_ok (fun K hk => hk)) ?_
  refine reg_quiet rfl (load_box tab_ok rfl rfl ⟨_, rfl, rfl⟩ rfl) ?_
  refine reg_quiet rfl (rem_to tab_ok rfl rfl (by decide) hk) ?_
  refine reg_nil ?_
  refine seq_n ?_
  refine wc_block ?_
  refine wc_seq ?_
  refine wc_region ?_
  refine reg_quiet rfl (step_C tab_ok (fun K hk => hk)) ?_
  refine reg_quiet rfl (step_C tab_ok (fun K hk => hk)) ?_
  refine reg_nil ?_
  refine seq_n ?_
  refine wc_true rfl rfl ?_
  refine wc_region ?_
  refine reg_quiet rfl (load_box tab_ok rfl rfl rfl rfl) ?_
  refine reg_quiet rfl (step_C tab_ok (fun K hk => hk)) ?_
  refine reg_quiet rfl (step_C tab_ok (fun K hk => hk)) ?_
  refine reg_quiet rfl (load_box tab_ok rfl rfl ⟨_, rfl, rfl⟩ rfl) ?_
  refine reg_quiet rfl (call_r hC rfl rfl (arg_e (arg_e (arg_e arg_nil))) (.inl rfl) (fun _ => rfl)) ?_
  refine reg_quiet rfl (step_C tab_ok (fun K hk => hk)) ?_
  refine reg_quiet rfl (step_C tab_ok (fun K hk => hk)) ?_
  refine reg_quiet rfl (step_C tab_ok (fun K hk => hk)) ?_
  refine reg_store (store_row tab_ok rfl rfl rfl ⟨_, ⟨rfl, rfl, rfl⟩, rfl⟩ rfl) ?_
  refine reg_quiet rfl (step_C tab_ok (fun K hk => hk)) ?_
  refine reg_nil ?_
  refine blk_n ?_
  refine seq_n ?_
  refine wc_seq ?_
  refine wc_seq ?_
  refine wc_region ?_
  refine reg_quiet rfl (step_C tab_ok (fun K hk => hk)) ?_
  refine reg_quiet rfl (step_C tab_ok (fun K hk => hk)) ?_
  refine reg_nil ?_
  refine seq_n ?_
  refine wc_true rfl rfl ?_
  refine wc_seq ?_
  refine wc_region ?_
  refine reg_quiet rfl (load_box tab_ok rfl rfl rfl rfl) ?_
  refine reg_quiet rfl (step_C tab_ok (fun K hk => hk)) ?_
  refine reg_store (store_row tab_ok rfl rfl rfl ⟨_, ⟨rfl, rfl, rfl⟩, rfl⟩ rfl) ?_
  refine reg_quiet rfl (step_C tab_ok (fun K hk => hk)) ?_
  refine reg_nil ?_
  refine seq_n ?_
  refine wc_ret ?_
  refine seq_r ?_
  exact ⟨trivial, _, rfl, [], .of rfl rfl rfl rfl rfl ⟨⟨_, rfl, AVLe.of_eq rfl⟩, rfl, trivial⟩ trivial⟩
theorem do_e (o : Opr) (ho : OpOk o) (d d2 : Dk) (N s : Nat) (hN : 1 ≤ N ∧ N ≤ 10922) (hs : o.sector.tmod (N : Int) = s) (hk : o.kind.tmod 3 = 1) 
    (hC : FnIs Try.prog 22 [.d (encDk d), .d (i6 s)] [] (tup2 (encDk d2) (i6 0)) []) : FnIs Try.prog 13 [.d (encOpr o), .d (encDk d), .d (i6 N)] [] (tup2 (encDk d2) (i6 0)) [] := by
  obtain ⟨⟨_, _⟩, ⟨_, _⟩, ⟨_, _⟩⟩ := ho
  refine fnIs_of tab_ok Try.func13 rfl rfl rfl ?_
  refine wc_seq ?_
  refine wc_region ?_
  refine reg_new (step_C tab_ok (fun K hk => hk)) rfl ?_
  refine reg_new (step_C tab_ok (fun K hk => hk)) rfl ?_
  refine reg_new (step_C tab_ok (fun K hk => hk)) rfl ?_
  refine reg_quiet rfl (step_C tab_ok (fun K hk => hk)) ?_
  refine reg_nil ?_
  refine seq_n ?_
  refine wc_seq ?_
  refine wc_region ?_
  refine reg_quiet rfl (step_C tab_ok (fun K hk => hk)) ?_
  refine reg_quiet rfl (load_box tab_ok rfl rfl ⟨_, rfl, rfl⟩ rfl) ?_
  refine reg_quiet rfl (conv_int (m := o.sector) tab_ok rfl rfl rfl (wrap_i64 (by omega) (by omega))) ?_
  refine reg_quiet rfl (step_C tab_ok (fun K hk => hk)) ?_
  refine reg_quiet rfl (rem_to tab_ok rfl rfl (by omega) hs) ?_
  refine reg_quiet rfl (step_C tab_ok (fun K hk => hk)) ?_
  refine reg_nil ?_
  refine seq_n ?_
  refine wc_seq ?_
  refine wc_region ?_
  refine reg_new (step_C tab_ok (fun K hk => hk)) rfl ?_
  refine reg_nil ?_
  refine seq_n ?_
  refine wc_seq ?_
  refine wc_region ?_
  refine reg_quiet rfl (step_C tab_ok (fun K hk => hk)) ?_
  refine reg_nil ?_
  refine seq_n ?_
  refine wc_seq ?_
  refine wc_seq ?_
  refine wc_region ?_
  refine reg_quiet rfl (step_C tab_ok (fun K hk => hk)) ?_
  refine reg_quiet rfl (load_box tab_ok rfl rfl ⟨_, rfl, rfl⟩ rfl) ?_
  refine reg_quiet rfl (rem_to tab_ok rfl rfl (by decide) hk) ?_
  refine reg_nil ?_
  refine seq_n ?_
  refine wc_block ?_
  refine wc_seq ?_
  refine wc_region ?_
  refine reg_quiet rfl (step_C tab_ok (fun K hk => hk)) ?_
  refine reg_quiet rfl (step_C tab_ok (fun K hk => hk)) ?_
  refine reg_nil ?_
  refine seq_n ?_
  refine wc_false rfl rfl ?_
  refine wc_seq ?_
  refine wc_region ?_
  refine reg_quiet rfl (step_C tab_ok (fun K hk => hk)) ?_
  refine reg_quiet rfl (step_C tab_ok (fun K hk => hk)) ?_
  refine reg_nil ?_
  refine seq_n ?_
  refine wc_true rfl rfl ?_
  refine wc_region ?_
  refine reg_quiet rfl (load_box tab_ok rfl rfl rfl rfl) ?_
  refine reg_quiet rfl (step_C tab_ok (fun K hk => hk)) ?_
  refine reg_quiet rfl (call_r hC rfl rfl (arg_e (arg_e arg_nil)) (.inl rfl) (fun _ => rfl)) ?_
  refine reg_quiet rfl (step_C tab_ok (fun K hk => hk)) ?_
  refine reg_quiet rfl (step_C tab_ok (fun K hk => hk)) ?_
  refine reg_quiet rfl (step_C tab_ok (fun K hk => hk)) ?_
  refine reg_store (store_row tab_ok rfl rfl rfl ⟨_, ⟨rfl, rfl, rfl⟩, rfl⟩ rfl) ?_
  refine reg_quiet rfl (step_C tab_ok (fun K hk => hk)) ?_
  refine reg_nil ?_
  refine blk_n ?_
  refine seq_n ?_
  refine wc_seq ?_
  refine wc_seq ?_
  refine wc_region ?_
  refine reg_quiet rfl (step_C tab_ok (fun K hk => hk)) ?_
  refine reg_quiet rfl (step_C tab_ok (fun K hk => hk)) ?_
  refine reg_nil ?_
  refine seq_n ?_
  refine wc_false rfl rfl ?_
  refine wc_skip ?_
  refine seq_n ?_
  refine wc_seq ?_
  refine wc_region ?_
  refine reg_quiet rfl (load_box tab_ok rfl rfl rfl rfl) ?_
  refine reg_store (store_row tab_ok rfl rfl rfl ⟨_, ⟨rfl, rfl, rfl⟩, rfl⟩ rfl) ?_
  refine reg_quiet rfl (step_C tab_ok (fun K hk => hk)) ?_
  refine reg_nil ?_
  refine seq_n ?_
  refine wc_ret ?_
  exact ⟨trivial, _, rfl, [], .of rfl rfl rfl rfl rfl ⟨⟨_, rfl, AVLe.of_eq rfl⟩, rfl, trivial⟩ trivial⟩
theorem do_r (o : Opr) (ho : OpOk o) (d d2 : Dk) (N s : Nat) (hN : 1 ≤ N ∧ N ≤ 10922) (hs : o.sector.tmod (N : Int) = s) (hk : o.kind.tmod 3 = 2) (k : Nat) (hb : o.back.tmod 8 = k) (hk8 : k < 8)
    (hC : FnIs Try.prog 26 [.d (encDk d), .d (i6 s), .d (i6 k)] [] (tup2 (encDk d2) (i6 0)) []) : FnIs Try.prog 13 [.d (encOpr o), .d (encDk d), .d (i6 N)] [] (tup2 (encDk d2) (i6 0)) [] := by
  obtain ⟨⟨_, _⟩, ⟨_, _⟩, ⟨_, _⟩⟩ := ho
  refine fnIs_of tab_ok Try.func13 rfl rfl rfl ?_
  refine wc_seq ?_
  refine wc_region ?_
  refine reg_new (step_C tab_ok (fun K hk => hk)) rfl ?_
  refine reg_new (step_C tab_ok (fun K hk => hk)) rfl ?_
  refine reg_new (step_C tab_ok (fun K hk => hk)) rfl ?_
  refine reg_quiet rfl (step_C tab_ok (fun K hk => hk)) ?_
  refine reg_nil ?_
  refine seq_n ?_
  refine wc_seq ?_
  refine wc_region ?_
  refine reg_quiet rfl (step_C tab_ok (fun K hk => hk)) ?_
  refine reg_quiet rfl (load_box tab_ok rfl rfl ⟨_, rfl, rfl⟩ rfl) ?_
  refine reg_quiet rfl (conv_int (m := o.sector) tab_ok rfl rfl rfl (wrap_i64 (by omega) (by omega))) ?_
  refine reg_quiet rfl (step_C tab_ok (fun K hk => hk)) ?_
  refine reg_quiet rfl (rem_to tab_ok rfl rfl (by omega) hs) ?_
  refine reg_quiet rfl (step_C tab_ok (fun K hk => hk)) ?_
  refine reg_nil ?_
  refine seq_n ?_
  refine wc_seq ?_
  refine wc_region ?_
  refine reg_new (step_C tab_ok (fun K hk => hk)) rfl ?_
  refine reg_nil ?_
  refine seq_n ?_
  refine wc_seq ?_
  refine wc_region ?_
  refine reg_quiet rfl (step_C tab_ok (fun K hk => hk)) ?_
  refine reg_nil ?_
  refine seq_n ?_
  refine wc_seq ?_
  refine wc_seq ?_
  refine wc_region ?_
  refine reg_quiet rfl (step_C tab_ok (fun K hk => hk)) ?_
  refine reg_quiet rfl (load_box tab_ok rfl rfl ⟨_, rfl, rfl⟩ rfl) ?_
  refine reg_quiet rfl (rem_to tab_ok rfl rfl (by decide) hk) ?_
  refine reg_nil ?_
  refine seq_n ?_
  refine wc_block ?_
  refine wc_seq ?_
  refine wc_region ?_
  refine reg_quiet rfl (step_C tab_ok (fun K hk => hk)) ?_
  refine reg_quiet rfl (step_C tab_ok (fun K hk => hk)) ?_
  refine reg_nil ?_
  refine seq_n ?_
  refine wc_false rfl rfl ?_
  refine wc_seq ?_
  refine wc_region ?_
  refine reg_quiet rfl (step_C tab_ok (fun K hk => hk)) ?_
  refine reg_quiet rfl (step_C tab_ok (fun K hk => hk)) ?_
  refine reg_nil ?_
  refine seq_n ?_
  refine wc_false rfl rfl ?_
  refine wc_region ?_
  refine reg_quiet rfl (load_box tab_ok rfl rfl rfl rfl) ?_
  refine reg_quiet rfl (step_C tab_ok (fun K hk => hk)) ?_
  refine reg_quiet rfl (step_C tab_ok (fun K hk => hk)) ?_
  refine reg_quiet rfl (load_box tab_ok rfl rfl ⟨_, rfl, rfl⟩ rfl) ?_
  refine reg_quiet rfl (rem_to tab_ok rfl rfl (by decide) hb) ?_
  refine reg_quiet rfl (conv_int (m := (k : Int)) tab_ok rfl rfl rfl (wrap_i64 (by omega) (by omega))) ?_
  refine reg_quiet rfl (call_r hC rfl rfl (arg_e (arg_e (arg_e arg_nil))) (.inl rfl) (fun _ => rfl)) ?_
  refine reg_quiet rfl (step_C tab_ok (fun K hk => hk)) ?_
  refine reg_quiet rfl (step_C tab_ok (fun K hk => hk)) ?_
  refine reg_quiet rfl (step_C tab_ok (fun K hk => hk)) ?_
  refine reg_store (store_row tab_ok rfl rfl rfl ⟨_, ⟨rfl, rfl, rfl⟩, rfl⟩ rfl) ?_
  refine reg_quiet rfl (step_C tab_ok (fun K hk => hk)) ?_
  refine reg_nil ?_
  refine blk_n ?_
  refine seq_n ?_
  refine wc_seq ?_
  refine wc_seq ?_
  refine wc_region ?_
  refine reg_quiet rfl (step_C tab_ok (fun K hk => hk)) ?_
  refine reg_quiet rfl (step_C tab_ok (fun K hk => hk)) ?_
  refine reg_nil ?_
  refine seq_n ?_
  refine wc_false rfl rfl ?_
  refine wc_skip ?_
  refine seq_n ?_
  refine wc_seq ?_
  refine wc_region ?_
  refine reg_quiet rfl (load_box tab_ok rfl rfl rfl rfl) ?_
  refine reg_store (store_row tab_ok rfl rfl rfl ⟨_, ⟨rfl, rfl, rfl⟩, rfl⟩ rfl) ?_
  refine reg_quiet rfl (step_C tab_ok (fun K hk => hk)) ?_
  refine reg_nil ?_
  refine seq_n ?_
  refine wc_ret ?_
  exact ⟨trivial, _, rfl, [], .of rfl rfl rfl rfl rfl ⟨⟨_, rfl, AVLe.of_eq rfl⟩, rfl, trivial⟩ trivial⟩
theorem do_rx (o : Opr) (ho : OpOk o) (d d2 : Dk) (N s : Nat) (hN : 1 ≤ N ∧ N ≤ 10922) (hs : o.sector.tmod (N : Int) = s) (hk : o.kind.tmod 3 = 2) (k : Nat) (hb : o.back.tmod 8 = k) (hk8 : k < 8)
    (hC : FnIs Try.prog 26 [.d (encDk d), .d (i6 s), .d (i6 k)] [] (tup2 (encDk d2) (i6 11)) []) : FnIs Try.prog 13 [.d (encOpr o), .d (encDk d), .d (i6 N)] [] (tup2 (encDk d) (i6 11)) [] := by
  obtain ⟨⟨_, _⟩, ⟨_, _⟩, ⟨_, _⟩⟩ := ho
  refine fnIs_of tab_ok Try.func13 rfl rfl rfl ?_
  refine wc_seq ?_
  refine wc_region ?_
  refine reg_new (step_C tab_ok (fun K hk => hk)) rfl ?_
  refine reg_new (step_C tab_ok (fun K hk => hk)) rfl ?_
  refine reg_new (step_C tab_ok (fun K hk => hk)) rfl ?_
  refine reg_quiet rfl (step_C tab_ok (fun K hk => hk)) ?_
  refine reg_nil ?_
  refine seq_n ?_
  refine wc_seq ?_
  refine wc_region ?_
  refine reg_quiet rfl (step_C tab_ok (fun K hk => hk)) ?_
  refine reg_quiet rfl (load_box tab_ok rfl rfl ⟨_, rfl, rfl⟩ rfl) ?_
  refine reg_quiet rfl (conv_int (m := o.sector) tab_ok rfl rfl rfl (wrap_i64 (by omega) (by omega))) ?_
  refine reg_quiet rfl (step_C tab_ok (fun K hk => hk)) ?_
  refine reg_quiet rfl (rem_to tab_ok rfl rfl (by omega) hs) ?_
  refine reg_quiet rfl (step_C tab_ok (fun K hk => hk)) ?_
  refine reg_nil ?_
  refine seq_n ?_
  refine wc_seq ?_
  refine wc_region ?_
  refine reg_new (step_C tab_ok (fun K hk => hk)) rfl ?_
  refine reg_nil ?_
  refine seq_n ?_
  refine wc_seq ?_
  refine wc_region ?_
  refine reg_quiet rfl (step_C tab_ok (fun K hk => hk)) ?_
  refine reg_nil ?_
  refine seq_n ?_
  refine wc_seq ?_
  refine wc_seq ?_
  refine wc_region ?_
  refine reg_quiet rfl (step_C tab_ok (fun K hk => hk)) ?_
  refine reg_quiet rfl (load_box tab_ok rfl rfl ⟨_, rfl, rfl⟩ rfl) ?_
  refine reg_quiet rfl (rem_to tab_ok rfl rfl (by decide) hk) ?_
  refine reg_nil ?_
  refine seq_n ?_
  refine wc_block ?_
  refine wc_seq ?_
  refine wc_region ?_
  refine reg_quiet rfl (step_C tab_ok (fun K hk => hk)) ?_
  refine reg_quiet rfl (step_C tab_ok (fun K hk => hk)) ?_
  refine reg_nil ?_
  refine seq_n ?_
  refine wc_false rfl rfl ?_
  refine wc_seq ?_
  refine wc_region ?_
  refine reg_quiet rfl (step_C tab_ok (fun K hk => hk)) ?_
  refine reg_quiet rfl (step_C tab_ok (fun K hk => hk)) ?_
  refine reg_nil ?_
  refine seq_n ?_
  refine wc_false rfl rfl ?_
  refine wc_region ?_
  refine reg_quiet rfl (load_box tab_ok rfl rfl rfl rfl) ?_
  refine reg_quiet rfl (step_C tab_ok (fun K hk => hk)) ?_
  refine reg_quiet rfl (step_C tab_ok (fun K hk => hk)) ?_
  refine reg_quiet rfl (load_box tab_ok rfl rfl ⟨_, rfl, rfl⟩ rfl) ?_
  refine reg_quiet rfl (rem_to tab_ok rfl rfl (by decide) hb) ?_
  refine reg_quiet rfl (conv_int (m := (k : Int)) tab_ok rfl rfl rfl (wrap_i64 (by omega) (by omega))) ?_
  refine reg_quiet rfl (call_r hC rfl rfl (arg_e (arg_e (arg_e arg_nil))) (.inl rfl) (fun _ => rfl)) ?_
  refine reg_quiet rfl (step_C tab_ok (fun K hk => hk)) ?_
  refine reg_quiet rfl (step_C tab_ok (fun K hk => hk)) ?_
  refine reg_quiet rfl (step_C tab_ok (fun K hk => hk)) ?_
  refine reg_store (store_row tab_ok rfl rfl rfl ⟨_, ⟨rfl, rfl, rfl⟩, rfl⟩ rfl) ?_
  refine reg_quiet rfl (step_C tab_ok (fun K hk => hk)) ?_
  refine reg_nil ?_
  refine blk_n ?_
  refine seq_n ?_
  refine wc_seq ?_
  refine wc_seq ?_
  refine wc_region ?_
  refine reg_quiet rfl (step_C tab_ok (fun K hk => hk)) ?_
  refine reg_quiet rfl (step_C tab_ok (fun K hk => hk)) ?_
  refine reg_nil ?_
  refine seq_n ?_
  refine wc_true rfl rfl ?_
  refine wc_seq ?_
  refine wc_region ?_
  refine reg_quiet rfl (load_box tab_ok rfl rfl rfl rfl) ?_
  refine reg_quiet rfl (step_C tab_ok (fun K hk => hk)) ?_
  refine reg_store (store_row tab_ok rfl rfl rfl ⟨_, ⟨rfl, rfl, rfl⟩, rfl⟩ rfl) ?_
  refine reg_quiet rfl (step_C tab_ok (fun K hk => hk)) ?_
  refine reg_nil ?_
  refine seq_n ?_
  refine wc_ret ?_
  refine seq_r ?_
  exact ⟨trivial, _, rfl, [], .of rfl rfl rfl rfl rfl ⟨⟨_, rfl, AVLe.of_eq rfl⟩, rfl, trivial⟩ trivial⟩
theorem ref_w (o : Opr) (ho : OpOk o) (L L2 : List Vs) (s : Nat) (hN : 1 ≤ L.length ∧ L.length ≤ 10922) (hs : o.sector.tmod (L.length : Int) = s) (hk : o.kind.tmod 3 = 0) (hl : decide (256 < (o.bytes.length : Int)) = false)
    (hC : FnIs Try.prog 32 [.d (encRD L), .d (i6 s), .d (encV ⟨true, o.bytes⟩)] [] (.d (encRD L2)) []) : FnIs Try.prog 14 [.d (encOpr o), .d (encRD L)] [] (tup2 (encRD L2) (i6 0)) [] := by
  obtain ⟨⟨_, _⟩, ⟨_, _⟩, ⟨_, _⟩⟩ := ho
  refine fnIs_of tab_ok Try.func14 rfl rfl rfl ?_
  refine wc_seq ?_
  refine wc_region ?_
  refine reg_new (step_C tab_ok (fun K hk => hk)) rfl ?_
  refine reg_new (step_C tab_ok (fun K hk => hk)) rfl ?_
  refine reg_new (step_C tab_ok (fun K hk => hk)) rfl ?_
  refine reg_quiet rfl (step_C tab_ok (fun K hk => hk)) ?_
  refine reg_nil ?_
  refine seq_n ?_
  refine wc_seq ?_
  refine wc_region ?_
  refine reg_quiet rfl (step_C tab_ok (fun K hk => hk)) ?_
  refine reg_quiet rfl (load_box tab_ok rfl rfl ⟨_, rfl, rfl⟩ rfl) ?_
  refine reg_quiet rfl (conv_int (m := o.sector) tab_ok rfl rfl rfl (wrap_i64 (by omega) (by omega))) ?_
  refine reg_quiet rfl (step_C tab_ok (fun K hk => hk)) ?_
  refine reg_quiet rfl (load_box tab_ok rfl rfl ⟨_, rfl, rfl⟩ rfl) ?_
  refine reg_quiet rfl (len_arr tab_ok rfl rfl) ?_
  refine reg_quiet rfl (rem_to tab_ok rfl rfl (by omega) hs) ?_
  refine reg_quiet rfl (step_C tab_ok (fun K hk => hk)) ?_
  refine reg_nil ?_
  refine seq_n ?_
  refine wc_seq ?_
  refine wc_seq ?_
  refine wc_region ?_
  refine reg_quiet rfl (step_C tab_ok (fun K hk => hk)) ?_
  refine reg_quiet rfl (load_box tab_ok rfl rfl ⟨_, rfl, rfl⟩ rfl) ?_
  refine reg_quiet rfl (rem_to tab_ok rfl rfl (by decide) hk) ?_
  refine reg_nil ?_
  refine seq_n ?_
  refine wc_block ?_
  refine wc_seq ?_
  refine wc_region ?_
  refine reg_quiet rfl (step_C tab_ok (fun K hk => hk)) ?_
  refine reg_quiet rfl (step_C tab_ok (fun K hk => hk)) ?_
  refine reg_nil ?_
  refine seq_n ?_
  refine wc_true rfl rfl ?_
  refine wc_seq ?_
  refine wc_seq ?_
  refine wc_region ?_
  refine reg_quiet rfl (step_C tab_ok (fun K hk => hk)) ?_
  refine reg_quiet rfl (load_box tab_ok rfl rfl ⟨_, rfl, rfl⟩ rfl) ?_
  refine reg_quiet rfl (len_arr tab_ok rfl rfl) ?_
  refine reg_quiet rfl (step_C tab_ok (fun K hk => hk)) ?_
  refine reg_nil ?_
  refine seq_n ?_
  refine wc_false rfl (by assumption) ?_
  refine wc_skip ?_
  refine seq_n ?_
  refine wc_seq ?_
  refine wc_region ?_
  refine reg_quiet rfl (load_box tab_ok rfl rfl rfl rfl) ?_
  refine reg_quiet rfl (step_C tab_ok (fun K hk => hk)) ?_
  refine reg_quiet rfl (step_C tab_ok (fun K hk => hk)) ?_
  refine reg_quiet rfl (load_box tab_ok rfl rfl ⟨_, rfl, rfl⟩ rfl) ?_
  refine reg_quiet rfl (conv_bytes tab_ok rfl rfl rfl rfl) ?_
  refine reg_quiet rfl (build_struct tab_ok rfl rfl rfl rfl) ?_
  refine reg_quiet rfl (call_r hC rfl rfl (arg_e (arg_e (arg_e arg_nil))) (.inl rfl) (fun _ => rfl)) ?_
  refine reg_store (store_row tab_ok rfl rfl rfl ⟨_, ⟨rfl, rfl, rfl⟩, rfl⟩ rfl) ?_
  refine reg_quiet rfl (step_C tab_ok (fun K hk => hk)) ?_
  refine reg_nil ?_
  refine seq_n ?_
  refine wc_ret ?_
  refine blk_r ?_
  refine seq_r ?_
  exact ⟨trivial, _, rfl, [], .of rfl rfl rfl rfl rfl ⟨⟨_, rfl, AVLe.of_eq rfl⟩, rfl, trivial⟩ trivial⟩
theorem ref_wx (o : Opr) (ho : OpOk o) (L L2 : List Vs) (s : Nat) (hN : 1 ≤ L.length ∧ L.length ≤ 10922) (hs : o.sector.tmod (L.length : Int) = s) (hk : o.kind.tmod 3 = 0) (hl : decide (256 < (o.bytes.length : Int)) = true)
     : FnIs Try.prog 14 [.d (encOpr o), .d (encRD L)] [] (tup2 (encRD L) (i6 3)) [] := by
  obtain ⟨⟨_, _⟩, ⟨_, _⟩, ⟨_, _⟩⟩ := ho
  refine fnIs_of tab_ok Try.func14 rfl rfl rfl ?_
  refine wc_seq ?_
  refine wc_region ?_
  refine reg_new (step_C tab_ok (fun K hk => hk)) rfl ?_
  refine reg_new (step_C tab_ok (fun K hk => hk)) rfl ?_
  refine reg_new (step_C tab_ok (fun K hk => hk)) rfl ?_
  refine reg_quiet rfl (step_C tab_ok (fun K hk => hk)) ?_
  refine reg_nil ?_
  refine seq_n ?_
  refine wc_seq ?_
  refine wc_region ?_
  refine reg_quiet rfl (step_C tab_ok (fun K hk => hk)) ?_
  refine reg_quiet rfl (load_box tab_ok rfl rfl ⟨_, rfl, rfl⟩ rfl) ?_
  refine reg_quiet rfl (conv_int (m := o.sector) tab_ok rfl rfl rfl (wrap_i64 (by omega) (by omega))) ?_
  refine reg_quiet rfl (step_C tab_ok (fun K hk => hk)) ?_
  refine reg_quiet rfl (load_box tab_ok rfl rfl ⟨_, rfl, rfl⟩ rfl) ?_
  refine reg_quiet rfl (len_arr tab_ok rfl rfl) ?_
  refine reg_quiet rfl (rem_to tab_ok rfl rfl (by omega) hs) ?_
  refine reg_quiet rfl (step_C tab_ok (fun K hk => hk)) ?_
  refine reg_nil ?_
  refine seq_n ?_
  refine wc_seq ?_
  refine wc_seq ?_
  refine wc_region ?_
  refine reg_quiet rfl (step_C tab_ok (fun K hk => hk)) ?_
  refine reg_quiet rfl (load_box tab_ok rfl rfl ⟨_, rfl, rfl⟩ rfl) ?_
  refine reg_quiet rfl (rem_to tab_ok rfl rfl (by decide) hk) ?_
  refine reg_nil ?_
  refine seq_n ?_
  refine wc_block ?_
  refine wc_seq ?_
  refine wc_region ?_
  refine reg_quiet rfl (step_C tab_ok (fun K hk => hk)) ?_
  refine reg_quiet rfl (step_C tab_ok (fun K hk => hk)) ?_
  refine reg_nil ?_
  refine seq_n ?_
  refine wc_true rfl rfl ?_
  refine wc_seq ?_
  refine wc_seq ?_
  refine wc_region ?_
  refine reg_quiet rfl (step_C tab_ok (fun K hk => hk)) ?_
  refine reg_quiet rfl (load_box tab_ok rfl rfl ⟨_, rfl, rfl⟩ rfl) ?_
  refine reg_quiet rfl (len_arr tab_ok rfl rfl) ?_
  refine reg_quiet rfl (step_C tab_ok (fun K hk => hk)) ?_
  refine reg_nil ?_
  refine seq_n ?_
  refine wc_true rfl (by assumption) ?_
  refine wc_seq ?_
  refine wc_region ?_
  refine reg_quiet rfl (load_box tab_ok rfl rfl rfl rfl) ?_
  refine reg_store (store_row tab_ok rfl rfl rfl ⟨_, ⟨rfl, rfl, rfl⟩, rfl⟩ rfl) ?_
  refine reg_quiet rfl (step_C tab_ok (fun K hk => hk)) ?_
  refine reg_nil ?_
  refine seq_n ?_
  refine wc_ret ?_
  refine seq_r ?_
  refine blk_r ?_
  refine seq_r ?_
  exact ⟨trivial, _, rfl, [], .of rfl rfl rfl rfl rfl ⟨⟨_, rfl, AVLe.of_eq rfl⟩, rfl, trivial⟩ trivial⟩
theorem ref_e (o : Opr) (ho : OpOk o) (L L2 : List Vs) (s : Nat) (hN : 1 ≤ L.length ∧ L.length ≤ 10922) (hs : o.sector.tmod (L.length : Int) = s) (hk : o.kind.tmod 3 = 1) 
    (hC : FnIs Try.prog 32 [.d (encRD L), .d (i6 s), .d (encV noV)] [] (.d (encRD L2)) []) : FnIs Try.prog 14 [.d (encOpr o), .d (encRD L)] [] (tup2 (encRD L2) (i6 0)) [] := by
  obtain ⟨⟨_, _⟩, ⟨_, _⟩, ⟨_, _⟩⟩ := ho
  refine fnIs_of tab_ok Try.func14 rfl rfl rfl ?_
  refine wc_seq ?_
  refine wc_region ?_
  refine reg_new (step_C tab_ok (fun K hk => hk)) rfl ?_
  refine reg_new (step_C tab_ok (fun K hk => hk)) rfl ?_
  refine reg_new (step_C tab_ok (fun K hk => hk)) rfl ?_
  refine reg_quiet rfl (step_C tab_ok (fun K hk => hk)) ?_
  refine reg_nil ?_
  refine seq_n ?_
  refine wc_seq ?_
  refine wc_region ?_
  refine reg_quiet rfl (step_C tab_ok (fun K hk => hk)) ?_
  refine reg_quiet rfl (load_box tab_ok rfl rfl ⟨_, rfl, rfl⟩ rfl) ?_
  refine reg_quiet rfl (conv_int (m := o.sector) tab_ok rfl rfl rfl (wrap_i64 (by omega) (by omega))) ?_
  refine reg_quiet rfl (step_C tab_ok (fun K hk => hk)) ?_
  refine reg_quiet rfl (load_box tab_ok rfl rfl ⟨_, rfl, rfl⟩ rfl) ?_
  refine reg_quiet rfl (len_arr tab_ok rfl rfl) ?_
  refine reg_quiet rfl (rem_to tab_ok rfl rfl (by omega) hs) ?_
  refine reg_quiet rfl (step_C tab_ok (fun K hk => hk)) ?_
  refine reg_nil ?_
  refine seq_n ?_
  refine wc_seq ?_
  refine wc_seq ?_
  refine wc_region ?_
  refine reg_quiet rfl (step_C tab_ok (fun K hk => hk)) ?_
  refine reg_quiet rfl (load_box tab_ok rfl rfl ⟨_, rfl, rfl⟩ rfl) ?_
  refine reg_quiet rfl (rem_to tab_ok rfl rfl (by decide) hk) ?_
  refine reg_nil ?_
  refine seq_n ?_
  refine wc_block ?_
  refine wc_seq ?_
  refine wc_region ?_
  refine reg_quiet rfl (step_C tab_ok (fun K hk => hk)) ?_
  refine reg_quiet rfl (step_C tab_ok (fun K hk => hk)) ?_
  refine reg_nil ?_
  refine seq_n ?_
  refine wc_false rfl rfl ?_
  refine wc_seq ?_
  refine wc_region ?_
  refine reg_quiet rfl (step_C tab_ok (fun K hk => hk)) ?_
  refine reg_quiet rfl (step_C tab_ok (fun K hk => hk)) ?_
  refine reg_nil ?_
  refine seq_n ?_
  refine wc_true rfl rfl ?_
  refine wc_seq ?_
  refine wc_region ?_
  refine reg_quiet rfl (load_box tab_ok rfl rfl rfl rfl) ?_
  refine reg_quiet rfl (step_C tab_ok (fun K hk => hk)) ?_
  refine reg_quiet rfl (build_struct tab_ok rfl rfl rfl rfl) ?_
  refine reg_quiet rfl (call_r hC rfl rfl (arg_e (arg_e (arg_e arg_nil))) (.inl rfl) (fun _ => rfl)) ?_
  refine reg_store (store_row tab_ok rfl rfl rfl ⟨_, ⟨rfl, rfl, rfl⟩, rfl⟩ rfl) ?_
  refine reg_quiet rfl (step_C tab_ok (fun K hk => hk)) ?_
  refine reg_nil ?_
  refine seq_n ?_
  refine wc_ret ?_
  refine blk_r ?_
  refine seq_r ?_
  exact ⟨trivial, _, rfl, [], .of rfl rfl rfl rfl rfl ⟨⟨_, rfl, AVLe.of_eq rfl⟩, rfl, trivial⟩ trivial⟩
theorem ref_r (o : Opr) (ho : OpOk o) (L L2 : List Vs) (s : Nat) (hN : 1 ≤ L.length ∧ L.length ≤ 10922) (hs : o.sector.tmod (L.length : Int) = s) (hk : o.kind.tmod 3 = 2) (k : Nat) (hb : o.back.tmod 8 = k) (hk8 : k < 8) (x : Ver) (hB : FnIs Try.prog 33 [.d (encRD L), .d (i6 s), .d (i6 k)] [] (tup2 (encV x) (bo true)) [])
    (hC : FnIs Try.prog 32 [.d (encRD L), .d (i6 s), .d (encV x)] [] (.d (encRD L2)) []) : FnIs Try.prog 14 [.d (encOpr o), .d (encRD L)] [] (tup2 (encRD L2) (i6 0)) [] := by
  obtain ⟨⟨_, _⟩, ⟨_, _⟩, ⟨_, _⟩⟩ := ho
  refine fnIs_of tab_ok Try.func14 rfl rfl rfl ?_
  refine wc_seq ?_
  refine wc_region ?_
  refine reg_new (step_C tab_ok (fun K hk => hk)) rfl ?_
  refine reg_new (step_C tab_ok (fun K hk => hk)) rfl ?_
  refine reg_new (step_C tab_ok (fun K hk => hk)) rfl ?_
  refine reg_quiet rfl (step_C tab_ok (fun K hk => hk)) ?_
  refine reg_nil ?_
  refine seq_n ?_
  refine wc_seq ?_
  refine wc_region ?_
  refine reg_quiet rfl (step_C tab_ok (fun K hk => hk)) ?_
  refine reg_quiet rfl (load_box tab_ok rfl rfl ⟨_, rfl, rfl⟩ rfl) ?_
  refine reg_quiet rfl (conv_int (m := o.sector) tab_ok rfl rfl rfl (wrap_i64 (by omega) (by omega))) ?_
  refine reg_quiet rfl (step_C tab_ok (fun K hk => hk)) ?_
  refine reg_quiet rfl (load_box tab_ok rfl rfl ⟨_, rfl, rfl⟩ rfl) ?_
  refine reg_quiet rfl (len_arr tab_ok rfl rfl) ?_
  refine reg_quiet rfl (rem_to tab_ok rfl rfl (by omega) hs) ?_
  refine reg_quiet rfl (step_C tab_ok (fun K hk => hk)) ?_
  refine reg_nil ?_
  refine seq_n ?_
  refine wc_seq ?_
  refine wc_seq ?_
  refine wc_region ?_
  refine reg_quiet rfl (step_C tab_ok (fun K hk => hk)) ?_
  refine reg_quiet rfl (load_box tab_ok rfl rfl ⟨_, rfl, rfl⟩ rfl) ?_
  refine reg_quiet rfl (rem_to tab_ok rfl rfl (by decide) hk) ?_
  refine reg_nil ?_
  refine seq_n ?_
  refine wc_block ?_
  refine wc_seq ?_
  refine wc_region ?_
  refine reg_quiet rfl (step_C tab_ok (fun K hk => hk)) ?_
  refine reg_quiet rfl (step_C tab_ok (fun K hk => hk)) ?_
  refine reg_nil ?_
  refine seq_n ?_
  refine wc_false rfl rfl ?_
  refine wc_seq ?_
  refine wc_region ?_
  refine reg_quiet rfl (step_C tab_ok (fun K hk => hk)) ?_
  refine reg_quiet rfl (step_C tab_ok (fun K hk => hk)) ?_
  refine reg_nil ?_
  refine seq_n ?_
  refine wc_false rfl rfl ?_
  refine wc_skip ?_
  refine blk_n ?_
  refine seq_n ?_
  refine wc_seq ?_
  refine wc_region ?_
  refine reg_quiet rfl (load_box tab_ok rfl rfl rfl rfl) ?_
  refine reg_quiet rfl (step_C tab_ok (fun K hk => hk)) ?_
  refine reg_quiet rfl (step_C tab_ok (fun K hk => hk)) ?_
  refine reg_quiet rfl (load_box tab_ok rfl rfl ⟨_, rfl, rfl⟩ rfl) ?_
  refine reg_quiet rfl (rem_to tab_ok rfl rfl (by decide) hb) ?_
  refine reg_quiet rfl (conv_int (m := (k : Int)) tab_ok rfl rfl rfl (wrap_i64 (by omega) (by omega))) ?_
  refine reg_quiet rfl (call_r hB rfl rfl (arg_e (arg_e (arg_e arg_nil))) (.inl rfl) (fun _ => rfl)) ?_
  refine reg_quiet rfl (step_C tab_ok (fun K hk => hk)) ?_
  refine reg_quiet rfl (step_C tab_ok (fun K hk => hk)) ?_
  refine reg_quiet rfl (step_C tab_ok (fun K hk => hk)) ?_
  refine reg_new (step_C tab_ok (fun K hk => hk)) rfl ?_
  refine reg_store (store_row tab_ok rfl rfl rfl ⟨_, ⟨rfl, rfl, rfl⟩, rfl⟩ rfl) ?_
  refine reg_quiet rfl (step_C tab_ok (fun K hk => hk)) ?_
  refine reg_nil ?_
  refine seq_n ?_
  refine wc_seq ?_
  refine wc_seq ?_
  refine wc_region ?_
  refine reg_quiet rfl (step_C tab_ok (fun K hk => hk)) ?_
  refine reg_quiet rfl (step_C tab_ok (fun K hk => hk)) ?_
  refine reg_nil ?_
  refine seq_n ?_
  refine wc_false rfl rfl ?_
  refine wc_skip ?_
  refine seq_n ?_
  refine wc_seq ?_
  refine wc_region ?_
  refine reg_quiet rfl (load_box tab_ok rfl rfl rfl rfl) ?_
  refine reg_quiet rfl (step_C tab_ok (fun K hk => hk)) ?_
  refine reg_quiet rfl (load_box tab_ok rfl rfl rfl rfl) ?_
  refine reg_quiet rfl (call_r hC rfl rfl (arg_e (arg_e (arg_e arg_nil))) (.inl rfl) (fun _ => rfl)) ?_
  refine reg_store (store_row tab_ok rfl rfl rfl ⟨_, ⟨rfl, rfl, rfl⟩, rfl⟩ rfl) ?_
  refine reg_quiet rfl (step_C tab_ok (fun K hk => hk)) ?_
  refine reg_nil ?_
  refine seq_n ?_
  refine wc_ret ?_
  exact ⟨trivial, _, rfl, [], .of rfl rfl rfl rfl rfl ⟨⟨_, rfl, AVLe.of_eq rfl⟩, rfl, trivial⟩ trivial⟩
theorem ref_rx (o : Opr) (ho : OpOk o) (L L2 : List Vs) (s : Nat) (hN : 1 ≤ L.length ∧ L.length ≤ 10922) (hs : o.sector.tmod (L.length : Int) = s) (hk : o.kind.tmod 3 = 2) (k : Nat) (hb : o.back.tmod 8 = k) (hk8 : k < 8) (hB : FnIs Try.prog 33 [.d (encRD L), .d (i6 s), .d (i6 k)] [] (tup2 (encV noV) (bo false)) [])
     : FnIs Try.prog 14 [.d (encOpr o), .d (encRD L)] [] (tup2 (encRD L) (i6 11)) [] := by
  obtain ⟨⟨_, _⟩, ⟨_, _⟩, ⟨_, _⟩⟩ := ho
  refine fnIs_of tab_ok Try.func14 rfl rfl rfl ?_
  refine wc_seq ?_
  refine wc_region ?_
  refine reg_new (step_C tab_ok (fun K hk => hk)) rfl ?_
  refine reg_new (step_C tab_ok (fun K hk => hk)) rfl ?_
  refine reg_new (step_C tab_ok (fun K hk => hk)) rfl ?_
  refine reg_quiet rfl (step_C tab_ok (fun K hk => hk)) ?_
  refine reg_nil ?_
  refine seq_n ?_
  refine wc_seq ?_
  refine wc_region ?_
  refine reg_quiet rfl (step_C tab_ok (fun K hk => hk)) ?_
  refine reg_quiet rfl (load_box tab_ok rfl rfl ⟨_, rfl, rfl⟩ rfl) ?_
  refine reg_quiet rfl (conv_int (m := o.sector) tab_ok rfl rfl rfl (wrap_i64 (by omega) (by omega))) ?_
  refine reg_quiet rfl (step_C tab_ok (fun K hk => hk)) ?_
  refine reg_quiet rfl (load_box tab_ok rfl rfl ⟨_, rfl, rfl⟩ rfl) ?_
  refine reg_quiet rfl (len_arr tab_ok rfl rfl) ?_
  refine reg_quiet rfl (rem_to tab_ok rfl rfl (by omega) hs) ?_
  refine reg_quiet rfl (step_C tab_ok (fun K hk => hk)) ?_
  refine reg_nil ?_
  refine seq_n ?_
  refine wc_seq ?_
  refine wc_seq ?_
  refine wc_region ?_
  refine reg_quiet rfl (step_C tab_ok (fun K hk => hk)) ?_
  refine reg_quiet rfl (load_box tab_ok rfl rfl ⟨_, rfl, rfl⟩ rfl) ?_
  refine reg_quiet rfl (rem_to tab_ok rfl rfl (by decide) hk) ?_
  refine reg_nil ?_
  refine seq_n ?_
  refine wc_block ?_
  refine wc_seq ?_
  refine wc_region ?_
  refine reg_quiet rfl (step_C tab_ok (fun K hk => hk)) ?_
  refine reg_quiet rfl (step_C tab_ok (fun K hk => hk)) ?_
  refine reg_nil ?_
  refine seq_n ?_
  refine wc_false rfl rfl ?_
  refine wc_seq ?_
  refine wc_region ?_
  refine reg_quiet rfl (step_C tab_ok (fun K hk => hk)) ?_
  refine reg_quiet rfl (step_C tab_ok (fun K hk => hk)) ?_
  refine reg_nil ?_
  refine seq_n ?_
  refine wc_false rfl rfl ?_
  refine wc_skip ?_
  refine blk_n ?_
  refine seq_n ?_
  refine wc_seq ?_
  refine wc_region ?_
  refine reg_quiet rfl (load_box tab_ok rfl rfl rfl rfl) ?_
  refine reg_quiet rfl (step_C tab_ok (fun K hk => hk)) ?_
  refine reg_quiet rfl (step_C tab_ok (fun K hk => hk)) ?_
  refine reg_quiet rfl (load_box tab_ok rfl rfl ⟨_, rfl, rfl⟩ rfl) ?_
  refine reg_quiet rfl (rem_to tab_ok rfl rfl (by decide) hb) ?_
  refine reg_quiet rfl (conv_int (m := (k : Int)) tab_ok rfl rfl rfl (wrap_i64 (by omega) (by omega))) ?_
  refine reg_quiet rfl (call_r hB rfl rfl (arg_e (arg_e (arg_e arg_nil))) (.inl rfl) (fun _ => rfl)) ?_
  refine reg_quiet rfl (step_C tab_ok (fun K hk => hk)) ?_
  refine reg_quiet rfl (step_C tab_ok (fun K hk => hk)) ?_
  refine reg_quiet rfl (step_C tab_ok (fun K hk => hk)) ?_
  refine reg_new (step_C tab_ok (fun K hk => hk)) rfl ?_
  refine reg_store (store_row tab_ok rfl rfl rfl ⟨_, ⟨rfl, rfl, rfl⟩, rfl⟩ rfl) ?_
  refine reg_quiet rfl (step_C tab_ok (fun K hk => hk)) ?_
  refine reg_nil ?_
  refine seq_n ?_
  refine wc_seq ?_
  refine wc_seq ?_
  refine wc_region ?_
  refine reg_quiet rfl (step_C tab_ok (fun K hk => hk)) ?_
  refine reg_quiet rfl (step_C tab_ok (fun K hk => hk)) ?_
  refine reg_nil ?_
  refine seq_n ?_
  refine wc_true rfl rfl ?_
  refine wc_seq ?_
  refine wc_region ?_
  refine reg_quiet rfl (load_box tab_ok rfl rfl rfl rfl) ?_
  refine reg_store (store_row tab_ok rfl rfl rfl ⟨_, ⟨rfl, rfl, rfl⟩, rfl⟩ rfl) ?_
  refine reg_quiet rfl (step_C tab_ok (fun K hk => hk)) ?_
  refine reg_nil ?_
  refine seq_n ?_
  refine wc_ret ?_
  refine seq_r ?_
  exact ⟨trivial, _, rfl, [], .of rfl rfl rfl rfl rfl ⟨⟨_, rfl, AVLe.of_eq rfl⟩, rfl, trivial⟩ trivial⟩
end Go.Proofs.Ytfmemklkkmiicaa

/- Disks: what a disk is, sector by sector. -/
namespace Go.Proofs.Ytfmemklkkmiicaa
open Go.Eng
/-- What a change does to a sector: the error, the new content. -/
def chg (o : Opr) (v : Vs) : Int × Ver :=
  if o.kind.tmod 3 = 0 then (if 256 < (o.bytes.length : Int) then (3, noV) else (0, ⟨true, o.bytes⟩))
  else if o.kind.tmod 3 = 1 then (0, noV)
  else if (v.length : Int) < o.back.tmod 8 then (11, noV) else (0, topV (v.drop (o.back.tmod 8).toNat))
def sec (o : Opr) (N : Nat) : Nat := (o.sector.tmod (N : Int)).toNat
def chunkAt (d : Dk) (s : Nat) : List Vs := (d.cs[((s : Int).tdiv 64).toNat]?).getD []
def stepD (N : Nat) (o : Opr) (d : Dk) : Dk :=
  if (chg o (vat d (sec o N))).1 = 0 then put d (sec o N) (chunkAt d (sec o N)) (vat d (sec o N)) (chg o (vat d (sec o N))).2 else d
def verAt (M : List Vs) (s : Nat) : Vs := (M[s]?).getD []
def stepM (o : Opr) (M : List Vs) : List Vs :=
  if (chg o (verAt M (sec o M.length))).1 = 0 then M.set (sec o M.length) ((chg o (verAt M (sec o M.length))).2 :: verAt M (sec o M.length)) else M
def errM (o : Opr) (M : List Vs) : Int := (chg o (verAt M (sec o M.length))).1
def tot (M : List Vs) : Int := ((M.map List.length).sum : Nat)
/-- The disk d holds M, after at most j changes. -/
structure Rep (N j : Nat) (d : Dk) (M : List Vs) : Prop where
  n : d.n = N
  l : M.length = N
  nb : 1 ≤ N ∧ N ≤ 10922
  jb : j ≤ 100000
  cs : d.cs.length = (N + 63) / 64
  c64 : ∀ c ∈ d.cs, c.length = 64
  v : ∀ s, s < N → vat d s = verAt M s
  ch : d.ch = tot M
  tb : tot M ≤ j
  b : ∀ v ∈ M, ∀ x ∈ v, x.b.length ≤ 256
  a : ∀ v ∈ M, ∀ x ∈ v, x.there = false → x.b = []
theorem q1 (s : Nat) : ((s : Int).tdiv 64).toNat = s / 64 := by
  rw [Int.tdiv_eq_ediv_of_nonneg (by omega)]
  omega
theorem q2 (s : Nat) : ((s : Int).tmod 64).toNat = s % 64 := by
  rw [Int.tmod_eq_emod_of_nonneg (by omega)]
  omega
theorem sum_mem {l : List Nat} {x : Nat} (h : x ∈ l) : x ≤ l.sum := by
  induction l with
  | nil => simp at h
  | cons a l ih =>
    simp only [List.mem_cons] at h
    simp only [List.sum_cons]
    rcases h with rfl | h
    · omega
    · have := ih h; omega
theorem Rep.vmem {N j : Nat} {d : Dk} {M : List Vs} (h : Rep N j d M) {s : Nat} (hs : s < N) : verAt M s ∈ M := by
  have hlt : s < M.length := by rw [h.l]; exact hs
  rw [verAt, List.getElem?_eq_getElem hlt]
  exact List.getElem_mem hlt
theorem Rep.vlen {N j : Nat} {d : Dk} {M : List Vs} (h : Rep N j d M) {s : Nat} (hs : s < N) : (verAt M s).length ≤ j := by
  have h1 : (verAt M s).length ≤ (M.map List.length).sum := sum_mem (List.mem_map_of_mem (f := List.length) (h.vmem hs))
  have h2 := h.tb
  unfold tot at h2
  omega
theorem Rep.chunk {N j : Nat} {d : Dk} {M : List Vs} (h : Rep N j d M) {s : Nat} (hs : s < N) : d.cs[((s : Int).tdiv 64).toNat]? = some (chunkAt d s) ∧ (chunkAt d s).length = 64 := by
  have hlt : ((s : Int).tdiv 64).toNat < d.cs.length := by rw [q1, h.cs]; omega
  refine ⟨?_, ?_⟩
  · rw [chunkAt, List.getElem?_eq_getElem hlt]; rfl
  · rw [chunkAt, List.getElem?_eq_getElem hlt]
    exact h.c64 _ (List.getElem_mem hlt)
theorem Rep.at {N j : Nat} {d : Dk} {M : List Vs} (h : Rep N j d M) {s : Nat} (hs : s < N) : At d s (chunkAt d s) (verAt M s) := by
  obtain ⟨h1, h2⟩ := h.chunk hs
  have hv := h.v s hs
  have hl := h.vlen hs
  have hj := h.jb
  have hnb := h.nb
  refine ⟨by rw [h.n]; omega, by rw [h.n]; omega, by rw [h.cs]; omega, ?_, by omega, fun x hx => ?_, h1, ?_⟩
  · rw [h.ch]
    have := h.tb
    unfold tot at this ⊢
    omega
  · have := h.b _ (h.vmem hs) x hx
    omega
  · have hlt : ((s : Int).tmod 64).toNat < (chunkAt d s).length := by rw [q2, h2]; omega
    rw [← hv, vat, h1]
    show _ = some (((chunkAt d s)[_]?).getD [])
    rw [List.getElem?_eq_getElem hlt]
    rfl
theorem Rep.good {N j : Nat} {d : Dk} {M : List Vs} (h : Rep N j d M) : Good N d := ⟨h.n, fun s hs => ⟨_, _, h.at hs⟩⟩
theorem vat_put {N j : Nat} {d : Dk} {M : List Vs} (h : Rep N j d M) {s t : Nat} (hs : s < N) (ht : t < N) (x : Ver) : vat (put d s (chunkAt d s) (verAt M s) x) t = if t = s then x :: verAt M s else verAt M t := by
  obtain ⟨h1, h2⟩ := h.chunk hs
  have hs1 : s / 64 < d.cs.length := by rw [h.cs]; omega
  rw [q1] at h1
  have hc1 := (List.getElem?_eq_some_iff.1 h1).2
  rw [vat, put, q1, q2, q1, q2]
  simp only []
  by_cases e : t = s
  · subst e
    rw [if_pos rfl, List.getElem?_set_self hs1]
    show (((chunkAt d t).set (t % 64) (x :: verAt M t))[t % 64]?).getD [] = _
    rw [List.getElem?_set_self (by rw [h2]; omega)]
    rfl
  · rw [if_neg e]
    have hv := h.v t ht
    rw [vat, q1, q2] at hv
    by_cases e2 : t / 64 = s / 64
    · rw [e2, List.getElem?_set_self hs1]
      show (((chunkAt d s).set (s % 64) (x :: verAt M s))[t % 64]?).getD [] = _
      rw [List.getElem?_set_ne (by omega)]
      rw [e2, h1] at hv
      exact hv
    · rw [List.getElem?_set_ne (by omega)]
      exact hv
theorem tot_set {M : List Vs} {s : Nat} (hs : s < M.length) (x : Ver) : tot (M.set s (x :: verAt M s)) = tot M + 1 := by
  unfold tot
  have h1 : verAt M s = M[s] := by rw [verAt, List.getElem?_eq_getElem hs]; rfl
  rw [h1]
  clear h1
  induction M generalizing s with
  | nil => simp at hs
  | cons a M ih =>
    cases s with
    | zero => simp; omega
    | succ s =>
      simp only [List.length_cons] at hs
      have := ih (s := s) (by omega)
      simp only [List.set_cons_succ, List.map_cons, List.sum_cons, List.getElem_cons_succ]
      omega
theorem verAt_set {M : List Vs} {s t : Nat} (hs : s < M.length) (y : Vs) : verAt (M.set s y) t = if t = s then y else verAt M t := by
  unfold verAt
  by_cases e : t = s
  · subst e; rw [if_pos rfl, List.getElem?_set_self hs]; rfl
  · rw [if_neg e, List.getElem?_set_ne (by omega)]
theorem sec_lt (o : Opr) (ho : OpOk o) {N : Nat} (hN : 1 ≤ N) : sec o N < N ∧ o.sector.tmod (N : Int) = (sec o N : Int) := by
  obtain ⟨_, ⟨h0, _⟩, _⟩ := ho
  have h1 : 0 ≤ o.sector.tmod (N : Int) := Int.tmod_nonneg _ h0
  have h2 : o.sector.tmod (N : Int) < N := Int.tmod_lt_of_pos _ (by omega)
  unfold sec
  omega
theorem chg_b {o : Opr} {v : Vs} (hv : ∀ x ∈ v, x.b.length ≤ 256) : (chg o v).2.b.length ≤ 256 := by
  unfold chg
  split
  · split
    · simp
    · simp only []; omega
  · split
    · simp
    · split
      · simp
      · simp only []
        cases hd : v.drop (o.back.tmod 8).toNat with
        | nil => simp [topV]
        | cons x l => exact hv x (List.mem_of_mem_drop (hd ▸ List.mem_cons_self ..))
theorem chg_a {o : Opr} {v : Vs} (hv : ∀ x ∈ v, x.there = false → x.b = []) : (chg o v).2.there = false → (chg o v).2.b = [] := by
  unfold chg
  split
  · split
    · intro _; rfl
    · intro h; cases h
  · split
    · intro _; rfl
    · split
      · intro _; rfl
      · simp only []
        cases hd : v.drop (o.back.tmod 8).toNat with
        | nil => intro _; rfl
        | cons x l => exact hv x (List.mem_of_mem_drop (hd ▸ List.mem_cons_self ..))
theorem stepM_len (o : Opr) (M : List Vs) : (stepM o M).length = M.length := by unfold stepM; split <;> simp
theorem Rep.put {N j : Nat} {d : Dk} {M : List Vs} (h : Rep N j d M) (hj : j + 1 ≤ 100000) {s : Nat} (hs : s < N) (x : Ver) (hx : x.b.length ≤ 256) (hx2 : x.there = false → x.b = []) : Rep N (j + 1) (put d s (chunkAt d s) (verAt M s) x) (M.set s (x :: verAt M s)) := by
  obtain ⟨h1, h2⟩ := h.chunk hs
  have hsl : s < M.length := by rw [h.l]; exact hs
  refine ⟨h.n, by simp [h.l], h.nb, hj, by simp [Ytfmemklkkmiicaa.put, h.cs], fun c hc => ?_, fun t ht => ?_, ?_, ?_, fun v hv y hy => ?_, fun v hv y hy => ?_⟩
  · simp only [Ytfmemklkkmiicaa.put] at hc
    rcases List.mem_or_eq_of_mem_set hc with hc | rfl
    · exact h.c64 c hc
    · simp [h2]
  · rw [vat_put h hs ht, verAt_set hsl]
  · show d.ch + 1 = _
    rw [h.ch, tot_set hsl]
  · rw [tot_set hsl]
    have := h.tb
    push_cast
    omega
  · rcases List.mem_or_eq_of_mem_set hv with hv | rfl
    · exact h.b v hv y hy
    · rcases List.mem_cons.1 hy with rfl | hy
      · exact hx
      · exact h.b _ (h.vmem hs) y hy
  · rcases List.mem_or_eq_of_mem_set hv with hv | rfl
    · exact h.a v hv y hy
    · rcases List.mem_cons.1 hy with rfl | hy
      · exact hx2
      · exact h.a _ (h.vmem hs) y hy
theorem Rep.more {N j k : Nat} {d : Dk} {M : List Vs} (h : Rep N j d M) (hk : j ≤ k) (hj : k ≤ 100000) : Rep N k d M :=
  ⟨h.n, h.l, h.nb, hj, h.cs, h.c64, h.v, h.ch, by have := h.tb; omega, h.b, h.a⟩
theorem Rep.step {N j : Nat} {d : Dk} {M : List Vs} (h : Rep N j d M) (hj : j + 1 ≤ 100000) (o : Opr) (ho : OpOk o) : Rep N (j + 1) (stepD N o d) (stepM o M) := by
  obtain ⟨hs, _⟩ := sec_lt o ho h.nb.1
  have hv := h.v _ hs
  unfold stepD stepM
  rw [h.l, hv]
  split
  · exact h.put hj hs _ (chg_b (h.b _ (h.vmem hs))) (chg_a (h.a _ (h.vmem hs)))
  · exact h.more (by omega) hj
/-- The contents of a sector, the oldest first. -/
def hist (v : Vs) : Vs := noV :: v.reverse
def refL (M : List Vs) : List Vs := M.map hist
theorem refL_get {M : List Vs} {s : Nat} (hs : s < M.length) : (refL M)[s]? = some (hist (verAt M s)) := by
  rw [refL, List.getElem?_map, verAt, List.getElem?_eq_getElem hs]
  rfl
theorem hist_len (v : Vs) : (hist v).length = v.length + 1 := by simp [hist]
theorem hist_get (v : Vs) (k : Nat) (hk : k ≤ v.length) : (hist v)[v.length - k]? = some (topV (v.drop k)) := by
  cases hd : v.drop k with
  | nil =>
    have : v.length ≤ k := by have := congrArg List.length hd; simp at this; omega
    rw [show v.length - k = 0 by omega]
    rfl
  | cons x l =>
    have hlt : k < v.length := by have := congrArg List.length hd; simp at this; omega
    have hx : v[k]? = some x := by
      have := congrArg (fun l => l[0]?) hd
      simpa using this
    rw [hist, show v.length - k = (v.length - k - 1) + 1 by omega, List.getElem?_cons_succ, List.getElem?_reverse (by omega), show v.length - 1 - (v.length - k - 1) = k by omega]
    exact hx
theorem refL_set {M : List Vs} {s : Nat} (hs : s < M.length) (x : Ver) : wl (refL M) s x (refL M).length = refL (M.set s (x :: verAt M s)) := by
  apply List.ext_getElem?
  intro i
  rw [wl, List.getElem?_map]
  have hl : (refL M).length = M.length := by simp [refL]
  rcases Nat.lt_or_ge i M.length with hi | hi
  · rw [List.getElem?_range (by omega), refL_get (by simpa using hi), verAt_set hs]
    show some (wEl _ _ _ _) = _
    rw [wEl, refL_get hi]
    by_cases e : i = s
    · subst e
      rw [if_pos rfl, if_pos rfl]
      simp [hist]
    · rw [if_neg e, if_neg e]
      rfl
  · rw [List.getElem?_eq_none (by simp; omega), List.getElem?_eq_none (by simp [refL]; omega)]
    rfl
theorem refL_pos {M : List Vs} {l : Vs} {j : Nat} (h : ∀ v ∈ M, v.length ≤ j) (hl : l ∈ refL M) : 0 < l.length ∧ l.length ≤ j + 1 := by
  obtain ⟨v, hv, rfl⟩ := List.mem_map.1 hl
  rw [hist_len]
  have := h v hv
  omega
theorem Rep.all {N j : Nat} {d : Dk} {M : List Vs} (h : Rep N j d M) : ∀ v ∈ M, v.length ≤ j := fun v hv => by
  have h1 : v.length ≤ (M.map List.length).sum := sum_mem (List.mem_map_of_mem (f := List.length) hv)
  have h2 := h.tb
  unfold tot at h2
  omega
end Go.Proofs.Ytfmemklkkmiicaa

/- Disks: one change, of the program and of the definition. -/
namespace Go.Proofs.Ytfmemklkkmiicaa
open Go.Eng
theorem do_is {N j : Nat} {d : Dk} {M : List Vs} (h : Rep N j d M) (o : Opr) (ho : OpOk o) : FnIs Try.prog 13 [.d (encOpr o), .d (encDk d), .d (i6 N)] [] (tup2 (encDk (stepD N o d)) (i6 (errM o M))) [] := by
  obtain ⟨hs, hse⟩ := sec_lt o ho h.nb.1
  have hA := h.at hs
  have hv := h.v _ hs
  have hj := h.jb
  have hl := h.vlen hs
  unfold stepD errM
  rw [h.l, hv]
  have hk0 : 0 ≤ o.kind.tmod 3 := Int.tmod_nonneg _ ho.k.1
  have hk3 : o.kind.tmod 3 < 3 := Int.tmod_lt_of_pos _ (by omega)
  unfold chg
  by_cases k0 : o.kind.tmod 3 = 0
  · rw [if_pos k0]
    by_cases hb : 256 < (o.bytes.length : Int)
    · rw [if_pos hb, if_neg (by decide)]
      exact do_wx o ho d _ N _ h.nb hse k0 (write_long d _ o.bytes _ _ hA (decide_eq_true hb))
    · rw [if_neg hb, if_pos rfl]
      exact do_w o ho d _ N _ h.nb hse k0 (write_ok d _ o.bytes _ _ hA (decide_eq_false hb))
  · rw [if_neg k0]
    by_cases k1 : o.kind.tmod 3 = 1
    · rw [if_pos k1, if_pos rfl]
      exact do_e o ho d _ N _ h.nb hse k1 (erase_ok d _ _ _ hA)
    · rw [if_neg k1]
      have k2 : o.kind.tmod 3 = 2 := by omega
      have b0 : 0 ≤ o.back.tmod 8 := Int.tmod_nonneg _ ho.b.1
      have b8 : o.back.tmod 8 < 8 := Int.tmod_lt_of_pos _ (by omega)
      have hbk : o.back.tmod 8 = ((o.back.tmod 8).toNat : Int) := by omega
      by_cases hb : ((verAt M (sec o N)).length : Int) < o.back.tmod 8
      · rw [if_pos hb, if_neg (by decide)]
        exact do_rx o ho d zeroK N _ h.nb hse k2 _ hbk (by omega) (replay_none d _ _ _ _ hA (decide_eq_false (by omega)) (decide_eq_true (by omega)))
      · rw [if_neg hb, if_pos rfl]
        exact do_r o ho d _ N _ h.nb hse k2 _ hbk (by omega) (replay_ok d _ _ _ _ hA (by omega))
theorem ref_is {N j : Nat} {d : Dk} {M : List Vs} (h : Rep N j d M) (o : Opr) (ho : OpOk o) : FnIs Try.prog 14 [.d (encOpr o), .d (encRD (refL M))] [] (tup2 (encRD (refL (stepM o M))) (i6 (errM o M))) [] := by
  obtain ⟨hs, hse⟩ := sec_lt o ho h.nb.1
  have hj := h.jb
  have hl := h.vlen hs
  have hrl : (refL M).length = N := by simp [refL, h.l]
  have hsl : sec o N < M.length := by rw [h.l]; exact hs
  have hget := refL_get hsl
  have hgeti : (refL M)[((sec o N : Int)).toNat]? = some (hist (verAt M (sec o N))) := by rw [Int.toNat_natCast]; exact hget
  have hse' : o.sector.tmod ((refL M).length : Int) = (sec o N : Int) := by rw [hrl]; exact hse
  have hnb : 1 ≤ (refL M).length ∧ (refL M).length ≤ 10922 := by rw [hrl]; exact h.nb
  have hpos : ∀ l ∈ refL M, 0 < l.length ∧ l.length ≤ 1000000 := fun l hm => by
    have := refL_pos h.all hm
    omega
  have hW : ∀ x : Ver, FnIs Try.prog 32 [.d (encRD (refL M)), .d (i6 (sec o N)), .d (encV x)] [] (.d (encRD (refL (M.set (sec o N) (x :: verAt M (sec o N)))))) [] := fun x => by
    have := rwith_is (refL M) (sec o N) x hnb.2 hpos
    rw [refL_set hsl] at this
    exact this
  unfold stepM errM
  rw [h.l]
  have hk0 : 0 ≤ o.kind.tmod 3 := Int.tmod_nonneg _ ho.k.1
  have hk3 : o.kind.tmod 3 < 3 := Int.tmod_lt_of_pos _ (by omega)
  unfold chg
  by_cases k0 : o.kind.tmod 3 = 0
  · rw [if_pos k0]
    by_cases hb : 256 < (o.bytes.length : Int)
    · rw [if_pos hb, if_neg (by decide)]
      exact ref_wx o ho _ [] _ hnb hse' k0 (decide_eq_true hb)
    · rw [if_neg hb, if_pos rfl]
      exact ref_w o ho _ _ _ hnb hse' k0 (decide_eq_false hb) (hW _)
  · rw [if_neg k0]
    by_cases k1 : o.kind.tmod 3 = 1
    · rw [if_pos k1, if_pos rfl]
      exact ref_e o ho _ _ _ hnb hse' k1 (hW _)
    · rw [if_neg k1]
      have k2 : o.kind.tmod 3 = 2 := by omega
      have b0 : 0 ≤ o.back.tmod 8 := Int.tmod_nonneg _ ho.b.1
      have b8 : o.back.tmod 8 < 8 := Int.tmod_lt_of_pos _ (by omega)
      have hbk : o.back.tmod 8 = ((o.back.tmod 8).toNat : Int) := by omega
      have hhl := hist_len (verAt M (sec o N))
      by_cases hb : ((verAt M (sec o N)).length : Int) < o.back.tmod 8
      · rw [if_pos hb, if_neg (by decide)]
        exact ref_rx o ho _ [] _ hnb hse' k2 _ hbk (by omega) (rback_no _ _ _ _ (by omega) (by omega) hgeti (decide_eq_true (by omega)))
      · rw [if_neg hb, if_pos rfl]
        refine ref_r o ho _ _ _ hnb hse' k2 _ hbk (by omega) _ (rback_yes _ _ _ _ (topV ((verAt M (sec o N)).drop (o.back.tmod 8).toNat)) (by omega) (by omega) hgeti (decide_eq_false (by omega)) ?_) (hW _)
        have := hist_get (verAt M (sec o N)) (o.back.tmod 8).toNat (by omega)
        rw [show (((hist (verAt M (sec o N))).length : Int) - 1 - ((o.back.tmod 8).toNat : Int)).toNat = (verAt M (sec o N)).length - (o.back.tmod 8).toNat by omega]
        exact this
end Go.Proofs.Ytfmemklkkmiicaa

/- Disks: runs of changes. -/
namespace Go.Proofs.Ytfmemklkkmiicaa
open Go.Eng
abbrev sizeN (z : Int) : Nat := (1 + z.tmod 130).toNat
def initD (N : Nat) : Dk := ⟨N, 0, List.replicate ((N + 63) / 64) zc⟩
def runM (N : Nat) (l : List Opr) : Nat → List Vs
  | 0 => List.replicate N []
  | k + 1 => match l[k]? with
    | some o => stepM o (runM N l k)
    | none => runM N l k
def runD (N : Nat) (l : List Opr) : Nat → Dk
  | 0 => initD N
  | k + 1 => match l[k]? with
    | some o => stepD N o (runD N l k)
    | none => runD N l k
theorem runM_succ {N : Nat} {l : List Opr} {k : Nat} {o : Opr} (h : l[k]? = some o) : runM N l (k + 1) = stepM o (runM N l k) := by rw [runM, h]
theorem runD_succ {N : Nat} {l : List Opr} {k : Nat} {o : Opr} (h : l[k]? = some o) : runD N l (k + 1) = stepD N o (runD N l k) := by rw [runD, h]
theorem size_ok {z : Int} (h : 0 ≤ z ∧ z ≤ 255) : 1 ≤ sizeN z ∧ sizeN z ≤ 130 ∧ 1 + z.tmod 130 = (sizeN z : Int) := by
  have h1 : 0 ≤ z.tmod 130 := Int.tmod_nonneg _ h.1
  have h2 : z.tmod 130 < 130 := Int.tmod_lt_of_pos _ (by omega)
  unfold sizeN
  omega
theorem rep_init {N : Nat} (hN : 1 ≤ N ∧ N ≤ 10922) : Rep N 0 (initD N) (List.replicate N []) := by
  refine ⟨rfl, by simp, hN, by omega, by simp [initD], fun c hc => ?_, fun s hs => ?_, ?_, ?_, fun v hv x hx => ?_, fun v hv x hx => ?_⟩
  · simp only [initD] at hc
    rw [List.eq_of_mem_replicate hc]
    simp
  · rw [vat, initD, q1, q2]
    simp only []
    rw [List.getElem?_replicate, if_pos (by omega)]
    show ((zc[s % 64]?)).getD [] = _
    rw [List.getElem?_replicate, if_pos (by omega), verAt, List.getElem?_replicate, if_pos hs]
  · simp [initD, tot]
  · simp [tot]
  · rw [List.eq_of_mem_replicate hv] at hx
    simp at hx
  · rw [List.eq_of_mem_replicate hv] at hx
    simp at hx
theorem rep_run {N : Nat} (hN : 1 ≤ N ∧ N ≤ 10922) (l : List Opr) (hl : ∀ o ∈ l, OpOk o) : ∀ k, k ≤ 90000 → Rep N k (runD N l k) (runM N l k)
  | 0, _ => rep_init hN
  | k + 1, hk => by
    have h := rep_run hN l hl k (by omega)
    cases ho : l[k]? with
    | none =>
      rw [runD, runM, ho]
      exact h.more (by omega) (by omega)
    | some o =>
      rw [runD_succ ho, runM_succ ho]
      exact h.step (by omega) o (hl o (List.mem_of_getElem? ho))
theorem refL_init (N : Nat) : List.replicate N [noV] = refL (List.replicate N []) := by simp [refL, hist]
end Go.Proofs.Ytfmemklkkmiicaa

/- Disks: the disks of the laws. -/
namespace Go.Proofs.Ytfmemklkkmiicaa
open Go.Eng
set_option maxHeartbeats 4000000
attribute [local irreducible] WC RegS RegD SeqQ BlkQ ScoQ RegK CutK Sat SatN FnIs LoopQ StepIs OpIs
theorem sizeL_is (z : Int) (ops : List Opr) (h : 0 ≤ z ∧ z ≤ 255) : FnIs Try.prog 10 [.d (encX (z, ops))] [] (.int .i64 (sizeN z)) [] := by
  obtain ⟨h1, h2, h3⟩ := size_ok h
  have hw : IntKind.i64.wrap (1 + z.tmod 130) = (sizeN z : Int) := by rw [h3]; exact wrap_i64 (by omega) (by omega)
  refine fnIs_of tab_ok Try.func10 rfl rfl rfl ?_
  refine wc_seq ?_
  refine wc_region ?_
  refine reg_new (step_C tab_ok (fun K hk => hk)) rfl ?_
  refine reg_quiet rfl (step_C tab_ok (fun K hk => hk)) ?_
  refine reg_nil ?_
  refine seq_n ?_
  refine wc_seq ?_
  refine wc_region ?_
  refine reg_quiet rfl (step_C tab_ok (fun K hk => hk)) ?_
  refine reg_quiet rfl (load_box tab_ok rfl rfl ⟨_, rfl, rfl⟩ rfl) ?_
  refine reg_quiet rfl (conv_int (m := z) tab_ok rfl rfl rfl (wrap_i64 (by omega) (by omega))) ?_
  refine reg_quiet rfl (rem_int tab_ok rfl rfl (by decide)) ?_
  refine reg_quiet rfl (add_int (m := (sizeN z : Int)) tab_ok rfl rfl hw) ?_
  refine reg_quiet rfl (step_C tab_ok (fun K hk => hk)) ?_
  refine reg_nil ?_
  refine seq_n ?_
  refine wc_ret ?_
  exact ⟨trivial, [], .of rfl rfl rfl rfl rfl ⟨⟨_, rfl, AVLe.of_eq rfl⟩, rfl, trivial⟩ trivial⟩
theorem of_is (z : Int) (ops : List Opr) (h : 0 ≤ z ∧ z ≤ 255) (hl : ∀ o ∈ ops, OpOk o) : FnIs Try.prog 16 [.d (encX (z, ops))] [] (.d (encDk (runD (sizeN z) ops (min ops.length 60)))) [] := by
  obtain ⟨h1, h2, -⟩ := size_ok h
  have hNew : FnIs Try.prog 9 [.d (i6 (sizeN z))] [] (tup2 (encDk (initD (sizeN z))) (i6 0)) [] := new_ok (sizeN z) _ rfl (by rw [Bool.or_eq_false_iff]; exact ⟨decide_eq_false (by omega), decide_eq_false (by omega)⟩)
  refine fnIs_of tab_ok Try.func16 rfl rfl rfl ?_
  refine wc_seq ?_
  refine wc_region ?_
  refine reg_new (step_C tab_ok (fun K hk => hk)) rfl ?_
  refine reg_new (step_C tab_ok (fun K hk => hk)) rfl ?_
  refine reg_nil ?_
  refine seq_n ?_
  refine wc_seq ?_
  refine wc_region ?_
  refine reg_quiet rfl (load_box tab_ok rfl rfl rfl rfl) ?_
  refine reg_quiet rfl (call_r (sizeL_is z ops h) rfl rfl (arg_e arg_nil) (.inl rfl) (fun _ => rfl)) ?_
  refine reg_quiet rfl (call_r hNew rfl rfl (arg_e arg_nil) (.inl rfl) (fun _ => rfl)) ?_
  refine reg_quiet rfl (step_C tab_ok (fun K hk => hk)) ?_
  refine reg_quiet rfl (step_C tab_ok (fun K hk => hk)) ?_
  refine reg_quiet rfl (step_C tab_ok (fun K hk => hk)) ?_
  refine reg_new (step_C tab_ok (fun K hk => hk)) rfl ?_
  refine reg_store (store_row tab_ok rfl rfl rfl ⟨_, ⟨rfl, rfl, rfl⟩, rfl⟩ rfl) ?_
  refine reg_quiet rfl (step_C tab_ok (fun K hk => hk)) ?_
  refine reg_nil ?_
  refine seq_n ?_
  refine wc_seq ?_
  refine wc_seq ?_
  refine wc_region ?_
  refine reg_quiet rfl (step_C tab_ok (fun K hk => hk)) ?_
  refine reg_nil ?_
  refine seq_n ?_
  refine wc_block ?_
  refine wc_inv (fun i : Nat => ⟨[(5, .int .i64 i), (1, .ptr 64 []), (3, .ptr 65 []), (2, .ptr 66 [])], [(64, some (.box 24 (.d (encX (z, ops))))), (65, some (.box 27 (.d (encDk (runD (sizeN z) ops i))))), (66, some (.box 27 (.d r27.zero)))], 72, Try.f16.ntmps, 64⟩) (fun i => i ≤ ops.length ∧ i ≤ 60) (fun i => 60 - i) 0 [(64, some 64), (65, some 128), (66, some 72)] ⟨Nat.zero_le _, Nat.zero_le _⟩
    (.of rfl rfl rfl rfl rfl ⟨⟨_, rfl, .refl _⟩, rfl, ⟨_, rfl, .refl _⟩, rfl, ⟨_, rfl, .refl _⟩, rfl, ⟨_, rfl, .refl _⟩, rfl, trivial⟩ ⟨⟨rfl, rfl, _, rfl, .refl _⟩, ⟨rfl, rfl, _, rfl, .refl _⟩, ⟨rfl, rfl, _, rfl, .refl _⟩, trivial⟩) ?_
  rintro i ⟨hi1, hi2⟩
  refine wc_of ?_
  refine wc_seq ?_
  refine wc_seq_cut 20 (.bool (decide ((i : Int) < ops.length) && decide ((i : Int) < 60))) _ rfl ?_ ?_
  · refine reg_quiet rfl (step_C tab_ok (fun K hk => hk)) ?_
    refine reg_quiet rfl (step_C tab_ok (fun K hk => hk)) ?_
    refine reg_quiet rfl (load_box tab_ok rfl rfl ⟨_, rfl, rfl⟩ rfl) ?_
    refine reg_quiet rfl (len_arr tab_ok rfl rfl) ?_
    refine reg_quiet rfl (step_C tab_ok (fun K hk => hk)) ?_
    refine reg_quiet rfl (step_C tab_ok (fun K hk => hk)) ?_
    refine reg_split rfl rfl rfl (fun hb => ?_) (fun hb => ?_)
    refine reg_on rfl rfl (by assumption) ?_
    refine reg_quiet rfl (step_C tab_ok (fun K hk => hk)) ?_
    refine reg_on rfl rfl (by assumption) ?_
    refine reg_quiet rfl (step_C tab_ok (fun K hk => hk)) ?_
    refine reg_quiet rfl (pick_T tab_ok rfl (by assumption) rfl) ?_
    rotate_left
    refine reg_skip rfl rfl (by assumption) rfl rfl ?_
    refine reg_skip rfl rfl (by assumption) rfl rfl ?_
    refine reg_quiet rfl (pick_F tab_ok rfl (by assumption) rfl) ?_
    rotate_left
    all_goals refine reg_cut 9 rfl rfl rfl rfl rfl rfl rfl rfl rfl (AVLe.of_eq ?_)
    all_goals (first | rfl | (clear q5; simp_all; done) | (simp_all; done) | (simp_all; omega))
  refine wc_cond rfl (fun h3 => ?_) (fun h3 => ?_)
  · rw [Bool.and_eq_true] at h3
    have hlt : i < ops.length := by have := of_decide_eq_true h3.1; omega
    have hlt2 : i < 60 := by have := of_decide_eq_true h3.2; omega
    obtain ⟨o, ho0⟩ : ∃ o, ops[i]? = some o := ⟨_, List.getElem?_eq_getElem hlt⟩
    have ho : ops[((i : Int)).toNat]? = some o := by rw [Int.toNat_natCast]; exact ho0
    have hs := runD_succ (N := sizeN z) ho0
    have hD := do_is (rep_run (N := sizeN z) ⟨h1, by omega⟩ ops hl i (by omega)) o (hl o (List.mem_of_getElem? ho0))
    rw [← hs] at hD
    refine wc_skip ?_
    refine seq_n ?_
    refine wc_seq ?_
    refine wc_block ?_
    refine wc_draw (by kernel_rfl) ?_
    refine dreg_q [1] [64] rfl (step_C tab_ok (fun K hk => hk)) ?_
    refine dreg_q [24] [64] rfl (load_box tab_ok rfl rfl ⟨_, rfl, rfl⟩ rfl) ?_
    refine dreg_q [5] [] rfl (step_C tab_ok (fun K hk => hk)) ?_
    refine dreg_q [25, 26] [] rfl (index_arr (el := o) tab_ok rfl rfl rfl rfl rfl (by omega) ho) ?_
    refine dreg_q [27] [] rfl (load_i tab_ok rfl rfl) ?_
    refine dreg_q [3] [65] rfl (load_box tab_ok rfl rfl rfl rfl) ?_
    refine dreg_q [1] [64] rfl (load_box tab_ok rfl rfl rfl rfl) ?_
    refine dreg_q [30] [] rfl (call_r (sizeL_is z ops h) rfl rfl (arg_e arg_nil) (.inl rfl) (fun _ => rfl)) ?_
    refine dreg_q [28, 29, 31] [] rfl (call_r hD rfl rfl (arg_e (arg_e (arg_e arg_nil))) (.inl rfl) (fun _ => rfl)) ?_
    refine dreg_q [32] [] rfl (step_C tab_ok (fun K hk => hk)) ?_
    refine dreg_q [23] [] rfl (step_C tab_ok (fun K hk => hk)) ?_
    refine dreg_q [23] [] rfl (step_C tab_ok (fun K hk => hk)) ?_
    refine dreg_s [3, 33] [65] (store_row tab_ok rfl rfl rfl ⟨_, ⟨rfl, rfl, rfl⟩, rfl⟩ rfl) ?_
    refine dreg_end (by kernel_rfl) ?_
    refine blk_n ?_
    refine seq_n ?_
    refine wc_region ?_
    refine reg_quiet rfl (step_C tab_ok (fun K hk => hk)) ?_
    refine reg_quiet rfl (add_int tab_ok rfl rfl (wrap_i64 (by omega) (by omega))) ?_
    refine reg_quiet rfl (step_C tab_ok (fun K hk => hk)) ?_
    refine reg_nil ?_
    refine loop_n (i + 1) [(64, some 64), (65, some 65), (66, some 66)] ⟨hlt, hlt2⟩ (by omega) ?_
    exact .of rfl rfl rfl rfl rfl ⟨⟨_, rfl, .refl _⟩, rfl, ⟨_, rfl, .refl _⟩, rfl, ⟨_, rfl, .refl _⟩, rfl, ⟨_, rfl, .refl _⟩, rfl, trivial⟩ ⟨⟨rfl, rfl, _, rfl, .refl _⟩, ⟨rfl, rfl, _, rfl, .refl _⟩, ⟨rfl, rfl, _, rfl, .refl _⟩, trivial⟩
  · have he : i = min ops.length 60 := by
      rw [Bool.and_eq_false_iff] at h3
      rcases h3 with h3 | h3 <;> have := of_decide_eq_false h3 <;> omega
    subst he
    refine wc_exit ?_
    refine seq_x ?_
    refine loop_x ?_
    refine blk_x ?_
    refine seq_n ?_
    refine wc_seq ?_
    refine wc_region ?_
    refine reg_quiet rfl (load_box tab_ok rfl rfl rfl rfl) ?_
    refine reg_store (store_row tab_ok rfl rfl rfl ⟨_, ⟨rfl, rfl, rfl⟩, rfl⟩ rfl) ?_
    refine reg_nil ?_
    refine seq_n ?_
    refine wc_ret ?_
    exact ⟨trivial, _, rfl, [], .of rfl rfl rfl rfl rfl ⟨⟨_, rfl, AVLe.of_eq rfl⟩, rfl, trivial⟩ trivial⟩
theorem refOf_is (z : Int) (ops : List Opr) (h : 0 ≤ z ∧ z ≤ 255) (hl : ∀ o ∈ ops, OpOk o) : FnIs Try.prog 17 [.d (encX (z, ops))] [] (.d (encRD (refL (runM (sizeN z) ops (min ops.length 60))))) [] := by
  obtain ⟨h1, h2, -⟩ := size_ok h
  have hNew := refnew_is (sizeN z) (by omega)
  rw [refL_init] at hNew
  refine fnIs_of tab_ok Try.func17 rfl rfl rfl ?_
  refine wc_seq ?_
  refine wc_region ?_
  refine reg_new (step_C tab_ok (fun K hk => hk)) rfl ?_
  refine reg_new (step_C tab_ok (fun K hk => hk)) rfl ?_
  refine reg_nil ?_
  refine seq_n ?_
  refine wc_seq ?_
  refine wc_region ?_
  refine reg_quiet rfl (load_box tab_ok rfl rfl rfl rfl) ?_
  refine reg_quiet rfl (call_r (sizeL_is z ops h) rfl rfl (arg_e arg_nil) (.inl rfl) (fun _ => rfl)) ?_
  refine reg_quiet rfl (call_r hNew rfl rfl (arg_e arg_nil) (.inl rfl) (fun _ => rfl)) ?_
  refine reg_new (step_C tab_ok (fun K hk => hk)) rfl ?_
  refine reg_store (store_row tab_ok rfl rfl rfl ⟨_, ⟨rfl, rfl, rfl⟩, rfl⟩ rfl) ?_
  refine reg_nil ?_
  refine seq_n ?_
  refine wc_seq ?_
  refine wc_seq ?_
  refine wc_region ?_
  refine reg_quiet rfl (step_C tab_ok (fun K hk => hk)) ?_
  refine reg_nil ?_
  refine seq_n ?_
  refine wc_block ?_
  refine wc_inv (fun i : Nat => ⟨[(4, .int .i64 i), (1, .ptr 64 []), (3, .ptr 65 []), (2, .ptr 66 [])], [(64, some (.box 24 (.d (encX (z, ops))))), (65, some (.box 34 (.d (encRD (refL (runM (sizeN z) ops i)))))), (66, some (.box 34 (.d r34.zero)))], 72, Try.f17.ntmps, 64⟩) (fun i => i ≤ ops.length ∧ i ≤ 60) (fun i => 60 - i) 0 [(64, some 64), (65, some 104), (66, some 72)] ⟨Nat.zero_le _, Nat.zero_le _⟩
    (.of rfl rfl rfl rfl rfl ⟨⟨_, rfl, .refl _⟩, rfl, ⟨_, rfl, .refl _⟩, rfl, ⟨_, rfl, .refl _⟩, rfl, ⟨_, rfl, .refl _⟩, rfl, trivial⟩ ⟨⟨rfl, rfl, _, rfl, .refl _⟩, ⟨rfl, rfl, _, rfl, .refl _⟩, ⟨rfl, rfl, _, rfl, .refl _⟩, trivial⟩) ?_
  rintro i ⟨hi1, hi2⟩
  refine wc_of ?_
  refine wc_seq ?_
  refine wc_seq_cut 16 (.bool (decide ((i : Int) < ops.length) && decide ((i : Int) < 60))) _ rfl ?_ ?_
  · refine reg_quiet rfl (step_C tab_ok (fun K hk => hk)) ?_
    refine reg_quiet rfl (step_C tab_ok (fun K hk => hk)) ?_
    refine reg_quiet rfl (load_box tab_ok rfl rfl ⟨_, rfl, rfl⟩ rfl) ?_
    refine reg_quiet rfl (len_arr tab_ok rfl rfl) ?_
    refine reg_quiet rfl (step_C tab_ok (fun K hk => hk)) ?_
    refine reg_quiet rfl (step_C tab_ok (fun K hk => hk)) ?_
    refine reg_split rfl rfl rfl (fun hb => ?_) (fun hb => ?_)
    refine reg_on rfl rfl (by assumption) ?_
    refine reg_quiet rfl (step_C tab_ok (fun K hk => hk)) ?_
    refine reg_on rfl rfl (by assumption) ?_
    refine reg_quiet rfl (step_C tab_ok (fun K hk => hk)) ?_
    refine reg_quiet rfl (pick_T tab_ok rfl (by assumption) rfl) ?_
    rotate_left
    refine reg_skip rfl rfl (by assumption) rfl rfl ?_
    refine reg_skip rfl rfl (by assumption) rfl rfl ?_
    refine reg_quiet rfl (pick_F tab_ok rfl (by assumption) rfl) ?_
    rotate_left
    all_goals refine reg_cut 9 rfl rfl rfl rfl rfl rfl rfl rfl rfl (AVLe.of_eq ?_)
    all_goals (first | rfl | (clear q5; simp_all; done) | (simp_all; done) | (simp_all; omega))
  refine wc_cond rfl (fun h3 => ?_) (fun h3 => ?_)
  · rw [Bool.and_eq_true] at h3
    have hlt : i < ops.length := by have := of_decide_eq_true h3.1; omega
    have hlt2 : i < 60 := by have := of_decide_eq_true h3.2; omega
    obtain ⟨o, ho0⟩ : ∃ o, ops[i]? = some o := ⟨_, List.getElem?_eq_getElem hlt⟩
    have ho : ops[((i : Int)).toNat]? = some o := by rw [Int.toNat_natCast]; exact ho0
    have hs := runM_succ (N := sizeN z) ho0
    have hD := ref_is (rep_run (N := sizeN z) ⟨h1, by omega⟩ ops hl i (by omega)) o (hl o (List.mem_of_getElem? ho0))
    rw [← hs] at hD
    refine wc_skip ?_
    refine seq_n ?_
    refine wc_seq ?_
    refine wc_block ?_
    refine wc_draw (by kernel_rfl) ?_
    refine dreg_q [1] [64] rfl (step_C tab_ok (fun K hk => hk)) ?_
    refine dreg_q [20] [64] rfl (load_box tab_ok rfl rfl ⟨_, rfl, rfl⟩ rfl) ?_
    refine dreg_q [4] [] rfl (step_C tab_ok (fun K hk => hk)) ?_
    refine dreg_q [21, 22] [] rfl (index_arr (el := o) tab_ok rfl rfl rfl rfl rfl (by omega) ho) ?_
    refine dreg_q [23] [] rfl (load_i tab_ok rfl rfl) ?_
    refine dreg_q [3] [65] rfl (load_box tab_ok rfl rfl rfl rfl) ?_
    refine dreg_q [24, 25] [] rfl (call_r hD rfl rfl (arg_e (arg_e arg_nil)) (.inl rfl) (fun _ => rfl)) ?_
    refine dreg_q [26] [] rfl (step_C tab_ok (fun K hk => hk)) ?_
    refine dreg_q [19] [] rfl (step_C tab_ok (fun K hk => hk)) ?_
    refine dreg_q [19] [] rfl (step_C tab_ok (fun K hk => hk)) ?_
    refine dreg_s [3, 27] [65] (store_row tab_ok rfl rfl rfl ⟨_, ⟨rfl, rfl, rfl⟩, rfl⟩ rfl) ?_
    refine dreg_end (by kernel_rfl) ?_
    refine blk_n ?_
    refine seq_n ?_
    refine wc_region ?_
    refine reg_quiet rfl (step_C tab_ok (fun K hk => hk)) ?_
    refine reg_quiet rfl (add_int tab_ok rfl rfl (wrap_i64 (by omega) (by omega))) ?_
    refine reg_quiet rfl (step_C tab_ok (fun K hk => hk)) ?_
    refine reg_nil ?_
    refine loop_n (i + 1) [(64, some 64), (65, some 65), (66, some 66)] ⟨hlt, hlt2⟩ (by omega) ?_
    exact .of rfl rfl rfl rfl rfl ⟨⟨_, rfl, .refl _⟩, rfl, ⟨_, rfl, .refl _⟩, rfl, ⟨_, rfl, .refl _⟩, rfl, ⟨_, rfl, .refl _⟩, rfl, trivial⟩ ⟨⟨rfl, rfl, _, rfl, .refl _⟩, ⟨rfl, rfl, _, rfl, .refl _⟩, ⟨rfl, rfl, _, rfl, .refl _⟩, trivial⟩
  · have he : i = min ops.length 60 := by
      rw [Bool.and_eq_false_iff] at h3
      rcases h3 with h3 | h3 <;> have := of_decide_eq_false h3 <;> omega
    subst he
    refine wc_exit ?_
    refine seq_x ?_
    refine loop_x ?_
    refine blk_x ?_
    refine seq_n ?_
    refine wc_seq ?_
    refine wc_region ?_
    refine reg_quiet rfl (load_box tab_ok rfl rfl rfl rfl) ?_
    refine reg_store (store_row tab_ok rfl rfl rfl ⟨_, ⟨rfl, rfl, rfl⟩, rfl⟩ rfl) ?_
    refine reg_nil ?_
    refine seq_n ?_
    refine wc_ret ?_
    exact ⟨trivial, _, rfl, [], .of rfl rfl rfl rfl rfl ⟨⟨_, rfl, AVLe.of_eq rfl⟩, rfl, trivial⟩ trivial⟩
end Go.Proofs.Ytfmemklkkmiicaa
