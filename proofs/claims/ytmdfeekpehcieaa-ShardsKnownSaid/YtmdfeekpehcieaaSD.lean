/- Shards: valid shards, and the examples of the chapter. -/
import Derived.Test.YtmdfeekpehcieaaSC
import Derived.Test.YtmdfeekpehcieaaEngC

set_option linter.unusedVariables false
set_option linter.unusedSimpArgs false

/- Shards: same, act, sample. -/
namespace Go.Proofs.Ytmdfeekpehcieaa
open Go.Eng
set_option maxHeartbeats 2000000
attribute [local irreducible] WC RegS RegD SeqQ BlkQ ScoQ RegK CutK Sat SatN FnIs LoopQ StepIs OpIs
abbrev sameR (a b : List Frame) (ex : Bool) : List (Nat × Row) := [(0, .ds 39 40 true encFrame a), (1, .ds 39 40 ex encFrame b)]
theorem int_plain (k : IntKind) (n : Int) : PlainRes (.int k n) [] := .of trivial plain_rows_nil
theorem lawsame_is (a b : List Frame) (h g : Int) (ex : Bool) (hla : a.length ≤ 1000000) (hlb : b.length ≤ 1000000) : FnIs Try.prog 35 [ownS 0 a.length h, ownS 1 b.length g] (sameR a b ex) (.int .i64 (if (decide (h = g) && decide (a = b)) = true then 1 else 0)) (sameR a b ex) := by
  have hpl := int_plain .i64 (if (decide (h = g) && decide (a = b)) = true then 1 else 0)
  have hne : (!decide ((a.length : Int) = a.length)) = false := by simp
  refine fnIs_of tab_ok Try.func35 rfl rfl rfl ?_
  refine wc_seq ?_
  refine wc_region ?_
  refine reg_new (step_C tab_ok (fun K hk => hk)) rfl ?_
  refine reg_new (step_C tab_ok (fun K hk => hk)) rfl ?_
  refine reg_quiet rfl (step_C tab_ok (fun K hk => hk)) ?_
  refine reg_nil ?_
  refine seq_n ?_
  refine wc_seq ?_
  refine wc_seq ?_
  refine wc_region ?_
  refine reg_quiet rfl (step_C tab_ok (fun K hk => hk)) ?_
  refine reg_quiet rfl (load_box tab_ok rfl rfl rfl rfl) ?_
  refine reg_quiet rfl (cap_exact tab_ok rfl rfl rfl) ?_
  refine reg_quiet rfl (step_C tab_ok (fun K hk => hk)) ?_
  refine reg_quiet rfl (load_box tab_ok rfl rfl rfl rfl) ?_
  refine reg_quiet rfl (len_own tab_ok rfl rfl) ?_
  refine reg_quiet rfl (step_C tab_ok (fun K hk => hk)) ?_
  refine reg_nil ?_
  refine seq_n ?_
  refine wc_false rfl (by assumption) ?_
  refine wc_skip ?_
  refine seq_n ?_
  refine wc_seq ?_
  refine wc_region ?_
  refine reg_quiet rfl (load_box tab_ok rfl rfl rfl rfl) ?_
  refine reg_quiet rfl (load_box tab_ok rfl rfl rfl rfl) ?_
  refine reg_quiet rfl (call_r (refshsame_is a b h g hla hlb) rfl rfl (arg_S rfl rfl (arg_S rfl rfl arg_nil)) (.inr hpl) (fun _ => rfl)) ?_
  refine reg_quiet rfl (step_C tab_ok (fun K hk => hk)) ?_
  refine reg_nil ?_
  refine seq_n ?_
  refine wc_ret ?_
  exact ⟨trivial, [], .of rfl rfl rfl rfl rfl ⟨⟨_, rfl, AVLe.of_eq rfl⟩, rfl, trivial⟩ ⟨⟨rfl, rfl, _, rfl, .refl _⟩, ⟨rfl, rfl, _, rfl, .refl _⟩, trivial⟩⟩
theorem lawsame_zero : FnIs Try.prog 35 [.d zeroS, .d zeroS] [] (.int .i64 1) [] := by
  refine fnIs_of tab_ok Try.func35 rfl rfl rfl ?_
  refine wc_seq ?_
  refine wc_region ?_
  refine reg_new (step_C tab_ok (fun K hk => hk)) rfl ?_
  refine reg_new (step_C tab_ok (fun K hk => hk)) rfl ?_
  refine reg_quiet rfl (step_C tab_ok (fun K hk => hk)) ?_
  refine reg_nil ?_
  refine seq_n ?_
  refine wc_seq ?_
  refine wc_seq ?_
  refine wc_region ?_
  refine reg_quiet rfl (step_C tab_ok (fun K hk => hk)) ?_
  refine reg_quiet rfl (load_box tab_ok rfl rfl ⟨_, rfl, rfl⟩ rfl) ?_
  refine reg_quiet rfl (cap_nil tab_ok rfl rfl) ?_
  refine reg_quiet rfl (step_C tab_ok (fun K hk => hk)) ?_
  refine reg_quiet rfl (load_box tab_ok rfl rfl ⟨_, rfl, rfl⟩ rfl) ?_
  refine reg_quiet rfl (len_nil tab_ok rfl rfl) ?_
  refine reg_quiet rfl (step_C tab_ok (fun K hk => hk)) ?_
  refine reg_nil ?_
  refine seq_n ?_
  refine wc_false rfl rfl ?_
  refine wc_skip ?_
  refine seq_n ?_
  refine wc_seq ?_
  refine wc_region ?_
  refine reg_quiet rfl (load_box tab_ok rfl rfl rfl rfl) ?_
  refine reg_quiet rfl (load_box tab_ok rfl rfl rfl rfl) ?_
  refine reg_quiet rfl (call_r (refshsame_is [] [] 0 0 (Nat.zero_le _) (Nat.zero_le _)) rfl rfl (arg_zeroS (arg_zeroS arg_nil)) (.inl rfl) (fun _ => rfl)) ?_
  refine reg_quiet rfl (step_C tab_ok (fun K hk => hk)) ?_
  refine reg_nil ?_
  refine seq_n ?_
  refine wc_ret ?_
  exact ⟨trivial, [], .of rfl rfl rfl rfl rfl ⟨⟨_, rfl, AVLe.of_eq rfl⟩, rfl, trivial⟩ trivial⟩
theorem act0_bad (data : List Int) (n : Nonce) (l : List Frame) (h j : Int) (he : actE installP l h j ≠ 0) : FnIs Try.prog 47 (actArgs l h j 0 data n) [] (err2 (actE installP l h j)) [] := by
  refine fnIs_of tab_ok Try.func47 rfl rfl rfl ?_
  refine wc_seq ?_
  refine wc_region ?_
  refine reg_new (step_C tab_ok (fun K hk => hk)) rfl ?_
  refine reg_new (step_C tab_ok (fun K hk => hk)) rfl ?_
  refine reg_new (step_C tab_ok (fun K hk => hk)) rfl ?_
  refine reg_new (step_C tab_ok (fun K hk => hk)) rfl ?_
  refine reg_quiet rfl (step_C tab_ok (fun K hk => hk)) ?_
  refine reg_nil ?_
  refine seq_n ?_
  refine wc_seq ?_
  refine wc_seq ?_
  refine wc_region ?_
  refine reg_quiet rfl (step_C tab_ok (fun K hk => hk)) ?_
  refine reg_nil ?_
  refine seq_n ?_
  refine wc_block ?_
  refine wc_seq ?_
  refine wc_region ?_
  refine reg_quiet rfl (step_C tab_ok (fun K hk => hk)) ?_
  refine reg_quiet rfl (step_C tab_ok (fun K hk => hk)) ?_
  refine reg_nil ?_
  refine seq_n ?_
  refine wc_true rfl rfl ?_
  refine wc_seq ?_
  refine wc_region ?_
  refine reg_quiet rfl (load_box tab_ok rfl rfl rfl rfl) ?_
  refine reg_quiet rfl (step_C tab_ok (fun K hk => hk)) ?_
  refine reg_quiet rfl (load_box tab_ok rfl rfl rfl rfl) ?_
  refine reg_quiet rfl (call_r (install_bad data l h j he) rfl rfl (arg_e (arg_e (arg_e arg_nil))) (.inl rfl) (fun _ => rfl)) ?_
  refine reg_quiet rfl (step_C tab_ok (fun K hk => hk)) ?_
  refine reg_quiet rfl (step_C tab_ok (fun K hk => hk)) ?_
  refine reg_store (store_row tab_ok rfl rfl rfl ⟨_, ⟨rfl, rfl, rfl⟩, rfl⟩ rfl) ?_
  refine reg_quiet rfl (step_C tab_ok (fun K hk => hk)) ?_
  refine reg_nil ?_
  refine seq_n ?_
  refine wc_ret ?_
  refine blk_r ?_
  refine seq_r ?_
  exact ⟨trivial, _, rfl, [], .of rfl rfl rfl rfl rfl ⟨⟨_, rfl, AVLe.of_eq rfl⟩, rfl, trivial⟩ trivial⟩
theorem act0_good (data : List Int) (n : Nonce) (l : List Frame) (h j : Int) (he : actE installP l h j = 0) : FnIs Try.prog 47 (actArgs l h j 0 data n) [] (ok2 l.length h) [(64, .ds 39 40 true encFrame (updL (installG data) l j))] := by
  refine fnIs_of tab_ok Try.func47 rfl rfl rfl ?_
  refine wc_seq ?_
  refine wc_region ?_
  refine reg_new (step_C tab_ok (fun K hk => hk)) rfl ?_
  refine reg_new (step_C tab_ok (fun K hk => hk)) rfl ?_
  refine reg_new (step_C tab_ok (fun K hk => hk)) rfl ?_
  refine reg_new (step_C tab_ok (fun K hk => hk)) rfl ?_
  refine reg_quiet rfl (step_C tab_ok (fun K hk => hk)) ?_
  refine reg_nil ?_
  refine seq_n ?_
  refine wc_seq ?_
  refine wc_seq ?_
  refine wc_region ?_
  refine reg_quiet rfl (step_C tab_ok (fun K hk => hk)) ?_
  refine reg_nil ?_
  refine seq_n ?_
  refine wc_block ?_
  refine wc_seq ?_
  refine wc_region ?_
  refine reg_quiet rfl (step_C tab_ok (fun K hk => hk)) ?_
  refine reg_quiet rfl (step_C tab_ok (fun K hk => hk)) ?_
  refine reg_nil ?_
  refine seq_n ?_
  refine wc_true rfl rfl ?_
  refine wc_seq ?_
  refine wc_region ?_
  refine reg_quiet rfl (load_box tab_ok rfl rfl rfl rfl) ?_
  refine reg_quiet rfl (step_C tab_ok (fun K hk => hk)) ?_
  refine reg_quiet rfl (load_box tab_ok rfl rfl rfl rfl) ?_
  refine reg_new (call_new (install_good data l h j he) rfl rfl (arg_e (arg_e (arg_e arg_nil))) (.inl rfl) rfl rfl) rfl ?_
  refine reg_quiet rfl (step_C tab_ok (fun K hk => hk)) ?_
  refine reg_quiet rfl (step_C tab_ok (fun K hk => hk)) ?_
  refine reg_store (store_row tab_ok rfl rfl rfl ⟨_, ⟨rfl, rfl, rfl⟩, rfl⟩ rfl) ?_
  refine reg_quiet rfl (step_C tab_ok (fun K hk => hk)) ?_
  refine reg_nil ?_
  refine seq_n ?_
  refine wc_ret ?_
  refine blk_r ?_
  refine seq_r ?_
  exact ⟨trivial, _, rfl, [(64, some 152)], .of rfl rfl rfl rfl rfl ⟨⟨_, rfl, AVLe.of_eq rfl⟩, rfl, trivial⟩ ⟨⟨rfl, rfl, _, rfl, .refl _⟩, trivial⟩⟩
theorem act1_bad (data : List Int) (n : Nonce) (l : List Frame) (h j : Int) (he : actE hitP l h j ≠ 0) : FnIs Try.prog 47 (actArgs l h j 1 data n) [] (err2 (actE hitP l h j)) [] := by
  refine fnIs_of tab_ok Try.func47 rfl rfl rfl ?_
  refine wc_seq ?_
  refine wc_region ?_
  refine reg_new (step_C tab_ok (fun K hk => hk)) rfl ?_
  refine reg_new (step_C tab_ok (fun K hk => hk)) rfl ?_
  refine reg_new (step_C tab_ok (fun K hk => hk)) rfl ?_
  refine reg_new (step_C tab_ok (fun K hk => hk)) rfl ?_
  refine reg_quiet rfl (step_C tab_ok (fun K hk => hk)) ?_
  refine reg_nil ?_
  refine seq_n ?_
  refine wc_seq ?_
  refine wc_seq ?_
  refine wc_region ?_
  refine reg_quiet rfl (step_C tab_ok (fun K hk => hk)) ?_
  refine reg_nil ?_
  refine seq_n ?_
  refine wc_block ?_
  refine wc_seq ?_
  refine wc_region ?_
  refine reg_quiet rfl (step_C tab_ok (fun K hk => hk)) ?_
  refine reg_quiet rfl (step_C tab_ok (fun K hk => hk)) ?_
  refine reg_nil ?_
  refine seq_n ?_
  refine wc_false rfl rfl ?_
  refine wc_seq ?_
  refine wc_region ?_
  refine reg_quiet rfl (step_C tab_ok (fun K hk => hk)) ?_
  refine reg_quiet rfl (step_C tab_ok (fun K hk => hk)) ?_
  refine reg_nil ?_
  refine seq_n ?_
  refine wc_true rfl rfl ?_
  refine wc_seq ?_
  refine wc_region ?_
  refine reg_quiet rfl (load_box tab_ok rfl rfl rfl rfl) ?_
  refine reg_quiet rfl (step_C tab_ok (fun K hk => hk)) ?_
  refine reg_quiet rfl (call_r (hit_bad l h j he) rfl rfl (arg_e (arg_e arg_nil)) (.inl rfl) (fun _ => rfl)) ?_
  refine reg_quiet rfl (step_C tab_ok (fun K hk => hk)) ?_
  refine reg_quiet rfl (step_C tab_ok (fun K hk => hk)) ?_
  refine reg_store (store_row tab_ok rfl rfl rfl ⟨_, ⟨rfl, rfl, rfl⟩, rfl⟩ rfl) ?_
  refine reg_quiet rfl (step_C tab_ok (fun K hk => hk)) ?_
  refine reg_nil ?_
  refine seq_n ?_
  refine wc_ret ?_
  refine blk_r ?_
  refine seq_r ?_
  exact ⟨trivial, _, rfl, [], .of rfl rfl rfl rfl rfl ⟨⟨_, rfl, AVLe.of_eq rfl⟩, rfl, trivial⟩ trivial⟩
theorem act1_good (data : List Int) (n : Nonce) (l : List Frame) (h j : Int) (he : actE hitP l h j = 0) : FnIs Try.prog 47 (actArgs l h j 1 data n) [] (ok2 l.length h) [(64, .ds 39 40 true encFrame (updL (hitG) l j))] := by
  refine fnIs_of tab_ok Try.func47 rfl rfl rfl ?_
  refine wc_seq ?_
  refine wc_region ?_
  refine reg_new (step_C tab_ok (fun K hk => hk)) rfl ?_
  refine reg_new (step_C tab_ok (fun K hk => hk)) rfl ?_
  refine reg_new (step_C tab_ok (fun K hk => hk)) rfl ?_
  refine reg_new (step_C tab_ok (fun K hk => hk)) rfl ?_
  refine reg_quiet rfl (step_C tab_ok (fun K hk => hk)) ?_
  refine reg_nil ?_
  refine seq_n ?_
  refine wc_seq ?_
  refine wc_seq ?_
  refine wc_region ?_
  refine reg_quiet rfl (step_C tab_ok (fun K hk => hk)) ?_
  refine reg_nil ?_
  refine seq_n ?_
  refine wc_block ?_
  refine wc_seq ?_
  refine wc_region ?_
  refine reg_quiet rfl (step_C tab_ok (fun K hk => hk)) ?_
  refine reg_quiet rfl (step_C tab_ok (fun K hk => hk)) ?_
  refine reg_nil ?_
  refine seq_n ?_
  refine wc_false rfl rfl ?_
  refine wc_seq ?_
  refine wc_region ?_
  refine reg_quiet rfl (step_C tab_ok (fun K hk => hk)) ?_
  refine reg_quiet rfl (step_C tab_ok (fun K hk => hk)) ?_
  refine reg_nil ?_
  refine seq_n ?_
  refine wc_true rfl rfl ?_
  refine wc_seq ?_
  refine wc_region ?_
  refine reg_quiet rfl (load_box tab_ok rfl rfl rfl rfl) ?_
  refine reg_quiet rfl (step_C tab_ok (fun K hk => hk)) ?_
  refine reg_new (call_new (hit_good l h j he) rfl rfl (arg_e (arg_e arg_nil)) (.inl rfl) rfl rfl) rfl ?_
  refine reg_quiet rfl (step_C tab_ok (fun K hk => hk)) ?_
  refine reg_quiet rfl (step_C tab_ok (fun K hk => hk)) ?_
  refine reg_store (store_row tab_ok rfl rfl rfl ⟨_, ⟨rfl, rfl, rfl⟩, rfl⟩ rfl) ?_
  refine reg_quiet rfl (step_C tab_ok (fun K hk => hk)) ?_
  refine reg_nil ?_
  refine seq_n ?_
  refine wc_ret ?_
  refine blk_r ?_
  refine seq_r ?_
  exact ⟨trivial, _, rfl, [(64, some 160)], .of rfl rfl rfl rfl rfl ⟨⟨_, rfl, AVLe.of_eq rfl⟩, rfl, trivial⟩ ⟨⟨rfl, rfl, _, rfl, .refl _⟩, trivial⟩⟩
theorem act2_bad (data : List Int) (n : Nonce) (l : List Frame) (h j : Int) (he : actE writeP l h j ≠ 0) : FnIs Try.prog 47 (actArgs l h j 2 data n) [] (err2 (actE writeP l h j)) [] := by
  refine fnIs_of tab_ok Try.func47 rfl rfl rfl ?_
  refine wc_seq ?_
  refine wc_region ?_
  refine reg_new (step_C tab_ok (fun K hk => hk)) rfl ?_
  refine reg_new (step_C tab_ok (fun K hk => hk)) rfl ?_
  refine reg_new (step_C tab_ok (fun K hk => hk)) rfl ?_
  refine reg_new (step_C tab_ok (fun K hk => hk)) rfl ?_
  refine reg_quiet rfl (step_C tab_ok (fun K hk => hk)) ?_
  refine reg_nil ?_
  refine seq_n ?_
  refine wc_seq ?_
  refine wc_seq ?_
  refine wc_region ?_
  refine reg_quiet rfl (step_C tab_ok (fun K hk => hk)) ?_
  refine reg_nil ?_
  refine seq_n ?_
  refine wc_block ?_
  refine wc_seq ?_
  refine wc_region ?_
  refine reg_quiet rfl (step_C tab_ok (fun K hk => hk)) ?_
  refine reg_quiet rfl (step_C tab_ok (fun K hk => hk)) ?_
  refine reg_nil ?_
  refine seq_n ?_
  refine wc_false rfl rfl ?_
  refine wc_seq ?_
  refine wc_region ?_
  refine reg_quiet rfl (step_C tab_ok (fun K hk => hk)) ?_
  refine reg_quiet rfl (step_C tab_ok (fun K hk => hk)) ?_
  refine reg_nil ?_
  refine seq_n ?_
  refine wc_false rfl rfl ?_
  refine wc_seq ?_
  refine wc_region ?_
  refine reg_quiet rfl (step_C tab_ok (fun K hk => hk)) ?_
  refine reg_quiet rfl (step_C tab_ok (fun K hk => hk)) ?_
  refine reg_nil ?_
  refine seq_n ?_
  refine wc_true rfl rfl ?_
  refine wc_seq ?_
  refine wc_region ?_
  refine reg_quiet rfl (load_box tab_ok rfl rfl rfl rfl) ?_
  refine reg_quiet rfl (step_C tab_ok (fun K hk => hk)) ?_
  refine reg_quiet rfl (load_box tab_ok rfl rfl rfl rfl) ?_
  refine reg_quiet rfl (load_box tab_ok rfl rfl rfl rfl) ?_
  refine reg_quiet rfl (call_r (write_bad data n l h j he) rfl rfl (arg_e (arg_e (arg_e (arg_e arg_nil)))) (.inl rfl) (fun _ => rfl)) ?_
  refine reg_quiet rfl (step_C tab_ok (fun K hk => hk)) ?_
  refine reg_quiet rfl (step_C tab_ok (fun K hk => hk)) ?_
  refine reg_store (store_row tab_ok rfl rfl rfl ⟨_, ⟨rfl, rfl, rfl⟩, rfl⟩ rfl) ?_
  refine reg_quiet rfl (step_C tab_ok (fun K hk => hk)) ?_
  refine reg_nil ?_
  refine seq_n ?_
  refine wc_ret ?_
  refine blk_r ?_
  refine seq_r ?_
  exact ⟨trivial, _, rfl, [], .of rfl rfl rfl rfl rfl ⟨⟨_, rfl, AVLe.of_eq rfl⟩, rfl, trivial⟩ trivial⟩
theorem act2_good (data : List Int) (n : Nonce) (l : List Frame) (h j : Int) (he : actE writeP l h j = 0) : FnIs Try.prog 47 (actArgs l h j 2 data n) [] (ok2 l.length h) [(64, .ds 39 40 true encFrame (updL (writeG data n) l j))] := by
  refine fnIs_of tab_ok Try.func47 rfl rfl rfl ?_
  refine wc_seq ?_
  refine wc_region ?_
  refine reg_new (step_C tab_ok (fun K hk => hk)) rfl ?_
  refine reg_new (step_C tab_ok (fun K hk => hk)) rfl ?_
  refine reg_new (step_C tab_ok (fun K hk => hk)) rfl ?_
  refine reg_new (step_C tab_ok (fun K hk => hk)) rfl ?_
  refine reg_quiet rfl (step_C tab_ok (fun K hk => hk)) ?_
  refine reg_nil ?_
  refine seq_n ?_
  refine wc_seq ?_
  refine wc_seq ?_
  refine wc_region ?_
  refine reg_quiet rfl (step_C tab_ok (fun K hk => hk)) ?_
  refine reg_nil ?_
  refine seq_n ?_
  refine wc_block ?_
  refine wc_seq ?_
  refine wc_region ?_
  refine reg_quiet rfl (step_C tab_ok (fun K hk => hk)) ?_
  refine reg_quiet rfl (step_C tab_ok (fun K hk => hk)) ?_
  refine reg_nil ?_
  refine seq_n ?_
  refine wc_false rfl rfl ?_
  refine wc_seq ?_
  refine wc_region ?_
  refine reg_quiet rfl (step_C tab_ok (fun K hk => hk)) ?_
  refine reg_quiet rfl (step_C tab_ok (fun K hk => hk)) ?_
  refine reg_nil ?_
  refine seq_n ?_
  refine wc_false rfl rfl ?_
  refine wc_seq ?_
  refine wc_region ?_
  refine reg_quiet rfl (step_C tab_ok (fun K hk => hk)) ?_
  refine reg_quiet rfl (step_C tab_ok (fun K hk => hk)) ?_
  refine reg_nil ?_
  refine seq_n ?_
  refine wc_true rfl rfl ?_
  refine wc_seq ?_
  refine wc_region ?_
  refine reg_quiet rfl (load_box tab_ok rfl rfl rfl rfl) ?_
  refine reg_quiet rfl (step_C tab_ok (fun K hk => hk)) ?_
  refine reg_quiet rfl (load_box tab_ok rfl rfl rfl rfl) ?_
  refine reg_quiet rfl (load_box tab_ok rfl rfl rfl rfl) ?_
  refine reg_new (call_new (write_good data n l h j he) rfl rfl (arg_e (arg_e (arg_e (arg_e arg_nil)))) (.inl rfl) rfl rfl) rfl ?_
  refine reg_quiet rfl (step_C tab_ok (fun K hk => hk)) ?_
  refine reg_quiet rfl (step_C tab_ok (fun K hk => hk)) ?_
  refine reg_store (store_row tab_ok rfl rfl rfl ⟨_, ⟨rfl, rfl, rfl⟩, rfl⟩ rfl) ?_
  refine reg_quiet rfl (step_C tab_ok (fun K hk => hk)) ?_
  refine reg_nil ?_
  refine seq_n ?_
  refine wc_ret ?_
  refine blk_r ?_
  refine seq_r ?_
  exact ⟨trivial, _, rfl, [(64, some 192)], .of rfl rfl rfl rfl rfl ⟨⟨_, rfl, AVLe.of_eq rfl⟩, rfl, trivial⟩ ⟨⟨rfl, rfl, _, rfl, .refl _⟩, trivial⟩⟩
theorem act3_bad (data : List Int) (n : Nonce) (l : List Frame) (h j : Int) (he : actE cleanP l h j ≠ 0) : FnIs Try.prog 47 (actArgs l h j 3 data n) [] (err2 (actE cleanP l h j)) [] := by
  refine fnIs_of tab_ok Try.func47 rfl rfl rfl ?_
  refine wc_seq ?_
  refine wc_region ?_
  refine reg_new (step_C tab_ok (fun K hk => hk)) rfl ?_
  refine reg_new (step_C tab_ok (fun K hk => hk)) rfl ?_
  refine reg_new (step_C tab_ok (fun K hk => hk)) rfl ?_
  refine reg_new (step_C tab_ok (fun K hk => hk)) rfl ?_
  refine reg_quiet rfl (step_C tab_ok (fun K hk => hk)) ?_
  refine reg_nil ?_
  refine seq_n ?_
  refine wc_seq ?_
  refine wc_seq ?_
  refine wc_region ?_
  refine reg_quiet rfl (step_C tab_ok (fun K hk => hk)) ?_
  refine reg_nil ?_
  refine seq_n ?_
  refine wc_block ?_
  refine wc_seq ?_
  refine wc_region ?_
  refine reg_quiet rfl (step_C tab_ok (fun K hk => hk)) ?_
  refine reg_quiet rfl (step_C tab_ok (fun K hk => hk)) ?_
  refine reg_nil ?_
  refine seq_n ?_
  refine wc_false rfl rfl ?_
  refine wc_seq ?_
  refine wc_region ?_
  refine reg_quiet rfl (step_C tab_ok (fun K hk => hk)) ?_
  refine reg_quiet rfl (step_C tab_ok (fun K hk => hk)) ?_
  refine reg_nil ?_
  refine seq_n ?_
  refine wc_false rfl rfl ?_
  refine wc_seq ?_
  refine wc_region ?_
  refine reg_quiet rfl (step_C tab_ok (fun K hk => hk)) ?_
  refine reg_quiet rfl (step_C tab_ok (fun K hk => hk)) ?_
  refine reg_nil ?_
  refine seq_n ?_
  refine wc_false rfl rfl ?_
  refine wc_seq ?_
  refine wc_region ?_
  refine reg_quiet rfl (step_C tab_ok (fun K hk => hk)) ?_
  refine reg_quiet rfl (step_C tab_ok (fun K hk => hk)) ?_
  refine reg_nil ?_
  refine seq_n ?_
  refine wc_true rfl rfl ?_
  refine wc_seq ?_
  refine wc_region ?_
  refine reg_quiet rfl (load_box tab_ok rfl rfl rfl rfl) ?_
  refine reg_quiet rfl (step_C tab_ok (fun K hk => hk)) ?_
  refine reg_quiet rfl (call_r (clean_bad l h j he) rfl rfl (arg_e (arg_e arg_nil)) (.inl rfl) (fun _ => rfl)) ?_
  refine reg_quiet rfl (step_C tab_ok (fun K hk => hk)) ?_
  refine reg_quiet rfl (step_C tab_ok (fun K hk => hk)) ?_
  refine reg_store (store_row tab_ok rfl rfl rfl ⟨_, ⟨rfl, rfl, rfl⟩, rfl⟩ rfl) ?_
  refine reg_quiet rfl (step_C tab_ok (fun K hk => hk)) ?_
  refine reg_nil ?_
  refine seq_n ?_
  refine wc_ret ?_
  refine blk_r ?_
  refine seq_r ?_
  exact ⟨trivial, _, rfl, [], .of rfl rfl rfl rfl rfl ⟨⟨_, rfl, AVLe.of_eq rfl⟩, rfl, trivial⟩ trivial⟩
theorem act3_good (data : List Int) (n : Nonce) (l : List Frame) (h j : Int) (he : actE cleanP l h j = 0) : FnIs Try.prog 47 (actArgs l h j 3 data n) [] (ok2 l.length h) [(64, .ds 39 40 true encFrame (updL (cleanG) l j))] := by
  refine fnIs_of tab_ok Try.func47 rfl rfl rfl ?_
  refine wc_seq ?_
  refine wc_region ?_
  refine reg_new (step_C tab_ok (fun K hk => hk)) rfl ?_
  refine reg_new (step_C tab_ok (fun K hk => hk)) rfl ?_
  refine reg_new (step_C tab_ok (fun K hk => hk)) rfl ?_
  refine reg_new (step_C tab_ok (fun K hk => hk)) rfl ?_
  refine reg_quiet rfl (step_C tab_ok (fun K hk => hk)) ?_
  refine reg_nil ?_
  refine seq_n ?_
  refine wc_seq ?_
  refine wc_seq ?_
  refine wc_region ?_
  refine reg_quiet rfl (step_C tab_ok (fun K hk => hk)) ?_
  refine reg_nil ?_
  refine seq_n ?_
  refine wc_block ?_
  refine wc_seq ?_
  refine wc_region ?_
  refine reg_quiet rfl (step_C tab_ok (fun K hk => hk)) ?_
  refine reg_quiet rfl (step_C tab_ok (fun K hk => hk)) ?_
  refine reg_nil ?_
  refine seq_n ?_
  refine wc_false rfl rfl ?_
  refine wc_seq ?_
  refine wc_region ?_
  refine reg_quiet rfl (step_C tab_ok (fun K hk => hk)) ?_
  refine reg_quiet rfl (step_C tab_ok (fun K hk => hk)) ?_
  refine reg_nil ?_
  refine seq_n ?_
  refine wc_false rfl rfl ?_
  refine wc_seq ?_
  refine wc_region ?_
  refine reg_quiet rfl (step_C tab_ok (fun K hk => hk)) ?_
  refine reg_quiet rfl (step_C tab_ok (fun K hk => hk)) ?_
  refine reg_nil ?_
  refine seq_n ?_
  refine wc_false rfl rfl ?_
  refine wc_seq ?_
  refine wc_region ?_
  refine reg_quiet rfl (step_C tab_ok (fun K hk => hk)) ?_
  refine reg_quiet rfl (step_C tab_ok (fun K hk => hk)) ?_
  refine reg_nil ?_
  refine seq_n ?_
  refine wc_true rfl rfl ?_
  refine wc_seq ?_
  refine wc_region ?_
  refine reg_quiet rfl (load_box tab_ok rfl rfl rfl rfl) ?_
  refine reg_quiet rfl (step_C tab_ok (fun K hk => hk)) ?_
  refine reg_new (call_new (clean_good l h j he) rfl rfl (arg_e (arg_e arg_nil)) (.inl rfl) rfl rfl) rfl ?_
  refine reg_quiet rfl (step_C tab_ok (fun K hk => hk)) ?_
  refine reg_quiet rfl (step_C tab_ok (fun K hk => hk)) ?_
  refine reg_store (store_row tab_ok rfl rfl rfl ⟨_, ⟨rfl, rfl, rfl⟩, rfl⟩ rfl) ?_
  refine reg_quiet rfl (step_C tab_ok (fun K hk => hk)) ?_
  refine reg_nil ?_
  refine seq_n ?_
  refine wc_ret ?_
  refine blk_r ?_
  refine seq_r ?_
  exact ⟨trivial, _, rfl, [(64, some 192)], .of rfl rfl rfl rfl rfl ⟨⟨_, rfl, AVLe.of_eq rfl⟩, rfl, trivial⟩ ⟨⟨rfl, rfl, _, rfl, .refl _⟩, trivial⟩⟩
theorem act4_bad (data : List Int) (n : Nonce) (l : List Frame) (h j : Int) (he : actE backP l h j ≠ 0) : FnIs Try.prog 47 (actArgs l h j 4 data n) [] (err2 (actE backP l h j)) [] := by
  refine fnIs_of tab_ok Try.func47 rfl rfl rfl ?_
  refine wc_seq ?_
  refine wc_region ?_
  refine reg_new (step_C tab_ok (fun K hk => hk)) rfl ?_
  refine reg_new (step_C tab_ok (fun K hk => hk)) rfl ?_
  refine reg_new (step_C tab_ok (fun K hk => hk)) rfl ?_
  refine reg_new (step_C tab_ok (fun K hk => hk)) rfl ?_
  refine reg_quiet rfl (step_C tab_ok (fun K hk => hk)) ?_
  refine reg_nil ?_
  refine seq_n ?_
  refine wc_seq ?_
  refine wc_seq ?_
  refine wc_region ?_
  refine reg_quiet rfl (step_C tab_ok (fun K hk => hk)) ?_
  refine reg_nil ?_
  refine seq_n ?_
  refine wc_block ?_
  refine wc_seq ?_
  refine wc_region ?_
  refine reg_quiet rfl (step_C tab_ok (fun K hk => hk)) ?_
  refine reg_quiet rfl (step_C tab_ok (fun K hk => hk)) ?_
  refine reg_nil ?_
  refine seq_n ?_
  refine wc_false rfl rfl ?_
  refine wc_seq ?_
  refine wc_region ?_
  refine reg_quiet rfl (step_C tab_ok (fun K hk => hk)) ?_
  refine reg_quiet rfl (step_C tab_ok (fun K hk => hk)) ?_
  refine reg_nil ?_
  refine seq_n ?_
  refine wc_false rfl rfl ?_
  refine wc_seq ?_
  refine wc_region ?_
  refine reg_quiet rfl (step_C tab_ok (fun K hk => hk)) ?_
  refine reg_quiet rfl (step_C tab_ok (fun K hk => hk)) ?_
  refine reg_nil ?_
  refine seq_n ?_
  refine wc_false rfl rfl ?_
  refine wc_seq ?_
  refine wc_region ?_
  refine reg_quiet rfl (step_C tab_ok (fun K hk => hk)) ?_
  refine reg_quiet rfl (step_C tab_ok (fun K hk => hk)) ?_
  refine reg_nil ?_
  refine seq_n ?_
  refine wc_false rfl rfl ?_
  refine wc_seq ?_
  refine wc_region ?_
  refine reg_quiet rfl (step_C tab_ok (fun K hk => hk)) ?_
  refine reg_quiet rfl (step_C tab_ok (fun K hk => hk)) ?_
  refine reg_nil ?_
  refine seq_n ?_
  refine wc_true rfl rfl ?_
  refine wc_seq ?_
  refine wc_region ?_
  refine reg_quiet rfl (load_box tab_ok rfl rfl rfl rfl) ?_
  refine reg_quiet rfl (step_C tab_ok (fun K hk => hk)) ?_
  refine reg_quiet rfl (call_r (back_bad l h j he) rfl rfl (arg_e (arg_e arg_nil)) (.inl rfl) (fun _ => rfl)) ?_
  refine reg_quiet rfl (step_C tab_ok (fun K hk => hk)) ?_
  refine reg_quiet rfl (step_C tab_ok (fun K hk => hk)) ?_
  refine reg_store (store_row tab_ok rfl rfl rfl ⟨_, ⟨rfl, rfl, rfl⟩, rfl⟩ rfl) ?_
  refine reg_quiet rfl (step_C tab_ok (fun K hk => hk)) ?_
  refine reg_nil ?_
  refine seq_n ?_
  refine wc_ret ?_
  refine blk_r ?_
  refine seq_r ?_
  exact ⟨trivial, _, rfl, [], .of rfl rfl rfl rfl rfl ⟨⟨_, rfl, AVLe.of_eq rfl⟩, rfl, trivial⟩ trivial⟩
theorem act4_good (data : List Int) (n : Nonce) (l : List Frame) (h j : Int) (he : actE backP l h j = 0) : FnIs Try.prog 47 (actArgs l h j 4 data n) [] (ok2 l.length h) [(64, .ds 39 40 true encFrame (updL (backG) l j))] := by
  refine fnIs_of tab_ok Try.func47 rfl rfl rfl ?_
  refine wc_seq ?_
  refine wc_region ?_
  refine reg_new (step_C tab_ok (fun K hk => hk)) rfl ?_
  refine reg_new (step_C tab_ok (fun K hk => hk)) rfl ?_
  refine reg_new (step_C tab_ok (fun K hk => hk)) rfl ?_
  refine reg_new (step_C tab_ok (fun K hk => hk)) rfl ?_
  refine reg_quiet rfl (step_C tab_ok (fun K hk => hk)) ?_
  refine reg_nil ?_
  refine seq_n ?_
  refine wc_seq ?_
  refine wc_seq ?_
  refine wc_region ?_
  refine reg_quiet rfl (step_C tab_ok (fun K hk => hk)) ?_
  refine reg_nil ?_
  refine seq_n ?_
  refine wc_block ?_
  refine wc_seq ?_
  refine wc_region ?_
  refine reg_quiet rfl (step_C tab_ok (fun K hk => hk)) ?_
  refine reg_quiet rfl (step_C tab_ok (fun K hk => hk)) ?_
  refine reg_nil ?_
  refine seq_n ?_
  refine wc_false rfl rfl ?_
  refine wc_seq ?_
  refine wc_region ?_
  refine reg_quiet rfl (step_C tab_ok (fun K hk => hk)) ?_
  refine reg_quiet rfl (step_C tab_ok (fun K hk => hk)) ?_
  refine reg_nil ?_
  refine seq_n ?_
  refine wc_false rfl rfl ?_
  refine wc_seq ?_
  refine wc_region ?_
  refine reg_quiet rfl (step_C tab_ok (fun K hk => hk)) ?_
  refine reg_quiet rfl (step_C tab_ok (fun K hk => hk)) ?_
  refine reg_nil ?_
  refine seq_n ?_
  refine wc_false rfl rfl ?_
  refine wc_seq ?_
  refine wc_region ?_
  refine reg_quiet rfl (step_C tab_ok (fun K hk => hk)) ?_
  refine reg_quiet rfl (step_C tab_ok (fun K hk => hk)) ?_
  refine reg_nil ?_
  refine seq_n ?_
  refine wc_false rfl rfl ?_
  refine wc_seq ?_
  refine wc_region ?_
  refine reg_quiet rfl (step_C tab_ok (fun K hk => hk)) ?_
  refine reg_quiet rfl (step_C tab_ok (fun K hk => hk)) ?_
  refine reg_nil ?_
  refine seq_n ?_
  refine wc_true rfl rfl ?_
  refine wc_seq ?_
  refine wc_region ?_
  refine reg_quiet rfl (load_box tab_ok rfl rfl rfl rfl) ?_
  refine reg_quiet rfl (step_C tab_ok (fun K hk => hk)) ?_
  refine reg_new (call_new (back_good l h j he) rfl rfl (arg_e (arg_e arg_nil)) (.inl rfl) rfl rfl) rfl ?_
  refine reg_quiet rfl (step_C tab_ok (fun K hk => hk)) ?_
  refine reg_quiet rfl (step_C tab_ok (fun K hk => hk)) ?_
  refine reg_store (store_row tab_ok rfl rfl rfl ⟨_, ⟨rfl, rfl, rfl⟩, rfl⟩ rfl) ?_
  refine reg_quiet rfl (step_C tab_ok (fun K hk => hk)) ?_
  refine reg_nil ?_
  refine seq_n ?_
  refine wc_ret ?_
  refine blk_r ?_
  refine seq_r ?_
  exact ⟨trivial, _, rfl, [(64, some 208)], .of rfl rfl rfl rfl rfl ⟨⟨_, rfl, AVLe.of_eq rfl⟩, rfl, trivial⟩ ⟨⟨rfl, rfl, _, rfl, .refl _⟩, trivial⟩⟩
theorem act5_bad (data : List Int) (n : Nonce) (l : List Frame) (h j : Int) (he : actE dropP l h j ≠ 0) : FnIs Try.prog 47 (actArgs l h j 5 data n) [] (err2 (actE dropP l h j)) [] := by
  refine fnIs_of tab_ok Try.func47 rfl rfl rfl ?_
  refine wc_seq ?_
  refine wc_region ?_
  refine reg_new (step_C tab_ok (fun K hk => hk)) rfl ?_
  refine reg_new (step_C tab_ok (fun K hk => hk)) rfl ?_
  refine reg_new (step_C tab_ok (fun K hk => hk)) rfl ?_
  refine reg_new (step_C tab_ok (fun K hk => hk)) rfl ?_
  refine reg_quiet rfl (step_C tab_ok (fun K hk => hk)) ?_
  refine reg_nil ?_
  refine seq_n ?_
  refine wc_seq ?_
  refine wc_seq ?_
  refine wc_region ?_
  refine reg_quiet rfl (step_C tab_ok (fun K hk => hk)) ?_
  refine reg_nil ?_
  refine seq_n ?_
  refine wc_block ?_
  refine wc_seq ?_
  refine wc_region ?_
  refine reg_quiet rfl (step_C tab_ok (fun K hk => hk)) ?_
  refine reg_quiet rfl (step_C tab_ok (fun K hk => hk)) ?_
  refine reg_nil ?_
  refine seq_n ?_
  refine wc_false rfl rfl ?_
  refine wc_seq ?_
  refine wc_region ?_
  refine reg_quiet rfl (step_C tab_ok (fun K hk => hk)) ?_
  refine reg_quiet rfl (step_C tab_ok (fun K hk => hk)) ?_
  refine reg_nil ?_
  refine seq_n ?_
  refine wc_false rfl rfl ?_
  refine wc_seq ?_
  refine wc_region ?_
  refine reg_quiet rfl (step_C tab_ok (fun K hk => hk)) ?_
  refine reg_quiet rfl (step_C tab_ok (fun K hk => hk)) ?_
  refine reg_nil ?_
  refine seq_n ?_
  refine wc_false rfl rfl ?_
  refine wc_seq ?_
  refine wc_region ?_
  refine reg_quiet rfl (step_C tab_ok (fun K hk => hk)) ?_
  refine reg_quiet rfl (step_C tab_ok (fun K hk => hk)) ?_
  refine reg_nil ?_
  refine seq_n ?_
  refine wc_false rfl rfl ?_
  refine wc_seq ?_
  refine wc_region ?_
  refine reg_quiet rfl (step_C tab_ok (fun K hk => hk)) ?_
  refine reg_quiet rfl (step_C tab_ok (fun K hk => hk)) ?_
  refine reg_nil ?_
  refine seq_n ?_
  refine wc_false rfl rfl ?_
  refine wc_skip ?_
  refine blk_n ?_
  refine seq_n ?_
  refine wc_seq ?_
  refine wc_region ?_
  refine reg_quiet rfl (load_box tab_ok rfl rfl rfl rfl) ?_
  refine reg_quiet rfl (step_C tab_ok (fun K hk => hk)) ?_
  refine reg_quiet rfl (call_r (drop_bad l h j he) rfl rfl (arg_e (arg_e arg_nil)) (.inl rfl) (fun _ => rfl)) ?_
  refine reg_quiet rfl (step_C tab_ok (fun K hk => hk)) ?_
  refine reg_quiet rfl (step_C tab_ok (fun K hk => hk)) ?_
  refine reg_store (store_row tab_ok rfl rfl rfl ⟨_, ⟨rfl, rfl, rfl⟩, rfl⟩ rfl) ?_
  refine reg_quiet rfl (step_C tab_ok (fun K hk => hk)) ?_
  refine reg_nil ?_
  refine seq_n ?_
  refine wc_ret ?_
  exact ⟨trivial, _, rfl, [], .of rfl rfl rfl rfl rfl ⟨⟨_, rfl, AVLe.of_eq rfl⟩, rfl, trivial⟩ trivial⟩
theorem act5_good (data : List Int) (n : Nonce) (l : List Frame) (h j : Int) (he : actE dropP l h j = 0) : FnIs Try.prog 47 (actArgs l h j 5 data n) [] (ok2 l.length h) [(64, .ds 39 40 true encFrame (updL (dropG) l j))] := by
  refine fnIs_of tab_ok Try.func47 rfl rfl rfl ?_
  refine wc_seq ?_
  refine wc_region ?_
  refine reg_new (step_C tab_ok (fun K hk => hk)) rfl ?_
  refine reg_new (step_C tab_ok (fun K hk => hk)) rfl ?_
  refine reg_new (step_C tab_ok (fun K hk => hk)) rfl ?_
  refine reg_new (step_C tab_ok (fun K hk => hk)) rfl ?_
  refine reg_quiet rfl (step_C tab_ok (fun K hk => hk)) ?_
  refine reg_nil ?_
  refine seq_n ?_
  refine wc_seq ?_
  refine wc_seq ?_
  refine wc_region ?_
  refine reg_quiet rfl (step_C tab_ok (fun K hk => hk)) ?_
  refine reg_nil ?_
  refine seq_n ?_
  refine wc_block ?_
  refine wc_seq ?_
  refine wc_region ?_
  refine reg_quiet rfl (step_C tab_ok (fun K hk => hk)) ?_
  refine reg_quiet rfl (step_C tab_ok (fun K hk => hk)) ?_
  refine reg_nil ?_
  refine seq_n ?_
  refine wc_false rfl rfl ?_
  refine wc_seq ?_
  refine wc_region ?_
  refine reg_quiet rfl (step_C tab_ok (fun K hk => hk)) ?_
  refine reg_quiet rfl (step_C tab_ok (fun K hk => hk)) ?_
  refine reg_nil ?_
  refine seq_n ?_
  refine wc_false rfl rfl ?_
  refine wc_seq ?_
  refine wc_region ?_
  refine reg_quiet rfl (step_C tab_ok (fun K hk => hk)) ?_
  refine reg_quiet rfl (step_C tab_ok (fun K hk => hk)) ?_
  refine reg_nil ?_
  refine seq_n ?_
  refine wc_false rfl rfl ?_
  refine wc_seq ?_
  refine wc_region ?_
  refine reg_quiet rfl (step_C tab_ok (fun K hk => hk)) ?_
  refine reg_quiet rfl (step_C tab_ok (fun K hk => hk)) ?_
  refine reg_nil ?_
  refine seq_n ?_
  refine wc_false rfl rfl ?_
  refine wc_seq ?_
  refine wc_region ?_
  refine reg_quiet rfl (step_C tab_ok (fun K hk => hk)) ?_
  refine reg_quiet rfl (step_C tab_ok (fun K hk => hk)) ?_
  refine reg_nil ?_
  refine seq_n ?_
  refine wc_false rfl rfl ?_
  refine wc_skip ?_
  refine blk_n ?_
  refine seq_n ?_
  refine wc_seq ?_
  refine wc_region ?_
  refine reg_quiet rfl (load_box tab_ok rfl rfl rfl rfl) ?_
  refine reg_quiet rfl (step_C tab_ok (fun K hk => hk)) ?_
  refine reg_new (call_new (drop_good l h j he) rfl rfl (arg_e (arg_e arg_nil)) (.inl rfl) rfl rfl) rfl ?_
  refine reg_quiet rfl (step_C tab_ok (fun K hk => hk)) ?_
  refine reg_quiet rfl (step_C tab_ok (fun K hk => hk)) ?_
  refine reg_store (store_row tab_ok rfl rfl rfl ⟨_, ⟨rfl, rfl, rfl⟩, rfl⟩ rfl) ?_
  refine reg_quiet rfl (step_C tab_ok (fun K hk => hk)) ?_
  refine reg_nil ?_
  refine seq_n ?_
  refine wc_ret ?_
  exact ⟨trivial, _, rfl, [(64, some 208)], .of rfl rfl rfl rfl rfl ⟨⟨_, rfl, AVLe.of_eq rfl⟩, rfl, trivial⟩ ⟨⟨rfl, rfl, _, rfl, .refl _⟩, trivial⟩⟩
def actP (a : Nat) : Frame → Bool := match a with | 0 => installP | 1 => hitP | 2 => writeP | 3 => cleanP | 4 => backP | _ => dropP
def actG (a : Nat) (data : List Int) (n : Nonce) : Frame → Frame := match a with | 0 => installG data | 1 => hitG | 2 => writeG data n | 3 => cleanG | 4 => backG | _ => dropG
theorem act_bad (a : Nat) (ha : a < 6) (data : List Int) (n : Nonce) (l : List Frame) (h j : Int) (he : actE (actP a) l h j ≠ 0) : FnIs Try.prog 47 (actArgs l h j a data n) [] (err2 (actE (actP a) l h j)) [] :=
  match a, ha, he with
  | 0, _, he => act0_bad data n l h j he
  | 1, _, he => act1_bad data n l h j he
  | 2, _, he => act2_bad data n l h j he
  | 3, _, he => act3_bad data n l h j he
  | 4, _, he => act4_bad data n l h j he
  | 5, _, he => act5_bad data n l h j he
  | a + 6, ha, _ => absurd ha (by omega)
theorem act_good (a : Nat) (ha : a < 6) (data : List Int) (n : Nonce) (l : List Frame) (h j : Int) (he : actE (actP a) l h j = 0) : FnIs Try.prog 47 (actArgs l h j a data n) [] (ok2 l.length h) [(64, .ds 39 40 true encFrame (updL (actG a data n) l j))] :=
  match a, ha, he with
  | 0, _, he => act0_good data n l h j he
  | 1, _, he => act1_good data n l h j he
  | 2, _, he => act2_good data n l h j he
  | 3, _, he => act3_good data n l h j he
  | 4, _, he => act4_good data n l h j he
  | 5, _, he => act5_good data n l h j he
  | a + 6, ha, _ => absurd ha (by omega)
def refG (a : Nat) (data : List Int) (n : Nonce) (f : Frame) : Frame := match a with
  | 0 => ⟨true, f.block, data, false, false, false, true, zeroNonce⟩
  | 1 => { f with ref := true }
  | 2 => ⟨true, f.block, data, true, false, false, true, if f.dirty then f.nonce else n⟩
  | 3 => ⟨true, f.block, f.data, false, false, false, f.ref, zeroNonce⟩
  | 4 => { f with busy := false }
  | _ => zeroFrame
theorem refact_good (a : Nat) (ha : a < 6) (data : List Int) (n : Nonce) (l : List Frame) (h j : Int) (hlen : l.length ≤ 1000000) (hj : outB l j = false) (f : Frame) (hf : l[j.toNat]? = some f) (hp : fitsB f a = true) : FnIs Try.prog 46 (actArgs l h j a data n) [] (ok2 l.length h) [(64, .ds 39 40 false encFrame (l.set j.toNat (refG a data n f)))] :=
  match a, ha, hp with
  | 0, _, hp => refact0 l h j data n hlen hj f hf hp
  | 1, _, hp => refact1 l h j data n hlen hj f hf hp
  | 2, _, hp => by
    cases hd : f.dirty with
    | true => simpa [refG, hd] using refact2t l h j data n hlen hj f hf hp hd
    | false => simpa [refG, hd] using refact2f l h j data n hlen hj f hf hp hd
  | 3, _, hp => refact3 l h j data n hlen hj f hf hp
  | 4, _, hp => refact4 l h j data n hlen hj f hf hp
  | 5, _, hp => refact5 l h j data n hlen hj f hf hp
  | a + 6, ha, _ => absurd ha (by omega)
theorem fits_actP (a : Nat) (ha : a < 6) (f : Frame) : fitsB f a = actP a f := by
  match a, ha with
  | 0, _ => rfl
  | 1, _ => rfl
  | 2, _ => rfl
  | 3, _ => rfl
  | 4, _ => rfl
  | 5, _ => rfl
  | a + 6, ha => exact absurd ha (by omega)
/-- On valid frames, an act is that of the definition. -/
theorem act_ref (a : Nat) (ha : a < 6) (data : List Int) (n : Nonce) (f : Frame) (hc : chk f = 0) (hp : actP a f = true) : actG a data n f = refG a data n f := by
  have h : f.used = true ∨ f = zeroFrame := by
    cases hu : f.used with
    | true => exact .inl rfl
    | false =>
      refine .inr (Classical.byContradiction fun hne => ?_)
      simp [chk, hu, hne] at hc
  have hu : f.used = true := by
    rcases h with h | rfl
    · exact h
    · match a, ha, hp with
      | 0, _, hp => cases hp
      | 1, _, hp => cases hp
      | 2, _, hp => cases hp
      | 3, _, hp => cases hp
      | 4, _, hp => cases hp
      | 5, _, hp => cases hp
      | a + 6, ha, _ => exact absurd ha (by omega)
  unfold chk at hc
  obtain ⟨u, b, d, di, bu, lo, rf, no⟩ := f
  simp only at hu
  subst hu
  match a, ha, hp with
  | 0, _, hp => simp_all [actG, refG, installG, installP, actP]; (repeat' split at hc) <;> simp_all
  | 1, _, hp => rfl
  | 2, _, hp => simp_all [actG, refG, writeG, writeP, actP, wr]
  | 3, _, hp => simp_all [actG, refG, cleanG, cleanP, actP]; (repeat' split at hc) <;> simp_all
  | 4, _, hp => rfl
  | 5, _, hp => rfl
  | a + 6, ha, _ => exact absurd ha (by omega)
theorem by103 : Bytes [1, 0, 3] := by intro a ha; simp at ha; omega
abbrev sampleS : List Frame := ofS [1, 0, 3]
theorem arg_Sx {look : Nat → Option Row} {ρ : Nat → Option Nat} {r len : Nat} {te : TypeId} {ex : Bool} {cap : Option Nat} {xs : List Int} {hand : Int} {bs avs : List AV} (hr : look r = some (.ds te 1 ex encU8 xs)) (hl : len = xs.length) (ht : ArgsA look ρ bs avs) :
    ArgsA look ρ (.acons (.acons (.own r 0 len 1 cap) (.d .nil)) (.d (.cons (u8s hand) .nil)) :: bs) (.d (encSx xs hand) :: avs) := by
  subst hl
  exact ⟨_, avs, rfl, ⟨rfl, rfl⟩, ⟨rfl, _, _, rfl, ⟨_, _, rfl, by simp only [ArgD, hr]; exact ⟨trivial, by simp, xs, by simp, .refl _⟩, DLe.refl _⟩, DLe.refl _⟩, ht⟩
theorem sample_is : FnIs Try.prog 65 [] [] (ownS 64 3 0) [(64, .ds 39 40 false encFrame sampleS)] := by
  refine fnIs_of tab_ok Try.func65 rfl rfl rfl ?_
  refine wc_seq ?_
  refine wc_region ?_
  refine reg_new (step_C tab_ok (fun K hk => hk)) rfl ?_
  refine reg_nil ?_
  refine seq_n ?_
  refine wc_seq ?_
  refine wc_region ?_
  refine reg_new (build_list (enc := encU8) (s := 1) (xs := [1, 0, 3]) tab_ok rfl rfl rfl rfl rfl rfl rfl rfl rfl (fun _ => rfl) rfl) rfl ?_
  refine reg_quiet rfl (build_struct tab_ok rfl rfl rfl rfl) ?_
  refine reg_quiet rfl (build_struct tab_ok rfl rfl rfl rfl) ?_
  refine reg_new (call_new (ofS_is [1, 0, 3] 0 by103 ⟨by decide, by decide⟩) rfl rfl (arg_Sx rfl rfl arg_nil) (.inr (copied_plain _ _ _)) rfl rfl) rfl ?_
  refine reg_store (store_row tab_ok rfl rfl rfl ⟨_, ⟨rfl, rfl, rfl⟩, rfl⟩ rfl) ?_
  refine reg_nil ?_
  refine seq_n ?_
  refine wc_ret ?_
  exact ⟨trivial, _, rfl, [(64, some 96)], .of rfl rfl rfl rfl rfl ⟨⟨_, rfl, AVLe.of_eq rfl⟩, rfl, trivial⟩ ⟨⟨rfl, rfl, _, rfl, .refl _⟩, trivial⟩⟩
end Go.Proofs.Ytmdfeekpehcieaa

/- Valid shards, in plain terms. -/
namespace Go.Proofs.Ytmdfeekpehcieaa
open Go.Eng
structure Valid (l : List Frame) : Prop where
  ok : ∀ (i : Nat) (f : Frame), l[i]? = some f → chk f = 0
  ne : ∀ (i j : Nat) (f g : Frame), i < j → l[i]? = some f → l[j]? = some g → f.used = true → g.used = true → f.block ≠ g.block
theorem Valid.ne2 {l : List Frame} (h : Valid l) {i j : Nat} {f g : Frame} (hij : i ≠ j) (hf : l[i]? = some f) (hg : l[j]? = some g) (uf : f.used = true) (ug : g.used = true) : f.block ≠ g.block := by
  rcases Nat.lt_or_gt_of_ne hij with h1 | h1
  · exact h.ne i j f g h1 hf hg uf ug
  · exact fun e => h.ne j i g f h1 hg hf ug uf e.symm
theorem get_lt {α : Type} {l : List α} {i : Nat} {f : α} (h : l[i]? = some f) : i < l.length := (List.getElem?_eq_some_iff.1 h).1
theorem twice_no {l : List Frame} {i : Nat} {f : Frame} : twiceB (l.take i) f ≠ true ↔ (f.used = true → ∀ (j : Nat) (g : Frame), j < i → l[j]? = some g → g.used = true → g.block ≠ f.block) := by
  constructor
  · intro h hu j g hj hg ug e
    refine h ?_
    rw [twiceB, hu, Bool.true_and]
    refine List.any_eq_true.2 ⟨g, List.mem_of_getElem? (i := j) ?_, ?_⟩
    · rw [List.getElem?_take, if_pos hj, hg]
    · simp [ug, e]
  · intro h ht
    rw [twiceB, Bool.and_eq_true] at ht
    obtain ⟨hu, ha⟩ := ht
    obtain ⟨g, hm, hp⟩ := List.any_eq_true.1 ha
    obtain ⟨j, hj⟩ := List.mem_iff_getElem?.1 hm
    rw [List.getElem?_take] at hj
    split at hj
    · rename_i hji
      rw [Bool.and_eq_true] at hp
      exact h hu j g hji hj hp.1 (of_decide_eq_true hp.2)
    · cases hj
theorem chkK_zero {l : List Frame} (h : chkK l l.length = 0) {n : Nat} (hn : n ≤ l.length) : chkK l n = 0 :=
  Classical.byContradiction fun hne => by
    have h1 := chkK_stay hne (l.length - n)
    rw [Nat.add_sub_cancel' hn] at h1
    exact hne (h1.symm.trans h)
theorem chkK_valid {l : List Frame} : chkK l l.length = 0 ↔ Valid l := by
  constructor
  · intro h
    have key : ∀ (i : Nat) (f : Frame), l[i]? = some f → chk f = 0 ∧ twiceB (l.take i) f ≠ true := by
      intro i f hf
      have hi := get_lt hf
      have h1 := chkK_zero h (n := i + 1) (by omega)
      rw [chkK, if_pos (chkK_zero h (n := i) (by omega)), hf] at h1
      simp only at h1
      split at h1
      · rename_i hc
        refine ⟨hc, fun ht => ?_⟩
        rw [if_pos ht] at h1
        cases h1
      · rename_i hc; exact absurd h1 hc
    exact ⟨fun i f hf => (key i f hf).1, fun i j f g hij hf hg uf ug => twice_no.1 (key j g hg).2 ug i f hij hf uf⟩
  · intro h
    have : ∀ n, n ≤ l.length → chkK l n = 0 := by
      intro n
      induction n with
      | zero => intro _; rfl
      | succ n ih =>
        intro hn
        obtain ⟨f, hf⟩ : ∃ f, l[n]? = some f := ⟨l[n], by simp [show n < l.length by omega]⟩
        rw [chkK, if_pos (ih (by omega)), hf]
        simp only
        rw [if_pos (h.ok n f hf), if_neg (twice_no.2 fun hu j g hj hg ug => h.ne j n g f hj hg hf ug hu)]
    exact this _ (Nat.le_refl _)
theorem chkS_valid {l : List Frame} {h : Int} : chkS l h = 0 ↔ 1 ≤ l.length ∧ l.length ≤ 64 ∧ Valid l ∧ 0 ≤ h ∧ h < l.length := by
  rw [← chkK_valid]
  unfold chkS
  constructor
  · intro e
    split at e
    · cases e
    · rename_i h1
      simp only [Bool.or_eq_true, decide_eq_true_eq, not_or] at h1
      split at e
      · rename_i h2; exact absurd e h2
      · rename_i h2
        split at e
        · cases e
        · rename_i h3
          simp only [Bool.or_eq_true, decide_eq_true_eq, not_or] at h3
          exact ⟨by omega, by omega, Classical.byContradiction h2, by omega, by omega⟩
  · intro ⟨h1, h2, h3, h4, h5⟩
    rw [if_neg (by simp only [Bool.or_eq_true, decide_eq_true_eq, not_or]; omega), if_neg (fun n => n h3), if_neg (by simp only [Bool.or_eq_true, decide_eq_true_eq, not_or]; omega)]
theorem chk_used {f : Frame} (hu : f.used = true) : chk f = 0 ↔ 0 ≤ f.block ∧ f.block < 4096 ∧ (f.busy = true → f.dirty = true) ∧ (f.dirty = false → f.nonce = zeroNonce) ∧ (f.loading = true → f.dirty = false ∧ f.ref = false ∧ f.data = zeroBlock) := by
  obtain ⟨u, b, d, di, bu, lo, rf, no⟩ := f
  simp only at hu
  subst hu
  unfold chk
  by_cases h1 : b < 0 <;> by_cases h2 : b ≥ 4096 <;> by_cases h3 : no = zeroNonce <;> by_cases h4 : d = zeroBlock <;> cases di <;> cases bu <;> cases lo <;> cases rf <;> simp [h1, h2, h3, h4] <;> omega
theorem chk_unused {f : Frame} (hu : f.used = false) : chk f = 0 ↔ f = zeroFrame := by
  constructor
  · intro h
    refine Classical.byContradiction fun hne => ?_
    unfold chk at h
    rw [hu, if_neg (by simp), if_pos (by simp [hne])] at h
    cases h
  · rintro rfl; decide
theorem set_at {l : List Frame} {i j : Nat} {f g : Frame} (hf : l[i]? = some f) : (l.set i g)[j]? = if i = j then some g else l[j]? := by
  rw [List.getElem?_set]
  split
  · rename_i e; subst e; rw [if_pos (get_lt hf)]
  · rfl
theorem valid_set {l : List Frame} {i : Nat} {f g : Frame} (hv : Valid l) (hf : l[i]? = some f) (hg : chk g = 0) (hu : g.used = true → ∀ (j : Nat) (e : Frame), j ≠ i → l[j]? = some e → e.used = true → e.block ≠ g.block) : Valid (l.set i g) := by
  refine ⟨fun j e he => ?_, fun j k e e' hjk he he' ue ue' => ?_⟩
  · rw [set_at hf] at he
    split at he
    · cases he; exact hg
    · exact hv.ok j e he
  · rw [set_at hf] at he he'
    split at he
    · rename_i h1; subst h1
      cases he
      rw [if_neg (by omega)] at he'
      exact fun h => hu ue k e' (by omega) he' ue' h.symm
    · rename_i h1
      split at he'
      · rename_i h2; subst h2
        cases he'
        exact hu ue' j e (by omega) he ue
      · exact hv.ne j k e e' hjk he he' ue ue'
theorem valid_same {l : List Frame} {i : Nat} {f g : Frame} (hv : Valid l) (hf : l[i]? = some f) (hg : chk g = 0) (hu : g.used = true → f.used = true ∧ g.block = f.block) : Valid (l.set i g) :=
  valid_set hv hf hg fun ug j e hj he ue => by
    obtain ⟨uf, hb⟩ := hu ug
    rw [hb]
    exact hv.ne2 hj he hf ue uf
theorem ref_only {f g : Frame} (hr : (g.ref && !f.ref) = false) (he : { g with ref := f.ref } = f) (hc : chk f = 0) : chk g = 0 ∧ g.used = f.used ∧ g.block = f.block := by
  obtain ⟨u, b, d, di, bu, lo, rf, no⟩ := f
  obtain ⟨u', b', d', di', bu', lo', rf', no'⟩ := g
  simp only [Frame.mk.injEq] at he
  obtain ⟨rfl, rfl, rfl, rfl, rfl, rfl, -, rfl⟩ := he
  refine ⟨?_, rfl, rfl⟩
  cases u' with
  | true =>
    rw [chk_used rfl] at hc ⊢
    obtain ⟨h1, h2, h3, h4, h5⟩ := hc
    refine ⟨h1, h2, h3, h4, fun hl => ?_⟩
    obtain ⟨h6, h7, h8⟩ := h5 hl
    refine ⟨h6, ?_, h8⟩
    simp only at h7 hr ⊢
    rw [h7] at hr
    simpa using hr
  | false =>
    rw [chk_unused rfl] at hc ⊢
    have hrf : rf = false := congrArg Frame.ref hc
    subst hrf
    simp only [Bool.not_false, Bool.and_true] at hr
    subst hr
    exact hc
theorem next_get {l : List Frame} {hand n : Nat} {g : Frame} (hg : (vNext l hand)[n]? = some g) : ∃ f, l[n]? = some f ∧ (g.ref && !f.ref) = false ∧ { g with ref := f.ref } = f := by
  have hn := get_lt hg
  rw [vNext_len] at hn
  have hf : l[n]? = some l[n] := by simp [hn]
  obtain ⟨g', h1, h2, h3⟩ := next_facts (hand := hand) hf
  rw [hg] at h1
  cases h1
  exact ⟨_, hf, h2, h3⟩
theorem valid_next {l : List Frame} (hand : Nat) (hv : Valid l) : Valid (vNext l hand) := by
  refine ⟨fun i g hg => ?_, fun i j g g' hij hg hg' ug ug' => ?_⟩
  · obtain ⟨f, hf, h1, h2⟩ := next_get hg
    exact (ref_only h1 h2 (hv.ok i f hf)).1
  · obtain ⟨f, hf, h1, h2⟩ := next_get hg
    obtain ⟨f', hf', h1', h2'⟩ := next_get hg'
    obtain ⟨-, h3, h4⟩ := ref_only h1 h2 (hv.ok i f hf)
    obtain ⟨-, h3', h4'⟩ := ref_only h1' h2' (hv.ok j f' hf')
    rw [h4, h4']
    exact hv.ne i j f f' hij hf hf' (h3 ▸ ug) (h3' ▸ ug')
theorem hasB_no {l : List Frame} {block : Int} (h : hasB block l = false) {j : Nat} {e : Frame} (he : l[j]? = some e) (ue : e.used = true) : e.block ≠ block := by
  have := List.any_eq_false.1 h e (List.mem_of_getElem? he)
  intro hb
  exact this (by simp [ue, hb])
theorem vAfter_bound {l : List Frame} {hand : Nat} (hh : hand < l.length) : 0 ≤ vAfter l hand ∧ vAfter l hand < l.length := by
  unfold vAfter
  split
  · omega
  · have := Nat.mod_lt ((hand + clock l hand) % l.length + 1) (y := l.length) (by omega)
    omega
theorem newF_chk {block : Int} {loading : Bool} (hk : blkB block = false) : chk (newF block loading) = 0 := by
  simp only [Bool.or_eq_false_iff, decide_eq_false_iff_not] at hk
  rw [chk_used rfl]
  exact ⟨by simp [newF]; omega, by simp [newF]; omega, by simp [newF], by simp [newF], by simp [newF]⟩
theorem place_valid {l : List Frame} {hand : Nat} {block : Int} {loading : Bool} (he : chkS l hand = 0) (hk : blkB block = false) (hf : hasB block l = false) (hv : vicB l = true) : chkS (placeL l hand block loading) (vAfter l hand) = 0 := by
  obtain ⟨h1, h2, h3, h4, h5⟩ := chkS_valid.1 he
  have hh : hand < l.length := by omega
  obtain ⟨i, f, g, hi1, hi2, hi3, hi4, hi5⟩ := victim_facts hh hv
  have := vAfter_bound hh
  refine chkS_valid.2 ⟨by rw [placeL_len]; exact h1, by rw [placeL_len]; exact h2, ?_, this.1, by rw [placeL_len]; exact this.2⟩
  rw [placeL, hi1]
  refine valid_set (valid_next hand h3) hi4 (newF_chk hk) fun _ j e hj he' ue => ?_
  obtain ⟨f', hf', e1, e2⟩ := next_get he'
  obtain ⟨-, e3, e4⟩ := ref_only e1 e2 (h3.ok j f' hf')
  rw [e4]
  exact hasB_no hf hf' (e3 ▸ ue)
theorem actP_used {a : Nat} (ha : a < 6) {f : Frame} (hc : chk f = 0) (hp : actP a f = true) : f.used = true := by
  cases hu : f.used with
  | true => rfl
  | false =>
    rw [chk_unused hu] at hc
    subst hc
    match a, ha, hp with
    | 0, _, hp => cases hp
    | 1, _, hp => cases hp
    | 2, _, hp => cases hp
    | 3, _, hp => cases hp
    | 4, _, hp => cases hp
    | 5, _, hp => cases hp
    | a + 6, ha, _ => exact absurd ha (by omega)
/-- What an act does to a valid frame. -/
theorem act_chk {a : Nat} (ha : a < 6) (data : List Int) (n : Nonce) {f : Frame} (hc : chk f = 0) (hp : actP a f = true) : chk (actG a data n f) = 0 ∧ ((actG a data n f).used = true → f.used = true ∧ (actG a data n f).block = f.block)
    ∧ (f.busy = true → (actG a data n f).block = f.block ∧ (actG a data n f).data = f.data ∧ (actG a data n f).used = true) ∧ (f.dirty = true → (actG a data n f).dirty = true → (actG a data n f).nonce = f.nonce) := by
  have hu := actP_used ha hc hp
  rw [chk_used hu] at hc
  obtain ⟨h1, h2, h3, h4, h5⟩ := hc
  obtain ⟨u, b, d, di, bu, lo, rf, no⟩ := f
  simp only at hu
  subst hu
  match a, ha, hp with
  | 0, _, hp =>
    simp only [actP, installP] at hp
    subst hp
    obtain ⟨rfl, rfl, rfl⟩ := h5 rfl
    have hbu : bu = false := by cases bu <;> simp_all
    subst hbu
    refine ⟨(chk_used (by rfl)).2 ?_, ?_, ?_, ?_⟩ <;> simp_all [actG, installG]
  | 1, _, hp =>
    simp only [actP, hitP, Bool.true_and, Bool.not_eq_true'] at hp
    subst hp
    refine ⟨(chk_used (by rfl)).2 ?_, ?_, ?_, ?_⟩ <;> simp_all [actG, hitG]
  | 2, _, hp =>
    simp only [actP, writeP, Bool.true_and, Bool.not_eq_true', Bool.and_eq_true] at hp
    obtain ⟨rfl, rfl⟩ := hp
    refine ⟨(chk_used (by rfl)).2 ?_, ?_, ?_, ?_⟩ <;> simp_all [actG, writeG, wr]
  | 3, _, hp =>
    simp only [actP, cleanP] at hp
    subst hp
    have hd : di = true := h3 rfl
    subst hd
    have hl : lo = false := by cases lo <;> simp_all
    subst hl
    refine ⟨(chk_used (by rfl)).2 ?_, ?_, ?_, ?_⟩ <;> simp_all [actG, cleanG]
  | 4, _, hp =>
    simp only [actP, backP] at hp
    subst hp
    refine ⟨(chk_used (by rfl)).2 ?_, ?_, ?_, ?_⟩ <;> simp_all [actG, backG]
  | 5, _, hp =>
    simp only [actP, dropP, Bool.true_and, Bool.not_eq_true', Bool.and_eq_true] at hp
    obtain ⟨rfl, rfl⟩ := hp
    refine ⟨(chk_unused (by rfl)).2 rfl, ?_, ?_, ?_⟩ <;> simp_all [actG, dropG, zeroFrame]
  | a + 6, ha, _ => exact absurd ha (by omega)
theorem updL_some {g : Frame → Frame} {l : List Frame} {j : Int} {f : Frame} (hf : l[j.toNat]? = some f) : updL g l j = l.set j.toNat (g f) := by simp only [updL, hf]
theorem act_valid {a : Nat} (ha : a < 6) (data : List Int) (n : Nonce) {l : List Frame} {h j : Int} (he : actE (actP a) l h j = 0) : chkS (updL (actG a data n) l j) h = 0 := by
  obtain ⟨h1, h2, f, hf, hp⟩ := actE_zero he
  obtain ⟨v1, v2, v3, v4, v5⟩ := chkS_valid.1 h1
  obtain ⟨c1, c2, -, -⟩ := act_chk ha data n (v3.ok _ f hf) hp
  refine chkS_valid.2 ⟨by rw [updL_len]; exact v1, by rw [updL_len]; exact v2, ?_, v4, by rw [updL_len]; exact v5⟩
  rw [updL_some hf]
  exact valid_same v3 hf c1 c2
theorem wait_spec {l : List Frame} (hw : waitB l = true) : ∃ i f, wAt l = (i : Nat) ∧ l[i]? = some f ∧ f.dirty = true ∧ f.busy = false := by
  obtain ⟨i, f, h1, h2, h3⟩ := fidx_spec hw
  simp only [Bool.and_eq_true, Bool.not_eq_true'] at h3
  exact ⟨i, f, h1, h2, h3.1, h3.2⟩
theorem begin_chk {f : Frame} (hc : chk f = 0) (hd : f.dirty = true) : chk { f with busy := true } = 0 ∧ f.used = true := by
  have hu : f.used = true := by
    cases hu : f.used with
    | true => rfl
    | false => rw [chk_unused hu] at hc; subst hc; cases hd
  rw [chk_used hu] at hc
  obtain ⟨h1, h2, h3, h4, h5⟩ := hc
  exact ⟨(chk_used (f := { f with busy := true }) hu).2 ⟨h1, h2, fun _ => hd, h4, h5⟩, hu⟩
theorem begin_valid {l : List Frame} {h : Int} (he : chkS l h = 0) (hw : waitB l = true) : chkS (beginL l) h = 0 := by
  obtain ⟨v1, v2, v3, v4, v5⟩ := chkS_valid.1 he
  obtain ⟨i, f, h1, h2, h3, h4⟩ := wait_spec hw
  refine chkS_valid.2 ⟨by rw [beginL_len]; exact v1, by rw [beginL_len]; exact v2, ?_, v4, by rw [beginL_len]; exact v5⟩
  have : l[(wAt l).toNat]? = some f := by rw [h1]; exact h2
  rw [beginL, updL_some this]
  exact valid_same v3 this (begin_chk (v3.ok i f h2) h3).1 fun _ => ⟨(begin_chk (v3.ok i f h2) h3).2, rfl⟩
/-- The frames of a letter are valid. -/
theorem oneF_chk {a : Int} {i : Nat} (h0 : 0 ≤ a) (h6 : a < 6) (hi : i < 4096) : chk (oneF a i) = 0 ∧ ((oneF a i).used = true → (oneF a i).block = i) := by
  have hc : a = 0 ∨ a = 1 ∨ a = 2 ∨ a = 3 ∨ a = 4 ∨ a = 5 := by omega
  rcases hc with rfl | rfl | rfl | rfl | rfl | rfl
  · exact ⟨(by decide : chk zeroFrame = 0), fun h => by cases h⟩
  all_goals exact ⟨(chk_used (by rfl)).2 ⟨by simp [oneF], by simp [oneF]; omega, by simp [oneF], by simp [oneF, zeroNonce], by simp [oneF]⟩, fun _ => rfl⟩
theorem byteK_mod {L : List Int} (hb : Bytes L) (i : Nat) : 0 ≤ (byteK L i).tmod 6 ∧ (byteK L i).tmod 6 < 6 := by
  have h0 : 0 ≤ byteK L i := by
    unfold byteK
    cases h : L[i]? with
    | none => exact Int.le_refl 0
    | some a => exact (hb a (List.mem_of_getElem? h)).1
  rw [Int.tmod_eq_emod_of_nonneg h0]
  omega
theorem ofK_get {L : List Int} {k i : Nat} {f : Frame} (h : (ofK L k)[i]? = some f) : i < k ∧ f = oneF ((byteK L i).tmod 6) i := by
  have hi := get_lt h
  rw [ofK_len] at hi
  simp [ofK, hi] at h
  exact ⟨hi, h.symm⟩
theorem ofK_valid {L : List Int} (hb : Bytes L) {k : Nat} (hk : k ≤ 4096) : Valid (ofK L k) := by
  refine ⟨fun i f hf => ?_, fun i j f g hij hf hg uf ug => ?_⟩
  · obtain ⟨hi, rfl⟩ := ofK_get hf
    exact (oneF_chk (byteK_mod hb i).1 (byteK_mod hb i).2 (by omega)).1
  · obtain ⟨hi, rfl⟩ := ofK_get hf
    obtain ⟨hj, rfl⟩ := ofK_get hg
    rw [(oneF_chk (byteK_mod hb i).1 (byteK_mod hb i).2 (by omega)).2 uf, (oneF_chk (byteK_mod hb j).1 (byteK_mod hb j).2 (by omega)).2 ug]
    omega
theorem ofS_valid {L : List Int} (hb : Bytes L) : Valid (ofS L) := by
  unfold ofS
  split
  · refine ⟨fun i f hf => ?_, fun i j f g hij hf hg uf ug => ?_⟩
    · have : i = 0 := by have := get_lt hf; simp at this; omega
      subst this
      cases hf
      decide
    · have h1 := get_lt hg
      simp at h1
      omega
  · exact ofK_valid hb (by omega)
theorem hand_mod {hand : Int} {n : Nat} (hh : 0 ≤ hand ∧ hand ≤ 255) (hn : 0 < n) : ∃ k : Nat, hand.tmod n = k ∧ k < n := by
  rw [Int.tmod_eq_emod_of_nonneg hh.1]
  refine ⟨(hand % n).toNat, ?_, ?_⟩
  · have := Int.emod_nonneg hand (b := (n : Int)) (by omega); omega
  · have := Int.emod_lt_of_pos hand (b := (n : Int)) (by omega); have := Int.emod_nonneg hand (b := (n : Int)) (by omega); omega
theorem ofS_chk {L : List Int} {hand : Int} (hb : Bytes L) (hh : 0 ≤ hand ∧ hand ≤ 255) : chkS (ofS L) (hand.tmod (ofS L).length) = 0 := by
  obtain ⟨k, h1, h2⟩ := hand_mod hh (ofS_pos L)
  have := ofS_len L
  rw [h1]
  exact chkS_valid.2 ⟨ofS_pos L, by omega, ofS_valid hb, by omega, by omega⟩
end Go.Proofs.Ytmdfeekpehcieaa

/- Shards: the examples of the chapter, for whatever lists. -/
namespace Go.Proofs.Ytmdfeekpehcieaa
open Go.Eng
set_option maxHeartbeats 4000000
set_option maxRecDepth 4000
attribute [local irreducible] WC RegS RegD SeqQ BlkQ ScoQ RegK CutK Sat SatN FnIs LoopQ StepIs OpIs
theorem err3_plain (e : Int) : PlainRes (err3 e) [] := .of ⟨⟨trivial, trivial, trivial⟩, trivial, trivial, trivial⟩ plain_rows_nil
theorem ok3_plain (n : Nat) (h a e : Int) (ex : Bool) (l : List Frame) : PlainRes (tup3 (ownS 64 n h) (.int .i64 a) (.int .i64 e)) [(64, .ds 39 40 ex encFrame l)] :=
  .of ⟨⟨trivial, trivial, trivial⟩, trivial, trivial, trivial⟩ (plain_rows_cons (fun f => frame_plain f) plain_rows_nil)
theorem ok2_plain (n : Nat) (h : Int) (ex : Bool) (l : List Frame) : PlainRes (ok2 n h) [(64, .ds 39 40 ex encFrame l)] :=
  .of ⟨⟨trivial, trivial, trivial⟩, trivial, trivial⟩ (plain_rows_cons (fun f => frame_plain f) plain_rows_nil)
theorem err2_plain (e : Int) : PlainRes (err2 e) [] := .of ⟨⟨trivial, trivial, trivial⟩, trivial, trivial⟩ plain_rows_nil
theorem bool_plain (b : Bool) : PlainRes (.bool b) [] := .of trivial plain_rows_nil

theorem shlives_core (S T U F W B C Z : List Frame) (a c w b z : Frame) (hS : FnIs Try.prog 65 [] [] (ownS 64 3 0) [(64, .ds 39 40 false encFrame S)]) (hP1 : FnIs Try.prog 34 [.d (encS S 0), .d (i6 7), .bool true] [] (tup3 (ownS 64 3 0) (.int .i64 1) (.int .i64 0)) [(64, .ds 39 40 true encFrame T)]) (hP2 : FnIs Try.prog 34 [.d (encS T 0), .d (i6 8), .bool false] [] (tup3 (ownS 64 3 1) (.int .i64 0) (.int .i64 0)) [(64, .ds 39 40 true encFrame U)]) (hF : FnIs Try.prog 32 [.d (encSx [5, 3] 0)] [] (ownS 64 2 0) [(64, .ds 39 40 false encFrame F)]) (hP3 : FnIs Try.prog 34 [.d (encS S 0), .d (i6 2), .bool true] [] (err3 12) []) (hP4 : FnIs Try.prog 34 [.d (encS F 0), .d (i6 5), .bool true] [] (err3 11) []) (hP5 : FnIs Try.prog 34 [.d (encS S 0), .d (i6 4096), .bool true] [] (err3 1) []) (hW : FnIs Try.prog 66 [.d (encS S 0), .d (i6 2), .d (encBlock (dataB 50)), .d (encNonce ⟨3, 0⟩)] [] (ok2 3 0) [(64, .ds 39 40 true encFrame W)]) (hB : FnIs Try.prog 48 [.d (encS S 0)] [] (tup3 (ownS 64 3 0) (.int .i64 2) (.int .i64 0)) [(64, .ds 39 40 true encFrame B)]) (hC : FnIs Try.prog 67 [.d (encS B 0), .d (i6 2)] [] (ok2 3 0) [(64, .ds 39 40 true encFrame C)]) (hC2 : FnIs Try.prog 67 [.d (encS S 0), .d (i6 2)] [] (err2 10) []) (hZ : FnIs Try.prog 32 [.d (encSx [5, 4] 0)] [] (ownS 64 2 0) [(64, .ds 39 40 false encFrame Z)]) (hR1 : FnIs Try.prog 43 [.d (encS F 0), .d (i6 1)] [] (.bool true) []) (hR2 : FnIs Try.prog 43 [.d (encS F 0), .d (i6 2)] [] (.bool false) []) (hH : FnIs Try.prog 42 [.d (encS Z 0), .d (i6 1)] [] (.bool true) []) (hL : FnIs Try.prog 40 [.d (encS Z 0), .d (i6 1)] [] (.bool false) []) (hlS : 3 = S.length) (hlT : 3 = T.length) (hlF : 2 = F.length) (hlB : 3 = B.length) (hlZ : 2 = Z.length) (hs0 : S[0]? = some a) (hs2 : S[2]? = some c) (ht0 : T[0]? = some a) (ht1 : T[1]? = some (newF 7 true)) (hu0 : U[0]? = some (newF 8 false)) (hu2 : U[2]? = some c) (hw2 : W[2]? = some w) (hb2 : B[2]? = some b) (hz2 : C[2]? = some z) (hn1 : (!decide (newF 7 true = newF 7 true)) = false) (hn2 : (!decide (newF 8 false = newF 8 false)) = false) (hn3 : (!decide (a = a)) = false) (hn4 : (!decide (c = c)) = false) (hw3 : (!decide (w.nonce = c.nonce)) = false) (hw4 : (!w.ref) = false) (hw5 : (!decide (w.data = dataB 50)) = false) (hb3 : (!b.busy) = false) (hz3 : (!evB z) = false) (hz4 : (!decide (z.nonce = zeroNonce)) = false) (hz5 : (!decide (z.data = c.data)) = false) : FnIs Try.prog 37 [] [] (.bool true) [] := by
  refine fnIs_of tab_ok Try.func37 rfl rfl rfl ?_
  refine wc_seq ?_
  refine wc_region ?_
  refine reg_quiet rfl (step_C tab_ok (fun K hk => hk)) ?_
  refine reg_nil ?_
  refine seq_n ?_
  refine wc_seq ?_
  refine wc_region ?_
  refine reg_new (call_new hS rfl rfl arg_nil (.inl rfl) rfl rfl) rfl ?_
  refine reg_new (step_C tab_ok (fun K hk => hk)) rfl ?_
  refine reg_store (store_row tab_ok rfl rfl rfl ⟨_, ⟨rfl, rfl, rfl⟩, rfl⟩ rfl) ?_
  refine reg_nil ?_
  refine seq_n ?_
  refine wc_seq ?_
  refine wc_region ?_
  refine reg_quiet rfl (load_box tab_ok rfl rfl rfl rfl) ?_
  refine reg_new (call_new hP1 rfl rfl (arg_S rfl hlS (arg_e (arg_e arg_nil))) (.inr (ok3_plain _ _ _ _ _ _)) rfl rfl) rfl ?_
  refine reg_quiet rfl (step_C tab_ok (fun K hk => hk)) ?_
  refine reg_quiet rfl (step_C tab_ok (fun K hk => hk)) ?_
  refine reg_quiet rfl (step_C tab_ok (fun K hk => hk)) ?_
  refine reg_quiet rfl (step_C tab_ok (fun K hk => hk)) ?_
  refine reg_new (step_C tab_ok (fun K hk => hk)) rfl ?_
  refine reg_store (store_row tab_ok rfl rfl rfl ⟨_, ⟨rfl, rfl, rfl⟩, rfl⟩ rfl) ?_
  refine reg_quiet rfl (step_C tab_ok (fun K hk => hk)) ?_
  refine reg_quiet rfl (step_C tab_ok (fun K hk => hk)) ?_
  refine reg_nil ?_
  refine seq_n ?_
  refine wc_seq ?_
  refine wc_region ?_
  refine reg_quiet rfl (load_box tab_ok rfl rfl rfl rfl) ?_
  refine reg_new (call_new hP2 rfl rfl (arg_S rfl hlT (arg_e (arg_e arg_nil))) (.inr (ok3_plain _ _ _ _ _ _)) rfl rfl) rfl ?_
  refine reg_quiet rfl (step_C tab_ok (fun K hk => hk)) ?_
  refine reg_quiet rfl (step_C tab_ok (fun K hk => hk)) ?_
  refine reg_quiet rfl (step_C tab_ok (fun K hk => hk)) ?_
  refine reg_quiet rfl (step_C tab_ok (fun K hk => hk)) ?_
  refine reg_new (step_C tab_ok (fun K hk => hk)) rfl ?_
  refine reg_store (store_row tab_ok rfl rfl rfl ⟨_, ⟨rfl, rfl, rfl⟩, rfl⟩ rfl) ?_
  refine reg_quiet rfl (step_C tab_ok (fun K hk => hk)) ?_
  refine reg_quiet rfl (step_C tab_ok (fun K hk => hk)) ?_
  refine reg_nil ?_
  refine seq_n ?_
  refine wc_seq ?_
  refine wc_seq ?_
  refine wc_draw (by kernel_rfl) ?_
  refine dreg_q [4] [] rfl (step_C tab_ok (fun K hk => hk)) ?_
  refine dreg_q [35] [] rfl (step_C tab_ok (fun K hk => hk)) ?_
  refine dreg_q [36] [] rfl (step_C tab_ok (fun K hk => hk)) ?_
  refine dreg_onq [37, 7] [] rfl rfl rfl rfl (step_C tab_ok (fun K hk => hk)) ?_
  refine dreg_onq [37, 38] [] rfl rfl rfl rfl (step_C tab_ok (fun K hk => hk)) ?_
  refine dreg_q [37, 39] [] rfl (pick_F tab_ok rfl rfl rfl) ?_
  refine dreg_q [40] [] rfl (step_C tab_ok (fun K hk => hk)) ?_
  refine dreg_onq [41, 3] [] rfl rfl rfl rfl (step_C tab_ok (fun K hk => hk)) ?_
  refine dreg_onq [41, 42] [] rfl rfl rfl rfl (step_C tab_ok (fun K hk => hk)) ?_
  refine dreg_q [41, 43] [] rfl (pick_F tab_ok rfl rfl rfl) ?_
  refine dreg_q [44] [] rfl (step_C tab_ok (fun K hk => hk)) ?_
  refine dreg_onq [45, 6] [] rfl rfl rfl rfl (step_C tab_ok (fun K hk => hk)) ?_
  refine dreg_onq [45, 46] [] rfl rfl rfl rfl (step_C tab_ok (fun K hk => hk)) ?_
  refine dreg_q [45, 47] [] rfl (pick_F tab_ok rfl rfl rfl) ?_
  refine dreg_q [48] [] rfl (step_C tab_ok (fun K hk => hk)) ?_
  refine dreg_onq [49, 2] [144, 104] rfl rfl rfl rfl (step_C tab_ok (fun K hk => hk)) ?_
  refine dreg_onq [49, 50] [144, 104] rfl rfl rfl rfl (load_box tab_ok rfl rfl rfl rfl) ?_
  refine dreg_onq [49, 51] [104] rfl rfl rfl rfl (len_own tab_ok rfl rfl) ?_
  refine dreg_onq [49, 52] [] rfl rfl rfl rfl (step_C tab_ok (fun K hk => hk)) ?_
  refine dreg_q [49, 53] [] rfl (pick_F tab_ok rfl rfl rfl) ?_
  refine dreg_q [54] [] rfl (step_C tab_ok (fun K hk => hk)) ?_
  refine dreg_onq [55, 5] [224, 184] rfl rfl rfl rfl (step_C tab_ok (fun K hk => hk)) ?_
  refine dreg_onq [55, 56] [224, 184] rfl rfl rfl rfl (load_box tab_ok rfl rfl rfl rfl) ?_
  refine dreg_onq [55, 57] [184] rfl rfl rfl rfl (len_own tab_ok rfl rfl) ?_
  refine dreg_onq [55, 58] [] rfl rfl rfl rfl (step_C tab_ok (fun K hk => hk)) ?_
  refine dreg_q [55, 59] [] rfl (pick_F tab_ok rfl rfl rfl) ?_
  refine dreg_q [60] [] rfl (step_C tab_ok (fun K hk => hk)) ?_
  refine dreg_onq [61, 2] [144, 104] rfl rfl rfl rfl (step_C tab_ok (fun K hk => hk)) ?_
  refine dreg_onq [61, 62] [144, 104] rfl rfl rfl rfl (load_box tab_ok rfl rfl rfl rfl) ?_
  refine dreg_onq [61, 63] [] rfl rfl rfl rfl (step_C tab_ok (fun K hk => hk)) ?_
  refine dreg_q [61, 64] [] rfl (pick_F tab_ok rfl rfl rfl) ?_
  refine dreg_q [65] [] rfl (step_C tab_ok (fun K hk => hk)) ?_
  refine dreg_onq [66, 5] [224, 184] rfl rfl rfl rfl (step_C tab_ok (fun K hk => hk)) ?_
  refine dreg_onq [66, 67] [224, 184] rfl rfl rfl rfl (load_box tab_ok rfl rfl rfl rfl) ?_
  refine dreg_onq [66, 68] [] rfl rfl rfl rfl (step_C tab_ok (fun K hk => hk)) ?_
  refine dreg_q [66, 69] [] rfl (pick_F tab_ok rfl rfl rfl) ?_
  refine dreg_q [70] [] rfl (step_C tab_ok (fun K hk => hk)) ?_
  refine dreg_onq [71, 2] [144, 104] rfl rfl rfl rfl (step_C tab_ok (fun K hk => hk)) ?_
  refine dreg_onq [71, 72] [144, 104] rfl rfl rfl rfl (load_box tab_ok rfl rfl rfl rfl) ?_
  refine dreg_onq [71, 73] [104] rfl rfl rfl rfl (index_own tab_ok rfl rfl rfl rfl rfl (by decide) (by decide)) ?_
  refine dreg_onq [71, 74] [104] rfl rfl rfl rfl (load_row (v := .d (encFrame (newF 7 true))) tab_ok rfl rfl ⟨rfl, (newF 7 true), ht1, encFrame (newF 7 true), rfl, rfl⟩ rfl) ?_
  refine dreg_onq [71] [] rfl rfl rfl rfl (build_struct tab_ok rfl rfl rfl rfl) ?_
  refine dreg_onq [71, 75, 76] [] rfl rfl rfl rfl (neq_data rfl rfl rfl rfl (by kernel_rfl) (by decide) (frame_eq (newF 7 true) (newF 7 true))) ?_
  refine dreg_q [71, 77] [] rfl (pick_F tab_ok rfl rfl rfl) ?_
  refine dreg_q [78] [] rfl (step_C tab_ok (fun K hk => hk)) ?_
  refine dreg_onq [79, 5] [224, 184] rfl rfl rfl rfl (step_C tab_ok (fun K hk => hk)) ?_
  refine dreg_onq [79, 80] [224, 184] rfl rfl rfl rfl (load_box tab_ok rfl rfl rfl rfl) ?_
  refine dreg_onq [79, 81] [184] rfl rfl rfl rfl (index_own tab_ok rfl rfl rfl rfl rfl (by decide) (by decide)) ?_
  refine dreg_onq [79, 82] [184] rfl rfl rfl rfl (load_row (v := .d (encFrame (newF 8 false))) tab_ok rfl rfl ⟨rfl, (newF 8 false), hu0, encFrame (newF 8 false), rfl, rfl⟩ rfl) ?_
  refine dreg_onq [79] [] rfl rfl rfl rfl (build_struct tab_ok rfl rfl rfl rfl) ?_
  refine dreg_onq [79, 83, 84] [] rfl rfl rfl rfl (neq_data rfl rfl rfl rfl (by kernel_rfl) (by decide) (frame_eq (newF 8 false) (newF 8 false))) ?_
  refine dreg_q [79, 85] [] rfl (pick_F tab_ok rfl rfl rfl) ?_
  refine dreg_q [86] [] rfl (step_C tab_ok (fun K hk => hk)) ?_
  refine dreg_onq [87, 2] [144, 104] rfl rfl rfl rfl (step_C tab_ok (fun K hk => hk)) ?_
  refine dreg_onq [87, 88] [144, 104] rfl rfl rfl rfl (load_box tab_ok rfl rfl rfl rfl) ?_
  refine dreg_onq [87, 89] [104] rfl rfl rfl rfl (index_own tab_ok rfl rfl rfl rfl rfl (by decide) (by decide)) ?_
  refine dreg_onq [87, 90] [104] rfl rfl rfl rfl (load_row (v := .d (encFrame a)) tab_ok rfl rfl ⟨rfl, a, ht0, encFrame a, rfl, rfl⟩ rfl) ?_
  refine dreg_onq [87, 1] [80, 72] rfl rfl rfl rfl (step_C tab_ok (fun K hk => hk)) ?_
  refine dreg_onq [87, 92] [80, 72] rfl rfl rfl rfl (load_box tab_ok rfl rfl rfl rfl) ?_
  refine dreg_onq [87, 93] [72] rfl rfl rfl rfl (index_own tab_ok rfl rfl rfl rfl rfl (by decide) (by decide)) ?_
  refine dreg_onq [87, 94] [72] rfl rfl rfl rfl (load_row (v := .d (encFrame a)) tab_ok rfl rfl ⟨rfl, a, hs0, encFrame a, rfl, rfl⟩ rfl) ?_
  refine dreg_onq [87, 91, 95] [] rfl rfl rfl rfl (neq_data rfl rfl rfl rfl (by kernel_rfl) (by decide) (frame_eq a a)) ?_
  refine dreg_q [87, 96] [] rfl (pick_F tab_ok rfl rfl rfl) ?_
  refine dreg_q [97] [] rfl (step_C tab_ok (fun K hk => hk)) ?_
  refine dreg_onq [98, 5] [224, 184] rfl rfl (by assumption) rfl (step_C tab_ok (fun K hk => hk)) ?_
  refine dreg_onq [98, 99] [224, 184] rfl rfl (by assumption) rfl (load_box tab_ok rfl rfl rfl rfl) ?_
  refine dreg_onq [98, 100] [184] rfl rfl (by assumption) rfl (index_own tab_ok rfl rfl rfl rfl rfl (by decide) (by decide)) ?_
  refine dreg_onq [98, 101] [184] rfl rfl (by assumption) rfl (load_row (v := .d (encFrame c)) tab_ok rfl rfl ⟨rfl, c, hu2, encFrame c, rfl, rfl⟩ rfl) ?_
  refine dreg_onq [98, 1] [80, 72] rfl rfl (by assumption) rfl (step_C tab_ok (fun K hk => hk)) ?_
  refine dreg_onq [98, 103] [80, 72] rfl rfl (by assumption) rfl (load_box tab_ok rfl rfl rfl rfl) ?_
  refine dreg_onq [98, 104] [72] rfl rfl (by assumption) rfl (index_own tab_ok rfl rfl rfl rfl rfl (by decide) (by decide)) ?_
  refine dreg_onq [98, 105] [72] rfl rfl (by assumption) rfl (load_row (v := .d (encFrame c)) tab_ok rfl rfl ⟨rfl, c, hs2, encFrame c, rfl, rfl⟩ rfl) ?_
  refine dreg_onq [98, 102, 106] [] rfl rfl (by assumption) rfl (neq_data rfl rfl rfl rfl (by kernel_rfl) (by decide) (frame_eq c c)) ?_
  refine dreg_q [98, 107] [] rfl (pick_F tab_ok rfl (by assumption) rfl) ?_
  refine dreg_end (by kernel_rfl) ?_
  refine seq_n ?_
  refine wc_false rfl (by assumption) ?_
  refine wc_skip ?_
  refine seq_n ?_
  refine wc_le (env' := [(1, .ptr 64 [])]) (h' := [(64, some (.box 61 (ownS 65 3 0))), (65, some (.ds 39 40 false encFrame S))]) 72 [(64, some 80), (65, some 72)] (.of rfl rfl rfl rfl rfl ⟨⟨_, rfl, .refl _⟩, rfl, trivial⟩ ⟨⟨rfl, rfl, _, rfl, .refl _⟩, ⟨rfl, rfl, _, rfl, .refl _⟩, trivial⟩) ?_
  refine wc_seq ?_
  refine wc_region ?_
  refine reg_new (build_list (enc := encU8) (s := 1) (xs := [5, 3]) tab_ok rfl rfl rfl rfl rfl rfl rfl rfl rfl (fun _ => rfl) rfl) rfl ?_
  refine reg_quiet rfl (build_struct tab_ok rfl rfl rfl rfl) ?_
  refine reg_quiet rfl (build_struct tab_ok rfl rfl rfl rfl) ?_
  refine reg_new (call_new hF rfl rfl (arg_Sx rfl rfl arg_nil) (.inr (copied_plain _ _ _)) rfl rfl) rfl ?_
  refine reg_new (step_C tab_ok (fun K hk => hk)) rfl ?_
  refine reg_store (store_row tab_ok rfl rfl rfl ⟨_, ⟨rfl, rfl, rfl⟩, rfl⟩ rfl) ?_
  refine reg_nil ?_
  refine seq_n ?_
  refine wc_seq ?_
  refine wc_region ?_
  refine reg_quiet rfl (load_box tab_ok rfl rfl rfl rfl) ?_
  refine reg_quiet rfl (call_r hP3 rfl rfl (arg_S rfl hlS (arg_e (arg_e arg_nil))) (.inr (err3_plain _)) (fun _ => rfl)) ?_
  refine reg_quiet rfl (step_C tab_ok (fun K hk => hk)) ?_
  refine reg_quiet rfl (step_C tab_ok (fun K hk => hk)) ?_
  refine reg_quiet rfl (step_C tab_ok (fun K hk => hk)) ?_
  refine reg_quiet rfl (step_C tab_ok (fun K hk => hk)) ?_
  refine reg_quiet rfl (step_C tab_ok (fun K hk => hk)) ?_
  refine reg_nil ?_
  refine seq_n ?_
  refine wc_seq ?_
  refine wc_region ?_
  refine reg_quiet rfl (load_box tab_ok rfl rfl rfl rfl) ?_
  refine reg_quiet rfl (call_r hP4 rfl rfl (arg_S rfl hlF (arg_e (arg_e arg_nil))) (.inr (err3_plain _)) (fun _ => rfl)) ?_
  refine reg_quiet rfl (step_C tab_ok (fun K hk => hk)) ?_
  refine reg_quiet rfl (step_C tab_ok (fun K hk => hk)) ?_
  refine reg_quiet rfl (step_C tab_ok (fun K hk => hk)) ?_
  refine reg_quiet rfl (step_C tab_ok (fun K hk => hk)) ?_
  refine reg_quiet rfl (step_C tab_ok (fun K hk => hk)) ?_
  refine reg_nil ?_
  refine seq_n ?_
  refine wc_seq ?_
  refine wc_region ?_
  refine reg_quiet rfl (load_box tab_ok rfl rfl rfl rfl) ?_
  refine reg_quiet rfl (call_r hP5 rfl rfl (arg_S rfl hlS (arg_e (arg_e arg_nil))) (.inr (err3_plain _)) (fun _ => rfl)) ?_
  refine reg_quiet rfl (step_C tab_ok (fun K hk => hk)) ?_
  refine reg_quiet rfl (step_C tab_ok (fun K hk => hk)) ?_
  refine reg_quiet rfl (step_C tab_ok (fun K hk => hk)) ?_
  refine reg_quiet rfl (step_C tab_ok (fun K hk => hk)) ?_
  refine reg_new (step_C tab_ok (fun K hk => hk)) rfl ?_
  refine reg_store (store_row tab_ok rfl rfl rfl ⟨_, ⟨rfl, rfl, rfl⟩, rfl⟩ rfl) ?_
  refine reg_quiet rfl (step_C tab_ok (fun K hk => hk)) ?_
  refine reg_quiet rfl (step_C tab_ok (fun K hk => hk)) ?_
  refine reg_nil ?_
  refine seq_n ?_
  refine wc_seq ?_
  refine wc_draw (by kernel_rfl) ?_
  refine dreg_q [1] [64, 65] rfl (load_box tab_ok rfl rfl rfl rfl) ?_
  refine dreg_q [] [] rfl (call_r (data_is 50) rfl rfl (arg_e arg_nil) (.inl rfl) (fun _ => rfl)) ?_
  refine dreg_q [] [] rfl (build_struct tab_ok rfl rfl rfl rfl) ?_
  refine dreg_w [132, 133, 134] [65] rfl (call_new hW rfl rfl (arg_S rfl hlS (arg_e (arg_e (arg_e arg_nil)))) (.inr (ok2_plain _ _ _ _)) rfl rfl) ?_
  refine dreg_q [135] [336] rfl (step_C tab_ok (fun K hk => hk)) ?_
  refine dreg_q [131] [336] rfl (step_C tab_ok (fun K hk => hk)) ?_
  refine dreg_q [131] [336] rfl (step_C tab_ok (fun K hk => hk)) ?_
  refine dreg_w [] [] rfl (step_C tab_ok (fun K hk => hk)) ?_
  refine dreg_s [12, 136] [368, 336] (store_row tab_ok rfl rfl rfl ⟨_, ⟨rfl, rfl, rfl⟩, rfl⟩ rfl) ?_
  refine dreg_q [137] [] rfl (step_C tab_ok (fun K hk => hk)) ?_
  refine dreg_end (by kernel_rfl) ?_
  refine seq_n ?_
  refine wc_le (env' := [(1, .ptr 64 []), (8, .ptr 66 []), (4, .int .i64 12), (7, .int .i64 11), (11, .int .i64 1), (12, .ptr 68 []), (13, .int .i64 0)]) (h' := [(64, some (.box 61 (ownS 65 3 0))), (65, some (.ds 39 40 false encFrame S)), (66, some (.box 61 (ownS 67 2 0))), (67, some (.ds 39 40 false encFrame F)), (68, some (.box 61 (ownS 69 3 0))), (69, some (.ds 39 40 true encFrame W))]) 72 [(64, some 64), (65, some 65), (66, some 104), (67, some 96), (68, some 368), (69, some 336)] (.of rfl rfl rfl rfl rfl ⟨⟨_, rfl, .refl _⟩, rfl, ⟨_, rfl, .refl _⟩, rfl, ⟨_, rfl, .refl _⟩, rfl, ⟨_, rfl, .refl _⟩, rfl, ⟨_, rfl, .refl _⟩, rfl, ⟨_, rfl, .refl _⟩, rfl, ⟨_, rfl, .refl _⟩, rfl, trivial⟩ ⟨⟨rfl, rfl, _, rfl, .refl _⟩, ⟨rfl, rfl, _, rfl, .refl _⟩, ⟨rfl, rfl, _, rfl, .refl _⟩, ⟨rfl, rfl, _, rfl, .refl _⟩, ⟨rfl, rfl, _, rfl, .refl _⟩, ⟨rfl, rfl, _, rfl, .refl _⟩, trivial⟩) ?_
  refine wc_seq ?_
  refine wc_region ?_
  refine reg_quiet rfl (load_box tab_ok rfl rfl rfl rfl) ?_
  refine reg_new (call_new hB rfl rfl (arg_S rfl hlS arg_nil) (.inr (ok3_plain _ _ _ _ _ _)) rfl rfl) rfl ?_
  refine reg_quiet rfl (step_C tab_ok (fun K hk => hk)) ?_
  refine reg_quiet rfl (step_C tab_ok (fun K hk => hk)) ?_
  refine reg_quiet rfl (step_C tab_ok (fun K hk => hk)) ?_
  refine reg_quiet rfl (step_C tab_ok (fun K hk => hk)) ?_
  refine reg_new (step_C tab_ok (fun K hk => hk)) rfl ?_
  refine reg_store (store_row tab_ok rfl rfl rfl ⟨_, ⟨rfl, rfl, rfl⟩, rfl⟩ rfl) ?_
  refine reg_quiet rfl (step_C tab_ok (fun K hk => hk)) ?_
  refine reg_quiet rfl (step_C tab_ok (fun K hk => hk)) ?_
  refine reg_nil ?_
  refine seq_n ?_
  refine wc_seq ?_
  refine wc_region ?_
  refine reg_quiet rfl (load_box tab_ok rfl rfl rfl rfl) ?_
  refine reg_new (call_new hC rfl rfl (arg_S rfl hlB (arg_e arg_nil)) (.inr (ok2_plain _ _ _ _)) rfl rfl) rfl ?_
  refine reg_quiet rfl (step_C tab_ok (fun K hk => hk)) ?_
  refine reg_quiet rfl (step_C tab_ok (fun K hk => hk)) ?_
  refine reg_quiet rfl (step_C tab_ok (fun K hk => hk)) ?_
  refine reg_new (step_C tab_ok (fun K hk => hk)) rfl ?_
  refine reg_store (store_row tab_ok rfl rfl rfl ⟨_, ⟨rfl, rfl, rfl⟩, rfl⟩ rfl) ?_
  refine reg_quiet rfl (step_C tab_ok (fun K hk => hk)) ?_
  refine reg_nil ?_
  refine seq_n ?_
  refine wc_seq ?_
  refine wc_region ?_
  refine reg_quiet rfl (load_box tab_ok rfl rfl rfl rfl) ?_
  refine reg_quiet rfl (call_r hC2 rfl rfl (arg_S rfl hlS (arg_e arg_nil)) (.inr (err2_plain _)) (fun _ => rfl)) ?_
  refine reg_quiet rfl (step_C tab_ok (fun K hk => hk)) ?_
  refine reg_quiet rfl (step_C tab_ok (fun K hk => hk)) ?_
  refine reg_quiet rfl (step_C tab_ok (fun K hk => hk)) ?_
  refine reg_new (step_C tab_ok (fun K hk => hk)) rfl ?_
  refine reg_store (store_row tab_ok rfl rfl rfl ⟨_, ⟨rfl, rfl, rfl⟩, rfl⟩ rfl) ?_
  refine reg_quiet rfl (step_C tab_ok (fun K hk => hk)) ?_
  refine reg_nil ?_
  refine seq_n ?_
  refine wc_seq ?_
  refine wc_seq ?_
  refine wc_region ?_
  refine reg_quiet rfl (step_C tab_ok (fun K hk => hk)) ?_
  refine reg_quiet rfl (step_C tab_ok (fun K hk => hk)) ?_
  refine reg_quiet rfl (step_C tab_ok (fun K hk => hk)) ?_
  refine reg_on rfl rfl rfl ?_
  refine reg_quiet rfl (step_C tab_ok (fun K hk => hk)) ?_
  refine reg_on rfl rfl rfl ?_
  refine reg_quiet rfl (step_C tab_ok (fun K hk => hk)) ?_
  refine reg_quiet rfl (pick_F tab_ok rfl rfl rfl) ?_
  refine reg_quiet rfl (step_C tab_ok (fun K hk => hk)) ?_
  refine reg_on rfl rfl rfl ?_
  refine reg_quiet rfl (step_C tab_ok (fun K hk => hk)) ?_
  refine reg_on rfl rfl rfl ?_
  refine reg_quiet rfl (step_C tab_ok (fun K hk => hk)) ?_
  refine reg_quiet rfl (pick_F tab_ok rfl rfl rfl) ?_
  refine reg_quiet rfl (step_C tab_ok (fun K hk => hk)) ?_
  refine reg_on rfl rfl rfl ?_
  refine reg_quiet rfl (step_C tab_ok (fun K hk => hk)) ?_
  refine reg_on rfl rfl rfl ?_
  refine reg_quiet rfl (step_C tab_ok (fun K hk => hk)) ?_
  refine reg_quiet rfl (pick_F tab_ok rfl rfl rfl) ?_
  refine reg_quiet rfl (step_C tab_ok (fun K hk => hk)) ?_
  refine reg_on rfl rfl rfl ?_
  refine reg_quiet rfl (step_C tab_ok (fun K hk => hk)) ?_
  refine reg_on rfl rfl rfl ?_
  refine reg_quiet rfl (step_C tab_ok (fun K hk => hk)) ?_
  refine reg_quiet rfl (pick_F tab_ok rfl rfl rfl) ?_
  refine reg_quiet rfl (step_C tab_ok (fun K hk => hk)) ?_
  refine reg_on rfl rfl rfl ?_
  refine reg_quiet rfl (step_C tab_ok (fun K hk => hk)) ?_
  refine reg_on rfl rfl rfl ?_
  refine reg_quiet rfl (step_C tab_ok (fun K hk => hk)) ?_
  refine reg_quiet rfl (pick_F tab_ok rfl rfl rfl) ?_
  refine reg_quiet rfl (step_C tab_ok (fun K hk => hk)) ?_
  refine reg_on rfl rfl rfl ?_
  refine reg_quiet rfl (step_C tab_ok (fun K hk => hk)) ?_
  refine reg_on rfl rfl rfl ?_
  refine reg_quiet rfl (step_C tab_ok (fun K hk => hk)) ?_
  refine reg_quiet rfl (pick_F tab_ok rfl rfl rfl) ?_
  refine reg_quiet rfl (step_C tab_ok (fun K hk => hk)) ?_
  refine reg_on rfl rfl rfl ?_
  refine reg_quiet rfl (step_C tab_ok (fun K hk => hk)) ?_
  refine reg_on rfl rfl rfl ?_
  refine reg_quiet rfl (step_C tab_ok (fun K hk => hk)) ?_
  refine reg_quiet rfl (pick_F tab_ok rfl rfl rfl) ?_
  refine reg_quiet rfl (step_C tab_ok (fun K hk => hk)) ?_
  refine reg_on rfl rfl rfl ?_
  refine reg_quiet rfl (step_C tab_ok (fun K hk => hk)) ?_
  refine reg_on rfl rfl rfl ?_
  refine reg_quiet rfl (load_box tab_ok rfl rfl rfl rfl) ?_
  refine reg_on rfl rfl rfl ?_
  refine reg_quiet rfl (len_own tab_ok rfl rfl) ?_
  refine reg_on rfl rfl rfl ?_
  refine reg_quiet rfl (step_C tab_ok (fun K hk => hk)) ?_
  refine reg_quiet rfl (pick_F tab_ok rfl rfl rfl) ?_
  refine reg_quiet rfl (step_C tab_ok (fun K hk => hk)) ?_
  refine reg_on rfl rfl rfl ?_
  refine reg_quiet rfl (step_C tab_ok (fun K hk => hk)) ?_
  refine reg_on rfl rfl rfl ?_
  refine reg_quiet rfl (load_box tab_ok rfl rfl rfl rfl) ?_
  refine reg_on rfl rfl rfl ?_
  refine reg_quiet rfl (len_own tab_ok rfl rfl) ?_
  refine reg_on rfl rfl rfl ?_
  refine reg_quiet rfl (step_C tab_ok (fun K hk => hk)) ?_
  refine reg_quiet rfl (pick_F tab_ok rfl rfl rfl) ?_
  refine reg_quiet rfl (step_C tab_ok (fun K hk => hk)) ?_
  refine reg_on rfl rfl rfl ?_
  refine reg_quiet rfl (step_C tab_ok (fun K hk => hk)) ?_
  refine reg_on rfl rfl rfl ?_
  refine reg_quiet rfl (load_box tab_ok rfl rfl rfl rfl) ?_
  refine reg_on rfl rfl rfl ?_
  refine reg_quiet rfl (len_own tab_ok rfl rfl) ?_
  refine reg_on rfl rfl rfl ?_
  refine reg_quiet rfl (step_C tab_ok (fun K hk => hk)) ?_
  refine reg_quiet rfl (pick_F tab_ok rfl rfl rfl) ?_
  refine reg_nil ?_
  refine seq_n ?_
  refine wc_false rfl rfl ?_
  refine wc_skip ?_
  refine seq_n ?_
  refine wc_seq ?_
  refine wc_le (env' := [(1, .ptr 64 []), (8, .ptr 66 []), (12, .ptr 68 []), (14, .ptr 70 []), (17, .ptr 72 [])]) (h' := [(64, some (.box 61 (ownS 65 3 0))), (65, some (.ds 39 40 false encFrame S)), (66, some (.box 61 (ownS 67 2 0))), (67, some (.ds 39 40 false encFrame F)), (68, some (.box 61 (ownS 69 3 0))), (69, some (.ds 39 40 true encFrame W)), (70, some (.box 61 (ownS 71 3 0))), (71, some (.ds 39 40 true encFrame B)), (72, some (.box 61 (ownS 73 3 0))), (73, some (.ds 39 40 true encFrame C))]) 80 [(64, some 64), (65, some 65), (66, some 66), (67, some 67), (68, some 68), (69, some 69), (70, some 120), (71, some 80), (72, some 192), (73, some 160)] (.of rfl rfl rfl rfl rfl ⟨⟨_, rfl, .refl _⟩, rfl, ⟨_, rfl, .refl _⟩, rfl, ⟨_, rfl, .refl _⟩, rfl, ⟨_, rfl, .refl _⟩, rfl, ⟨_, rfl, .refl _⟩, rfl, trivial⟩ ⟨⟨rfl, rfl, _, rfl, .refl _⟩, ⟨rfl, rfl, _, rfl, .refl _⟩, ⟨rfl, rfl, _, rfl, .refl _⟩, ⟨rfl, rfl, _, rfl, .refl _⟩, ⟨rfl, rfl, _, rfl, .refl _⟩, ⟨rfl, rfl, _, rfl, .refl _⟩, ⟨rfl, rfl, _, rfl, .refl _⟩, ⟨rfl, rfl, _, rfl, .refl _⟩, ⟨rfl, rfl, _, rfl, .refl _⟩, ⟨rfl, rfl, _, rfl, .refl _⟩, trivial⟩) ?_
  refine wc_seq ?_
  refine wc_draw (by kernel_rfl) ?_
  refine dreg_q [12] [68, 69] rfl (step_C tab_ok (fun K hk => hk)) ?_
  refine dreg_q [202] [68, 69] rfl (load_box tab_ok rfl rfl rfl rfl) ?_
  refine dreg_q [203] [69] rfl (index_own tab_ok rfl rfl rfl rfl rfl (by decide) (by decide)) ?_
  refine dreg_q [204] [69] rfl (step_C tab_ok (fun K hk => hk)) ?_
  refine dreg_q [205] [69] rfl (load_row (v := .d (encNonce w.nonce)) tab_ok rfl rfl ⟨rfl, w, hw2, encNonce w.nonce, rfl, rfl⟩ rfl) ?_
  refine dreg_q [1] [64, 65] rfl (step_C tab_ok (fun K hk => hk)) ?_
  refine dreg_q [207] [64, 65] rfl (load_box tab_ok rfl rfl rfl rfl) ?_
  refine dreg_q [208] [65] rfl (index_own tab_ok rfl rfl rfl rfl rfl (by decide) (by decide)) ?_
  refine dreg_q [209] [65] rfl (step_C tab_ok (fun K hk => hk)) ?_
  refine dreg_q [210] [65] rfl (load_row (v := .d (encNonce c.nonce)) tab_ok rfl rfl ⟨rfl, c, hs2, encNonce c.nonce, rfl, rfl⟩ rfl) ?_
  refine dreg_q [206, 211] [] rfl (neq_data rfl rfl rfl rfl (by kernel_rfl) (by decide) (nonce_eq w.nonce c.nonce)) ?_
  refine dreg_q [212] [] rfl (step_C tab_ok (fun K hk => hk)) ?_
  refine dreg_onq [213, 12] [68, 69] rfl rfl (by assumption) rfl (step_C tab_ok (fun K hk => hk)) ?_
  refine dreg_onq [213, 214] [68, 69] rfl rfl (by assumption) rfl (load_box tab_ok rfl rfl rfl rfl) ?_
  refine dreg_onq [213, 215] [69] rfl rfl (by assumption) rfl (index_own tab_ok rfl rfl rfl rfl rfl (by decide) (by decide)) ?_
  refine dreg_onq [213, 216] [69] rfl rfl (by assumption) rfl (step_C tab_ok (fun K hk => hk)) ?_
  refine dreg_onq [213, 217] [69] rfl rfl (by assumption) rfl (load_row (v := .d (bo w.ref)) tab_ok rfl rfl ⟨rfl, w, hw2, bo w.ref, rfl, rfl⟩ rfl) ?_
  refine dreg_onq [213, 218] [] rfl rfl (by assumption) rfl (step_C tab_ok (fun K hk => hk)) ?_
  refine dreg_q [213, 219] [] rfl (pick_F tab_ok rfl (by assumption) rfl) ?_
  refine dreg_q [220] [] rfl (step_C tab_ok (fun K hk => hk)) ?_
  refine dreg_onq [221, 12] [68, 69] rfl rfl (by assumption) rfl (step_C tab_ok (fun K hk => hk)) ?_
  refine dreg_onq [221, 222] [68, 69] rfl rfl (by assumption) rfl (load_box tab_ok rfl rfl rfl rfl) ?_
  refine dreg_onq [221, 223] [69] rfl rfl (by assumption) rfl (index_own tab_ok rfl rfl rfl rfl rfl (by decide) (by decide)) ?_
  refine dreg_onq [221, 224] [69] rfl rfl (by assumption) rfl (step_C tab_ok (fun K hk => hk)) ?_
  refine dreg_onq [221, 225] [69] rfl rfl (by assumption) rfl (load_row (v := .d (encBlock w.data)) tab_ok rfl rfl ⟨rfl, w, hw2, encBlock w.data, rfl, rfl⟩ rfl) ?_
  refine dreg_onq [221] [] rfl rfl (by assumption) rfl (call_r (data_is 50) rfl rfl (arg_e arg_nil) (.inl rfl) (fun _ => rfl)) ?_
  refine dreg_onq [221, 226, 227] [] rfl rfl (by assumption) rfl (neq_data rfl rfl rfl rfl (by kernel_rfl) (by decide) (block_eq w.data (dataB 50))) ?_
  refine dreg_q [221, 228] [] rfl (pick_F tab_ok rfl (by assumption) rfl) ?_
  refine dreg_q [229] [] rfl (step_C tab_ok (fun K hk => hk)) ?_
  refine dreg_onq [230, 14] [70, 71] rfl rfl (by assumption) rfl (step_C tab_ok (fun K hk => hk)) ?_
  refine dreg_onq [230, 231] [70, 71] rfl rfl (by assumption) rfl (load_box tab_ok rfl rfl rfl rfl) ?_
  refine dreg_onq [230, 232] [71] rfl rfl (by assumption) rfl (index_own tab_ok rfl rfl rfl rfl rfl (by decide) (by decide)) ?_
  refine dreg_onq [230, 233] [71] rfl rfl (by assumption) rfl (step_C tab_ok (fun K hk => hk)) ?_
  refine dreg_onq [230, 234] [71] rfl rfl (by assumption) rfl (load_row (v := .d (bo b.busy)) tab_ok rfl rfl ⟨rfl, b, hb2, bo b.busy, rfl, rfl⟩ rfl) ?_
  refine dreg_onq [230, 235] [] rfl rfl (by assumption) rfl (step_C tab_ok (fun K hk => hk)) ?_
  refine dreg_q [230, 236] [] rfl (pick_F tab_ok rfl (by assumption) rfl) ?_
  refine dreg_q [237] [] rfl (step_C tab_ok (fun K hk => hk)) ?_
  refine dreg_onq [238, 17] [72, 73] rfl rfl (by assumption) rfl (step_C tab_ok (fun K hk => hk)) ?_
  refine dreg_onq [238, 239] [72, 73] rfl rfl (by assumption) rfl (load_box tab_ok rfl rfl rfl rfl) ?_
  refine dreg_onq [238, 240] [73] rfl rfl (by assumption) rfl (index_own tab_ok rfl rfl rfl rfl rfl (by decide) (by decide)) ?_
  refine dreg_onq [238, 241] [73] rfl rfl (by assumption) rfl (load_row (v := .d (encFrame z)) tab_ok rfl rfl ⟨rfl, z, hz2, encFrame z, rfl, rfl⟩ rfl) ?_
  refine dreg_onq [238, 242] [] rfl rfl (by assumption) rfl (call_r (evictable_is z) rfl rfl (arg_e arg_nil) (.inl rfl) (fun _ => rfl)) ?_
  refine dreg_onq [238, 243] [] rfl rfl (by assumption) rfl (step_C tab_ok (fun K hk => hk)) ?_
  refine dreg_q [238, 244] [] rfl (pick_F tab_ok rfl (by assumption) rfl) ?_
  refine dreg_q [245] [] rfl (step_C tab_ok (fun K hk => hk)) ?_
  refine dreg_onq [246, 17] [72, 73] rfl rfl (by assumption) rfl (step_C tab_ok (fun K hk => hk)) ?_
  refine dreg_onq [246, 247] [72, 73] rfl rfl (by assumption) rfl (load_box tab_ok rfl rfl rfl rfl) ?_
  refine dreg_onq [246, 248] [73] rfl rfl (by assumption) rfl (index_own tab_ok rfl rfl rfl rfl rfl (by decide) (by decide)) ?_
  refine dreg_onq [246, 249] [73] rfl rfl (by assumption) rfl (step_C tab_ok (fun K hk => hk)) ?_
  refine dreg_onq [246, 250] [73] rfl rfl (by assumption) rfl (load_row (v := .d (encNonce z.nonce)) tab_ok rfl rfl ⟨rfl, z, hz2, encNonce z.nonce, rfl, rfl⟩ rfl) ?_
  refine dreg_onq [246] [] rfl rfl (by assumption) rfl (build_struct tab_ok rfl rfl rfl rfl) ?_
  refine dreg_onq [246, 251, 252] [] rfl rfl (by assumption) rfl (neq_data rfl rfl rfl rfl (by kernel_rfl) (by decide) (nonce_eq z.nonce zeroNonce)) ?_
  refine dreg_q [246, 253] [] rfl (pick_F tab_ok rfl (by assumption) rfl) ?_
  refine dreg_q [254] [] rfl (step_C tab_ok (fun K hk => hk)) ?_
  refine dreg_onq [255, 17] [72, 73] rfl rfl (by assumption) rfl (step_C tab_ok (fun K hk => hk)) ?_
  refine dreg_onq [255, 256] [72, 73] rfl rfl (by assumption) rfl (load_box tab_ok rfl rfl rfl rfl) ?_
  refine dreg_onq [255, 257] [73] rfl rfl (by assumption) rfl (index_own tab_ok rfl rfl rfl rfl rfl (by decide) (by decide)) ?_
  refine dreg_onq [255, 258] [73] rfl rfl (by assumption) rfl (step_C tab_ok (fun K hk => hk)) ?_
  refine dreg_onq [255, 259] [73] rfl rfl (by assumption) rfl (load_row (v := .d (encBlock z.data)) tab_ok rfl rfl ⟨rfl, z, hz2, encBlock z.data, rfl, rfl⟩ rfl) ?_
  refine dreg_onq [255, 1] [64, 65] rfl rfl (by assumption) rfl (step_C tab_ok (fun K hk => hk)) ?_
  refine dreg_onq [255, 261] [64, 65] rfl rfl (by assumption) rfl (load_box tab_ok rfl rfl rfl rfl) ?_
  refine dreg_onq [255, 262] [65] rfl rfl (by assumption) rfl (index_own tab_ok rfl rfl rfl rfl rfl (by decide) (by decide)) ?_
  refine dreg_onq [255, 263] [65] rfl rfl (by assumption) rfl (step_C tab_ok (fun K hk => hk)) ?_
  refine dreg_onq [255, 264] [65] rfl rfl (by assumption) rfl (load_row (v := .d (encBlock c.data)) tab_ok rfl rfl ⟨rfl, c, hs2, encBlock c.data, rfl, rfl⟩ rfl) ?_
  refine dreg_onq [255, 260, 265] [] rfl rfl (by assumption) rfl (neq_data rfl rfl rfl rfl (by kernel_rfl) (by decide) (block_eq z.data c.data)) ?_
  refine dreg_q [255, 266] [] rfl (pick_F tab_ok rfl (by assumption) rfl) ?_
  refine dreg_end (by kernel_rfl) ?_
  refine seq_n ?_
  refine wc_false rfl (by assumption) ?_
  refine wc_skip ?_
  refine seq_n ?_
  refine wc_le (env' := [(8, .ptr 64 [])]) (h' := [(64, some (.box 61 (ownS 65 2 0))), (65, some (.ds 39 40 false encFrame F))]) 72 [(64, some 66), (65, some 67)] (.of rfl rfl rfl rfl rfl ⟨⟨_, rfl, .refl _⟩, rfl, trivial⟩ ⟨⟨rfl, rfl, _, rfl, .refl _⟩, ⟨rfl, rfl, _, rfl, .refl _⟩, trivial⟩) ?_
  refine wc_seq ?_
  refine wc_region ?_
  refine reg_new (build_list (enc := encU8) (s := 1) (xs := [5, 4]) tab_ok rfl rfl rfl rfl rfl rfl rfl rfl rfl (fun _ => rfl) rfl) rfl ?_
  refine reg_quiet rfl (build_struct tab_ok rfl rfl rfl rfl) ?_
  refine reg_quiet rfl (build_struct tab_ok rfl rfl rfl rfl) ?_
  refine reg_new (call_new hZ rfl rfl (arg_Sx rfl rfl arg_nil) (.inr (copied_plain _ _ _)) rfl rfl) rfl ?_
  refine reg_new (step_C tab_ok (fun K hk => hk)) rfl ?_
  refine reg_store (store_row tab_ok rfl rfl rfl ⟨_, ⟨rfl, rfl, rfl⟩, rfl⟩ rfl) ?_
  refine reg_nil ?_
  refine seq_n ?_
  refine wc_seq ?_
  refine wc_region ?_
  refine reg_quiet rfl (load_box tab_ok rfl rfl rfl rfl) ?_
  refine reg_quiet rfl (call_r hR1 rfl rfl (arg_S rfl hlF (arg_e arg_nil)) (.inr (bool_plain _)) (fun _ => rfl)) ?_
  refine reg_quiet rfl (step_C tab_ok (fun K hk => hk)) ?_
  refine reg_on rfl rfl rfl ?_
  refine reg_quiet rfl (load_box tab_ok rfl rfl rfl rfl) ?_
  refine reg_on rfl rfl rfl ?_
  refine reg_quiet rfl (call_r hR2 rfl rfl (arg_S rfl hlF (arg_e arg_nil)) (.inr (bool_plain _)) (fun _ => rfl)) ?_
  refine reg_on rfl rfl rfl ?_
  refine reg_quiet rfl (step_C tab_ok (fun K hk => hk)) ?_
  refine reg_quiet rfl (pick_T tab_ok rfl rfl rfl) ?_
  refine reg_quiet rfl (step_C tab_ok (fun K hk => hk)) ?_
  refine reg_on rfl rfl rfl ?_
  refine reg_quiet rfl (load_box tab_ok rfl rfl rfl rfl) ?_
  refine reg_on rfl rfl rfl ?_
  refine reg_quiet rfl (call_r hH rfl rfl (arg_S rfl hlZ (arg_e arg_nil)) (.inr (bool_plain _)) (fun _ => rfl)) ?_
  refine reg_quiet rfl (pick_T tab_ok rfl rfl rfl) ?_
  refine reg_quiet rfl (step_C tab_ok (fun K hk => hk)) ?_
  refine reg_on rfl rfl rfl ?_
  refine reg_quiet rfl (load_box tab_ok rfl rfl rfl rfl) ?_
  refine reg_on rfl rfl rfl ?_
  refine reg_quiet rfl (call_r hL rfl rfl (arg_S rfl hlZ (arg_e arg_nil)) (.inr (bool_plain _)) (fun _ => rfl)) ?_
  refine reg_on rfl rfl rfl ?_
  refine reg_quiet rfl (step_C tab_ok (fun K hk => hk)) ?_
  refine reg_quiet rfl (pick_T tab_ok rfl rfl rfl) ?_
  refine reg_quiet rfl (step_C tab_ok (fun K hk => hk)) ?_
  refine reg_nil ?_
  refine seq_n ?_
  refine wc_ret ?_
  exact ⟨trivial, [], .of rfl rfl rfl rfl rfl ⟨⟨_, rfl, AVLe.of_eq rfl⟩, rfl, trivial⟩ trivial⟩
end Go.Proofs.Ytmdfeekpehcieaa

/- Shards: the examples of the chapter. -/
namespace Go.Proofs.Ytmdfeekpehcieaa
open Go.Eng
set_option maxRecDepth 4000
def xT : List Frame := placeL sampleS 0 7 true
def xU : List Frame := placeL xT 0 8 false
def xF : List Frame := ofS [5, 3]
def xW : List Frame := updL (writeG (dataB 50) ⟨3, 0⟩) sampleS 2
def xB : List Frame := beginL sampleS
def xC : List Frame := updL cleanG xB 2
def xZ : List Frame := ofS [5, 4]
theorem by53 : Bytes [5, 3] := by intro a ha; simp at ha; omega
theorem by54 : Bytes [5, 4] := by intro a ha; simp at ha; omega
theorem some_getD {l : List Frame} {i : Nat} (h : i < l.length) : l[i]? = some (l[i]?.getD zeroFrame) := by simp [h]
theorem shlives_is : FnIs Try.prog 37 [] [] (.bool true) [] := by
  have hS : FnIs Try.prog 65 [] [] (ownS 64 3 0) [(64, .ds 39 40 false encFrame sampleS)] := sample_is
  have l1 : sampleS.length = 3 := by decide +kernel
  have l2 : xT.length = 3 := by decide +kernel
  have l3 : xF.length = 2 := by decide +kernel
  have l4 : xB.length = 3 := by decide +kernel
  have l5 : xZ.length = 2 := by decide +kernel
  have hP1 : FnIs Try.prog 34 [.d (encS sampleS 0), .d (i6 7), .bool true] [] (tup3 (ownS 64 3 0) (.int .i64 1) (.int .i64 0)) [(64, .ds 39 40 true encFrame xT)] := by
    have h := place_ok sampleS 0 7 true (by decide +kernel) (by decide +kernel) (by decide +kernel) (by decide +kernel)
    rw [l1, show vAfter sampleS 0 = 0 by decide +kernel, show vAt sampleS 0 = 1 by decide +kernel] at h
    exact h
  have hP2 : FnIs Try.prog 34 [.d (encS xT 0), .d (i6 8), .bool false] [] (tup3 (ownS 64 3 1) (.int .i64 0) (.int .i64 0)) [(64, .ds 39 40 true encFrame xU)] := by
    have h := place_ok xT 0 8 false (by decide +kernel) (by decide +kernel) (by decide +kernel) (by decide +kernel)
    rw [l2, show vAfter xT 0 = 1 by decide +kernel, show vAt xT 0 = 0 by decide +kernel] at h
    exact h
  have hF : FnIs Try.prog 32 [.d (encSx [5, 3] 0)] [] (ownS 64 2 0) [(64, .ds 39 40 false encFrame xF)] := by
    have h := ofS_is [5, 3] 0 by53 ⟨by decide, by decide⟩
    rw [show (ofS [5, 3]).length = 2 by decide +kernel] at h
    exact h
  have hZ : FnIs Try.prog 32 [.d (encSx [5, 4] 0)] [] (ownS 64 2 0) [(64, .ds 39 40 false encFrame xZ)] := by
    have h := ofS_is [5, 4] 0 by54 ⟨by decide, by decide⟩
    rw [show (ofS [5, 4]).length = 2 by decide +kernel] at h
    exact h
  have hP3 : FnIs Try.prog 34 [.d (encS sampleS 0), .d (i6 2), .bool true] [] (err3 12) [] := place_twice sampleS 0 2 true (by decide +kernel) (by decide +kernel) (by decide +kernel)
  have hP4 : FnIs Try.prog 34 [.d (encS xF 0), .d (i6 5), .bool true] [] (err3 11) [] := place_none xF 0 5 true (by decide +kernel) (by decide +kernel) (by decide +kernel) (by decide +kernel)
  have hP5 : FnIs Try.prog 34 [.d (encS sampleS 0), .d (i6 4096), .bool true] [] (err3 1) [] := place_blk sampleS 0 4096 true (by decide +kernel) (by decide +kernel)
  have hW : FnIs Try.prog 66 [.d (encS sampleS 0), .d (i6 2), .d (encBlock (dataB 50)), .d (encNonce ⟨3, 0⟩)] [] (ok2 3 0) [(64, .ds 39 40 true encFrame xW)] := by
    have h := write_good (dataB 50) ⟨3, 0⟩ sampleS 0 2 (by decide +kernel)
    rw [l1] at h
    exact h
  have hB : FnIs Try.prog 48 [.d (encS sampleS 0)] [] (tup3 (ownS 64 3 0) (.int .i64 2) (.int .i64 0)) [(64, .ds 39 40 true encFrame xB)] := by
    have h := begin_ok sampleS 0 (by decide +kernel) (by decide +kernel)
    rw [l1, show wAt sampleS = 2 by decide +kernel] at h
    exact h
  have hC : FnIs Try.prog 67 [.d (encS xB 0), .d (i6 2)] [] (ok2 3 0) [(64, .ds 39 40 true encFrame xC)] := by
    have h := clean_good xB 0 2 (by decide +kernel)
    rw [l4] at h
    exact h
  have hC2 : FnIs Try.prog 67 [.d (encS sampleS 0), .d (i6 2)] [] (err2 10) [] := by
    have h := clean_bad sampleS 0 2 (by decide +kernel)
    rw [show actE cleanP sampleS 0 2 = 10 by decide +kernel] at h
    exact h
  have hR1 : FnIs Try.prog 43 [.d (encS xF 0), .d (i6 1)] [] (.bool true) [] := by
    have h := room_is xF 0 1 (by omega)
    rw [show ((xF.any fun f => !f.used || evB f) || (xF.any fun f => f.used && decide (f.block = 1) && true)) = true by decide +kernel] at h
    exact h
  have hR2 : FnIs Try.prog 43 [.d (encS xF 0), .d (i6 2)] [] (.bool false) [] := by
    have h := room_is xF 0 2 (by omega)
    rw [show ((xF.any fun f => !f.used || evB f) || (xF.any fun f => f.used && decide (f.block = 2) && true)) = false by decide +kernel] at h
    exact h
  have hH : FnIs Try.prog 42 [.d (encS xZ 0), .d (i6 1)] [] (.bool true) [] := by
    have h := held_is xZ 0 1 (by omega)
    rw [show (xZ.any fun f => f.used && decide (f.block = 1) && (f.loading || f.busy)) = true by decide +kernel] at h
    exact h
  have hL : FnIs Try.prog 40 [.d (encS xZ 0), .d (i6 1)] [] (.bool false) [] := by
    have h := loading_is xZ 0 1 (by omega)
    rw [show (xZ.any fun f => f.used && decide (f.block = 1) && f.loading) = false by decide +kernel] at h
    exact h
  exact shlives_core sampleS xT xU xF xW xB xC xZ (oneF 1 0) (oneF 3 2) (wr (dataB 50) ⟨3, 0⟩ (oneF 3 2)) { oneF 3 2 with busy := true } (cleanG { oneF 3 2 with busy := true })
    hS hP1 hP2 hF hP3 hP4 hP5 hW hB hC hC2 hZ hR1 hR2 hH hL l1.symm l2.symm l3.symm l4.symm l5.symm
    (by decide +kernel) (by decide +kernel) (by decide +kernel) (by decide +kernel) (by decide +kernel) (by decide +kernel) (by decide +kernel) (by decide +kernel) (by decide +kernel)
    (by decide +kernel) (by decide +kernel) (by decide +kernel) (by decide +kernel) (by decide +kernel) (by decide +kernel) (by decide +kernel) (by decide +kernel) (by decide +kernel) (by decide +kernel) (by decide +kernel)
end Go.Proofs.Ytmdfeekpehcieaa
