/- What is asked of shards and how a block gets a frame. -/
import Derived.Test.YtmdfeekpehcieaaSD
import Derived.Test.YtmdfeekpehcieaaFC
import Derived.Test.YtmdfeekpehcieaaSA

set_option linter.unusedVariables false
set_option linter.unusedSimpArgs false

/- ShardsAsks: questions about blocks are answered as the definition says. -/
namespace Go.Proofs.Ytmdfeekpehcieaa
open Go.Eng
set_option maxHeartbeats 2000000
attribute [local irreducible] WC RegS RegD SeqQ BlkQ ScoQ RegK CutK Sat SatN FnIs LoopQ StepIs OpIs
def askI (l : List Frame) (block q : Int) : Int := if l.any (askP block q) = true then 1 else if decide (q = 2) = true then (if (l.any fun f => !f.used || evB f) = true then 1 else 0) else 0
theorem ask0 (l : List Frame) (block : Int) : ((l.any fun f => f.used && decide (f.block = block) && f.loading) != decide (askI l block 0 = 1)) = false := by
  have : askP block 0 = fun f => f.used && decide (f.block = block) && f.loading := by funext f; simp [askP]
  rw [askI, this]
  cases l.any fun f => f.used && decide (f.block = block) && f.loading <;> simp
theorem ask1 (l : List Frame) (block : Int) : ((l.any fun f => f.used && decide (f.block = block) && (f.loading || f.busy)) != decide (askI l block 1 = 1)) = false := by
  have : askP block 1 = fun f => f.used && decide (f.block = block) && (f.loading || f.busy) := by funext f; simp [askP]
  rw [askI, this]
  cases l.any fun f => f.used && decide (f.block = block) && (f.loading || f.busy) <;> simp
theorem ask2 (l : List Frame) (block : Int) : (((l.any fun f => !f.used || evB f) || (l.any fun f => f.used && decide (f.block = block) && true)) != decide (askI l block 2 = 1)) = false := by
  have : askP block 2 = fun f => f.used && decide (f.block = block) && true := by funext f; simp [askP]
  rw [askI, this]
  cases l.any fun f => f.used && decide (f.block = block) && true <;> cases l.any fun f => !f.used || evB f <;> simp
theorem shardsAsks_is (l m : List Frame) (h g block : Int) : FnIs Try.prog 10 [.d (encS l h), .d (encS m g), .d (i6 block)] [] (.bool true) [] := by
  refine fnIs_of tab_ok Try.func10 rfl rfl rfl ?_
  refine wc_seq ?_
  refine wc_region ?_
  refine reg_new (step_C tab_ok (fun K hk => hk)) rfl ?_
  refine reg_new (step_C tab_ok (fun K hk => hk)) rfl ?_
  refine reg_quiet rfl (step_C tab_ok (fun K hk => hk)) ?_
  refine reg_nil ?_
  refine seq_n ?_
  refine wc_seq ?_
  refine wc_seq_cut 19 (.bool (decide ((l.length : Int) > 70) || decide ((m.length : Int) > 70))) _ rfl ?_ ?_
  · refine reg_quiet rfl (step_C tab_ok (fun K hk => hk)) ?_
    refine reg_quiet rfl (load_box tab_ok rfl rfl ⟨_, rfl, rfl⟩ rfl) ?_
    refine reg_quiet rfl (len_arr tab_ok rfl rfl) ?_
    refine reg_quiet rfl (step_C tab_ok (fun K hk => hk)) ?_
    refine reg_quiet rfl (step_C tab_ok (fun K hk => hk)) ?_
    refine reg_split rfl rfl rfl (fun hb => ?_) (fun hb => ?_)
    refine reg_on rfl rfl (by assumption) ?_
    refine reg_quiet rfl (step_C tab_ok (fun K hk => hk)) ?_
    refine reg_on rfl rfl (by assumption) ?_
    refine reg_quiet rfl (load_box tab_ok rfl rfl ⟨_, rfl, rfl⟩ rfl) ?_
    refine reg_on rfl rfl (by assumption) ?_
    refine reg_quiet rfl (len_arr tab_ok rfl rfl) ?_
    refine reg_on rfl rfl (by assumption) ?_
    refine reg_quiet rfl (step_C tab_ok (fun K hk => hk)) ?_
    refine reg_quiet rfl (pick_F tab_ok rfl (by assumption) rfl) ?_
    rotate_left
    refine reg_skip rfl rfl (by assumption) rfl rfl ?_
    refine reg_skip rfl rfl (by assumption) rfl rfl ?_
    refine reg_skip rfl rfl (by assumption) rfl rfl ?_
    refine reg_skip rfl rfl (by assumption) rfl rfl ?_
    refine reg_quiet rfl (pick_T tab_ok rfl (by assumption) rfl) ?_
    rotate_left
    all_goals refine reg_cut 10 rfl rfl rfl rfl rfl rfl rfl rfl rfl (AVLe.of_eq ?_)
    all_goals (first | rfl | (simp_all; done) | (simp_all; omega))
  refine wc_cond rfl (fun hb => ?_) (fun hb => ?_)
  · refine wc_seq ?_
    refine wc_region ?_
    refine reg_quiet rfl (call_r shlives_is rfl rfl arg_nil (.inl rfl) (fun _ => rfl)) ?_
    refine reg_quiet rfl (step_C tab_ok (fun K hk => hk)) ?_
    refine reg_nil ?_
    refine seq_n ?_
    refine wc_ret ?_
    refine seq_r ?_
    exact ⟨trivial, [], .of rfl rfl rfl rfl rfl ⟨⟨_, rfl, AVLe.of_eq rfl⟩, rfl, trivial⟩ trivial⟩
  · have hl : l.length ≤ 1000000 := by rw [Bool.or_eq_false_iff] at hb; have := of_decide_eq_false hb.1; omega
    have hm : m.length ≤ 1000000 := by rw [Bool.or_eq_false_iff] at hb; have := of_decide_eq_false hb.2; omega
    have hF1 := found_eq (fun f => f.used && decide (f.block = block)) l
    have hM1 := at_eq (fun f => f.used && decide (f.block = block)) l
    have hA0 := ask0 l block
    have hA1 := ask1 l block
    have hA2 := ask2 l block
    have hS1 := one_eq2 (decide (h = g) && decide (l = m))
    have hS2 : (decide (h = h) && decide (l = l)) = true := by simp
    refine wc_skip ?_
    refine seq_n ?_
    refine wc_seq ?_
    refine wc_region ?_
    refine reg_quiet rfl (load_box tab_ok rfl rfl rfl rfl) ?_
    refine reg_quiet rfl (step_C tab_ok (fun K hk => hk)) ?_
    refine reg_quiet rfl (call_r (shfind_is l h block hl) rfl rfl (arg_e (arg_e arg_nil)) (.inl rfl) (fun _ => rfl)) ?_
    refine reg_quiet rfl (step_C tab_ok (fun K hk => hk)) ?_
    refine reg_quiet rfl (step_C tab_ok (fun K hk => hk)) ?_
    refine reg_quiet rfl (step_C tab_ok (fun K hk => hk)) ?_
    refine reg_quiet rfl (step_C tab_ok (fun K hk => hk)) ?_
    refine reg_quiet rfl (step_C tab_ok (fun K hk => hk)) ?_
    refine reg_nil ?_
    refine seq_n ?_
    refine wc_seq ?_
    refine wc_region ?_
    refine reg_quiet rfl (step_C tab_ok (fun K hk => hk)) ?_
    refine reg_quiet rfl (load_box tab_ok rfl rfl ⟨_, rfl, rfl⟩ rfl) ?_
    refine reg_quiet rfl (step_C tab_ok (fun K hk => hk)) ?_
    refine reg_quiet rfl (call_r (reffind_is l block hl) rfl rfl (arg_e (arg_e arg_nil)) (.inl rfl) (fun _ => rfl)) ?_
    refine reg_quiet rfl (step_C tab_ok (fun K hk => hk)) ?_
    refine reg_nil ?_
    refine seq_n ?_
    refine wc_seq ?_
    refine wc_seq ?_
    refine wc_region ?_
    refine reg_quiet rfl (step_C tab_ok (fun K hk => hk)) ?_
    refine reg_quiet rfl (step_C tab_ok (fun K hk => hk)) ?_
    refine reg_quiet rfl (step_C tab_ok (fun K hk => hk)) ?_
    refine reg_quiet rfl (step_C tab_ok (fun K hk => hk)) ?_
    refine reg_quiet rfl (step_C tab_ok (fun K hk => hk)) ?_
    refine reg_on rfl rfl (by assumption) ?_
    refine reg_quiet rfl (step_C tab_ok (fun K hk => hk)) ?_
    refine reg_on rfl rfl (by assumption) ?_
    refine reg_quiet rfl (step_C tab_ok (fun K hk => hk)) ?_
    refine reg_on rfl rfl (by assumption) ?_
    refine reg_quiet rfl (max_int rfl rfl rfl) ?_
    refine reg_on rfl rfl (by assumption) ?_
    refine reg_quiet rfl (step_C tab_ok (fun K hk => hk)) ?_
    refine reg_quiet rfl (pick_F tab_ok rfl (by assumption) rfl) ?_
    refine reg_nil ?_
    refine seq_n ?_
    refine wc_false rfl (by assumption) ?_
    refine wc_skip ?_
    refine seq_n ?_
    refine wc_seq ?_
    refine wc_seq ?_
    refine wc_draw (by kernel_rfl) ?_
    refine dreg_q [3] [64] rfl (load_box tab_ok rfl rfl rfl rfl) ?_
    refine dreg_q [2] [] rfl (step_C tab_ok (fun K hk => hk)) ?_
    refine dreg_q [41, 42] [] rfl (call_r (loading_is l h block hl) rfl rfl (arg_e (arg_e arg_nil)) (.inl rfl) (fun _ => rfl)) ?_
    refine dreg_q [3] [64] rfl (load_box tab_ok rfl rfl rfl rfl) ?_
    refine dreg_q [2] [] rfl (step_C tab_ok (fun K hk => hk)) ?_
    refine dreg_q [44, 45] [] rfl (call_r (asks_is l h block 0 hl) rfl rfl (arg_e (arg_e (arg_e arg_nil))) (.inl rfl) (fun _ => rfl)) ?_
    refine dreg_q [46] [] rfl (step_C tab_ok (fun K hk => hk)) ?_
    refine dreg_q [43, 47] [] rfl (step_C tab_ok (fun K hk => hk)) ?_
    refine dreg_q [48] [] rfl (step_C tab_ok (fun K hk => hk)) ?_
    refine dreg_onq [49, 3] [64] rfl rfl (by assumption) rfl (load_box tab_ok rfl rfl rfl rfl) ?_
    refine dreg_onq [49, 2] [] rfl rfl (by assumption) rfl (step_C tab_ok (fun K hk => hk)) ?_
    refine dreg_onq [49, 50, 51] [] rfl rfl (by assumption) rfl (call_r (held_is l h block hl) rfl rfl (arg_e (arg_e arg_nil)) (.inl rfl) (fun _ => rfl)) ?_
    refine dreg_onq [49, 3] [64] rfl rfl (by assumption) rfl (load_box tab_ok rfl rfl rfl rfl) ?_
    refine dreg_onq [49, 2] [] rfl rfl (by assumption) rfl (step_C tab_ok (fun K hk => hk)) ?_
    refine dreg_onq [49, 53, 54] [] rfl rfl (by assumption) rfl (call_r (asks_is l h block 1 hl) rfl rfl (arg_e (arg_e (arg_e arg_nil))) (.inl rfl) (fun _ => rfl)) ?_
    refine dreg_onq [49, 55] [] rfl rfl (by assumption) rfl (step_C tab_ok (fun K hk => hk)) ?_
    refine dreg_onq [49, 52, 56] [] rfl rfl (by assumption) rfl (step_C tab_ok (fun K hk => hk)) ?_
    refine dreg_q [49, 57] [] rfl (pick_F tab_ok rfl (by assumption) rfl) ?_
    refine dreg_q [58] [] rfl (step_C tab_ok (fun K hk => hk)) ?_
    refine dreg_onq [59, 3] [64] rfl rfl (by assumption) rfl (load_box tab_ok rfl rfl rfl rfl) ?_
    refine dreg_onq [59, 2] [] rfl rfl (by assumption) rfl (step_C tab_ok (fun K hk => hk)) ?_
    refine dreg_onq [59, 60, 61] [] rfl rfl (by assumption) rfl (call_r (room_is l h block hl) rfl rfl (arg_e (arg_e arg_nil)) (.inl rfl) (fun _ => rfl)) ?_
    refine dreg_onq [59, 3] [64] rfl rfl (by assumption) rfl (load_box tab_ok rfl rfl rfl rfl) ?_
    refine dreg_onq [59, 2] [] rfl rfl (by assumption) rfl (step_C tab_ok (fun K hk => hk)) ?_
    refine dreg_onq [59, 63, 64] [] rfl rfl (by assumption) rfl (call_r (asks_is l h block 2 hl) rfl rfl (arg_e (arg_e (arg_e arg_nil))) (.inl rfl) (fun _ => rfl)) ?_
    refine dreg_onq [59, 65] [] rfl rfl (by assumption) rfl (step_C tab_ok (fun K hk => hk)) ?_
    refine dreg_onq [59, 62, 66] [] rfl rfl (by assumption) rfl (step_C tab_ok (fun K hk => hk)) ?_
    refine dreg_q [59, 67] [] rfl (pick_F tab_ok rfl (by assumption) rfl) ?_
    refine dreg_end (by kernel_rfl) ?_
    refine seq_n ?_
    refine wc_false rfl (by assumption) ?_
    refine wc_skip ?_
    refine seq_n ?_
    refine wc_seq ?_
    refine wc_draw (by kernel_rfl) ?_
    refine dreg_q [3] [64] rfl (load_box tab_ok rfl rfl rfl rfl) ?_
    refine dreg_q [4] [72] rfl (load_box tab_ok rfl rfl rfl rfl) ?_
    refine dreg_q [69, 70] [] rfl (call_r (shsame_is l m h g hl hm) rfl rfl (arg_e (arg_e arg_nil)) (.inl rfl) (fun _ => rfl)) ?_
    refine dreg_q [3] [64] rfl (load_box tab_ok rfl rfl rfl rfl) ?_
    refine dreg_q [4] [72] rfl (load_box tab_ok rfl rfl rfl rfl) ?_
    refine dreg_q [72, 73] [] rfl (call_r (refshsame_is l m h g hl hm) rfl rfl (arg_e (arg_e arg_nil)) (.inl rfl) (fun _ => rfl)) ?_
    refine dreg_q [74] [] rfl (step_C tab_ok (fun K hk => hk)) ?_
    refine dreg_q [71, 75] [] rfl (step_C tab_ok (fun K hk => hk)) ?_
    refine dreg_q [76] [] rfl (step_C tab_ok (fun K hk => hk)) ?_
    refine dreg_onq [77, 3] [64] rfl rfl (by assumption) rfl (load_box tab_ok rfl rfl rfl rfl) ?_
    refine dreg_onq [77, 3] [64] rfl rfl (by assumption) rfl (load_box tab_ok rfl rfl rfl rfl) ?_
    refine dreg_onq [77, 78, 79] [] rfl rfl (by assumption) rfl (call_r (shsame_is l l h h hl hl) rfl rfl (arg_e (arg_e arg_nil)) (.inl rfl) (fun _ => rfl)) ?_
    refine dreg_q [77, 80] [] rfl (pick_T tab_ok rfl (by assumption) rfl) ?_
    refine dreg_q [81] [] rfl (step_C tab_ok (fun K hk => hk)) ?_
    refine dreg_onq [82] [] rfl rfl (by assumption) rfl (call_r shlives_is rfl rfl arg_nil (.inl rfl) (fun _ => rfl)) ?_
    refine dreg_q [82, 83] [] rfl (pick_T tab_ok rfl (by assumption) rfl) ?_
    refine dreg_q [84] [] rfl (step_C tab_ok (fun K hk => hk)) ?_
    refine dreg_end (by kernel_rfl) ?_
    refine seq_n ?_
    refine wc_ret ?_
    exact ⟨trivial, [], .of rfl rfl rfl rfl rfl ⟨⟨_, rfl, AVLe.of_eq rfl⟩, rfl, trivial⟩ trivial⟩
end Go.Proofs.Ytmdfeekpehcieaa

/- ShardsPlace: a block gets a frame as the definition says. -/
namespace Go.Proofs.Ytmdfeekpehcieaa
open Go.Eng
set_option maxHeartbeats 2000000
attribute [local irreducible] WC RegS RegD SeqQ BlkQ ScoQ RegK CutK Sat SatN FnIs LoopQ StepIs OpIs
abbrev sameI (h g : Int) (a b : List Frame) : Int := if (decide (h = g) && decide (a = b)) = true then 1 else 0
theorem same0 (h : Int) (a : List Frame) : decide (sameI h h a a = 0) = false := by simp [sameI]
theorem same1 (h : Int) (a : List Frame) : decide (sameI h h a a = 1) = true := by simp [sameI]
theorem refl_no (e : Int) : (!decide (e = e)) = false := by simp
theorem placeLaw_err (L : List Int) (hand : Int) (l : List Frame) (hd : Nat) (block : Int) (loading : Bool) (e : Int) (hO : FnIs Try.prog 32 [.d (encSx L hand)] [] (ownS 64 l.length hd) [(64, .ds 39 40 false encFrame l)]) (hlen : l.length ≤ 1000000)
    (hPe : FnIs Try.prog 34 [.d (encS l hd), .d (i6 block), .bool loading] [] (err3 e) []) (hQe : FnIs Try.prog 33 [.d (encS l hd), .d (i6 block), .bool loading] [] (err3 e) []) (he : decide (e = 0) = false) :
    FnIs Try.prog 9 [.d (encSx L hand), .d (i6 block), .bool loading] [] (.bool true) [] := by
  have h1 := refl_no e
  have h2 := same0 hd l
  have h3 : (!decide (e = 0)) = true := by rw [he]; rfl
  refine fnIs_of tab_ok Try.func9 rfl rfl rfl ?_
  refine wc_seq ?_
  refine wc_region ?_
  refine reg_new (step_C tab_ok (fun K hk => hk)) rfl ?_
  refine reg_quiet rfl (step_C tab_ok (fun K hk => hk)) ?_
  refine reg_nil ?_
  refine seq_n ?_
  refine wc_seq ?_
  refine wc_region ?_
  refine reg_quiet rfl (load_box tab_ok rfl rfl rfl rfl) ?_
  refine reg_new (call_new hO rfl rfl (arg_e arg_nil) (.inl rfl) rfl rfl) rfl ?_
  refine reg_new (step_C tab_ok (fun K hk => hk)) rfl ?_
  refine reg_store (store_row tab_ok rfl rfl rfl ⟨_, ⟨rfl, rfl, rfl⟩, rfl⟩ rfl) ?_
  refine reg_nil ?_
  refine seq_n ?_
  refine wc_seq ?_
  refine wc_region ?_
  refine reg_quiet rfl (load_box tab_ok rfl rfl rfl rfl) ?_
  refine reg_quiet rfl (step_C tab_ok (fun K hk => hk)) ?_
  refine reg_quiet rfl (step_C tab_ok (fun K hk => hk)) ?_
  refine reg_quiet rfl (call_r hQe rfl rfl (arg_S rfl rfl (arg_e (arg_e arg_nil))) (.inr (err3_plain _)) (fun _ => rfl)) ?_
  refine reg_quiet rfl (step_C tab_ok (fun K hk => hk)) ?_
  refine reg_quiet rfl (step_C tab_ok (fun K hk => hk)) ?_
  refine reg_quiet rfl (step_C tab_ok (fun K hk => hk)) ?_
  refine reg_quiet rfl (step_C tab_ok (fun K hk => hk)) ?_
  refine reg_new (step_C tab_ok (fun K hk => hk)) rfl ?_
  refine reg_store (store_row tab_ok rfl rfl rfl ⟨_, ⟨rfl, rfl, rfl⟩, rfl⟩ rfl) ?_
  refine reg_quiet rfl (step_C tab_ok (fun K hk => hk)) ?_
  refine reg_quiet rfl (step_C tab_ok (fun K hk => hk)) ?_
  refine reg_nil ?_
  refine seq_n ?_
  refine wc_seq ?_
  refine wc_region ?_
  refine reg_quiet rfl (load_box tab_ok rfl rfl rfl rfl) ?_
  refine reg_quiet rfl (step_C tab_ok (fun K hk => hk)) ?_
  refine reg_quiet rfl (step_C tab_ok (fun K hk => hk)) ?_
  refine reg_quiet rfl (call_r hPe rfl rfl (arg_S rfl rfl (arg_e (arg_e arg_nil))) (.inr (err3_plain _)) (fun _ => rfl)) ?_
  refine reg_quiet rfl (step_C tab_ok (fun K hk => hk)) ?_
  refine reg_quiet rfl (step_C tab_ok (fun K hk => hk)) ?_
  refine reg_quiet rfl (step_C tab_ok (fun K hk => hk)) ?_
  refine reg_quiet rfl (step_C tab_ok (fun K hk => hk)) ?_
  refine reg_new (step_C tab_ok (fun K hk => hk)) rfl ?_
  refine reg_store (store_row tab_ok rfl rfl rfl ⟨_, ⟨rfl, rfl, rfl⟩, rfl⟩ rfl) ?_
  refine reg_quiet rfl (step_C tab_ok (fun K hk => hk)) ?_
  refine reg_quiet rfl (step_C tab_ok (fun K hk => hk)) ?_
  refine reg_nil ?_
  refine seq_n ?_
  refine wc_seq ?_
  refine wc_seq ?_
  refine wc_draw (by kernel_rfl) ?_
  refine dreg_q [13] [] rfl (step_C tab_ok (fun K hk => hk)) ?_
  refine dreg_q [10] [] rfl (step_C tab_ok (fun K hk => hk)) ?_
  refine dreg_q [34, 35] [] rfl (step_C tab_ok (fun K hk => hk)) ?_
  refine dreg_q [36] [] rfl (step_C tab_ok (fun K hk => hk)) ?_
  refine dreg_onq [37, 12] [] rfl rfl (by assumption) rfl (step_C tab_ok (fun K hk => hk)) ?_
  refine dreg_onq [37, 9] [] rfl rfl (by assumption) rfl (step_C tab_ok (fun K hk => hk)) ?_
  refine dreg_onq [37, 38, 39] [] rfl rfl (by assumption) rfl (step_C tab_ok (fun K hk => hk)) ?_
  refine dreg_q [37, 40] [] rfl (pick_F tab_ok rfl (by assumption) rfl) ?_
  refine dreg_q [41] [] rfl (step_C tab_ok (fun K hk => hk)) ?_
  refine dreg_onq [42, 11] [272] rfl rfl rfl rfl (load_box tab_ok rfl rfl rfl rfl) ?_
  refine dreg_onq [42, 8] [176] rfl rfl rfl rfl (load_box tab_ok rfl rfl rfl rfl) ?_
  refine dreg_onq [42, 43, 44] [] rfl rfl rfl rfl (call_r lawsame_zero rfl rfl (arg_e (arg_e arg_nil)) (.inl rfl) (fun _ => rfl)) ?_
  refine dreg_onq [42, 45] [] rfl rfl rfl rfl (step_C tab_ok (fun K hk => hk)) ?_
  refine dreg_q [42, 46] [] rfl (pick_F tab_ok rfl rfl rfl) ?_
  refine dreg_q [47] [] rfl (step_C tab_ok (fun K hk => hk)) ?_
  refine dreg_onq [48, 7] [96, 88] rfl rfl rfl rfl (load_box tab_ok rfl rfl rfl rfl) ?_
  refine dreg_onq [48, 3] [64] rfl rfl rfl rfl (load_box tab_ok rfl rfl rfl rfl) ?_
  refine dreg_onw [48, 50] [] rfl rfl rfl rfl (call_new hO rfl rfl (arg_e arg_nil) (.inl rfl) rfl rfl) ?_
  refine dreg_onq [48, 49, 51] [88, 440] rfl rfl rfl rfl (call_r (refshsame_is l l hd hd hlen hlen) rfl rfl (arg_S rfl rfl (arg_S rfl rfl arg_nil)) (.inr (int_plain _ _)) (fun _ => rfl)) ?_
  refine dreg_onq [48, 52] [] rfl rfl rfl rfl (step_C tab_ok (fun K hk => hk)) ?_
  refine dreg_q [48, 53] [] rfl (pick_F tab_ok rfl rfl rfl) ?_
  refine dreg_end (by kernel_rfl) ?_
  refine seq_n ?_
  refine wc_false rfl (by assumption) ?_
  refine wc_skip ?_
  refine seq_n ?_
  refine wc_seq ?_
  refine wc_seq ?_
  refine wc_region ?_
  refine reg_quiet rfl (step_C tab_ok (fun K hk => hk)) ?_
  refine reg_quiet rfl (step_C tab_ok (fun K hk => hk)) ?_
  refine reg_quiet rfl (step_C tab_ok (fun K hk => hk)) ?_
  refine reg_skip rfl rfl (by assumption) rfl rfl ?_
  refine reg_skip rfl rfl (by assumption) rfl rfl ?_
  refine reg_skip rfl rfl (by assumption) rfl rfl ?_
  refine reg_skip rfl rfl (by assumption) rfl rfl ?_
  refine reg_skip rfl rfl (by assumption) rfl rfl ?_
  refine reg_skip rfl rfl (by assumption) rfl rfl ?_
  refine reg_quiet rfl (pick_T tab_ok rfl (by assumption) rfl) ?_
  refine reg_nil ?_
  refine seq_n ?_
  refine wc_true rfl rfl ?_
  refine wc_seq ?_
  refine wc_region ?_
  refine reg_quiet rfl (call_r shlives_is rfl rfl arg_nil (.inl rfl) (fun _ => rfl)) ?_
  refine reg_quiet rfl (step_C tab_ok (fun K hk => hk)) ?_
  refine reg_nil ?_
  refine seq_n ?_
  refine wc_ret ?_
  refine seq_r ?_
  exact ⟨trivial, [], .of rfl rfl rfl rfl rfl ⟨⟨_, rfl, AVLe.of_eq rfl⟩, rfl, trivial⟩ trivial⟩
theorem placeLaw_ok (L : List Int) (hand : Int) (l T : List Frame) (hd : Nat) (ha a : Int) (f : Frame) (block : Int) (loading : Bool) (hO : FnIs Try.prog 32 [.d (encSx L hand)] [] (ownS 64 l.length hd) [(64, .ds 39 40 false encFrame l)]) (hlen : l.length ≤ 1000000) (hlT : T.length ≤ 1000000)
    (hP : FnIs Try.prog 34 [.d (encS l hd), .d (i6 block), .bool loading] [] (tup3 (ownS 64 T.length ha) (.int .i64 a) (.int .i64 0)) [(64, .ds 39 40 true encFrame T)])
    (hQ : FnIs Try.prog 33 [.d (encS l hd), .d (i6 block), .bool loading] [] (tup3 (ownS 64 T.length ha) (.int .i64 a) (.int .i64 0)) [(64, .ds 39 40 false encFrame T)])
    (h0 : 0 ≤ a) (h1 : a < l.length) (hf : l[a.toNat]? = some f)
    (hD : f.used = false → FnIs Try.prog 38 [.d (encS T ha), .d (i6 a)] [] (ok2 l.length hd) [(64, .ds 39 40 true encFrame l)]) :
    FnIs Try.prog 9 [.d (encSx L hand), .d (i6 block), .bool loading] [] (.bool true) [] := by
  have n1 := refl_no a
  have n2 := same0 ha T
  have n3 := same0 hd l
  have n4 := same1 hd l
  cases hu : f.used with
  | true =>
    refine fnIs_of tab_ok Try.func9 rfl rfl rfl ?_
    refine wc_seq ?_
    refine wc_region ?_
    refine reg_new (step_C tab_ok (fun K hk => hk)) rfl ?_
    refine reg_quiet rfl (step_C tab_ok (fun K hk => hk)) ?_
    refine reg_nil ?_
    refine seq_n ?_
    refine wc_seq ?_
    refine wc_region ?_
    refine reg_quiet rfl (load_box tab_ok rfl rfl rfl rfl) ?_
    refine reg_new (call_new hO rfl rfl (arg_e arg_nil) (.inl rfl) rfl rfl) rfl ?_
    refine reg_new (step_C tab_ok (fun K hk => hk)) rfl ?_
    refine reg_store (store_row tab_ok rfl rfl rfl ⟨_, ⟨rfl, rfl, rfl⟩, rfl⟩ rfl) ?_
    refine reg_nil ?_
    refine seq_n ?_
    refine wc_seq ?_
    refine wc_region ?_
    refine reg_quiet rfl (load_box tab_ok rfl rfl rfl rfl) ?_
    refine reg_quiet rfl (step_C tab_ok (fun K hk => hk)) ?_
    refine reg_quiet rfl (step_C tab_ok (fun K hk => hk)) ?_
    refine reg_new (call_new hQ rfl rfl (arg_S rfl rfl (arg_e (arg_e arg_nil))) (.inr (ok3_plain _ _ _ _ _ _)) rfl rfl) rfl ?_
    refine reg_quiet rfl (step_C tab_ok (fun K hk => hk)) ?_
    refine reg_quiet rfl (step_C tab_ok (fun K hk => hk)) ?_
    refine reg_quiet rfl (step_C tab_ok (fun K hk => hk)) ?_
    refine reg_quiet rfl (step_C tab_ok (fun K hk => hk)) ?_
    refine reg_new (step_C tab_ok (fun K hk => hk)) rfl ?_
    refine reg_store (store_row tab_ok rfl rfl rfl ⟨_, ⟨rfl, rfl, rfl⟩, rfl⟩ rfl) ?_
    refine reg_quiet rfl (step_C tab_ok (fun K hk => hk)) ?_
    refine reg_quiet rfl (step_C tab_ok (fun K hk => hk)) ?_
    refine reg_nil ?_
    refine seq_n ?_
    refine wc_seq ?_
    refine wc_region ?_
    refine reg_quiet rfl (load_box tab_ok rfl rfl rfl rfl) ?_
    refine reg_quiet rfl (step_C tab_ok (fun K hk => hk)) ?_
    refine reg_quiet rfl (step_C tab_ok (fun K hk => hk)) ?_
    refine reg_new (call_new hP rfl rfl (arg_S rfl rfl (arg_e (arg_e arg_nil))) (.inr (ok3_plain _ _ _ _ _ _)) rfl rfl) rfl ?_
    refine reg_quiet rfl (step_C tab_ok (fun K hk => hk)) ?_
    refine reg_quiet rfl (step_C tab_ok (fun K hk => hk)) ?_
    refine reg_quiet rfl (step_C tab_ok (fun K hk => hk)) ?_
    refine reg_quiet rfl (step_C tab_ok (fun K hk => hk)) ?_
    refine reg_new (step_C tab_ok (fun K hk => hk)) rfl ?_
    refine reg_store (store_row tab_ok rfl rfl rfl ⟨_, ⟨rfl, rfl, rfl⟩, rfl⟩ rfl) ?_
    refine reg_quiet rfl (step_C tab_ok (fun K hk => hk)) ?_
    refine reg_quiet rfl (step_C tab_ok (fun K hk => hk)) ?_
    refine reg_nil ?_
    refine seq_n ?_
    refine wc_seq ?_
    refine wc_seq ?_
    refine wc_draw (by kernel_rfl) ?_
    refine dreg_q [13] [] rfl (step_C tab_ok (fun K hk => hk)) ?_
    refine dreg_q [10] [] rfl (step_C tab_ok (fun K hk => hk)) ?_
    refine dreg_q [34, 35] [] rfl (step_C tab_ok (fun K hk => hk)) ?_
    refine dreg_q [36] [] rfl (step_C tab_ok (fun K hk => hk)) ?_
    refine dreg_onq [37, 12] [] rfl rfl rfl rfl (step_C tab_ok (fun K hk => hk)) ?_
    refine dreg_onq [37, 9] [] rfl rfl rfl rfl (step_C tab_ok (fun K hk => hk)) ?_
    refine dreg_onq [37, 38, 39] [] rfl rfl rfl rfl (step_C tab_ok (fun K hk => hk)) ?_
    refine dreg_q [37, 40] [] rfl (pick_F tab_ok rfl rfl rfl) ?_
    refine dreg_q [41] [] rfl (step_C tab_ok (fun K hk => hk)) ?_
    refine dreg_onq [42, 11] [272, 232] rfl rfl (by assumption) rfl (load_box tab_ok rfl rfl rfl rfl) ?_
    refine dreg_onq [42, 8] [176, 136] rfl rfl (by assumption) rfl (load_box tab_ok rfl rfl rfl rfl) ?_
    refine dreg_on rfl rfl (by assumption) rfl (call_h [(0, some 232), (1, some 136)] (lawsame_is T T ha ha false hlT hlT) rfl rfl rfl (arg_giveS rfl rfl (arg_giveS rfl rfl arg_nil)) ⟨⟨rfl, rfl, _, _, rfl, rfl, .refl _⟩, ⟨rfl, rfl, _, _, rfl, rfl, .refl _⟩, trivial⟩ rfl rfl (.inl rfl) rfl rfl) rfl rfl ?_
    refine dreg_onq [42, 45] [] rfl rfl (by assumption) rfl (step_C tab_ok (fun K hk => hk)) ?_
    refine dreg_q [42, 46] [] rfl (pick_F tab_ok rfl (by assumption) rfl) ?_
    refine dreg_q [47] [] rfl (step_C tab_ok (fun K hk => hk)) ?_
    refine dreg_onq [48, 7] [96, 88] rfl rfl (by assumption) rfl (load_box tab_ok rfl rfl rfl rfl) ?_
    refine dreg_onq [48, 3] [64] rfl rfl (by assumption) rfl (load_box tab_ok rfl rfl rfl rfl) ?_
    refine dreg_onw [48, 50] [] rfl rfl (by assumption) rfl (call_new hO rfl rfl (arg_e arg_nil) (.inl rfl) rfl rfl) ?_
    refine dreg_onq [48, 49, 51] [88, 440] rfl rfl (by assumption) rfl (call_r (refshsame_is l l hd hd hlen hlen) rfl rfl (arg_S rfl rfl (arg_S rfl rfl arg_nil)) (.inr (int_plain _ _)) (fun _ => rfl)) ?_
    refine dreg_onq [48, 52] [] rfl rfl (by assumption) rfl (step_C tab_ok (fun K hk => hk)) ?_
    refine dreg_q [48, 53] [] rfl (pick_F tab_ok rfl (by assumption) rfl) ?_
    refine dreg_end (by kernel_rfl) ?_
    refine seq_n ?_
    refine wc_false rfl (by assumption) ?_
    refine wc_skip ?_
    refine seq_n ?_
    refine wc_seq ?_
    refine wc_seq ?_
    refine wc_region ?_
    refine reg_quiet rfl (step_C tab_ok (fun K hk => hk)) ?_
    refine reg_quiet rfl (step_C tab_ok (fun K hk => hk)) ?_
    refine reg_quiet rfl (step_C tab_ok (fun K hk => hk)) ?_
    refine reg_on rfl rfl rfl ?_
    refine reg_quiet rfl (step_C tab_ok (fun K hk => hk)) ?_
    refine reg_on rfl rfl rfl ?_
    refine reg_quiet rfl (load_box tab_ok rfl rfl rfl rfl) ?_
    refine reg_on rfl rfl rfl ?_
    refine reg_quiet rfl (step_C tab_ok (fun K hk => hk)) ?_
    refine reg_on rfl rfl rfl ?_
    refine reg_quiet rfl (index_own tab_ok rfl rfl rfl rfl rfl (by omega) (by omega)) ?_
    refine reg_on rfl rfl rfl ?_
    refine reg_quiet rfl (step_C tab_ok (fun K hk => hk)) ?_
    refine reg_on rfl rfl rfl ?_
    refine reg_quiet rfl (load_row (v := .d (bo f.used)) tab_ok rfl rfl ⟨rfl, f, hf, bo f.used, rfl, rfl⟩ rfl) ?_
    refine reg_quiet rfl (pick_F tab_ok rfl rfl rfl) ?_
    refine reg_nil ?_
    refine seq_n ?_
    refine wc_true rfl (by assumption) ?_
    refine wc_seq ?_
    refine wc_region ?_
    refine reg_quiet rfl (call_r shlives_is rfl rfl arg_nil (.inl rfl) (fun _ => rfl)) ?_
    refine reg_quiet rfl (step_C tab_ok (fun K hk => hk)) ?_
    refine reg_nil ?_
    refine seq_n ?_
    refine wc_ret ?_
    refine seq_r ?_
    exact ⟨trivial, [], .of rfl rfl rfl rfl rfl ⟨⟨_, rfl, AVLe.of_eq rfl⟩, rfl, trivial⟩ trivial⟩
  | false =>
    replace hD := hD hu
    refine fnIs_of tab_ok Try.func9 rfl rfl rfl ?_
    refine wc_seq ?_
    refine wc_region ?_
    refine reg_new (step_C tab_ok (fun K hk => hk)) rfl ?_
    refine reg_quiet rfl (step_C tab_ok (fun K hk => hk)) ?_
    refine reg_nil ?_
    refine seq_n ?_
    refine wc_seq ?_
    refine wc_region ?_
    refine reg_quiet rfl (load_box tab_ok rfl rfl rfl rfl) ?_
    refine reg_new (call_new hO rfl rfl (arg_e arg_nil) (.inl rfl) rfl rfl) rfl ?_
    refine reg_new (step_C tab_ok (fun K hk => hk)) rfl ?_
    refine reg_store (store_row tab_ok rfl rfl rfl ⟨_, ⟨rfl, rfl, rfl⟩, rfl⟩ rfl) ?_
    refine reg_nil ?_
    refine seq_n ?_
    refine wc_seq ?_
    refine wc_region ?_
    refine reg_quiet rfl (load_box tab_ok rfl rfl rfl rfl) ?_
    refine reg_quiet rfl (step_C tab_ok (fun K hk => hk)) ?_
    refine reg_quiet rfl (step_C tab_ok (fun K hk => hk)) ?_
    refine reg_new (call_new hQ rfl rfl (arg_S rfl rfl (arg_e (arg_e arg_nil))) (.inr (ok3_plain _ _ _ _ _ _)) rfl rfl) rfl ?_
    refine reg_quiet rfl (step_C tab_ok (fun K hk => hk)) ?_
    refine reg_quiet rfl (step_C tab_ok (fun K hk => hk)) ?_
    refine reg_quiet rfl (step_C tab_ok (fun K hk => hk)) ?_
    refine reg_quiet rfl (step_C tab_ok (fun K hk => hk)) ?_
    refine reg_new (step_C tab_ok (fun K hk => hk)) rfl ?_
    refine reg_store (store_row tab_ok rfl rfl rfl ⟨_, ⟨rfl, rfl, rfl⟩, rfl⟩ rfl) ?_
    refine reg_quiet rfl (step_C tab_ok (fun K hk => hk)) ?_
    refine reg_quiet rfl (step_C tab_ok (fun K hk => hk)) ?_
    refine reg_nil ?_
    refine seq_n ?_
    refine wc_seq ?_
    refine wc_region ?_
    refine reg_quiet rfl (load_box tab_ok rfl rfl rfl rfl) ?_
    refine reg_quiet rfl (step_C tab_ok (fun K hk => hk)) ?_
    refine reg_quiet rfl (step_C tab_ok (fun K hk => hk)) ?_
    refine reg_new (call_new hP rfl rfl (arg_S rfl rfl (arg_e (arg_e arg_nil))) (.inr (ok3_plain _ _ _ _ _ _)) rfl rfl) rfl ?_
    refine reg_quiet rfl (step_C tab_ok (fun K hk => hk)) ?_
    refine reg_quiet rfl (step_C tab_ok (fun K hk => hk)) ?_
    refine reg_quiet rfl (step_C tab_ok (fun K hk => hk)) ?_
    refine reg_quiet rfl (step_C tab_ok (fun K hk => hk)) ?_
    refine reg_new (step_C tab_ok (fun K hk => hk)) rfl ?_
    refine reg_store (store_row tab_ok rfl rfl rfl ⟨_, ⟨rfl, rfl, rfl⟩, rfl⟩ rfl) ?_
    refine reg_quiet rfl (step_C tab_ok (fun K hk => hk)) ?_
    refine reg_quiet rfl (step_C tab_ok (fun K hk => hk)) ?_
    refine reg_nil ?_
    refine seq_n ?_
    refine wc_seq ?_
    refine wc_seq ?_
    refine wc_draw (by kernel_rfl) ?_
    refine dreg_q [13] [] rfl (step_C tab_ok (fun K hk => hk)) ?_
    refine dreg_q [10] [] rfl (step_C tab_ok (fun K hk => hk)) ?_
    refine dreg_q [34, 35] [] rfl (step_C tab_ok (fun K hk => hk)) ?_
    refine dreg_q [36] [] rfl (step_C tab_ok (fun K hk => hk)) ?_
    refine dreg_onq [37, 12] [] rfl rfl rfl rfl (step_C tab_ok (fun K hk => hk)) ?_
    refine dreg_onq [37, 9] [] rfl rfl rfl rfl (step_C tab_ok (fun K hk => hk)) ?_
    refine dreg_onq [37, 38, 39] [] rfl rfl rfl rfl (step_C tab_ok (fun K hk => hk)) ?_
    refine dreg_q [37, 40] [] rfl (pick_F tab_ok rfl rfl rfl) ?_
    refine dreg_q [41] [] rfl (step_C tab_ok (fun K hk => hk)) ?_
    refine dreg_onq [42, 11] [272, 232] rfl rfl (by assumption) rfl (load_box tab_ok rfl rfl rfl rfl) ?_
    refine dreg_onq [42, 8] [176, 136] rfl rfl (by assumption) rfl (load_box tab_ok rfl rfl rfl rfl) ?_
    refine dreg_on rfl rfl (by assumption) rfl (call_h [(0, some 232), (1, some 136)] (lawsame_is T T ha ha false hlT hlT) rfl rfl rfl (arg_giveS rfl rfl (arg_giveS rfl rfl arg_nil)) ⟨⟨rfl, rfl, _, _, rfl, rfl, .refl _⟩, ⟨rfl, rfl, _, _, rfl, rfl, .refl _⟩, trivial⟩ rfl rfl (.inl rfl) rfl rfl) rfl rfl ?_
    refine dreg_onq [42, 45] [] rfl rfl (by assumption) rfl (step_C tab_ok (fun K hk => hk)) ?_
    refine dreg_q [42, 46] [] rfl (pick_F tab_ok rfl (by assumption) rfl) ?_
    refine dreg_q [47] [] rfl (step_C tab_ok (fun K hk => hk)) ?_
    refine dreg_onq [48, 7] [96, 88] rfl rfl (by assumption) rfl (load_box tab_ok rfl rfl rfl rfl) ?_
    refine dreg_onq [48, 3] [64] rfl rfl (by assumption) rfl (load_box tab_ok rfl rfl rfl rfl) ?_
    refine dreg_onw [48, 50] [] rfl rfl (by assumption) rfl (call_new hO rfl rfl (arg_e arg_nil) (.inl rfl) rfl rfl) ?_
    refine dreg_onq [48, 49, 51] [88, 440] rfl rfl (by assumption) rfl (call_r (refshsame_is l l hd hd hlen hlen) rfl rfl (arg_S rfl rfl (arg_S rfl rfl arg_nil)) (.inr (int_plain _ _)) (fun _ => rfl)) ?_
    refine dreg_onq [48, 52] [] rfl rfl (by assumption) rfl (step_C tab_ok (fun K hk => hk)) ?_
    refine dreg_q [48, 53] [] rfl (pick_F tab_ok rfl (by assumption) rfl) ?_
    refine dreg_end (by kernel_rfl) ?_
    refine seq_n ?_
    refine wc_false rfl (by assumption) ?_
    refine wc_skip ?_
    refine seq_n ?_
    refine wc_seq ?_
    refine wc_seq ?_
    refine wc_region ?_
    refine reg_quiet rfl (step_C tab_ok (fun K hk => hk)) ?_
    refine reg_quiet rfl (step_C tab_ok (fun K hk => hk)) ?_
    refine reg_quiet rfl (step_C tab_ok (fun K hk => hk)) ?_
    refine reg_on rfl rfl rfl ?_
    refine reg_quiet rfl (step_C tab_ok (fun K hk => hk)) ?_
    refine reg_on rfl rfl rfl ?_
    refine reg_quiet rfl (load_box tab_ok rfl rfl rfl rfl) ?_
    refine reg_on rfl rfl rfl ?_
    refine reg_quiet rfl (step_C tab_ok (fun K hk => hk)) ?_
    refine reg_on rfl rfl rfl ?_
    refine reg_quiet rfl (index_own tab_ok rfl rfl rfl rfl rfl (by omega) (by omega)) ?_
    refine reg_on rfl rfl rfl ?_
    refine reg_quiet rfl (step_C tab_ok (fun K hk => hk)) ?_
    refine reg_on rfl rfl rfl ?_
    refine reg_quiet rfl (load_row (v := .d (bo f.used)) tab_ok rfl rfl ⟨rfl, f, hf, bo f.used, rfl, rfl⟩ rfl) ?_
    refine reg_quiet rfl (pick_F tab_ok rfl rfl rfl) ?_
    refine reg_nil ?_
    refine seq_n ?_
    refine wc_false rfl (by assumption) ?_
    refine wc_skip ?_
    refine seq_n ?_
    refine wc_seq ?_
    refine wc_region ?_
    refine reg_quiet rfl (load_box tab_ok rfl rfl rfl rfl) ?_
    refine reg_quiet rfl (step_C tab_ok (fun K hk => hk)) ?_
    refine reg_new (call_new hD rfl rfl (arg_S rfl rfl (arg_e arg_nil)) (.inr (ok2_plain _ _ _ _)) rfl rfl) rfl ?_
    refine reg_quiet rfl (step_C tab_ok (fun K hk => hk)) ?_
    refine reg_quiet rfl (step_C tab_ok (fun K hk => hk)) ?_
    refine reg_quiet rfl (step_C tab_ok (fun K hk => hk)) ?_
    refine reg_new (step_C tab_ok (fun K hk => hk)) rfl ?_
    refine reg_store (store_row tab_ok rfl rfl rfl ⟨_, ⟨rfl, rfl, rfl⟩, rfl⟩ rfl) ?_
    refine reg_quiet rfl (step_C tab_ok (fun K hk => hk)) ?_
    refine reg_nil ?_
    refine seq_n ?_
    refine wc_seq ?_
    refine wc_region ?_
    refine reg_quiet rfl (step_C tab_ok (fun K hk => hk)) ?_
    refine reg_quiet rfl (step_C tab_ok (fun K hk => hk)) ?_
    refine reg_quiet rfl (step_C tab_ok (fun K hk => hk)) ?_
    refine reg_on rfl rfl rfl ?_
    refine reg_quiet rfl (load_box tab_ok rfl rfl rfl rfl) ?_
    refine reg_on rfl rfl rfl ?_
    refine reg_quiet rfl (load_box tab_ok rfl rfl rfl rfl) ?_
    refine reg_on rfl rfl rfl ?_
    refine reg_do rfl (call_h [(0, some 568), (1, some 88)] (lawsame_is l l hd hd false hlen hlen) rfl rfl rfl (arg_giveS rfl rfl (arg_giveS rfl rfl arg_nil)) ⟨⟨rfl, rfl, _, _, rfl, rfl, .refl _⟩, ⟨rfl, rfl, _, _, rfl, rfl, .refl _⟩, trivial⟩ rfl rfl (.inl rfl) rfl rfl) rfl rfl ?_
    refine reg_on rfl rfl rfl ?_
    refine reg_quiet rfl (step_C tab_ok (fun K hk => hk)) ?_
    refine reg_quiet rfl (pick_T tab_ok rfl rfl rfl) ?_
    refine reg_quiet rfl (step_C tab_ok (fun K hk => hk)) ?_
    refine reg_on rfl rfl (by assumption) ?_
    refine reg_quiet rfl (call_r shlives_is rfl rfl arg_nil (.inl rfl) (fun _ => rfl)) ?_
    refine reg_quiet rfl (pick_T tab_ok rfl (by assumption) rfl) ?_
    refine reg_quiet rfl (step_C tab_ok (fun K hk => hk)) ?_
    refine reg_nil ?_
    refine seq_n ?_
    refine wc_ret ?_
    exact ⟨trivial, [], .of rfl rfl rfl rfl rfl ⟨⟨_, rfl, AVLe.of_eq rfl⟩, rfl, trivial⟩ trivial⟩
theorem drop_place {l : List Frame} {hand : Nat} {block : Int} {loading : Bool} {f : Frame} (he : chkS l hand = 0) (hk : blkB block = false) (hf : hasB block l = false) (hv : vicB l = true) (hg : l[(vAt l hand).toNat]? = some f) (hu : f.used = false) :
    FnIs Try.prog 38 [.d (encS (placeL l hand block loading) (vAfter l hand)), .d (i6 (vAt l hand))] [] (ok2 l.length hand) [(64, .ds 39 40 true encFrame l)] := by
  obtain ⟨v1, v2, v3, v4, v5⟩ := chkS_valid.1 he
  have hh : hand < l.length := by omega
  have hany : (l.any fun f => !f.used) = true := List.any_eq_true.2 ⟨f, List.mem_of_getElem? hg, by simp [hu]⟩
  have e1 : vNext l hand = l := by simp only [vNext, hany, if_true]
  have e2 : vAfter l hand = hand := by simp only [vAfter, hany, if_true]
  have hz : f = zeroFrame := (chk_unused hu).1 (v3.ok _ f hg)
  have hs : (placeL l hand block loading)[(vAt l hand).toNat]? = some (newF block loading) := by rw [placeL, e1, set_at hg, if_pos rfl]
  have hi := get_lt hg
  obtain ⟨i, f', g', hi1, hi2, -⟩ := victim_facts hh hv
  have hc := place_valid (loading := loading) he hk hf hv
  have ho : outB (placeL l hand block loading) (vAt l hand) = false := by
    rw [outB, placeL_len, Bool.or_eq_false_iff]
    exact ⟨decide_eq_false (by omega), decide_eq_false (by omega)⟩
  have ha : actE dropP (placeL l hand block loading) (vAfter l hand) (vAt l hand) = 0 := by
    unfold actE
    rw [if_neg (fun n => n hc), if_neg (by rw [ho]; exact fun e => by cases e), hs]
    rfl
  have h := drop_good _ _ _ ha
  have e3 : updL dropG (placeL l hand block loading) (vAt l hand) = l := by
    rw [updL_some hs, placeL, e1, List.set_set]
    refine List.ext_getElem? fun j => ?_
    rw [set_at hg]
    split
    · rename_i e; subst e; rw [hg, hz]; rfl
    · rfl
  rw [e3, e2, placeL_len] at h
  rw [e2]
  exact h
theorem shardsPlace_is (L : List Int) (hand : Int) (hL : Bytes L) (hh : 0 ≤ hand ∧ hand ≤ 255) (block : Int) (loading : Bool) : FnIs Try.prog 9 [.d (encSx L hand), .d (i6 block), .bool loading] [] (.bool true) [] := by
  obtain ⟨hd, h1, h2⟩ := hand_mod hh (ofS_pos L)
  have hO := ofS_is L hand hL hh
  have hc := ofS_chk hL hh
  have hlen := ofS_len L
  rw [h1] at hO hc
  generalize ofS L = l at *
  have hlen' : l.length ≤ 1000000 := by omega
  cases hk : blkB block with
  | true => exact placeLaw_err L hand l hd block loading 1 hO hlen' (place_blk l hd block loading hc hk) (refplace_blk l hd block loading hk) rfl
  | false =>
    cases hb : hasB block l with
    | true => exact placeLaw_err L hand l hd block loading 12 hO hlen' (place_twice l hd block loading hc hk hb) (refplace_twice l hd block loading hlen' hk hb) rfl
    | false =>
      cases hv : vicB l with
      | false => exact placeLaw_err L hand l hd block loading 11 hO hlen' (place_none l hd block loading hc hk hb hv) (refplace_none l hd block loading hlen' hk hb hv) rfl
      | true =>
        have hP := place_ok l hd block loading hc hk hb hv
        have hQ := refplace_ok l hd block loading hlen' h2 hk hb hv
        obtain ⟨i, f, g, hi1, hi2, hi3, -⟩ := victim_facts h2 hv
        have hf : l[(vAt l hd).toNat]? = some f := by rw [hi1]; exact hi3
        have hl := placeL_len (l := l) (hand := hd) (block := block) (loading := loading)
        rw [← hl] at hP hQ
        exact placeLaw_ok L hand l (placeL l hd block loading) hd (vAfter l hd) (vAt l hd) f block loading hO hlen' (by omega) hP hQ (by omega) (by omega) hf fun hu => drop_place hc hk hb hv hf hu
end Go.Proofs.Ytmdfeekpehcieaa

/- Shards: the laws' arguments. -/
namespace Go.Proofs.Ytmdfeekpehcieaa
open Go.Eng
/-- A shard as plain data. -/
abbrev encX (x : List Int × Int) : D := encSx x.1 x.2
def BytesWf (L : List Int) : Prop := L.length ≤ maxLen ∧ ∀ a ∈ L, (Lit.int .u8 a).wf = true
theorem opens_X : Opens Try.prog 59 2 encX fun x => (x.1.length ≤ maxLen ∧ ∀ a ∈ x.1, (Lit.int .u8 a).wf = true) ∧ (Lit.int .u8 x.2).wf = true :=
  Opens.map (opens_struct (P := Try.prog) Try.underlying59 (by kernel_rfl) (fun _ => rfl) (opensF_cons rfl (by kernel_rfl) opens_F (opensF_cons rfl (by kernel_rfl) (opens_int (P := Try.prog) Try.underlying5) opensF_nil)))
    (fun q => (q.1, q.2.1)) (fun _ _ => rfl) (fun _ h => ⟨h.1, h.2.1⟩)
/-- Three bytes. -/
abbrev encT (l : List Int) : D := .vec 3 1 encU8 l
theorem opens_T : Opens Try.prog 76 3 encT fun l => l.length = 3 ∧ ∀ a ∈ l, (Lit.int .u8 a).wf = true :=
  opens_array (P := Try.prog) Try.underlying76 (by kernel_rfl) (by kernel_rfl) (opens_int (P := Try.prog) Try.underlying5)
abbrev encTs (l : List (List Int)) : D := .arr 3 encT l
theorem opens_Ts : Opens Try.prog 84 1 encTs fun l => l.length ≤ maxLen ∧ ∀ t ∈ l, t.length = 3 ∧ ∀ a ∈ t, (Lit.int .u8 a).wf = true :=
  opens_slice (P := Try.prog) Try.underlying84 (by kernel_rfl) opens_T
theorem okWide_array {P : Program} {w : World} {r : Reach} {base : Nat} {t : TypeId} {v : Value} {n : Nat} {e : TypeId} (ht : P.underlying t = some (.array n e)) (h : Value.okWide P w r base t v) : ∃ cs, v = .agg cs ∧ cs.size = P.cellsOf t := by
  simp only [Value.okWide, ht] at h
  obtain ⟨cs, h1, h2, _⟩ := h
  exact ⟨cs, h1, h2⟩
end Go.Proofs.Ytmdfeekpehcieaa
