/- What happens to a frame of a valid shard is what the definition says. No condition. -/
import Derived.Test.YtmdfeekpehcieaaSE
import Derived.Test.YtmdfeekpehcieaaRows

set_option linter.unusedVariables false
set_option linter.unusedSimpArgs false

/- ShardsActs: what happens to a frame is what the definition says. -/
namespace Go.Proofs.Ytmdfeekpehcieaa
open Go.Eng
set_option maxHeartbeats 2000000
attribute [local irreducible] WC RegS RegD SeqQ BlkQ ScoQ RegK CutK Sat SatN FnIs LoopQ StepIs OpIs
abbrev nonceN (n2 : Int) : Nonce := ⟨n2 / 16, n2⟩
theorem actsLaw_bad_none (L : List Int) (hand : Int) (l : List Frame) (hd : Nat) (at_ n0 n1 n2 : Int) (b0 : 0 ≤ n0 ∧ n0 ≤ 255) (b2 : 0 ≤ n2 ∧ n2 ≤ 255) (hO : FnIs Try.prog 32 [.d (encSx L hand)] [] (ownS 64 l.length hd) [(64, .ds 39 40 false encFrame l)]) (hlen : l.length ≤ 1000000)
    (e : Int) (hQe : FnIs Try.prog 46 (actArgs l hd at_ (n0.tmod 6) (dataB n1) (nonceN n2)) [] (err2 e) []) (hPe : FnIs Try.prog 47 (actArgs l hd at_ (n0.tmod 6) (dataB n1) (nonceN n2)) [] (err2 e) []) (hBe : FnIs Try.prog 48 [.d (encS l hd)] [] (err3 11) []) (hCe : FnIs Try.prog 49 [.d (encS l hd)] [] (err3 11) []) :
    FnIs Try.prog 11 [.d (encSx L hand), .d (i6 at_), .d (encT [n0, n1, n2])] [] (.bool true) [] := by
  have s1 := same0 hd l
  have s2 := same1 hd l
  have s3 := refl_no e
  refine fnIs_of tab_ok Try.func11 rfl rfl rfl ?_
  refine wc_seq ?_
  refine wc_region ?_
  refine reg_new (step_C tab_ok (fun K hk => hk)) rfl ?_
  refine reg_new (step_C tab_ok (fun K hk => hk)) rfl ?_
  refine reg_quiet rfl (step_C tab_ok (fun K hk => hk)) ?_
  refine reg_nil ?_
  refine seq_n ?_
  refine wc_seq ?_
  refine wc_region ?_
  refine reg_quiet rfl (load_box tab_ok rfl rfl rfl rfl) ?_
  refine reg_new (call_new hO rfl rfl (arg_e arg_nil) (.inl rfl) rfl rfl) rfl ?_
  refine reg_new (step_C tab_ok (fun K hk => hk)) rfl ?_
  refine reg_store (store_row tab_ok rfl rfl rfl ⟨_, ⟨rfl, rfl, rfl⟩, rfl⟩ rfl) ?_
  refine reg_nil ?_
  refine seq_n ?_
  refine wc_seq ?_
  refine wc_draw (by kernel_rfl) ?_
  refine dreg_q [5] [72] rfl (step_C tab_ok (fun K hk => ⟨by omega, by omega, hk⟩)) ?_
  refine dreg_q [23] [72] rfl (load_box (v := .int .u8 n0) tab_ok rfl rfl ⟨.sc (.int .u8 n0), ⟨rfl, n0, rfl, rfl⟩, rfl⟩ rfl) ?_
  refine dreg_q [24] [] rfl (conv_int tab_ok rfl rfl rfl (wrap_i64 (by omega) (by omega))) ?_
  refine dreg_q [25] [] rfl (rem_int tab_ok rfl rfl (by omega)) ?_
  refine dreg_q [5] [72] rfl (step_C tab_ok (fun K hk => ⟨by omega, by omega, hk⟩)) ?_
  refine dreg_q [27] [72] rfl (load_box (v := .int .u8 n1) tab_ok rfl rfl ⟨.sc (.int .u8 n1), ⟨rfl, n1, rfl, rfl⟩, rfl⟩ rfl) ?_
  refine dreg_q [28] [] rfl (call_r (data_is n1) rfl rfl (arg_e arg_nil) (.inl rfl) (fun _ => rfl)) ?_
  refine dreg_q [5] [72] rfl (step_C tab_ok (fun K hk => ⟨by omega, by omega, hk⟩)) ?_
  refine dreg_q [30] [72] rfl (load_box (v := .int .u8 n2) tab_ok rfl rfl ⟨.sc (.int .u8 n2), ⟨rfl, n2, rfl, rfl⟩, rfl⟩ rfl) ?_
  refine dreg_q [31] [] rfl (quo_int tab_ok rfl rfl (by omega) (IntWalk.u8_quo n2 16 ⟨by omega, by omega, by omega⟩)) ?_
  refine dreg_q [32] [] rfl (conv_int tab_ok rfl rfl rfl (IntWalk.u32_in (n2 / 16) ⟨by omega, by omega⟩)) ?_
  refine dreg_q [5] [72] rfl (step_C tab_ok (fun K hk => ⟨by omega, by omega, hk⟩)) ?_
  refine dreg_q [34] [72] rfl (load_box (v := .int .u8 n2) tab_ok rfl rfl ⟨.sc (.int .u8 n2), ⟨rfl, n2, rfl, rfl⟩, rfl⟩ rfl) ?_
  refine dreg_q [35] [] rfl (conv_int tab_ok rfl rfl rfl (IntWalk.u64_in n2 ⟨by omega, by omega⟩)) ?_
  refine dreg_q [33, 36] [] rfl (build_struct tab_ok rfl rfl rfl rfl) ?_
  refine dreg_w [] [] rfl (step_C tab_ok (fun K hk => hk)) ?_
  refine dreg_w [] [] rfl (step_C tab_ok (fun K hk => hk)) ?_
  refine dreg_q [26] [] rfl (step_C tab_ok (fun K hk => hk)) ?_
  refine dreg_s [9, 29] [240] (store_row tab_ok rfl rfl rfl ⟨_, ⟨rfl, rfl, rfl⟩, rfl⟩ rfl) ?_
  refine dreg_s [10, 37] [248] (store_row tab_ok rfl rfl rfl ⟨_, ⟨rfl, rfl, rfl⟩, rfl⟩ rfl) ?_
  refine dreg_end (by kernel_rfl) ?_
  refine seq_n ?_
  refine wc_seq ?_
  refine wc_region ?_
  refine reg_quiet rfl (load_box tab_ok rfl rfl rfl rfl) ?_
  refine reg_quiet rfl (step_C tab_ok (fun K hk => hk)) ?_
  refine reg_quiet rfl (step_C tab_ok (fun K hk => hk)) ?_
  refine reg_quiet rfl (load_box tab_ok rfl rfl rfl rfl) ?_
  refine reg_quiet rfl (load_box tab_ok rfl rfl rfl rfl) ?_
  refine reg_quiet rfl (call_r hQe rfl rfl (arg_S rfl rfl (arg_e (arg_e (arg_e (arg_e arg_nil))))) (.inr (err2_plain _)) (fun _ => rfl)) ?_
  refine reg_quiet rfl (step_C tab_ok (fun K hk => hk)) ?_
  refine reg_quiet rfl (step_C tab_ok (fun K hk => hk)) ?_
  refine reg_quiet rfl (step_C tab_ok (fun K hk => hk)) ?_
  refine reg_new (step_C tab_ok (fun K hk => hk)) rfl ?_
  refine reg_store (store_row tab_ok rfl rfl rfl ⟨_, ⟨rfl, rfl, rfl⟩, rfl⟩ rfl) ?_
  refine reg_quiet rfl (step_C tab_ok (fun K hk => hk)) ?_
  refine reg_nil ?_
  refine seq_n ?_
  refine wc_seq ?_
  refine wc_region ?_
  refine reg_quiet rfl (load_box tab_ok rfl rfl rfl rfl) ?_
  refine reg_quiet rfl (step_C tab_ok (fun K hk => hk)) ?_
  refine reg_quiet rfl (step_C tab_ok (fun K hk => hk)) ?_
  refine reg_quiet rfl (load_box tab_ok rfl rfl rfl rfl) ?_
  refine reg_quiet rfl (load_box tab_ok rfl rfl rfl rfl) ?_
  refine reg_quiet rfl (call_r hPe rfl rfl (arg_S rfl rfl (arg_e (arg_e (arg_e (arg_e arg_nil))))) (.inr (err2_plain _)) (fun _ => rfl)) ?_
  refine reg_quiet rfl (step_C tab_ok (fun K hk => hk)) ?_
  refine reg_quiet rfl (step_C tab_ok (fun K hk => hk)) ?_
  refine reg_quiet rfl (step_C tab_ok (fun K hk => hk)) ?_
  refine reg_new (step_C tab_ok (fun K hk => hk)) rfl ?_
  refine reg_store (store_row tab_ok rfl rfl rfl ⟨_, ⟨rfl, rfl, rfl⟩, rfl⟩ rfl) ?_
  refine reg_quiet rfl (step_C tab_ok (fun K hk => hk)) ?_
  refine reg_nil ?_
  refine seq_n ?_
  refine wc_seq ?_
  refine wc_seq ?_
  refine wc_draw (by kernel_rfl) ?_
  refine dreg_q [14] [] rfl (step_C tab_ok (fun K hk => hk)) ?_
  refine dreg_q [12] [] rfl (step_C tab_ok (fun K hk => hk)) ?_
  refine dreg_q [56, 57] [] rfl (step_C tab_ok (fun K hk => hk)) ?_
  refine dreg_q [58] [] rfl (step_C tab_ok (fun K hk => hk)) ?_
  refine dreg_onq [59, 13] [448] rfl rfl (by assumption) rfl (load_box tab_ok rfl rfl rfl rfl) ?_
  refine dreg_onq [59, 11] [352] rfl rfl (by assumption) rfl (load_box tab_ok rfl rfl rfl rfl) ?_
  refine dreg_onq [59, 60, 61] [] rfl rfl (by assumption) rfl (call_r lawsame_zero rfl rfl (arg_e (arg_e arg_nil)) (.inl rfl) (fun _ => rfl)) ?_
  refine dreg_onq [59, 62] [] rfl rfl (by assumption) rfl (step_C tab_ok (fun K hk => hk)) ?_
  refine dreg_q [59, 63] [] rfl (pick_F tab_ok rfl (by assumption) rfl) ?_
  refine dreg_q [64] [] rfl (step_C tab_ok (fun K hk => hk)) ?_
  refine dreg_onq [65, 7] [104, 96] rfl rfl rfl rfl (load_box tab_ok rfl rfl rfl rfl) ?_
  refine dreg_onq [65, 3] [64] rfl rfl rfl rfl (load_box tab_ok rfl rfl rfl rfl) ?_
  refine dreg_onw [65, 67] [] rfl rfl rfl rfl (call_new hO rfl rfl (arg_e arg_nil) (.inl rfl) rfl rfl) ?_
  refine dreg_onq [65, 66, 68] [96, 568] rfl rfl rfl rfl (call_r (refshsame_is l l hd hd hlen hlen) rfl rfl (arg_S rfl rfl (arg_S rfl rfl arg_nil)) (.inr (int_plain _ _)) (fun _ => rfl)) ?_
  refine dreg_onq [65, 69] [] rfl rfl rfl rfl (step_C tab_ok (fun K hk => hk)) ?_
  refine dreg_q [65, 70] [] rfl (pick_F tab_ok rfl rfl rfl) ?_
  refine dreg_end (by kernel_rfl) ?_
  refine seq_n ?_
  refine wc_false rfl (by assumption) ?_
  refine wc_skip ?_
  refine seq_n ?_
  refine wc_seq ?_
  refine wc_region ?_
  refine reg_quiet rfl (load_box tab_ok rfl rfl rfl rfl) ?_
  refine reg_quiet rfl (call_r hBe rfl rfl (arg_S rfl rfl arg_nil) (.inr (err3_plain _)) (fun _ => rfl)) ?_
  refine reg_quiet rfl (step_C tab_ok (fun K hk => hk)) ?_
  refine reg_quiet rfl (step_C tab_ok (fun K hk => hk)) ?_
  refine reg_quiet rfl (step_C tab_ok (fun K hk => hk)) ?_
  refine reg_quiet rfl (step_C tab_ok (fun K hk => hk)) ?_
  refine reg_new (step_C tab_ok (fun K hk => hk)) rfl ?_
  refine reg_store (store_row tab_ok rfl rfl rfl ⟨_, ⟨rfl, rfl, rfl⟩, rfl⟩ rfl) ?_
  refine reg_quiet rfl (step_C tab_ok (fun K hk => hk)) ?_
  refine reg_quiet rfl (step_C tab_ok (fun K hk => hk)) ?_
  refine reg_nil ?_
  refine seq_n ?_
  refine wc_seq ?_
  refine wc_region ?_
  refine reg_quiet rfl (load_box tab_ok rfl rfl rfl rfl) ?_
  refine reg_quiet rfl (call_r hCe rfl rfl (arg_S rfl rfl arg_nil) (.inr (err3_plain _)) (fun _ => rfl)) ?_
  refine reg_quiet rfl (step_C tab_ok (fun K hk => hk)) ?_
  refine reg_quiet rfl (step_C tab_ok (fun K hk => hk)) ?_
  refine reg_quiet rfl (step_C tab_ok (fun K hk => hk)) ?_
  refine reg_quiet rfl (step_C tab_ok (fun K hk => hk)) ?_
  refine reg_new (step_C tab_ok (fun K hk => hk)) rfl ?_
  refine reg_store (store_row tab_ok rfl rfl rfl ⟨_, ⟨rfl, rfl, rfl⟩, rfl⟩ rfl) ?_
  refine reg_quiet rfl (step_C tab_ok (fun K hk => hk)) ?_
  refine reg_quiet rfl (step_C tab_ok (fun K hk => hk)) ?_
  refine reg_nil ?_
  refine seq_n ?_
  refine wc_seq ?_
  refine wc_draw (by kernel_rfl) ?_
  refine dreg_q [17] [] rfl (step_C tab_ok (fun K hk => hk)) ?_
  refine dreg_q [20] [] rfl (step_C tab_ok (fun K hk => hk)) ?_
  refine dreg_q [84, 85] [] rfl (step_C tab_ok (fun K hk => hk)) ?_
  refine dreg_q [86] [] rfl (step_C tab_ok (fun K hk => hk)) ?_
  refine dreg_onq [87, 16] [] rfl rfl rfl rfl (step_C tab_ok (fun K hk => hk)) ?_
  refine dreg_onq [87, 19] [] rfl rfl rfl rfl (step_C tab_ok (fun K hk => hk)) ?_
  refine dreg_onq [87, 88, 89] [] rfl rfl rfl rfl (step_C tab_ok (fun K hk => hk)) ?_
  refine dreg_q [87, 90] [] rfl (pick_T tab_ok rfl rfl rfl) ?_
  refine dreg_q [91] [] rfl (step_C tab_ok (fun K hk => hk)) ?_
  refine dreg_onq [92, 15] [648] rfl rfl rfl rfl (load_box tab_ok rfl rfl rfl rfl) ?_
  refine dreg_onq [92, 18] [728] rfl rfl rfl rfl (load_box tab_ok rfl rfl rfl rfl) ?_
  refine dreg_onq [92, 93, 94] [] rfl rfl rfl rfl (call_r lawsame_zero rfl rfl (arg_e (arg_e arg_nil)) (.inl rfl) (fun _ => rfl)) ?_
  refine dreg_onq [92, 95] [] rfl rfl rfl rfl (step_C tab_ok (fun K hk => hk)) ?_
  refine dreg_q [92, 96] [] rfl (pick_T tab_ok rfl rfl rfl) ?_
  refine dreg_q [97] [] rfl (step_C tab_ok (fun K hk => hk)) ?_
  refine dreg_onq [98, 7] [104, 96] rfl rfl rfl rfl (load_box tab_ok rfl rfl rfl rfl) ?_
  refine dreg_onq [98, 3] [64] rfl rfl rfl rfl (load_box tab_ok rfl rfl rfl rfl) ?_
  refine dreg_onw [98, 100] [] rfl rfl rfl rfl (call_new hO rfl rfl (arg_e arg_nil) (.inl rfl) rfl rfl) ?_
  refine dreg_onq [98, 99, 101] [96, 896] rfl rfl rfl rfl (call_r (refshsame_is l l hd hd hlen hlen) rfl rfl (arg_S rfl rfl (arg_S rfl rfl arg_nil)) (.inr (int_plain _ _)) (fun _ => rfl)) ?_
  refine dreg_onq [98, 102] [] rfl rfl rfl rfl (step_C tab_ok (fun K hk => hk)) ?_
  refine dreg_q [98, 103] [] rfl (pick_T tab_ok rfl rfl rfl) ?_
  refine dreg_q [104] [] rfl (step_C tab_ok (fun K hk => hk)) ?_
  refine dreg_onq [105] [] rfl rfl (by assumption) rfl (call_r shlives_is rfl rfl arg_nil (.inl rfl) (fun _ => rfl)) ?_
  refine dreg_q [105, 106] [] rfl (pick_T tab_ok rfl (by assumption) rfl) ?_
  refine dreg_q [107] [] rfl (step_C tab_ok (fun K hk => hk)) ?_
  refine dreg_end (by kernel_rfl) ?_
  refine seq_n ?_
  refine wc_ret ?_
  exact ⟨trivial, [], .of rfl rfl rfl rfl rfl ⟨⟨_, rfl, AVLe.of_eq rfl⟩, rfl, trivial⟩ trivial⟩
theorem actsLaw_bad_ok (L : List Int) (hand : Int) (l : List Frame) (hd : Nat) (at_ n0 n1 n2 : Int) (b0 : 0 ≤ n0 ∧ n0 ≤ 255) (b2 : 0 ≤ n2 ∧ n2 ≤ 255) (hO : FnIs Try.prog 32 [.d (encSx L hand)] [] (ownS 64 l.length hd) [(64, .ds 39 40 false encFrame l)]) (hlen : l.length ≤ 1000000)
    (e : Int) (hQe : FnIs Try.prog 46 (actArgs l hd at_ (n0.tmod 6) (dataB n1) (nonceN n2)) [] (err2 e) []) (hPe : FnIs Try.prog 47 (actArgs l hd at_ (n0.tmod 6) (dataB n1) (nonceN n2)) [] (err2 e) []) (U : List Frame) (hlU : U.length ≤ 1000000) (i : Int) (hB : FnIs Try.prog 48 [.d (encS l hd)] [] (tup3 (ownS 64 U.length hd) (.int .i64 i) (.int .i64 0)) [(64, .ds 39 40 true encFrame U)]) (hC : FnIs Try.prog 49 [.d (encS l hd)] [] (tup3 (ownS 64 U.length hd) (.int .i64 i) (.int .i64 0)) [(64, .ds 39 40 false encFrame U)]) :
    FnIs Try.prog 11 [.d (encSx L hand), .d (i6 at_), .d (encT [n0, n1, n2])] [] (.bool true) [] := by
  have s1 := same0 hd l
  have s2 := same1 hd l
  have s3 := refl_no e
  have s4 := same1 hd U
  have s5 : decide (i = i) = true := decide_eq_true rfl
  refine fnIs_of tab_ok Try.func11 rfl rfl rfl ?_
  refine wc_seq ?_
  refine wc_region ?_
  refine reg_new (step_C tab_ok (fun K hk => hk)) rfl ?_
  refine reg_new (step_C tab_ok (fun K hk => hk)) rfl ?_
  refine reg_quiet rfl (step_C tab_ok (fun K hk => hk)) ?_
  refine reg_nil ?_
  refine seq_n ?_
  refine wc_seq ?_
  refine wc_region ?_
  refine reg_quiet rfl (load_box tab_ok rfl rfl rfl rfl) ?_
  refine reg_new (call_new hO rfl rfl (arg_e arg_nil) (.inl rfl) rfl rfl) rfl ?_
  refine reg_new (step_C tab_ok (fun K hk => hk)) rfl ?_
  refine reg_store (store_row tab_ok rfl rfl rfl ⟨_, ⟨rfl, rfl, rfl⟩, rfl⟩ rfl) ?_
  refine reg_nil ?_
  refine seq_n ?_
  refine wc_seq ?_
  refine wc_draw (by kernel_rfl) ?_
  refine dreg_q [5] [72] rfl (step_C tab_ok (fun K hk => ⟨by omega, by omega, hk⟩)) ?_
  refine dreg_q [23] [72] rfl (load_box (v := .int .u8 n0) tab_ok rfl rfl ⟨.sc (.int .u8 n0), ⟨rfl, n0, rfl, rfl⟩, rfl⟩ rfl) ?_
  refine dreg_q [24] [] rfl (conv_int tab_ok rfl rfl rfl (wrap_i64 (by omega) (by omega))) ?_
  refine dreg_q [25] [] rfl (rem_int tab_ok rfl rfl (by omega)) ?_
  refine dreg_q [5] [72] rfl (step_C tab_ok (fun K hk => ⟨by omega, by omega, hk⟩)) ?_
  refine dreg_q [27] [72] rfl (load_box (v := .int .u8 n1) tab_ok rfl rfl ⟨.sc (.int .u8 n1), ⟨rfl, n1, rfl, rfl⟩, rfl⟩ rfl) ?_
  refine dreg_q [28] [] rfl (call_r (data_is n1) rfl rfl (arg_e arg_nil) (.inl rfl) (fun _ => rfl)) ?_
  refine dreg_q [5] [72] rfl (step_C tab_ok (fun K hk => ⟨by omega, by omega, hk⟩)) ?_
  refine dreg_q [30] [72] rfl (load_box (v := .int .u8 n2) tab_ok rfl rfl ⟨.sc (.int .u8 n2), ⟨rfl, n2, rfl, rfl⟩, rfl⟩ rfl) ?_
  refine dreg_q [31] [] rfl (quo_int tab_ok rfl rfl (by omega) (IntWalk.u8_quo n2 16 ⟨by omega, by omega, by omega⟩)) ?_
  refine dreg_q [32] [] rfl (conv_int tab_ok rfl rfl rfl (IntWalk.u32_in (n2 / 16) ⟨by omega, by omega⟩)) ?_
  refine dreg_q [5] [72] rfl (step_C tab_ok (fun K hk => ⟨by omega, by omega, hk⟩)) ?_
  refine dreg_q [34] [72] rfl (load_box (v := .int .u8 n2) tab_ok rfl rfl ⟨.sc (.int .u8 n2), ⟨rfl, n2, rfl, rfl⟩, rfl⟩ rfl) ?_
  refine dreg_q [35] [] rfl (conv_int tab_ok rfl rfl rfl (IntWalk.u64_in n2 ⟨by omega, by omega⟩)) ?_
  refine dreg_q [33, 36] [] rfl (build_struct tab_ok rfl rfl rfl rfl) ?_
  refine dreg_w [] [] rfl (step_C tab_ok (fun K hk => hk)) ?_
  refine dreg_w [] [] rfl (step_C tab_ok (fun K hk => hk)) ?_
  refine dreg_q [26] [] rfl (step_C tab_ok (fun K hk => hk)) ?_
  refine dreg_s [9, 29] [240] (store_row tab_ok rfl rfl rfl ⟨_, ⟨rfl, rfl, rfl⟩, rfl⟩ rfl) ?_
  refine dreg_s [10, 37] [248] (store_row tab_ok rfl rfl rfl ⟨_, ⟨rfl, rfl, rfl⟩, rfl⟩ rfl) ?_
  refine dreg_end (by kernel_rfl) ?_
  refine seq_n ?_
  refine wc_seq ?_
  refine wc_region ?_
  refine reg_quiet rfl (load_box tab_ok rfl rfl rfl rfl) ?_
  refine reg_quiet rfl (step_C tab_ok (fun K hk => hk)) ?_
  refine reg_quiet rfl (step_C tab_ok (fun K hk => hk)) ?_
  refine reg_quiet rfl (load_box tab_ok rfl rfl rfl rfl) ?_
  refine reg_quiet rfl (load_box tab_ok rfl rfl rfl rfl) ?_
  refine reg_quiet rfl (call_r hQe rfl rfl (arg_S rfl rfl (arg_e (arg_e (arg_e (arg_e arg_nil))))) (.inr (err2_plain _)) (fun _ => rfl)) ?_
  refine reg_quiet rfl (step_C tab_ok (fun K hk => hk)) ?_
  refine reg_quiet rfl (step_C tab_ok (fun K hk => hk)) ?_
  refine reg_quiet rfl (step_C tab_ok (fun K hk => hk)) ?_
  refine reg_new (step_C tab_ok (fun K hk => hk)) rfl ?_
  refine reg_store (store_row tab_ok rfl rfl rfl ⟨_, ⟨rfl, rfl, rfl⟩, rfl⟩ rfl) ?_
  refine reg_quiet rfl (step_C tab_ok (fun K hk => hk)) ?_
  refine reg_nil ?_
  refine seq_n ?_
  refine wc_seq ?_
  refine wc_region ?_
  refine reg_quiet rfl (load_box tab_ok rfl rfl rfl rfl) ?_
  refine reg_quiet rfl (step_C tab_ok (fun K hk => hk)) ?_
  refine reg_quiet rfl (step_C tab_ok (fun K hk => hk)) ?_
  refine reg_quiet rfl (load_box tab_ok rfl rfl rfl rfl) ?_
  refine reg_quiet rfl (load_box tab_ok rfl rfl rfl rfl) ?_
  refine reg_quiet rfl (call_r hPe rfl rfl (arg_S rfl rfl (arg_e (arg_e (arg_e (arg_e arg_nil))))) (.inr (err2_plain _)) (fun _ => rfl)) ?_
  refine reg_quiet rfl (step_C tab_ok (fun K hk => hk)) ?_
  refine reg_quiet rfl (step_C tab_ok (fun K hk => hk)) ?_
  refine reg_quiet rfl (step_C tab_ok (fun K hk => hk)) ?_
  refine reg_new (step_C tab_ok (fun K hk => hk)) rfl ?_
  refine reg_store (store_row tab_ok rfl rfl rfl ⟨_, ⟨rfl, rfl, rfl⟩, rfl⟩ rfl) ?_
  refine reg_quiet rfl (step_C tab_ok (fun K hk => hk)) ?_
  refine reg_nil ?_
  refine seq_n ?_
  refine wc_seq ?_
  refine wc_seq ?_
  refine wc_draw (by kernel_rfl) ?_
  refine dreg_q [14] [] rfl (step_C tab_ok (fun K hk => hk)) ?_
  refine dreg_q [12] [] rfl (step_C tab_ok (fun K hk => hk)) ?_
  refine dreg_q [56, 57] [] rfl (step_C tab_ok (fun K hk => hk)) ?_
  refine dreg_q [58] [] rfl (step_C tab_ok (fun K hk => hk)) ?_
  refine dreg_onq [59, 13] [448] rfl rfl (by assumption) rfl (load_box tab_ok rfl rfl rfl rfl) ?_
  refine dreg_onq [59, 11] [352] rfl rfl (by assumption) rfl (load_box tab_ok rfl rfl rfl rfl) ?_
  refine dreg_onq [59, 60, 61] [] rfl rfl (by assumption) rfl (call_r lawsame_zero rfl rfl (arg_e (arg_e arg_nil)) (.inl rfl) (fun _ => rfl)) ?_
  refine dreg_onq [59, 62] [] rfl rfl (by assumption) rfl (step_C tab_ok (fun K hk => hk)) ?_
  refine dreg_q [59, 63] [] rfl (pick_F tab_ok rfl (by assumption) rfl) ?_
  refine dreg_q [64] [] rfl (step_C tab_ok (fun K hk => hk)) ?_
  refine dreg_onq [65, 7] [104, 96] rfl rfl rfl rfl (load_box tab_ok rfl rfl rfl rfl) ?_
  refine dreg_onq [65, 3] [64] rfl rfl rfl rfl (load_box tab_ok rfl rfl rfl rfl) ?_
  refine dreg_onw [65, 67] [] rfl rfl rfl rfl (call_new hO rfl rfl (arg_e arg_nil) (.inl rfl) rfl rfl) ?_
  refine dreg_onq [65, 66, 68] [96, 568] rfl rfl rfl rfl (call_r (refshsame_is l l hd hd hlen hlen) rfl rfl (arg_S rfl rfl (arg_S rfl rfl arg_nil)) (.inr (int_plain _ _)) (fun _ => rfl)) ?_
  refine dreg_onq [65, 69] [] rfl rfl rfl rfl (step_C tab_ok (fun K hk => hk)) ?_
  refine dreg_q [65, 70] [] rfl (pick_F tab_ok rfl rfl rfl) ?_
  refine dreg_end (by kernel_rfl) ?_
  refine seq_n ?_
  refine wc_false rfl (by assumption) ?_
  refine wc_skip ?_
  refine seq_n ?_
  refine wc_seq ?_
  refine wc_region ?_
  refine reg_quiet rfl (load_box tab_ok rfl rfl rfl rfl) ?_
  refine reg_new (call_new hB rfl rfl (arg_S rfl rfl arg_nil) (.inr (ok3_plain _ _ _ _ _ _)) rfl rfl) rfl ?_
  refine reg_quiet rfl (step_C tab_ok (fun K hk => hk)) ?_
  refine reg_quiet rfl (step_C tab_ok (fun K hk => hk)) ?_
  refine reg_quiet rfl (step_C tab_ok (fun K hk => hk)) ?_
  refine reg_quiet rfl (step_C tab_ok (fun K hk => hk)) ?_
  refine reg_new (step_C tab_ok (fun K hk => hk)) rfl ?_
  refine reg_store (store_row tab_ok rfl rfl rfl ⟨_, ⟨rfl, rfl, rfl⟩, rfl⟩ rfl) ?_
  refine reg_quiet rfl (step_C tab_ok (fun K hk => hk)) ?_
  refine reg_quiet rfl (step_C tab_ok (fun K hk => hk)) ?_
  refine reg_nil ?_
  refine seq_n ?_
  refine wc_seq ?_
  refine wc_region ?_
  refine reg_quiet rfl (load_box tab_ok rfl rfl rfl rfl) ?_
  refine reg_new (call_new hC rfl rfl (arg_S rfl rfl arg_nil) (.inr (ok3_plain _ _ _ _ _ _)) rfl rfl) rfl ?_
  refine reg_quiet rfl (step_C tab_ok (fun K hk => hk)) ?_
  refine reg_quiet rfl (step_C tab_ok (fun K hk => hk)) ?_
  refine reg_quiet rfl (step_C tab_ok (fun K hk => hk)) ?_
  refine reg_quiet rfl (step_C tab_ok (fun K hk => hk)) ?_
  refine reg_new (step_C tab_ok (fun K hk => hk)) rfl ?_
  refine reg_store (store_row tab_ok rfl rfl rfl ⟨_, ⟨rfl, rfl, rfl⟩, rfl⟩ rfl) ?_
  refine reg_quiet rfl (step_C tab_ok (fun K hk => hk)) ?_
  refine reg_quiet rfl (step_C tab_ok (fun K hk => hk)) ?_
  refine reg_nil ?_
  refine seq_n ?_
  refine wc_seq ?_
  refine wc_draw (by kernel_rfl) ?_
  refine dreg_q [17] [] rfl (step_C tab_ok (fun K hk => hk)) ?_
  refine dreg_q [20] [] rfl (step_C tab_ok (fun K hk => hk)) ?_
  refine dreg_q [84, 85] [] rfl (step_C tab_ok (fun K hk => hk)) ?_
  refine dreg_q [86] [] rfl (step_C tab_ok (fun K hk => hk)) ?_
  refine dreg_onq [87, 16] [] rfl rfl rfl rfl (step_C tab_ok (fun K hk => hk)) ?_
  refine dreg_onq [87, 19] [] rfl rfl rfl rfl (step_C tab_ok (fun K hk => hk)) ?_
  refine dreg_onq [87, 88, 89] [] rfl rfl rfl rfl (step_C tab_ok (fun K hk => hk)) ?_
  refine dreg_q [87, 90] [] rfl (pick_T tab_ok rfl rfl rfl) ?_
  refine dreg_q [91] [] rfl (step_C tab_ok (fun K hk => hk)) ?_
  refine dreg_onq [92, 15] [648, 608] rfl rfl (by assumption) rfl (load_box tab_ok rfl rfl rfl rfl) ?_
  refine dreg_onq [92, 18] [728, 688] rfl rfl (by assumption) rfl (load_box tab_ok rfl rfl rfl rfl) ?_
  refine dreg_on rfl rfl (by assumption) rfl (call_h [(0, some 608), (1, some 688)] (lawsame_is U U hd hd false hlU hlU) rfl rfl rfl (arg_giveS rfl rfl (arg_giveS rfl rfl arg_nil)) ⟨⟨rfl, rfl, _, _, rfl, rfl, .refl _⟩, ⟨rfl, rfl, _, _, rfl, rfl, .refl _⟩, trivial⟩ rfl rfl (.inl rfl) rfl rfl) rfl rfl ?_
  refine dreg_onq [92, 95] [] rfl rfl (by assumption) rfl (step_C tab_ok (fun K hk => hk)) ?_
  refine dreg_q [92, 96] [] rfl (pick_T tab_ok rfl (by assumption) rfl) ?_
  refine dreg_q [97] [] rfl (step_C tab_ok (fun K hk => hk)) ?_
  refine dreg_onq [98, 7] [104, 96] rfl rfl (by assumption) rfl (load_box tab_ok rfl rfl rfl rfl) ?_
  refine dreg_onq [98, 3] [64] rfl rfl (by assumption) rfl (load_box tab_ok rfl rfl rfl rfl) ?_
  refine dreg_onw [98, 100] [] rfl rfl (by assumption) rfl (call_new hO rfl rfl (arg_e arg_nil) (.inl rfl) rfl rfl) ?_
  refine dreg_onq [98, 99, 101] [96, 896] rfl rfl (by assumption) rfl (call_r (refshsame_is l l hd hd hlen hlen) rfl rfl (arg_S rfl rfl (arg_S rfl rfl arg_nil)) (.inr (int_plain _ _)) (fun _ => rfl)) ?_
  refine dreg_onq [98, 102] [] rfl rfl (by assumption) rfl (step_C tab_ok (fun K hk => hk)) ?_
  refine dreg_q [98, 103] [] rfl (pick_T tab_ok rfl (by assumption) rfl) ?_
  refine dreg_q [104] [] rfl (step_C tab_ok (fun K hk => hk)) ?_
  refine dreg_onq [105] [] rfl rfl (by assumption) rfl (call_r shlives_is rfl rfl arg_nil (.inl rfl) (fun _ => rfl)) ?_
  refine dreg_q [105, 106] [] rfl (pick_T tab_ok rfl (by assumption) rfl) ?_
  refine dreg_q [107] [] rfl (step_C tab_ok (fun K hk => hk)) ?_
  refine dreg_end (by kernel_rfl) ?_
  refine seq_n ?_
  refine wc_ret ?_
  exact ⟨trivial, [], .of rfl rfl rfl rfl rfl ⟨⟨_, rfl, AVLe.of_eq rfl⟩, rfl, trivial⟩ trivial⟩
theorem actsLaw_good_none (L : List Int) (hand : Int) (l : List Frame) (hd : Nat) (at_ n0 n1 n2 : Int) (b0 : 0 ≤ n0 ∧ n0 ≤ 255) (b2 : 0 ≤ n2 ∧ n2 ≤ 255) (hO : FnIs Try.prog 32 [.d (encSx L hand)] [] (ownS 64 l.length hd) [(64, .ds 39 40 false encFrame l)]) (hlen : l.length ≤ 1000000)
    (T : List Frame) (hlT : T.length ≤ 1000000) (hQ : FnIs Try.prog 46 (actArgs l hd at_ (n0.tmod 6) (dataB n1) (nonceN n2)) [] (ok2 T.length hd) [(64, .ds 39 40 false encFrame T)]) (hP : FnIs Try.prog 47 (actArgs l hd at_ (n0.tmod 6) (dataB n1) (nonceN n2)) [] (ok2 T.length hd) [(64, .ds 39 40 true encFrame T)]) (hBe : FnIs Try.prog 48 [.d (encS l hd)] [] (err3 11) []) (hCe : FnIs Try.prog 49 [.d (encS l hd)] [] (err3 11) []) :
    FnIs Try.prog 11 [.d (encSx L hand), .d (i6 at_), .d (encT [n0, n1, n2])] [] (.bool true) [] := by
  have s1 := same0 hd l
  have s2 := same1 hd l
  have s3 := same0 hd T
  refine fnIs_of tab_ok Try.func11 rfl rfl rfl ?_
  refine wc_seq ?_
  refine wc_region ?_
  refine reg_new (step_C tab_ok (fun K hk => hk)) rfl ?_
  refine reg_new (step_C tab_ok (fun K hk => hk)) rfl ?_
  refine reg_quiet rfl (step_C tab_ok (fun K hk => hk)) ?_
  refine reg_nil ?_
  refine seq_n ?_
  refine wc_seq ?_
  refine wc_region ?_
  refine reg_quiet rfl (load_box tab_ok rfl rfl rfl rfl) ?_
  refine reg_new (call_new hO rfl rfl (arg_e arg_nil) (.inl rfl) rfl rfl) rfl ?_
  refine reg_new (step_C tab_ok (fun K hk => hk)) rfl ?_
  refine reg_store (store_row tab_ok rfl rfl rfl ⟨_, ⟨rfl, rfl, rfl⟩, rfl⟩ rfl) ?_
  refine reg_nil ?_
  refine seq_n ?_
  refine wc_seq ?_
  refine wc_draw (by kernel_rfl) ?_
  refine dreg_q [5] [72] rfl (step_C tab_ok (fun K hk => ⟨by omega, by omega, hk⟩)) ?_
  refine dreg_q [23] [72] rfl (load_box (v := .int .u8 n0) tab_ok rfl rfl ⟨.sc (.int .u8 n0), ⟨rfl, n0, rfl, rfl⟩, rfl⟩ rfl) ?_
  refine dreg_q [24] [] rfl (conv_int tab_ok rfl rfl rfl (wrap_i64 (by omega) (by omega))) ?_
  refine dreg_q [25] [] rfl (rem_int tab_ok rfl rfl (by omega)) ?_
  refine dreg_q [5] [72] rfl (step_C tab_ok (fun K hk => ⟨by omega, by omega, hk⟩)) ?_
  refine dreg_q [27] [72] rfl (load_box (v := .int .u8 n1) tab_ok rfl rfl ⟨.sc (.int .u8 n1), ⟨rfl, n1, rfl, rfl⟩, rfl⟩ rfl) ?_
  refine dreg_q [28] [] rfl (call_r (data_is n1) rfl rfl (arg_e arg_nil) (.inl rfl) (fun _ => rfl)) ?_
  refine dreg_q [5] [72] rfl (step_C tab_ok (fun K hk => ⟨by omega, by omega, hk⟩)) ?_
  refine dreg_q [30] [72] rfl (load_box (v := .int .u8 n2) tab_ok rfl rfl ⟨.sc (.int .u8 n2), ⟨rfl, n2, rfl, rfl⟩, rfl⟩ rfl) ?_
  refine dreg_q [31] [] rfl (quo_int tab_ok rfl rfl (by omega) (IntWalk.u8_quo n2 16 ⟨by omega, by omega, by omega⟩)) ?_
  refine dreg_q [32] [] rfl (conv_int tab_ok rfl rfl rfl (IntWalk.u32_in (n2 / 16) ⟨by omega, by omega⟩)) ?_
  refine dreg_q [5] [72] rfl (step_C tab_ok (fun K hk => ⟨by omega, by omega, hk⟩)) ?_
  refine dreg_q [34] [72] rfl (load_box (v := .int .u8 n2) tab_ok rfl rfl ⟨.sc (.int .u8 n2), ⟨rfl, n2, rfl, rfl⟩, rfl⟩ rfl) ?_
  refine dreg_q [35] [] rfl (conv_int tab_ok rfl rfl rfl (IntWalk.u64_in n2 ⟨by omega, by omega⟩)) ?_
  refine dreg_q [33, 36] [] rfl (build_struct tab_ok rfl rfl rfl rfl) ?_
  refine dreg_w [] [] rfl (step_C tab_ok (fun K hk => hk)) ?_
  refine dreg_w [] [] rfl (step_C tab_ok (fun K hk => hk)) ?_
  refine dreg_q [26] [] rfl (step_C tab_ok (fun K hk => hk)) ?_
  refine dreg_s [9, 29] [240] (store_row tab_ok rfl rfl rfl ⟨_, ⟨rfl, rfl, rfl⟩, rfl⟩ rfl) ?_
  refine dreg_s [10, 37] [248] (store_row tab_ok rfl rfl rfl ⟨_, ⟨rfl, rfl, rfl⟩, rfl⟩ rfl) ?_
  refine dreg_end (by kernel_rfl) ?_
  refine seq_n ?_
  refine wc_seq ?_
  refine wc_region ?_
  refine reg_quiet rfl (load_box tab_ok rfl rfl rfl rfl) ?_
  refine reg_quiet rfl (step_C tab_ok (fun K hk => hk)) ?_
  refine reg_quiet rfl (step_C tab_ok (fun K hk => hk)) ?_
  refine reg_quiet rfl (load_box tab_ok rfl rfl rfl rfl) ?_
  refine reg_quiet rfl (load_box tab_ok rfl rfl rfl rfl) ?_
  refine reg_new (call_new hQ rfl rfl (arg_S rfl rfl (arg_e (arg_e (arg_e (arg_e arg_nil))))) (.inr (ok2_plain _ _ _ _)) rfl rfl) rfl ?_
  refine reg_quiet rfl (step_C tab_ok (fun K hk => hk)) ?_
  refine reg_quiet rfl (step_C tab_ok (fun K hk => hk)) ?_
  refine reg_quiet rfl (step_C tab_ok (fun K hk => hk)) ?_
  refine reg_new (step_C tab_ok (fun K hk => hk)) rfl ?_
  refine reg_store (store_row tab_ok rfl rfl rfl ⟨_, ⟨rfl, rfl, rfl⟩, rfl⟩ rfl) ?_
  refine reg_quiet rfl (step_C tab_ok (fun K hk => hk)) ?_
  refine reg_nil ?_
  refine seq_n ?_
  refine wc_seq ?_
  refine wc_region ?_
  refine reg_quiet rfl (load_box tab_ok rfl rfl rfl rfl) ?_
  refine reg_quiet rfl (step_C tab_ok (fun K hk => hk)) ?_
  refine reg_quiet rfl (step_C tab_ok (fun K hk => hk)) ?_
  refine reg_quiet rfl (load_box tab_ok rfl rfl rfl rfl) ?_
  refine reg_quiet rfl (load_box tab_ok rfl rfl rfl rfl) ?_
  refine reg_new (call_new hP rfl rfl (arg_S rfl rfl (arg_e (arg_e (arg_e (arg_e arg_nil))))) (.inr (ok2_plain _ _ _ _)) rfl rfl) rfl ?_
  refine reg_quiet rfl (step_C tab_ok (fun K hk => hk)) ?_
  refine reg_quiet rfl (step_C tab_ok (fun K hk => hk)) ?_
  refine reg_quiet rfl (step_C tab_ok (fun K hk => hk)) ?_
  refine reg_new (step_C tab_ok (fun K hk => hk)) rfl ?_
  refine reg_store (store_row tab_ok rfl rfl rfl ⟨_, ⟨rfl, rfl, rfl⟩, rfl⟩ rfl) ?_
  refine reg_quiet rfl (step_C tab_ok (fun K hk => hk)) ?_
  refine reg_nil ?_
  refine seq_n ?_
  refine wc_seq ?_
  refine wc_seq ?_
  refine wc_draw (by kernel_rfl) ?_
  refine dreg_q [14] [] rfl (step_C tab_ok (fun K hk => hk)) ?_
  refine dreg_q [12] [] rfl (step_C tab_ok (fun K hk => hk)) ?_
  refine dreg_q [56, 57] [] rfl (step_C tab_ok (fun K hk => hk)) ?_
  refine dreg_q [58] [] rfl (step_C tab_ok (fun K hk => hk)) ?_
  refine dreg_onq [59, 13] [448, 416] rfl rfl rfl rfl (load_box tab_ok rfl rfl rfl rfl) ?_
  refine dreg_onq [59, 11] [352, 320] rfl rfl rfl rfl (load_box tab_ok rfl rfl rfl rfl) ?_
  refine dreg_on rfl rfl rfl rfl (call_h [(0, some 416), (1, some 320)] (lawsame_is T T hd hd false hlT hlT) rfl rfl rfl (arg_giveS rfl rfl (arg_giveS rfl rfl arg_nil)) ⟨⟨rfl, rfl, _, _, rfl, rfl, .refl _⟩, ⟨rfl, rfl, _, _, rfl, rfl, .refl _⟩, trivial⟩ rfl rfl (.inl rfl) rfl rfl) rfl rfl ?_
  refine dreg_onq [59, 62] [] rfl rfl rfl rfl (step_C tab_ok (fun K hk => hk)) ?_
  refine dreg_q [59, 63] [] rfl (pick_F tab_ok rfl rfl rfl) ?_
  refine dreg_q [64] [] rfl (step_C tab_ok (fun K hk => hk)) ?_
  refine dreg_onq [65, 7] [104, 96] rfl rfl (by assumption) rfl (load_box tab_ok rfl rfl rfl rfl) ?_
  refine dreg_onq [65, 3] [64] rfl rfl (by assumption) rfl (load_box tab_ok rfl rfl rfl rfl) ?_
  refine dreg_onw [65, 67] [] rfl rfl (by assumption) rfl (call_new hO rfl rfl (arg_e arg_nil) (.inl rfl) rfl rfl) ?_
  refine dreg_onq [65, 66, 68] [96, 568] rfl rfl (by assumption) rfl (call_r (refshsame_is l l hd hd hlen hlen) rfl rfl (arg_S rfl rfl (arg_S rfl rfl arg_nil)) (.inr (int_plain _ _)) (fun _ => rfl)) ?_
  refine dreg_onq [65, 69] [] rfl rfl (by assumption) rfl (step_C tab_ok (fun K hk => hk)) ?_
  refine dreg_q [65, 70] [] rfl (pick_F tab_ok rfl (by assumption) rfl) ?_
  refine dreg_end (by kernel_rfl) ?_
  refine seq_n ?_
  refine wc_false rfl (by assumption) ?_
  refine wc_skip ?_
  refine seq_n ?_
  refine wc_seq ?_
  refine wc_region ?_
  refine reg_quiet rfl (load_box tab_ok rfl rfl rfl rfl) ?_
  refine reg_quiet rfl (call_r hBe rfl rfl (arg_S rfl rfl arg_nil) (.inr (err3_plain _)) (fun _ => rfl)) ?_
  refine reg_quiet rfl (step_C tab_ok (fun K hk => hk)) ?_
  refine reg_quiet rfl (step_C tab_ok (fun K hk => hk)) ?_
  refine reg_quiet rfl (step_C tab_ok (fun K hk => hk)) ?_
  refine reg_quiet rfl (step_C tab_ok (fun K hk => hk)) ?_
  refine reg_new (step_C tab_ok (fun K hk => hk)) rfl ?_
  refine reg_store (store_row tab_ok rfl rfl rfl ⟨_, ⟨rfl, rfl, rfl⟩, rfl⟩ rfl) ?_
  refine reg_quiet rfl (step_C tab_ok (fun K hk => hk)) ?_
  refine reg_quiet rfl (step_C tab_ok (fun K hk => hk)) ?_
  refine reg_nil ?_
  refine seq_n ?_
  refine wc_seq ?_
  refine wc_region ?_
  refine reg_quiet rfl (load_box tab_ok rfl rfl rfl rfl) ?_
  refine reg_quiet rfl (call_r hCe rfl rfl (arg_S rfl rfl arg_nil) (.inr (err3_plain _)) (fun _ => rfl)) ?_
  refine reg_quiet rfl (step_C tab_ok (fun K hk => hk)) ?_
  refine reg_quiet rfl (step_C tab_ok (fun K hk => hk)) ?_
  refine reg_quiet rfl (step_C tab_ok (fun K hk => hk)) ?_
  refine reg_quiet rfl (step_C tab_ok (fun K hk => hk)) ?_
  refine reg_new (step_C tab_ok (fun K hk => hk)) rfl ?_
  refine reg_store (store_row tab_ok rfl rfl rfl ⟨_, ⟨rfl, rfl, rfl⟩, rfl⟩ rfl) ?_
  refine reg_quiet rfl (step_C tab_ok (fun K hk => hk)) ?_
  refine reg_quiet rfl (step_C tab_ok (fun K hk => hk)) ?_
  refine reg_nil ?_
  refine seq_n ?_
  refine wc_seq ?_
  refine wc_draw (by kernel_rfl) ?_
  refine dreg_q [17] [] rfl (step_C tab_ok (fun K hk => hk)) ?_
  refine dreg_q [20] [] rfl (step_C tab_ok (fun K hk => hk)) ?_
  refine dreg_q [84, 85] [] rfl (step_C tab_ok (fun K hk => hk)) ?_
  refine dreg_q [86] [] rfl (step_C tab_ok (fun K hk => hk)) ?_
  refine dreg_onq [87, 16] [] rfl rfl rfl rfl (step_C tab_ok (fun K hk => hk)) ?_
  refine dreg_onq [87, 19] [] rfl rfl rfl rfl (step_C tab_ok (fun K hk => hk)) ?_
  refine dreg_onq [87, 88, 89] [] rfl rfl rfl rfl (step_C tab_ok (fun K hk => hk)) ?_
  refine dreg_q [87, 90] [] rfl (pick_T tab_ok rfl rfl rfl) ?_
  refine dreg_q [91] [] rfl (step_C tab_ok (fun K hk => hk)) ?_
  refine dreg_onq [92, 15] [648] rfl rfl rfl rfl (load_box tab_ok rfl rfl rfl rfl) ?_
  refine dreg_onq [92, 18] [728] rfl rfl rfl rfl (load_box tab_ok rfl rfl rfl rfl) ?_
  refine dreg_onq [92, 93, 94] [] rfl rfl rfl rfl (call_r lawsame_zero rfl rfl (arg_e (arg_e arg_nil)) (.inl rfl) (fun _ => rfl)) ?_
  refine dreg_onq [92, 95] [] rfl rfl rfl rfl (step_C tab_ok (fun K hk => hk)) ?_
  refine dreg_q [92, 96] [] rfl (pick_T tab_ok rfl rfl rfl) ?_
  refine dreg_q [97] [] rfl (step_C tab_ok (fun K hk => hk)) ?_
  refine dreg_onq [98, 7] [104, 96] rfl rfl rfl rfl (load_box tab_ok rfl rfl rfl rfl) ?_
  refine dreg_onq [98, 3] [64] rfl rfl rfl rfl (load_box tab_ok rfl rfl rfl rfl) ?_
  refine dreg_onw [98, 100] [] rfl rfl rfl rfl (call_new hO rfl rfl (arg_e arg_nil) (.inl rfl) rfl rfl) ?_
  refine dreg_onq [98, 99, 101] [96, 896] rfl rfl rfl rfl (call_r (refshsame_is l l hd hd hlen hlen) rfl rfl (arg_S rfl rfl (arg_S rfl rfl arg_nil)) (.inr (int_plain _ _)) (fun _ => rfl)) ?_
  refine dreg_onq [98, 102] [] rfl rfl rfl rfl (step_C tab_ok (fun K hk => hk)) ?_
  refine dreg_q [98, 103] [] rfl (pick_T tab_ok rfl rfl rfl) ?_
  refine dreg_q [104] [] rfl (step_C tab_ok (fun K hk => hk)) ?_
  refine dreg_onq [105] [] rfl rfl (by assumption) rfl (call_r shlives_is rfl rfl arg_nil (.inl rfl) (fun _ => rfl)) ?_
  refine dreg_q [105, 106] [] rfl (pick_T tab_ok rfl (by assumption) rfl) ?_
  refine dreg_q [107] [] rfl (step_C tab_ok (fun K hk => hk)) ?_
  refine dreg_end (by kernel_rfl) ?_
  refine seq_n ?_
  refine wc_ret ?_
  exact ⟨trivial, [], .of rfl rfl rfl rfl rfl ⟨⟨_, rfl, AVLe.of_eq rfl⟩, rfl, trivial⟩ trivial⟩
theorem actsLaw_good_ok (L : List Int) (hand : Int) (l : List Frame) (hd : Nat) (at_ n0 n1 n2 : Int) (b0 : 0 ≤ n0 ∧ n0 ≤ 255) (b2 : 0 ≤ n2 ∧ n2 ≤ 255) (hO : FnIs Try.prog 32 [.d (encSx L hand)] [] (ownS 64 l.length hd) [(64, .ds 39 40 false encFrame l)]) (hlen : l.length ≤ 1000000)
    (T : List Frame) (hlT : T.length ≤ 1000000) (hQ : FnIs Try.prog 46 (actArgs l hd at_ (n0.tmod 6) (dataB n1) (nonceN n2)) [] (ok2 T.length hd) [(64, .ds 39 40 false encFrame T)]) (hP : FnIs Try.prog 47 (actArgs l hd at_ (n0.tmod 6) (dataB n1) (nonceN n2)) [] (ok2 T.length hd) [(64, .ds 39 40 true encFrame T)]) (U : List Frame) (hlU : U.length ≤ 1000000) (i : Int) (hB : FnIs Try.prog 48 [.d (encS l hd)] [] (tup3 (ownS 64 U.length hd) (.int .i64 i) (.int .i64 0)) [(64, .ds 39 40 true encFrame U)]) (hC : FnIs Try.prog 49 [.d (encS l hd)] [] (tup3 (ownS 64 U.length hd) (.int .i64 i) (.int .i64 0)) [(64, .ds 39 40 false encFrame U)]) :
    FnIs Try.prog 11 [.d (encSx L hand), .d (i6 at_), .d (encT [n0, n1, n2])] [] (.bool true) [] := by
  have s1 := same0 hd l
  have s2 := same1 hd l
  have s3 := same0 hd T
  have s4 := same1 hd U
  have s5 : decide (i = i) = true := decide_eq_true rfl
  refine fnIs_of tab_ok Try.func11 rfl rfl rfl ?_
  refine wc_seq ?_
  refine wc_region ?_
  refine reg_new (step_C tab_ok (fun K hk => hk)) rfl ?_
  refine reg_new (step_C tab_ok (fun K hk => hk)) rfl ?_
  refine reg_quiet rfl (step_C tab_ok (fun K hk => hk)) ?_
  refine reg_nil ?_
  refine seq_n ?_
  refine wc_seq ?_
  refine wc_region ?_
  refine reg_quiet rfl (load_box tab_ok rfl rfl rfl rfl) ?_
  refine reg_new (call_new hO rfl rfl (arg_e arg_nil) (.inl rfl) rfl rfl) rfl ?_
  refine reg_new (step_C tab_ok (fun K hk => hk)) rfl ?_
  refine reg_store (store_row tab_ok rfl rfl rfl ⟨_, ⟨rfl, rfl, rfl⟩, rfl⟩ rfl) ?_
  refine reg_nil ?_
  refine seq_n ?_
  refine wc_seq ?_
  refine wc_draw (by kernel_rfl) ?_
  refine dreg_q [5] [72] rfl (step_C tab_ok (fun K hk => ⟨by omega, by omega, hk⟩)) ?_
  refine dreg_q [23] [72] rfl (load_box (v := .int .u8 n0) tab_ok rfl rfl ⟨.sc (.int .u8 n0), ⟨rfl, n0, rfl, rfl⟩, rfl⟩ rfl) ?_
  refine dreg_q [24] [] rfl (conv_int tab_ok rfl rfl rfl (wrap_i64 (by omega) (by omega))) ?_
  refine dreg_q [25] [] rfl (rem_int tab_ok rfl rfl (by omega)) ?_
  refine dreg_q [5] [72] rfl (step_C tab_ok (fun K hk => ⟨by omega, by omega, hk⟩)) ?_
  refine dreg_q [27] [72] rfl (load_box (v := .int .u8 n1) tab_ok rfl rfl ⟨.sc (.int .u8 n1), ⟨rfl, n1, rfl, rfl⟩, rfl⟩ rfl) ?_
  refine dreg_q [28] [] rfl (call_r (data_is n1) rfl rfl (arg_e arg_nil) (.inl rfl) (fun _ => rfl)) ?_
  refine dreg_q [5] [72] rfl (step_C tab_ok (fun K hk => ⟨by omega, by omega, hk⟩)) ?_
  refine dreg_q [30] [72] rfl (load_box (v := .int .u8 n2) tab_ok rfl rfl ⟨.sc (.int .u8 n2), ⟨rfl, n2, rfl, rfl⟩, rfl⟩ rfl) ?_
  refine dreg_q [31] [] rfl (quo_int tab_ok rfl rfl (by omega) (IntWalk.u8_quo n2 16 ⟨by omega, by omega, by omega⟩)) ?_
  refine dreg_q [32] [] rfl (conv_int tab_ok rfl rfl rfl (IntWalk.u32_in (n2 / 16) ⟨by omega, by omega⟩)) ?_
  refine dreg_q [5] [72] rfl (step_C tab_ok (fun K hk => ⟨by omega, by omega, hk⟩)) ?_
  refine dreg_q [34] [72] rfl (load_box (v := .int .u8 n2) tab_ok rfl rfl ⟨.sc (.int .u8 n2), ⟨rfl, n2, rfl, rfl⟩, rfl⟩ rfl) ?_
  refine dreg_q [35] [] rfl (conv_int tab_ok rfl rfl rfl (IntWalk.u64_in n2 ⟨by omega, by omega⟩)) ?_
  refine dreg_q [33, 36] [] rfl (build_struct tab_ok rfl rfl rfl rfl) ?_
  refine dreg_w [] [] rfl (step_C tab_ok (fun K hk => hk)) ?_
  refine dreg_w [] [] rfl (step_C tab_ok (fun K hk => hk)) ?_
  refine dreg_q [26] [] rfl (step_C tab_ok (fun K hk => hk)) ?_
  refine dreg_s [9, 29] [240] (store_row tab_ok rfl rfl rfl ⟨_, ⟨rfl, rfl, rfl⟩, rfl⟩ rfl) ?_
  refine dreg_s [10, 37] [248] (store_row tab_ok rfl rfl rfl ⟨_, ⟨rfl, rfl, rfl⟩, rfl⟩ rfl) ?_
  refine dreg_end (by kernel_rfl) ?_
  refine seq_n ?_
  refine wc_seq ?_
  refine wc_region ?_
  refine reg_quiet rfl (load_box tab_ok rfl rfl rfl rfl) ?_
  refine reg_quiet rfl (step_C tab_ok (fun K hk => hk)) ?_
  refine reg_quiet rfl (step_C tab_ok (fun K hk => hk)) ?_
  refine reg_quiet rfl (load_box tab_ok rfl rfl rfl rfl) ?_
  refine reg_quiet rfl (load_box tab_ok rfl rfl rfl rfl) ?_
  refine reg_new (call_new hQ rfl rfl (arg_S rfl rfl (arg_e (arg_e (arg_e (arg_e arg_nil))))) (.inr (ok2_plain _ _ _ _)) rfl rfl) rfl ?_
  refine reg_quiet rfl (step_C tab_ok (fun K hk => hk)) ?_
  refine reg_quiet rfl (step_C tab_ok (fun K hk => hk)) ?_
  refine reg_quiet rfl (step_C tab_ok (fun K hk => hk)) ?_
  refine reg_new (step_C tab_ok (fun K hk => hk)) rfl ?_
  refine reg_store (store_row tab_ok rfl rfl rfl ⟨_, ⟨rfl, rfl, rfl⟩, rfl⟩ rfl) ?_
  refine reg_quiet rfl (step_C tab_ok (fun K hk => hk)) ?_
  refine reg_nil ?_
  refine seq_n ?_
  refine wc_seq ?_
  refine wc_region ?_
  refine reg_quiet rfl (load_box tab_ok rfl rfl rfl rfl) ?_
  refine reg_quiet rfl (step_C tab_ok (fun K hk => hk)) ?_
  refine reg_quiet rfl (step_C tab_ok (fun K hk => hk)) ?_
  refine reg_quiet rfl (load_box tab_ok rfl rfl rfl rfl) ?_
  refine reg_quiet rfl (load_box tab_ok rfl rfl rfl rfl) ?_
  refine reg_new (call_new hP rfl rfl (arg_S rfl rfl (arg_e (arg_e (arg_e (arg_e arg_nil))))) (.inr (ok2_plain _ _ _ _)) rfl rfl) rfl ?_
  refine reg_quiet rfl (step_C tab_ok (fun K hk => hk)) ?_
  refine reg_quiet rfl (step_C tab_ok (fun K hk => hk)) ?_
  refine reg_quiet rfl (step_C tab_ok (fun K hk => hk)) ?_
  refine reg_new (step_C tab_ok (fun K hk => hk)) rfl ?_
  refine reg_store (store_row tab_ok rfl rfl rfl ⟨_, ⟨rfl, rfl, rfl⟩, rfl⟩ rfl) ?_
  refine reg_quiet rfl (step_C tab_ok (fun K hk => hk)) ?_
  refine reg_nil ?_
  refine seq_n ?_
  refine wc_seq ?_
  refine wc_seq ?_
  refine wc_draw (by kernel_rfl) ?_
  refine dreg_q [14] [] rfl (step_C tab_ok (fun K hk => hk)) ?_
  refine dreg_q [12] [] rfl (step_C tab_ok (fun K hk => hk)) ?_
  refine dreg_q [56, 57] [] rfl (step_C tab_ok (fun K hk => hk)) ?_
  refine dreg_q [58] [] rfl (step_C tab_ok (fun K hk => hk)) ?_
  refine dreg_onq [59, 13] [448, 416] rfl rfl rfl rfl (load_box tab_ok rfl rfl rfl rfl) ?_
  refine dreg_onq [59, 11] [352, 320] rfl rfl rfl rfl (load_box tab_ok rfl rfl rfl rfl) ?_
  refine dreg_on rfl rfl rfl rfl (call_h [(0, some 416), (1, some 320)] (lawsame_is T T hd hd false hlT hlT) rfl rfl rfl (arg_giveS rfl rfl (arg_giveS rfl rfl arg_nil)) ⟨⟨rfl, rfl, _, _, rfl, rfl, .refl _⟩, ⟨rfl, rfl, _, _, rfl, rfl, .refl _⟩, trivial⟩ rfl rfl (.inl rfl) rfl rfl) rfl rfl ?_
  refine dreg_onq [59, 62] [] rfl rfl rfl rfl (step_C tab_ok (fun K hk => hk)) ?_
  refine dreg_q [59, 63] [] rfl (pick_F tab_ok rfl rfl rfl) ?_
  refine dreg_q [64] [] rfl (step_C tab_ok (fun K hk => hk)) ?_
  refine dreg_onq [65, 7] [104, 96] rfl rfl (by assumption) rfl (load_box tab_ok rfl rfl rfl rfl) ?_
  refine dreg_onq [65, 3] [64] rfl rfl (by assumption) rfl (load_box tab_ok rfl rfl rfl rfl) ?_
  refine dreg_onw [65, 67] [] rfl rfl (by assumption) rfl (call_new hO rfl rfl (arg_e arg_nil) (.inl rfl) rfl rfl) ?_
  refine dreg_onq [65, 66, 68] [96, 568] rfl rfl (by assumption) rfl (call_r (refshsame_is l l hd hd hlen hlen) rfl rfl (arg_S rfl rfl (arg_S rfl rfl arg_nil)) (.inr (int_plain _ _)) (fun _ => rfl)) ?_
  refine dreg_onq [65, 69] [] rfl rfl (by assumption) rfl (step_C tab_ok (fun K hk => hk)) ?_
  refine dreg_q [65, 70] [] rfl (pick_F tab_ok rfl (by assumption) rfl) ?_
  refine dreg_end (by kernel_rfl) ?_
  refine seq_n ?_
  refine wc_false rfl (by assumption) ?_
  refine wc_skip ?_
  refine seq_n ?_
  refine wc_seq ?_
  refine wc_region ?_
  refine reg_quiet rfl (load_box tab_ok rfl rfl rfl rfl) ?_
  refine reg_new (call_new hB rfl rfl (arg_S rfl rfl arg_nil) (.inr (ok3_plain _ _ _ _ _ _)) rfl rfl) rfl ?_
  refine reg_quiet rfl (step_C tab_ok (fun K hk => hk)) ?_
  refine reg_quiet rfl (step_C tab_ok (fun K hk => hk)) ?_
  refine reg_quiet rfl (step_C tab_ok (fun K hk => hk)) ?_
  refine reg_quiet rfl (step_C tab_ok (fun K hk => hk)) ?_
  refine reg_new (step_C tab_ok (fun K hk => hk)) rfl ?_
  refine reg_store (store_row tab_ok rfl rfl rfl ⟨_, ⟨rfl, rfl, rfl⟩, rfl⟩ rfl) ?_
  refine reg_quiet rfl (step_C tab_ok (fun K hk => hk)) ?_
  refine reg_quiet rfl (step_C tab_ok (fun K hk => hk)) ?_
  refine reg_nil ?_
  refine seq_n ?_
  refine wc_seq ?_
  refine wc_region ?_
  refine reg_quiet rfl (load_box tab_ok rfl rfl rfl rfl) ?_
  refine reg_new (call_new hC rfl rfl (arg_S rfl rfl arg_nil) (.inr (ok3_plain _ _ _ _ _ _)) rfl rfl) rfl ?_
  refine reg_quiet rfl (step_C tab_ok (fun K hk => hk)) ?_
  refine reg_quiet rfl (step_C tab_ok (fun K hk => hk)) ?_
  refine reg_quiet rfl (step_C tab_ok (fun K hk => hk)) ?_
  refine reg_quiet rfl (step_C tab_ok (fun K hk => hk)) ?_
  refine reg_new (step_C tab_ok (fun K hk => hk)) rfl ?_
  refine reg_store (store_row tab_ok rfl rfl rfl ⟨_, ⟨rfl, rfl, rfl⟩, rfl⟩ rfl) ?_
  refine reg_quiet rfl (step_C tab_ok (fun K hk => hk)) ?_
  refine reg_quiet rfl (step_C tab_ok (fun K hk => hk)) ?_
  refine reg_nil ?_
  refine seq_n ?_
  refine wc_seq ?_
  refine wc_draw (by kernel_rfl) ?_
  refine dreg_q [17] [] rfl (step_C tab_ok (fun K hk => hk)) ?_
  refine dreg_q [20] [] rfl (step_C tab_ok (fun K hk => hk)) ?_
  refine dreg_q [84, 85] [] rfl (step_C tab_ok (fun K hk => hk)) ?_
  refine dreg_q [86] [] rfl (step_C tab_ok (fun K hk => hk)) ?_
  refine dreg_onq [87, 16] [] rfl rfl rfl rfl (step_C tab_ok (fun K hk => hk)) ?_
  refine dreg_onq [87, 19] [] rfl rfl rfl rfl (step_C tab_ok (fun K hk => hk)) ?_
  refine dreg_onq [87, 88, 89] [] rfl rfl rfl rfl (step_C tab_ok (fun K hk => hk)) ?_
  refine dreg_q [87, 90] [] rfl (pick_T tab_ok rfl rfl rfl) ?_
  refine dreg_q [91] [] rfl (step_C tab_ok (fun K hk => hk)) ?_
  refine dreg_onq [92, 15] [648, 608] rfl rfl (by assumption) rfl (load_box tab_ok rfl rfl rfl rfl) ?_
  refine dreg_onq [92, 18] [728, 688] rfl rfl (by assumption) rfl (load_box tab_ok rfl rfl rfl rfl) ?_
  refine dreg_on rfl rfl (by assumption) rfl (call_h [(0, some 608), (1, some 688)] (lawsame_is U U hd hd false hlU hlU) rfl rfl rfl (arg_giveS rfl rfl (arg_giveS rfl rfl arg_nil)) ⟨⟨rfl, rfl, _, _, rfl, rfl, .refl _⟩, ⟨rfl, rfl, _, _, rfl, rfl, .refl _⟩, trivial⟩ rfl rfl (.inl rfl) rfl rfl) rfl rfl ?_
  refine dreg_onq [92, 95] [] rfl rfl (by assumption) rfl (step_C tab_ok (fun K hk => hk)) ?_
  refine dreg_q [92, 96] [] rfl (pick_T tab_ok rfl (by assumption) rfl) ?_
  refine dreg_q [97] [] rfl (step_C tab_ok (fun K hk => hk)) ?_
  refine dreg_onq [98, 7] [104, 96] rfl rfl (by assumption) rfl (load_box tab_ok rfl rfl rfl rfl) ?_
  refine dreg_onq [98, 3] [64] rfl rfl (by assumption) rfl (load_box tab_ok rfl rfl rfl rfl) ?_
  refine dreg_onw [98, 100] [] rfl rfl (by assumption) rfl (call_new hO rfl rfl (arg_e arg_nil) (.inl rfl) rfl rfl) ?_
  refine dreg_onq [98, 99, 101] [96, 896] rfl rfl (by assumption) rfl (call_r (refshsame_is l l hd hd hlen hlen) rfl rfl (arg_S rfl rfl (arg_S rfl rfl arg_nil)) (.inr (int_plain _ _)) (fun _ => rfl)) ?_
  refine dreg_onq [98, 102] [] rfl rfl (by assumption) rfl (step_C tab_ok (fun K hk => hk)) ?_
  refine dreg_q [98, 103] [] rfl (pick_T tab_ok rfl (by assumption) rfl) ?_
  refine dreg_q [104] [] rfl (step_C tab_ok (fun K hk => hk)) ?_
  refine dreg_onq [105] [] rfl rfl (by assumption) rfl (call_r shlives_is rfl rfl arg_nil (.inl rfl) (fun _ => rfl)) ?_
  refine dreg_q [105, 106] [] rfl (pick_T tab_ok rfl (by assumption) rfl) ?_
  refine dreg_q [107] [] rfl (step_C tab_ok (fun K hk => hk)) ?_
  refine dreg_end (by kernel_rfl) ?_
  refine seq_n ?_
  refine wc_ret ?_
  exact ⟨trivial, [], .of rfl rfl rfl rfl rfl ⟨⟨_, rfl, AVLe.of_eq rfl⟩, rfl, trivial⟩ trivial⟩
/-- The first error of an act. -/
theorem refact_bad {a : Nat} (ha : a < 6) (data : List Int) (n : Nonce) {l : List Frame} {h j : Int} (hc : chkS l h = 0) (he : actE (actP a) l h j ≠ 0) : FnIs Try.prog 46 (actArgs l h j a data n) [] (err2 (actE (actP a) l h j)) [] := by
  unfold actE at he ⊢
  rw [if_neg (fun n => n hc)] at he ⊢
  cases ho : outB l j with
  | true => rw [if_pos rfl]; exact refact_out l h j a data n ho
  | false =>
    obtain ⟨f, hf⟩ := outB_get ho
    rw [ho, if_neg (by simp), hf] at he
    rw [if_neg (by simp), hf]
    simp only at he ⊢
    cases hp : actP a f with
    | true => rw [hp] at he; exact absurd rfl he
    | false => exact refact_no l h j a data n ho f hf (by rw [fits_actP a ha, hp])
theorem refact_same {a : Nat} (ha : a < 6) (data : List Int) (n : Nonce) {l : List Frame} {h j : Int} (hlen : l.length ≤ 1000000) (he : actE (actP a) l h j = 0) : FnIs Try.prog 46 (actArgs l h j a data n) [] (ok2 l.length h) [(64, .ds 39 40 false encFrame (updL (actG a data n) l j))] := by
  obtain ⟨h1, h2, f, hf, hp⟩ := actE_zero he
  have hv := (chkS_valid.1 h1).2.2.1
  have := refact_good a ha data n l h j hlen h2 f hf (by rw [fits_actP a ha, hp])
  rw [updL_some hf, act_ref a ha data n f (hv.ok _ f hf) hp]
  exact this
theorem shardsActs_is (L : List Int) (hand : Int) (hL : Bytes L) (hh : 0 ≤ hand ∧ hand ≤ 255) (at_ : Int) (n : List Int) (hn : n.length = 3) (hb : ∀ a ∈ n, 0 ≤ a ∧ a ≤ 255) : FnIs Try.prog 11 [.d (encSx L hand), .d (i6 at_), .d (encT n)] [] (.bool true) [] := by
  obtain ⟨n0, n1, n2, rfl⟩ : ∃ n0 n1 n2, n = [n0, n1, n2] := by
    match n, hn with
    | [a, b, c], _ => exact ⟨a, b, c, rfl⟩
  have b0 := hb n0 (by simp)
  have b2 := hb n2 (by simp)
  obtain ⟨hd, h1, h2⟩ := hand_mod hh (ofS_pos L)
  have hO := ofS_is L hand hL hh
  have hc := ofS_chk hL hh
  have hlen := ofS_len L
  rw [h1] at hO hc
  generalize ofS L = l at *
  have hlen' : l.length ≤ 1000000 := by omega
  obtain ⟨a, ha, hae⟩ : ∃ a : Nat, a < 6 ∧ n0.tmod 6 = a := by
    refine ⟨(n0 % 6).toNat, by omega, ?_⟩
    rw [Int.tmod_eq_emod_of_nonneg b0.1]
    omega
  have hul := updL_len (g := actG a (dataB n1) (nonceN n2)) (l := l) (j := at_)
  have hbl := beginL_len (l := l)
  by_cases he : actE (actP a) l hd at_ = 0
  · have hP := act_good a ha (dataB n1) (nonceN n2) l hd at_ he
    have hQ := refact_same ha (dataB n1) (nonceN n2) hlen' he
    rw [← hae, ← hul] at hP hQ
    cases hw : waitB l with
    | false => exact actsLaw_good_none L hand l hd at_ n0 n1 n2 b0 b2 hO hlen' _ (by omega) hQ hP (begin_none l hd hc hw) (refbegin_none l hd hlen' hw)
    | true =>
      have hB := begin_ok l hd hc hw
      have hC := refbegin_ok l hd hlen' hw
      rw [← hbl] at hB hC
      exact actsLaw_good_ok L hand l hd at_ n0 n1 n2 b0 b2 hO hlen' _ (by omega) hQ hP _ (by omega) _ hB hC
  · have hP := act_bad a ha (dataB n1) (nonceN n2) l hd at_ he
    have hQ := refact_bad ha (dataB n1) (nonceN n2) hc he
    rw [← hae] at hP hQ
    cases hw : waitB l with
    | false => exact actsLaw_bad_none L hand l hd at_ n0 n1 n2 b0 b2 hO hlen' _ hQ hP (begin_none l hd hc hw) (refbegin_none l hd hlen' hw)
    | true =>
      have hB := begin_ok l hd hc hw
      have hC := refbegin_ok l hd hlen' hw
      rw [← hbl] at hB hC
      exact actsLaw_bad_ok L hand l hd at_ n0 n1 n2 b0 b2 hO hlen' _ hQ hP _ (by omega) _ hB hC
end Go.Proofs.Ytmdfeekpehcieaa

/- ShardsActs: the walked law is the statement. -/
namespace Go.Proofs.Ytmdfeekpehcieaa
open Go.ChangeShapes Go.WideShapes Go.ChangeAt Go.RowKit Go.Eng
theorem own : ownKnob Try.prog.godebug = none := by kernel_rfl
theorem laidOut : laidOutB Try.prog = true := by kernel_rfl
set_option maxRecDepth 100000 in
theorem lifted (os : Os) (started : os.Started) (H : Type) (enc : TypeId × Value → H) :
    ReturnsInHanded {} Try.checked os 11 .any (Rows.shardsActsSpec.pre6 enc Try.prog Try.f11 Rows.shardsActsRow.domain false) (Rows.shardsActsSpec.post enc Try.prog Try.f11 false true false false) := by
  refine returnsInHanded_of_change (C := Try.checked) own started (by kernel_rfl) Try.func11
    (ChangeSpec.witness6 (enc := enc) (C := Try.checked) false ⟨#[], #[(.agg #[.slice none 0 0, .int .u8 0]), (.int .i64 0), (.agg #[.int .u8 0, .int .u8 0, .int .u8 0])], []⟩ 8 (by kernel_rfl) (by kernel_rfl) (by kernel_rfl) (by kernel_rfl)) ?_
  intro W base args ds gs before hval0 hW hcnd _
  have hval : ∀ (j : Nat) t v, Try.f11.params[j]? = some t → args[j]? = some v → Value.okWide Try.prog W .any base t v := hval0
  have hW' := hW
  obtain ⟨p, q, hA0, hV, rfl, hfz, hnd⟩ := hW
  have hA : DataW.TrodAll enc Try.prog W 0 (fun _ => true) true Try.f11.params.toList args.toList ds p := hA0
  rw [Try.params11] at hA hval
  obtain ⟨v0, vs0, d0, ds0, p0, q0, hargs, rfl, rfl, h0, r0⟩ := trodAll_cons hA
  obtain ⟨v1, vs1, d1, ds1, p1, q1, rfl, rfl, rfl, h1, r1⟩ := trodAll_cons r0
  obtain ⟨v2, vs2, d2, ds2, p2, q2, rfl, rfl, rfl, h2, r2⟩ := trodAll_cons r1
  obtain ⟨rfl, rfl, rfl⟩ := trodAll_nil r2
  obtain rfl : args = #[v0, v1, v2] := Array.ext' (by simpa using hargs)
  obtain ⟨rfl, rfl⟩ := trodVars_none hV
  have k0 := h0
  have lt0 : ∀ x ∈ p0, x.block < W.heap.size := by obtain ⟨m, hm⟩ := k0; exact DataW.trod_lt m _ _ _ hm
  obtain ⟨fuel0, hfu0⟩ := h0
  obtain ⟨x0, e0, _, w0⟩ := opens_X H enc W _ _ fuel0 _ _ hfu0
  obtain ⟨cs0, hcs0, _⟩ := okWide_struct Try.underlying59 (hval 0 59 v0 rfl rfl)
  have rel0 : RelV (fun _ => none) W (fun _ => False) (.d (encX x0)) v0 := e0.relV ⟨fun _ => rfl, fun _ => ⟨cs0, hcs0⟩⟩
  have k1 := h1
  have lt1 : ∀ x ∈ p1, x.block < W.heap.size := by obtain ⟨m, hm⟩ := k1; exact DataW.trod_lt m _ _ _ hm
  obtain ⟨x1, e1, _, w1⟩ : ∃ m : Int, Enc W (fun _ => False) (.sc (.int .i64 m)) v1.cells.toList ∧ v1.cells.toList.length = 1 ∧ (Lit.int .i64 m).wf = true := by obtain ⟨fuel, hfu⟩ := h1; exact opens_int (P := Try.prog) Try.underlying3 H enc W _ _ fuel _ _ hfu
  obtain ⟨m1, hcs1⟩ := okWide_int Try.underlying3 (hval 1 3 v1 rfl rfl)
  have rel1 : RelV (fun _ => none) W (fun _ => False) (.d (.sc (.int .i64 x1))) v1 := e1.relV ⟨fun ⟨c, hc⟩ => (by rw [hcs1] at hc; cases hc), fun hc => (by cases hc)⟩
  have k2 := h2
  have lt2 : ∀ x ∈ p2, x.block < W.heap.size := by obtain ⟨m, hm⟩ := k2; exact DataW.trod_lt m _ _ _ hm
  obtain ⟨fuel2, hfu2⟩ := h2
  obtain ⟨x2, e2, _, w2⟩ := opens_T H enc W _ _ fuel2 _ _ hfu2
  obtain ⟨cs2, hcs2, _⟩ := okWide_array Try.underlying76 (hval 2 76 v2 rfl rfl)
  have rel2 : RelV (fun _ => none) W (fun _ => False) (.d (encT x2)) v2 := e2.relV ⟨fun _ => rfl, fun _ => ⟨cs2, hcs2⟩⟩
  clear hA0 hval0
  refine (law_calls (shardsActs_is x0.1 x0.2 (bytes_of w0.1) (u8_of w0.2) x1 x2 w2.1 (fun a h => u8_of (w2.2 a h))) (W := W) (args := #[v0, v1, v2]) ⟨v0, [v1, v2], rfl, ⟨rel0, trivial⟩, ⟨v1, [v2], rfl, ⟨rel1, trivial⟩, ⟨v2, [], rfl, ⟨rel2, trivial⟩, rfl⟩⟩⟩).mono fun e W' ⟨he, bel⟩ => ?_
  subst he
  exact ⟨_, rfl, _, _, _, [], _, [], hW', trodAll_mk1 (shut_bool Try.underlying4 _), (trodAll_cons_mk (Below.trod laidOut (by kernel_rfl) (of_decide_eq_true (by kernel_rfl)) k0 bel lt0) (trodAll_cons_mk (Below.trod laidOut (by kernel_rfl) (of_decide_eq_true (by kernel_rfl)) k1 bel lt1) (trodAll_cons_mk (Below.trod laidOut (by kernel_rfl) (of_decide_eq_true (by kernel_rfl)) k2 bel lt2) trodAll_mk0))), rfl, bel.frame _, fun h => by cases h⟩

theorem over : Rows.shardsActsRow.holds Try.pinned (OpenSpec.ofChange Rows.shardsActsSpec) :=
  OpenClaim.holds_of_wide 11 Try.f11 rfl rfl rfl rfl rfl rfl rfl ⟨rfl, rfl, rfl, rfl, rfl⟩ rfl rfl rfl rfl rfl (by kernel_rfl) Try.func11 (by kernel_rfl)
    (of_decide_eq_true (by kernel_rfl)) (by unfold Func.isWrapper; first | (rw [if_pos (by decide +kernel)]; kernel_rfl) | (rw [if_neg (by decide +kernel)]; exact ⟨rfl, rfl⟩))
    (fun os started H enc _ => lifted os started H enc)
theorem shardsActs_holds : Rows.ShardsActsSaid := over
end Go.Proofs.Ytmdfeekpehcieaa
