/- exactly valid ledgers are accepted, by all functions, with the errors in their order -/
import Derived.Test.YtjpjchohpjbknaaLE
import Derived.Test.YtjpjchohpjbknaaRows
import Derived.Test.YtjpjchohpjbknaaLD

set_option linter.unusedVariables false
set_option linter.unusedSimpArgs false

/- Ledgers: the law of errors. -/
namespace Go.Proofs.Ytjpjchohpjbknaa
open Go.Eng
set_option maxHeartbeats 4000000
set_option maxRecDepth 50000
attribute [local irreducible] WC RegS RegD SeqQ BlkQ ScoQ RegK CutK Sat SatN FnIs LoopQ StepIs OpIs
theorem lbool_plain (b : Bool) : PlainRes (.bool b) [] := .of trivial plain_rows_nil
theorem chk_small {l : List LUse} (h : l.length ≤ 60) : chkL l = 0 ∨ chkL l = 1 := by
  rw [chkL, if_neg (by omega)]
  split
  · exact .inl rfl
  · exact .inr rfl
theorem chk_one {u : LUse} : chkL [u] = if validU u = true then 0 else 1 := by
  rw [chkL, if_neg (by simp)]
  simp
theorem lerrors_long (l m : List LUse) (u : LUse) (h : 60 < l.length ∨ 60 < m.length) : FnIs Try.prog 12 [.d (.arr 20 encUse l), .d (.arr 20 encUse m), .d (encUse u)] [] (.bool true) [] := by
  refine fnIs_of tab_ok Try.func12 rfl rfl rfl ?_
  cases h1 : decide ((60 : Int) < (l.length : Int)) with
  | true =>
    refine wc_seq ?_
    refine wc_region ?_
    refine reg_new (step_C tab_ok (fun K hk => hk)) rfl ?_
    refine reg_quiet rfl (step_C tab_ok (fun K hk => hk)) ?_
    refine reg_nil ?_
    refine seq_n ?_
    refine wc_seq ?_
    refine wc_seq ?_
    refine wc_region ?_
    refine reg_quiet rfl (step_C tab_ok (fun K hk => hk)) ?_
    refine reg_quiet rfl (len_arr tab_ok rfl rfl) ?_
    refine reg_quiet rfl (step_C tab_ok (fun K hk => hk)) ?_
    refine reg_quiet rfl (step_C tab_ok (fun K hk => hk)) ?_
    refine reg_skip rfl rfl (by assumption) rfl rfl ?_
    refine reg_skip rfl rfl (by assumption) rfl rfl ?_
    refine reg_skip rfl rfl (by assumption) rfl rfl ?_
    refine reg_quiet rfl (pick_T tab_ok rfl (by assumption) rfl) ?_
    refine reg_nil ?_
    refine seq_n ?_
    refine wc_true rfl rfl ?_
    refine wc_seq ?_
    refine wc_region ?_
    refine reg_quiet rfl (call_r lives_is rfl rfl arg_nil (.inl rfl) (fun _ => rfl)) ?_
    refine reg_quiet rfl (step_C tab_ok (fun K hk => hk)) ?_
    refine reg_nil ?_
    refine seq_n ?_
    refine wc_ret ?_
    refine seq_r ?_
    exact ⟨trivial, [], .of rfl rfl rfl rfl rfl ⟨⟨_, rfl, AVLe.of_eq rfl⟩, rfl, trivial⟩ trivial⟩
  | false =>
    have h2 : decide ((60 : Int) < (m.length : Int)) = true := decide_eq_true (by have := of_decide_eq_false h1; omega)
    refine wc_seq ?_
    refine wc_region ?_
    refine reg_new (step_C tab_ok (fun K hk => hk)) rfl ?_
    refine reg_quiet rfl (step_C tab_ok (fun K hk => hk)) ?_
    refine reg_nil ?_
    refine seq_n ?_
    refine wc_seq ?_
    refine wc_seq ?_
    refine wc_region ?_
    refine reg_quiet rfl (step_C tab_ok (fun K hk => hk)) ?_
    refine reg_quiet rfl (len_arr tab_ok rfl rfl) ?_
    refine reg_quiet rfl (step_C tab_ok (fun K hk => hk)) ?_
    refine reg_quiet rfl (step_C tab_ok (fun K hk => hk)) ?_
    refine reg_on rfl rfl (by assumption) ?_
    refine reg_quiet rfl (step_C tab_ok (fun K hk => hk)) ?_
    refine reg_on rfl rfl (by assumption) ?_
    refine reg_quiet rfl (len_arr tab_ok rfl rfl) ?_
    refine reg_on rfl rfl (by assumption) ?_
    refine reg_quiet rfl (step_C tab_ok (fun K hk => hk)) ?_
    refine reg_quiet rfl (pick_F tab_ok rfl (by assumption) rfl) ?_
    refine reg_nil ?_
    refine seq_n ?_
    refine wc_true rfl (by assumption) ?_
    refine wc_seq ?_
    refine wc_region ?_
    refine reg_quiet rfl (call_r lives_is rfl rfl arg_nil (.inl rfl) (fun _ => rfl)) ?_
    refine reg_quiet rfl (step_C tab_ok (fun K hk => hk)) ?_
    refine reg_nil ?_
    refine seq_n ?_
    refine wc_ret ?_
    refine seq_r ?_
    exact ⟨trivial, [], .of rfl rfl rfl rfl rfl ⟨⟨_, rfl, AVLe.of_eq rfl⟩, rfl, trivial⟩ trivial⟩
theorem lerrors_bad (l m : List LUse) (u : LUse) (h1 : l.length ≤ 60) (h2 : m.length ≤ 60) (hl : chkL l = 1) (hm : ∃ e, chkL m = e) : FnIs Try.prog 12 [.d (.arr 20 encUse l), .d (.arr 20 encUse m), .d (encUse u)] [] (.bool true) [] := by
  have d1 : decide ((60 : Int) < (l.length : Int)) = false := decide_eq_false (by omega)
  have d2 : decide ((60 : Int) < (m.length : Int)) = false := decide_eq_false (by omega)
  have hne : chkL l ≠ 0 := by rw [hl]; decide
  obtain ⟨em, hm⟩ := hm
  have hC0 := refcheck_is l
  have hC1 := refcheck_is m
  have hAdd := add_bad l u hne
  have hMrg := merge_err l m 1 (by decide) (.inl hl)
  have hTxt := text_bad l hne
  have hRep := repeats_bad l hne
  have hChk := ledcheck_is l
  rw [hl] at hC0 hAdd hTxt hChk
  rw [hm] at hC1
  refine fnIs_of tab_ok Try.func12 rfl rfl rfl ?_
  refine wc_seq ?_
  refine wc_region ?_
  refine reg_new (step_C tab_ok (fun K hk => hk)) rfl ?_
  refine reg_quiet rfl (step_C tab_ok (fun K hk => hk)) ?_
  refine reg_nil ?_
  refine seq_n ?_
  refine wc_seq ?_
  refine wc_seq ?_
  refine wc_region ?_
  refine reg_quiet rfl (step_C tab_ok (fun K hk => hk)) ?_
  refine reg_quiet rfl (len_arr tab_ok rfl rfl) ?_
  refine reg_quiet rfl (step_C tab_ok (fun K hk => hk)) ?_
  refine reg_quiet rfl (step_C tab_ok (fun K hk => hk)) ?_
  refine reg_on rfl rfl (by assumption) ?_
  refine reg_quiet rfl (step_C tab_ok (fun K hk => hk)) ?_
  refine reg_on rfl rfl (by assumption) ?_
  refine reg_quiet rfl (len_arr tab_ok rfl rfl) ?_
  refine reg_on rfl rfl (by assumption) ?_
  refine reg_quiet rfl (step_C tab_ok (fun K hk => hk)) ?_
  refine reg_quiet rfl (pick_F tab_ok rfl (by assumption) rfl) ?_
  refine reg_nil ?_
  refine seq_n ?_
  refine wc_false rfl (by assumption) ?_
  refine wc_skip ?_
  refine seq_n ?_
  refine wc_seq ?_
  refine wc_region ?_
  refine reg_quiet rfl (step_C tab_ok (fun K hk => hk)) ?_
  refine reg_quiet rfl (call_r hC0 rfl rfl (arg_e arg_nil) (.inl rfl) (fun _ => rfl)) ?_
  refine reg_quiet rfl (step_C tab_ok (fun K hk => hk)) ?_
  refine reg_quiet rfl (call_r hC1 rfl rfl (arg_e arg_nil) (.inl rfl) (fun _ => rfl)) ?_
  refine reg_quiet rfl (step_C tab_ok (fun K hk => hk)) ?_
  refine reg_quiet rfl (step_C tab_ok (fun K hk => hk)) ?_
  refine reg_nil ?_
  refine seq_n ?_
  refine wc_seq ?_
  refine wc_draw (by kernel_rfl) ?_
  refine dreg_q [0] [] rfl (step_C tab_ok (fun K hk => hk)) ?_
  refine dreg_q [34] [] rfl (call_r (of_is _) rfl rfl (arg_e arg_nil) (.inl rfl) (fun _ => rfl)) ?_
  refine dreg_q [5] [64] rfl (load_box tab_ok rfl rfl rfl rfl) ?_
  refine dreg_q [35, 36] [] rfl (call_r hAdd rfl rfl (arg_e (arg_e arg_nil)) (.inl rfl) (fun _ => rfl)) ?_
  refine dreg_q [37] [] rfl (step_C tab_ok (fun K hk => hk)) ?_
  refine dreg_q [33] [] rfl (step_C tab_ok (fun K hk => hk)) ?_
  refine dreg_q [33] [] rfl (step_C tab_ok (fun K hk => hk)) ?_
  refine dreg_w [] [] rfl (step_C tab_ok (fun K hk => hk)) ?_
  refine dreg_s [9, 38] [248] (store_row tab_ok rfl rfl rfl ⟨_, ⟨rfl, rfl, rfl⟩, rfl⟩ rfl) ?_
  refine dreg_q [39] [] rfl (step_C tab_ok (fun K hk => hk)) ?_
  refine dreg_end (by kernel_rfl) ?_
  refine seq_n ?_
  refine wc_seq ?_
  refine wc_region ?_
  refine reg_quiet rfl (step_C tab_ok (fun K hk => hk)) ?_
  refine reg_quiet rfl (call_r (of_is _) rfl rfl (arg_e arg_nil) (.inl rfl) (fun _ => rfl)) ?_
  refine reg_quiet rfl (step_C tab_ok (fun K hk => hk)) ?_
  refine reg_quiet rfl (call_r (of_is _) rfl rfl (arg_e arg_nil) (.inl rfl) (fun _ => rfl)) ?_
  refine reg_quiet rfl (call_r hMrg rfl rfl (arg_e (arg_e arg_nil)) (.inl rfl) (fun _ => rfl)) ?_
  refine reg_quiet rfl (step_C tab_ok (fun K hk => hk)) ?_
  refine reg_quiet rfl (step_C tab_ok (fun K hk => hk)) ?_
  refine reg_quiet rfl (step_C tab_ok (fun K hk => hk)) ?_
  refine reg_new (step_C tab_ok (fun K hk => hk)) rfl ?_
  refine reg_store (store_row tab_ok rfl rfl rfl ⟨_, ⟨rfl, rfl, rfl⟩, rfl⟩ rfl) ?_
  refine reg_quiet rfl (step_C tab_ok (fun K hk => hk)) ?_
  refine reg_nil ?_
  refine seq_n ?_
  refine wc_seq ?_
  refine wc_region ?_
  refine reg_quiet rfl (step_C tab_ok (fun K hk => hk)) ?_
  refine reg_quiet rfl (call_r (of_is _) rfl rfl (arg_e arg_nil) (.inl rfl) (fun _ => rfl)) ?_
  refine reg_quiet rfl (call_r hTxt rfl rfl (arg_e arg_nil) (.inl rfl) (fun _ => rfl)) ?_
  refine reg_quiet rfl (step_C tab_ok (fun K hk => hk)) ?_
  refine reg_quiet rfl (step_C tab_ok (fun K hk => hk)) ?_
  refine reg_quiet rfl (step_C tab_ok (fun K hk => hk)) ?_
  refine reg_quiet rfl (step_C tab_ok (fun K hk => hk)) ?_
  refine reg_quiet rfl (step_C tab_ok (fun K hk => hk)) ?_
  refine reg_nil ?_
  refine seq_n ?_
  refine wc_seq ?_
  refine wc_region ?_
  refine reg_quiet rfl (step_C tab_ok (fun K hk => hk)) ?_
  refine reg_quiet rfl (call_r (of_is _) rfl rfl (arg_e arg_nil) (.inl rfl) (fun _ => rfl)) ?_
  refine reg_quiet rfl (call_r hRep rfl rfl (arg_e arg_nil) (.inl rfl) (fun _ => rfl)) ?_
  refine reg_quiet rfl (step_C tab_ok (fun K hk => hk)) ?_
  refine reg_quiet rfl (step_C tab_ok (fun K hk => hk)) ?_
  refine reg_quiet rfl (step_C tab_ok (fun K hk => hk)) ?_
  refine reg_quiet rfl (step_C tab_ok (fun K hk => hk)) ?_
  refine reg_quiet rfl (step_C tab_ok (fun K hk => hk)) ?_
  refine reg_quiet rfl (step_C tab_ok (fun K hk => hk)) ?_
  refine reg_quiet rfl (step_C tab_ok (fun K hk => hk)) ?_
  refine reg_nil ?_
  refine seq_n ?_
  refine wc_seq ?_
  refine wc_region ?_
  refine reg_quiet rfl (step_C tab_ok (fun K hk => hk)) ?_
  refine reg_quiet rfl (step_C tab_ok (fun K hk => hk)) ?_
  refine reg_quiet rfl (step_C tab_ok (fun K hk => hk)) ?_
  refine reg_quiet rfl (step_C tab_ok (fun K hk => hk)) ?_
  refine reg_nil ?_
  refine seq_n ?_
  refine wc_seq ?_
  refine wc_seq ?_
  refine wc_region ?_
  refine reg_quiet rfl (step_C tab_ok (fun K hk => hk)) ?_
  refine reg_quiet rfl (step_C tab_ok (fun K hk => hk)) ?_
  refine reg_nil ?_
  refine seq_n ?_
  refine wc_false rfl rfl ?_
  refine wc_skip ?_
  refine seq_n ?_
  refine wc_seq ?_
  refine wc_seq ?_
  refine wc_region ?_
  refine reg_quiet rfl (step_C tab_ok (fun K hk => hk)) ?_
  refine reg_quiet rfl (call_r (of_is _) rfl rfl (arg_e arg_nil) (.inl rfl) (fun _ => rfl)) ?_
  refine reg_quiet rfl (call_r hChk rfl rfl (arg_e arg_nil) (.inl rfl) (fun _ => rfl)) ?_
  refine reg_quiet rfl (step_C tab_ok (fun K hk => hk)) ?_
  refine reg_quiet rfl (step_C tab_ok (fun K hk => hk)) ?_
  refine reg_quiet rfl (step_C tab_ok (fun K hk => hk)) ?_
  refine reg_on rfl rfl rfl ?_
  refine reg_quiet rfl (step_C tab_ok (fun K hk => hk)) ?_
  refine reg_on rfl rfl rfl ?_
  refine reg_quiet rfl (step_C tab_ok (fun K hk => hk)) ?_
  refine reg_on rfl rfl rfl ?_
  refine reg_quiet rfl (step_C tab_ok (fun K hk => hk)) ?_
  refine reg_quiet rfl (pick_F tab_ok rfl rfl rfl) ?_
  refine reg_quiet rfl (step_C tab_ok (fun K hk => hk)) ?_
  refine reg_on rfl rfl rfl ?_
  refine reg_quiet rfl (step_C tab_ok (fun K hk => hk)) ?_
  refine reg_on rfl rfl rfl ?_
  refine reg_quiet rfl (step_C tab_ok (fun K hk => hk)) ?_
  refine reg_on rfl rfl rfl ?_
  refine reg_quiet rfl (step_C tab_ok (fun K hk => hk)) ?_
  refine reg_quiet rfl (pick_F tab_ok rfl rfl rfl) ?_
  refine reg_quiet rfl (step_C tab_ok (fun K hk => hk)) ?_
  refine reg_on rfl rfl rfl ?_
  refine reg_quiet rfl (step_C tab_ok (fun K hk => hk)) ?_
  refine reg_on rfl rfl rfl ?_
  refine reg_quiet rfl (step_C tab_ok (fun K hk => hk)) ?_
  refine reg_on rfl rfl rfl ?_
  refine reg_quiet rfl (step_C tab_ok (fun K hk => hk)) ?_
  refine reg_quiet rfl (pick_F tab_ok rfl rfl rfl) ?_
  refine reg_quiet rfl (step_C tab_ok (fun K hk => hk)) ?_
  refine reg_on rfl rfl rfl ?_
  refine reg_quiet rfl (step_C tab_ok (fun K hk => hk)) ?_
  refine reg_on rfl rfl rfl ?_
  refine reg_quiet rfl (step_C tab_ok (fun K hk => hk)) ?_
  refine reg_on rfl rfl rfl ?_
  refine reg_quiet rfl (step_C tab_ok (fun K hk => hk)) ?_
  refine reg_on rfl rfl rfl ?_
  refine reg_quiet rfl (step_C tab_ok (fun K hk => hk)) ?_
  refine reg_on rfl rfl rfl ?_
  refine reg_quiet rfl (step_C tab_ok (fun K hk => hk)) ?_
  refine reg_on rfl rfl rfl ?_
  refine reg_quiet rfl (step_C tab_ok (fun K hk => hk)) ?_
  refine reg_on rfl rfl rfl ?_
  refine reg_quiet rfl (neq_s tab_ok rfl rfl rfl) ?_
  refine reg_on rfl rfl rfl ?_
  refine reg_quiet rfl (pick_F tab_ok rfl rfl rfl) ?_
  refine reg_on rfl rfl rfl ?_
  refine reg_quiet rfl (pick_T tab_ok rfl rfl rfl) ?_
  refine reg_quiet rfl (pick_F tab_ok rfl rfl rfl) ?_
  refine reg_nil ?_
  refine seq_n ?_
  refine wc_false rfl rfl ?_
  refine wc_skip ?_
  refine seq_n ?_
  refine wc_seq ?_
  refine wc_seq ?_
  refine wc_draw (by kernel_rfl) ?_
  refine dreg_q [18] [] rfl (step_C tab_ok (fun K hk => hk)) ?_
  refine dreg_q [100] [] rfl (step_C tab_ok (fun K hk => hk)) ?_
  refine dreg_q [101] [] rfl (step_C tab_ok (fun K hk => hk)) ?_
  refine dreg_offq [102, 9] rfl rfl rfl rfl ?_
  refine dreg_offq [102] rfl rfl rfl rfl ?_
  refine dreg_offq [102, 0] rfl rfl rfl rfl ?_
  refine dreg_offq [102, 104, 105] rfl rfl rfl rfl ?_
  refine dreg_offq [102, 5] rfl rfl rfl rfl ?_
  refine dreg_offq [102, 107] rfl rfl rfl rfl ?_
  refine dreg_offq [102, 106, 108] rfl rfl rfl rfl ?_
  refine dreg_offq [102, 103, 109] rfl rfl rfl rfl ?_
  refine dreg_offq [102, 110] rfl rfl rfl rfl ?_
  refine dreg_q [102, 111] [] rfl (pick_F tab_ok rfl rfl rfl) ?_
  refine dreg_q [112] [] rfl (step_C tab_ok (fun K hk => hk)) ?_
  refine dreg_onq [113, 18] [] rfl rfl rfl rfl (step_C tab_ok (fun K hk => hk)) ?_
  refine dreg_onq [113, 114] [] rfl rfl rfl rfl (step_C tab_ok (fun K hk => hk)) ?_
  refine dreg_onq [113, 115] [] rfl rfl rfl rfl (step_C tab_ok (fun K hk => hk)) ?_
  refine dreg_onq [116, 9] [248] rfl rfl rfl rfl (step_C tab_ok (fun K hk => hk)) ?_
  refine dreg_onq [116, 117] [248] rfl rfl rfl rfl (load_box tab_ok rfl rfl ⟨_, rfl, rfl⟩ rfl) ?_
  refine dreg_onq [116, 118] [] rfl rfl rfl rfl (len_nil tab_ok rfl rfl) ?_
  refine dreg_onq [116, 119] [] rfl rfl rfl rfl (step_C tab_ok (fun K hk => hk)) ?_
  refine dreg_onq [113, 116, 120] [] rfl rfl rfl rfl (pick_T tab_ok rfl rfl rfl) ?_
  refine dreg_q [113, 121] [] rfl (pick_F tab_ok rfl rfl rfl) ?_
  refine dreg_end (by kernel_rfl) ?_
  refine seq_n ?_
  refine wc_false rfl rfl ?_
  refine wc_skip ?_
  refine seq_n ?_
  refine wc_seq ?_
  refine wc_draw (by kernel_rfl) ?_
  refine dreg_q [19] [] rfl (step_C tab_ok (fun K hk => hk)) ?_
  refine dreg_q [123] [] rfl (step_C tab_ok (fun K hk => hk)) ?_
  refine dreg_q [124] [] rfl (step_C tab_ok (fun K hk => hk)) ?_
  refine dreg_onq [125, 11] [336] rfl rfl rfl rfl (step_C tab_ok (fun K hk => hk)) ?_
  refine dreg_onq [125, 126] [336] rfl rfl rfl rfl (load_box tab_ok rfl rfl ⟨_, rfl, rfl⟩ rfl) ?_
  refine dreg_onq [125, 127] [] rfl rfl rfl rfl (len_arx tab_ok rfl rfl) ?_
  refine dreg_onq [125, 128] [] rfl rfl rfl rfl (step_C tab_ok (fun K hk => hk)) ?_
  refine dreg_q [125, 129] [] rfl (pick_T tab_ok rfl rfl rfl) ?_
  refine dreg_q [130] [] rfl (step_C tab_ok (fun K hk => hk)) ?_
  refine dreg_offq [131, 19] rfl rfl rfl rfl ?_
  refine dreg_offq [131, 132] rfl rfl rfl rfl ?_
  refine dreg_offq [131, 133] rfl rfl rfl rfl ?_
  refine dreg_offUq [134, 11] rfl rfl rfl ?_
  refine dreg_offUq [134] rfl rfl rfl ?_
  refine dreg_offUq [134, 0] rfl rfl rfl ?_
  refine dreg_offUq [134, 136, 137] rfl rfl rfl ?_
  refine dreg_offUq [134, 1] rfl rfl rfl ?_
  refine dreg_offUq [134, 138, 139] rfl rfl rfl ?_
  refine dreg_offUq [134, 135, 140] rfl rfl rfl ?_
  refine dreg_offq [131, 134, 141] rfl rfl rfl rfl ?_
  refine dreg_q [131, 142] [] rfl (pick_T tab_ok rfl rfl rfl) ?_
  refine dreg_q [143] [] rfl (step_C tab_ok (fun K hk => hk)) ?_
  refine dreg_onq [144] [] rfl rfl rfl rfl (call_r lives_is rfl rfl arg_nil (.inl rfl) (fun _ => rfl)) ?_
  refine dreg_q [144, 145] [] rfl (pick_T tab_ok rfl rfl rfl) ?_
  refine dreg_q [146] [] rfl (step_C tab_ok (fun K hk => hk)) ?_
  refine dreg_end (by kernel_rfl) ?_
  refine seq_n ?_
  refine wc_ret ?_
  exact ⟨trivial, [], .of rfl rfl rfl rfl rfl ⟨⟨_, rfl, AVLe.of_eq rfl⟩, rfl, trivial⟩ trivial⟩
theorem lerrors_ok (l m : List LUse) (u : LUse) (h1 : l.length ≤ 60) (h2 : m.length ≤ 60) (hl : chkL l = 0) (hok : ∀ x ∈ l, OkU x) : FnIs Try.prog 12 [.d (.arr 20 encUse l), .d (.arr 20 encUse m), .d (encUse u)] [] (.bool true) [] := by
  have hC0 := refcheck_is l
  have hC1 := refcheck_is m
  have hCu := refcheck_is [u]
  have hTxt := text_all l (fun x hx => ⟨hok x hx, List.all_eq_true.1 (chk_ok hl).2 x hx⟩) (by omega)
  have hRep := repeats_is l hl
  have hChk := ledcheck_is l
  rw [hl] at hC0 hChk
  have hu := chk_one (u := u)
  have hl1 : l.length + 1 ≤ 1048576 := by omega
  have hll : l.length ≤ 1048576 := by omega
  have hmm : m.length ≤ 1048576 := by omega
  have hlm : l.length + m.length ≤ 1048576 := by omega
  have d1 : decide ((60 : Int) < (l.length : Int)) = false := decide_eq_false (by omega)
  have d2 : decide ((60 : Int) < (m.length : Int)) = false := decide_eq_false (by omega)
  have hSa : FnIs Try.prog 42 [.d (ledX (l ++ [u])), .d (.arr 20 encUse (l ++ [u]))] [] (.bool true) [] := by
    have := usame_is (l ++ [u]) (l ++ [u]) (by simp; omega)
    rwa [decide_eq_true rfl] at this
  have hSm : FnIs Try.prog 42 [.d (ledX (l ++ m)), .d (.arr 20 encUse (l ++ m))] [] (.bool true) [] := by
    have := usame_is (l ++ m) (l ++ m) (by simp; omega)
    rwa [decide_eq_true rfl] at this
  cases hv : validU u with
  | true =>
    rw [hu, hv] at hCu
    have hAdd := add_x l u hl hv (by omega)
    rcases chk_small h2 with hm | hm
    · rw [hm] at hC1
      have hMrg := merge_x l m hl hm (by omega)
      rcases Nat.eq_zero_or_pos l.length with hl0 | hpl
      · obtain rfl := List.length_eq_zero_iff.1 hl0
        rcases Nat.eq_zero_or_pos m.length with hm0 | hpm
        · obtain rfl := List.length_eq_zero_iff.1 hm0
          have hSm := (usame_is [] [] (by simp)).args_le (ArgsLe.same (ArgsLe.emp ArgsLe.nil))
          refine fnIs_of tab_ok Try.func12 rfl rfl rfl ?_
          refine wc_seq ?_
          refine wc_region ?_
          refine reg_new (step_C tab_ok (fun K hk => hk)) rfl ?_
          refine reg_quiet rfl (step_C tab_ok (fun K hk => hk)) ?_
          refine reg_nil ?_
          refine seq_n ?_
          refine wc_seq ?_
          refine wc_seq ?_
          refine wc_region ?_
          refine reg_quiet rfl (step_C tab_ok (fun K hk => hk)) ?_
          refine reg_quiet rfl (len_arr tab_ok rfl rfl) ?_
          refine reg_quiet rfl (step_C tab_ok (fun K hk => hk)) ?_
          refine reg_quiet rfl (step_C tab_ok (fun K hk => hk)) ?_
          refine reg_on rfl rfl rfl ?_
          refine reg_quiet rfl (step_C tab_ok (fun K hk => hk)) ?_
          refine reg_on rfl rfl rfl ?_
          refine reg_quiet rfl (len_arr tab_ok rfl rfl) ?_
          refine reg_on rfl rfl rfl ?_
          refine reg_quiet rfl (step_C tab_ok (fun K hk => hk)) ?_
          refine reg_quiet rfl (pick_F tab_ok rfl rfl rfl) ?_
          refine reg_nil ?_
          refine seq_n ?_
          refine wc_false rfl rfl ?_
          refine wc_skip ?_
          refine seq_n ?_
          refine wc_seq ?_
          refine wc_region ?_
          refine reg_quiet rfl (step_C tab_ok (fun K hk => hk)) ?_
          refine reg_quiet rfl (call_r hC0 rfl rfl (arg_e arg_nil) (.inl rfl) (fun _ => rfl)) ?_
          refine reg_quiet rfl (step_C tab_ok (fun K hk => hk)) ?_
          refine reg_quiet rfl (call_r hC1 rfl rfl (arg_e arg_nil) (.inl rfl) (fun _ => rfl)) ?_
          refine reg_quiet rfl (step_C tab_ok (fun K hk => hk)) ?_
          refine reg_quiet rfl (step_C tab_ok (fun K hk => hk)) ?_
          refine reg_nil ?_
          refine seq_n ?_
          refine wc_seq ?_
          refine wc_draw (by kernel_rfl) ?_
          refine dreg_q [0] [] rfl (step_C tab_ok (fun K hk => hk)) ?_
          refine dreg_q [34] [] rfl (call_r (of_is _) rfl rfl (arg_e arg_nil) (.inl rfl) (fun _ => rfl)) ?_
          refine dreg_q [5] [64] rfl (load_box tab_ok rfl rfl rfl rfl) ?_
          refine dreg_q [35, 36] [] rfl (call_r hAdd rfl rfl (arg_e (arg_e arg_nil)) (.inl rfl) (fun _ => rfl)) ?_
          refine dreg_q [37] [] rfl (step_C tab_ok (fun K hk => hk)) ?_
          refine dreg_q [33] [] rfl (step_C tab_ok (fun K hk => hk)) ?_
          refine dreg_q [33] [] rfl (step_C tab_ok (fun K hk => hk)) ?_
          refine dreg_w [] [] rfl (step_C tab_ok (fun K hk => hk)) ?_
          refine dreg_s [9, 38] [248] (store_row tab_ok rfl rfl rfl ⟨_, ⟨rfl, rfl, rfl⟩, rfl⟩ rfl) ?_
          refine dreg_q [39] [] rfl (step_C tab_ok (fun K hk => hk)) ?_
          refine dreg_end (by kernel_rfl) ?_
          refine seq_n ?_
          refine wc_seq ?_
          refine wc_region ?_
          refine reg_quiet rfl (step_C tab_ok (fun K hk => hk)) ?_
          refine reg_quiet rfl (call_r (of_is _) rfl rfl (arg_e arg_nil) (.inl rfl) (fun _ => rfl)) ?_
          refine reg_quiet rfl (step_C tab_ok (fun K hk => hk)) ?_
          refine reg_quiet rfl (call_r (of_is _) rfl rfl (arg_e arg_nil) (.inl rfl) (fun _ => rfl)) ?_
          refine reg_quiet rfl (call_r hMrg rfl rfl (arg_e (arg_e arg_nil)) (.inl rfl) (fun _ => rfl)) ?_
          refine reg_quiet rfl (step_C tab_ok (fun K hk => hk)) ?_
          refine reg_quiet rfl (step_C tab_ok (fun K hk => hk)) ?_
          refine reg_quiet rfl (step_C tab_ok (fun K hk => hk)) ?_
          refine reg_new (step_C tab_ok (fun K hk => hk)) rfl ?_
          refine reg_store (store_row tab_ok rfl rfl rfl ⟨_, ⟨rfl, rfl, rfl⟩, rfl⟩ rfl) ?_
          refine reg_quiet rfl (step_C tab_ok (fun K hk => hk)) ?_
          refine reg_nil ?_
          refine seq_n ?_
          refine wc_seq ?_
          refine wc_region ?_
          refine reg_quiet rfl (step_C tab_ok (fun K hk => hk)) ?_
          refine reg_quiet rfl (call_r (of_is _) rfl rfl (arg_e arg_nil) (.inl rfl) (fun _ => rfl)) ?_
          refine reg_quiet rfl (call_r hTxt rfl rfl (arg_e arg_nil) (.inl rfl) (fun _ => rfl)) ?_
          refine reg_quiet rfl (step_C tab_ok (fun K hk => hk)) ?_
          refine reg_quiet rfl (step_C tab_ok (fun K hk => hk)) ?_
          refine reg_quiet rfl (step_C tab_ok (fun K hk => hk)) ?_
          refine reg_quiet rfl (step_C tab_ok (fun K hk => hk)) ?_
          refine reg_quiet rfl (step_C tab_ok (fun K hk => hk)) ?_
          refine reg_nil ?_
          refine seq_n ?_
          refine wc_seq ?_
          refine wc_region ?_
          refine reg_quiet rfl (step_C tab_ok (fun K hk => hk)) ?_
          refine reg_quiet rfl (call_r (of_is _) rfl rfl (arg_e arg_nil) (.inl rfl) (fun _ => rfl)) ?_
          refine reg_quiet rfl (call_r hRep rfl rfl (arg_e arg_nil) (.inl rfl) (fun _ => rfl)) ?_
          refine reg_quiet rfl (step_C tab_ok (fun K hk => hk)) ?_
          refine reg_quiet rfl (step_C tab_ok (fun K hk => hk)) ?_
          refine reg_quiet rfl (step_C tab_ok (fun K hk => hk)) ?_
          refine reg_quiet rfl (step_C tab_ok (fun K hk => hk)) ?_
          refine reg_quiet rfl (step_C tab_ok (fun K hk => hk)) ?_
          refine reg_quiet rfl (step_C tab_ok (fun K hk => hk)) ?_
          refine reg_quiet rfl (step_C tab_ok (fun K hk => hk)) ?_
          refine reg_nil ?_
          refine seq_n ?_
          refine wc_seq ?_
          refine wc_region ?_
          refine reg_quiet rfl (step_C tab_ok (fun K hk => hk)) ?_
          refine reg_quiet rfl (step_C tab_ok (fun K hk => hk)) ?_
          refine reg_quiet rfl (step_C tab_ok (fun K hk => hk)) ?_
          refine reg_quiet rfl (step_C tab_ok (fun K hk => hk)) ?_
          refine reg_nil ?_
          refine seq_n ?_
          refine wc_seq ?_
          refine wc_seq ?_
          refine wc_region ?_
          refine reg_quiet rfl (step_C tab_ok (fun K hk => hk)) ?_
          refine reg_quiet rfl (step_C tab_ok (fun K hk => hk)) ?_
          refine reg_nil ?_
          refine seq_n ?_
          refine wc_true rfl rfl ?_
          refine wc_seq ?_
          refine wc_region ?_
          refine reg_quiet rfl (step_C tab_ok (fun K hk => hk)) ?_
          refine reg_quiet rfl (step_C tab_ok (fun K hk => hk)) ?_
          refine reg_nil ?_
          refine seq_n ?_
          refine wc_region ?_
          refine reg_quiet rfl (load_box tab_ok rfl rfl rfl rfl) ?_
          refine reg_new (build_slice tab_ok rfl rfl rfl rfl rfl rfl rfl rfl) rfl ?_
          refine reg_freeze (env' := [(67, _), (19, _), (17, _), (14, _), (13, _), (12, _), (11, _), (10, _), (9, _), (8, _), (7, _), (6, _), (5, _), (0, _), (1, _)]) (h' := [(64, some _), (248, some _), (336, some _)]) 576 _ rfl ⟨⟨_, rfl, Frz.lits1 (enc := encUse) u rfl rfl⟩, ⟨_, rfl, .refl _⟩, ⟨_, rfl, .refl _⟩, ⟨_, rfl, .refl _⟩, ⟨_, rfl, .refl _⟩, ⟨_, rfl, .refl _⟩, ⟨_, rfl, .refl _⟩, ⟨_, rfl, .refl _⟩, ⟨_, rfl, .refl _⟩, ⟨_, rfl, .refl _⟩, ⟨_, rfl, .refl _⟩, ⟨_, rfl, .refl _⟩, ⟨_, rfl, .refl _⟩, ⟨_, rfl, .refl _⟩, ⟨_, rfl, .refl _⟩, trivial⟩ ⟨⟨rfl, _, rfl, .refl _⟩, ⟨rfl, _, rfl, .refl _⟩, ⟨rfl, _, rfl, .refl _⟩, trivial⟩ ?_
          refine reg_quiet rfl (call_r hCu rfl rfl (arg_e arg_nil) (.inl rfl) (fun _ => rfl)) ?_
          refine reg_quiet rfl (step_C tab_ok (fun K hk => hk)) ?_
          refine reg_nil ?_
          refine seq_n ?_
          refine wc_seq ?_
          refine wc_seq ?_
          refine wc_region ?_
          refine reg_quiet rfl (step_C tab_ok (fun K hk => hk)) ?_
          refine reg_quiet rfl (call_r (of_is _) rfl rfl (arg_e arg_nil) (.inl rfl) (fun _ => rfl)) ?_
          refine reg_quiet rfl (call_r hChk rfl rfl (arg_e arg_nil) (.inl rfl) (fun _ => rfl)) ?_
          refine reg_quiet rfl (step_C tab_ok (fun K hk => hk)) ?_
          refine reg_quiet rfl (step_C tab_ok (fun K hk => hk)) ?_
          refine reg_quiet rfl (step_C tab_ok (fun K hk => hk)) ?_
          refine reg_on rfl rfl rfl ?_
          refine reg_quiet rfl (step_C tab_ok (fun K hk => hk)) ?_
          refine reg_on rfl rfl rfl ?_
          refine reg_quiet rfl (step_C tab_ok (fun K hk => hk)) ?_
          refine reg_on rfl rfl rfl ?_
          refine reg_quiet rfl (step_C tab_ok (fun K hk => hk)) ?_
          refine reg_quiet rfl (pick_F tab_ok rfl rfl rfl) ?_
          refine reg_quiet rfl (step_C tab_ok (fun K hk => hk)) ?_
          refine reg_on rfl rfl rfl ?_
          refine reg_quiet rfl (step_C tab_ok (fun K hk => hk)) ?_
          refine reg_on rfl rfl rfl ?_
          refine reg_quiet rfl (step_C tab_ok (fun K hk => hk)) ?_
          refine reg_on rfl rfl rfl ?_
          refine reg_quiet rfl (step_C tab_ok (fun K hk => hk)) ?_
          refine reg_quiet rfl (pick_F tab_ok rfl rfl rfl) ?_
          refine reg_quiet rfl (step_C tab_ok (fun K hk => hk)) ?_
          refine reg_on rfl rfl rfl ?_
          refine reg_quiet rfl (step_C tab_ok (fun K hk => hk)) ?_
          refine reg_on rfl rfl rfl ?_
          refine reg_quiet rfl (step_C tab_ok (fun K hk => hk)) ?_
          refine reg_on rfl rfl rfl ?_
          refine reg_quiet rfl (step_C tab_ok (fun K hk => hk)) ?_
          refine reg_quiet rfl (pick_F tab_ok rfl rfl rfl) ?_
          refine reg_quiet rfl (step_C tab_ok (fun K hk => hk)) ?_
          refine reg_on rfl rfl rfl ?_
          refine reg_quiet rfl (step_C tab_ok (fun K hk => hk)) ?_
          refine reg_on rfl rfl rfl ?_
          refine reg_quiet rfl (step_C tab_ok (fun K hk => hk)) ?_
          refine reg_on rfl rfl rfl ?_
          refine reg_quiet rfl (step_C tab_ok (fun K hk => hk)) ?_
          refine reg_skip rfl rfl rfl rfl rfl ?_
          refine reg_skip rfl rfl rfl rfl rfl ?_
          refine reg_skipU rfl rfl rfl rfl ?_
          refine reg_skipU rfl rfl rfl rfl ?_
          refine reg_skip rfl rfl rfl rfl rfl ?_
          refine reg_on rfl rfl rfl ?_
          refine reg_quiet rfl (pick_F tab_ok rfl rfl rfl) ?_
          refine reg_quiet rfl (pick_F tab_ok rfl rfl rfl) ?_
          refine reg_nil ?_
          refine seq_n ?_
          refine wc_false rfl rfl ?_
          refine wc_skip ?_
          refine seq_n ?_
          refine wc_seq ?_
          refine wc_seq ?_
          refine wc_draw (by kernel_rfl) ?_
          refine dreg_q [18] [] rfl (step_C tab_ok (fun K hk => hk)) ?_
          refine dreg_q [100] [] rfl (step_C tab_ok (fun K hk => hk)) ?_
          refine dreg_q [101] [] rfl (step_C tab_ok (fun K hk => hk)) ?_
          refine dreg_onq [102, 9] [248] rfl rfl rfl rfl (load_box tab_ok rfl rfl rfl rfl) ?_
          refine dreg_onq [102] [] rfl rfl rfl rfl (build_empty tab_ok rfl rfl) ?_
          refine dreg_onq [102, 0] [] rfl rfl rfl rfl (step_C tab_ok (fun K hk => hk)) ?_
          refine dreg_onq [102, 104, 105] [] rfl rfl rfl rfl (append_e_n tab_ok rfl rfl rfl rfl) ?_
          refine dreg_onq [102, 5] [64] rfl rfl rfl rfl (load_box tab_ok rfl rfl rfl rfl) ?_
          refine dreg_onw [102, 107] [] rfl rfl rfl rfl (build_slice tab_ok rfl rfl rfl rfl rfl rfl rfl rfl) ?_
          refine dreg_onw [102, 106, 108] [912] rfl rfl rfl rfl (append_e_one (s := 20) (enc := encUse) tab_ok u rfl rfl rfl rfl rfl rfl rfl rfl) ?_
          refine dreg_onq [102, 103, 109] [920] rfl rfl rfl rfl (call_r hSa rfl rfl (arg_e (arg_ownL rfl (by simp) arg_nil)) (.inr (lbool_plain _)) (fun _ => rfl)) ?_
          refine dreg_onq [102, 110] [] rfl rfl rfl rfl (step_C tab_ok (fun K hk => hk)) ?_
          refine dreg_q [102, 111] [] rfl (pick_T tab_ok rfl rfl rfl) ?_
          refine dreg_q [112] [] rfl (step_C tab_ok (fun K hk => hk)) ?_
          refine dreg_onq [113, 18] [] rfl rfl rfl rfl (step_C tab_ok (fun K hk => hk)) ?_
          refine dreg_onq [113, 114] [] rfl rfl rfl rfl (step_C tab_ok (fun K hk => hk)) ?_
          refine dreg_onq [113, 115] [] rfl rfl rfl rfl (step_C tab_ok (fun K hk => hk)) ?_
          refine dreg_offq [116, 9] rfl rfl rfl rfl ?_
          refine dreg_offq [116, 117] rfl rfl rfl rfl ?_
          refine dreg_offq [116, 118] rfl rfl rfl rfl ?_
          refine dreg_offq [116, 119] rfl rfl rfl rfl ?_
          refine dreg_onq [113, 116, 120] [] rfl rfl rfl rfl (pick_F tab_ok rfl rfl rfl) ?_
          refine dreg_q [113, 121] [] rfl (pick_F tab_ok rfl rfl rfl) ?_
          refine dreg_end (by kernel_rfl) ?_
          refine seq_n ?_
          refine wc_false rfl rfl ?_
          refine wc_skip ?_
          refine seq_n ?_
          refine wc_seq ?_
          refine wc_draw (by kernel_rfl) ?_
          refine dreg_q [19] [] rfl (step_C tab_ok (fun K hk => hk)) ?_
          refine dreg_q [123] [] rfl (step_C tab_ok (fun K hk => hk)) ?_
          refine dreg_q [124] [] rfl (step_C tab_ok (fun K hk => hk)) ?_
          refine dreg_offq [125, 11] rfl rfl rfl rfl ?_
          refine dreg_offq [125, 126] rfl rfl rfl rfl ?_
          refine dreg_offq [125, 127] rfl rfl rfl rfl ?_
          refine dreg_offq [125, 128] rfl rfl rfl rfl ?_
          refine dreg_q [125, 129] [] rfl (pick_F tab_ok rfl rfl rfl) ?_
          refine dreg_q [130] [] rfl (step_C tab_ok (fun K hk => hk)) ?_
          refine dreg_onq [131, 19] [] rfl rfl rfl rfl (step_C tab_ok (fun K hk => hk)) ?_
          refine dreg_onq [131, 132] [] rfl rfl rfl rfl (step_C tab_ok (fun K hk => hk)) ?_
          refine dreg_onq [131, 133] [] rfl rfl rfl rfl (step_C tab_ok (fun K hk => hk)) ?_
          refine dreg_onq [134, 11] [336] rfl rfl rfl rfl (load_box tab_ok rfl rfl rfl rfl) ?_
          refine dreg_onq [134] [] rfl rfl rfl rfl (build_empty tab_ok rfl rfl) ?_
          refine dreg_onq [134, 0] [] rfl rfl rfl rfl (step_C tab_ok (fun K hk => hk)) ?_
          refine dreg_onq [134, 136, 137] [] rfl rfl rfl rfl (append_e_n tab_ok rfl rfl rfl rfl) ?_
          refine dreg_onq [134, 1] [] rfl rfl rfl rfl (step_C tab_ok (fun K hk => hk)) ?_
          refine dreg_onq [134, 138, 139] [] rfl rfl rfl rfl (append_e_n tab_ok rfl rfl rfl rfl) ?_
          refine dreg_onq [134, 135, 140] [] rfl rfl rfl rfl (call_r hSm rfl rfl (arg_e (arg_emp arg_nil)) (.inl rfl) (fun _ => rfl)) ?_
          refine dreg_onq [131, 134, 141] [] rfl rfl rfl rfl (pick_T tab_ok rfl rfl rfl) ?_
          refine dreg_q [131, 142] [] rfl (pick_F tab_ok rfl rfl rfl) ?_
          refine dreg_q [143] [] rfl (step_C tab_ok (fun K hk => hk)) ?_
          refine dreg_onq [144] [] rfl rfl rfl rfl (call_r lives_is rfl rfl arg_nil (.inl rfl) (fun _ => rfl)) ?_
          refine dreg_q [144, 145] [] rfl (pick_T tab_ok rfl rfl rfl) ?_
          refine dreg_q [146] [] rfl (step_C tab_ok (fun K hk => hk)) ?_
          refine dreg_end (by kernel_rfl) ?_
          refine seq_n ?_
          refine wc_ret ?_
          exact ⟨trivial, [], .of rfl rfl rfl rfl rfl ⟨⟨_, rfl, AVLe.of_eq rfl⟩, rfl, trivial⟩ trivial⟩
        · refine fnIs_of tab_ok Try.func12 rfl rfl rfl ?_
          refine wc_seq ?_
          refine wc_region ?_
          refine reg_new (step_C tab_ok (fun K hk => hk)) rfl ?_
          refine reg_quiet rfl (step_C tab_ok (fun K hk => hk)) ?_
          refine reg_nil ?_
          refine seq_n ?_
          refine wc_seq ?_
          refine wc_seq ?_
          refine wc_region ?_
          refine reg_quiet rfl (step_C tab_ok (fun K hk => hk)) ?_
          refine reg_quiet rfl (len_arr tab_ok rfl rfl) ?_
          refine reg_quiet rfl (step_C tab_ok (fun K hk => hk)) ?_
          refine reg_quiet rfl (step_C tab_ok (fun K hk => hk)) ?_
          refine reg_on rfl rfl rfl ?_
          refine reg_quiet rfl (step_C tab_ok (fun K hk => hk)) ?_
          refine reg_on rfl rfl rfl ?_
          refine reg_quiet rfl (len_arr tab_ok rfl rfl) ?_
          refine reg_on rfl rfl rfl ?_
          refine reg_quiet rfl (step_C tab_ok (fun K hk => hk)) ?_
          refine reg_quiet rfl (pick_F tab_ok rfl rfl rfl) ?_
          refine reg_nil ?_
          refine seq_n ?_
          refine wc_false rfl (by assumption) ?_
          refine wc_skip ?_
          refine seq_n ?_
          refine wc_seq ?_
          refine wc_region ?_
          refine reg_quiet rfl (step_C tab_ok (fun K hk => hk)) ?_
          refine reg_quiet rfl (call_r hC0 rfl rfl (arg_e arg_nil) (.inl rfl) (fun _ => rfl)) ?_
          refine reg_quiet rfl (step_C tab_ok (fun K hk => hk)) ?_
          refine reg_quiet rfl (call_r hC1 rfl rfl (arg_e arg_nil) (.inl rfl) (fun _ => rfl)) ?_
          refine reg_quiet rfl (step_C tab_ok (fun K hk => hk)) ?_
          refine reg_quiet rfl (step_C tab_ok (fun K hk => hk)) ?_
          refine reg_nil ?_
          refine seq_n ?_
          refine wc_seq ?_
          refine wc_draw (by kernel_rfl) ?_
          refine dreg_q [0] [] rfl (step_C tab_ok (fun K hk => hk)) ?_
          refine dreg_q [34] [] rfl (call_r (of_is _) rfl rfl (arg_e arg_nil) (.inl rfl) (fun _ => rfl)) ?_
          refine dreg_q [5] [64] rfl (load_box tab_ok rfl rfl rfl rfl) ?_
          refine dreg_q [35, 36] [] rfl (call_r hAdd rfl rfl (arg_e (arg_e arg_nil)) (.inl rfl) (fun _ => rfl)) ?_
          refine dreg_q [37] [] rfl (step_C tab_ok (fun K hk => hk)) ?_
          refine dreg_q [33] [] rfl (step_C tab_ok (fun K hk => hk)) ?_
          refine dreg_q [33] [] rfl (step_C tab_ok (fun K hk => hk)) ?_
          refine dreg_w [] [] rfl (step_C tab_ok (fun K hk => hk)) ?_
          refine dreg_s [9, 38] [248] (store_row tab_ok rfl rfl rfl ⟨_, ⟨rfl, rfl, rfl⟩, rfl⟩ rfl) ?_
          refine dreg_q [39] [] rfl (step_C tab_ok (fun K hk => hk)) ?_
          refine dreg_end (by kernel_rfl) ?_
          refine seq_n ?_
          refine wc_seq ?_
          refine wc_region ?_
          refine reg_quiet rfl (step_C tab_ok (fun K hk => hk)) ?_
          refine reg_quiet rfl (call_r (of_is _) rfl rfl (arg_e arg_nil) (.inl rfl) (fun _ => rfl)) ?_
          refine reg_quiet rfl (step_C tab_ok (fun K hk => hk)) ?_
          refine reg_quiet rfl (call_r (of_is _) rfl rfl (arg_e arg_nil) (.inl rfl) (fun _ => rfl)) ?_
          refine reg_quiet rfl (call_r hMrg rfl rfl (arg_e (arg_e arg_nil)) (.inl rfl) (fun _ => rfl)) ?_
          refine reg_quiet rfl (step_C tab_ok (fun K hk => hk)) ?_
          refine reg_quiet rfl (step_C tab_ok (fun K hk => hk)) ?_
          refine reg_quiet rfl (step_C tab_ok (fun K hk => hk)) ?_
          refine reg_new (step_C tab_ok (fun K hk => hk)) rfl ?_
          refine reg_store (store_row tab_ok rfl rfl rfl ⟨_, ⟨rfl, rfl, rfl⟩, rfl⟩ rfl) ?_
          refine reg_quiet rfl (step_C tab_ok (fun K hk => hk)) ?_
          refine reg_nil ?_
          refine seq_n ?_
          refine wc_seq ?_
          refine wc_region ?_
          refine reg_quiet rfl (step_C tab_ok (fun K hk => hk)) ?_
          refine reg_quiet rfl (call_r (of_is _) rfl rfl (arg_e arg_nil) (.inl rfl) (fun _ => rfl)) ?_
          refine reg_quiet rfl (call_r hTxt rfl rfl (arg_e arg_nil) (.inl rfl) (fun _ => rfl)) ?_
          refine reg_quiet rfl (step_C tab_ok (fun K hk => hk)) ?_
          refine reg_quiet rfl (step_C tab_ok (fun K hk => hk)) ?_
          refine reg_quiet rfl (step_C tab_ok (fun K hk => hk)) ?_
          refine reg_quiet rfl (step_C tab_ok (fun K hk => hk)) ?_
          refine reg_quiet rfl (step_C tab_ok (fun K hk => hk)) ?_
          refine reg_nil ?_
          refine seq_n ?_
          refine wc_seq ?_
          refine wc_region ?_
          refine reg_quiet rfl (step_C tab_ok (fun K hk => hk)) ?_
          refine reg_quiet rfl (call_r (of_is _) rfl rfl (arg_e arg_nil) (.inl rfl) (fun _ => rfl)) ?_
          refine reg_quiet rfl (call_r hRep rfl rfl (arg_e arg_nil) (.inl rfl) (fun _ => rfl)) ?_
          refine reg_quiet rfl (step_C tab_ok (fun K hk => hk)) ?_
          refine reg_quiet rfl (step_C tab_ok (fun K hk => hk)) ?_
          refine reg_quiet rfl (step_C tab_ok (fun K hk => hk)) ?_
          refine reg_quiet rfl (step_C tab_ok (fun K hk => hk)) ?_
          refine reg_quiet rfl (step_C tab_ok (fun K hk => hk)) ?_
          refine reg_quiet rfl (step_C tab_ok (fun K hk => hk)) ?_
          refine reg_quiet rfl (step_C tab_ok (fun K hk => hk)) ?_
          refine reg_nil ?_
          refine seq_n ?_
          refine wc_seq ?_
          refine wc_region ?_
          refine reg_quiet rfl (step_C tab_ok (fun K hk => hk)) ?_
          refine reg_quiet rfl (step_C tab_ok (fun K hk => hk)) ?_
          refine reg_quiet rfl (step_C tab_ok (fun K hk => hk)) ?_
          refine reg_quiet rfl (step_C tab_ok (fun K hk => hk)) ?_
          refine reg_nil ?_
          refine seq_n ?_
          refine wc_seq ?_
          refine wc_seq ?_
          refine wc_region ?_
          refine reg_quiet rfl (step_C tab_ok (fun K hk => hk)) ?_
          refine reg_quiet rfl (step_C tab_ok (fun K hk => hk)) ?_
          refine reg_nil ?_
          refine seq_n ?_
          refine wc_true rfl rfl ?_
          refine wc_seq ?_
          refine wc_region ?_
          refine reg_quiet rfl (step_C tab_ok (fun K hk => hk)) ?_
          refine reg_quiet rfl (step_C tab_ok (fun K hk => hk)) ?_
          refine reg_nil ?_
          refine seq_n ?_
          refine wc_region ?_
          refine reg_quiet rfl (load_box tab_ok rfl rfl rfl rfl) ?_
          refine reg_new (build_slice tab_ok rfl rfl rfl rfl rfl rfl rfl rfl) rfl ?_
          refine reg_freeze (env' := [(67, _), (19, _), (17, _), (14, _), (13, _), (12, _), (11, _), (10, _), (9, _), (8, _), (7, _), (6, _), (5, _), (0, _), (1, _)]) (h' := [(64, some _), (248, some _), (336, some _)]) 576 _ rfl ⟨⟨_, rfl, Frz.lits1 (enc := encUse) u rfl rfl⟩, ⟨_, rfl, .refl _⟩, ⟨_, rfl, .refl _⟩, ⟨_, rfl, .refl _⟩, ⟨_, rfl, .refl _⟩, ⟨_, rfl, .refl _⟩, ⟨_, rfl, .refl _⟩, ⟨_, rfl, .refl _⟩, ⟨_, rfl, .refl _⟩, ⟨_, rfl, .refl _⟩, ⟨_, rfl, .refl _⟩, ⟨_, rfl, .refl _⟩, ⟨_, rfl, .refl _⟩, ⟨_, rfl, .refl _⟩, ⟨_, rfl, .refl _⟩, trivial⟩ ⟨⟨rfl, _, rfl, .refl _⟩, ⟨rfl, _, rfl, .refl _⟩, ⟨rfl, _, rfl, .refl _⟩, trivial⟩ ?_
          refine reg_quiet rfl (call_r hCu rfl rfl (arg_e arg_nil) (.inl rfl) (fun _ => rfl)) ?_
          refine reg_quiet rfl (step_C tab_ok (fun K hk => hk)) ?_
          refine reg_nil ?_
          refine seq_n ?_
          refine wc_seq ?_
          refine wc_seq ?_
          refine wc_region ?_
          refine reg_quiet rfl (step_C tab_ok (fun K hk => hk)) ?_
          refine reg_quiet rfl (call_r (of_is _) rfl rfl (arg_e arg_nil) (.inl rfl) (fun _ => rfl)) ?_
          refine reg_quiet rfl (call_r hChk rfl rfl (arg_e arg_nil) (.inl rfl) (fun _ => rfl)) ?_
          refine reg_quiet rfl (step_C tab_ok (fun K hk => hk)) ?_
          refine reg_quiet rfl (step_C tab_ok (fun K hk => hk)) ?_
          refine reg_quiet rfl (step_C tab_ok (fun K hk => hk)) ?_
          refine reg_on rfl rfl rfl ?_
          refine reg_quiet rfl (step_C tab_ok (fun K hk => hk)) ?_
          refine reg_on rfl rfl rfl ?_
          refine reg_quiet rfl (step_C tab_ok (fun K hk => hk)) ?_
          refine reg_on rfl rfl rfl ?_
          refine reg_quiet rfl (step_C tab_ok (fun K hk => hk)) ?_
          refine reg_quiet rfl (pick_F tab_ok rfl rfl rfl) ?_
          refine reg_quiet rfl (step_C tab_ok (fun K hk => hk)) ?_
          refine reg_on rfl rfl rfl ?_
          refine reg_quiet rfl (step_C tab_ok (fun K hk => hk)) ?_
          refine reg_on rfl rfl rfl ?_
          refine reg_quiet rfl (step_C tab_ok (fun K hk => hk)) ?_
          refine reg_on rfl rfl rfl ?_
          refine reg_quiet rfl (step_C tab_ok (fun K hk => hk)) ?_
          refine reg_quiet rfl (pick_F tab_ok rfl rfl rfl) ?_
          refine reg_quiet rfl (step_C tab_ok (fun K hk => hk)) ?_
          refine reg_on rfl rfl rfl ?_
          refine reg_quiet rfl (step_C tab_ok (fun K hk => hk)) ?_
          refine reg_on rfl rfl rfl ?_
          refine reg_quiet rfl (step_C tab_ok (fun K hk => hk)) ?_
          refine reg_on rfl rfl rfl ?_
          refine reg_quiet rfl (step_C tab_ok (fun K hk => hk)) ?_
          refine reg_quiet rfl (pick_F tab_ok rfl rfl rfl) ?_
          refine reg_quiet rfl (step_C tab_ok (fun K hk => hk)) ?_
          refine reg_on rfl rfl rfl ?_
          refine reg_quiet rfl (step_C tab_ok (fun K hk => hk)) ?_
          refine reg_on rfl rfl rfl ?_
          refine reg_quiet rfl (step_C tab_ok (fun K hk => hk)) ?_
          refine reg_on rfl rfl rfl ?_
          refine reg_quiet rfl (step_C tab_ok (fun K hk => hk)) ?_
          refine reg_skip rfl rfl rfl rfl rfl ?_
          refine reg_skip rfl rfl rfl rfl rfl ?_
          refine reg_skipU rfl rfl rfl rfl ?_
          refine reg_skipU rfl rfl rfl rfl ?_
          refine reg_skip rfl rfl rfl rfl rfl ?_
          refine reg_on rfl rfl rfl ?_
          refine reg_quiet rfl (pick_F tab_ok rfl rfl rfl) ?_
          refine reg_quiet rfl (pick_F tab_ok rfl rfl rfl) ?_
          refine reg_nil ?_
          refine seq_n ?_
          refine wc_false rfl rfl ?_
          refine wc_skip ?_
          refine seq_n ?_
          refine wc_seq ?_
          refine wc_seq ?_
          refine wc_draw (by kernel_rfl) ?_
          refine dreg_q [18] [] rfl (step_C tab_ok (fun K hk => hk)) ?_
          refine dreg_q [100] [] rfl (step_C tab_ok (fun K hk => hk)) ?_
          refine dreg_q [101] [] rfl (step_C tab_ok (fun K hk => hk)) ?_
          refine dreg_onq [102, 9] [248] rfl rfl rfl rfl (load_box tab_ok rfl rfl rfl rfl) ?_
          refine dreg_onq [102] [] rfl rfl rfl rfl (build_empty tab_ok rfl rfl) ?_
          refine dreg_onq [102, 0] [] rfl rfl rfl rfl (step_C tab_ok (fun K hk => hk)) ?_
          refine dreg_onq [102, 104, 105] [] rfl rfl rfl rfl (append_e_n tab_ok rfl rfl rfl rfl) ?_
          refine dreg_onq [102, 5] [64] rfl rfl rfl rfl (load_box tab_ok rfl rfl rfl rfl) ?_
          refine dreg_onw [102, 107] [] rfl rfl rfl rfl (build_slice tab_ok rfl rfl rfl rfl rfl rfl rfl rfl) ?_
          refine dreg_onw [102, 106, 108] [912] rfl rfl rfl rfl (append_e_one (s := 20) (enc := encUse) tab_ok u rfl rfl rfl rfl rfl rfl rfl rfl) ?_
          refine dreg_onq [102, 103, 109] [920] rfl rfl rfl rfl (call_r hSa rfl rfl (arg_e (arg_ownL rfl (by simp) arg_nil)) (.inr (lbool_plain _)) (fun _ => rfl)) ?_
          refine dreg_onq [102, 110] [] rfl rfl rfl rfl (step_C tab_ok (fun K hk => hk)) ?_
          refine dreg_q [102, 111] [] rfl (pick_T tab_ok rfl rfl rfl) ?_
          refine dreg_q [112] [] rfl (step_C tab_ok (fun K hk => hk)) ?_
          refine dreg_onq [113, 18] [] rfl rfl rfl rfl (step_C tab_ok (fun K hk => hk)) ?_
          refine dreg_onq [113, 114] [] rfl rfl rfl rfl (step_C tab_ok (fun K hk => hk)) ?_
          refine dreg_onq [113, 115] [] rfl rfl rfl rfl (step_C tab_ok (fun K hk => hk)) ?_
          refine dreg_offq [116, 9] rfl rfl rfl rfl ?_
          refine dreg_offq [116, 117] rfl rfl rfl rfl ?_
          refine dreg_offq [116, 118] rfl rfl rfl rfl ?_
          refine dreg_offq [116, 119] rfl rfl rfl rfl ?_
          refine dreg_onq [113, 116, 120] [] rfl rfl rfl rfl (pick_F tab_ok rfl rfl rfl) ?_
          refine dreg_q [113, 121] [] rfl (pick_F tab_ok rfl rfl rfl) ?_
          refine dreg_end (by kernel_rfl) ?_
          refine seq_n ?_
          refine wc_false rfl rfl ?_
          refine wc_skip ?_
          refine seq_n ?_
          refine wc_seq ?_
          refine wc_draw (by kernel_rfl) ?_
          refine dreg_q [19] [] rfl (step_C tab_ok (fun K hk => hk)) ?_
          refine dreg_q [123] [] rfl (step_C tab_ok (fun K hk => hk)) ?_
          refine dreg_q [124] [] rfl (step_C tab_ok (fun K hk => hk)) ?_
          refine dreg_offq [125, 11] rfl rfl rfl rfl ?_
          refine dreg_offq [125, 126] rfl rfl rfl rfl ?_
          refine dreg_offq [125, 127] rfl rfl rfl rfl ?_
          refine dreg_offq [125, 128] rfl rfl rfl rfl ?_
          refine dreg_q [125, 129] [] rfl (pick_F tab_ok rfl rfl rfl) ?_
          refine dreg_q [130] [] rfl (step_C tab_ok (fun K hk => hk)) ?_
          refine dreg_onq [131, 19] [] rfl rfl rfl rfl (step_C tab_ok (fun K hk => hk)) ?_
          refine dreg_onq [131, 132] [] rfl rfl rfl rfl (step_C tab_ok (fun K hk => hk)) ?_
          refine dreg_onq [131, 133] [] rfl rfl rfl rfl (step_C tab_ok (fun K hk => hk)) ?_
          refine dreg_onq [134, 11] [336] rfl rfl rfl rfl (load_box tab_ok rfl rfl rfl rfl) ?_
          refine dreg_onq [134] [] rfl rfl rfl rfl (build_empty tab_ok rfl rfl) ?_
          refine dreg_onq [134, 0] [] rfl rfl rfl rfl (step_C tab_ok (fun K hk => hk)) ?_
          refine dreg_onq [134, 136, 137] [] rfl rfl rfl rfl (append_e_n tab_ok rfl rfl rfl rfl) ?_
          refine dreg_onq [134, 1] [] rfl rfl rfl rfl (step_C tab_ok (fun K hk => hk)) ?_
          refine dreg_onw [134, 138, 139] [] rfl rfl rfl rfl (append_empty_arr (s := 20) (enc := encUse) (ys := m) tab_ok rfl rfl rfl rfl rfl (.inl rfl) rfl hpm hmm rfl) ?_
          refine dreg_onq [134, 135, 140] [1168] rfl rfl rfl rfl (call_r hSm rfl rfl (arg_e (arg_ownL rfl (by simp) arg_nil)) (.inr (lbool_plain _)) (fun _ => rfl)) ?_
          refine dreg_onq [131, 134, 141] [] rfl rfl rfl rfl (pick_T tab_ok rfl rfl rfl) ?_
          refine dreg_q [131, 142] [] rfl (pick_F tab_ok rfl rfl rfl) ?_
          refine dreg_q [143] [] rfl (step_C tab_ok (fun K hk => hk)) ?_
          refine dreg_onq [144] [] rfl rfl rfl rfl (call_r lives_is rfl rfl arg_nil (.inl rfl) (fun _ => rfl)) ?_
          refine dreg_q [144, 145] [] rfl (pick_T tab_ok rfl rfl rfl) ?_
          refine dreg_q [146] [] rfl (step_C tab_ok (fun K hk => hk)) ?_
          refine dreg_end (by kernel_rfl) ?_
          refine seq_n ?_
          refine wc_ret ?_
          exact ⟨trivial, [], .of rfl rfl rfl rfl rfl ⟨⟨_, rfl, AVLe.of_eq rfl⟩, rfl, trivial⟩ trivial⟩
      · rcases Nat.eq_zero_or_pos m.length with hm0 | hpm
        · obtain rfl := List.length_eq_zero_iff.1 hm0
          have hSm : FnIs Try.prog 42 [.d (ledX (l ++ [])), .d (.arr 20 encUse l)] [] (.bool true) [] := by
            rw [List.append_nil] at hSm ⊢
            exact hSm
          refine fnIs_of tab_ok Try.func12 rfl rfl rfl ?_
          refine wc_seq ?_
          refine wc_region ?_
          refine reg_new (step_C tab_ok (fun K hk => hk)) rfl ?_
          refine reg_quiet rfl (step_C tab_ok (fun K hk => hk)) ?_
          refine reg_nil ?_
          refine seq_n ?_
          refine wc_seq ?_
          refine wc_seq ?_
          refine wc_region ?_
          refine reg_quiet rfl (step_C tab_ok (fun K hk => hk)) ?_
          refine reg_quiet rfl (len_arr tab_ok rfl rfl) ?_
          refine reg_quiet rfl (step_C tab_ok (fun K hk => hk)) ?_
          refine reg_quiet rfl (step_C tab_ok (fun K hk => hk)) ?_
          refine reg_on rfl rfl (by assumption) ?_
          refine reg_quiet rfl (step_C tab_ok (fun K hk => hk)) ?_
          refine reg_on rfl rfl (by assumption) ?_
          refine reg_quiet rfl (len_arr tab_ok rfl rfl) ?_
          refine reg_on rfl rfl (by assumption) ?_
          refine reg_quiet rfl (step_C tab_ok (fun K hk => hk)) ?_
          refine reg_quiet rfl (pick_F tab_ok rfl (by assumption) rfl) ?_
          refine reg_nil ?_
          refine seq_n ?_
          refine wc_false rfl rfl ?_
          refine wc_skip ?_
          refine seq_n ?_
          refine wc_seq ?_
          refine wc_region ?_
          refine reg_quiet rfl (step_C tab_ok (fun K hk => hk)) ?_
          refine reg_quiet rfl (call_r hC0 rfl rfl (arg_e arg_nil) (.inl rfl) (fun _ => rfl)) ?_
          refine reg_quiet rfl (step_C tab_ok (fun K hk => hk)) ?_
          refine reg_quiet rfl (call_r hC1 rfl rfl (arg_e arg_nil) (.inl rfl) (fun _ => rfl)) ?_
          refine reg_quiet rfl (step_C tab_ok (fun K hk => hk)) ?_
          refine reg_quiet rfl (step_C tab_ok (fun K hk => hk)) ?_
          refine reg_nil ?_
          refine seq_n ?_
          refine wc_seq ?_
          refine wc_draw (by kernel_rfl) ?_
          refine dreg_q [0] [] rfl (step_C tab_ok (fun K hk => hk)) ?_
          refine dreg_q [34] [] rfl (call_r (of_is _) rfl rfl (arg_e arg_nil) (.inl rfl) (fun _ => rfl)) ?_
          refine dreg_q [5] [64] rfl (load_box tab_ok rfl rfl rfl rfl) ?_
          refine dreg_q [35, 36] [] rfl (call_r hAdd rfl rfl (arg_e (arg_e arg_nil)) (.inl rfl) (fun _ => rfl)) ?_
          refine dreg_q [37] [] rfl (step_C tab_ok (fun K hk => hk)) ?_
          refine dreg_q [33] [] rfl (step_C tab_ok (fun K hk => hk)) ?_
          refine dreg_q [33] [] rfl (step_C tab_ok (fun K hk => hk)) ?_
          refine dreg_w [] [] rfl (step_C tab_ok (fun K hk => hk)) ?_
          refine dreg_s [9, 38] [248] (store_row tab_ok rfl rfl rfl ⟨_, ⟨rfl, rfl, rfl⟩, rfl⟩ rfl) ?_
          refine dreg_q [39] [] rfl (step_C tab_ok (fun K hk => hk)) ?_
          refine dreg_end (by kernel_rfl) ?_
          refine seq_n ?_
          refine wc_seq ?_
          refine wc_region ?_
          refine reg_quiet rfl (step_C tab_ok (fun K hk => hk)) ?_
          refine reg_quiet rfl (call_r (of_is _) rfl rfl (arg_e arg_nil) (.inl rfl) (fun _ => rfl)) ?_
          refine reg_quiet rfl (step_C tab_ok (fun K hk => hk)) ?_
          refine reg_quiet rfl (call_r (of_is _) rfl rfl (arg_e arg_nil) (.inl rfl) (fun _ => rfl)) ?_
          refine reg_quiet rfl (call_r hMrg rfl rfl (arg_e (arg_e arg_nil)) (.inl rfl) (fun _ => rfl)) ?_
          refine reg_quiet rfl (step_C tab_ok (fun K hk => hk)) ?_
          refine reg_quiet rfl (step_C tab_ok (fun K hk => hk)) ?_
          refine reg_quiet rfl (step_C tab_ok (fun K hk => hk)) ?_
          refine reg_new (step_C tab_ok (fun K hk => hk)) rfl ?_
          refine reg_store (store_row tab_ok rfl rfl rfl ⟨_, ⟨rfl, rfl, rfl⟩, rfl⟩ rfl) ?_
          refine reg_quiet rfl (step_C tab_ok (fun K hk => hk)) ?_
          refine reg_nil ?_
          refine seq_n ?_
          refine wc_seq ?_
          refine wc_region ?_
          refine reg_quiet rfl (step_C tab_ok (fun K hk => hk)) ?_
          refine reg_quiet rfl (call_r (of_is _) rfl rfl (arg_e arg_nil) (.inl rfl) (fun _ => rfl)) ?_
          refine reg_quiet rfl (call_r hTxt rfl rfl (arg_e arg_nil) (.inl rfl) (fun _ => rfl)) ?_
          refine reg_quiet rfl (step_C tab_ok (fun K hk => hk)) ?_
          refine reg_quiet rfl (step_C tab_ok (fun K hk => hk)) ?_
          refine reg_quiet rfl (step_C tab_ok (fun K hk => hk)) ?_
          refine reg_quiet rfl (step_C tab_ok (fun K hk => hk)) ?_
          refine reg_quiet rfl (step_C tab_ok (fun K hk => hk)) ?_
          refine reg_nil ?_
          refine seq_n ?_
          refine wc_seq ?_
          refine wc_region ?_
          refine reg_quiet rfl (step_C tab_ok (fun K hk => hk)) ?_
          refine reg_quiet rfl (call_r (of_is _) rfl rfl (arg_e arg_nil) (.inl rfl) (fun _ => rfl)) ?_
          refine reg_quiet rfl (call_r hRep rfl rfl (arg_e arg_nil) (.inl rfl) (fun _ => rfl)) ?_
          refine reg_quiet rfl (step_C tab_ok (fun K hk => hk)) ?_
          refine reg_quiet rfl (step_C tab_ok (fun K hk => hk)) ?_
          refine reg_quiet rfl (step_C tab_ok (fun K hk => hk)) ?_
          refine reg_quiet rfl (step_C tab_ok (fun K hk => hk)) ?_
          refine reg_quiet rfl (step_C tab_ok (fun K hk => hk)) ?_
          refine reg_quiet rfl (step_C tab_ok (fun K hk => hk)) ?_
          refine reg_quiet rfl (step_C tab_ok (fun K hk => hk)) ?_
          refine reg_nil ?_
          refine seq_n ?_
          refine wc_seq ?_
          refine wc_region ?_
          refine reg_quiet rfl (step_C tab_ok (fun K hk => hk)) ?_
          refine reg_quiet rfl (step_C tab_ok (fun K hk => hk)) ?_
          refine reg_quiet rfl (step_C tab_ok (fun K hk => hk)) ?_
          refine reg_quiet rfl (step_C tab_ok (fun K hk => hk)) ?_
          refine reg_nil ?_
          refine seq_n ?_
          refine wc_seq ?_
          refine wc_seq ?_
          refine wc_region ?_
          refine reg_quiet rfl (step_C tab_ok (fun K hk => hk)) ?_
          refine reg_quiet rfl (step_C tab_ok (fun K hk => hk)) ?_
          refine reg_nil ?_
          refine seq_n ?_
          refine wc_true rfl rfl ?_
          refine wc_seq ?_
          refine wc_region ?_
          refine reg_quiet rfl (step_C tab_ok (fun K hk => hk)) ?_
          refine reg_quiet rfl (step_C tab_ok (fun K hk => hk)) ?_
          refine reg_nil ?_
          refine seq_n ?_
          refine wc_region ?_
          refine reg_quiet rfl (load_box tab_ok rfl rfl rfl rfl) ?_
          refine reg_new (build_slice tab_ok rfl rfl rfl rfl rfl rfl rfl rfl) rfl ?_
          refine reg_freeze (env' := [(67, _), (19, _), (17, _), (14, _), (13, _), (12, _), (11, _), (10, _), (9, _), (8, _), (7, _), (6, _), (5, _), (0, _), (1, _)]) (h' := [(64, some _), (248, some _), (336, some _)]) 576 _ rfl ⟨⟨_, rfl, Frz.lits1 (enc := encUse) u rfl rfl⟩, ⟨_, rfl, .refl _⟩, ⟨_, rfl, .refl _⟩, ⟨_, rfl, .refl _⟩, ⟨_, rfl, .refl _⟩, ⟨_, rfl, .refl _⟩, ⟨_, rfl, .refl _⟩, ⟨_, rfl, .refl _⟩, ⟨_, rfl, .refl _⟩, ⟨_, rfl, .refl _⟩, ⟨_, rfl, .refl _⟩, ⟨_, rfl, .refl _⟩, ⟨_, rfl, .refl _⟩, ⟨_, rfl, .refl _⟩, ⟨_, rfl, .refl _⟩, trivial⟩ ⟨⟨rfl, _, rfl, .refl _⟩, ⟨rfl, _, rfl, .refl _⟩, ⟨rfl, _, rfl, .refl _⟩, trivial⟩ ?_
          refine reg_quiet rfl (call_r hCu rfl rfl (arg_e arg_nil) (.inl rfl) (fun _ => rfl)) ?_
          refine reg_quiet rfl (step_C tab_ok (fun K hk => hk)) ?_
          refine reg_nil ?_
          refine seq_n ?_
          refine wc_seq ?_
          refine wc_seq ?_
          refine wc_region ?_
          refine reg_quiet rfl (step_C tab_ok (fun K hk => hk)) ?_
          refine reg_quiet rfl (call_r (of_is _) rfl rfl (arg_e arg_nil) (.inl rfl) (fun _ => rfl)) ?_
          refine reg_quiet rfl (call_r hChk rfl rfl (arg_e arg_nil) (.inl rfl) (fun _ => rfl)) ?_
          refine reg_quiet rfl (step_C tab_ok (fun K hk => hk)) ?_
          refine reg_quiet rfl (step_C tab_ok (fun K hk => hk)) ?_
          refine reg_quiet rfl (step_C tab_ok (fun K hk => hk)) ?_
          refine reg_on rfl rfl rfl ?_
          refine reg_quiet rfl (step_C tab_ok (fun K hk => hk)) ?_
          refine reg_on rfl rfl rfl ?_
          refine reg_quiet rfl (step_C tab_ok (fun K hk => hk)) ?_
          refine reg_on rfl rfl rfl ?_
          refine reg_quiet rfl (step_C tab_ok (fun K hk => hk)) ?_
          refine reg_quiet rfl (pick_F tab_ok rfl rfl rfl) ?_
          refine reg_quiet rfl (step_C tab_ok (fun K hk => hk)) ?_
          refine reg_on rfl rfl rfl ?_
          refine reg_quiet rfl (step_C tab_ok (fun K hk => hk)) ?_
          refine reg_on rfl rfl rfl ?_
          refine reg_quiet rfl (step_C tab_ok (fun K hk => hk)) ?_
          refine reg_on rfl rfl rfl ?_
          refine reg_quiet rfl (step_C tab_ok (fun K hk => hk)) ?_
          refine reg_quiet rfl (pick_F tab_ok rfl rfl rfl) ?_
          refine reg_quiet rfl (step_C tab_ok (fun K hk => hk)) ?_
          refine reg_on rfl rfl rfl ?_
          refine reg_quiet rfl (step_C tab_ok (fun K hk => hk)) ?_
          refine reg_on rfl rfl rfl ?_
          refine reg_quiet rfl (step_C tab_ok (fun K hk => hk)) ?_
          refine reg_on rfl rfl rfl ?_
          refine reg_quiet rfl (step_C tab_ok (fun K hk => hk)) ?_
          refine reg_quiet rfl (pick_F tab_ok rfl rfl rfl) ?_
          refine reg_quiet rfl (step_C tab_ok (fun K hk => hk)) ?_
          refine reg_on rfl rfl rfl ?_
          refine reg_quiet rfl (step_C tab_ok (fun K hk => hk)) ?_
          refine reg_on rfl rfl rfl ?_
          refine reg_quiet rfl (step_C tab_ok (fun K hk => hk)) ?_
          refine reg_on rfl rfl rfl ?_
          refine reg_quiet rfl (step_C tab_ok (fun K hk => hk)) ?_
          refine reg_skip rfl rfl rfl rfl rfl ?_
          refine reg_skip rfl rfl rfl rfl rfl ?_
          refine reg_skipU rfl rfl rfl rfl ?_
          refine reg_skipU rfl rfl rfl rfl ?_
          refine reg_skip rfl rfl rfl rfl rfl ?_
          refine reg_on rfl rfl rfl ?_
          refine reg_quiet rfl (pick_F tab_ok rfl rfl rfl) ?_
          refine reg_quiet rfl (pick_F tab_ok rfl rfl rfl) ?_
          refine reg_nil ?_
          refine seq_n ?_
          refine wc_false rfl rfl ?_
          refine wc_skip ?_
          refine seq_n ?_
          refine wc_seq ?_
          refine wc_seq ?_
          refine wc_draw (by kernel_rfl) ?_
          refine dreg_q [18] [] rfl (step_C tab_ok (fun K hk => hk)) ?_
          refine dreg_q [100] [] rfl (step_C tab_ok (fun K hk => hk)) ?_
          refine dreg_q [101] [] rfl (step_C tab_ok (fun K hk => hk)) ?_
          refine dreg_onq [102, 9] [248] rfl rfl rfl rfl (load_box tab_ok rfl rfl rfl rfl) ?_
          refine dreg_onq [102] [] rfl rfl rfl rfl (build_empty tab_ok rfl rfl) ?_
          refine dreg_onq [102, 0] [] rfl rfl rfl rfl (step_C tab_ok (fun K hk => hk)) ?_
          refine dreg_onw [102, 104, 105] [] rfl rfl rfl rfl (append_empty_arr (s := 20) (enc := encUse) (ys := l) tab_ok rfl rfl rfl rfl rfl (.inl rfl) rfl hpl hll rfl) ?_
          refine dreg_onq [102, 5] [64] rfl rfl rfl rfl (load_box tab_ok rfl rfl rfl rfl) ?_
          refine dreg_onw [102, 107] [] rfl rfl rfl rfl (build_slice tab_ok rfl rfl rfl rfl rfl rfl rfl rfl) ?_
          refine dreg_onw2 [102, 106, 108] [896, 912] rfl rfl rfl rfl (append_one (s := 20) (enc := encUse) tab_ok u rfl rfl rfl rfl rfl rfl rfl rfl rfl hl1 rfl) ?_
          refine dreg_onq [102, 103, 109] [920] rfl rfl rfl rfl (call_r hSa rfl rfl (arg_e (arg_ownL rfl (by simp) arg_nil)) (.inr (lbool_plain _)) (fun _ => rfl)) ?_
          refine dreg_onq [102, 110] [] rfl rfl rfl rfl (step_C tab_ok (fun K hk => hk)) ?_
          refine dreg_q [102, 111] [] rfl (pick_T tab_ok rfl rfl rfl) ?_
          refine dreg_q [112] [] rfl (step_C tab_ok (fun K hk => hk)) ?_
          refine dreg_onq [113, 18] [] rfl rfl rfl rfl (step_C tab_ok (fun K hk => hk)) ?_
          refine dreg_onq [113, 114] [] rfl rfl rfl rfl (step_C tab_ok (fun K hk => hk)) ?_
          refine dreg_onq [113, 115] [] rfl rfl rfl rfl (step_C tab_ok (fun K hk => hk)) ?_
          refine dreg_offq [116, 9] rfl rfl rfl rfl ?_
          refine dreg_offq [116, 117] rfl rfl rfl rfl ?_
          refine dreg_offq [116, 118] rfl rfl rfl rfl ?_
          refine dreg_offq [116, 119] rfl rfl rfl rfl ?_
          refine dreg_onq [113, 116, 120] [] rfl rfl rfl rfl (pick_F tab_ok rfl rfl rfl) ?_
          refine dreg_q [113, 121] [] rfl (pick_F tab_ok rfl rfl rfl) ?_
          refine dreg_end (by kernel_rfl) ?_
          refine seq_n ?_
          refine wc_false rfl rfl ?_
          refine wc_skip ?_
          refine seq_n ?_
          refine wc_seq ?_
          refine wc_draw (by kernel_rfl) ?_
          refine dreg_q [19] [] rfl (step_C tab_ok (fun K hk => hk)) ?_
          refine dreg_q [123] [] rfl (step_C tab_ok (fun K hk => hk)) ?_
          refine dreg_q [124] [] rfl (step_C tab_ok (fun K hk => hk)) ?_
          refine dreg_offq [125, 11] rfl rfl rfl rfl ?_
          refine dreg_offq [125, 126] rfl rfl rfl rfl ?_
          refine dreg_offq [125, 127] rfl rfl rfl rfl ?_
          refine dreg_offq [125, 128] rfl rfl rfl rfl ?_
          refine dreg_q [125, 129] [] rfl (pick_F tab_ok rfl rfl rfl) ?_
          refine dreg_q [130] [] rfl (step_C tab_ok (fun K hk => hk)) ?_
          refine dreg_onq [131, 19] [] rfl rfl rfl rfl (step_C tab_ok (fun K hk => hk)) ?_
          refine dreg_onq [131, 132] [] rfl rfl rfl rfl (step_C tab_ok (fun K hk => hk)) ?_
          refine dreg_onq [131, 133] [] rfl rfl rfl rfl (step_C tab_ok (fun K hk => hk)) ?_
          refine dreg_onq [134, 11] [336] rfl rfl rfl rfl (load_box tab_ok rfl rfl rfl rfl) ?_
          refine dreg_onq [134] [] rfl rfl rfl rfl (build_empty tab_ok rfl rfl) ?_
          refine dreg_onq [134, 0] [] rfl rfl rfl rfl (step_C tab_ok (fun K hk => hk)) ?_
          refine dreg_onw [134, 136, 137] [] rfl rfl rfl rfl (append_empty_arr (s := 20) (enc := encUse) (ys := l) tab_ok rfl rfl rfl rfl rfl (.inl rfl) rfl hpl hll rfl) ?_
          refine dreg_onq [134, 1] [] rfl rfl rfl rfl (step_C tab_ok (fun K hk => hk)) ?_
          refine dreg_onq [134, 138, 139] [1152] rfl rfl rfl rfl (append_own_e tab_ok rfl rfl rfl rfl) ?_
          refine dreg_onq [134, 135, 140] [1152] rfl rfl rfl rfl (call_r hSm rfl rfl (arg_e (arg_ownL rfl (by simp) arg_nil)) (.inr (lbool_plain _)) (fun _ => rfl)) ?_
          refine dreg_onq [131, 134, 141] [] rfl rfl rfl rfl (pick_T tab_ok rfl rfl rfl) ?_
          refine dreg_q [131, 142] [] rfl (pick_F tab_ok rfl rfl rfl) ?_
          refine dreg_q [143] [] rfl (step_C tab_ok (fun K hk => hk)) ?_
          refine dreg_onq [144] [] rfl rfl rfl rfl (call_r lives_is rfl rfl arg_nil (.inl rfl) (fun _ => rfl)) ?_
          refine dreg_q [144, 145] [] rfl (pick_T tab_ok rfl rfl rfl) ?_
          refine dreg_q [146] [] rfl (step_C tab_ok (fun K hk => hk)) ?_
          refine dreg_end (by kernel_rfl) ?_
          refine seq_n ?_
          refine wc_ret ?_
          exact ⟨trivial, [], .of rfl rfl rfl rfl rfl ⟨⟨_, rfl, AVLe.of_eq rfl⟩, rfl, trivial⟩ trivial⟩
        · refine fnIs_of tab_ok Try.func12 rfl rfl rfl ?_
          refine wc_seq ?_
          refine wc_region ?_
          refine reg_new (step_C tab_ok (fun K hk => hk)) rfl ?_
          refine reg_quiet rfl (step_C tab_ok (fun K hk => hk)) ?_
          refine reg_nil ?_
          refine seq_n ?_
          refine wc_seq ?_
          refine wc_seq ?_
          refine wc_region ?_
          refine reg_quiet rfl (step_C tab_ok (fun K hk => hk)) ?_
          refine reg_quiet rfl (len_arr tab_ok rfl rfl) ?_
          refine reg_quiet rfl (step_C tab_ok (fun K hk => hk)) ?_
          refine reg_quiet rfl (step_C tab_ok (fun K hk => hk)) ?_
          refine reg_on rfl rfl (by assumption) ?_
          refine reg_quiet rfl (step_C tab_ok (fun K hk => hk)) ?_
          refine reg_on rfl rfl (by assumption) ?_
          refine reg_quiet rfl (len_arr tab_ok rfl rfl) ?_
          refine reg_on rfl rfl (by assumption) ?_
          refine reg_quiet rfl (step_C tab_ok (fun K hk => hk)) ?_
          refine reg_quiet rfl (pick_F tab_ok rfl (by assumption) rfl) ?_
          refine reg_nil ?_
          refine seq_n ?_
          refine wc_false rfl (by assumption) ?_
          refine wc_skip ?_
          refine seq_n ?_
          refine wc_seq ?_
          refine wc_region ?_
          refine reg_quiet rfl (step_C tab_ok (fun K hk => hk)) ?_
          refine reg_quiet rfl (call_r hC0 rfl rfl (arg_e arg_nil) (.inl rfl) (fun _ => rfl)) ?_
          refine reg_quiet rfl (step_C tab_ok (fun K hk => hk)) ?_
          refine reg_quiet rfl (call_r hC1 rfl rfl (arg_e arg_nil) (.inl rfl) (fun _ => rfl)) ?_
          refine reg_quiet rfl (step_C tab_ok (fun K hk => hk)) ?_
          refine reg_quiet rfl (step_C tab_ok (fun K hk => hk)) ?_
          refine reg_nil ?_
          refine seq_n ?_
          refine wc_seq ?_
          refine wc_draw (by kernel_rfl) ?_
          refine dreg_q [0] [] rfl (step_C tab_ok (fun K hk => hk)) ?_
          refine dreg_q [34] [] rfl (call_r (of_is _) rfl rfl (arg_e arg_nil) (.inl rfl) (fun _ => rfl)) ?_
          refine dreg_q [5] [64] rfl (load_box tab_ok rfl rfl rfl rfl) ?_
          refine dreg_q [35, 36] [] rfl (call_r hAdd rfl rfl (arg_e (arg_e arg_nil)) (.inl rfl) (fun _ => rfl)) ?_
          refine dreg_q [37] [] rfl (step_C tab_ok (fun K hk => hk)) ?_
          refine dreg_q [33] [] rfl (step_C tab_ok (fun K hk => hk)) ?_
          refine dreg_q [33] [] rfl (step_C tab_ok (fun K hk => hk)) ?_
          refine dreg_w [] [] rfl (step_C tab_ok (fun K hk => hk)) ?_
          refine dreg_s [9, 38] [248] (store_row tab_ok rfl rfl rfl ⟨_, ⟨rfl, rfl, rfl⟩, rfl⟩ rfl) ?_
          refine dreg_q [39] [] rfl (step_C tab_ok (fun K hk => hk)) ?_
          refine dreg_end (by kernel_rfl) ?_
          refine seq_n ?_
          refine wc_seq ?_
          refine wc_region ?_
          refine reg_quiet rfl (step_C tab_ok (fun K hk => hk)) ?_
          refine reg_quiet rfl (call_r (of_is _) rfl rfl (arg_e arg_nil) (.inl rfl) (fun _ => rfl)) ?_
          refine reg_quiet rfl (step_C tab_ok (fun K hk => hk)) ?_
          refine reg_quiet rfl (call_r (of_is _) rfl rfl (arg_e arg_nil) (.inl rfl) (fun _ => rfl)) ?_
          refine reg_quiet rfl (call_r hMrg rfl rfl (arg_e (arg_e arg_nil)) (.inl rfl) (fun _ => rfl)) ?_
          refine reg_quiet rfl (step_C tab_ok (fun K hk => hk)) ?_
          refine reg_quiet rfl (step_C tab_ok (fun K hk => hk)) ?_
          refine reg_quiet rfl (step_C tab_ok (fun K hk => hk)) ?_
          refine reg_new (step_C tab_ok (fun K hk => hk)) rfl ?_
          refine reg_store (store_row tab_ok rfl rfl rfl ⟨_, ⟨rfl, rfl, rfl⟩, rfl⟩ rfl) ?_
          refine reg_quiet rfl (step_C tab_ok (fun K hk => hk)) ?_
          refine reg_nil ?_
          refine seq_n ?_
          refine wc_seq ?_
          refine wc_region ?_
          refine reg_quiet rfl (step_C tab_ok (fun K hk => hk)) ?_
          refine reg_quiet rfl (call_r (of_is _) rfl rfl (arg_e arg_nil) (.inl rfl) (fun _ => rfl)) ?_
          refine reg_quiet rfl (call_r hTxt rfl rfl (arg_e arg_nil) (.inl rfl) (fun _ => rfl)) ?_
          refine reg_quiet rfl (step_C tab_ok (fun K hk => hk)) ?_
          refine reg_quiet rfl (step_C tab_ok (fun K hk => hk)) ?_
          refine reg_quiet rfl (step_C tab_ok (fun K hk => hk)) ?_
          refine reg_quiet rfl (step_C tab_ok (fun K hk => hk)) ?_
          refine reg_quiet rfl (step_C tab_ok (fun K hk => hk)) ?_
          refine reg_nil ?_
          refine seq_n ?_
          refine wc_seq ?_
          refine wc_region ?_
          refine reg_quiet rfl (step_C tab_ok (fun K hk => hk)) ?_
          refine reg_quiet rfl (call_r (of_is _) rfl rfl (arg_e arg_nil) (.inl rfl) (fun _ => rfl)) ?_
          refine reg_quiet rfl (call_r hRep rfl rfl (arg_e arg_nil) (.inl rfl) (fun _ => rfl)) ?_
          refine reg_quiet rfl (step_C tab_ok (fun K hk => hk)) ?_
          refine reg_quiet rfl (step_C tab_ok (fun K hk => hk)) ?_
          refine reg_quiet rfl (step_C tab_ok (fun K hk => hk)) ?_
          refine reg_quiet rfl (step_C tab_ok (fun K hk => hk)) ?_
          refine reg_quiet rfl (step_C tab_ok (fun K hk => hk)) ?_
          refine reg_quiet rfl (step_C tab_ok (fun K hk => hk)) ?_
          refine reg_quiet rfl (step_C tab_ok (fun K hk => hk)) ?_
          refine reg_nil ?_
          refine seq_n ?_
          refine wc_seq ?_
          refine wc_region ?_
          refine reg_quiet rfl (step_C tab_ok (fun K hk => hk)) ?_
          refine reg_quiet rfl (step_C tab_ok (fun K hk => hk)) ?_
          refine reg_quiet rfl (step_C tab_ok (fun K hk => hk)) ?_
          refine reg_quiet rfl (step_C tab_ok (fun K hk => hk)) ?_
          refine reg_nil ?_
          refine seq_n ?_
          refine wc_seq ?_
          refine wc_seq ?_
          refine wc_region ?_
          refine reg_quiet rfl (step_C tab_ok (fun K hk => hk)) ?_
          refine reg_quiet rfl (step_C tab_ok (fun K hk => hk)) ?_
          refine reg_nil ?_
          refine seq_n ?_
          refine wc_true rfl rfl ?_
          refine wc_seq ?_
          refine wc_region ?_
          refine reg_quiet rfl (step_C tab_ok (fun K hk => hk)) ?_
          refine reg_quiet rfl (step_C tab_ok (fun K hk => hk)) ?_
          refine reg_nil ?_
          refine seq_n ?_
          refine wc_region ?_
          refine reg_quiet rfl (load_box tab_ok rfl rfl rfl rfl) ?_
          refine reg_new (build_slice tab_ok rfl rfl rfl rfl rfl rfl rfl rfl) rfl ?_
          refine reg_freeze (env' := [(67, _), (19, _), (17, _), (14, _), (13, _), (12, _), (11, _), (10, _), (9, _), (8, _), (7, _), (6, _), (5, _), (0, _), (1, _)]) (h' := [(64, some _), (248, some _), (336, some _)]) 576 _ rfl ⟨⟨_, rfl, Frz.lits1 (enc := encUse) u rfl rfl⟩, ⟨_, rfl, .refl _⟩, ⟨_, rfl, .refl _⟩, ⟨_, rfl, .refl _⟩, ⟨_, rfl, .refl _⟩, ⟨_, rfl, .refl _⟩, ⟨_, rfl, .refl _⟩, ⟨_, rfl, .refl _⟩, ⟨_, rfl, .refl _⟩, ⟨_, rfl, .refl _⟩, ⟨_, rfl, .refl _⟩, ⟨_, rfl, .refl _⟩, ⟨_, rfl, .refl _⟩, ⟨_, rfl, .refl _⟩, ⟨_, rfl, .refl _⟩, trivial⟩ ⟨⟨rfl, _, rfl, .refl _⟩, ⟨rfl, _, rfl, .refl _⟩, ⟨rfl, _, rfl, .refl _⟩, trivial⟩ ?_
          refine reg_quiet rfl (call_r hCu rfl rfl (arg_e arg_nil) (.inl rfl) (fun _ => rfl)) ?_
          refine reg_quiet rfl (step_C tab_ok (fun K hk => hk)) ?_
          refine reg_nil ?_
          refine seq_n ?_
          refine wc_seq ?_
          refine wc_seq ?_
          refine wc_region ?_
          refine reg_quiet rfl (step_C tab_ok (fun K hk => hk)) ?_
          refine reg_quiet rfl (call_r (of_is _) rfl rfl (arg_e arg_nil) (.inl rfl) (fun _ => rfl)) ?_
          refine reg_quiet rfl (call_r hChk rfl rfl (arg_e arg_nil) (.inl rfl) (fun _ => rfl)) ?_
          refine reg_quiet rfl (step_C tab_ok (fun K hk => hk)) ?_
          refine reg_quiet rfl (step_C tab_ok (fun K hk => hk)) ?_
          refine reg_quiet rfl (step_C tab_ok (fun K hk => hk)) ?_
          refine reg_on rfl rfl rfl ?_
          refine reg_quiet rfl (step_C tab_ok (fun K hk => hk)) ?_
          refine reg_on rfl rfl rfl ?_
          refine reg_quiet rfl (step_C tab_ok (fun K hk => hk)) ?_
          refine reg_on rfl rfl rfl ?_
          refine reg_quiet rfl (step_C tab_ok (fun K hk => hk)) ?_
          refine reg_quiet rfl (pick_F tab_ok rfl rfl rfl) ?_
          refine reg_quiet rfl (step_C tab_ok (fun K hk => hk)) ?_
          refine reg_on rfl rfl rfl ?_
          refine reg_quiet rfl (step_C tab_ok (fun K hk => hk)) ?_
          refine reg_on rfl rfl rfl ?_
          refine reg_quiet rfl (step_C tab_ok (fun K hk => hk)) ?_
          refine reg_on rfl rfl rfl ?_
          refine reg_quiet rfl (step_C tab_ok (fun K hk => hk)) ?_
          refine reg_quiet rfl (pick_F tab_ok rfl rfl rfl) ?_
          refine reg_quiet rfl (step_C tab_ok (fun K hk => hk)) ?_
          refine reg_on rfl rfl rfl ?_
          refine reg_quiet rfl (step_C tab_ok (fun K hk => hk)) ?_
          refine reg_on rfl rfl rfl ?_
          refine reg_quiet rfl (step_C tab_ok (fun K hk => hk)) ?_
          refine reg_on rfl rfl rfl ?_
          refine reg_quiet rfl (step_C tab_ok (fun K hk => hk)) ?_
          refine reg_quiet rfl (pick_F tab_ok rfl rfl rfl) ?_
          refine reg_quiet rfl (step_C tab_ok (fun K hk => hk)) ?_
          refine reg_on rfl rfl rfl ?_
          refine reg_quiet rfl (step_C tab_ok (fun K hk => hk)) ?_
          refine reg_on rfl rfl rfl ?_
          refine reg_quiet rfl (step_C tab_ok (fun K hk => hk)) ?_
          refine reg_on rfl rfl rfl ?_
          refine reg_quiet rfl (step_C tab_ok (fun K hk => hk)) ?_
          refine reg_skip rfl rfl rfl rfl rfl ?_
          refine reg_skip rfl rfl rfl rfl rfl ?_
          refine reg_skipU rfl rfl rfl rfl ?_
          refine reg_skipU rfl rfl rfl rfl ?_
          refine reg_skip rfl rfl rfl rfl rfl ?_
          refine reg_on rfl rfl rfl ?_
          refine reg_quiet rfl (pick_F tab_ok rfl rfl rfl) ?_
          refine reg_quiet rfl (pick_F tab_ok rfl rfl rfl) ?_
          refine reg_nil ?_
          refine seq_n ?_
          refine wc_false rfl rfl ?_
          refine wc_skip ?_
          refine seq_n ?_
          refine wc_seq ?_
          refine wc_seq ?_
          refine wc_draw (by kernel_rfl) ?_
          refine dreg_q [18] [] rfl (step_C tab_ok (fun K hk => hk)) ?_
          refine dreg_q [100] [] rfl (step_C tab_ok (fun K hk => hk)) ?_
          refine dreg_q [101] [] rfl (step_C tab_ok (fun K hk => hk)) ?_
          refine dreg_onq [102, 9] [248] rfl rfl rfl rfl (load_box tab_ok rfl rfl rfl rfl) ?_
          refine dreg_onq [102] [] rfl rfl rfl rfl (build_empty tab_ok rfl rfl) ?_
          refine dreg_onq [102, 0] [] rfl rfl rfl rfl (step_C tab_ok (fun K hk => hk)) ?_
          refine dreg_onw [102, 104, 105] [] rfl rfl rfl rfl (append_empty_arr (s := 20) (enc := encUse) (ys := l) tab_ok rfl rfl rfl rfl rfl (.inl rfl) rfl hpl hll rfl) ?_
          refine dreg_onq [102, 5] [64] rfl rfl rfl rfl (load_box tab_ok rfl rfl rfl rfl) ?_
          refine dreg_onw [102, 107] [] rfl rfl rfl rfl (build_slice tab_ok rfl rfl rfl rfl rfl rfl rfl rfl) ?_
          refine dreg_onw2 [102, 106, 108] [896, 912] rfl rfl rfl rfl (append_one (s := 20) (enc := encUse) tab_ok u rfl rfl rfl rfl rfl rfl rfl rfl rfl hl1 rfl) ?_
          refine dreg_onq [102, 103, 109] [920] rfl rfl rfl rfl (call_r hSa rfl rfl (arg_e (arg_ownL rfl (by simp) arg_nil)) (.inr (lbool_plain _)) (fun _ => rfl)) ?_
          refine dreg_onq [102, 110] [] rfl rfl rfl rfl (step_C tab_ok (fun K hk => hk)) ?_
          refine dreg_q [102, 111] [] rfl (pick_T tab_ok rfl rfl rfl) ?_
          refine dreg_q [112] [] rfl (step_C tab_ok (fun K hk => hk)) ?_
          refine dreg_onq [113, 18] [] rfl rfl rfl rfl (step_C tab_ok (fun K hk => hk)) ?_
          refine dreg_onq [113, 114] [] rfl rfl rfl rfl (step_C tab_ok (fun K hk => hk)) ?_
          refine dreg_onq [113, 115] [] rfl rfl rfl rfl (step_C tab_ok (fun K hk => hk)) ?_
          refine dreg_offq [116, 9] rfl rfl rfl rfl ?_
          refine dreg_offq [116, 117] rfl rfl rfl rfl ?_
          refine dreg_offq [116, 118] rfl rfl rfl rfl ?_
          refine dreg_offq [116, 119] rfl rfl rfl rfl ?_
          refine dreg_onq [113, 116, 120] [] rfl rfl rfl rfl (pick_F tab_ok rfl rfl rfl) ?_
          refine dreg_q [113, 121] [] rfl (pick_F tab_ok rfl rfl rfl) ?_
          refine dreg_end (by kernel_rfl) ?_
          refine seq_n ?_
          refine wc_false rfl rfl ?_
          refine wc_skip ?_
          refine seq_n ?_
          refine wc_seq ?_
          refine wc_draw (by kernel_rfl) ?_
          refine dreg_q [19] [] rfl (step_C tab_ok (fun K hk => hk)) ?_
          refine dreg_q [123] [] rfl (step_C tab_ok (fun K hk => hk)) ?_
          refine dreg_q [124] [] rfl (step_C tab_ok (fun K hk => hk)) ?_
          refine dreg_offq [125, 11] rfl rfl rfl rfl ?_
          refine dreg_offq [125, 126] rfl rfl rfl rfl ?_
          refine dreg_offq [125, 127] rfl rfl rfl rfl ?_
          refine dreg_offq [125, 128] rfl rfl rfl rfl ?_
          refine dreg_q [125, 129] [] rfl (pick_F tab_ok rfl rfl rfl) ?_
          refine dreg_q [130] [] rfl (step_C tab_ok (fun K hk => hk)) ?_
          refine dreg_onq [131, 19] [] rfl rfl rfl rfl (step_C tab_ok (fun K hk => hk)) ?_
          refine dreg_onq [131, 132] [] rfl rfl rfl rfl (step_C tab_ok (fun K hk => hk)) ?_
          refine dreg_onq [131, 133] [] rfl rfl rfl rfl (step_C tab_ok (fun K hk => hk)) ?_
          refine dreg_onq [134, 11] [336] rfl rfl rfl rfl (load_box tab_ok rfl rfl rfl rfl) ?_
          refine dreg_onq [134] [] rfl rfl rfl rfl (build_empty tab_ok rfl rfl) ?_
          refine dreg_onq [134, 0] [] rfl rfl rfl rfl (step_C tab_ok (fun K hk => hk)) ?_
          refine dreg_onw [134, 136, 137] [] rfl rfl rfl rfl (append_empty_arr (s := 20) (enc := encUse) (ys := l) tab_ok rfl rfl rfl rfl rfl (.inl rfl) rfl hpl hll rfl) ?_
          refine dreg_onq [134, 1] [] rfl rfl rfl rfl (step_C tab_ok (fun K hk => hk)) ?_
          refine dreg_onw2 [134, 138, 139] [1152] rfl rfl rfl rfl (append_arr (s := 20) (enc := encUse) (xs := l) (ys := m) tab_ok rfl rfl rfl rfl rfl rfl rfl hpm hlm rfl) ?_
          refine dreg_onq [134, 135, 140] [1168] rfl rfl rfl rfl (call_r hSm rfl rfl (arg_e (arg_ownL rfl (by simp) arg_nil)) (.inr (lbool_plain _)) (fun _ => rfl)) ?_
          refine dreg_onq [131, 134, 141] [] rfl rfl rfl rfl (pick_T tab_ok rfl rfl rfl) ?_
          refine dreg_q [131, 142] [] rfl (pick_F tab_ok rfl rfl rfl) ?_
          refine dreg_q [143] [] rfl (step_C tab_ok (fun K hk => hk)) ?_
          refine dreg_onq [144] [] rfl rfl rfl rfl (call_r lives_is rfl rfl arg_nil (.inl rfl) (fun _ => rfl)) ?_
          refine dreg_q [144, 145] [] rfl (pick_T tab_ok rfl rfl rfl) ?_
          refine dreg_q [146] [] rfl (step_C tab_ok (fun K hk => hk)) ?_
          refine dreg_end (by kernel_rfl) ?_
          refine seq_n ?_
          refine wc_ret ?_
          exact ⟨trivial, [], .of rfl rfl rfl rfl rfl ⟨⟨_, rfl, AVLe.of_eq rfl⟩, rfl, trivial⟩ trivial⟩
    · rw [hm] at hC1
      have hMrg := merge_err l m 1 (by decide) (.inr ⟨hl, hm⟩)
      rcases Nat.eq_zero_or_pos l.length with hl0 | hpl
      · obtain rfl := List.length_eq_zero_iff.1 hl0
        refine fnIs_of tab_ok Try.func12 rfl rfl rfl ?_
        refine wc_seq ?_
        refine wc_region ?_
        refine reg_new (step_C tab_ok (fun K hk => hk)) rfl ?_
        refine reg_quiet rfl (step_C tab_ok (fun K hk => hk)) ?_
        refine reg_nil ?_
        refine seq_n ?_
        refine wc_seq ?_
        refine wc_seq ?_
        refine wc_region ?_
        refine reg_quiet rfl (step_C tab_ok (fun K hk => hk)) ?_
        refine reg_quiet rfl (len_arr tab_ok rfl rfl) ?_
        refine reg_quiet rfl (step_C tab_ok (fun K hk => hk)) ?_
        refine reg_quiet rfl (step_C tab_ok (fun K hk => hk)) ?_
        refine reg_on rfl rfl rfl ?_
        refine reg_quiet rfl (step_C tab_ok (fun K hk => hk)) ?_
        refine reg_on rfl rfl rfl ?_
        refine reg_quiet rfl (len_arr tab_ok rfl rfl) ?_
        refine reg_on rfl rfl rfl ?_
        refine reg_quiet rfl (step_C tab_ok (fun K hk => hk)) ?_
        refine reg_quiet rfl (pick_F tab_ok rfl rfl rfl) ?_
        refine reg_nil ?_
        refine seq_n ?_
        refine wc_false rfl (by assumption) ?_
        refine wc_skip ?_
        refine seq_n ?_
        refine wc_seq ?_
        refine wc_region ?_
        refine reg_quiet rfl (step_C tab_ok (fun K hk => hk)) ?_
        refine reg_quiet rfl (call_r hC0 rfl rfl (arg_e arg_nil) (.inl rfl) (fun _ => rfl)) ?_
        refine reg_quiet rfl (step_C tab_ok (fun K hk => hk)) ?_
        refine reg_quiet rfl (call_r hC1 rfl rfl (arg_e arg_nil) (.inl rfl) (fun _ => rfl)) ?_
        refine reg_quiet rfl (step_C tab_ok (fun K hk => hk)) ?_
        refine reg_quiet rfl (step_C tab_ok (fun K hk => hk)) ?_
        refine reg_nil ?_
        refine seq_n ?_
        refine wc_seq ?_
        refine wc_draw (by kernel_rfl) ?_
        refine dreg_q [0] [] rfl (step_C tab_ok (fun K hk => hk)) ?_
        refine dreg_q [34] [] rfl (call_r (of_is _) rfl rfl (arg_e arg_nil) (.inl rfl) (fun _ => rfl)) ?_
        refine dreg_q [5] [64] rfl (load_box tab_ok rfl rfl rfl rfl) ?_
        refine dreg_q [35, 36] [] rfl (call_r hAdd rfl rfl (arg_e (arg_e arg_nil)) (.inl rfl) (fun _ => rfl)) ?_
        refine dreg_q [37] [] rfl (step_C tab_ok (fun K hk => hk)) ?_
        refine dreg_q [33] [] rfl (step_C tab_ok (fun K hk => hk)) ?_
        refine dreg_q [33] [] rfl (step_C tab_ok (fun K hk => hk)) ?_
        refine dreg_w [] [] rfl (step_C tab_ok (fun K hk => hk)) ?_
        refine dreg_s [9, 38] [248] (store_row tab_ok rfl rfl rfl ⟨_, ⟨rfl, rfl, rfl⟩, rfl⟩ rfl) ?_
        refine dreg_q [39] [] rfl (step_C tab_ok (fun K hk => hk)) ?_
        refine dreg_end (by kernel_rfl) ?_
        refine seq_n ?_
        refine wc_seq ?_
        refine wc_region ?_
        refine reg_quiet rfl (step_C tab_ok (fun K hk => hk)) ?_
        refine reg_quiet rfl (call_r (of_is _) rfl rfl (arg_e arg_nil) (.inl rfl) (fun _ => rfl)) ?_
        refine reg_quiet rfl (step_C tab_ok (fun K hk => hk)) ?_
        refine reg_quiet rfl (call_r (of_is _) rfl rfl (arg_e arg_nil) (.inl rfl) (fun _ => rfl)) ?_
        refine reg_quiet rfl (call_r hMrg rfl rfl (arg_e (arg_e arg_nil)) (.inl rfl) (fun _ => rfl)) ?_
        refine reg_quiet rfl (step_C tab_ok (fun K hk => hk)) ?_
        refine reg_quiet rfl (step_C tab_ok (fun K hk => hk)) ?_
        refine reg_quiet rfl (step_C tab_ok (fun K hk => hk)) ?_
        refine reg_new (step_C tab_ok (fun K hk => hk)) rfl ?_
        refine reg_store (store_row tab_ok rfl rfl rfl ⟨_, ⟨rfl, rfl, rfl⟩, rfl⟩ rfl) ?_
        refine reg_quiet rfl (step_C tab_ok (fun K hk => hk)) ?_
        refine reg_nil ?_
        refine seq_n ?_
        refine wc_seq ?_
        refine wc_region ?_
        refine reg_quiet rfl (step_C tab_ok (fun K hk => hk)) ?_
        refine reg_quiet rfl (call_r (of_is _) rfl rfl (arg_e arg_nil) (.inl rfl) (fun _ => rfl)) ?_
        refine reg_quiet rfl (call_r hTxt rfl rfl (arg_e arg_nil) (.inl rfl) (fun _ => rfl)) ?_
        refine reg_quiet rfl (step_C tab_ok (fun K hk => hk)) ?_
        refine reg_quiet rfl (step_C tab_ok (fun K hk => hk)) ?_
        refine reg_quiet rfl (step_C tab_ok (fun K hk => hk)) ?_
        refine reg_quiet rfl (step_C tab_ok (fun K hk => hk)) ?_
        refine reg_quiet rfl (step_C tab_ok (fun K hk => hk)) ?_
        refine reg_nil ?_
        refine seq_n ?_
        refine wc_seq ?_
        refine wc_region ?_
        refine reg_quiet rfl (step_C tab_ok (fun K hk => hk)) ?_
        refine reg_quiet rfl (call_r (of_is _) rfl rfl (arg_e arg_nil) (.inl rfl) (fun _ => rfl)) ?_
        refine reg_quiet rfl (call_r hRep rfl rfl (arg_e arg_nil) (.inl rfl) (fun _ => rfl)) ?_
        refine reg_quiet rfl (step_C tab_ok (fun K hk => hk)) ?_
        refine reg_quiet rfl (step_C tab_ok (fun K hk => hk)) ?_
        refine reg_quiet rfl (step_C tab_ok (fun K hk => hk)) ?_
        refine reg_quiet rfl (step_C tab_ok (fun K hk => hk)) ?_
        refine reg_quiet rfl (step_C tab_ok (fun K hk => hk)) ?_
        refine reg_quiet rfl (step_C tab_ok (fun K hk => hk)) ?_
        refine reg_quiet rfl (step_C tab_ok (fun K hk => hk)) ?_
        refine reg_nil ?_
        refine seq_n ?_
        refine wc_seq ?_
        refine wc_region ?_
        refine reg_quiet rfl (step_C tab_ok (fun K hk => hk)) ?_
        refine reg_quiet rfl (step_C tab_ok (fun K hk => hk)) ?_
        refine reg_quiet rfl (step_C tab_ok (fun K hk => hk)) ?_
        refine reg_quiet rfl (step_C tab_ok (fun K hk => hk)) ?_
        refine reg_nil ?_
        refine seq_n ?_
        refine wc_seq ?_
        refine wc_seq ?_
        refine wc_region ?_
        refine reg_quiet rfl (step_C tab_ok (fun K hk => hk)) ?_
        refine reg_quiet rfl (step_C tab_ok (fun K hk => hk)) ?_
        refine reg_nil ?_
        refine seq_n ?_
        refine wc_true rfl rfl ?_
        refine wc_seq ?_
        refine wc_region ?_
        refine reg_quiet rfl (step_C tab_ok (fun K hk => hk)) ?_
        refine reg_quiet rfl (step_C tab_ok (fun K hk => hk)) ?_
        refine reg_nil ?_
        refine seq_n ?_
        refine wc_region ?_
        refine reg_quiet rfl (load_box tab_ok rfl rfl rfl rfl) ?_
        refine reg_new (build_slice tab_ok rfl rfl rfl rfl rfl rfl rfl rfl) rfl ?_
        refine reg_freeze (env' := [(67, _), (19, _), (17, _), (14, _), (13, _), (12, _), (11, _), (10, _), (9, _), (8, _), (7, _), (6, _), (5, _), (0, _), (1, _)]) (h' := [(64, some _), (248, some _), (336, some _)]) 576 _ rfl ⟨⟨_, rfl, Frz.lits1 (enc := encUse) u rfl rfl⟩, ⟨_, rfl, .refl _⟩, ⟨_, rfl, .refl _⟩, ⟨_, rfl, .refl _⟩, ⟨_, rfl, .refl _⟩, ⟨_, rfl, .refl _⟩, ⟨_, rfl, .refl _⟩, ⟨_, rfl, .refl _⟩, ⟨_, rfl, .refl _⟩, ⟨_, rfl, .refl _⟩, ⟨_, rfl, .refl _⟩, ⟨_, rfl, .refl _⟩, ⟨_, rfl, .refl _⟩, ⟨_, rfl, .refl _⟩, ⟨_, rfl, .refl _⟩, trivial⟩ ⟨⟨rfl, _, rfl, .refl _⟩, ⟨rfl, _, rfl, .refl _⟩, ⟨rfl, _, rfl, .refl _⟩, trivial⟩ ?_
        refine reg_quiet rfl (call_r hCu rfl rfl (arg_e arg_nil) (.inl rfl) (fun _ => rfl)) ?_
        refine reg_quiet rfl (step_C tab_ok (fun K hk => hk)) ?_
        refine reg_nil ?_
        refine seq_n ?_
        refine wc_seq ?_
        refine wc_seq ?_
        refine wc_region ?_
        refine reg_quiet rfl (step_C tab_ok (fun K hk => hk)) ?_
        refine reg_quiet rfl (call_r (of_is _) rfl rfl (arg_e arg_nil) (.inl rfl) (fun _ => rfl)) ?_
        refine reg_quiet rfl (call_r hChk rfl rfl (arg_e arg_nil) (.inl rfl) (fun _ => rfl)) ?_
        refine reg_quiet rfl (step_C tab_ok (fun K hk => hk)) ?_
        refine reg_quiet rfl (step_C tab_ok (fun K hk => hk)) ?_
        refine reg_quiet rfl (step_C tab_ok (fun K hk => hk)) ?_
        refine reg_on rfl rfl rfl ?_
        refine reg_quiet rfl (step_C tab_ok (fun K hk => hk)) ?_
        refine reg_on rfl rfl rfl ?_
        refine reg_quiet rfl (step_C tab_ok (fun K hk => hk)) ?_
        refine reg_on rfl rfl rfl ?_
        refine reg_quiet rfl (step_C tab_ok (fun K hk => hk)) ?_
        refine reg_quiet rfl (pick_F tab_ok rfl rfl rfl) ?_
        refine reg_quiet rfl (step_C tab_ok (fun K hk => hk)) ?_
        refine reg_on rfl rfl rfl ?_
        refine reg_quiet rfl (step_C tab_ok (fun K hk => hk)) ?_
        refine reg_on rfl rfl rfl ?_
        refine reg_quiet rfl (step_C tab_ok (fun K hk => hk)) ?_
        refine reg_on rfl rfl rfl ?_
        refine reg_quiet rfl (step_C tab_ok (fun K hk => hk)) ?_
        refine reg_quiet rfl (pick_F tab_ok rfl rfl rfl) ?_
        refine reg_quiet rfl (step_C tab_ok (fun K hk => hk)) ?_
        refine reg_on rfl rfl rfl ?_
        refine reg_quiet rfl (step_C tab_ok (fun K hk => hk)) ?_
        refine reg_on rfl rfl rfl ?_
        refine reg_quiet rfl (step_C tab_ok (fun K hk => hk)) ?_
        refine reg_on rfl rfl rfl ?_
        refine reg_quiet rfl (step_C tab_ok (fun K hk => hk)) ?_
        refine reg_quiet rfl (pick_F tab_ok rfl rfl rfl) ?_
        refine reg_quiet rfl (step_C tab_ok (fun K hk => hk)) ?_
        refine reg_on rfl rfl rfl ?_
        refine reg_quiet rfl (step_C tab_ok (fun K hk => hk)) ?_
        refine reg_on rfl rfl rfl ?_
        refine reg_quiet rfl (step_C tab_ok (fun K hk => hk)) ?_
        refine reg_on rfl rfl rfl ?_
        refine reg_quiet rfl (step_C tab_ok (fun K hk => hk)) ?_
        refine reg_skip rfl rfl rfl rfl rfl ?_
        refine reg_skip rfl rfl rfl rfl rfl ?_
        refine reg_skipU rfl rfl rfl rfl ?_
        refine reg_skipU rfl rfl rfl rfl ?_
        refine reg_skip rfl rfl rfl rfl rfl ?_
        refine reg_on rfl rfl rfl ?_
        refine reg_quiet rfl (pick_F tab_ok rfl rfl rfl) ?_
        refine reg_quiet rfl (pick_F tab_ok rfl rfl rfl) ?_
        refine reg_nil ?_
        refine seq_n ?_
        refine wc_false rfl rfl ?_
        refine wc_skip ?_
        refine seq_n ?_
        refine wc_seq ?_
        refine wc_seq ?_
        refine wc_draw (by kernel_rfl) ?_
        refine dreg_q [18] [] rfl (step_C tab_ok (fun K hk => hk)) ?_
        refine dreg_q [100] [] rfl (step_C tab_ok (fun K hk => hk)) ?_
        refine dreg_q [101] [] rfl (step_C tab_ok (fun K hk => hk)) ?_
        refine dreg_onq [102, 9] [248] rfl rfl rfl rfl (load_box tab_ok rfl rfl rfl rfl) ?_
        refine dreg_onq [102] [] rfl rfl rfl rfl (build_empty tab_ok rfl rfl) ?_
        refine dreg_onq [102, 0] [] rfl rfl rfl rfl (step_C tab_ok (fun K hk => hk)) ?_
        refine dreg_onq [102, 104, 105] [] rfl rfl rfl rfl (append_e_n tab_ok rfl rfl rfl rfl) ?_
        refine dreg_onq [102, 5] [64] rfl rfl rfl rfl (load_box tab_ok rfl rfl rfl rfl) ?_
        refine dreg_onw [102, 107] [] rfl rfl rfl rfl (build_slice tab_ok rfl rfl rfl rfl rfl rfl rfl rfl) ?_
        refine dreg_onw [102, 106, 108] [912] rfl rfl rfl rfl (append_e_one (s := 20) (enc := encUse) tab_ok u rfl rfl rfl rfl rfl rfl rfl rfl) ?_
        refine dreg_onq [102, 103, 109] [920] rfl rfl rfl rfl (call_r hSa rfl rfl (arg_e (arg_ownL rfl (by simp) arg_nil)) (.inr (lbool_plain _)) (fun _ => rfl)) ?_
        refine dreg_onq [102, 110] [] rfl rfl rfl rfl (step_C tab_ok (fun K hk => hk)) ?_
        refine dreg_q [102, 111] [] rfl (pick_T tab_ok rfl rfl rfl) ?_
        refine dreg_q [112] [] rfl (step_C tab_ok (fun K hk => hk)) ?_
        refine dreg_onq [113, 18] [] rfl rfl rfl rfl (step_C tab_ok (fun K hk => hk)) ?_
        refine dreg_onq [113, 114] [] rfl rfl rfl rfl (step_C tab_ok (fun K hk => hk)) ?_
        refine dreg_onq [113, 115] [] rfl rfl rfl rfl (step_C tab_ok (fun K hk => hk)) ?_
        refine dreg_offq [116, 9] rfl rfl rfl rfl ?_
        refine dreg_offq [116, 117] rfl rfl rfl rfl ?_
        refine dreg_offq [116, 118] rfl rfl rfl rfl ?_
        refine dreg_offq [116, 119] rfl rfl rfl rfl ?_
        refine dreg_onq [113, 116, 120] [] rfl rfl rfl rfl (pick_F tab_ok rfl rfl rfl) ?_
        refine dreg_q [113, 121] [] rfl (pick_F tab_ok rfl rfl rfl) ?_
        refine dreg_end (by kernel_rfl) ?_
        refine seq_n ?_
        refine wc_false rfl rfl ?_
        refine wc_skip ?_
        refine seq_n ?_
        refine wc_seq ?_
        refine wc_draw (by kernel_rfl) ?_
        refine dreg_q [19] [] rfl (step_C tab_ok (fun K hk => hk)) ?_
        refine dreg_q [123] [] rfl (step_C tab_ok (fun K hk => hk)) ?_
        refine dreg_q [124] [] rfl (step_C tab_ok (fun K hk => hk)) ?_
        refine dreg_onq [125, 11] [336] rfl rfl rfl rfl (step_C tab_ok (fun K hk => hk)) ?_
        refine dreg_onq [125, 126] [336] rfl rfl rfl rfl (load_box tab_ok rfl rfl ⟨_, rfl, rfl⟩ rfl) ?_
        refine dreg_onq [125, 127] [] rfl rfl rfl rfl (len_arx tab_ok rfl rfl) ?_
        refine dreg_onq [125, 128] [] rfl rfl rfl rfl (step_C tab_ok (fun K hk => hk)) ?_
        refine dreg_q [125, 129] [] rfl (pick_T tab_ok rfl rfl rfl) ?_
        refine dreg_q [130] [] rfl (step_C tab_ok (fun K hk => hk)) ?_
        refine dreg_offq [131, 19] rfl rfl rfl rfl ?_
        refine dreg_offq [131, 132] rfl rfl rfl rfl ?_
        refine dreg_offq [131, 133] rfl rfl rfl rfl ?_
        refine dreg_offUq [134, 11] rfl rfl rfl ?_
        refine dreg_offUq [134] rfl rfl rfl ?_
        refine dreg_offUq [134, 0] rfl rfl rfl ?_
        refine dreg_offUq [134, 136, 137] rfl rfl rfl ?_
        refine dreg_offUq [134, 1] rfl rfl rfl ?_
        refine dreg_offUq [134, 138, 139] rfl rfl rfl ?_
        refine dreg_offUq [134, 135, 140] rfl rfl rfl ?_
        refine dreg_offq [131, 134, 141] rfl rfl rfl rfl ?_
        refine dreg_q [131, 142] [] rfl (pick_T tab_ok rfl rfl rfl) ?_
        refine dreg_q [143] [] rfl (step_C tab_ok (fun K hk => hk)) ?_
        refine dreg_onq [144] [] rfl rfl rfl rfl (call_r lives_is rfl rfl arg_nil (.inl rfl) (fun _ => rfl)) ?_
        refine dreg_q [144, 145] [] rfl (pick_T tab_ok rfl rfl rfl) ?_
        refine dreg_q [146] [] rfl (step_C tab_ok (fun K hk => hk)) ?_
        refine dreg_end (by kernel_rfl) ?_
        refine seq_n ?_
        refine wc_ret ?_
        exact ⟨trivial, [], .of rfl rfl rfl rfl rfl ⟨⟨_, rfl, AVLe.of_eq rfl⟩, rfl, trivial⟩ trivial⟩
      · refine fnIs_of tab_ok Try.func12 rfl rfl rfl ?_
        refine wc_seq ?_
        refine wc_region ?_
        refine reg_new (step_C tab_ok (fun K hk => hk)) rfl ?_
        refine reg_quiet rfl (step_C tab_ok (fun K hk => hk)) ?_
        refine reg_nil ?_
        refine seq_n ?_
        refine wc_seq ?_
        refine wc_seq ?_
        refine wc_region ?_
        refine reg_quiet rfl (step_C tab_ok (fun K hk => hk)) ?_
        refine reg_quiet rfl (len_arr tab_ok rfl rfl) ?_
        refine reg_quiet rfl (step_C tab_ok (fun K hk => hk)) ?_
        refine reg_quiet rfl (step_C tab_ok (fun K hk => hk)) ?_
        refine reg_on rfl rfl (by assumption) ?_
        refine reg_quiet rfl (step_C tab_ok (fun K hk => hk)) ?_
        refine reg_on rfl rfl (by assumption) ?_
        refine reg_quiet rfl (len_arr tab_ok rfl rfl) ?_
        refine reg_on rfl rfl (by assumption) ?_
        refine reg_quiet rfl (step_C tab_ok (fun K hk => hk)) ?_
        refine reg_quiet rfl (pick_F tab_ok rfl (by assumption) rfl) ?_
        refine reg_nil ?_
        refine seq_n ?_
        refine wc_false rfl (by assumption) ?_
        refine wc_skip ?_
        refine seq_n ?_
        refine wc_seq ?_
        refine wc_region ?_
        refine reg_quiet rfl (step_C tab_ok (fun K hk => hk)) ?_
        refine reg_quiet rfl (call_r hC0 rfl rfl (arg_e arg_nil) (.inl rfl) (fun _ => rfl)) ?_
        refine reg_quiet rfl (step_C tab_ok (fun K hk => hk)) ?_
        refine reg_quiet rfl (call_r hC1 rfl rfl (arg_e arg_nil) (.inl rfl) (fun _ => rfl)) ?_
        refine reg_quiet rfl (step_C tab_ok (fun K hk => hk)) ?_
        refine reg_quiet rfl (step_C tab_ok (fun K hk => hk)) ?_
        refine reg_nil ?_
        refine seq_n ?_
        refine wc_seq ?_
        refine wc_draw (by kernel_rfl) ?_
        refine dreg_q [0] [] rfl (step_C tab_ok (fun K hk => hk)) ?_
        refine dreg_q [34] [] rfl (call_r (of_is _) rfl rfl (arg_e arg_nil) (.inl rfl) (fun _ => rfl)) ?_
        refine dreg_q [5] [64] rfl (load_box tab_ok rfl rfl rfl rfl) ?_
        refine dreg_q [35, 36] [] rfl (call_r hAdd rfl rfl (arg_e (arg_e arg_nil)) (.inl rfl) (fun _ => rfl)) ?_
        refine dreg_q [37] [] rfl (step_C tab_ok (fun K hk => hk)) ?_
        refine dreg_q [33] [] rfl (step_C tab_ok (fun K hk => hk)) ?_
        refine dreg_q [33] [] rfl (step_C tab_ok (fun K hk => hk)) ?_
        refine dreg_w [] [] rfl (step_C tab_ok (fun K hk => hk)) ?_
        refine dreg_s [9, 38] [248] (store_row tab_ok rfl rfl rfl ⟨_, ⟨rfl, rfl, rfl⟩, rfl⟩ rfl) ?_
        refine dreg_q [39] [] rfl (step_C tab_ok (fun K hk => hk)) ?_
        refine dreg_end (by kernel_rfl) ?_
        refine seq_n ?_
        refine wc_seq ?_
        refine wc_region ?_
        refine reg_quiet rfl (step_C tab_ok (fun K hk => hk)) ?_
        refine reg_quiet rfl (call_r (of_is _) rfl rfl (arg_e arg_nil) (.inl rfl) (fun _ => rfl)) ?_
        refine reg_quiet rfl (step_C tab_ok (fun K hk => hk)) ?_
        refine reg_quiet rfl (call_r (of_is _) rfl rfl (arg_e arg_nil) (.inl rfl) (fun _ => rfl)) ?_
        refine reg_quiet rfl (call_r hMrg rfl rfl (arg_e (arg_e arg_nil)) (.inl rfl) (fun _ => rfl)) ?_
        refine reg_quiet rfl (step_C tab_ok (fun K hk => hk)) ?_
        refine reg_quiet rfl (step_C tab_ok (fun K hk => hk)) ?_
        refine reg_quiet rfl (step_C tab_ok (fun K hk => hk)) ?_
        refine reg_new (step_C tab_ok (fun K hk => hk)) rfl ?_
        refine reg_store (store_row tab_ok rfl rfl rfl ⟨_, ⟨rfl, rfl, rfl⟩, rfl⟩ rfl) ?_
        refine reg_quiet rfl (step_C tab_ok (fun K hk => hk)) ?_
        refine reg_nil ?_
        refine seq_n ?_
        refine wc_seq ?_
        refine wc_region ?_
        refine reg_quiet rfl (step_C tab_ok (fun K hk => hk)) ?_
        refine reg_quiet rfl (call_r (of_is _) rfl rfl (arg_e arg_nil) (.inl rfl) (fun _ => rfl)) ?_
        refine reg_quiet rfl (call_r hTxt rfl rfl (arg_e arg_nil) (.inl rfl) (fun _ => rfl)) ?_
        refine reg_quiet rfl (step_C tab_ok (fun K hk => hk)) ?_
        refine reg_quiet rfl (step_C tab_ok (fun K hk => hk)) ?_
        refine reg_quiet rfl (step_C tab_ok (fun K hk => hk)) ?_
        refine reg_quiet rfl (step_C tab_ok (fun K hk => hk)) ?_
        refine reg_quiet rfl (step_C tab_ok (fun K hk => hk)) ?_
        refine reg_nil ?_
        refine seq_n ?_
        refine wc_seq ?_
        refine wc_region ?_
        refine reg_quiet rfl (step_C tab_ok (fun K hk => hk)) ?_
        refine reg_quiet rfl (call_r (of_is _) rfl rfl (arg_e arg_nil) (.inl rfl) (fun _ => rfl)) ?_
        refine reg_quiet rfl (call_r hRep rfl rfl (arg_e arg_nil) (.inl rfl) (fun _ => rfl)) ?_
        refine reg_quiet rfl (step_C tab_ok (fun K hk => hk)) ?_
        refine reg_quiet rfl (step_C tab_ok (fun K hk => hk)) ?_
        refine reg_quiet rfl (step_C tab_ok (fun K hk => hk)) ?_
        refine reg_quiet rfl (step_C tab_ok (fun K hk => hk)) ?_
        refine reg_quiet rfl (step_C tab_ok (fun K hk => hk)) ?_
        refine reg_quiet rfl (step_C tab_ok (fun K hk => hk)) ?_
        refine reg_quiet rfl (step_C tab_ok (fun K hk => hk)) ?_
        refine reg_nil ?_
        refine seq_n ?_
        refine wc_seq ?_
        refine wc_region ?_
        refine reg_quiet rfl (step_C tab_ok (fun K hk => hk)) ?_
        refine reg_quiet rfl (step_C tab_ok (fun K hk => hk)) ?_
        refine reg_quiet rfl (step_C tab_ok (fun K hk => hk)) ?_
        refine reg_quiet rfl (step_C tab_ok (fun K hk => hk)) ?_
        refine reg_nil ?_
        refine seq_n ?_
        refine wc_seq ?_
        refine wc_seq ?_
        refine wc_region ?_
        refine reg_quiet rfl (step_C tab_ok (fun K hk => hk)) ?_
        refine reg_quiet rfl (step_C tab_ok (fun K hk => hk)) ?_
        refine reg_nil ?_
        refine seq_n ?_
        refine wc_true rfl rfl ?_
        refine wc_seq ?_
        refine wc_region ?_
        refine reg_quiet rfl (step_C tab_ok (fun K hk => hk)) ?_
        refine reg_quiet rfl (step_C tab_ok (fun K hk => hk)) ?_
        refine reg_nil ?_
        refine seq_n ?_
        refine wc_region ?_
        refine reg_quiet rfl (load_box tab_ok rfl rfl rfl rfl) ?_
        refine reg_new (build_slice tab_ok rfl rfl rfl rfl rfl rfl rfl rfl) rfl ?_
        refine reg_freeze (env' := [(67, _), (19, _), (17, _), (14, _), (13, _), (12, _), (11, _), (10, _), (9, _), (8, _), (7, _), (6, _), (5, _), (0, _), (1, _)]) (h' := [(64, some _), (248, some _), (336, some _)]) 576 _ rfl ⟨⟨_, rfl, Frz.lits1 (enc := encUse) u rfl rfl⟩, ⟨_, rfl, .refl _⟩, ⟨_, rfl, .refl _⟩, ⟨_, rfl, .refl _⟩, ⟨_, rfl, .refl _⟩, ⟨_, rfl, .refl _⟩, ⟨_, rfl, .refl _⟩, ⟨_, rfl, .refl _⟩, ⟨_, rfl, .refl _⟩, ⟨_, rfl, .refl _⟩, ⟨_, rfl, .refl _⟩, ⟨_, rfl, .refl _⟩, ⟨_, rfl, .refl _⟩, ⟨_, rfl, .refl _⟩, ⟨_, rfl, .refl _⟩, trivial⟩ ⟨⟨rfl, _, rfl, .refl _⟩, ⟨rfl, _, rfl, .refl _⟩, ⟨rfl, _, rfl, .refl _⟩, trivial⟩ ?_
        refine reg_quiet rfl (call_r hCu rfl rfl (arg_e arg_nil) (.inl rfl) (fun _ => rfl)) ?_
        refine reg_quiet rfl (step_C tab_ok (fun K hk => hk)) ?_
        refine reg_nil ?_
        refine seq_n ?_
        refine wc_seq ?_
        refine wc_seq ?_
        refine wc_region ?_
        refine reg_quiet rfl (step_C tab_ok (fun K hk => hk)) ?_
        refine reg_quiet rfl (call_r (of_is _) rfl rfl (arg_e arg_nil) (.inl rfl) (fun _ => rfl)) ?_
        refine reg_quiet rfl (call_r hChk rfl rfl (arg_e arg_nil) (.inl rfl) (fun _ => rfl)) ?_
        refine reg_quiet rfl (step_C tab_ok (fun K hk => hk)) ?_
        refine reg_quiet rfl (step_C tab_ok (fun K hk => hk)) ?_
        refine reg_quiet rfl (step_C tab_ok (fun K hk => hk)) ?_
        refine reg_on rfl rfl rfl ?_
        refine reg_quiet rfl (step_C tab_ok (fun K hk => hk)) ?_
        refine reg_on rfl rfl rfl ?_
        refine reg_quiet rfl (step_C tab_ok (fun K hk => hk)) ?_
        refine reg_on rfl rfl rfl ?_
        refine reg_quiet rfl (step_C tab_ok (fun K hk => hk)) ?_
        refine reg_quiet rfl (pick_F tab_ok rfl rfl rfl) ?_
        refine reg_quiet rfl (step_C tab_ok (fun K hk => hk)) ?_
        refine reg_on rfl rfl rfl ?_
        refine reg_quiet rfl (step_C tab_ok (fun K hk => hk)) ?_
        refine reg_on rfl rfl rfl ?_
        refine reg_quiet rfl (step_C tab_ok (fun K hk => hk)) ?_
        refine reg_on rfl rfl rfl ?_
        refine reg_quiet rfl (step_C tab_ok (fun K hk => hk)) ?_
        refine reg_quiet rfl (pick_F tab_ok rfl rfl rfl) ?_
        refine reg_quiet rfl (step_C tab_ok (fun K hk => hk)) ?_
        refine reg_on rfl rfl rfl ?_
        refine reg_quiet rfl (step_C tab_ok (fun K hk => hk)) ?_
        refine reg_on rfl rfl rfl ?_
        refine reg_quiet rfl (step_C tab_ok (fun K hk => hk)) ?_
        refine reg_on rfl rfl rfl ?_
        refine reg_quiet rfl (step_C tab_ok (fun K hk => hk)) ?_
        refine reg_quiet rfl (pick_F tab_ok rfl rfl rfl) ?_
        refine reg_quiet rfl (step_C tab_ok (fun K hk => hk)) ?_
        refine reg_on rfl rfl rfl ?_
        refine reg_quiet rfl (step_C tab_ok (fun K hk => hk)) ?_
        refine reg_on rfl rfl rfl ?_
        refine reg_quiet rfl (step_C tab_ok (fun K hk => hk)) ?_
        refine reg_on rfl rfl rfl ?_
        refine reg_quiet rfl (step_C tab_ok (fun K hk => hk)) ?_
        refine reg_skip rfl rfl rfl rfl rfl ?_
        refine reg_skip rfl rfl rfl rfl rfl ?_
        refine reg_skipU rfl rfl rfl rfl ?_
        refine reg_skipU rfl rfl rfl rfl ?_
        refine reg_skip rfl rfl rfl rfl rfl ?_
        refine reg_on rfl rfl rfl ?_
        refine reg_quiet rfl (pick_F tab_ok rfl rfl rfl) ?_
        refine reg_quiet rfl (pick_F tab_ok rfl rfl rfl) ?_
        refine reg_nil ?_
        refine seq_n ?_
        refine wc_false rfl rfl ?_
        refine wc_skip ?_
        refine seq_n ?_
        refine wc_seq ?_
        refine wc_seq ?_
        refine wc_draw (by kernel_rfl) ?_
        refine dreg_q [18] [] rfl (step_C tab_ok (fun K hk => hk)) ?_
        refine dreg_q [100] [] rfl (step_C tab_ok (fun K hk => hk)) ?_
        refine dreg_q [101] [] rfl (step_C tab_ok (fun K hk => hk)) ?_
        refine dreg_onq [102, 9] [248] rfl rfl rfl rfl (load_box tab_ok rfl rfl rfl rfl) ?_
        refine dreg_onq [102] [] rfl rfl rfl rfl (build_empty tab_ok rfl rfl) ?_
        refine dreg_onq [102, 0] [] rfl rfl rfl rfl (step_C tab_ok (fun K hk => hk)) ?_
        refine dreg_onw [102, 104, 105] [] rfl rfl rfl rfl (append_empty_arr (s := 20) (enc := encUse) (ys := l) tab_ok rfl rfl rfl rfl rfl (.inl rfl) rfl hpl hll rfl) ?_
        refine dreg_onq [102, 5] [64] rfl rfl rfl rfl (load_box tab_ok rfl rfl rfl rfl) ?_
        refine dreg_onw [102, 107] [] rfl rfl rfl rfl (build_slice tab_ok rfl rfl rfl rfl rfl rfl rfl rfl) ?_
        refine dreg_onw2 [102, 106, 108] [896, 912] rfl rfl rfl rfl (append_one (s := 20) (enc := encUse) tab_ok u rfl rfl rfl rfl rfl rfl rfl rfl rfl hl1 rfl) ?_
        refine dreg_onq [102, 103, 109] [920] rfl rfl rfl rfl (call_r hSa rfl rfl (arg_e (arg_ownL rfl (by simp) arg_nil)) (.inr (lbool_plain _)) (fun _ => rfl)) ?_
        refine dreg_onq [102, 110] [] rfl rfl rfl rfl (step_C tab_ok (fun K hk => hk)) ?_
        refine dreg_q [102, 111] [] rfl (pick_T tab_ok rfl rfl rfl) ?_
        refine dreg_q [112] [] rfl (step_C tab_ok (fun K hk => hk)) ?_
        refine dreg_onq [113, 18] [] rfl rfl rfl rfl (step_C tab_ok (fun K hk => hk)) ?_
        refine dreg_onq [113, 114] [] rfl rfl rfl rfl (step_C tab_ok (fun K hk => hk)) ?_
        refine dreg_onq [113, 115] [] rfl rfl rfl rfl (step_C tab_ok (fun K hk => hk)) ?_
        refine dreg_offq [116, 9] rfl rfl rfl rfl ?_
        refine dreg_offq [116, 117] rfl rfl rfl rfl ?_
        refine dreg_offq [116, 118] rfl rfl rfl rfl ?_
        refine dreg_offq [116, 119] rfl rfl rfl rfl ?_
        refine dreg_onq [113, 116, 120] [] rfl rfl rfl rfl (pick_F tab_ok rfl rfl rfl) ?_
        refine dreg_q [113, 121] [] rfl (pick_F tab_ok rfl rfl rfl) ?_
        refine dreg_end (by kernel_rfl) ?_
        refine seq_n ?_
        refine wc_false rfl rfl ?_
        refine wc_skip ?_
        refine seq_n ?_
        refine wc_seq ?_
        refine wc_draw (by kernel_rfl) ?_
        refine dreg_q [19] [] rfl (step_C tab_ok (fun K hk => hk)) ?_
        refine dreg_q [123] [] rfl (step_C tab_ok (fun K hk => hk)) ?_
        refine dreg_q [124] [] rfl (step_C tab_ok (fun K hk => hk)) ?_
        refine dreg_onq [125, 11] [336] rfl rfl rfl rfl (step_C tab_ok (fun K hk => hk)) ?_
        refine dreg_onq [125, 126] [336] rfl rfl rfl rfl (load_box tab_ok rfl rfl ⟨_, rfl, rfl⟩ rfl) ?_
        refine dreg_onq [125, 127] [] rfl rfl rfl rfl (len_arx tab_ok rfl rfl) ?_
        refine dreg_onq [125, 128] [] rfl rfl rfl rfl (step_C tab_ok (fun K hk => hk)) ?_
        refine dreg_q [125, 129] [] rfl (pick_T tab_ok rfl rfl rfl) ?_
        refine dreg_q [130] [] rfl (step_C tab_ok (fun K hk => hk)) ?_
        refine dreg_offq [131, 19] rfl rfl rfl rfl ?_
        refine dreg_offq [131, 132] rfl rfl rfl rfl ?_
        refine dreg_offq [131, 133] rfl rfl rfl rfl ?_
        refine dreg_offUq [134, 11] rfl rfl rfl ?_
        refine dreg_offUq [134] rfl rfl rfl ?_
        refine dreg_offUq [134, 0] rfl rfl rfl ?_
        refine dreg_offUq [134, 136, 137] rfl rfl rfl ?_
        refine dreg_offUq [134, 1] rfl rfl rfl ?_
        refine dreg_offUq [134, 138, 139] rfl rfl rfl ?_
        refine dreg_offUq [134, 135, 140] rfl rfl rfl ?_
        refine dreg_offq [131, 134, 141] rfl rfl rfl rfl ?_
        refine dreg_q [131, 142] [] rfl (pick_T tab_ok rfl rfl rfl) ?_
        refine dreg_q [143] [] rfl (step_C tab_ok (fun K hk => hk)) ?_
        refine dreg_onq [144] [] rfl rfl rfl rfl (call_r lives_is rfl rfl arg_nil (.inl rfl) (fun _ => rfl)) ?_
        refine dreg_q [144, 145] [] rfl (pick_T tab_ok rfl rfl rfl) ?_
        refine dreg_q [146] [] rfl (step_C tab_ok (fun K hk => hk)) ?_
        refine dreg_end (by kernel_rfl) ?_
        refine seq_n ?_
        refine wc_ret ?_
        exact ⟨trivial, [], .of rfl rfl rfl rfl rfl ⟨⟨_, rfl, AVLe.of_eq rfl⟩, rfl, trivial⟩ trivial⟩
  | false =>
    rw [hu, hv] at hCu
    have hAdd := add_inv l u hl hv
    rcases chk_small h2 with hm | hm
    · rw [hm] at hC1
      have hMrg := merge_x l m hl hm (by omega)
      rcases Nat.eq_zero_or_pos l.length with hl0 | hpl
      · obtain rfl := List.length_eq_zero_iff.1 hl0
        rcases Nat.eq_zero_or_pos m.length with hm0 | hpm
        · obtain rfl := List.length_eq_zero_iff.1 hm0
          have hSm := (usame_is [] [] (by simp)).args_le (ArgsLe.same (ArgsLe.emp ArgsLe.nil))
          refine fnIs_of tab_ok Try.func12 rfl rfl rfl ?_
          refine wc_seq ?_
          refine wc_region ?_
          refine reg_new (step_C tab_ok (fun K hk => hk)) rfl ?_
          refine reg_quiet rfl (step_C tab_ok (fun K hk => hk)) ?_
          refine reg_nil ?_
          refine seq_n ?_
          refine wc_seq ?_
          refine wc_seq ?_
          refine wc_region ?_
          refine reg_quiet rfl (step_C tab_ok (fun K hk => hk)) ?_
          refine reg_quiet rfl (len_arr tab_ok rfl rfl) ?_
          refine reg_quiet rfl (step_C tab_ok (fun K hk => hk)) ?_
          refine reg_quiet rfl (step_C tab_ok (fun K hk => hk)) ?_
          refine reg_on rfl rfl rfl ?_
          refine reg_quiet rfl (step_C tab_ok (fun K hk => hk)) ?_
          refine reg_on rfl rfl rfl ?_
          refine reg_quiet rfl (len_arr tab_ok rfl rfl) ?_
          refine reg_on rfl rfl rfl ?_
          refine reg_quiet rfl (step_C tab_ok (fun K hk => hk)) ?_
          refine reg_quiet rfl (pick_F tab_ok rfl rfl rfl) ?_
          refine reg_nil ?_
          refine seq_n ?_
          refine wc_false rfl rfl ?_
          refine wc_skip ?_
          refine seq_n ?_
          refine wc_seq ?_
          refine wc_region ?_
          refine reg_quiet rfl (step_C tab_ok (fun K hk => hk)) ?_
          refine reg_quiet rfl (call_r hC0 rfl rfl (arg_e arg_nil) (.inl rfl) (fun _ => rfl)) ?_
          refine reg_quiet rfl (step_C tab_ok (fun K hk => hk)) ?_
          refine reg_quiet rfl (call_r hC1 rfl rfl (arg_e arg_nil) (.inl rfl) (fun _ => rfl)) ?_
          refine reg_quiet rfl (step_C tab_ok (fun K hk => hk)) ?_
          refine reg_quiet rfl (step_C tab_ok (fun K hk => hk)) ?_
          refine reg_nil ?_
          refine seq_n ?_
          refine wc_seq ?_
          refine wc_draw (by kernel_rfl) ?_
          refine dreg_q [0] [] rfl (step_C tab_ok (fun K hk => hk)) ?_
          refine dreg_q [34] [] rfl (call_r (of_is _) rfl rfl (arg_e arg_nil) (.inl rfl) (fun _ => rfl)) ?_
          refine dreg_q [5] [64] rfl (load_box tab_ok rfl rfl rfl rfl) ?_
          refine dreg_q [35, 36] [] rfl (call_r hAdd rfl rfl (arg_e (arg_e arg_nil)) (.inl rfl) (fun _ => rfl)) ?_
          refine dreg_q [37] [] rfl (step_C tab_ok (fun K hk => hk)) ?_
          refine dreg_q [33] [] rfl (step_C tab_ok (fun K hk => hk)) ?_
          refine dreg_q [33] [] rfl (step_C tab_ok (fun K hk => hk)) ?_
          refine dreg_w [] [] rfl (step_C tab_ok (fun K hk => hk)) ?_
          refine dreg_s [9, 38] [248] (store_row tab_ok rfl rfl rfl ⟨_, ⟨rfl, rfl, rfl⟩, rfl⟩ rfl) ?_
          refine dreg_q [39] [] rfl (step_C tab_ok (fun K hk => hk)) ?_
          refine dreg_end (by kernel_rfl) ?_
          refine seq_n ?_
          refine wc_seq ?_
          refine wc_region ?_
          refine reg_quiet rfl (step_C tab_ok (fun K hk => hk)) ?_
          refine reg_quiet rfl (call_r (of_is _) rfl rfl (arg_e arg_nil) (.inl rfl) (fun _ => rfl)) ?_
          refine reg_quiet rfl (step_C tab_ok (fun K hk => hk)) ?_
          refine reg_quiet rfl (call_r (of_is _) rfl rfl (arg_e arg_nil) (.inl rfl) (fun _ => rfl)) ?_
          refine reg_quiet rfl (call_r hMrg rfl rfl (arg_e (arg_e arg_nil)) (.inl rfl) (fun _ => rfl)) ?_
          refine reg_quiet rfl (step_C tab_ok (fun K hk => hk)) ?_
          refine reg_quiet rfl (step_C tab_ok (fun K hk => hk)) ?_
          refine reg_quiet rfl (step_C tab_ok (fun K hk => hk)) ?_
          refine reg_new (step_C tab_ok (fun K hk => hk)) rfl ?_
          refine reg_store (store_row tab_ok rfl rfl rfl ⟨_, ⟨rfl, rfl, rfl⟩, rfl⟩ rfl) ?_
          refine reg_quiet rfl (step_C tab_ok (fun K hk => hk)) ?_
          refine reg_nil ?_
          refine seq_n ?_
          refine wc_seq ?_
          refine wc_region ?_
          refine reg_quiet rfl (step_C tab_ok (fun K hk => hk)) ?_
          refine reg_quiet rfl (call_r (of_is _) rfl rfl (arg_e arg_nil) (.inl rfl) (fun _ => rfl)) ?_
          refine reg_quiet rfl (call_r hTxt rfl rfl (arg_e arg_nil) (.inl rfl) (fun _ => rfl)) ?_
          refine reg_quiet rfl (step_C tab_ok (fun K hk => hk)) ?_
          refine reg_quiet rfl (step_C tab_ok (fun K hk => hk)) ?_
          refine reg_quiet rfl (step_C tab_ok (fun K hk => hk)) ?_
          refine reg_quiet rfl (step_C tab_ok (fun K hk => hk)) ?_
          refine reg_quiet rfl (step_C tab_ok (fun K hk => hk)) ?_
          refine reg_nil ?_
          refine seq_n ?_
          refine wc_seq ?_
          refine wc_region ?_
          refine reg_quiet rfl (step_C tab_ok (fun K hk => hk)) ?_
          refine reg_quiet rfl (call_r (of_is _) rfl rfl (arg_e arg_nil) (.inl rfl) (fun _ => rfl)) ?_
          refine reg_quiet rfl (call_r hRep rfl rfl (arg_e arg_nil) (.inl rfl) (fun _ => rfl)) ?_
          refine reg_quiet rfl (step_C tab_ok (fun K hk => hk)) ?_
          refine reg_quiet rfl (step_C tab_ok (fun K hk => hk)) ?_
          refine reg_quiet rfl (step_C tab_ok (fun K hk => hk)) ?_
          refine reg_quiet rfl (step_C tab_ok (fun K hk => hk)) ?_
          refine reg_quiet rfl (step_C tab_ok (fun K hk => hk)) ?_
          refine reg_quiet rfl (step_C tab_ok (fun K hk => hk)) ?_
          refine reg_quiet rfl (step_C tab_ok (fun K hk => hk)) ?_
          refine reg_nil ?_
          refine seq_n ?_
          refine wc_seq ?_
          refine wc_region ?_
          refine reg_quiet rfl (step_C tab_ok (fun K hk => hk)) ?_
          refine reg_quiet rfl (step_C tab_ok (fun K hk => hk)) ?_
          refine reg_quiet rfl (step_C tab_ok (fun K hk => hk)) ?_
          refine reg_quiet rfl (step_C tab_ok (fun K hk => hk)) ?_
          refine reg_nil ?_
          refine seq_n ?_
          refine wc_seq ?_
          refine wc_seq ?_
          refine wc_region ?_
          refine reg_quiet rfl (step_C tab_ok (fun K hk => hk)) ?_
          refine reg_quiet rfl (step_C tab_ok (fun K hk => hk)) ?_
          refine reg_nil ?_
          refine seq_n ?_
          refine wc_true rfl rfl ?_
          refine wc_seq ?_
          refine wc_region ?_
          refine reg_quiet rfl (step_C tab_ok (fun K hk => hk)) ?_
          refine reg_quiet rfl (step_C tab_ok (fun K hk => hk)) ?_
          refine reg_nil ?_
          refine seq_n ?_
          refine wc_region ?_
          refine reg_quiet rfl (load_box tab_ok rfl rfl rfl rfl) ?_
          refine reg_new (build_slice tab_ok rfl rfl rfl rfl rfl rfl rfl rfl) rfl ?_
          refine reg_freeze (env' := [(67, _), (19, _), (17, _), (14, _), (13, _), (12, _), (11, _), (10, _), (9, _), (8, _), (7, _), (6, _), (5, _), (0, _), (1, _)]) (h' := [(64, some _), (248, some _), (336, some _)]) 576 _ rfl ⟨⟨_, rfl, Frz.lits1 (enc := encUse) u rfl rfl⟩, ⟨_, rfl, .refl _⟩, ⟨_, rfl, .refl _⟩, ⟨_, rfl, .refl _⟩, ⟨_, rfl, .refl _⟩, ⟨_, rfl, .refl _⟩, ⟨_, rfl, .refl _⟩, ⟨_, rfl, .refl _⟩, ⟨_, rfl, .refl _⟩, ⟨_, rfl, .refl _⟩, ⟨_, rfl, .refl _⟩, ⟨_, rfl, .refl _⟩, ⟨_, rfl, .refl _⟩, ⟨_, rfl, .refl _⟩, ⟨_, rfl, .refl _⟩, trivial⟩ ⟨⟨rfl, _, rfl, .refl _⟩, ⟨rfl, _, rfl, .refl _⟩, ⟨rfl, _, rfl, .refl _⟩, trivial⟩ ?_
          refine reg_quiet rfl (call_r hCu rfl rfl (arg_e arg_nil) (.inl rfl) (fun _ => rfl)) ?_
          refine reg_quiet rfl (step_C tab_ok (fun K hk => hk)) ?_
          refine reg_nil ?_
          refine seq_n ?_
          refine wc_seq ?_
          refine wc_seq ?_
          refine wc_region ?_
          refine reg_quiet rfl (step_C tab_ok (fun K hk => hk)) ?_
          refine reg_quiet rfl (call_r (of_is _) rfl rfl (arg_e arg_nil) (.inl rfl) (fun _ => rfl)) ?_
          refine reg_quiet rfl (call_r hChk rfl rfl (arg_e arg_nil) (.inl rfl) (fun _ => rfl)) ?_
          refine reg_quiet rfl (step_C tab_ok (fun K hk => hk)) ?_
          refine reg_quiet rfl (step_C tab_ok (fun K hk => hk)) ?_
          refine reg_quiet rfl (step_C tab_ok (fun K hk => hk)) ?_
          refine reg_on rfl rfl rfl ?_
          refine reg_quiet rfl (step_C tab_ok (fun K hk => hk)) ?_
          refine reg_on rfl rfl rfl ?_
          refine reg_quiet rfl (step_C tab_ok (fun K hk => hk)) ?_
          refine reg_on rfl rfl rfl ?_
          refine reg_quiet rfl (step_C tab_ok (fun K hk => hk)) ?_
          refine reg_quiet rfl (pick_F tab_ok rfl rfl rfl) ?_
          refine reg_quiet rfl (step_C tab_ok (fun K hk => hk)) ?_
          refine reg_on rfl rfl rfl ?_
          refine reg_quiet rfl (step_C tab_ok (fun K hk => hk)) ?_
          refine reg_on rfl rfl rfl ?_
          refine reg_quiet rfl (step_C tab_ok (fun K hk => hk)) ?_
          refine reg_on rfl rfl rfl ?_
          refine reg_quiet rfl (step_C tab_ok (fun K hk => hk)) ?_
          refine reg_quiet rfl (pick_F tab_ok rfl rfl rfl) ?_
          refine reg_quiet rfl (step_C tab_ok (fun K hk => hk)) ?_
          refine reg_on rfl rfl rfl ?_
          refine reg_quiet rfl (step_C tab_ok (fun K hk => hk)) ?_
          refine reg_on rfl rfl rfl ?_
          refine reg_quiet rfl (step_C tab_ok (fun K hk => hk)) ?_
          refine reg_on rfl rfl rfl ?_
          refine reg_quiet rfl (step_C tab_ok (fun K hk => hk)) ?_
          refine reg_quiet rfl (pick_F tab_ok rfl rfl rfl) ?_
          refine reg_quiet rfl (step_C tab_ok (fun K hk => hk)) ?_
          refine reg_on rfl rfl rfl ?_
          refine reg_quiet rfl (step_C tab_ok (fun K hk => hk)) ?_
          refine reg_on rfl rfl rfl ?_
          refine reg_quiet rfl (step_C tab_ok (fun K hk => hk)) ?_
          refine reg_on rfl rfl rfl ?_
          refine reg_quiet rfl (step_C tab_ok (fun K hk => hk)) ?_
          refine reg_skip rfl rfl rfl rfl rfl ?_
          refine reg_skip rfl rfl rfl rfl rfl ?_
          refine reg_skipU rfl rfl rfl rfl ?_
          refine reg_skipU rfl rfl rfl rfl ?_
          refine reg_skip rfl rfl rfl rfl rfl ?_
          refine reg_on rfl rfl rfl ?_
          refine reg_quiet rfl (pick_F tab_ok rfl rfl rfl) ?_
          refine reg_quiet rfl (pick_F tab_ok rfl rfl rfl) ?_
          refine reg_nil ?_
          refine seq_n ?_
          refine wc_false rfl rfl ?_
          refine wc_skip ?_
          refine seq_n ?_
          refine wc_seq ?_
          refine wc_seq ?_
          refine wc_draw (by kernel_rfl) ?_
          refine dreg_q [18] [] rfl (step_C tab_ok (fun K hk => hk)) ?_
          refine dreg_q [100] [] rfl (step_C tab_ok (fun K hk => hk)) ?_
          refine dreg_q [101] [] rfl (step_C tab_ok (fun K hk => hk)) ?_
          refine dreg_offq [102, 9] rfl rfl rfl rfl ?_
          refine dreg_offq [102] rfl rfl rfl rfl ?_
          refine dreg_offq [102, 0] rfl rfl rfl rfl ?_
          refine dreg_offq [102, 104, 105] rfl rfl rfl rfl ?_
          refine dreg_offq [102, 5] rfl rfl rfl rfl ?_
          refine dreg_offq [102, 107] rfl rfl rfl rfl ?_
          refine dreg_offq [102, 106, 108] rfl rfl rfl rfl ?_
          refine dreg_offq [102, 103, 109] rfl rfl rfl rfl ?_
          refine dreg_offq [102, 110] rfl rfl rfl rfl ?_
          refine dreg_q [102, 111] [] rfl (pick_F tab_ok rfl rfl rfl) ?_
          refine dreg_q [112] [] rfl (step_C tab_ok (fun K hk => hk)) ?_
          refine dreg_onq [113, 18] [] rfl rfl rfl rfl (step_C tab_ok (fun K hk => hk)) ?_
          refine dreg_onq [113, 114] [] rfl rfl rfl rfl (step_C tab_ok (fun K hk => hk)) ?_
          refine dreg_onq [113, 115] [] rfl rfl rfl rfl (step_C tab_ok (fun K hk => hk)) ?_
          refine dreg_onq [116, 9] [248] rfl rfl rfl rfl (step_C tab_ok (fun K hk => hk)) ?_
          refine dreg_onq [116, 117] [248] rfl rfl rfl rfl (load_box tab_ok rfl rfl ⟨_, rfl, rfl⟩ rfl) ?_
          refine dreg_onq [116, 118] [] rfl rfl rfl rfl (len_nil tab_ok rfl rfl) ?_
          refine dreg_onq [116, 119] [] rfl rfl rfl rfl (step_C tab_ok (fun K hk => hk)) ?_
          refine dreg_onq [113, 116, 120] [] rfl rfl rfl rfl (pick_T tab_ok rfl rfl rfl) ?_
          refine dreg_q [113, 121] [] rfl (pick_F tab_ok rfl rfl rfl) ?_
          refine dreg_end (by kernel_rfl) ?_
          refine seq_n ?_
          refine wc_false rfl rfl ?_
          refine wc_skip ?_
          refine seq_n ?_
          refine wc_seq ?_
          refine wc_draw (by kernel_rfl) ?_
          refine dreg_q [19] [] rfl (step_C tab_ok (fun K hk => hk)) ?_
          refine dreg_q [123] [] rfl (step_C tab_ok (fun K hk => hk)) ?_
          refine dreg_q [124] [] rfl (step_C tab_ok (fun K hk => hk)) ?_
          refine dreg_offq [125, 11] rfl rfl rfl rfl ?_
          refine dreg_offq [125, 126] rfl rfl rfl rfl ?_
          refine dreg_offq [125, 127] rfl rfl rfl rfl ?_
          refine dreg_offq [125, 128] rfl rfl rfl rfl ?_
          refine dreg_q [125, 129] [] rfl (pick_F tab_ok rfl rfl rfl) ?_
          refine dreg_q [130] [] rfl (step_C tab_ok (fun K hk => hk)) ?_
          refine dreg_onq [131, 19] [] rfl rfl rfl rfl (step_C tab_ok (fun K hk => hk)) ?_
          refine dreg_onq [131, 132] [] rfl rfl rfl rfl (step_C tab_ok (fun K hk => hk)) ?_
          refine dreg_onq [131, 133] [] rfl rfl rfl rfl (step_C tab_ok (fun K hk => hk)) ?_
          refine dreg_onq [134, 11] [336] rfl rfl rfl rfl (load_box tab_ok rfl rfl rfl rfl) ?_
          refine dreg_onq [134] [] rfl rfl rfl rfl (build_empty tab_ok rfl rfl) ?_
          refine dreg_onq [134, 0] [] rfl rfl rfl rfl (step_C tab_ok (fun K hk => hk)) ?_
          refine dreg_onq [134, 136, 137] [] rfl rfl rfl rfl (append_e_n tab_ok rfl rfl rfl rfl) ?_
          refine dreg_onq [134, 1] [] rfl rfl rfl rfl (step_C tab_ok (fun K hk => hk)) ?_
          refine dreg_onq [134, 138, 139] [] rfl rfl rfl rfl (append_e_n tab_ok rfl rfl rfl rfl) ?_
          refine dreg_onq [134, 135, 140] [] rfl rfl rfl rfl (call_r hSm rfl rfl (arg_e (arg_emp arg_nil)) (.inl rfl) (fun _ => rfl)) ?_
          refine dreg_onq [131, 134, 141] [] rfl rfl rfl rfl (pick_T tab_ok rfl rfl rfl) ?_
          refine dreg_q [131, 142] [] rfl (pick_F tab_ok rfl rfl rfl) ?_
          refine dreg_q [143] [] rfl (step_C tab_ok (fun K hk => hk)) ?_
          refine dreg_onq [144] [] rfl rfl rfl rfl (call_r lives_is rfl rfl arg_nil (.inl rfl) (fun _ => rfl)) ?_
          refine dreg_q [144, 145] [] rfl (pick_T tab_ok rfl rfl rfl) ?_
          refine dreg_q [146] [] rfl (step_C tab_ok (fun K hk => hk)) ?_
          refine dreg_end (by kernel_rfl) ?_
          refine seq_n ?_
          refine wc_ret ?_
          exact ⟨trivial, [], .of rfl rfl rfl rfl rfl ⟨⟨_, rfl, AVLe.of_eq rfl⟩, rfl, trivial⟩ trivial⟩
        · refine fnIs_of tab_ok Try.func12 rfl rfl rfl ?_
          refine wc_seq ?_
          refine wc_region ?_
          refine reg_new (step_C tab_ok (fun K hk => hk)) rfl ?_
          refine reg_quiet rfl (step_C tab_ok (fun K hk => hk)) ?_
          refine reg_nil ?_
          refine seq_n ?_
          refine wc_seq ?_
          refine wc_seq ?_
          refine wc_region ?_
          refine reg_quiet rfl (step_C tab_ok (fun K hk => hk)) ?_
          refine reg_quiet rfl (len_arr tab_ok rfl rfl) ?_
          refine reg_quiet rfl (step_C tab_ok (fun K hk => hk)) ?_
          refine reg_quiet rfl (step_C tab_ok (fun K hk => hk)) ?_
          refine reg_on rfl rfl rfl ?_
          refine reg_quiet rfl (step_C tab_ok (fun K hk => hk)) ?_
          refine reg_on rfl rfl rfl ?_
          refine reg_quiet rfl (len_arr tab_ok rfl rfl) ?_
          refine reg_on rfl rfl rfl ?_
          refine reg_quiet rfl (step_C tab_ok (fun K hk => hk)) ?_
          refine reg_quiet rfl (pick_F tab_ok rfl rfl rfl) ?_
          refine reg_nil ?_
          refine seq_n ?_
          refine wc_false rfl (by assumption) ?_
          refine wc_skip ?_
          refine seq_n ?_
          refine wc_seq ?_
          refine wc_region ?_
          refine reg_quiet rfl (step_C tab_ok (fun K hk => hk)) ?_
          refine reg_quiet rfl (call_r hC0 rfl rfl (arg_e arg_nil) (.inl rfl) (fun _ => rfl)) ?_
          refine reg_quiet rfl (step_C tab_ok (fun K hk => hk)) ?_
          refine reg_quiet rfl (call_r hC1 rfl rfl (arg_e arg_nil) (.inl rfl) (fun _ => rfl)) ?_
          refine reg_quiet rfl (step_C tab_ok (fun K hk => hk)) ?_
          refine reg_quiet rfl (step_C tab_ok (fun K hk => hk)) ?_
          refine reg_nil ?_
          refine seq_n ?_
          refine wc_seq ?_
          refine wc_draw (by kernel_rfl) ?_
          refine dreg_q [0] [] rfl (step_C tab_ok (fun K hk => hk)) ?_
          refine dreg_q [34] [] rfl (call_r (of_is _) rfl rfl (arg_e arg_nil) (.inl rfl) (fun _ => rfl)) ?_
          refine dreg_q [5] [64] rfl (load_box tab_ok rfl rfl rfl rfl) ?_
          refine dreg_q [35, 36] [] rfl (call_r hAdd rfl rfl (arg_e (arg_e arg_nil)) (.inl rfl) (fun _ => rfl)) ?_
          refine dreg_q [37] [] rfl (step_C tab_ok (fun K hk => hk)) ?_
          refine dreg_q [33] [] rfl (step_C tab_ok (fun K hk => hk)) ?_
          refine dreg_q [33] [] rfl (step_C tab_ok (fun K hk => hk)) ?_
          refine dreg_w [] [] rfl (step_C tab_ok (fun K hk => hk)) ?_
          refine dreg_s [9, 38] [248] (store_row tab_ok rfl rfl rfl ⟨_, ⟨rfl, rfl, rfl⟩, rfl⟩ rfl) ?_
          refine dreg_q [39] [] rfl (step_C tab_ok (fun K hk => hk)) ?_
          refine dreg_end (by kernel_rfl) ?_
          refine seq_n ?_
          refine wc_seq ?_
          refine wc_region ?_
          refine reg_quiet rfl (step_C tab_ok (fun K hk => hk)) ?_
          refine reg_quiet rfl (call_r (of_is _) rfl rfl (arg_e arg_nil) (.inl rfl) (fun _ => rfl)) ?_
          refine reg_quiet rfl (step_C tab_ok (fun K hk => hk)) ?_
          refine reg_quiet rfl (call_r (of_is _) rfl rfl (arg_e arg_nil) (.inl rfl) (fun _ => rfl)) ?_
          refine reg_quiet rfl (call_r hMrg rfl rfl (arg_e (arg_e arg_nil)) (.inl rfl) (fun _ => rfl)) ?_
          refine reg_quiet rfl (step_C tab_ok (fun K hk => hk)) ?_
          refine reg_quiet rfl (step_C tab_ok (fun K hk => hk)) ?_
          refine reg_quiet rfl (step_C tab_ok (fun K hk => hk)) ?_
          refine reg_new (step_C tab_ok (fun K hk => hk)) rfl ?_
          refine reg_store (store_row tab_ok rfl rfl rfl ⟨_, ⟨rfl, rfl, rfl⟩, rfl⟩ rfl) ?_
          refine reg_quiet rfl (step_C tab_ok (fun K hk => hk)) ?_
          refine reg_nil ?_
          refine seq_n ?_
          refine wc_seq ?_
          refine wc_region ?_
          refine reg_quiet rfl (step_C tab_ok (fun K hk => hk)) ?_
          refine reg_quiet rfl (call_r (of_is _) rfl rfl (arg_e arg_nil) (.inl rfl) (fun _ => rfl)) ?_
          refine reg_quiet rfl (call_r hTxt rfl rfl (arg_e arg_nil) (.inl rfl) (fun _ => rfl)) ?_
          refine reg_quiet rfl (step_C tab_ok (fun K hk => hk)) ?_
          refine reg_quiet rfl (step_C tab_ok (fun K hk => hk)) ?_
          refine reg_quiet rfl (step_C tab_ok (fun K hk => hk)) ?_
          refine reg_quiet rfl (step_C tab_ok (fun K hk => hk)) ?_
          refine reg_quiet rfl (step_C tab_ok (fun K hk => hk)) ?_
          refine reg_nil ?_
          refine seq_n ?_
          refine wc_seq ?_
          refine wc_region ?_
          refine reg_quiet rfl (step_C tab_ok (fun K hk => hk)) ?_
          refine reg_quiet rfl (call_r (of_is _) rfl rfl (arg_e arg_nil) (.inl rfl) (fun _ => rfl)) ?_
          refine reg_quiet rfl (call_r hRep rfl rfl (arg_e arg_nil) (.inl rfl) (fun _ => rfl)) ?_
          refine reg_quiet rfl (step_C tab_ok (fun K hk => hk)) ?_
          refine reg_quiet rfl (step_C tab_ok (fun K hk => hk)) ?_
          refine reg_quiet rfl (step_C tab_ok (fun K hk => hk)) ?_
          refine reg_quiet rfl (step_C tab_ok (fun K hk => hk)) ?_
          refine reg_quiet rfl (step_C tab_ok (fun K hk => hk)) ?_
          refine reg_quiet rfl (step_C tab_ok (fun K hk => hk)) ?_
          refine reg_quiet rfl (step_C tab_ok (fun K hk => hk)) ?_
          refine reg_nil ?_
          refine seq_n ?_
          refine wc_seq ?_
          refine wc_region ?_
          refine reg_quiet rfl (step_C tab_ok (fun K hk => hk)) ?_
          refine reg_quiet rfl (step_C tab_ok (fun K hk => hk)) ?_
          refine reg_quiet rfl (step_C tab_ok (fun K hk => hk)) ?_
          refine reg_quiet rfl (step_C tab_ok (fun K hk => hk)) ?_
          refine reg_nil ?_
          refine seq_n ?_
          refine wc_seq ?_
          refine wc_seq ?_
          refine wc_region ?_
          refine reg_quiet rfl (step_C tab_ok (fun K hk => hk)) ?_
          refine reg_quiet rfl (step_C tab_ok (fun K hk => hk)) ?_
          refine reg_nil ?_
          refine seq_n ?_
          refine wc_true rfl rfl ?_
          refine wc_seq ?_
          refine wc_region ?_
          refine reg_quiet rfl (step_C tab_ok (fun K hk => hk)) ?_
          refine reg_quiet rfl (step_C tab_ok (fun K hk => hk)) ?_
          refine reg_nil ?_
          refine seq_n ?_
          refine wc_region ?_
          refine reg_quiet rfl (load_box tab_ok rfl rfl rfl rfl) ?_
          refine reg_new (build_slice tab_ok rfl rfl rfl rfl rfl rfl rfl rfl) rfl ?_
          refine reg_freeze (env' := [(67, _), (19, _), (17, _), (14, _), (13, _), (12, _), (11, _), (10, _), (9, _), (8, _), (7, _), (6, _), (5, _), (0, _), (1, _)]) (h' := [(64, some _), (248, some _), (336, some _)]) 576 _ rfl ⟨⟨_, rfl, Frz.lits1 (enc := encUse) u rfl rfl⟩, ⟨_, rfl, .refl _⟩, ⟨_, rfl, .refl _⟩, ⟨_, rfl, .refl _⟩, ⟨_, rfl, .refl _⟩, ⟨_, rfl, .refl _⟩, ⟨_, rfl, .refl _⟩, ⟨_, rfl, .refl _⟩, ⟨_, rfl, .refl _⟩, ⟨_, rfl, .refl _⟩, ⟨_, rfl, .refl _⟩, ⟨_, rfl, .refl _⟩, ⟨_, rfl, .refl _⟩, ⟨_, rfl, .refl _⟩, ⟨_, rfl, .refl _⟩, trivial⟩ ⟨⟨rfl, _, rfl, .refl _⟩, ⟨rfl, _, rfl, .refl _⟩, ⟨rfl, _, rfl, .refl _⟩, trivial⟩ ?_
          refine reg_quiet rfl (call_r hCu rfl rfl (arg_e arg_nil) (.inl rfl) (fun _ => rfl)) ?_
          refine reg_quiet rfl (step_C tab_ok (fun K hk => hk)) ?_
          refine reg_nil ?_
          refine seq_n ?_
          refine wc_seq ?_
          refine wc_seq ?_
          refine wc_region ?_
          refine reg_quiet rfl (step_C tab_ok (fun K hk => hk)) ?_
          refine reg_quiet rfl (call_r (of_is _) rfl rfl (arg_e arg_nil) (.inl rfl) (fun _ => rfl)) ?_
          refine reg_quiet rfl (call_r hChk rfl rfl (arg_e arg_nil) (.inl rfl) (fun _ => rfl)) ?_
          refine reg_quiet rfl (step_C tab_ok (fun K hk => hk)) ?_
          refine reg_quiet rfl (step_C tab_ok (fun K hk => hk)) ?_
          refine reg_quiet rfl (step_C tab_ok (fun K hk => hk)) ?_
          refine reg_on rfl rfl rfl ?_
          refine reg_quiet rfl (step_C tab_ok (fun K hk => hk)) ?_
          refine reg_on rfl rfl rfl ?_
          refine reg_quiet rfl (step_C tab_ok (fun K hk => hk)) ?_
          refine reg_on rfl rfl rfl ?_
          refine reg_quiet rfl (step_C tab_ok (fun K hk => hk)) ?_
          refine reg_quiet rfl (pick_F tab_ok rfl rfl rfl) ?_
          refine reg_quiet rfl (step_C tab_ok (fun K hk => hk)) ?_
          refine reg_on rfl rfl rfl ?_
          refine reg_quiet rfl (step_C tab_ok (fun K hk => hk)) ?_
          refine reg_on rfl rfl rfl ?_
          refine reg_quiet rfl (step_C tab_ok (fun K hk => hk)) ?_
          refine reg_on rfl rfl rfl ?_
          refine reg_quiet rfl (step_C tab_ok (fun K hk => hk)) ?_
          refine reg_quiet rfl (pick_F tab_ok rfl rfl rfl) ?_
          refine reg_quiet rfl (step_C tab_ok (fun K hk => hk)) ?_
          refine reg_on rfl rfl rfl ?_
          refine reg_quiet rfl (step_C tab_ok (fun K hk => hk)) ?_
          refine reg_on rfl rfl rfl ?_
          refine reg_quiet rfl (step_C tab_ok (fun K hk => hk)) ?_
          refine reg_on rfl rfl rfl ?_
          refine reg_quiet rfl (step_C tab_ok (fun K hk => hk)) ?_
          refine reg_quiet rfl (pick_F tab_ok rfl rfl rfl) ?_
          refine reg_quiet rfl (step_C tab_ok (fun K hk => hk)) ?_
          refine reg_on rfl rfl rfl ?_
          refine reg_quiet rfl (step_C tab_ok (fun K hk => hk)) ?_
          refine reg_on rfl rfl rfl ?_
          refine reg_quiet rfl (step_C tab_ok (fun K hk => hk)) ?_
          refine reg_on rfl rfl rfl ?_
          refine reg_quiet rfl (step_C tab_ok (fun K hk => hk)) ?_
          refine reg_skip rfl rfl rfl rfl rfl ?_
          refine reg_skip rfl rfl rfl rfl rfl ?_
          refine reg_skipU rfl rfl rfl rfl ?_
          refine reg_skipU rfl rfl rfl rfl ?_
          refine reg_skip rfl rfl rfl rfl rfl ?_
          refine reg_on rfl rfl rfl ?_
          refine reg_quiet rfl (pick_F tab_ok rfl rfl rfl) ?_
          refine reg_quiet rfl (pick_F tab_ok rfl rfl rfl) ?_
          refine reg_nil ?_
          refine seq_n ?_
          refine wc_false rfl rfl ?_
          refine wc_skip ?_
          refine seq_n ?_
          refine wc_seq ?_
          refine wc_seq ?_
          refine wc_draw (by kernel_rfl) ?_
          refine dreg_q [18] [] rfl (step_C tab_ok (fun K hk => hk)) ?_
          refine dreg_q [100] [] rfl (step_C tab_ok (fun K hk => hk)) ?_
          refine dreg_q [101] [] rfl (step_C tab_ok (fun K hk => hk)) ?_
          refine dreg_offq [102, 9] rfl rfl rfl rfl ?_
          refine dreg_offq [102] rfl rfl rfl rfl ?_
          refine dreg_offq [102, 0] rfl rfl rfl rfl ?_
          refine dreg_offq [102, 104, 105] rfl rfl rfl rfl ?_
          refine dreg_offq [102, 5] rfl rfl rfl rfl ?_
          refine dreg_offq [102, 107] rfl rfl rfl rfl ?_
          refine dreg_offq [102, 106, 108] rfl rfl rfl rfl ?_
          refine dreg_offq [102, 103, 109] rfl rfl rfl rfl ?_
          refine dreg_offq [102, 110] rfl rfl rfl rfl ?_
          refine dreg_q [102, 111] [] rfl (pick_F tab_ok rfl rfl rfl) ?_
          refine dreg_q [112] [] rfl (step_C tab_ok (fun K hk => hk)) ?_
          refine dreg_onq [113, 18] [] rfl rfl rfl rfl (step_C tab_ok (fun K hk => hk)) ?_
          refine dreg_onq [113, 114] [] rfl rfl rfl rfl (step_C tab_ok (fun K hk => hk)) ?_
          refine dreg_onq [113, 115] [] rfl rfl rfl rfl (step_C tab_ok (fun K hk => hk)) ?_
          refine dreg_onq [116, 9] [248] rfl rfl rfl rfl (step_C tab_ok (fun K hk => hk)) ?_
          refine dreg_onq [116, 117] [248] rfl rfl rfl rfl (load_box tab_ok rfl rfl ⟨_, rfl, rfl⟩ rfl) ?_
          refine dreg_onq [116, 118] [] rfl rfl rfl rfl (len_nil tab_ok rfl rfl) ?_
          refine dreg_onq [116, 119] [] rfl rfl rfl rfl (step_C tab_ok (fun K hk => hk)) ?_
          refine dreg_onq [113, 116, 120] [] rfl rfl rfl rfl (pick_T tab_ok rfl rfl rfl) ?_
          refine dreg_q [113, 121] [] rfl (pick_F tab_ok rfl rfl rfl) ?_
          refine dreg_end (by kernel_rfl) ?_
          refine seq_n ?_
          refine wc_false rfl rfl ?_
          refine wc_skip ?_
          refine seq_n ?_
          refine wc_seq ?_
          refine wc_draw (by kernel_rfl) ?_
          refine dreg_q [19] [] rfl (step_C tab_ok (fun K hk => hk)) ?_
          refine dreg_q [123] [] rfl (step_C tab_ok (fun K hk => hk)) ?_
          refine dreg_q [124] [] rfl (step_C tab_ok (fun K hk => hk)) ?_
          refine dreg_offq [125, 11] rfl rfl rfl rfl ?_
          refine dreg_offq [125, 126] rfl rfl rfl rfl ?_
          refine dreg_offq [125, 127] rfl rfl rfl rfl ?_
          refine dreg_offq [125, 128] rfl rfl rfl rfl ?_
          refine dreg_q [125, 129] [] rfl (pick_F tab_ok rfl rfl rfl) ?_
          refine dreg_q [130] [] rfl (step_C tab_ok (fun K hk => hk)) ?_
          refine dreg_onq [131, 19] [] rfl rfl rfl rfl (step_C tab_ok (fun K hk => hk)) ?_
          refine dreg_onq [131, 132] [] rfl rfl rfl rfl (step_C tab_ok (fun K hk => hk)) ?_
          refine dreg_onq [131, 133] [] rfl rfl rfl rfl (step_C tab_ok (fun K hk => hk)) ?_
          refine dreg_onq [134, 11] [336] rfl rfl rfl rfl (load_box tab_ok rfl rfl rfl rfl) ?_
          refine dreg_onq [134] [] rfl rfl rfl rfl (build_empty tab_ok rfl rfl) ?_
          refine dreg_onq [134, 0] [] rfl rfl rfl rfl (step_C tab_ok (fun K hk => hk)) ?_
          refine dreg_onq [134, 136, 137] [] rfl rfl rfl rfl (append_e_n tab_ok rfl rfl rfl rfl) ?_
          refine dreg_onq [134, 1] [] rfl rfl rfl rfl (step_C tab_ok (fun K hk => hk)) ?_
          refine dreg_onw [134, 138, 139] [] rfl rfl rfl rfl (append_empty_arr (s := 20) (enc := encUse) (ys := m) tab_ok rfl rfl rfl rfl rfl (.inl rfl) rfl hpm hmm rfl) ?_
          refine dreg_onq [134, 135, 140] [1168] rfl rfl rfl rfl (call_r hSm rfl rfl (arg_e (arg_ownL rfl (by simp) arg_nil)) (.inr (lbool_plain _)) (fun _ => rfl)) ?_
          refine dreg_onq [131, 134, 141] [] rfl rfl rfl rfl (pick_T tab_ok rfl rfl rfl) ?_
          refine dreg_q [131, 142] [] rfl (pick_F tab_ok rfl rfl rfl) ?_
          refine dreg_q [143] [] rfl (step_C tab_ok (fun K hk => hk)) ?_
          refine dreg_onq [144] [] rfl rfl rfl rfl (call_r lives_is rfl rfl arg_nil (.inl rfl) (fun _ => rfl)) ?_
          refine dreg_q [144, 145] [] rfl (pick_T tab_ok rfl rfl rfl) ?_
          refine dreg_q [146] [] rfl (step_C tab_ok (fun K hk => hk)) ?_
          refine dreg_end (by kernel_rfl) ?_
          refine seq_n ?_
          refine wc_ret ?_
          exact ⟨trivial, [], .of rfl rfl rfl rfl rfl ⟨⟨_, rfl, AVLe.of_eq rfl⟩, rfl, trivial⟩ trivial⟩
      · rcases Nat.eq_zero_or_pos m.length with hm0 | hpm
        · obtain rfl := List.length_eq_zero_iff.1 hm0
          have hSm : FnIs Try.prog 42 [.d (ledX (l ++ [])), .d (.arr 20 encUse l)] [] (.bool true) [] := by
            rw [List.append_nil] at hSm ⊢
            exact hSm
          refine fnIs_of tab_ok Try.func12 rfl rfl rfl ?_
          refine wc_seq ?_
          refine wc_region ?_
          refine reg_new (step_C tab_ok (fun K hk => hk)) rfl ?_
          refine reg_quiet rfl (step_C tab_ok (fun K hk => hk)) ?_
          refine reg_nil ?_
          refine seq_n ?_
          refine wc_seq ?_
          refine wc_seq ?_
          refine wc_region ?_
          refine reg_quiet rfl (step_C tab_ok (fun K hk => hk)) ?_
          refine reg_quiet rfl (len_arr tab_ok rfl rfl) ?_
          refine reg_quiet rfl (step_C tab_ok (fun K hk => hk)) ?_
          refine reg_quiet rfl (step_C tab_ok (fun K hk => hk)) ?_
          refine reg_on rfl rfl (by assumption) ?_
          refine reg_quiet rfl (step_C tab_ok (fun K hk => hk)) ?_
          refine reg_on rfl rfl (by assumption) ?_
          refine reg_quiet rfl (len_arr tab_ok rfl rfl) ?_
          refine reg_on rfl rfl (by assumption) ?_
          refine reg_quiet rfl (step_C tab_ok (fun K hk => hk)) ?_
          refine reg_quiet rfl (pick_F tab_ok rfl (by assumption) rfl) ?_
          refine reg_nil ?_
          refine seq_n ?_
          refine wc_false rfl rfl ?_
          refine wc_skip ?_
          refine seq_n ?_
          refine wc_seq ?_
          refine wc_region ?_
          refine reg_quiet rfl (step_C tab_ok (fun K hk => hk)) ?_
          refine reg_quiet rfl (call_r hC0 rfl rfl (arg_e arg_nil) (.inl rfl) (fun _ => rfl)) ?_
          refine reg_quiet rfl (step_C tab_ok (fun K hk => hk)) ?_
          refine reg_quiet rfl (call_r hC1 rfl rfl (arg_e arg_nil) (.inl rfl) (fun _ => rfl)) ?_
          refine reg_quiet rfl (step_C tab_ok (fun K hk => hk)) ?_
          refine reg_quiet rfl (step_C tab_ok (fun K hk => hk)) ?_
          refine reg_nil ?_
          refine seq_n ?_
          refine wc_seq ?_
          refine wc_draw (by kernel_rfl) ?_
          refine dreg_q [0] [] rfl (step_C tab_ok (fun K hk => hk)) ?_
          refine dreg_q [34] [] rfl (call_r (of_is _) rfl rfl (arg_e arg_nil) (.inl rfl) (fun _ => rfl)) ?_
          refine dreg_q [5] [64] rfl (load_box tab_ok rfl rfl rfl rfl) ?_
          refine dreg_q [35, 36] [] rfl (call_r hAdd rfl rfl (arg_e (arg_e arg_nil)) (.inl rfl) (fun _ => rfl)) ?_
          refine dreg_q [37] [] rfl (step_C tab_ok (fun K hk => hk)) ?_
          refine dreg_q [33] [] rfl (step_C tab_ok (fun K hk => hk)) ?_
          refine dreg_q [33] [] rfl (step_C tab_ok (fun K hk => hk)) ?_
          refine dreg_w [] [] rfl (step_C tab_ok (fun K hk => hk)) ?_
          refine dreg_s [9, 38] [248] (store_row tab_ok rfl rfl rfl ⟨_, ⟨rfl, rfl, rfl⟩, rfl⟩ rfl) ?_
          refine dreg_q [39] [] rfl (step_C tab_ok (fun K hk => hk)) ?_
          refine dreg_end (by kernel_rfl) ?_
          refine seq_n ?_
          refine wc_seq ?_
          refine wc_region ?_
          refine reg_quiet rfl (step_C tab_ok (fun K hk => hk)) ?_
          refine reg_quiet rfl (call_r (of_is _) rfl rfl (arg_e arg_nil) (.inl rfl) (fun _ => rfl)) ?_
          refine reg_quiet rfl (step_C tab_ok (fun K hk => hk)) ?_
          refine reg_quiet rfl (call_r (of_is _) rfl rfl (arg_e arg_nil) (.inl rfl) (fun _ => rfl)) ?_
          refine reg_quiet rfl (call_r hMrg rfl rfl (arg_e (arg_e arg_nil)) (.inl rfl) (fun _ => rfl)) ?_
          refine reg_quiet rfl (step_C tab_ok (fun K hk => hk)) ?_
          refine reg_quiet rfl (step_C tab_ok (fun K hk => hk)) ?_
          refine reg_quiet rfl (step_C tab_ok (fun K hk => hk)) ?_
          refine reg_new (step_C tab_ok (fun K hk => hk)) rfl ?_
          refine reg_store (store_row tab_ok rfl rfl rfl ⟨_, ⟨rfl, rfl, rfl⟩, rfl⟩ rfl) ?_
          refine reg_quiet rfl (step_C tab_ok (fun K hk => hk)) ?_
          refine reg_nil ?_
          refine seq_n ?_
          refine wc_seq ?_
          refine wc_region ?_
          refine reg_quiet rfl (step_C tab_ok (fun K hk => hk)) ?_
          refine reg_quiet rfl (call_r (of_is _) rfl rfl (arg_e arg_nil) (.inl rfl) (fun _ => rfl)) ?_
          refine reg_quiet rfl (call_r hTxt rfl rfl (arg_e arg_nil) (.inl rfl) (fun _ => rfl)) ?_
          refine reg_quiet rfl (step_C tab_ok (fun K hk => hk)) ?_
          refine reg_quiet rfl (step_C tab_ok (fun K hk => hk)) ?_
          refine reg_quiet rfl (step_C tab_ok (fun K hk => hk)) ?_
          refine reg_quiet rfl (step_C tab_ok (fun K hk => hk)) ?_
          refine reg_quiet rfl (step_C tab_ok (fun K hk => hk)) ?_
          refine reg_nil ?_
          refine seq_n ?_
          refine wc_seq ?_
          refine wc_region ?_
          refine reg_quiet rfl (step_C tab_ok (fun K hk => hk)) ?_
          refine reg_quiet rfl (call_r (of_is _) rfl rfl (arg_e arg_nil) (.inl rfl) (fun _ => rfl)) ?_
          refine reg_quiet rfl (call_r hRep rfl rfl (arg_e arg_nil) (.inl rfl) (fun _ => rfl)) ?_
          refine reg_quiet rfl (step_C tab_ok (fun K hk => hk)) ?_
          refine reg_quiet rfl (step_C tab_ok (fun K hk => hk)) ?_
          refine reg_quiet rfl (step_C tab_ok (fun K hk => hk)) ?_
          refine reg_quiet rfl (step_C tab_ok (fun K hk => hk)) ?_
          refine reg_quiet rfl (step_C tab_ok (fun K hk => hk)) ?_
          refine reg_quiet rfl (step_C tab_ok (fun K hk => hk)) ?_
          refine reg_quiet rfl (step_C tab_ok (fun K hk => hk)) ?_
          refine reg_nil ?_
          refine seq_n ?_
          refine wc_seq ?_
          refine wc_region ?_
          refine reg_quiet rfl (step_C tab_ok (fun K hk => hk)) ?_
          refine reg_quiet rfl (step_C tab_ok (fun K hk => hk)) ?_
          refine reg_quiet rfl (step_C tab_ok (fun K hk => hk)) ?_
          refine reg_quiet rfl (step_C tab_ok (fun K hk => hk)) ?_
          refine reg_nil ?_
          refine seq_n ?_
          refine wc_seq ?_
          refine wc_seq ?_
          refine wc_region ?_
          refine reg_quiet rfl (step_C tab_ok (fun K hk => hk)) ?_
          refine reg_quiet rfl (step_C tab_ok (fun K hk => hk)) ?_
          refine reg_nil ?_
          refine seq_n ?_
          refine wc_true rfl rfl ?_
          refine wc_seq ?_
          refine wc_region ?_
          refine reg_quiet rfl (step_C tab_ok (fun K hk => hk)) ?_
          refine reg_quiet rfl (step_C tab_ok (fun K hk => hk)) ?_
          refine reg_nil ?_
          refine seq_n ?_
          refine wc_region ?_
          refine reg_quiet rfl (load_box tab_ok rfl rfl rfl rfl) ?_
          refine reg_new (build_slice tab_ok rfl rfl rfl rfl rfl rfl rfl rfl) rfl ?_
          refine reg_freeze (env' := [(67, _), (19, _), (17, _), (14, _), (13, _), (12, _), (11, _), (10, _), (9, _), (8, _), (7, _), (6, _), (5, _), (0, _), (1, _)]) (h' := [(64, some _), (248, some _), (336, some _)]) 576 _ rfl ⟨⟨_, rfl, Frz.lits1 (enc := encUse) u rfl rfl⟩, ⟨_, rfl, .refl _⟩, ⟨_, rfl, .refl _⟩, ⟨_, rfl, .refl _⟩, ⟨_, rfl, .refl _⟩, ⟨_, rfl, .refl _⟩, ⟨_, rfl, .refl _⟩, ⟨_, rfl, .refl _⟩, ⟨_, rfl, .refl _⟩, ⟨_, rfl, .refl _⟩, ⟨_, rfl, .refl _⟩, ⟨_, rfl, .refl _⟩, ⟨_, rfl, .refl _⟩, ⟨_, rfl, .refl _⟩, ⟨_, rfl, .refl _⟩, trivial⟩ ⟨⟨rfl, _, rfl, .refl _⟩, ⟨rfl, _, rfl, .refl _⟩, ⟨rfl, _, rfl, .refl _⟩, trivial⟩ ?_
          refine reg_quiet rfl (call_r hCu rfl rfl (arg_e arg_nil) (.inl rfl) (fun _ => rfl)) ?_
          refine reg_quiet rfl (step_C tab_ok (fun K hk => hk)) ?_
          refine reg_nil ?_
          refine seq_n ?_
          refine wc_seq ?_
          refine wc_seq ?_
          refine wc_region ?_
          refine reg_quiet rfl (step_C tab_ok (fun K hk => hk)) ?_
          refine reg_quiet rfl (call_r (of_is _) rfl rfl (arg_e arg_nil) (.inl rfl) (fun _ => rfl)) ?_
          refine reg_quiet rfl (call_r hChk rfl rfl (arg_e arg_nil) (.inl rfl) (fun _ => rfl)) ?_
          refine reg_quiet rfl (step_C tab_ok (fun K hk => hk)) ?_
          refine reg_quiet rfl (step_C tab_ok (fun K hk => hk)) ?_
          refine reg_quiet rfl (step_C tab_ok (fun K hk => hk)) ?_
          refine reg_on rfl rfl rfl ?_
          refine reg_quiet rfl (step_C tab_ok (fun K hk => hk)) ?_
          refine reg_on rfl rfl rfl ?_
          refine reg_quiet rfl (step_C tab_ok (fun K hk => hk)) ?_
          refine reg_on rfl rfl rfl ?_
          refine reg_quiet rfl (step_C tab_ok (fun K hk => hk)) ?_
          refine reg_quiet rfl (pick_F tab_ok rfl rfl rfl) ?_
          refine reg_quiet rfl (step_C tab_ok (fun K hk => hk)) ?_
          refine reg_on rfl rfl rfl ?_
          refine reg_quiet rfl (step_C tab_ok (fun K hk => hk)) ?_
          refine reg_on rfl rfl rfl ?_
          refine reg_quiet rfl (step_C tab_ok (fun K hk => hk)) ?_
          refine reg_on rfl rfl rfl ?_
          refine reg_quiet rfl (step_C tab_ok (fun K hk => hk)) ?_
          refine reg_quiet rfl (pick_F tab_ok rfl rfl rfl) ?_
          refine reg_quiet rfl (step_C tab_ok (fun K hk => hk)) ?_
          refine reg_on rfl rfl rfl ?_
          refine reg_quiet rfl (step_C tab_ok (fun K hk => hk)) ?_
          refine reg_on rfl rfl rfl ?_
          refine reg_quiet rfl (step_C tab_ok (fun K hk => hk)) ?_
          refine reg_on rfl rfl rfl ?_
          refine reg_quiet rfl (step_C tab_ok (fun K hk => hk)) ?_
          refine reg_quiet rfl (pick_F tab_ok rfl rfl rfl) ?_
          refine reg_quiet rfl (step_C tab_ok (fun K hk => hk)) ?_
          refine reg_on rfl rfl rfl ?_
          refine reg_quiet rfl (step_C tab_ok (fun K hk => hk)) ?_
          refine reg_on rfl rfl rfl ?_
          refine reg_quiet rfl (step_C tab_ok (fun K hk => hk)) ?_
          refine reg_on rfl rfl rfl ?_
          refine reg_quiet rfl (step_C tab_ok (fun K hk => hk)) ?_
          refine reg_skip rfl rfl rfl rfl rfl ?_
          refine reg_skip rfl rfl rfl rfl rfl ?_
          refine reg_skipU rfl rfl rfl rfl ?_
          refine reg_skipU rfl rfl rfl rfl ?_
          refine reg_skip rfl rfl rfl rfl rfl ?_
          refine reg_on rfl rfl rfl ?_
          refine reg_quiet rfl (pick_F tab_ok rfl rfl rfl) ?_
          refine reg_quiet rfl (pick_F tab_ok rfl rfl rfl) ?_
          refine reg_nil ?_
          refine seq_n ?_
          refine wc_false rfl rfl ?_
          refine wc_skip ?_
          refine seq_n ?_
          refine wc_seq ?_
          refine wc_seq ?_
          refine wc_draw (by kernel_rfl) ?_
          refine dreg_q [18] [] rfl (step_C tab_ok (fun K hk => hk)) ?_
          refine dreg_q [100] [] rfl (step_C tab_ok (fun K hk => hk)) ?_
          refine dreg_q [101] [] rfl (step_C tab_ok (fun K hk => hk)) ?_
          refine dreg_offq [102, 9] rfl rfl rfl rfl ?_
          refine dreg_offq [102] rfl rfl rfl rfl ?_
          refine dreg_offq [102, 0] rfl rfl rfl rfl ?_
          refine dreg_offq [102, 104, 105] rfl rfl rfl rfl ?_
          refine dreg_offq [102, 5] rfl rfl rfl rfl ?_
          refine dreg_offq [102, 107] rfl rfl rfl rfl ?_
          refine dreg_offq [102, 106, 108] rfl rfl rfl rfl ?_
          refine dreg_offq [102, 103, 109] rfl rfl rfl rfl ?_
          refine dreg_offq [102, 110] rfl rfl rfl rfl ?_
          refine dreg_q [102, 111] [] rfl (pick_F tab_ok rfl rfl rfl) ?_
          refine dreg_q [112] [] rfl (step_C tab_ok (fun K hk => hk)) ?_
          refine dreg_onq [113, 18] [] rfl rfl rfl rfl (step_C tab_ok (fun K hk => hk)) ?_
          refine dreg_onq [113, 114] [] rfl rfl rfl rfl (step_C tab_ok (fun K hk => hk)) ?_
          refine dreg_onq [113, 115] [] rfl rfl rfl rfl (step_C tab_ok (fun K hk => hk)) ?_
          refine dreg_onq [116, 9] [248] rfl rfl rfl rfl (step_C tab_ok (fun K hk => hk)) ?_
          refine dreg_onq [116, 117] [248] rfl rfl rfl rfl (load_box tab_ok rfl rfl ⟨_, rfl, rfl⟩ rfl) ?_
          refine dreg_onq [116, 118] [] rfl rfl rfl rfl (len_nil tab_ok rfl rfl) ?_
          refine dreg_onq [116, 119] [] rfl rfl rfl rfl (step_C tab_ok (fun K hk => hk)) ?_
          refine dreg_onq [113, 116, 120] [] rfl rfl rfl rfl (pick_T tab_ok rfl rfl rfl) ?_
          refine dreg_q [113, 121] [] rfl (pick_F tab_ok rfl rfl rfl) ?_
          refine dreg_end (by kernel_rfl) ?_
          refine seq_n ?_
          refine wc_false rfl rfl ?_
          refine wc_skip ?_
          refine seq_n ?_
          refine wc_seq ?_
          refine wc_draw (by kernel_rfl) ?_
          refine dreg_q [19] [] rfl (step_C tab_ok (fun K hk => hk)) ?_
          refine dreg_q [123] [] rfl (step_C tab_ok (fun K hk => hk)) ?_
          refine dreg_q [124] [] rfl (step_C tab_ok (fun K hk => hk)) ?_
          refine dreg_offq [125, 11] rfl rfl rfl rfl ?_
          refine dreg_offq [125, 126] rfl rfl rfl rfl ?_
          refine dreg_offq [125, 127] rfl rfl rfl rfl ?_
          refine dreg_offq [125, 128] rfl rfl rfl rfl ?_
          refine dreg_q [125, 129] [] rfl (pick_F tab_ok rfl rfl rfl) ?_
          refine dreg_q [130] [] rfl (step_C tab_ok (fun K hk => hk)) ?_
          refine dreg_onq [131, 19] [] rfl rfl rfl rfl (step_C tab_ok (fun K hk => hk)) ?_
          refine dreg_onq [131, 132] [] rfl rfl rfl rfl (step_C tab_ok (fun K hk => hk)) ?_
          refine dreg_onq [131, 133] [] rfl rfl rfl rfl (step_C tab_ok (fun K hk => hk)) ?_
          refine dreg_onq [134, 11] [336] rfl rfl rfl rfl (load_box tab_ok rfl rfl rfl rfl) ?_
          refine dreg_onq [134] [] rfl rfl rfl rfl (build_empty tab_ok rfl rfl) ?_
          refine dreg_onq [134, 0] [] rfl rfl rfl rfl (step_C tab_ok (fun K hk => hk)) ?_
          refine dreg_onw [134, 136, 137] [] rfl rfl rfl rfl (append_empty_arr (s := 20) (enc := encUse) (ys := l) tab_ok rfl rfl rfl rfl rfl (.inl rfl) rfl hpl hll rfl) ?_
          refine dreg_onq [134, 1] [] rfl rfl rfl rfl (step_C tab_ok (fun K hk => hk)) ?_
          refine dreg_onq [134, 138, 139] [1152] rfl rfl rfl rfl (append_own_e tab_ok rfl rfl rfl rfl) ?_
          refine dreg_onq [134, 135, 140] [1152] rfl rfl rfl rfl (call_r hSm rfl rfl (arg_e (arg_ownL rfl (by simp) arg_nil)) (.inr (lbool_plain _)) (fun _ => rfl)) ?_
          refine dreg_onq [131, 134, 141] [] rfl rfl rfl rfl (pick_T tab_ok rfl rfl rfl) ?_
          refine dreg_q [131, 142] [] rfl (pick_F tab_ok rfl rfl rfl) ?_
          refine dreg_q [143] [] rfl (step_C tab_ok (fun K hk => hk)) ?_
          refine dreg_onq [144] [] rfl rfl rfl rfl (call_r lives_is rfl rfl arg_nil (.inl rfl) (fun _ => rfl)) ?_
          refine dreg_q [144, 145] [] rfl (pick_T tab_ok rfl rfl rfl) ?_
          refine dreg_q [146] [] rfl (step_C tab_ok (fun K hk => hk)) ?_
          refine dreg_end (by kernel_rfl) ?_
          refine seq_n ?_
          refine wc_ret ?_
          exact ⟨trivial, [], .of rfl rfl rfl rfl rfl ⟨⟨_, rfl, AVLe.of_eq rfl⟩, rfl, trivial⟩ trivial⟩
        · refine fnIs_of tab_ok Try.func12 rfl rfl rfl ?_
          refine wc_seq ?_
          refine wc_region ?_
          refine reg_new (step_C tab_ok (fun K hk => hk)) rfl ?_
          refine reg_quiet rfl (step_C tab_ok (fun K hk => hk)) ?_
          refine reg_nil ?_
          refine seq_n ?_
          refine wc_seq ?_
          refine wc_seq ?_
          refine wc_region ?_
          refine reg_quiet rfl (step_C tab_ok (fun K hk => hk)) ?_
          refine reg_quiet rfl (len_arr tab_ok rfl rfl) ?_
          refine reg_quiet rfl (step_C tab_ok (fun K hk => hk)) ?_
          refine reg_quiet rfl (step_C tab_ok (fun K hk => hk)) ?_
          refine reg_on rfl rfl (by assumption) ?_
          refine reg_quiet rfl (step_C tab_ok (fun K hk => hk)) ?_
          refine reg_on rfl rfl (by assumption) ?_
          refine reg_quiet rfl (len_arr tab_ok rfl rfl) ?_
          refine reg_on rfl rfl (by assumption) ?_
          refine reg_quiet rfl (step_C tab_ok (fun K hk => hk)) ?_
          refine reg_quiet rfl (pick_F tab_ok rfl (by assumption) rfl) ?_
          refine reg_nil ?_
          refine seq_n ?_
          refine wc_false rfl (by assumption) ?_
          refine wc_skip ?_
          refine seq_n ?_
          refine wc_seq ?_
          refine wc_region ?_
          refine reg_quiet rfl (step_C tab_ok (fun K hk => hk)) ?_
          refine reg_quiet rfl (call_r hC0 rfl rfl (arg_e arg_nil) (.inl rfl) (fun _ => rfl)) ?_
          refine reg_quiet rfl (step_C tab_ok (fun K hk => hk)) ?_
          refine reg_quiet rfl (call_r hC1 rfl rfl (arg_e arg_nil) (.inl rfl) (fun _ => rfl)) ?_
          refine reg_quiet rfl (step_C tab_ok (fun K hk => hk)) ?_
          refine reg_quiet rfl (step_C tab_ok (fun K hk => hk)) ?_
          refine reg_nil ?_
          refine seq_n ?_
          refine wc_seq ?_
          refine wc_draw (by kernel_rfl) ?_
          refine dreg_q [0] [] rfl (step_C tab_ok (fun K hk => hk)) ?_
          refine dreg_q [34] [] rfl (call_r (of_is _) rfl rfl (arg_e arg_nil) (.inl rfl) (fun _ => rfl)) ?_
          refine dreg_q [5] [64] rfl (load_box tab_ok rfl rfl rfl rfl) ?_
          refine dreg_q [35, 36] [] rfl (call_r hAdd rfl rfl (arg_e (arg_e arg_nil)) (.inl rfl) (fun _ => rfl)) ?_
          refine dreg_q [37] [] rfl (step_C tab_ok (fun K hk => hk)) ?_
          refine dreg_q [33] [] rfl (step_C tab_ok (fun K hk => hk)) ?_
          refine dreg_q [33] [] rfl (step_C tab_ok (fun K hk => hk)) ?_
          refine dreg_w [] [] rfl (step_C tab_ok (fun K hk => hk)) ?_
          refine dreg_s [9, 38] [248] (store_row tab_ok rfl rfl rfl ⟨_, ⟨rfl, rfl, rfl⟩, rfl⟩ rfl) ?_
          refine dreg_q [39] [] rfl (step_C tab_ok (fun K hk => hk)) ?_
          refine dreg_end (by kernel_rfl) ?_
          refine seq_n ?_
          refine wc_seq ?_
          refine wc_region ?_
          refine reg_quiet rfl (step_C tab_ok (fun K hk => hk)) ?_
          refine reg_quiet rfl (call_r (of_is _) rfl rfl (arg_e arg_nil) (.inl rfl) (fun _ => rfl)) ?_
          refine reg_quiet rfl (step_C tab_ok (fun K hk => hk)) ?_
          refine reg_quiet rfl (call_r (of_is _) rfl rfl (arg_e arg_nil) (.inl rfl) (fun _ => rfl)) ?_
          refine reg_quiet rfl (call_r hMrg rfl rfl (arg_e (arg_e arg_nil)) (.inl rfl) (fun _ => rfl)) ?_
          refine reg_quiet rfl (step_C tab_ok (fun K hk => hk)) ?_
          refine reg_quiet rfl (step_C tab_ok (fun K hk => hk)) ?_
          refine reg_quiet rfl (step_C tab_ok (fun K hk => hk)) ?_
          refine reg_new (step_C tab_ok (fun K hk => hk)) rfl ?_
          refine reg_store (store_row tab_ok rfl rfl rfl ⟨_, ⟨rfl, rfl, rfl⟩, rfl⟩ rfl) ?_
          refine reg_quiet rfl (step_C tab_ok (fun K hk => hk)) ?_
          refine reg_nil ?_
          refine seq_n ?_
          refine wc_seq ?_
          refine wc_region ?_
          refine reg_quiet rfl (step_C tab_ok (fun K hk => hk)) ?_
          refine reg_quiet rfl (call_r (of_is _) rfl rfl (arg_e arg_nil) (.inl rfl) (fun _ => rfl)) ?_
          refine reg_quiet rfl (call_r hTxt rfl rfl (arg_e arg_nil) (.inl rfl) (fun _ => rfl)) ?_
          refine reg_quiet rfl (step_C tab_ok (fun K hk => hk)) ?_
          refine reg_quiet rfl (step_C tab_ok (fun K hk => hk)) ?_
          refine reg_quiet rfl (step_C tab_ok (fun K hk => hk)) ?_
          refine reg_quiet rfl (step_C tab_ok (fun K hk => hk)) ?_
          refine reg_quiet rfl (step_C tab_ok (fun K hk => hk)) ?_
          refine reg_nil ?_
          refine seq_n ?_
          refine wc_seq ?_
          refine wc_region ?_
          refine reg_quiet rfl (step_C tab_ok (fun K hk => hk)) ?_
          refine reg_quiet rfl (call_r (of_is _) rfl rfl (arg_e arg_nil) (.inl rfl) (fun _ => rfl)) ?_
          refine reg_quiet rfl (call_r hRep rfl rfl (arg_e arg_nil) (.inl rfl) (fun _ => rfl)) ?_
          refine reg_quiet rfl (step_C tab_ok (fun K hk => hk)) ?_
          refine reg_quiet rfl (step_C tab_ok (fun K hk => hk)) ?_
          refine reg_quiet rfl (step_C tab_ok (fun K hk => hk)) ?_
          refine reg_quiet rfl (step_C tab_ok (fun K hk => hk)) ?_
          refine reg_quiet rfl (step_C tab_ok (fun K hk => hk)) ?_
          refine reg_quiet rfl (step_C tab_ok (fun K hk => hk)) ?_
          refine reg_quiet rfl (step_C tab_ok (fun K hk => hk)) ?_
          refine reg_nil ?_
          refine seq_n ?_
          refine wc_seq ?_
          refine wc_region ?_
          refine reg_quiet rfl (step_C tab_ok (fun K hk => hk)) ?_
          refine reg_quiet rfl (step_C tab_ok (fun K hk => hk)) ?_
          refine reg_quiet rfl (step_C tab_ok (fun K hk => hk)) ?_
          refine reg_quiet rfl (step_C tab_ok (fun K hk => hk)) ?_
          refine reg_nil ?_
          refine seq_n ?_
          refine wc_seq ?_
          refine wc_seq ?_
          refine wc_region ?_
          refine reg_quiet rfl (step_C tab_ok (fun K hk => hk)) ?_
          refine reg_quiet rfl (step_C tab_ok (fun K hk => hk)) ?_
          refine reg_nil ?_
          refine seq_n ?_
          refine wc_true rfl rfl ?_
          refine wc_seq ?_
          refine wc_region ?_
          refine reg_quiet rfl (step_C tab_ok (fun K hk => hk)) ?_
          refine reg_quiet rfl (step_C tab_ok (fun K hk => hk)) ?_
          refine reg_nil ?_
          refine seq_n ?_
          refine wc_region ?_
          refine reg_quiet rfl (load_box tab_ok rfl rfl rfl rfl) ?_
          refine reg_new (build_slice tab_ok rfl rfl rfl rfl rfl rfl rfl rfl) rfl ?_
          refine reg_freeze (env' := [(67, _), (19, _), (17, _), (14, _), (13, _), (12, _), (11, _), (10, _), (9, _), (8, _), (7, _), (6, _), (5, _), (0, _), (1, _)]) (h' := [(64, some _), (248, some _), (336, some _)]) 576 _ rfl ⟨⟨_, rfl, Frz.lits1 (enc := encUse) u rfl rfl⟩, ⟨_, rfl, .refl _⟩, ⟨_, rfl, .refl _⟩, ⟨_, rfl, .refl _⟩, ⟨_, rfl, .refl _⟩, ⟨_, rfl, .refl _⟩, ⟨_, rfl, .refl _⟩, ⟨_, rfl, .refl _⟩, ⟨_, rfl, .refl _⟩, ⟨_, rfl, .refl _⟩, ⟨_, rfl, .refl _⟩, ⟨_, rfl, .refl _⟩, ⟨_, rfl, .refl _⟩, ⟨_, rfl, .refl _⟩, ⟨_, rfl, .refl _⟩, trivial⟩ ⟨⟨rfl, _, rfl, .refl _⟩, ⟨rfl, _, rfl, .refl _⟩, ⟨rfl, _, rfl, .refl _⟩, trivial⟩ ?_
          refine reg_quiet rfl (call_r hCu rfl rfl (arg_e arg_nil) (.inl rfl) (fun _ => rfl)) ?_
          refine reg_quiet rfl (step_C tab_ok (fun K hk => hk)) ?_
          refine reg_nil ?_
          refine seq_n ?_
          refine wc_seq ?_
          refine wc_seq ?_
          refine wc_region ?_
          refine reg_quiet rfl (step_C tab_ok (fun K hk => hk)) ?_
          refine reg_quiet rfl (call_r (of_is _) rfl rfl (arg_e arg_nil) (.inl rfl) (fun _ => rfl)) ?_
          refine reg_quiet rfl (call_r hChk rfl rfl (arg_e arg_nil) (.inl rfl) (fun _ => rfl)) ?_
          refine reg_quiet rfl (step_C tab_ok (fun K hk => hk)) ?_
          refine reg_quiet rfl (step_C tab_ok (fun K hk => hk)) ?_
          refine reg_quiet rfl (step_C tab_ok (fun K hk => hk)) ?_
          refine reg_on rfl rfl rfl ?_
          refine reg_quiet rfl (step_C tab_ok (fun K hk => hk)) ?_
          refine reg_on rfl rfl rfl ?_
          refine reg_quiet rfl (step_C tab_ok (fun K hk => hk)) ?_
          refine reg_on rfl rfl rfl ?_
          refine reg_quiet rfl (step_C tab_ok (fun K hk => hk)) ?_
          refine reg_quiet rfl (pick_F tab_ok rfl rfl rfl) ?_
          refine reg_quiet rfl (step_C tab_ok (fun K hk => hk)) ?_
          refine reg_on rfl rfl rfl ?_
          refine reg_quiet rfl (step_C tab_ok (fun K hk => hk)) ?_
          refine reg_on rfl rfl rfl ?_
          refine reg_quiet rfl (step_C tab_ok (fun K hk => hk)) ?_
          refine reg_on rfl rfl rfl ?_
          refine reg_quiet rfl (step_C tab_ok (fun K hk => hk)) ?_
          refine reg_quiet rfl (pick_F tab_ok rfl rfl rfl) ?_
          refine reg_quiet rfl (step_C tab_ok (fun K hk => hk)) ?_
          refine reg_on rfl rfl rfl ?_
          refine reg_quiet rfl (step_C tab_ok (fun K hk => hk)) ?_
          refine reg_on rfl rfl rfl ?_
          refine reg_quiet rfl (step_C tab_ok (fun K hk => hk)) ?_
          refine reg_on rfl rfl rfl ?_
          refine reg_quiet rfl (step_C tab_ok (fun K hk => hk)) ?_
          refine reg_quiet rfl (pick_F tab_ok rfl rfl rfl) ?_
          refine reg_quiet rfl (step_C tab_ok (fun K hk => hk)) ?_
          refine reg_on rfl rfl rfl ?_
          refine reg_quiet rfl (step_C tab_ok (fun K hk => hk)) ?_
          refine reg_on rfl rfl rfl ?_
          refine reg_quiet rfl (step_C tab_ok (fun K hk => hk)) ?_
          refine reg_on rfl rfl rfl ?_
          refine reg_quiet rfl (step_C tab_ok (fun K hk => hk)) ?_
          refine reg_skip rfl rfl rfl rfl rfl ?_
          refine reg_skip rfl rfl rfl rfl rfl ?_
          refine reg_skipU rfl rfl rfl rfl ?_
          refine reg_skipU rfl rfl rfl rfl ?_
          refine reg_skip rfl rfl rfl rfl rfl ?_
          refine reg_on rfl rfl rfl ?_
          refine reg_quiet rfl (pick_F tab_ok rfl rfl rfl) ?_
          refine reg_quiet rfl (pick_F tab_ok rfl rfl rfl) ?_
          refine reg_nil ?_
          refine seq_n ?_
          refine wc_false rfl rfl ?_
          refine wc_skip ?_
          refine seq_n ?_
          refine wc_seq ?_
          refine wc_seq ?_
          refine wc_draw (by kernel_rfl) ?_
          refine dreg_q [18] [] rfl (step_C tab_ok (fun K hk => hk)) ?_
          refine dreg_q [100] [] rfl (step_C tab_ok (fun K hk => hk)) ?_
          refine dreg_q [101] [] rfl (step_C tab_ok (fun K hk => hk)) ?_
          refine dreg_offq [102, 9] rfl rfl rfl rfl ?_
          refine dreg_offq [102] rfl rfl rfl rfl ?_
          refine dreg_offq [102, 0] rfl rfl rfl rfl ?_
          refine dreg_offq [102, 104, 105] rfl rfl rfl rfl ?_
          refine dreg_offq [102, 5] rfl rfl rfl rfl ?_
          refine dreg_offq [102, 107] rfl rfl rfl rfl ?_
          refine dreg_offq [102, 106, 108] rfl rfl rfl rfl ?_
          refine dreg_offq [102, 103, 109] rfl rfl rfl rfl ?_
          refine dreg_offq [102, 110] rfl rfl rfl rfl ?_
          refine dreg_q [102, 111] [] rfl (pick_F tab_ok rfl rfl rfl) ?_
          refine dreg_q [112] [] rfl (step_C tab_ok (fun K hk => hk)) ?_
          refine dreg_onq [113, 18] [] rfl rfl rfl rfl (step_C tab_ok (fun K hk => hk)) ?_
          refine dreg_onq [113, 114] [] rfl rfl rfl rfl (step_C tab_ok (fun K hk => hk)) ?_
          refine dreg_onq [113, 115] [] rfl rfl rfl rfl (step_C tab_ok (fun K hk => hk)) ?_
          refine dreg_onq [116, 9] [248] rfl rfl rfl rfl (step_C tab_ok (fun K hk => hk)) ?_
          refine dreg_onq [116, 117] [248] rfl rfl rfl rfl (load_box tab_ok rfl rfl ⟨_, rfl, rfl⟩ rfl) ?_
          refine dreg_onq [116, 118] [] rfl rfl rfl rfl (len_nil tab_ok rfl rfl) ?_
          refine dreg_onq [116, 119] [] rfl rfl rfl rfl (step_C tab_ok (fun K hk => hk)) ?_
          refine dreg_onq [113, 116, 120] [] rfl rfl rfl rfl (pick_T tab_ok rfl rfl rfl) ?_
          refine dreg_q [113, 121] [] rfl (pick_F tab_ok rfl rfl rfl) ?_
          refine dreg_end (by kernel_rfl) ?_
          refine seq_n ?_
          refine wc_false rfl rfl ?_
          refine wc_skip ?_
          refine seq_n ?_
          refine wc_seq ?_
          refine wc_draw (by kernel_rfl) ?_
          refine dreg_q [19] [] rfl (step_C tab_ok (fun K hk => hk)) ?_
          refine dreg_q [123] [] rfl (step_C tab_ok (fun K hk => hk)) ?_
          refine dreg_q [124] [] rfl (step_C tab_ok (fun K hk => hk)) ?_
          refine dreg_offq [125, 11] rfl rfl rfl rfl ?_
          refine dreg_offq [125, 126] rfl rfl rfl rfl ?_
          refine dreg_offq [125, 127] rfl rfl rfl rfl ?_
          refine dreg_offq [125, 128] rfl rfl rfl rfl ?_
          refine dreg_q [125, 129] [] rfl (pick_F tab_ok rfl rfl rfl) ?_
          refine dreg_q [130] [] rfl (step_C tab_ok (fun K hk => hk)) ?_
          refine dreg_onq [131, 19] [] rfl rfl rfl rfl (step_C tab_ok (fun K hk => hk)) ?_
          refine dreg_onq [131, 132] [] rfl rfl rfl rfl (step_C tab_ok (fun K hk => hk)) ?_
          refine dreg_onq [131, 133] [] rfl rfl rfl rfl (step_C tab_ok (fun K hk => hk)) ?_
          refine dreg_onq [134, 11] [336] rfl rfl rfl rfl (load_box tab_ok rfl rfl rfl rfl) ?_
          refine dreg_onq [134] [] rfl rfl rfl rfl (build_empty tab_ok rfl rfl) ?_
          refine dreg_onq [134, 0] [] rfl rfl rfl rfl (step_C tab_ok (fun K hk => hk)) ?_
          refine dreg_onw [134, 136, 137] [] rfl rfl rfl rfl (append_empty_arr (s := 20) (enc := encUse) (ys := l) tab_ok rfl rfl rfl rfl rfl (.inl rfl) rfl hpl hll rfl) ?_
          refine dreg_onq [134, 1] [] rfl rfl rfl rfl (step_C tab_ok (fun K hk => hk)) ?_
          refine dreg_onw2 [134, 138, 139] [1152] rfl rfl rfl rfl (append_arr (s := 20) (enc := encUse) (xs := l) (ys := m) tab_ok rfl rfl rfl rfl rfl rfl rfl hpm hlm rfl) ?_
          refine dreg_onq [134, 135, 140] [1168] rfl rfl rfl rfl (call_r hSm rfl rfl (arg_e (arg_ownL rfl (by simp) arg_nil)) (.inr (lbool_plain _)) (fun _ => rfl)) ?_
          refine dreg_onq [131, 134, 141] [] rfl rfl rfl rfl (pick_T tab_ok rfl rfl rfl) ?_
          refine dreg_q [131, 142] [] rfl (pick_F tab_ok rfl rfl rfl) ?_
          refine dreg_q [143] [] rfl (step_C tab_ok (fun K hk => hk)) ?_
          refine dreg_onq [144] [] rfl rfl rfl rfl (call_r lives_is rfl rfl arg_nil (.inl rfl) (fun _ => rfl)) ?_
          refine dreg_q [144, 145] [] rfl (pick_T tab_ok rfl rfl rfl) ?_
          refine dreg_q [146] [] rfl (step_C tab_ok (fun K hk => hk)) ?_
          refine dreg_end (by kernel_rfl) ?_
          refine seq_n ?_
          refine wc_ret ?_
          exact ⟨trivial, [], .of rfl rfl rfl rfl rfl ⟨⟨_, rfl, AVLe.of_eq rfl⟩, rfl, trivial⟩ trivial⟩
    · rw [hm] at hC1
      have hMrg := merge_err l m 1 (by decide) (.inr ⟨hl, hm⟩)
      refine fnIs_of tab_ok Try.func12 rfl rfl rfl ?_
      refine wc_seq ?_
      refine wc_region ?_
      refine reg_new (step_C tab_ok (fun K hk => hk)) rfl ?_
      refine reg_quiet rfl (step_C tab_ok (fun K hk => hk)) ?_
      refine reg_nil ?_
      refine seq_n ?_
      refine wc_seq ?_
      refine wc_seq ?_
      refine wc_region ?_
      refine reg_quiet rfl (step_C tab_ok (fun K hk => hk)) ?_
      refine reg_quiet rfl (len_arr tab_ok rfl rfl) ?_
      refine reg_quiet rfl (step_C tab_ok (fun K hk => hk)) ?_
      refine reg_quiet rfl (step_C tab_ok (fun K hk => hk)) ?_
      refine reg_on rfl rfl (by assumption) ?_
      refine reg_quiet rfl (step_C tab_ok (fun K hk => hk)) ?_
      refine reg_on rfl rfl (by assumption) ?_
      refine reg_quiet rfl (len_arr tab_ok rfl rfl) ?_
      refine reg_on rfl rfl (by assumption) ?_
      refine reg_quiet rfl (step_C tab_ok (fun K hk => hk)) ?_
      refine reg_quiet rfl (pick_F tab_ok rfl (by assumption) rfl) ?_
      refine reg_nil ?_
      refine seq_n ?_
      refine wc_false rfl (by assumption) ?_
      refine wc_skip ?_
      refine seq_n ?_
      refine wc_seq ?_
      refine wc_region ?_
      refine reg_quiet rfl (step_C tab_ok (fun K hk => hk)) ?_
      refine reg_quiet rfl (call_r hC0 rfl rfl (arg_e arg_nil) (.inl rfl) (fun _ => rfl)) ?_
      refine reg_quiet rfl (step_C tab_ok (fun K hk => hk)) ?_
      refine reg_quiet rfl (call_r hC1 rfl rfl (arg_e arg_nil) (.inl rfl) (fun _ => rfl)) ?_
      refine reg_quiet rfl (step_C tab_ok (fun K hk => hk)) ?_
      refine reg_quiet rfl (step_C tab_ok (fun K hk => hk)) ?_
      refine reg_nil ?_
      refine seq_n ?_
      refine wc_seq ?_
      refine wc_draw (by kernel_rfl) ?_
      refine dreg_q [0] [] rfl (step_C tab_ok (fun K hk => hk)) ?_
      refine dreg_q [34] [] rfl (call_r (of_is _) rfl rfl (arg_e arg_nil) (.inl rfl) (fun _ => rfl)) ?_
      refine dreg_q [5] [64] rfl (load_box tab_ok rfl rfl rfl rfl) ?_
      refine dreg_q [35, 36] [] rfl (call_r hAdd rfl rfl (arg_e (arg_e arg_nil)) (.inl rfl) (fun _ => rfl)) ?_
      refine dreg_q [37] [] rfl (step_C tab_ok (fun K hk => hk)) ?_
      refine dreg_q [33] [] rfl (step_C tab_ok (fun K hk => hk)) ?_
      refine dreg_q [33] [] rfl (step_C tab_ok (fun K hk => hk)) ?_
      refine dreg_w [] [] rfl (step_C tab_ok (fun K hk => hk)) ?_
      refine dreg_s [9, 38] [248] (store_row tab_ok rfl rfl rfl ⟨_, ⟨rfl, rfl, rfl⟩, rfl⟩ rfl) ?_
      refine dreg_q [39] [] rfl (step_C tab_ok (fun K hk => hk)) ?_
      refine dreg_end (by kernel_rfl) ?_
      refine seq_n ?_
      refine wc_seq ?_
      refine wc_region ?_
      refine reg_quiet rfl (step_C tab_ok (fun K hk => hk)) ?_
      refine reg_quiet rfl (call_r (of_is _) rfl rfl (arg_e arg_nil) (.inl rfl) (fun _ => rfl)) ?_
      refine reg_quiet rfl (step_C tab_ok (fun K hk => hk)) ?_
      refine reg_quiet rfl (call_r (of_is _) rfl rfl (arg_e arg_nil) (.inl rfl) (fun _ => rfl)) ?_
      refine reg_quiet rfl (call_r hMrg rfl rfl (arg_e (arg_e arg_nil)) (.inl rfl) (fun _ => rfl)) ?_
      refine reg_quiet rfl (step_C tab_ok (fun K hk => hk)) ?_
      refine reg_quiet rfl (step_C tab_ok (fun K hk => hk)) ?_
      refine reg_quiet rfl (step_C tab_ok (fun K hk => hk)) ?_
      refine reg_new (step_C tab_ok (fun K hk => hk)) rfl ?_
      refine reg_store (store_row tab_ok rfl rfl rfl ⟨_, ⟨rfl, rfl, rfl⟩, rfl⟩ rfl) ?_
      refine reg_quiet rfl (step_C tab_ok (fun K hk => hk)) ?_
      refine reg_nil ?_
      refine seq_n ?_
      refine wc_seq ?_
      refine wc_region ?_
      refine reg_quiet rfl (step_C tab_ok (fun K hk => hk)) ?_
      refine reg_quiet rfl (call_r (of_is _) rfl rfl (arg_e arg_nil) (.inl rfl) (fun _ => rfl)) ?_
      refine reg_quiet rfl (call_r hTxt rfl rfl (arg_e arg_nil) (.inl rfl) (fun _ => rfl)) ?_
      refine reg_quiet rfl (step_C tab_ok (fun K hk => hk)) ?_
      refine reg_quiet rfl (step_C tab_ok (fun K hk => hk)) ?_
      refine reg_quiet rfl (step_C tab_ok (fun K hk => hk)) ?_
      refine reg_quiet rfl (step_C tab_ok (fun K hk => hk)) ?_
      refine reg_quiet rfl (step_C tab_ok (fun K hk => hk)) ?_
      refine reg_nil ?_
      refine seq_n ?_
      refine wc_seq ?_
      refine wc_region ?_
      refine reg_quiet rfl (step_C tab_ok (fun K hk => hk)) ?_
      refine reg_quiet rfl (call_r (of_is _) rfl rfl (arg_e arg_nil) (.inl rfl) (fun _ => rfl)) ?_
      refine reg_quiet rfl (call_r hRep rfl rfl (arg_e arg_nil) (.inl rfl) (fun _ => rfl)) ?_
      refine reg_quiet rfl (step_C tab_ok (fun K hk => hk)) ?_
      refine reg_quiet rfl (step_C tab_ok (fun K hk => hk)) ?_
      refine reg_quiet rfl (step_C tab_ok (fun K hk => hk)) ?_
      refine reg_quiet rfl (step_C tab_ok (fun K hk => hk)) ?_
      refine reg_quiet rfl (step_C tab_ok (fun K hk => hk)) ?_
      refine reg_quiet rfl (step_C tab_ok (fun K hk => hk)) ?_
      refine reg_quiet rfl (step_C tab_ok (fun K hk => hk)) ?_
      refine reg_nil ?_
      refine seq_n ?_
      refine wc_seq ?_
      refine wc_region ?_
      refine reg_quiet rfl (step_C tab_ok (fun K hk => hk)) ?_
      refine reg_quiet rfl (step_C tab_ok (fun K hk => hk)) ?_
      refine reg_quiet rfl (step_C tab_ok (fun K hk => hk)) ?_
      refine reg_quiet rfl (step_C tab_ok (fun K hk => hk)) ?_
      refine reg_nil ?_
      refine seq_n ?_
      refine wc_seq ?_
      refine wc_seq ?_
      refine wc_region ?_
      refine reg_quiet rfl (step_C tab_ok (fun K hk => hk)) ?_
      refine reg_quiet rfl (step_C tab_ok (fun K hk => hk)) ?_
      refine reg_nil ?_
      refine seq_n ?_
      refine wc_true rfl rfl ?_
      refine wc_seq ?_
      refine wc_region ?_
      refine reg_quiet rfl (step_C tab_ok (fun K hk => hk)) ?_
      refine reg_quiet rfl (step_C tab_ok (fun K hk => hk)) ?_
      refine reg_nil ?_
      refine seq_n ?_
      refine wc_region ?_
      refine reg_quiet rfl (load_box tab_ok rfl rfl rfl rfl) ?_
      refine reg_new (build_slice tab_ok rfl rfl rfl rfl rfl rfl rfl rfl) rfl ?_
      refine reg_freeze (env' := [(67, _), (19, _), (17, _), (14, _), (13, _), (12, _), (11, _), (10, _), (9, _), (8, _), (7, _), (6, _), (5, _), (0, _), (1, _)]) (h' := [(64, some _), (248, some _), (336, some _)]) 576 _ rfl ⟨⟨_, rfl, Frz.lits1 (enc := encUse) u rfl rfl⟩, ⟨_, rfl, .refl _⟩, ⟨_, rfl, .refl _⟩, ⟨_, rfl, .refl _⟩, ⟨_, rfl, .refl _⟩, ⟨_, rfl, .refl _⟩, ⟨_, rfl, .refl _⟩, ⟨_, rfl, .refl _⟩, ⟨_, rfl, .refl _⟩, ⟨_, rfl, .refl _⟩, ⟨_, rfl, .refl _⟩, ⟨_, rfl, .refl _⟩, ⟨_, rfl, .refl _⟩, ⟨_, rfl, .refl _⟩, ⟨_, rfl, .refl _⟩, trivial⟩ ⟨⟨rfl, _, rfl, .refl _⟩, ⟨rfl, _, rfl, .refl _⟩, ⟨rfl, _, rfl, .refl _⟩, trivial⟩ ?_
      refine reg_quiet rfl (call_r hCu rfl rfl (arg_e arg_nil) (.inl rfl) (fun _ => rfl)) ?_
      refine reg_quiet rfl (step_C tab_ok (fun K hk => hk)) ?_
      refine reg_nil ?_
      refine seq_n ?_
      refine wc_seq ?_
      refine wc_seq ?_
      refine wc_region ?_
      refine reg_quiet rfl (step_C tab_ok (fun K hk => hk)) ?_
      refine reg_quiet rfl (call_r (of_is _) rfl rfl (arg_e arg_nil) (.inl rfl) (fun _ => rfl)) ?_
      refine reg_quiet rfl (call_r hChk rfl rfl (arg_e arg_nil) (.inl rfl) (fun _ => rfl)) ?_
      refine reg_quiet rfl (step_C tab_ok (fun K hk => hk)) ?_
      refine reg_quiet rfl (step_C tab_ok (fun K hk => hk)) ?_
      refine reg_quiet rfl (step_C tab_ok (fun K hk => hk)) ?_
      refine reg_on rfl rfl rfl ?_
      refine reg_quiet rfl (step_C tab_ok (fun K hk => hk)) ?_
      refine reg_on rfl rfl rfl ?_
      refine reg_quiet rfl (step_C tab_ok (fun K hk => hk)) ?_
      refine reg_on rfl rfl rfl ?_
      refine reg_quiet rfl (step_C tab_ok (fun K hk => hk)) ?_
      refine reg_quiet rfl (pick_F tab_ok rfl rfl rfl) ?_
      refine reg_quiet rfl (step_C tab_ok (fun K hk => hk)) ?_
      refine reg_on rfl rfl rfl ?_
      refine reg_quiet rfl (step_C tab_ok (fun K hk => hk)) ?_
      refine reg_on rfl rfl rfl ?_
      refine reg_quiet rfl (step_C tab_ok (fun K hk => hk)) ?_
      refine reg_on rfl rfl rfl ?_
      refine reg_quiet rfl (step_C tab_ok (fun K hk => hk)) ?_
      refine reg_quiet rfl (pick_F tab_ok rfl rfl rfl) ?_
      refine reg_quiet rfl (step_C tab_ok (fun K hk => hk)) ?_
      refine reg_on rfl rfl rfl ?_
      refine reg_quiet rfl (step_C tab_ok (fun K hk => hk)) ?_
      refine reg_on rfl rfl rfl ?_
      refine reg_quiet rfl (step_C tab_ok (fun K hk => hk)) ?_
      refine reg_on rfl rfl rfl ?_
      refine reg_quiet rfl (step_C tab_ok (fun K hk => hk)) ?_
      refine reg_quiet rfl (pick_F tab_ok rfl rfl rfl) ?_
      refine reg_quiet rfl (step_C tab_ok (fun K hk => hk)) ?_
      refine reg_on rfl rfl rfl ?_
      refine reg_quiet rfl (step_C tab_ok (fun K hk => hk)) ?_
      refine reg_on rfl rfl rfl ?_
      refine reg_quiet rfl (step_C tab_ok (fun K hk => hk)) ?_
      refine reg_on rfl rfl rfl ?_
      refine reg_quiet rfl (step_C tab_ok (fun K hk => hk)) ?_
      refine reg_skip rfl rfl rfl rfl rfl ?_
      refine reg_skip rfl rfl rfl rfl rfl ?_
      refine reg_skipU rfl rfl rfl rfl ?_
      refine reg_skipU rfl rfl rfl rfl ?_
      refine reg_skip rfl rfl rfl rfl rfl ?_
      refine reg_on rfl rfl rfl ?_
      refine reg_quiet rfl (pick_F tab_ok rfl rfl rfl) ?_
      refine reg_quiet rfl (pick_F tab_ok rfl rfl rfl) ?_
      refine reg_nil ?_
      refine seq_n ?_
      refine wc_false rfl rfl ?_
      refine wc_skip ?_
      refine seq_n ?_
      refine wc_seq ?_
      refine wc_seq ?_
      refine wc_draw (by kernel_rfl) ?_
      refine dreg_q [18] [] rfl (step_C tab_ok (fun K hk => hk)) ?_
      refine dreg_q [100] [] rfl (step_C tab_ok (fun K hk => hk)) ?_
      refine dreg_q [101] [] rfl (step_C tab_ok (fun K hk => hk)) ?_
      refine dreg_offq [102, 9] rfl rfl rfl rfl ?_
      refine dreg_offq [102] rfl rfl rfl rfl ?_
      refine dreg_offq [102, 0] rfl rfl rfl rfl ?_
      refine dreg_offq [102, 104, 105] rfl rfl rfl rfl ?_
      refine dreg_offq [102, 5] rfl rfl rfl rfl ?_
      refine dreg_offq [102, 107] rfl rfl rfl rfl ?_
      refine dreg_offq [102, 106, 108] rfl rfl rfl rfl ?_
      refine dreg_offq [102, 103, 109] rfl rfl rfl rfl ?_
      refine dreg_offq [102, 110] rfl rfl rfl rfl ?_
      refine dreg_q [102, 111] [] rfl (pick_F tab_ok rfl rfl rfl) ?_
      refine dreg_q [112] [] rfl (step_C tab_ok (fun K hk => hk)) ?_
      refine dreg_onq [113, 18] [] rfl rfl rfl rfl (step_C tab_ok (fun K hk => hk)) ?_
      refine dreg_onq [113, 114] [] rfl rfl rfl rfl (step_C tab_ok (fun K hk => hk)) ?_
      refine dreg_onq [113, 115] [] rfl rfl rfl rfl (step_C tab_ok (fun K hk => hk)) ?_
      refine dreg_onq [116, 9] [248] rfl rfl rfl rfl (step_C tab_ok (fun K hk => hk)) ?_
      refine dreg_onq [116, 117] [248] rfl rfl rfl rfl (load_box tab_ok rfl rfl ⟨_, rfl, rfl⟩ rfl) ?_
      refine dreg_onq [116, 118] [] rfl rfl rfl rfl (len_nil tab_ok rfl rfl) ?_
      refine dreg_onq [116, 119] [] rfl rfl rfl rfl (step_C tab_ok (fun K hk => hk)) ?_
      refine dreg_onq [113, 116, 120] [] rfl rfl rfl rfl (pick_T tab_ok rfl rfl rfl) ?_
      refine dreg_q [113, 121] [] rfl (pick_F tab_ok rfl rfl rfl) ?_
      refine dreg_end (by kernel_rfl) ?_
      refine seq_n ?_
      refine wc_false rfl rfl ?_
      refine wc_skip ?_
      refine seq_n ?_
      refine wc_seq ?_
      refine wc_draw (by kernel_rfl) ?_
      refine dreg_q [19] [] rfl (step_C tab_ok (fun K hk => hk)) ?_
      refine dreg_q [123] [] rfl (step_C tab_ok (fun K hk => hk)) ?_
      refine dreg_q [124] [] rfl (step_C tab_ok (fun K hk => hk)) ?_
      refine dreg_onq [125, 11] [336] rfl rfl rfl rfl (step_C tab_ok (fun K hk => hk)) ?_
      refine dreg_onq [125, 126] [336] rfl rfl rfl rfl (load_box tab_ok rfl rfl ⟨_, rfl, rfl⟩ rfl) ?_
      refine dreg_onq [125, 127] [] rfl rfl rfl rfl (len_arx tab_ok rfl rfl) ?_
      refine dreg_onq [125, 128] [] rfl rfl rfl rfl (step_C tab_ok (fun K hk => hk)) ?_
      refine dreg_q [125, 129] [] rfl (pick_T tab_ok rfl rfl rfl) ?_
      refine dreg_q [130] [] rfl (step_C tab_ok (fun K hk => hk)) ?_
      refine dreg_offq [131, 19] rfl rfl rfl rfl ?_
      refine dreg_offq [131, 132] rfl rfl rfl rfl ?_
      refine dreg_offq [131, 133] rfl rfl rfl rfl ?_
      refine dreg_offUq [134, 11] rfl rfl rfl ?_
      refine dreg_offUq [134] rfl rfl rfl ?_
      refine dreg_offUq [134, 0] rfl rfl rfl ?_
      refine dreg_offUq [134, 136, 137] rfl rfl rfl ?_
      refine dreg_offUq [134, 1] rfl rfl rfl ?_
      refine dreg_offUq [134, 138, 139] rfl rfl rfl ?_
      refine dreg_offUq [134, 135, 140] rfl rfl rfl ?_
      refine dreg_offq [131, 134, 141] rfl rfl rfl rfl ?_
      refine dreg_q [131, 142] [] rfl (pick_T tab_ok rfl rfl rfl) ?_
      refine dreg_q [143] [] rfl (step_C tab_ok (fun K hk => hk)) ?_
      refine dreg_onq [144] [] rfl rfl rfl rfl (call_r lives_is rfl rfl arg_nil (.inl rfl) (fun _ => rfl)) ?_
      refine dreg_q [144, 145] [] rfl (pick_T tab_ok rfl rfl rfl) ?_
      refine dreg_q [146] [] rfl (step_C tab_ok (fun K hk => hk)) ?_
      refine dreg_end (by kernel_rfl) ?_
      refine seq_n ?_
      refine wc_ret ?_
      exact ⟨trivial, [], .of rfl rfl rfl rfl rfl ⟨⟨_, rfl, AVLe.of_eq rfl⟩, rfl, trivial⟩ trivial⟩
theorem lerrors_is (l m : List LUse) (u : LUse) (hok : ∀ x ∈ l, OkU x) : FnIs Try.prog 12 [.d (.arr 20 encUse l), .d (.arr 20 encUse m), .d (encUse u)] [] (.bool true) [] := by
  by_cases h : 60 < l.length ∨ 60 < m.length
  · exact lerrors_long l m u h
  · have h1 : l.length ≤ 60 := Nat.le_of_not_lt fun hh => h (.inl hh)
    have h2 : m.length ≤ 60 := Nat.le_of_not_lt fun hh => h (.inr hh)
    rcases chk_small h1 with hl | hl
    · exact lerrors_ok l m u h1 h2 hl hok
    · exact lerrors_bad l m u h1 h2 hl ⟨_, rfl⟩
end Go.Proofs.Ytjpjchohpjbknaa

/- LedgersErrors: the walked law is the statement. -/
namespace Go.Proofs.Ytjpjchohpjbknaa
open Go.ChangeShapes Go.WideShapes Go.ChangeAt Go.RowKit Go.Eng
theorem own : ownKnob Try.prog.godebug = none := by kernel_rfl
theorem laidOut : laidOutB Try.prog = true := by kernel_rfl
set_option maxRecDepth 100000 in
theorem lifted (os : Os) (started : os.Started) (H : Type) (enc : TypeId × Value → H) :
    ReturnsInHanded {} Try.checked os 12 .any (Rows.ledgersErrorsSpec.pre6 enc Try.prog Try.f12 Rows.ledgersErrorsRow.domain false) (Rows.ledgersErrorsSpec.post enc Try.prog Try.f12 false true false false) := by
  refine returnsInHanded_of_change (C := Try.checked) own started (by kernel_rfl) Try.func12
    (ChangeSpec.witness6 (enc := enc) (C := Try.checked) false ⟨#[], #[(.slice none 0 0), (.slice none 0 0), (.agg #[.int .u8 0, .int .u8 0, .int .u8 0, .int .u8 0, .int .u8 0, .int .u8 0, .int .u8 0, .int .u8 0, .int .u8 0, .int .u8 0, .int .u8 0, .int .u8 0, .int .u8 0, .int .u8 0, .int .u8 0, .int .u8 0, .int .u32 0, .int .u64 0, .int .u32 0, .int .u32 0])], []⟩ 8 (by kernel_rfl) (by kernel_rfl) (by kernel_rfl) (by kernel_rfl)) ?_
  intro W base args ds gs before hval0 hW hcnd _
  have hval : ∀ (j : Nat) t v, Try.f12.params[j]? = some t → args[j]? = some v → Value.okWide Try.prog W .any base t v := hval0
  have hW' := hW
  obtain ⟨p, q, hA0, hV, rfl, hfz, hnd⟩ := hW
  have hA : DataW.TrodAll enc Try.prog W 0 (fun _ => true) true Try.f12.params.toList args.toList ds p := hA0
  rw [Try.params12] at hA hval
  obtain ⟨v0, vs0, d0, ds0, p0, q0, hargs, rfl, rfl, h0, r0⟩ := trodAll_cons hA
  obtain ⟨v1, vs1, d1, ds1, p1, q1, rfl, rfl, rfl, h1, r1⟩ := trodAll_cons r0
  obtain ⟨v2, vs2, d2, ds2, p2, q2, rfl, rfl, rfl, h2, r2⟩ := trodAll_cons r1
  obtain ⟨rfl, rfl, rfl⟩ := trodAll_nil r2
  obtain rfl : args = #[v0, v1, v2] := Array.ext' (by simpa using hargs)
  obtain ⟨rfl, rfl⟩ := trodVars_none hV
  have k0 := h0
  have lt0 : ∀ x ∈ p0, x.block < W.heap.size := by obtain ⟨m, hm⟩ := k0; exact DataW.trod_lt m _ _ _ hm
  obtain ⟨fuel0, hfu0⟩ := h0
  obtain ⟨x0, e0, _, w0⟩ := opens_uses H enc W _ _ fuel0 _ _ hfu0
  obtain ⟨ad0, ln0, cp0, hcs0⟩ := okWide_slice Try.underlying73 (hval 0 73 v0 rfl rfl)
  have rel0 : RelV (fun _ => none) W (fun _ => False) (.d (encUsesL x0)) v0 := e0.relV ⟨fun ⟨c, hc⟩ => (by rw [hcs0] at hc; cases hc), fun hc => (by cases hc)⟩
  have k1 := h1
  have lt1 : ∀ x ∈ p1, x.block < W.heap.size := by obtain ⟨m, hm⟩ := k1; exact DataW.trod_lt m _ _ _ hm
  obtain ⟨fuel1, hfu1⟩ := h1
  obtain ⟨x1, e1, _, w1⟩ := opens_uses H enc W _ _ fuel1 _ _ hfu1
  obtain ⟨ad1, ln1, cp1, hcs1⟩ := okWide_slice Try.underlying73 (hval 1 73 v1 rfl rfl)
  have rel1 : RelV (fun _ => none) W (fun _ => False) (.d (encUsesL x1)) v1 := e1.relV ⟨fun ⟨c, hc⟩ => (by rw [hcs1] at hc; cases hc), fun hc => (by cases hc)⟩
  have k2 := h2
  have lt2 : ∀ x ∈ p2, x.block < W.heap.size := by obtain ⟨m, hm⟩ := k2; exact DataW.trod_lt m _ _ _ hm
  obtain ⟨fuel2, hfu2⟩ := h2
  obtain ⟨x2, e2, _, w2⟩ := opens_use H enc W _ _ fuel2 _ _ hfu2
  obtain ⟨cs2, hcs2, _⟩ := okWide_struct Try.underlying84 (hval 2 84 v2 rfl rfl)
  have rel2 : RelV (fun _ => none) W (fun _ => False) (.d (encUse x2)) v2 := e2.relV ⟨fun _ => rfl, fun _ => ⟨cs2, hcs2⟩⟩
  clear hA0 hval0
  refine (law_calls (lerrors_is x0 x1 x2 w0.2) (W := W) (args := #[v0, v1, v2]) ⟨v0, [v1, v2], rfl, ⟨rel0, trivial⟩, ⟨v1, [v2], rfl, ⟨rel1, trivial⟩, ⟨v2, [], rfl, ⟨rel2, trivial⟩, rfl⟩⟩⟩).mono fun e W' ⟨he, bel⟩ => ?_
  subst he
  exact ⟨_, rfl, _, _, _, [], _, [], hW', trodAll_mk1 (shut_bool Try.underlying4 _), (trodAll_cons_mk (Below.trod laidOut (by kernel_rfl) (of_decide_eq_true (by kernel_rfl)) k0 bel lt0) (trodAll_cons_mk (Below.trod laidOut (by kernel_rfl) (of_decide_eq_true (by kernel_rfl)) k1 bel lt1) (trodAll_cons_mk (Below.trod laidOut (by kernel_rfl) (of_decide_eq_true (by kernel_rfl)) k2 bel lt2) trodAll_mk0))), rfl, bel.frame _, fun h => by cases h⟩

theorem over : Rows.ledgersErrorsRow.holds Try.pinned (OpenSpec.ofChange Rows.ledgersErrorsSpec) :=
  OpenClaim.holds_of_wide 12 Try.f12 rfl rfl rfl rfl rfl rfl rfl ⟨rfl, rfl, rfl, rfl, rfl⟩ rfl rfl rfl rfl rfl (by kernel_rfl) Try.func12 (by kernel_rfl)
    (of_decide_eq_true (by kernel_rfl)) (by unfold Func.isWrapper; first | (rw [if_pos (by decide +kernel)]; kernel_rfl) | (rw [if_neg (by decide +kernel)]; exact ⟨rfl, rfl⟩))
    (fun os started H enc _ => lifted os started H enc)
theorem ledgersErrors_holds : Rows.LedgersErrorsSaid := over
end Go.Proofs.Ytjpjchohpjbknaa
