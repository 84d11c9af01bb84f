/- Ledgers: Add, Repeats, and the bytes of a use. -/
import Derived.Test.YtjpjchohpjbknaaLA
import Derived.Test.YtjpjchohpjbknaaEngE
import Derived.Test.YtjpjchohpjbknaaEngD

set_option linter.unusedVariables false
set_option linter.unusedSimpArgs false

/- Ledgers: joined. -/
namespace Go.Proofs.Ytjpjchohpjbknaa
open Go.Eng
set_option maxHeartbeats 2000000
attribute [local irreducible] WC RegS RegD SeqQ BlkQ ScoQ RegK CutK Sat SatN FnIs LoopQ StepIs OpIs
theorem concat2_is (l m : List LUse) (hp : 0 < (l ++ m).length) (hL : (l ++ m).length ≤ 1048576) : FnIs Try.prog 91 [.d (.arr 1 encSl [l, m])] [] (.own 64 0 (l ++ m).length 20 none) [(64, rowU false (l ++ m))] := by
  have e : [l, m].flatten = l ++ m := by simp
  have := concat_is [l, m] (by rw [e]; exact hp) (by rw [e]; exact hL) (by simp)
  rwa [e] at this
theorem joined_is (l m : List LUse) (hj : 0 < l.length + m.length) (hk : l.length + m.length ≤ 65536) : FnIs Try.prog 70 [.d (encLed l), .d (.arr 20 encUse m)] [] (.tup (.acons (ownLed 64 (l ++ m).length (some (l ++ m).length)) (.acons (.d (i6 0)) .anil))) [(64, rowU false (l ++ m))] := by
  have hp : 0 < (l ++ m).length := by simpa using hj
  have hL : (l ++ m).length ≤ 1048576 := by simp; omega
  have d0 : decide (65536 < (l.length : Int) + (m.length : Int)) = false := decide_eq_false (by omega)
  refine fnIs_of tab_ok Try.func70 rfl rfl rfl ?_
  refine wc_seq ?_
  refine wc_region ?_
  refine reg_new (step_C tab_ok (fun K hk => hk)) rfl ?_
  refine reg_new (step_C tab_ok (fun K hk => hk)) rfl ?_
  refine reg_quiet rfl (step_C tab_ok (fun K hk => hk)) ?_
  refine reg_nil ?_
  refine seq_n ?_
  refine wc_seq ?_
  refine wc_seq ?_
  refine wc_region ?_
  refine reg_quiet rfl (step_C tab_ok (fun K hk => hk)) ?_
  refine reg_quiet rfl (load_box tab_ok rfl rfl ⟨_, rfl, rfl⟩ rfl) ?_
  refine reg_quiet rfl (len_arr tab_ok rfl rfl) ?_
  refine reg_quiet rfl (step_C tab_ok (fun K hk => hk)) ?_
  refine reg_quiet rfl (len_arr tab_ok rfl rfl) ?_
  refine reg_quiet rfl (add_int tab_ok rfl rfl (wrap_i64 (by omega) (by omega))) ?_
  refine reg_quiet rfl (step_C tab_ok (fun K hk => hk)) ?_
  refine reg_nil ?_
  refine seq_n ?_
  refine wc_false rfl (by assumption) ?_
  refine wc_skip ?_
  refine seq_n ?_
  refine wc_seq ?_
  refine wc_region ?_
  refine reg_quiet rfl (step_C tab_ok (fun K hk => hk)) ?_
  refine reg_quiet rfl (load_box tab_ok rfl rfl ⟨_, rfl, rfl⟩ rfl) ?_
  refine reg_quiet rfl (step_C tab_ok (fun K hk => hk)) ?_
  refine reg_new (build_slice (s := 1) tab_ok rfl rfl rfl rfl rfl rfl rfl rfl) rfl ?_
  refine reg_freeze (env' := [(17, _), (4, _)]) (h' := [(72, some _)]) 168 _ rfl ⟨⟨_, rfl, Frz.lits2 (enc := encSl) l m rfl rfl rfl rfl⟩, ⟨_, rfl, .refl _⟩, trivial⟩ ⟨⟨rfl, _, rfl, .refl _⟩, trivial⟩ ?_
  refine reg_new (call_new (concat2_is l m hp hL) rfl rfl (arg_e arg_nil) (.inl rfl) rfl rfl) rfl ?_
  refine reg_new2 (call_h [(0, some 176)] (clipu_is (l ++ m) (l ++ m).length false) rfl rfl rfl (arg_give rfl rfl arg_nil) ⟨⟨rfl, rfl, _, _, rfl, rfl, .refl _⟩, trivial⟩ rfl rfl (.inl rfl) rfl rfl) rfl ?_
  refine reg_quiet rfl (build_struct tab_ok rfl rfl rfl rfl) ?_
  refine reg_store (store_row tab_ok rfl rfl rfl ⟨_, ⟨rfl, rfl, rfl⟩, rfl⟩ rfl) ?_
  refine reg_quiet rfl (step_C tab_ok (fun K hk => hk)) ?_
  refine reg_nil ?_
  refine seq_n ?_
  refine wc_ret ?_
  exact ⟨trivial, _, rfl, [(64, some 176)], .of rfl rfl rfl rfl rfl ⟨⟨_, rfl, AVLe.of_eq rfl⟩, rfl, trivial⟩ ⟨⟨rfl, rfl, _, rfl, .refl _⟩, trivial⟩⟩
end Go.Proofs.Ytjpjchohpjbknaa

/- Ledgers: Add. -/
namespace Go.Proofs.Ytjpjchohpjbknaa
open Go.Eng
set_option maxHeartbeats 2000000
attribute [local irreducible] WC RegS RegD SeqQ BlkQ ScoQ RegK CutK Sat SatN FnIs LoopQ StepIs OpIs
theorem add_is (l : List LUse) (u : LUse) (h0 : chkL l = 0) (hv : validU u = true) (hk : l.length + 1 ≤ 65536) : FnIs Try.prog 50 [.d (encLed l), .d (encUse u)] [] (.tup (.acons (ownLed 64 (l ++ [u]).length (some (l ++ [u]).length)) (.acons (.d (i6 0)) .anil))) [(64, rowU false (l ++ [u]))] := by
  have hC := ledcheck_is l
  rw [h0] at hC
  have hn : (!validU u) = false := by rw [hv]; rfl
  refine fnIs_of tab_ok Try.func50 rfl rfl rfl ?_
  refine wc_seq ?_
  refine wc_region ?_
  refine reg_new (step_C tab_ok (fun K hk => hk)) rfl ?_
  refine reg_new (step_C tab_ok (fun K hk => hk)) rfl ?_
  refine reg_new (step_C tab_ok (fun K hk => hk)) rfl ?_
  refine reg_quiet rfl (step_C tab_ok (fun K hk => hk)) ?_
  refine reg_nil ?_
  refine seq_n ?_
  refine wc_seq ?_
  refine wc_seq ?_
  refine wc_region ?_
  refine reg_quiet rfl (load_box tab_ok rfl rfl rfl rfl) ?_
  refine reg_quiet rfl (call_r hC rfl rfl (arg_e arg_nil) (.inl rfl) (fun _ => rfl)) ?_
  refine reg_quiet rfl (step_C tab_ok (fun K hk => hk)) ?_
  refine reg_nil ?_
  refine seq_n ?_
  refine wc_seq ?_
  refine wc_region ?_
  refine reg_quiet rfl (step_C tab_ok (fun K hk => hk)) ?_
  refine reg_quiet rfl (step_C tab_ok (fun K hk => hk)) ?_
  refine reg_nil ?_
  refine seq_n ?_
  refine wc_false rfl rfl ?_
  refine wc_skip ?_
  refine seq_n ?_
  refine wc_seq ?_
  refine wc_seq ?_
  refine wc_region ?_
  refine reg_quiet rfl (load_box tab_ok rfl rfl rfl rfl) ?_
  refine reg_quiet rfl (call_r (valid_is u) rfl rfl (arg_e arg_nil) (.inl rfl) (fun _ => rfl)) ?_
  refine reg_quiet rfl (step_C tab_ok (fun K hk => hk)) ?_
  refine reg_nil ?_
  refine seq_n ?_
  refine wc_false rfl (by assumption) ?_
  refine wc_skip ?_
  refine seq_n ?_
  refine wc_seq ?_
  refine wc_region ?_
  refine reg_quiet rfl (load_box tab_ok rfl rfl rfl rfl) ?_
  refine reg_quiet rfl (load_box tab_ok rfl rfl rfl rfl) ?_
  refine reg_new (build_slice (s := 20) tab_ok rfl rfl rfl rfl rfl rfl rfl rfl) rfl ?_
  refine reg_freeze (env' := [(19, _), (17, _), (4, _)]) (h' := [(80, some _)]) 176 _ rfl ⟨⟨_, rfl, Frz.lits1 (enc := encUse) u rfl rfl⟩, ⟨_, rfl, .refl _⟩, ⟨_, rfl, .refl _⟩, trivial⟩ ⟨⟨rfl, _, rfl, .refl _⟩, trivial⟩ ?_
  refine reg_new (call_new (joined_is l [u] (by simp) hk) rfl rfl (arg_e (arg_e arg_nil)) (.inl rfl) rfl rfl) rfl ?_
  refine reg_quiet rfl (step_C tab_ok (fun K hk => hk)) ?_
  refine reg_quiet rfl (step_C tab_ok (fun K hk => hk)) ?_
  refine reg_store (store_row tab_ok rfl rfl rfl ⟨_, ⟨rfl, rfl, rfl⟩, rfl⟩ rfl) ?_
  refine reg_quiet rfl (step_C tab_ok (fun K hk => hk)) ?_
  refine reg_nil ?_
  refine seq_n ?_
  refine wc_ret ?_
  exact ⟨trivial, _, rfl, [(64, some 184)], .of rfl rfl rfl rfl rfl ⟨⟨_, rfl, AVLe.of_eq rfl⟩, rfl, trivial⟩ ⟨⟨rfl, rfl, _, rfl, .refl _⟩, trivial⟩⟩
end Go.Proofs.Ytjpjchohpjbknaa

/- Ledgers: Add, with errors. -/
namespace Go.Proofs.Ytjpjchohpjbknaa
open Go.Eng
set_option maxHeartbeats 2000000
attribute [local irreducible] WC RegS RegD SeqQ BlkQ ScoQ RegK CutK Sat SatN FnIs LoopQ StepIs OpIs
theorem add_bad (l : List LUse) (u : LUse) (h0 : chkL l ≠ 0) : FnIs Try.prog 50 [.d (encLed l), .d (encUse u)] [] (.tup (.acons (.d zeroLed) (.acons (.int .i64 (chkL l)) .anil))) [] := by
  have hC := ledcheck_is l
  have hn : (!decide (chkL l = 0)) = true := by rw [decide_eq_false h0]; rfl
  refine fnIs_of tab_ok Try.func50 rfl rfl rfl ?_
  refine wc_seq ?_
  refine wc_region ?_
  refine reg_new (step_C tab_ok (fun K hk => hk)) rfl ?_
  refine reg_new (step_C tab_ok (fun K hk => hk)) rfl ?_
  refine reg_new (step_C tab_ok (fun K hk => hk)) rfl ?_
  refine reg_quiet rfl (step_C tab_ok (fun K hk => hk)) ?_
  refine reg_nil ?_
  refine seq_n ?_
  refine wc_seq ?_
  refine wc_seq ?_
  refine wc_region ?_
  refine reg_quiet rfl (load_box tab_ok rfl rfl rfl rfl) ?_
  refine reg_quiet rfl (call_r hC rfl rfl (arg_e arg_nil) (.inl rfl) (fun _ => rfl)) ?_
  refine reg_quiet rfl (step_C tab_ok (fun K hk => hk)) ?_
  refine reg_nil ?_
  refine seq_n ?_
  refine wc_seq ?_
  refine wc_region ?_
  refine reg_quiet rfl (step_C tab_ok (fun K hk => hk)) ?_
  refine reg_quiet rfl (step_C tab_ok (fun K hk => hk)) ?_
  refine reg_nil ?_
  refine seq_n ?_
  refine wc_true rfl (by assumption) ?_
  refine wc_seq ?_
  refine wc_region ?_
  refine reg_quiet rfl (build_struct tab_ok rfl rfl rfl rfl) ?_
  refine reg_quiet rfl (step_C tab_ok (fun K hk => hk)) ?_
  refine reg_store (store_row tab_ok rfl rfl rfl ⟨_, ⟨rfl, rfl, rfl⟩, rfl⟩ rfl) ?_
  refine reg_quiet rfl (step_C tab_ok (fun K hk => hk)) ?_
  refine reg_nil ?_
  refine seq_n ?_
  refine wc_ret ?_
  refine seq_r ?_
  exact ⟨trivial, _, rfl, [], .of rfl rfl rfl rfl rfl ⟨⟨_, rfl, AVLe.of_eq rfl⟩, rfl, trivial⟩ trivial⟩
theorem add_inv (l : List LUse) (u : LUse) (h0 : chkL l = 0) (hv : validU u = false) : FnIs Try.prog 50 [.d (encLed l), .d (encUse u)] [] (.tup (.acons (.d zeroLed) (.acons (.d (i6 1)) .anil))) [] := by
  have hC := ledcheck_is l
  rw [h0] at hC
  have hn : (!validU u) = true := by rw [hv]; rfl
  refine fnIs_of tab_ok Try.func50 rfl rfl rfl ?_
  refine wc_seq ?_
  refine wc_region ?_
  refine reg_new (step_C tab_ok (fun K hk => hk)) rfl ?_
  refine reg_new (step_C tab_ok (fun K hk => hk)) rfl ?_
  refine reg_new (step_C tab_ok (fun K hk => hk)) rfl ?_
  refine reg_quiet rfl (step_C tab_ok (fun K hk => hk)) ?_
  refine reg_nil ?_
  refine seq_n ?_
  refine wc_seq ?_
  refine wc_seq ?_
  refine wc_region ?_
  refine reg_quiet rfl (load_box tab_ok rfl rfl rfl rfl) ?_
  refine reg_quiet rfl (call_r hC rfl rfl (arg_e arg_nil) (.inl rfl) (fun _ => rfl)) ?_
  refine reg_quiet rfl (step_C tab_ok (fun K hk => hk)) ?_
  refine reg_nil ?_
  refine seq_n ?_
  refine wc_seq ?_
  refine wc_region ?_
  refine reg_quiet rfl (step_C tab_ok (fun K hk => hk)) ?_
  refine reg_quiet rfl (step_C tab_ok (fun K hk => hk)) ?_
  refine reg_nil ?_
  refine seq_n ?_
  refine wc_false rfl rfl ?_
  refine wc_skip ?_
  refine seq_n ?_
  refine wc_seq ?_
  refine wc_seq ?_
  refine wc_region ?_
  refine reg_quiet rfl (load_box tab_ok rfl rfl rfl rfl) ?_
  refine reg_quiet rfl (call_r (valid_is u) rfl rfl (arg_e arg_nil) (.inl rfl) (fun _ => rfl)) ?_
  refine reg_quiet rfl (step_C tab_ok (fun K hk => hk)) ?_
  refine reg_nil ?_
  refine seq_n ?_
  refine wc_true rfl (by assumption) ?_
  refine wc_seq ?_
  refine wc_region ?_
  refine reg_quiet rfl (build_struct tab_ok rfl rfl rfl rfl) ?_
  refine reg_store (store_row tab_ok rfl rfl rfl ⟨_, ⟨rfl, rfl, rfl⟩, rfl⟩ rfl) ?_
  refine reg_quiet rfl (step_C tab_ok (fun K hk => hk)) ?_
  refine reg_nil ?_
  refine seq_n ?_
  refine wc_ret ?_
  refine seq_r ?_
  exact ⟨trivial, _, rfl, [], .of rfl rfl rfl rfl rfl ⟨⟨_, rfl, AVLe.of_eq rfl⟩, rfl, trivial⟩ trivial⟩
end Go.Proofs.Ytjpjchohpjbknaa

/- Ledgers: joined and Add, too many uses. -/
namespace Go.Proofs.Ytjpjchohpjbknaa
open Go.Eng
set_option maxHeartbeats 2000000
attribute [local irreducible] WC RegS RegD SeqQ BlkQ ScoQ RegK CutK Sat SatN FnIs LoopQ StepIs OpIs
theorem joined_many (l m : List LUse) (hl : l.length ≤ 1000000) (hm : m.length ≤ 1000000) (hk : 65536 < l.length + m.length) : FnIs Try.prog 70 [.d (encLed l), .d (.arr 20 encUse m)] [] (.tup (.acons (.d zeroLed) (.acons (.d (i6 3)) .anil))) [] := by
  have d0 : decide (65536 < (l.length : Int) + (m.length : Int)) = true := decide_eq_true (by omega)
  refine fnIs_of tab_ok Try.func70 rfl rfl rfl ?_
  refine wc_seq ?_
  refine wc_region ?_
  refine reg_new (step_C tab_ok (fun K hk => hk)) rfl ?_
  refine reg_new (step_C tab_ok (fun K hk => hk)) rfl ?_
  refine reg_quiet rfl (step_C tab_ok (fun K hk => hk)) ?_
  refine reg_nil ?_
  refine seq_n ?_
  refine wc_seq ?_
  refine wc_seq ?_
  refine wc_region ?_
  refine reg_quiet rfl (step_C tab_ok (fun K hk => hk)) ?_
  refine reg_quiet rfl (load_box tab_ok rfl rfl ⟨_, rfl, rfl⟩ rfl) ?_
  refine reg_quiet rfl (len_arr tab_ok rfl rfl) ?_
  refine reg_quiet rfl (step_C tab_ok (fun K hk => hk)) ?_
  refine reg_quiet rfl (len_arr tab_ok rfl rfl) ?_
  refine reg_quiet rfl (add_int tab_ok rfl rfl (wrap_i64 (by omega) (by omega))) ?_
  refine reg_quiet rfl (step_C tab_ok (fun K hk => hk)) ?_
  refine reg_nil ?_
  refine seq_n ?_
  refine wc_true rfl (by assumption) ?_
  refine wc_seq ?_
  refine wc_region ?_
  refine reg_quiet rfl (build_struct tab_ok rfl rfl rfl rfl) ?_
  refine reg_store (store_row tab_ok rfl rfl rfl ⟨_, ⟨rfl, rfl, rfl⟩, rfl⟩ rfl) ?_
  refine reg_quiet rfl (step_C tab_ok (fun K hk => hk)) ?_
  refine reg_nil ?_
  refine seq_n ?_
  refine wc_ret ?_
  refine seq_r ?_
  exact ⟨trivial, _, rfl, [], .of rfl rfl rfl rfl rfl ⟨⟨_, rfl, AVLe.of_eq rfl⟩, rfl, trivial⟩ trivial⟩
theorem add_many (l : List LUse) (u : LUse) (h0 : chkL l = 0) (hv : validU u = true) (hl : l.length ≤ 1000000) (hk : 65536 < l.length + [u].length) : FnIs Try.prog 50 [.d (encLed l), .d (encUse u)] [] (.tup (.acons (.d zeroLed) (.acons (.d (i6 3)) .anil))) [] := by
  have hC := ledcheck_is l
  rw [h0] at hC
  have hn : (!validU u) = false := by rw [hv]; rfl
  refine fnIs_of tab_ok Try.func50 rfl rfl rfl ?_
  refine wc_seq ?_
  refine wc_region ?_
  refine reg_new (step_C tab_ok (fun K hk => hk)) rfl ?_
  refine reg_new (step_C tab_ok (fun K hk => hk)) rfl ?_
  refine reg_new (step_C tab_ok (fun K hk => hk)) rfl ?_
  refine reg_quiet rfl (step_C tab_ok (fun K hk => hk)) ?_
  refine reg_nil ?_
  refine seq_n ?_
  refine wc_seq ?_
  refine wc_seq ?_
  refine wc_region ?_
  refine reg_quiet rfl (load_box tab_ok rfl rfl rfl rfl) ?_
  refine reg_quiet rfl (call_r hC rfl rfl (arg_e arg_nil) (.inl rfl) (fun _ => rfl)) ?_
  refine reg_quiet rfl (step_C tab_ok (fun K hk => hk)) ?_
  refine reg_nil ?_
  refine seq_n ?_
  refine wc_seq ?_
  refine wc_region ?_
  refine reg_quiet rfl (step_C tab_ok (fun K hk => hk)) ?_
  refine reg_quiet rfl (step_C tab_ok (fun K hk => hk)) ?_
  refine reg_nil ?_
  refine seq_n ?_
  refine wc_false rfl rfl ?_
  refine wc_skip ?_
  refine seq_n ?_
  refine wc_seq ?_
  refine wc_seq ?_
  refine wc_region ?_
  refine reg_quiet rfl (load_box tab_ok rfl rfl rfl rfl) ?_
  refine reg_quiet rfl (call_r (valid_is u) rfl rfl (arg_e arg_nil) (.inl rfl) (fun _ => rfl)) ?_
  refine reg_quiet rfl (step_C tab_ok (fun K hk => hk)) ?_
  refine reg_nil ?_
  refine seq_n ?_
  refine wc_false rfl (by assumption) ?_
  refine wc_skip ?_
  refine seq_n ?_
  refine wc_seq ?_
  refine wc_region ?_
  refine reg_quiet rfl (load_box tab_ok rfl rfl rfl rfl) ?_
  refine reg_quiet rfl (load_box tab_ok rfl rfl rfl rfl) ?_
  refine reg_new (build_slice (s := 20) tab_ok rfl rfl rfl rfl rfl rfl rfl rfl) rfl ?_
  refine reg_freeze (env' := [(19, _), (17, _), (4, _)]) (h' := [(80, some _)]) 176 _ rfl ⟨⟨_, rfl, Frz.lits1 (enc := encUse) u rfl rfl⟩, ⟨_, rfl, .refl _⟩, ⟨_, rfl, .refl _⟩, trivial⟩ ⟨⟨rfl, _, rfl, .refl _⟩, trivial⟩ ?_
  refine reg_quiet rfl (call_r (joined_many l [u] hl (by simp) hk) rfl rfl (arg_e (arg_e arg_nil)) (.inl rfl) (fun _ => rfl)) ?_
  refine reg_quiet rfl (step_C tab_ok (fun K hk => hk)) ?_
  refine reg_quiet rfl (step_C tab_ok (fun K hk => hk)) ?_
  refine reg_store (store_row tab_ok rfl rfl rfl ⟨_, ⟨rfl, rfl, rfl⟩, rfl⟩ rfl) ?_
  refine reg_quiet rfl (step_C tab_ok (fun K hk => hk)) ?_
  refine reg_nil ?_
  refine seq_n ?_
  refine wc_ret ?_
  exact ⟨trivial, _, rfl, [], .of rfl rfl rfl rfl rfl ⟨⟨_, rfl, AVLe.of_eq rfl⟩, rfl, trivial⟩ trivial⟩
end Go.Proofs.Ytjpjchohpjbknaa

/- Ledgers: what the map of places says. -/
namespace Go.Proofs.Ytjpjchohpjbknaa
open Go.Eng
abbrev plU (u : LUse) : LPlace := ⟨u.key, u.range.nonce⟩
theorem clash_eq {a b : LUse} (ha : validU a = true) (hb : validU b = true) : clash a b = (decide (plU a = plU b) && overL a.range b.range) := by
  obtain ⟨ka, na, fa, la⟩ := a
  obtain ⟨kb, nb, fb, lb⟩ := b
  have ha : fa ≤ la := of_decide_eq_true ha
  have hb : fb ≤ lb := of_decide_eq_true hb
  simp only [clash, overR, overL, plU, LPlace.mk.injEq]
  have d1 : decide (fa > la) = false := decide_eq_false (by omega)
  have d2 : decide (fb > lb) = false := decide_eq_false (by omega)
  simp only [d1, d2, Bool.or_false]
  by_cases hk : ka = kb
  · by_cases hn : na = nb
    · simp only [hk, hn, decide_true, Bool.not_true, Bool.true_and, and_self, Bool.false_eq_true, if_false]
      by_cases h : max fa fb ≤ min la lb
      · rw [decide_eq_true h]
        by_cases h1 : fa ≥ fb
        · rw [decide_eq_true h1, decide_eq_true (by omega : fa ≤ lb)]; rfl
        · rw [decide_eq_true (by omega : fb ≥ fa), decide_eq_true (by omega : fb ≤ la)]; simp
      · rw [decide_eq_false h]
        have e1 : (decide (fa ≥ fb) && decide (fa ≤ lb)) = false := by
          by_cases h1 : fa ≥ fb
          · rw [decide_eq_false (by omega : ¬ fa ≤ lb)]; simp
          · rw [decide_eq_false h1]; rfl
        have e2 : (decide (fb ≥ fa) && decide (fb ≤ la)) = false := by
          by_cases h1 : fb ≥ fa
          · rw [decide_eq_false (by omega : ¬ fb ≤ la)]; simp
          · rw [decide_eq_false h1]; rfl
        rw [e1, e2]; rfl
    · simp [hn]
  · simp [hk]

def idxs (l : List LUse) (p : LPlace) (i : Nat) : List Nat := (List.range i).filter (fun k => decide ((l[k]?).map plU = some p))
theorem idxs_go {l : List LUse} {p : LPlace} {i : Nat} {u : LUse} (hu : l[i]? = some u) : idxs l p (i + 1) = idxs l p i ++ if plU u = p then [i] else [] := by
  simp only [idxs, List.range_succ, List.filter_append]
  congr 1
  by_cases h : plU u = p
  · simp [List.filter, hu, h]
  · simp [List.filter, hu, h]
theorem idxs_mem {l : List LUse} {p : LPlace} {i k : Nat} : k ∈ idxs l p i ↔ k < i ∧ (l[k]?).map plU = some p := by
  simp [idxs]
theorem idxs_lt {l : List LUse} {p : LPlace} {i m m' k k' : Nat} (h : (idxs l p i)[m]? = some k) (h' : (idxs l p i)[m']? = some k') (hk : k' < k) : m' < m := by
  have hp : (idxs l p i).Pairwise (· < ·) := List.Pairwise.filter _ List.pairwise_lt_range
  rcases Nat.lt_or_ge m' m with hlt | hge
  · exact hlt
  · obtain ⟨h1, h2⟩ := List.getElem?_eq_some_iff.1 h
    obtain ⟨h3, h4⟩ := List.getElem?_eq_some_iff.1 h'
    rcases Nat.lt_or_ge m m' with hmm | hmm
    · have := List.pairwise_iff_getElem.1 hp m m' h1 h3 hmm
      omega
    · have : m = m' := by omega
      subst this
      rw [h] at h'
      cases h'
      omega

theorem idxs_len (l : List LUse) (p : LPlace) (i : Nat) : (idxs l p i).length ≤ i := by
  have := List.length_filter_le (fun k => decide ((l[k]?).map plU = some p)) (List.range i)
  rwa [List.length_range] at this

/-- What was seen in the first i uses. -/
structure SeenIs (l : List LUse) (i : Nat) (S : List (LPlace × List Nat)) : Prop where
  le : i ≤ l.length
  len : S.length ≤ i
  val : ∀ (j : Nat) (p : LPlace) (ks : List Nat), S[j]? = some (p, ks) → ks = idxs l p i
  one : ∀ (j j' : Nat) (p : LPlace) (ks ks' : List Nat), S[j]? = some (p, ks) → S[j']? = some (p, ks') → j = j'
  all : ∀ p, (∀ (j : Nat) (ks : List Nat), S[j]? ≠ some (p, ks)) → idxs l p i = []
  no : ∀ j, j < i → ∀ k, k < j → clashI l k j = false

theorem SeenIs.zero (l : List LUse) : SeenIs l 0 [] := ⟨Nat.zero_le _, Nat.le_refl _, fun _ _ _ h => by simp at h, fun _ _ _ _ _ h => by simp at h, fun _ _ => rfl, fun _ h => by omega⟩

theorem SeenIs.no_go {l : List LUse} {i : Nat} {S : List (LPlace × List Nat)} (h : SeenIs l i S) (hn : ∀ k, k < i → clashI l k i = false) : ∀ j, j < i + 1 → ∀ k, k < j → clashI l k j = false := by
  intro j hj k hk
  rcases Nat.lt_or_ge j i with h1 | h1
  · exact h.no j h1 k hk
  · have : j = i := by omega
    subst this
    exact hn k hk

theorem SeenIs.hit {l : List LUse} {i j : Nat} {S : List (LPlace × List Nat)} {u : LUse} {ks : List Nat} (h : SeenIs l i S) (hu : l[i]? = some u) (hj : S[j]? = some (plU u, ks)) (hn : ∀ k, k < i → clashI l k i = false) :
    SeenIs l (i + 1) (S.set j (plU u, ks ++ [i])) := by
  have hjl := (List.getElem?_eq_some_iff.1 hj).1
  have get : ∀ (m : Nat) (p : LPlace) (xs : List Nat), (S.set j (plU u, ks ++ [i]))[m]? = some (p, xs) → (m = j ∧ p = plU u ∧ xs = ks ++ [i]) ∨ (m ≠ j ∧ S[m]? = some (p, xs)) := by
    intro m p xs hm
    rw [List.getElem?_set] at hm
    simp only [hjl, if_true] at hm
    split at hm
    · rename_i e
      cases hm; exact .inl ⟨e.symm, rfl, rfl⟩
    · rename_i e; exact .inr ⟨fun e' => e e'.symm, hm⟩
  refine ⟨(List.getElem?_eq_some_iff.1 hu).1, by rw [List.length_set]; have := h.len; omega, ?_, ?_, ?_, h.no_go hn⟩
  · intro m p xs hm
    rw [idxs_go hu]
    rcases get m p xs hm with ⟨rfl, rfl, rfl⟩ | ⟨hne, hm'⟩
    · rw [if_pos rfl, h.val _ _ _ hj]
    · rw [if_neg, List.append_nil]
      · exact h.val _ _ _ hm'
      · intro e
        subst e
        exact hne (h.one _ _ _ _ _ hm' hj)
  · intro m m' p xs xs' hm hm'
    rcases get m p xs hm with ⟨rfl, h1, rfl⟩ | ⟨hne, h1⟩ <;> rcases get m' p xs' hm' with ⟨rfl, h2, rfl⟩ | ⟨hne', h2⟩
    · rfl
    · subst h1; exact h.one _ _ _ _ _ hj h2
    · subst h2; exact h.one _ _ _ _ _ h1 hj
    · exact h.one _ _ _ _ _ h1 h2
  · intro p hp
    have hpu : p ≠ plU u := by
      intro e
      subst e
      refine hp j (ks ++ [i]) ?_
      rw [List.getElem?_set, if_pos rfl, if_pos hjl]
    rw [idxs_go hu, if_neg (Ne.symm hpu), List.append_nil]
    refine h.all p fun m xs hm => hp m xs ?_
    rw [List.getElem?_set, if_neg]
    · exact hm
    · intro e
      subst e
      rw [hj] at hm
      cases hm
      exact hpu rfl

theorem SeenIs.new {l : List LUse} {i : Nat} {S : List (LPlace × List Nat)} {u : LUse} (h : SeenIs l i S) (hu : l[i]? = some u) (hj : ∀ (j : Nat) (ks : List Nat), S[j]? ≠ some (plU u, ks)) (hn : ∀ k, k < i → clashI l k i = false) :
    SeenIs l (i + 1) (S ++ [(plU u, [i])]) := by
  have get : ∀ (m : Nat) (p : LPlace) (xs : List Nat), (S ++ [(plU u, [i])])[m]? = some (p, xs) → (m = S.length ∧ p = plU u ∧ xs = [i]) ∨ S[m]? = some (p, xs) := by
    intro m p xs hm
    rw [List.getElem?_append] at hm
    split at hm
    · exact .inr hm
    · rename_i hlt
      cases hc : m - S.length with
      | zero => rw [hc] at hm; cases hm; exact .inl ⟨by omega, rfl, rfl⟩
      | succ q => rw [hc] at hm; simp at hm
  refine ⟨(List.getElem?_eq_some_iff.1 hu).1, by simp; exact h.len, ?_, ?_, ?_, h.no_go hn⟩
  · intro m p xs hm
    rw [idxs_go hu]
    rcases get m p xs hm with ⟨rfl, rfl, rfl⟩ | hm'
    · rw [if_pos rfl, h.all _ hj]; rfl
    · rw [if_neg, List.append_nil]
      · exact h.val _ _ _ hm'
      · intro e
        subst e
        exact hj _ _ hm'
  · intro m m' p xs xs' hm hm'
    rcases get m p xs hm with ⟨rfl, h1, rfl⟩ | h1 <;> rcases get m' p xs' hm' with ⟨rfl, h2, rfl⟩ | h2
    · rfl
    · subst h1; exact absurd h2 (hj _ _)
    · subst h2; exact absurd h1 (hj _ _)
    · exact h.one _ _ _ _ _ h1 h2
  · intro p hp
    have hpu : p ≠ plU u := by
      intro e
      subst e
      refine hp S.length [i] ?_
      simp
    rw [idxs_go hu, if_neg (Ne.symm hpu), List.append_nil]
    refine h.all p fun m xs hm => hp m xs ?_
    rw [List.getElem?_append_left (List.getElem?_eq_some_iff.1 hm).1]
    exact hm

/-- Does the use k clash with u? -/
def overAt (l : List LUse) (u : LUse) (k : Nat) : Bool := match l[k]? with
  | some a => overL a.range u.range
  | none => false

theorem clash_over {l : List LUse} {i k : Nat} {u : LUse} (hv : l.all validU = true) (hu : l[i]? = some u) : clashI l k i = (decide ((l[k]?).map plU = some (plU u)) && overAt l u k) := by
  simp only [clashI, overAt, hu]
  cases hk : l[k]? with
  | none => rfl
  | some a =>
    have va := List.all_eq_true.1 hv a (List.mem_of_getElem? hk)
    have vu := List.all_eq_true.1 hv u (List.mem_of_getElem? hu)
    simp only [clash_eq va vu, Option.map_some, Option.some.injEq]

theorem no_hit {l : List LUse} {i : Nat} {u : LUse} (hv : l.all validU = true) (hu : l[i]? = some u) {ks : List Nat} (hks : ks = idxs l (plU u) i) (hn : ∀ m, m < ks.length → ∀ k, ks[m]? = some k → overAt l u k = false) :
    ∀ k, k < i → clashI l k i = false := by
  intro k hk
  rw [clash_over hv hu]
  by_cases h : (l[k]?).map plU = some (plU u)
  · have hm : k ∈ ks := by rw [hks]; exact idxs_mem.2 ⟨hk, h⟩
    obtain ⟨m, hm⟩ := List.mem_iff_getElem?.1 hm
    rw [hn m (List.getElem?_eq_some_iff.1 hm).1 k hm]
    simp
  · rw [decide_eq_false h]; rfl

theorem first_hit {l : List LUse} {i m k : Nat} {u : LUse} {S : List (LPlace × List Nat)} (h : SeenIs l i S) (hv : l.all validU = true) (hu : l[i]? = some u) {ks : List Nat} (hks : ks = idxs l (plU u) i) (hm : ks[m]? = some k) (hn : ∀ m', m' < m → ∀ k, ks[m']? = some k → overAt l u k = false)
    (ho : overAt l u k = true) : repF l = some (k, i) := by
  have hmem : k ∈ idxs l (plU u) i := by rw [← hks]; exact List.mem_of_getElem? hm
  obtain ⟨hki, hkp⟩ := idxs_mem.1 hmem
  refine repF_some ?_ ?_ hki (List.getElem?_eq_some_iff.1 hu).1 h.no
  · rw [clash_over hv hu, decide_eq_true hkp, ho]; rfl
  · intro k' hk'
    rw [clash_over hv hu]
    by_cases hp : (l[k']?).map plU = some (plU u)
    · have hmem' : k' ∈ ks := by rw [hks]; exact idxs_mem.2 ⟨by omega, hp⟩
      obtain ⟨m', hm'⟩ := List.mem_iff_getElem?.1 hmem'
      have := idxs_lt (by rw [← hks]; exact hm) (by rw [← hks]; exact hm') hk'
      rw [hn m' this k' hm']
      simp
    · rw [decide_eq_false hp]; rfl

/-- The first clash, as Repeats returns it. -/
def repT (l : List LUse) : Int × Int × Bool := match repF l with
  | some (i, j) => (i, j, true)
  | none => (0, 0, false)

theorem chk_ok {l : List LUse} (h : chkL l = 0) : l.length ≤ 65536 ∧ l.all validU = true := by
  unfold chkL at h
  split at h
  · cases h
  · split at h
    · rename_i h1 h2; exact ⟨by omega, h2⟩
    · cases h
end Go.Proofs.Ytjpjchohpjbknaa

/- Ledgers: Repeats. -/
namespace Go.Proofs.Ytjpjchohpjbknaa
open Go.Eng
set_option maxHeartbeats 2000000
attribute [local irreducible] WC RegS RegD SeqQ BlkQ ScoQ RegK CutK Sat SatN FnIs LoopQ StepIs OpIs
abbrev encN (k : Nat) : D := .sc (.int .i64 k)
abbrev repRes (r : Int × Int × Bool) : AV := .tup (.acons (.int .i64 r.1) (.acons (.int .i64 r.2.1) (.acons (.bool r.2.2) .anil)))
theorem repeats_bad (l : List LUse) (h0 : chkL l ≠ 0) : FnIs Try.prog 46 [.d (encLed l)] [] (repRes (0, 0, false)) [] := by
  have hC := ledcheck_is l
  have hn : (!decide (chkL l = 0)) = true := by rw [decide_eq_false h0]; rfl
  refine fnIs_of tab_ok Try.func46 rfl rfl rfl ?_
  refine wc_seq ?_
  refine wc_region ?_
  refine reg_new (step_C tab_ok (fun K hk => hk)) rfl ?_
  refine reg_quiet rfl (step_C tab_ok (fun K hk => hk)) ?_
  refine reg_quiet rfl (step_C tab_ok (fun K hk => hk)) ?_
  refine reg_quiet rfl (step_C tab_ok (fun K hk => hk)) ?_
  refine reg_nil ?_
  refine seq_n ?_
  refine wc_scope ?_
  refine wc_seq ?_
  refine wc_seq ?_
  refine wc_region ?_
  refine reg_quiet rfl (load_box tab_ok rfl rfl rfl rfl) ?_
  refine reg_quiet rfl (call_r hC rfl rfl (arg_e arg_nil) (.inl rfl) (fun _ => rfl)) ?_
  refine reg_quiet rfl (step_C tab_ok (fun K hk => hk)) ?_
  refine reg_nil ?_
  refine seq_n ?_
  refine wc_true rfl (by assumption) ?_
  refine wc_seq ?_
  refine wc_region ?_
  refine reg_quiet rfl (step_C tab_ok (fun K hk => hk)) ?_
  refine reg_quiet rfl (step_C tab_ok (fun K hk => hk)) ?_
  refine reg_quiet rfl (step_C tab_ok (fun K hk => hk)) ?_
  refine reg_nil ?_
  refine seq_n ?_
  refine wc_ret ?_
  refine seq_r ?_
  refine sco_r ?_
  exact ⟨trivial, [], .of rfl rfl rfl rfl rfl ⟨⟨_, rfl, AVLe.of_eq rfl⟩, rfl, trivial⟩ trivial⟩
abbrev seenRow (S : List (LPlace × List Nat)) : Row := .mo (mapC encPl (ownV 1 (fun i => 1000 + i) 0 S))
abbrev ks3 (S : List (LPlace × List Nat)) : List Row := ownR 3 1 encN S
theorem repeats_is (l : List LUse) (h0 : chkL l = 0) : FnIs Try.prog 46 [.d (encLed l)] [] (repRes (repT l)) [] := by
  have hC := ledcheck_is l
  rw [h0] at hC
  obtain ⟨hL, hv⟩ := chk_ok h0
  refine fnIs_of tab_ok Try.func46 rfl rfl rfl ?_
  refine wc_seq ?_
  refine wc_region ?_
  refine reg_new (step_C tab_ok (fun K hk => hk)) rfl ?_
  refine reg_quiet rfl (step_C tab_ok (fun K hk => hk)) ?_
  refine reg_quiet rfl (step_C tab_ok (fun K hk => hk)) ?_
  refine reg_quiet rfl (step_C tab_ok (fun K hk => hk)) ?_
  refine reg_nil ?_
  refine seq_n ?_
  refine wc_scope ?_
  refine wc_seq ?_
  refine wc_seq ?_
  refine wc_region ?_
  refine reg_quiet rfl (load_box tab_ok rfl rfl rfl rfl) ?_
  refine reg_quiet rfl (call_r hC rfl rfl (arg_e arg_nil) (.inl rfl) (fun _ => rfl)) ?_
  refine reg_quiet rfl (step_C tab_ok (fun K hk => hk)) ?_
  refine reg_nil ?_
  refine seq_n ?_
  refine wc_false rfl rfl ?_
  refine wc_skip ?_
  refine seq_n ?_
  refine wc_seq ?_
  refine wc_region ?_
  refine reg_new (make_map) rfl ?_
  refine reg_quiet rfl (step_C tab_ok (fun K hk => hk)) ?_
  refine reg_nil ?_
  refine seq_n ?_
  refine wc_seq ?_
  refine wc_label ?_
  refine seq_n ?_
  refine wc_seq ?_
  refine wc_seq ?_
  refine wc_region ?_
  refine reg_quiet rfl (step_C tab_ok (fun K hk => hk)) ?_
  refine reg_quiet rfl (load_box tab_ok rfl rfl ⟨_, rfl, rfl⟩ rfl) ?_
  refine reg_quiet rfl (len_arr tab_ok rfl rfl) ?_
  refine reg_quiet rfl (step_C tab_ok (fun K hk => hk)) ?_
  refine reg_nil ?_
  refine seq_n ?_
  refine wc_block ?_
  refine wc_inv (fun q : Nat × List (LPlace × List Nat) => ⟨[(18, .int .i64 q.1), (17, .int .i64 l.length), (16, .d (.arr 20 encUse l)), (1, .ptr 64 []), (2, .int .i64 0), (3, .int .i64 0), (4, .bool false), (5, .mapr 72)], [(64, some (.box 88 (.d (encLed l)))), (72, some (seenRow q.2))] ++ numRows 1000 (ks3 q.2), 100000, Try.f46.ntmps, 64⟩)
    (fun q => SeenIs l q.1 q.2) (fun q => l.length - q.1) (0, []) [(72, some 120)] (SeenIs.zero l)
    (.of rfl rfl rfl rfl rfl ⟨⟨_, rfl, .refl _⟩, rfl, ⟨_, rfl, .refl _⟩, rfl, ⟨_, rfl, .refl _⟩, rfl, ⟨_, rfl, .refl _⟩, rfl, ⟨_, rfl, .refl _⟩, rfl, ⟨_, rfl, .refl _⟩, rfl, ⟨_, rfl, .refl _⟩, rfl, ⟨_, rfl, .refl _⟩, rfl, trivial⟩ (LeRows.app ⟨⟨rfl, rfl, _, rfl, .refl _⟩, ⟨rfl, rfl, _, rfl, .refl _⟩, trivial⟩ trivial)) ?_
  rintro ⟨i, S⟩ hinv
  have hi := hinv.le
  refine wc_of ?_
  refine wc_seq ?_
  refine wc_region ?_
  refine reg_quiet rfl (step_C tab_ok (fun K hk => hk)) ?_
  refine reg_nil ?_
  refine seq_n ?_
  refine wc_seq ?_
  refine wc_cond rfl (fun h2 => ?_) (fun h2 => ?_)
  · have hlt : i < l.length := by have := of_decide_eq_true h2; omega
    obtain ⟨u, hu⟩ : ∃ u, l[i]? = some u := ⟨_, List.getElem?_eq_getElem hlt⟩
    have hu' : l[((i : Int)).toNat]? = some u := by rw [Int.toNat_natCast]; exact hu
    have hSl : S.length ≤ 65536 := by have h9 : S.length ≤ i := hinv.len; have : i ≤ l.length := hi; omega
    rcases Classical.em (∃ (j : Nat) (ks : List Nat), S[j]? = some (plU u, ks)) with ⟨j, ks, hj⟩ | hno
    · have hks := hinv.val _ _ _ hj
      have hjl := (List.getElem?_eq_some_iff.1 hj).1
      have hksl : ks.length ≤ 65536 := by
        have h9 : ks.length ≤ i := by rw [hks]; exact idxs_len _ _ _
        have : i ≤ l.length := hi
        omega
      have hf : findC (plU u) (ownV 1 (fun i => 1000 + i) 0 S) 0 = some (j, .own (1000 + j) 0 ks.length 1 none) := by
        refine findC_at _ j (by rw [ownV_get, hj]; simp) fun i' hi' p hp e => ?_
        rw [ownV_get] at hp
        cases hc : S[i']? with
        | none => rw [hc] at hp; cases hp
        | some q =>
          rw [hc] at hp
          simp only [Option.map_some, Option.some.injEq] at hp
          subst hp
          obtain ⟨qp, qk⟩ := q
          have e : qp = plU u := e
          subst e
          have := hinv.one _ _ _ _ _ hc hj
          omega
      have hrj : 1000 ≤ 1000 + j ∧ 1000 + j < 100000 := by omega
      have hlk : lookH (numRows 1000 (ks3 S)) (1000 + j) = some (.ds 3 1 false encN ks) := look_num (by rw [ownR_get, hj]; rfl)
      have hltj : Nat.blt (1000 + j) 100200 = true := Nat.ble_eq_true_of_le (by omega)
      refine wc_skip ?_
      refine seq_n ?_
      refine wc_seq ?_
      refine wc_block ?_
      refine wc_seq ?_
      refine wc_region ?_
      refine reg_quiet rfl (step_C tab_ok (fun K hk => hk)) ?_
      refine reg_quiet rfl (index_arr tab_ok rfl rfl rfl rfl rfl (by omega) (by assumption)) ?_
      refine reg_quiet rfl (load_i tab_ok rfl rfl) ?_
      refine reg_new (step_C tab_ok (fun K hk => hk)) rfl ?_
      refine reg_quiet rfl (step_C tab_ok (fun K hk => hk)) ?_
      refine reg_store (store_row tab_ok rfl rfl rfl ⟨_, ⟨rfl, rfl, rfl⟩, rfl⟩ rfl) ?_
      refine reg_nil ?_
      refine seq_n ?_
      refine wc_seq ?_
      refine wc_region ?_
      refine reg_quiet rfl (step_C tab_ok (fun K hk => hk)) ?_
      refine reg_quiet rfl (load_box tab_ok rfl rfl ⟨_, rfl, rfl⟩ rfl) ?_
      refine reg_quiet rfl (step_C tab_ok (fun K hk => hk)) ?_
      refine reg_quiet rfl (step_C tab_ok (fun K hk => hk)) ?_
      refine reg_quiet rfl (load_box tab_ok rfl rfl ⟨_, rfl, rfl⟩ rfl) ?_
      refine reg_quiet rfl (build_struct tab_ok rfl rfl rfl rfl) ?_
      refine reg_new (step_C tab_ok (fun K hk => hk)) rfl ?_
      refine reg_store (store_row tab_ok rfl rfl rfl ⟨_, ⟨rfl, rfl, rfl⟩, rfl⟩ rfl) ?_
      refine reg_nil ?_
      refine seq_n ?_
      refine wc_seq ?_
      refine wc_seq ?_
      refine wc_region ?_
      refine reg_quiet rfl (step_C tab_ok (fun K hk => hk)) ?_
      refine reg_quiet rfl (load_box tab_ok rfl rfl rfl rfl) ?_
      refine reg_quiet rfl (lookup_some (k := plU u) lp_ty Try.underlying141 rfl rfl rfl hf) ?_
      refine reg_quiet rfl (len_own tab_ok rfl rfl) ?_
      refine reg_quiet rfl (step_C tab_ok (fun K hk => hk)) ?_
      refine reg_nil ?_
      refine seq_n ?_
      refine wc_block ?_
      refine wc_inv (fun m : Nat => ⟨[(33, .int .i64 m), (32, .int .i64 ks.length), (31, .own (1000 + j) 0 ks.length 1 none), (18, .int .i64 i), (17, .int .i64 l.length), (16, .d (.arr 20 encUse l)), (1, .ptr 64 []), (2, .int .i64 0), (3, .int .i64 0), (4, .bool false), (5, .mapr 72), (6, .int .i64 i), (7, .ptr 100032 []), (8, .ptr 100104 [])],
          [(64, some (.box 88 (.d (encLed l)))), (72, some (seenRow S)), (100032, some (.box 84 (.d (encUse u)))), (100104, some (.box 143 (.d (encPl (plU u)))))] ++ numRows 1000 (ks3 S), 100200, Try.f46.ntmps, 64⟩)
        (fun m => m ≤ ks.length ∧ ∀ m', m' < m → ∀ k, ks[m']? = some k → overAt l u k = false) (fun m => ks.length - m) 0 ([(64, some 64), (72, some 72), (100032, some 100032), (100104, some 100104)] ++ [(1000 + 98000, some 200000)]) ⟨Nat.zero_le _, fun _ h => absurd h (Nat.not_lt_zero _)⟩
        (Le.tail rfl rfl rfl rfl rfl rfl rfl rfl rfl rfl (by decide) (by rw [ownR_len]; omega) ⟨⟨_, rfl, .refl _⟩, rfl, ⟨_, rfl, .refl _⟩, rfl, ⟨_, rfl, own_stay rfl (by omega)⟩, hltj, ⟨_, rfl, .refl _⟩, rfl, ⟨_, rfl, .refl _⟩, rfl, ⟨_, rfl, .refl _⟩, rfl, ⟨_, rfl, .refl _⟩, rfl, ⟨_, rfl, .refl _⟩, rfl, ⟨_, rfl, .refl _⟩, rfl, ⟨_, rfl, .refl _⟩, rfl, ⟨_, rfl, .refl _⟩, rfl, ⟨_, rfl, .refl _⟩, rfl, ⟨_, rfl, .refl _⟩, rfl, ⟨_, rfl, .refl _⟩, rfl, trivial⟩
          ⟨⟨rfl, rfl, _, rfl, .refl _⟩, ⟨rfl, own_map_lt rfl (by omega), _, rfl, own_map_le rfl (by omega) (ownV_len _ _) (fun i' p hp => by rw [ownV_get, hp, nameAt_stay (by have := (List.getElem?_eq_some_iff.1 hp).1; omega)]; simp)⟩, ⟨rfl, rfl, _, rfl, .refl _⟩, ⟨rfl, rfl, _, rfl, .refl _⟩, trivial⟩ (fun i' row hrow => by
        rw [ownR_get] at hrow
        cases hc : S[i']? with
        | none => rw [hc] at hrow; cases hrow
        | some q =>
          rw [hc] at hrow
          cases hrow
          have hi' := (List.getElem?_eq_some_iff.1 hc).1
          refine ⟨rfl, .ds 3 1 false encN q.2, ?_, ds_ren⟩
          rw [nameAt_stay (by omega), ← lookH_row]
          repeat (first | exact look_num (by rw [ownR_get, hc]; rfl) | refine far rfl (by omega) ?_))) ?_
      rintro m ⟨hm, hmno⟩
      refine wc_of ?_
      refine wc_seq ?_
      refine wc_region ?_
      refine reg_quiet rfl (step_C tab_ok (fun K hk => hk)) ?_
      refine reg_nil ?_
      refine seq_n ?_
      refine wc_seq ?_
      refine wc_cond rfl (fun h3 => ?_) (fun h3 => ?_)
      · have hmlt : m < ks.length := by have := of_decide_eq_true h3; omega
        obtain ⟨k, hk⟩ : ∃ k, ks[m]? = some k := ⟨_, List.getElem?_eq_getElem hmlt⟩
        have hk' : ks[((m : Int)).toNat]? = some k := by rw [Int.toNat_natCast]; exact hk
        have hkm := idxs_mem.1 (hks ▸ List.mem_of_getElem? hk)
        have hkl : k < l.length := by have := hkm.1; have : i ≤ l.length := hi; omega
        obtain ⟨a, ha⟩ : ∃ a, l[k]? = some a := ⟨_, List.getElem?_eq_getElem hkl⟩
        have ha' : l[((k : Int)).toNat]? = some a := by rw [Int.toNat_natCast]; exact ha
        cases ho : overL a.range u.range with
        | true =>
          refine wc_skip ?_
          refine seq_n ?_
          refine wc_seq ?_
          refine wc_block ?_
          refine wc_seq ?_
          refine wc_region ?_
          refine reg_quiet rfl (index_own tab_ok rfl rfl rfl rfl rfl (by omega) (by omega)) ?_
          refine reg_quiet rfl (load_row (row := .ds 3 1 false encN ks) tab_ok rfl (by repeat (first | exact hlk | refine far rfl hrj ?_)) ⟨rfl, k, hk', _, rfl, rfl⟩ rfl) ?_
          refine reg_quiet rfl (step_C tab_ok (fun K hk => hk)) ?_
          refine reg_nil ?_
          refine seq_n ?_
          refine wc_seq ?_
          refine wc_draw (by kernel_rfl) ?_
          refine dreg_q [1] [64] rfl (step_C tab_ok (fun K hk => hk)) ?_
          refine dreg_q [37] [64] rfl (load_box tab_ok rfl rfl ⟨_, rfl, rfl⟩ rfl) ?_
          refine dreg_q [10] [] rfl (step_C tab_ok (fun K hk => hk)) ?_
          refine dreg_q [38, 39] [] rfl (index_arr tab_ok rfl rfl rfl rfl rfl (by omega) (by assumption)) ?_
          refine dreg_q [40] [] rfl (step_C tab_ok (fun K hk => hk)) ?_
          refine dreg_q [41] [] rfl (load_i tab_ok rfl rfl) ?_
          refine dreg_q [7] [100032] rfl (step_C tab_ok (fun K hk => hk)) ?_
          refine dreg_q [43] [100032] rfl (load_box tab_ok rfl rfl ⟨_, rfl, rfl⟩ rfl) ?_
          refine dreg_q [42, 44] [] rfl (call_r (overlap_is a.range u.range) rfl rfl (arg_e (arg_e arg_nil)) (.inl rfl) (fun _ => rfl)) ?_
          refine dreg_end (by kernel_rfl) ?_
          refine seq_n ?_
          refine wc_true rfl (by assumption) ?_
          refine wc_seq ?_
          refine wc_region ?_
          refine reg_quiet rfl (step_C tab_ok (fun K hk => hk)) ?_
          refine reg_quiet rfl (step_C tab_ok (fun K hk => hk)) ?_
          refine reg_quiet rfl (step_C tab_ok (fun K hk => hk)) ?_
          refine reg_quiet rfl (step_C tab_ok (fun K hk => hk)) ?_
          refine reg_quiet rfl (step_C tab_ok (fun K hk => hk)) ?_
          refine reg_nil ?_
          refine seq_n ?_
          refine wc_exit ?_
          refine blk_y rfl ?_
          refine seq_x ?_
          refine loop_x ?_
          refine blk_y rfl ?_
          refine seq_x ?_
          refine blk_y rfl ?_
          refine seq_x ?_
          refine loop_x ?_
          refine blk_x ?_
          refine seq_n ?_
          refine wc_seq ?_
          refine wc_region ?_
          refine reg_quiet rfl (step_C tab_ok (fun K hk => hk)) ?_
          refine reg_quiet rfl (step_C tab_ok (fun K hk => hk)) ?_
          refine reg_quiet rfl (step_C tab_ok (fun K hk => hk)) ?_
          refine reg_quiet rfl (step_C tab_ok (fun K hk => hk)) ?_
          refine reg_quiet rfl (step_C tab_ok (fun K hk => hk)) ?_
          refine reg_quiet rfl (step_C tab_ok (fun K hk => hk)) ?_
          refine reg_nil ?_
          refine seq_n ?_
          refine wc_ret ?_
          refine sco_r ?_
          have hr : repT l = ((k : Int), (i : Int), true) := by
            rw [repT, first_hit hinv hv hu hks hk hmno (by simp only [overAt, ha]; exact ho)]
          rw [hr]
          exact ⟨trivial, [], .of rfl rfl rfl rfl rfl ⟨⟨_, rfl, AVLe.of_eq rfl⟩, rfl, trivial⟩ trivial⟩
        | false =>
          refine wc_skip ?_
          refine seq_n ?_
          refine wc_seq ?_
          refine wc_block ?_
          refine wc_seq ?_
          refine wc_region ?_
          refine reg_quiet rfl (index_own tab_ok rfl rfl rfl rfl rfl (by omega) (by omega)) ?_
          refine reg_quiet rfl (load_row (row := .ds 3 1 false encN ks) tab_ok rfl (by repeat (first | exact hlk | refine far rfl hrj ?_)) ⟨rfl, k, hk', _, rfl, rfl⟩ rfl) ?_
          refine reg_quiet rfl (step_C tab_ok (fun K hk => hk)) ?_
          refine reg_nil ?_
          refine seq_n ?_
          refine wc_seq ?_
          refine wc_draw (by kernel_rfl) ?_
          refine dreg_q [1] [64] rfl (step_C tab_ok (fun K hk => hk)) ?_
          refine dreg_q [37] [64] rfl (load_box tab_ok rfl rfl ⟨_, rfl, rfl⟩ rfl) ?_
          refine dreg_q [10] [] rfl (step_C tab_ok (fun K hk => hk)) ?_
          refine dreg_q [38, 39] [] rfl (index_arr tab_ok rfl rfl rfl rfl rfl (by omega) (by assumption)) ?_
          refine dreg_q [40] [] rfl (step_C tab_ok (fun K hk => hk)) ?_
          refine dreg_q [41] [] rfl (load_i tab_ok rfl rfl) ?_
          refine dreg_q [7] [100032] rfl (step_C tab_ok (fun K hk => hk)) ?_
          refine dreg_q [43] [100032] rfl (load_box tab_ok rfl rfl ⟨_, rfl, rfl⟩ rfl) ?_
          refine dreg_q [42, 44] [] rfl (call_r (overlap_is a.range u.range) rfl rfl (arg_e (arg_e arg_nil)) (.inl rfl) (fun _ => rfl)) ?_
          refine dreg_end (by kernel_rfl) ?_
          refine seq_n ?_
          refine wc_false rfl (by assumption) ?_
          refine wc_skip ?_
          refine blk_n ?_
          refine seq_n ?_
          refine wc_region ?_
          refine reg_quiet rfl (add_int tab_ok rfl rfl (wrap_i64 (by omega) (by omega))) ?_
          refine reg_quiet rfl (step_C tab_ok (fun K hk => hk)) ?_
          refine reg_nil ?_
          refine loop_n (m + 1) ([(64, some 64), (72, some 72), (100032, some 100032), (100104, some 100104)] ++ [(1000 + 98000, some 200000)]) ⟨hmlt, fun m' hm' k' hk2 => ?_⟩ (by omega) ?_
          · by_cases e : m' = m
            · subst e
              rw [hk] at hk2
              cases hk2
              simp only [overAt, ha]
              exact ho
            · exact hmno m' (by omega) k' hk2
          · exact Le.tail rfl rfl rfl rfl rfl rfl rfl rfl rfl rfl (by decide) (by rw [ownR_len]; omega) ⟨⟨_, rfl, .refl _⟩, rfl, ⟨_, rfl, .refl _⟩, rfl, ⟨_, rfl, own_stay rfl (by omega)⟩, hltj, ⟨_, rfl, .refl _⟩, rfl, ⟨_, rfl, .refl _⟩, rfl, ⟨_, rfl, .refl _⟩, rfl, ⟨_, rfl, .refl _⟩, rfl, ⟨_, rfl, .refl _⟩, rfl, ⟨_, rfl, .refl _⟩, rfl, ⟨_, rfl, .refl _⟩, rfl, ⟨_, rfl, .refl _⟩, rfl, ⟨_, rfl, .refl _⟩, rfl, ⟨_, rfl, .refl _⟩, rfl, ⟨_, rfl, .refl _⟩, rfl, trivial⟩
              ⟨⟨rfl, rfl, _, rfl, .refl _⟩, ⟨rfl, own_map_lt rfl (by omega), _, rfl, own_map_le rfl (by omega) (ownV_len _ _) (fun i' p hp => by rw [ownV_get, hp, nameAt_stay (by have := (List.getElem?_eq_some_iff.1 hp).1; omega)]; simp)⟩, ⟨rfl, rfl, _, rfl, .refl _⟩, ⟨rfl, rfl, _, rfl, .refl _⟩, trivial⟩ (fun i' row hrow => by
            rw [ownR_get] at hrow
            cases hc : S[i']? with
            | none => rw [hc] at hrow; cases hrow
            | some q =>
              rw [hc] at hrow
              cases hrow
              have hi' := (List.getElem?_eq_some_iff.1 hc).1
              refine ⟨rfl, .ds 3 1 false encN q.2, ?_, ds_ren⟩
              rw [nameAt_stay (by omega), ← lookH_row]
              repeat (first | exact look_num (by rw [ownR_get, hc]; rfl) | refine far rfl (by omega) ?_))
      · have hme : m = ks.length := by have := of_decide_eq_false h3; omega
        subst hme
        have hnh := no_hit hv hu hks hmno
        have hjV : j < (ownV 1 (fun i => 1000 + i) 0 S).length := by rw [ownV_len]; exact hjl
        refine wc_exit ?_
        refine seq_x ?_
        refine loop_x ?_
        refine blk_x ?_
        refine seq_n ?_
        refine wc_region ?_
        refine reg_quiet rfl (step_C tab_ok (fun K hk => hk)) ?_
        refine reg_quiet rfl (load_box tab_ok rfl rfl rfl rfl) ?_
        refine reg_quiet rfl (step_C tab_ok (fun K hk => hk)) ?_
        refine reg_new (build_slice (s := 1) tab_ok rfl rfl rfl rfl rfl rfl rfl rfl) rfl ?_
        refine reg_quiet rfl (entry_some (k := plU u) lp_ty Try.underlying141 rfl rfl rfl hf) ?_
        refine reg_quiet rfl (step_C tab_ok (fun K hk => hk)) ?_
        refine reg_new2 (append_one (xs := ks) (enc := encN) (s := 1) tab_ok i rfl rfl rfl rfl rfl (by repeat (first | exact hlk | refine far rfl hrj ?_)) rfl rfl rfl (by omega) rfl) rfl ?_
        refine reg_quiet rfl (step_C tab_ok (fun K hk => hk)) ?_
        refine reg_do rfl (entry_store hjV rfl rfl rfl (look_skip (by decide) (look_skip (by omega) rfl))) rfl rfl ?_
        refine reg_nil ?_
        refine blk_n ?_
        refine seq_n ?_
        refine wc_region ?_
        refine reg_quiet rfl (add_int tab_ok rfl rfl (wrap_i64 (by omega) (by omega))) ?_
        refine reg_quiet rfl (step_C tab_ok (fun K hk => hk)) ?_
        refine reg_nil ?_
        refine loop_n (i + 1, S.set j (plU u, ks ++ [i])) ([(64, some 64), (72, some 72)] ++ [(1000 + j, some 100256)]) (hinv.hit hu hj hnh) (show l.length - (i + 1) < l.length - i by omega) ?_
        refine Le.tail rfl rfl rfl rfl rfl rfl rfl rfl rfl rfl (by omega) (by rw [ownR_len, List.length_set]; omega) ⟨⟨_, rfl, .refl _⟩, rfl, ⟨_, rfl, .refl _⟩, rfl, ⟨_, rfl, .refl _⟩, rfl, ⟨_, rfl, .refl _⟩, rfl, ⟨_, rfl, .refl _⟩, rfl, ⟨_, rfl, .refl _⟩, rfl, ⟨_, rfl, .refl _⟩, rfl, ⟨_, rfl, .refl _⟩, rfl, trivial⟩
          ⟨⟨rfl, rfl, _, (lookH_row _ _).symm.trans (look_skip (by decide) (look_skip (by decide) (look_skip (by omega) rfl))), .refl _⟩, ⟨rfl, own_map_lt rfl (by rw [List.length_set]; omega), _, rfl, own_map_le rfl (by rw [List.length_set]; omega) ?_ (own_put hj)⟩, trivial⟩ (fun i' row hrow => ?_)
        · have := putC_len (ownV 1 (fun i => 1000 + i) 0 S) j (.own 100256 0 (ks.length + 1) 1 none)
          rw [this, ownV_len, List.length_set]
        · rw [ownR_get] at hrow
          by_cases h : i' = j
          · subst h
            rw [List.getElem?_set, if_pos rfl, if_pos hjl] at hrow
            cases hrow
            exact ⟨rfl, .ds 3 1 false encN (ks ++ [i]), by rw [nameAt_eq]; rfl, ds_ren⟩
          · rw [List.getElem?_set, if_neg (Ne.symm h)] at hrow
            cases hc : S[i']? with
            | none => rw [hc] at hrow; cases hrow
            | some q =>
              rw [hc] at hrow
              cases hrow
              have hi' := (List.getElem?_eq_some_iff.1 hc).1
              refine ⟨rfl, .ds 3 1 false encN q.2, ?_, ds_ren⟩
              rw [nameAt_ne h, ← lookH_row]
              repeat (first | exact look_num (by rw [ownR_get, hc]; rfl) | refine look_skip (by omega) ?_)
    · have hf : findC (plU u) (ownV 1 (fun i => 1000 + i) 0 S) 0 = none := by
        refine findC_no _ _ fun p hp e => ?_
        obtain ⟨i', hi'⟩ := List.mem_iff_getElem?.1 hp
        rw [ownV_get] at hi'
        cases hc : S[i']? with
        | none => rw [hc] at hi'; cases hi'
        | some q =>
          rw [hc] at hi'
          simp only [Option.map_some, Option.some.injEq] at hi'
          subst hi'
          obtain ⟨qp, qk⟩ := q
          have e : qp = plU u := e
          subst e
          exact hno ⟨i', qk, hc⟩
      have hnj : ∀ (j : Nat) (ks : List Nat), S[j]? ≠ some (plU u, ks) := fun j ks h => hno ⟨j, ks, h⟩
      have hnh := no_hit hv hu (hinv.all _ hnj).symm (fun m h => absurd h (Nat.not_lt_zero _))
      have hjV : (ownV 1 (fun i => 1000 + i) 0 S).length < (ownV 1 (fun i => 1000 + i) 0 S ++ [(plU u, AV.d (.sc (.slice none 0 0)))]).length := by simp
      refine wc_skip ?_
      refine seq_n ?_
      refine wc_seq ?_
      refine wc_block ?_
      refine wc_seq ?_
      refine wc_region ?_
      refine reg_quiet rfl (step_C tab_ok (fun K hk => hk)) ?_
      refine reg_quiet rfl (index_arr tab_ok rfl rfl rfl rfl rfl (by omega) (by assumption)) ?_
      refine reg_quiet rfl (load_i tab_ok rfl rfl) ?_
      refine reg_new (step_C tab_ok (fun K hk => hk)) rfl ?_
      refine reg_quiet rfl (step_C tab_ok (fun K hk => hk)) ?_
      refine reg_store (store_row tab_ok rfl rfl rfl ⟨_, ⟨rfl, rfl, rfl⟩, rfl⟩ rfl) ?_
      refine reg_nil ?_
      refine seq_n ?_
      refine wc_seq ?_
      refine wc_region ?_
      refine reg_quiet rfl (step_C tab_ok (fun K hk => hk)) ?_
      refine reg_quiet rfl (load_box tab_ok rfl rfl ⟨_, rfl, rfl⟩ rfl) ?_
      refine reg_quiet rfl (step_C tab_ok (fun K hk => hk)) ?_
      refine reg_quiet rfl (step_C tab_ok (fun K hk => hk)) ?_
      refine reg_quiet rfl (load_box tab_ok rfl rfl ⟨_, rfl, rfl⟩ rfl) ?_
      refine reg_quiet rfl (build_struct tab_ok rfl rfl rfl rfl) ?_
      refine reg_new (step_C tab_ok (fun K hk => hk)) rfl ?_
      refine reg_store (store_row tab_ok rfl rfl rfl ⟨_, ⟨rfl, rfl, rfl⟩, rfl⟩ rfl) ?_
      refine reg_nil ?_
      refine seq_n ?_
      refine wc_seq ?_
      refine wc_seq ?_
      refine wc_region ?_
      refine reg_quiet rfl (step_C tab_ok (fun K hk => hk)) ?_
      refine reg_quiet rfl (load_box tab_ok rfl rfl rfl rfl) ?_
      refine reg_quiet rfl (lookup_none (k := plU u) lp_ty Try.underlying141 seen_zero rfl rfl rfl hf) ?_
      refine reg_quiet rfl (len_nil tab_ok rfl rfl) ?_
      refine reg_quiet rfl (step_C tab_ok (fun K hk => hk)) ?_
      refine reg_nil ?_
      refine seq_n ?_
      refine wc_block ?_
      refine wc_once ?_
      refine wc_seq ?_
      refine wc_region ?_
      refine reg_quiet rfl (step_C tab_ok (fun K hk => hk)) ?_
      refine reg_nil ?_
      refine seq_n ?_
      refine wc_seq ?_
      refine wc_false rfl rfl ?_
      refine wc_exit ?_
      refine seq_x ?_
      refine loop_x ?_
      refine blk_x ?_
      refine seq_n ?_
      refine wc_region ?_
      refine reg_quiet rfl (step_C tab_ok (fun K hk => hk)) ?_
      refine reg_quiet rfl (load_box tab_ok rfl rfl rfl rfl) ?_
      refine reg_quiet rfl (step_C tab_ok (fun K hk => hk)) ?_
      refine reg_new (build_slice (s := 1) tab_ok rfl rfl rfl rfl rfl rfl rfl rfl) rfl ?_
      refine reg_new (entry_none (k := plU u) lp_ty Try.underlying141 seen_zero rfl rfl rfl hf) rfl ?_
      refine reg_quiet rfl (step_C tab_ok (fun K hk => hk)) ?_
      refine reg_new (append_nil_one (enc := encN) (s := 1) tab_ok i rfl rfl rfl rfl rfl rfl rfl rfl) rfl ?_
      refine reg_quiet rfl (step_C tab_ok (fun K hk => hk)) ?_
      refine reg_do rfl (entry_store hjV rfl rfl rfl rfl) rfl rfl ?_
      refine reg_nil ?_
      refine blk_n ?_
      refine seq_n ?_
      refine wc_region ?_
      refine reg_quiet rfl (add_int tab_ok rfl rfl (wrap_i64 (by omega) (by omega))) ?_
      refine reg_quiet rfl (step_C tab_ok (fun K hk => hk)) ?_
      refine reg_nil ?_
      refine loop_n (i + 1, S ++ [(plU u, [i])]) ([(64, some 64), (72, some 72)] ++ [(1000 + S.length, some 100216)]) (hinv.new hu hnj hnh) (show l.length - (i + 1) < l.length - i by omega) ?_
      refine Le.tail rfl rfl rfl rfl rfl rfl rfl rfl rfl rfl (by omega) (by rw [ownR_len]; simp; omega) ⟨⟨_, rfl, .refl _⟩, rfl, ⟨_, rfl, .refl _⟩, rfl, ⟨_, rfl, .refl _⟩, rfl, ⟨_, rfl, .refl _⟩, rfl, ⟨_, rfl, .refl _⟩, rfl, ⟨_, rfl, .refl _⟩, rfl, ⟨_, rfl, .refl _⟩, rfl, ⟨_, rfl, .refl _⟩, rfl, trivial⟩
        ⟨⟨rfl, rfl, _, rfl, .refl _⟩, ⟨rfl, own_map_lt rfl (by simp; omega), _, rfl, own_map_le rfl (by simp; omega) ?_ own_new⟩, trivial⟩ (fun i' row hrow => ?_)
      · rw [putC_len, List.length_append, ownV_len]; simp
      · rw [ownR_get] at hrow
        by_cases h : i' = S.length
        · subst h
          simp only [List.getElem?_append_right (Nat.le_refl _), Nat.sub_self, List.getElem?_cons_zero, Option.map_some, Option.some.injEq] at hrow
          subst hrow
          exact ⟨rfl, .ds 3 1 false encN [i], by rw [nameAt_eq]; rfl, ds_ren⟩
        · cases hc : (S ++ [(plU u, [i])])[i']? with
          | none => rw [hc] at hrow; cases hrow
          | some q =>
            rw [hc] at hrow
            cases hrow
            have hi' := (List.getElem?_eq_some_iff.1 hc).1
            have hi2 : i' < S.length := by simp at hi'; omega
            rw [List.getElem?_append_left hi2] at hc
            refine ⟨rfl, .ds 3 1 false encN q.2, ?_, ds_ren⟩
            rw [nameAt_ne h, ← lookH_row]
            repeat (first | exact look_num (by rw [ownR_get, hc]; rfl) | refine look_skip (by omega) ?_)
  · have he : i = l.length := by have := of_decide_eq_false h2; omega
    refine wc_exit ?_
    refine seq_x ?_
    refine loop_x ?_
    refine blk_x ?_
    refine seq_n ?_
    refine wc_seq ?_
    refine wc_region ?_
    refine reg_quiet rfl (step_C tab_ok (fun K hk => hk)) ?_
    refine reg_quiet rfl (step_C tab_ok (fun K hk => hk)) ?_
    refine reg_quiet rfl (step_C tab_ok (fun K hk => hk)) ?_
    refine reg_quiet rfl (step_C tab_ok (fun K hk => hk)) ?_
    refine reg_quiet rfl (step_C tab_ok (fun K hk => hk)) ?_
    refine reg_quiet rfl (step_C tab_ok (fun K hk => hk)) ?_
    refine reg_nil ?_
    refine seq_n ?_
    refine wc_ret ?_
    refine sco_r ?_
    have hr : repT l = (0, 0, false) := by
      have e : repF l = none := repF_none fun j' hj' => hinv.no j' (by omega)
      rw [repT, e]
    rw [hr]
    exact ⟨trivial, [], .of rfl rfl rfl rfl rfl ⟨⟨_, rfl, AVLe.of_eq rfl⟩, rfl, trivial⟩ trivial⟩
end Go.Proofs.Ytjpjchohpjbknaa

/- strings.Builder: the copy check, a byte written, the string. -/
namespace Go.Proofs.Ytjpjchohpjbknaa
open Go.Eng
set_option maxHeartbeats 2000000
set_option maxRecDepth 20000
attribute [local irreducible] WC RegS RegD SeqQ BlkQ ScoQ RegK CutK Sat SatN FnIs LoopQ StepIs OpIs
/-- What a builder's pointer to itself holds: nothing as long as it is fresh. -/
def bAV (b : Bool) (r : Nat) : AV := match b with
  | true => .d (.sc nilp)
  | false => .ptr r []
abbrev bldRow (b : Bool) (r q n : Nat) : Row := .box 127 (.acons (bAV b r) (.acons (.own q 0 n 1 none) (.d .nil)))
abbrev rowT (l : List UInt8) : Row := .ds 5 1 false encU8 (byI l)
theorem byI_app (a b : List UInt8) : byI a ++ byI b = byI (a ++ b) := by simp [byI]
theorem byI_len (l : List UInt8) : (byI l).length = l.length := by simp [byI]
theorem copycheck_fresh (l : List UInt8) (n : Nat) : FnIs Try.prog 86 [.ptr 0 []] [(0, .box 127 (.acons (.d (.sc nilp)) (.acons (.own 1 0 n 1 none) (.d .nil)))), (1, rowT l)] (.tup .anil) [(0, .box 127 (.acons (.ptr 0 []) (.acons (.own 1 0 n 1 none) (.d .nil)))), (1, rowT l)] := by
  refine fnIs_of tab_ok Try.func86 rfl rfl rfl ?_
  refine wc_seq ?_
  refine wc_region ?_
  refine reg_quiet rfl (step_C tab_ok (fun K hk => hk)) ?_
  refine reg_quiet rfl (step_C tab_ok (fun K hk => hk)) ?_
  refine reg_quiet rfl (step_C tab_ok (fun K hk => hk)) ?_
  refine reg_quiet rfl (load_box tab_ok rfl rfl rfl rfl) ?_
  refine reg_quiet rfl (eql_pn rfl rfl rfl) ?_
  refine reg_nil ?_
  refine seq_n ?_
  refine wc_true rfl rfl ?_
  refine wc_region ?_
  refine reg_quiet rfl (step_C tab_ok (fun K hk => hk)) ?_
  refine reg_quiet rfl (step_C tab_ok (fun K hk => hk)) ?_
  refine reg_quiet rfl (conv_ptr_to tab_ok rfl rfl rfl rfl rfl rfl rfl rfl) ?_
  refine reg_quiet rfl (native_same rfl rfl rfl rfl rfl rfl) ?_
  refine reg_quiet rfl (conv_ptr_from tab_ok rfl rfl rfl rfl rfl rfl (by kernel_rfl)) ?_
  refine reg_quiet rfl (step_C tab_ok (fun K hk => hk)) ?_
  refine reg_quiet rfl (step_C tab_ok (fun K hk => hk)) ?_
  refine reg_store (store_row tab_ok rfl rfl rfl ⟨_, ⟨_, ⟨rfl, rfl, rfl⟩, rfl⟩, rfl⟩ rfl) ?_
  refine reg_nil ?_
  exact ⟨trivial, [], .of rfl rfl rfl rfl rfl ⟨⟨_, rfl, AVLe.of_eq rfl⟩, rfl, trivial⟩ ⟨⟨rfl, rfl, _, rfl, .refl _⟩, ⟨rfl, rfl, _, rfl, .refl _⟩, trivial⟩⟩
theorem copycheck_used (l : List UInt8) (n : Nat) : FnIs Try.prog 86 [.ptr 0 []] [(0, .box 127 (.acons (.ptr 0 []) (.acons (.own 1 0 n 1 none) (.d .nil)))), (1, rowT l)] (.tup .anil) [(0, .box 127 (.acons (.ptr 0 []) (.acons (.own 1 0 n 1 none) (.d .nil)))), (1, rowT l)] := by
  refine fnIs_of tab_ok Try.func86 rfl rfl rfl ?_
  refine wc_seq ?_
  refine wc_region ?_
  refine reg_quiet rfl (step_C tab_ok (fun K hk => hk)) ?_
  refine reg_quiet rfl (step_C tab_ok (fun K hk => hk)) ?_
  refine reg_quiet rfl (step_C tab_ok (fun K hk => hk)) ?_
  refine reg_quiet rfl (load_box tab_ok rfl rfl rfl rfl) ?_
  refine reg_quiet rfl (eql_ptr rfl rfl rfl) ?_
  refine reg_nil ?_
  refine seq_n ?_
  refine wc_false rfl rfl ?_
  refine wc_seq ?_
  refine wc_region ?_
  refine reg_quiet rfl (step_C tab_ok (fun K hk => hk)) ?_
  refine reg_quiet rfl (step_C tab_ok (fun K hk => hk)) ?_
  refine reg_quiet rfl (step_C tab_ok (fun K hk => hk)) ?_
  refine reg_quiet rfl (load_box tab_ok rfl rfl rfl rfl) ?_
  refine reg_quiet rfl (step_C tab_ok (fun K hk => hk)) ?_
  refine reg_quiet rfl (neq_self tab_ok rfl rfl rfl rfl) ?_
  refine reg_nil ?_
  refine seq_n ?_
  refine wc_false rfl rfl ?_
  refine wc_skip ?_
  exact ⟨trivial, [], .of rfl rfl rfl rfl rfl ⟨⟨_, rfl, AVLe.of_eq rfl⟩, rfl, trivial⟩ ⟨⟨rfl, rfl, _, rfl, .refl _⟩, ⟨rfl, rfl, _, rfl, .refl _⟩, trivial⟩⟩
theorem writebyte_fresh (l : List UInt8) (c : UInt8) (n : Nat) (hn : l.length = n) (hlen : n + 1 ≤ 1048576) : FnIs Try.prog 64 [.ptr 0 [], .int .u8 c.toNat] [(0, bldRow true 0 1 n), (1, rowT l)] (.d (.sc .nilIface)) [(0, bldRow false 0 64 (n + 1)), (64, rowT (l ++ [c]))] := by
  obtain rfl : (byI l).length = n := by rw [byI_len]; exact hn
  have hcc := copycheck_fresh l (byI l).length
  have hlen2 : (byI l).length + 1 ≤ 1048576 := hlen
  refine fnIs_of tab_ok Try.func64 rfl rfl rfl ?_
  refine wc_seq ?_
  refine wc_region ?_
  refine reg_quiet rfl (step_C tab_ok (fun K hk => hk)) ?_
  refine reg_nil ?_
  refine seq_n ?_
  refine wc_seq ?_
  refine wc_region ?_
  refine reg_quiet rfl (step_C tab_ok (fun K hk => hk)) ?_
  refine reg_do rfl (call_h [(0, some 0), (1, some 1)] hcc rfl rfl rfl (arg_ptr rfl rfl arg_nil) ⟨⟨rfl, rfl, _, _, rfl, rfl, .refl _⟩, ⟨rfl, rfl, _, _, rfl, rfl, .refl _⟩, trivial⟩ rfl rfl (.inl rfl) rfl rfl) rfl rfl ?_
  refine reg_nil ?_
  refine seq_n ?_
  refine wc_seq ?_
  refine wc_region ?_
  refine reg_quiet rfl (step_C tab_ok (fun K hk => hk)) ?_
  refine reg_quiet rfl (step_C tab_ok (fun K hk => hk)) ?_
  refine reg_quiet rfl (step_C tab_ok (fun K hk => hk)) ?_
  refine reg_quiet rfl (step_C tab_ok (fun K hk => hk)) ?_
  refine reg_quiet rfl (load_box tab_ok rfl rfl rfl rfl) ?_
  refine reg_quiet rfl (step_C tab_ok (fun K hk => hk)) ?_
  refine reg_new (build_slice tab_ok rfl rfl rfl rfl rfl rfl rfl rfl) rfl ?_
  refine reg_new2 (append_one (s := 1) (enc := encU8) tab_ok (c.toNat : Int) rfl rfl rfl rfl rfl rfl rfl rfl rfl hlen2 rfl) rfl ?_
  refine reg_quiet rfl (step_C tab_ok (fun K hk => hk)) ?_
  refine reg_quiet rfl (step_C tab_ok (fun K hk => hk)) ?_
  refine reg_store (store_row tab_ok rfl rfl rfl ⟨_, ⟨_, ⟨rfl, rfl, rfl⟩, rfl⟩, rfl⟩ rfl) ?_
  refine reg_nil ?_
  refine seq_n ?_
  refine wc_seq ?_
  refine wc_region ?_
  refine reg_quiet rfl (step_C tab_ok (fun K hk => hk)) ?_
  refine reg_nil ?_
  refine seq_n ?_
  refine wc_ret ?_
  rw [show byI l ++ [(c.toNat : Int)] = byI (l ++ [c]) from byI_app l [c]]
  exact ⟨trivial, [(64, some 144)], .of rfl rfl rfl rfl rfl ⟨⟨_, rfl, AVLe.of_eq rfl⟩, rfl, trivial⟩ ⟨⟨rfl, rfl, _, rfl, .refl _⟩, ⟨rfl, rfl, _, rfl, .refl _⟩, trivial⟩⟩
theorem writebyte_used (l : List UInt8) (c : UInt8) (n : Nat) (hn : l.length = n) (hlen : n + 1 ≤ 1048576) : FnIs Try.prog 64 [.ptr 0 [], .int .u8 c.toNat] [(0, bldRow false 0 1 n), (1, rowT l)] (.d (.sc .nilIface)) [(0, bldRow false 0 64 (n + 1)), (64, rowT (l ++ [c]))] := by
  obtain rfl : (byI l).length = n := by rw [byI_len]; exact hn
  have hcc := copycheck_used l (byI l).length
  have hlen2 : (byI l).length + 1 ≤ 1048576 := hlen
  refine fnIs_of tab_ok Try.func64 rfl rfl rfl ?_
  refine wc_seq ?_
  refine wc_region ?_
  refine reg_quiet rfl (step_C tab_ok (fun K hk => hk)) ?_
  refine reg_nil ?_
  refine seq_n ?_
  refine wc_seq ?_
  refine wc_region ?_
  refine reg_quiet rfl (step_C tab_ok (fun K hk => hk)) ?_
  refine reg_do rfl (call_h [(0, some 0), (1, some 1)] hcc rfl rfl rfl (arg_ptr rfl rfl arg_nil) ⟨⟨rfl, rfl, _, _, rfl, rfl, .refl _⟩, ⟨rfl, rfl, _, _, rfl, rfl, .refl _⟩, trivial⟩ rfl rfl (.inl rfl) rfl rfl) rfl rfl ?_
  refine reg_nil ?_
  refine seq_n ?_
  refine wc_seq ?_
  refine wc_region ?_
  refine reg_quiet rfl (step_C tab_ok (fun K hk => hk)) ?_
  refine reg_quiet rfl (step_C tab_ok (fun K hk => hk)) ?_
  refine reg_quiet rfl (step_C tab_ok (fun K hk => hk)) ?_
  refine reg_quiet rfl (step_C tab_ok (fun K hk => hk)) ?_
  refine reg_quiet rfl (load_box tab_ok rfl rfl rfl rfl) ?_
  refine reg_quiet rfl (step_C tab_ok (fun K hk => hk)) ?_
  refine reg_new (build_slice tab_ok rfl rfl rfl rfl rfl rfl rfl rfl) rfl ?_
  refine reg_new2 (append_one (s := 1) (enc := encU8) tab_ok (c.toNat : Int) rfl rfl rfl rfl rfl rfl rfl rfl rfl hlen2 rfl) rfl ?_
  refine reg_quiet rfl (step_C tab_ok (fun K hk => hk)) ?_
  refine reg_quiet rfl (step_C tab_ok (fun K hk => hk)) ?_
  refine reg_store (store_row tab_ok rfl rfl rfl ⟨_, ⟨_, ⟨rfl, rfl, rfl⟩, rfl⟩, rfl⟩ rfl) ?_
  refine reg_nil ?_
  refine seq_n ?_
  refine wc_seq ?_
  refine wc_region ?_
  refine reg_quiet rfl (step_C tab_ok (fun K hk => hk)) ?_
  refine reg_nil ?_
  refine seq_n ?_
  refine wc_ret ?_
  rw [show byI l ++ [(c.toNat : Int)] = byI (l ++ [c]) from byI_app l [c]]
  exact ⟨trivial, [(64, some 144)], .of rfl rfl rfl rfl rfl ⟨⟨_, rfl, AVLe.of_eq rfl⟩, rfl, trivial⟩ ⟨⟨rfl, rfl, _, rfl, .refl _⟩, ⟨rfl, rfl, _, rfl, .refl _⟩, trivial⟩⟩
theorem writebyte_is (b : Bool) (l : List UInt8) (c : UInt8) (n : Nat) (hn : l.length = n) (hlen : n + 1 ≤ 1048576) : FnIs Try.prog 64 [.ptr 0 [], .int .u8 c.toNat] [(0, bldRow b 0 1 n), (1, rowT l)] (.d (.sc .nilIface)) [(0, bldRow false 0 64 (n + 1)), (64, rowT (l ++ [c]))] := by
  cases b with
  | true => exact writebyte_fresh l c n hn hlen
  | false => exact writebyte_used l c n hn hlen
theorem bstring_is (l : List UInt8) (n : Nat) (hn : l.length = n) (hne : l ≠ []) (hlen : n ≤ 1048576) : FnIs Try.prog 65 [.ptr 0 []] [(0, bldRow false 0 1 n), (1, rowT l)] (.d (strD l)) [] := by
  have h0 : 0 < n := by rw [← hn]; exact List.length_pos_iff.2 hne
  have h63 : l.length ≤ 9223372036854775807 := by omega
  refine fnIs_of tab_ok Try.func65 rfl rfl rfl ?_
  refine wc_seq ?_
  refine wc_region ?_
  refine reg_quiet rfl (step_C tab_ok (fun K hk => hk)) ?_
  refine reg_nil ?_
  refine seq_n ?_
  refine wc_seq ?_
  refine wc_draw (by kernel_rfl) ?_
  refine dreg_q [0] [0, 1] rfl (step_C tab_ok (fun K hk => hk)) ?_
  refine dreg_q [3] [0, 1] rfl (step_C tab_ok (fun K hk => hk)) ?_
  refine dreg_q [4] [0, 1] rfl (step_C tab_ok (fun K hk => hk)) ?_
  refine dreg_q [5] [0, 1] rfl (load_box tab_ok rfl rfl rfl rfl) ?_
  refine dreg_q [6] [1] rfl (slice_data rfl h0) ?_
  refine dreg_q [0] [0, 1] rfl (step_C tab_ok (fun K hk => hk)) ?_
  refine dreg_q [8] [0, 1] rfl (step_C tab_ok (fun K hk => hk)) ?_
  refine dreg_q [9] [0, 1] rfl (step_C tab_ok (fun K hk => hk)) ?_
  refine dreg_q [10] [0, 1] rfl (load_box tab_ok rfl rfl rfl rfl) ?_
  refine dreg_q [11] [1] rfl (len_own tab_ok rfl rfl) ?_
  refine dreg_w [7, 12] [1] rfl (unsafe_str (l := l) rfl rfl rfl rfl rfl hn hne h63) ?_
  refine dreg_q [13] [] rfl (step_C tab_ok (fun K hk => hk)) ?_
  refine dreg_end (by kernel_rfl) ?_
  refine seq_n ?_
  refine wc_ret ?_
  exact ⟨trivial, [], .of rfl rfl rfl rfl rfl ⟨⟨_, rfl, AVLe.of_eq rfl⟩, rfl, trivial⟩ trivial⟩
theorem bstring_zero : FnIs Try.prog 65 [.ptr 0 []] [(0, .box 127 (.d (.cons (.sc nilp) (.cons (.sc nil_) .nil))))] (.d (strD [])) [] := by
  refine fnIs_of tab_ok Try.func65 rfl rfl rfl ?_
  refine wc_seq ?_
  refine wc_region ?_
  refine reg_quiet rfl (step_C tab_ok (fun K hk => hk)) ?_
  refine reg_nil ?_
  refine seq_n ?_
  refine wc_seq ?_
  refine wc_draw (by kernel_rfl) ?_
  refine dreg_q [0] [0] rfl (step_C tab_ok (fun K hk => hk)) ?_
  refine dreg_q [3] [0] rfl (step_C tab_ok (fun K hk => hk)) ?_
  refine dreg_q [4] [0] rfl (step_C tab_ok (fun K hk => hk)) ?_
  refine dreg_q [5] [0] rfl (load_box tab_ok rfl rfl ⟨_, rfl, rfl⟩ rfl) ?_
  refine dreg_q [6] [] rfl (slice_data_nil rfl) ?_
  refine dreg_q [0] [0] rfl (step_C tab_ok (fun K hk => hk)) ?_
  refine dreg_q [8] [0] rfl (step_C tab_ok (fun K hk => hk)) ?_
  refine dreg_q [9] [0] rfl (step_C tab_ok (fun K hk => hk)) ?_
  refine dreg_q [10] [0] rfl (load_box tab_ok rfl rfl ⟨_, rfl, rfl⟩ rfl) ?_
  refine dreg_q [11] [] rfl (len_nil tab_ok rfl rfl) ?_
  refine dreg_q [7, 12] [] rfl (unsafe_str0 rfl rfl) ?_
  refine dreg_q [13] [] rfl (step_C tab_ok (fun K hk => hk)) ?_
  refine dreg_end (by kernel_rfl) ?_
  refine seq_n ?_
  refine wc_ret ?_
  exact ⟨trivial, [], .of rfl rfl rfl rfl rfl ⟨⟨_, rfl, AVLe.of_eq rfl⟩, rfl, trivial⟩ trivial⟩
end Go.Proofs.Ytjpjchohpjbknaa

/- words: put, Put32, Put64. -/
namespace Go.Proofs.Ytjpjchohpjbknaa
open Go.Eng
set_option maxHeartbeats 2000000
set_option maxRecDepth 20000
attribute [local irreducible] WC RegS RegD SeqQ BlkQ ScoQ RegK CutK Sat SatN FnIs LoopQ StepIs OpIs
/-- The low m bytes of a number, the highest first. -/
def putN : Nat → Nat → List UInt8
  | 0, _ => []
  | i + 1, v => (v / 256 ^ i).toUInt8 :: putN i v
theorem putN_len : ∀ (m v : Nat), (putN m v).length = m
  | 0, _ => rfl
  | i + 1, v => by simp [putN, putN_len i v]
/-- What stands after i rounds. -/
def putX (m i v : Nat) : List Int := List.replicate (m - i) 0 ++ byI (putN i v)
theorem putX_len {m i v : Nat} (h : i ≤ m) : (putX m i v).length = m := by simp [putX, byI, putN_len]; omega
theorem putX_get {m i v : Nat} (h : i < m) : (putX m i v)[m - 1 - i]? = some 0 := by
  simp only [putX]
  rw [List.getElem?_append_left (by simp; omega), List.getElem?_replicate, if_pos (by omega)]
theorem putX_set {m i v : Nat} (h : i < m) : (putX m i v).set (m - 1 - i) ((v / 256 ^ i).toUInt8.toNat : Int) = putX m (i + 1) v := by
  have e : m - i = (m - 1 - i) + 1 := by omega
  simp only [putX, e, List.replicate_succ', List.append_assoc, List.cons_append, List.nil_append]
  rw [List.set_append_right _ _ (by simp)]
  have e2 : m - (i + 1) = m - 1 - i := by omega
  simp [e2, putN, byI]
theorem u8_wrap (n : Nat) : IntKind.u8.wrap (n : Int) = ((n.toUInt8).toNat : Int) := by
  simp [IntKind.wrap, IntKind.signed, IntKind.bits]
theorem pow8 (i : Nat) : 2 ^ (8 * i) = 256 ^ i := by rw [Nat.pow_mul]
theorem put_own (v m : Nat) (h0 : 0 < m) (hm : m ≤ 8) (hv : v < 18446744073709551616) : FnIs Try.prog 100 [.int .u64 v, .int .i64 m] [] (.own 64 0 m 1 none) [(64, .ds 5 1 true encU8 (byI (putN m v)))] := by
  refine fnIs_of tab_ok Try.func100 rfl rfl rfl ?_
  refine wc_seq ?_
  refine wc_region ?_
  refine reg_quiet rfl (step_C tab_ok (fun K hk => hk)) ?_
  refine reg_nil ?_
  refine seq_n ?_
  refine wc_seq ?_
  refine wc_region ?_
  refine reg_quiet rfl (step_C tab_ok (fun K hk => hk)) ?_
  refine reg_new (make_full (enc := encU8) (s := 1) (N := m) tab_ok 0 rfl rfl rfl rfl rfl rfl rfl (by omega) rfl) rfl ?_
  refine reg_quiet rfl (step_C tab_ok (fun K hk => hk)) ?_
  refine reg_nil ?_
  refine seq_n ?_
  refine wc_seq ?_
  refine wc_seq ?_
  refine wc_region ?_
  refine reg_quiet rfl (step_C tab_ok (fun K hk => hk)) ?_
  refine reg_quiet rfl (step_C tab_ok (fun K hk => hk)) ?_
  refine reg_nil ?_
  refine seq_n ?_
  refine wc_block ?_
  refine wc_inv (fun i : Nat => ⟨[(10, .int .i64 i), (9, .int .i64 m), (5, .own 66 0 m 1 none), (1, .int .i64 m), (0, .int .u64 v)], [(66, some (.ds 5 1 true encU8 (putX m i v)))], 72, Try.f100.ntmps, 64⟩) (fun i => i ≤ m) (fun i => m - i) 0 [(66, some 80)] (Nat.zero_le _)
    (.of rfl rfl rfl rfl rfl ⟨⟨_, rfl, .refl _⟩, rfl, ⟨_, rfl, .refl _⟩, rfl, ⟨_, rfl, .refl _⟩, rfl, ⟨_, rfl, .refl _⟩, rfl, ⟨_, rfl, .refl _⟩, rfl, trivial⟩ ⟨⟨rfl, rfl, _, rfl, RowLe.of_eq (by rw [show putX m 0 v = List.replicate m 0 by simp [putX, putN, byI]]; rfl)⟩, trivial⟩) ?_
  intro i hi
  refine wc_of ?_
  refine wc_seq ?_
  refine wc_region ?_
  refine reg_quiet rfl (step_C tab_ok (fun K hk => hk)) ?_
  refine reg_nil ?_
  refine seq_n ?_
  refine wc_seq ?_
  refine wc_cond rfl (fun h3 => ?_) (fun h3 => ?_)
  · have hlt : i < m := by have := of_decide_eq_true h3; omega
    have w15 : IntKind.i64.wrap ((m : Int) - 1) = ((m - 1 : Nat) : Int) := by rw [wrap_i64 (by omega) (by omega)]; omega
    have w17 : IntKind.i64.wrap (((m - 1 : Nat) : Int) - i) = ((m - 1 - i : Nat) : Int) := by rw [wrap_i64 (by omega) (by omega)]; omega
    have w20 : IntKind.i64.wrap (8 * (i : Int)) = ((8 * i : Nat) : Int) := by rw [wrap_i64 (by omega) (by omega)]; omega
    have w21 : 8 * i ≤ IntKind.u64.bits := by show 8 * i ≤ 64; omega
    have hx := putX_set (v := v) hlt
    have hg := putX_get (v := v) hlt
    refine wc_skip ?_
    refine seq_n ?_
    refine wc_seq ?_
    refine wc_block ?_
    refine wc_seq ?_
    refine wc_region ?_
    refine reg_quiet rfl (step_C tab_ok (fun K hk => hk)) ?_
    refine reg_quiet rfl (step_C tab_ok (fun K hk => hk)) ?_
    refine reg_nil ?_
    refine seq_n ?_
    refine wc_region ?_
    refine reg_quiet rfl (step_C tab_ok (fun K hk => hk)) ?_
    refine reg_quiet rfl (step_C tab_ok (fun K hk => hk)) ?_
    refine reg_quiet rfl (sub_int (m := ((m - 1 : Nat) : Int)) tab_ok rfl rfl w15) ?_
    refine reg_quiet rfl (step_C tab_ok (fun K hk => hk)) ?_
    refine reg_quiet rfl (sub_int (m := ((m - 1 - i : Nat) : Int)) tab_ok rfl rfl w17) ?_
    refine reg_quiet rfl (step_C tab_ok (fun K hk => hk)) ?_
    refine reg_quiet rfl (step_C tab_ok (fun K hk => hk)) ?_
    refine reg_quiet rfl (mul_int (m := ((8 * i : Nat) : Int)) tab_ok rfl rfl w20) ?_
    refine reg_quiet rfl (shr_nat (a := v) (s := 8 * i) (m := v / 256 ^ i) rfl rfl w21 (by rw [pow8])) ?_
    refine reg_quiet rfl (conv_int tab_ok rfl rfl rfl (u8_wrap _)) ?_
    refine reg_quiet rfl (index_own tab_ok rfl rfl rfl rfl rfl (by omega) (by omega)) ?_
    refine reg_store (store_row tab_ok rfl rfl rfl ⟨rfl, 0, ((v / 256 ^ i).toUInt8.toNat : Int), hg, ⟨rfl, rfl, rfl⟩, rfl⟩ rfl) ?_
    refine reg_nil ?_
    refine blk_n ?_
    refine seq_n ?_
    refine wc_region ?_
    refine reg_quiet rfl (add_int tab_ok rfl rfl (wrap_i64 (by omega) (by omega))) ?_
    refine reg_quiet rfl (step_C tab_ok (fun K hk => hk)) ?_
    refine reg_nil ?_
    exact loop_n (i + 1) [] hlt (by omega) (.of rfl rfl rfl rfl rfl ⟨⟨_, rfl, .refl _⟩, rfl, ⟨_, rfl, .refl _⟩, rfl, ⟨_, rfl, .refl _⟩, rfl, ⟨_, rfl, .refl _⟩, rfl, ⟨_, rfl, .refl _⟩, rfl, trivial⟩ ⟨⟨rfl, rfl, _, rfl, RowLe.of_eq (congrArg (Row.ds 5 1 true encU8) hx)⟩, trivial⟩)
  · have he : i = m := by have := of_decide_eq_false h3; omega
    subst he
    refine wc_exit ?_
    refine seq_x ?_
    refine loop_x ?_
    refine blk_x ?_
    refine seq_n ?_
    refine wc_seq ?_
    refine wc_region ?_
    refine reg_quiet rfl (step_C tab_ok (fun K hk => hk)) ?_
    refine reg_quiet rfl (step_C tab_ok (fun K hk => hk)) ?_
    refine reg_nil ?_
    refine seq_n ?_
    refine wc_ret ?_
    exact ⟨trivial, [(64, some 66)], .of rfl rfl rfl rfl rfl ⟨⟨_, rfl, AVLe.of_eq rfl⟩, rfl, trivial⟩ ⟨⟨rfl, rfl, _, rfl, RowLe.of_eq (by rw [show putX i i v = byI (putN i v) by simp [putX]]; rfl)⟩, trivial⟩⟩
theorem put_is (v m : Nat) (h0 : 0 < m) (hm : m ≤ 8) (hv : v < 18446744073709551616) : FnIs Try.prog 100 [.int .u64 v, .int .i64 m] [] (.d (.arr 1 encU8 (byI (putN m v)))) [] :=
  (put_own v m h0 hm hv).freeze_out 64 _ rfl (Frz.own (by rw [byI_len, putN_len])) trivial
theorem put32_is (v : Nat) (hv : v < 4294967296) : FnIs Try.prog 85 [.int .u32 v] [] (.d (.arr 1 encU8 (byI (putN 4 v)))) [] := by
  have hw : IntKind.u64.wrap (v : Int) = (v : Int) := wrap_u64 (by omega) (by omega)
  refine fnIs_of tab_ok Try.func85 rfl rfl rfl ?_
  refine wc_seq ?_
  refine wc_region ?_
  refine reg_quiet rfl (step_C tab_ok (fun K hk => hk)) ?_
  refine reg_nil ?_
  refine seq_n ?_
  refine wc_seq ?_
  refine wc_region ?_
  refine reg_quiet rfl (step_C tab_ok (fun K hk => hk)) ?_
  refine reg_quiet rfl (conv_int (m := (v : Int)) tab_ok rfl rfl rfl hw) ?_
  refine reg_quiet rfl (call_r (put_is v 4 (by decide) (by decide) (by omega)) rfl rfl (arg_e (arg_e arg_nil)) (.inl rfl) (fun _ => rfl)) ?_
  refine reg_quiet rfl (step_C tab_ok (fun K hk => hk)) ?_
  refine reg_nil ?_
  refine seq_n ?_
  refine wc_ret ?_
  exact ⟨trivial, [], .of rfl rfl rfl rfl rfl ⟨⟨_, rfl, AVLe.of_eq rfl⟩, rfl, trivial⟩ trivial⟩
theorem put64_is (v : Nat) (hv : v < 18446744073709551616) : FnIs Try.prog 99 [.int .u64 v] [] (.d (.arr 1 encU8 (byI (putN 8 v)))) [] := by
  refine fnIs_of tab_ok Try.func99 rfl rfl rfl ?_
  refine wc_seq ?_
  refine wc_region ?_
  refine reg_quiet rfl (step_C tab_ok (fun K hk => hk)) ?_
  refine reg_nil ?_
  refine seq_n ?_
  refine wc_seq ?_
  refine wc_region ?_
  refine reg_quiet rfl (step_C tab_ok (fun K hk => hk)) ?_
  refine reg_quiet rfl (call_r (put_is v 8 (by decide) (by decide) hv) rfl rfl (arg_e (arg_e arg_nil)) (.inl rfl) (fun _ => rfl)) ?_
  refine reg_quiet rfl (step_C tab_ok (fun K hk => hk)) ?_
  refine reg_nil ?_
  refine seq_n ?_
  refine wc_ret ?_
  exact ⟨trivial, [], .of rfl rfl rfl rfl rfl ⟨⟨_, rfl, AVLe.of_eq rfl⟩, rfl, trivial⟩ trivial⟩
end Go.Proofs.Ytjpjchohpjbknaa

/- words: Join. -/
namespace Go.Proofs.Ytjpjchohpjbknaa
open Go.Eng
set_option maxHeartbeats 2000000
set_option maxRecDepth 20000
attribute [local irreducible] WC RegS RegD SeqQ BlkQ ScoQ RegK CutK Sat SatN FnIs LoopQ StepIs OpIs
/-- Bytes as data. -/
abbrev encB (l : List UInt8) : D := .arr 1 encU8 (byI l)
def headJ (ls : List (List UInt8)) (i : Nat) : List UInt8 := (ls.take i).flatten
def posJ (ls : List (List UInt8)) (i : Nat) : Nat := (headJ ls i).length
theorem headJ_go {ls : List (List UInt8)} {i : Nat} {l : List UInt8} (h : ls[i]? = some l) : headJ ls (i + 1) = headJ ls i ++ l := by
  simp [headJ, List.take_add_one, h]
theorem posJ_go {ls : List (List UInt8)} {i : Nat} {l : List UInt8} (h : ls[i]? = some l) : posJ ls (i + 1) = posJ ls i + l.length := by
  simp [posJ, headJ_go h]
theorem posJ_le (ls : List (List UInt8)) (i : Nat) : posJ ls i ≤ ls.flatten.length := by
  have : ls.flatten = (ls.take i).flatten ++ (ls.drop i).flatten := by rw [← List.flatten_append, List.take_append_drop]
  rw [this, List.length_append]
  exact Nat.le_add_right _ _
theorem posJ_end (ls : List (List UInt8)) : posJ ls ls.length = ls.flatten.length := by simp [posJ, headJ]
/-- What stands after i parts. -/
def rowJ (ls : List (List UInt8)) (i : Nat) : List Int := byI (headJ ls i) ++ List.replicate (ls.flatten.length - posJ ls i) 0
theorem rowJ_len (ls : List (List UInt8)) (i : Nat) : (rowJ ls i).length = ls.flatten.length := by
  have := posJ_le ls i
  simp only [rowJ, List.length_append, byI_len, List.length_replicate]
  show posJ ls i + _ = _
  omega
theorem rowJ_go {ls : List (List UInt8)} {i : Nat} {l : List UInt8} (h : ls[i]? = some l) : (rowJ ls i).take (posJ ls i) ++ (byI l).take l.length ++ (rowJ ls i).drop (posJ ls i + l.length) = rowJ ls (i + 1) := by
  have e1 : (byI (headJ ls i)).length = posJ ls i := byI_len _
  have e2 : (byI l).length = l.length := byI_len _
  have e3 : (rowJ ls i).take (posJ ls i) = byI (headJ ls i) := by
    rw [rowJ, ← e1]; exact List.take_left
  have e4 : (rowJ ls i).drop (posJ ls i + l.length) = List.replicate (ls.flatten.length - posJ ls (i + 1)) 0 := by
    rw [rowJ, ← List.drop_drop, ← e1, List.drop_left, List.drop_replicate, posJ_go h]
    congr 1; omega
  rw [e3, e4, ← e2, List.take_length, rowJ, headJ_go h, byI_app]
theorem rowJ_end (ls : List (List UInt8)) : rowJ ls ls.length = byI ls.flatten := by
  simp [rowJ, posJ_end, headJ]
theorem join_own (ls : List (List UInt8)) (hls : ls.length ≤ 1000000) (hN : ls.flatten.length ≤ 1048576) (hne : ∀ l ∈ ls, l ≠ []) : FnIs Try.prog 83 [.d (.arr 1 encB ls)] [] (.own 64 0 ls.flatten.length 1 none) [(64, .ds 5 1 true encU8 (byI ls.flatten))] := by
  have hN2 : posJ ls ls.length ≤ 1048576 := by rw [posJ_end]; exact hN
  refine fnIs_of tab_ok Try.func83 rfl rfl rfl ?_
  refine wc_seq ?_
  refine wc_region ?_
  refine reg_quiet rfl (step_C tab_ok (fun K hk => hk)) ?_
  refine reg_nil ?_
  refine seq_n ?_
  refine wc_seq ?_
  refine wc_region ?_
  refine reg_quiet rfl (step_C tab_ok (fun K hk => hk)) ?_
  refine reg_nil ?_
  refine seq_n ?_
  refine wc_seq ?_
  refine wc_seq ?_
  refine wc_region ?_
  refine reg_quiet rfl (step_C tab_ok (fun K hk => hk)) ?_
  refine reg_quiet rfl (len_arr tab_ok rfl rfl) ?_
  refine reg_quiet rfl (step_C tab_ok (fun K hk => hk)) ?_
  refine reg_nil ?_
  refine seq_n ?_
  refine wc_block ?_
  refine wc_inv (fun i : Nat => ⟨[(12, .int .i64 i), (11, .int .i64 ls.length), (10, .d (.arr 1 encB ls)), (3, .int .i64 (posJ ls i)), (0, .d (.arr 1 encB ls))], [], 72, Try.f83.ntmps, 64⟩) (fun i => i ≤ ls.length) (fun i => ls.length - i) 0 [] (Nat.zero_le _)
    (.of rfl rfl rfl rfl rfl ⟨⟨_, rfl, .refl _⟩, rfl, ⟨_, rfl, .refl _⟩, rfl, ⟨_, rfl, .refl _⟩, rfl, ⟨_, rfl, .refl _⟩, rfl, ⟨_, rfl, .refl _⟩, rfl, trivial⟩ trivial) ?_
  intro i hi
  refine wc_of ?_
  refine wc_seq ?_
  refine wc_region ?_
  refine reg_quiet rfl (step_C tab_ok (fun K hk => hk)) ?_
  refine reg_nil ?_
  refine seq_n ?_
  refine wc_seq ?_
  refine wc_cond rfl (fun h3 => ?_) (fun h3 => ?_)
  · have hlt : i < ls.length := by have := of_decide_eq_true h3; omega
    obtain ⟨l, hl⟩ : ∃ l, ls[i]? = some l := ⟨_, List.getElem?_eq_getElem hlt⟩
    have hl' : ls[((i : Int)).toNat]? = some l := by rw [Int.toNat_natCast]; exact hl
    have hp1 := posJ_go hl
    have hp2 := posJ_le ls (i + 1)
    have w19 : IntKind.i64.wrap ((posJ ls i : Int) + ((byI l).length : Nat)) = ((posJ ls (i + 1) : Nat) : Int) := by rw [byI_len, hp1, wrap_i64 (by omega) (by omega)]; push_cast; rfl
    refine wc_skip ?_
    refine seq_n ?_
    refine wc_seq ?_
    refine wc_block ?_
    refine wc_seq ?_
    refine wc_region ?_
    refine reg_quiet rfl (index_arr tab_ok rfl rfl rfl rfl rfl (by omega) (by assumption)) ?_
    refine reg_quiet rfl (load_i tab_ok rfl rfl) ?_
    refine reg_quiet rfl (step_C tab_ok (fun K hk => hk)) ?_
    refine reg_nil ?_
    refine seq_n ?_
    refine wc_region ?_
    refine reg_quiet rfl (step_C tab_ok (fun K hk => hk)) ?_
    refine reg_quiet rfl (step_C tab_ok (fun K hk => hk)) ?_
    refine reg_quiet rfl (len_arr tab_ok rfl rfl) ?_
    refine reg_quiet rfl (add_int (m := ((posJ ls (i + 1) : Nat) : Int)) tab_ok rfl rfl w19) ?_
    refine reg_quiet rfl (step_C tab_ok (fun K hk => hk)) ?_
    refine reg_nil ?_
    refine blk_n ?_
    refine seq_n ?_
    refine wc_region ?_
    refine reg_quiet rfl (add_int tab_ok rfl rfl (wrap_i64 (by omega) (by omega))) ?_
    refine reg_quiet rfl (step_C tab_ok (fun K hk => hk)) ?_
    refine reg_nil ?_
    exact loop_n (i + 1) [] hlt (by omega) (.of rfl rfl rfl rfl rfl ⟨⟨_, rfl, .refl _⟩, rfl, ⟨_, rfl, .refl _⟩, rfl, ⟨_, rfl, .refl _⟩, rfl, ⟨_, rfl, .refl _⟩, rfl, ⟨_, rfl, .refl _⟩, rfl, trivial⟩ trivial)
  · have he : i = ls.length := by have := of_decide_eq_false h3; omega
    subst he
    refine wc_exit ?_
    refine seq_x ?_
    refine loop_x ?_
    refine blk_x ?_
    refine seq_n ?_
    refine wc_seq ?_
    refine wc_region ?_
    refine reg_quiet rfl (step_C tab_ok (fun K hk => hk)) ?_
    refine reg_new (make_full (enc := encU8) (s := 1) (N := posJ ls ls.length) tab_ok 0 rfl rfl rfl rfl rfl rfl rfl hN2 rfl) rfl ?_
    refine reg_quiet rfl (step_C tab_ok (fun K hk => hk)) ?_
    refine reg_nil ?_
    refine seq_n ?_
    refine wc_seq ?_
    refine wc_region ?_
    refine reg_quiet rfl (step_C tab_ok (fun K hk => hk)) ?_
    refine reg_nil ?_
    refine seq_n ?_
    refine wc_seq ?_
    refine wc_seq ?_
    refine wc_region ?_
    refine reg_quiet rfl (step_C tab_ok (fun K hk => hk)) ?_
    refine reg_quiet rfl (len_arr tab_ok rfl rfl) ?_
    refine reg_quiet rfl (step_C tab_ok (fun K hk => hk)) ?_
    refine reg_nil ?_
    refine seq_n ?_
    refine wc_block ?_
    refine wc_inv (fun i : Nat => ⟨[(25, .int .i64 i), (24, .int .i64 ls.length), (23, .d (.arr 1 encB ls)), (7, .int .i64 (posJ ls i)), (6, .own 66 0 (posJ ls ls.length) 1 none)], [(66, some (.ds 5 1 true encU8 (rowJ ls i)))], 72, Try.f83.ntmps, 64⟩) (fun i => i ≤ ls.length) (fun i => ls.length - i) 0 [(66, some 88)] (Nat.zero_le _)
      (.of rfl rfl rfl rfl rfl ⟨⟨_, rfl, .refl _⟩, rfl, ⟨_, rfl, .refl _⟩, rfl, ⟨_, rfl, .refl _⟩, rfl, ⟨_, rfl, .refl _⟩, rfl, ⟨_, rfl, .refl _⟩, rfl, trivial⟩ ⟨⟨rfl, rfl, _, rfl, RowLe.of_eq (by rw [show rowJ ls 0 = List.replicate (posJ ls ls.length) 0 by simp [rowJ, posJ_end, posJ, headJ, byI]] <;> rfl)⟩, trivial⟩) ?_
    intro i hi
    refine wc_of ?_
    refine wc_seq ?_
    refine wc_region ?_
    refine reg_quiet rfl (step_C tab_ok (fun K hk => hk)) ?_
    refine reg_nil ?_
    refine seq_n ?_
    refine wc_seq ?_
    refine wc_cond rfl (fun h3 => ?_) (fun h3 => ?_)
    · have hlt : i < ls.length := by have := of_decide_eq_true h3; omega
      obtain ⟨l, hl⟩ : ∃ l, ls[i]? = some l := ⟨_, List.getElem?_eq_getElem hlt⟩
      have hl' : ls[((i : Int)).toNat]? = some l := by rw [Int.toNat_natCast]; exact hl
      have hp1 := posJ_go hl
      have hp2 := posJ_le ls (i + 1)
      have hpe := posJ_end ls
      have hrl := rowJ_len ls i
      have hm0 : 0 < l.length := List.length_pos_iff.2 (hne l (List.mem_of_getElem? hl))
      have hm1 : 0 < (byI l).length := by rw [byI_len]; exact hm0
      have hpl : posJ ls i ≤ posJ ls ls.length := by omega
      have hlx : posJ ls i + (posJ ls ls.length - posJ ls i) ≤ (rowJ ls i).length := by omega
      have hmin : min (byI l).length (posJ ls ls.length - posJ ls i) = l.length := by rw [byI_len]; omega
      have w35 : IntKind.i64.wrap ((posJ ls i : Int) + (l.length : Nat)) = ((posJ ls (i + 1) : Nat) : Int) := by rw [hp1, wrap_i64 (by omega) (by omega)]; push_cast; rfl
      refine wc_skip ?_
      refine seq_n ?_
      refine wc_seq ?_
      refine wc_block ?_
      refine wc_seq ?_
      refine wc_region ?_
      refine reg_quiet rfl (index_arr tab_ok rfl rfl rfl rfl rfl (by omega) (by assumption)) ?_
      refine reg_quiet rfl (load_i tab_ok rfl rfl) ?_
      refine reg_quiet rfl (step_C tab_ok (fun K hk => hk)) ?_
      refine reg_nil ?_
      refine seq_n ?_
      refine wc_region ?_
      refine reg_quiet rfl (step_C tab_ok (fun K hk => hk)) ?_
      refine reg_quiet rfl (step_C tab_ok (fun K hk => hk)) ?_
      refine reg_quiet rfl (step_C tab_ok (fun K hk => hk)) ?_
      refine reg_quiet rfl (slice_own_from tab_ok rfl rfl rfl rfl rfl hpl) ?_
      refine reg_quiet rfl (step_C tab_ok (fun K hk => hk)) ?_
      refine reg_new (copy_at (enc := encU8) (m := l.length) (ys := byI l) tab_ok rfl rfl rfl rfl rfl rfl hlx hmin hm0 (rowJ_go hl) (src_arr (by decide) rfl hm1)) rfl ?_
      refine reg_quiet rfl (add_int (m := ((posJ ls (i + 1) : Nat) : Int)) tab_ok rfl rfl w35) ?_
      refine reg_quiet rfl (step_C tab_ok (fun K hk => hk)) ?_
      refine reg_nil ?_
      refine blk_n ?_
      refine seq_n ?_
      refine wc_region ?_
      refine reg_quiet rfl (add_int tab_ok rfl rfl (wrap_i64 (by omega) (by omega))) ?_
      refine reg_quiet rfl (step_C tab_ok (fun K hk => hk)) ?_
      refine reg_nil ?_
      exact loop_n (i + 1) [] hlt (by omega) (.of rfl rfl rfl rfl rfl ⟨⟨_, rfl, .refl _⟩, rfl, ⟨_, rfl, .refl _⟩, rfl, ⟨_, rfl, .refl _⟩, rfl, ⟨_, rfl, .refl _⟩, rfl, ⟨_, rfl, .refl _⟩, rfl, trivial⟩ ⟨⟨rfl, rfl, _, rfl, .refl _⟩, trivial⟩)
    · have he : i = ls.length := by have := of_decide_eq_false h3; omega
      subst he
      refine wc_exit ?_
      refine seq_x ?_
      refine loop_x ?_
      refine blk_x ?_
      refine seq_n ?_
      refine wc_seq ?_
      refine wc_region ?_
      refine reg_quiet rfl (step_C tab_ok (fun K hk => hk)) ?_
      refine reg_quiet rfl (step_C tab_ok (fun K hk => hk)) ?_
      refine reg_nil ?_
      refine seq_n ?_
      refine wc_ret ?_
      exact ⟨trivial, [(64, some 66)], .of rfl rfl rfl rfl rfl ⟨⟨_, rfl, AVLe.of_eq (by rw [posJ_end]; rfl)⟩, rfl, trivial⟩ ⟨⟨rfl, rfl, _, rfl, RowLe.of_eq (by rw [rowJ_end]; rfl)⟩, trivial⟩⟩
theorem join_is (ls : List (List UInt8)) (hls : ls.length ≤ 1000000) (hN : ls.flatten.length ≤ 1048576) (hne : ∀ l ∈ ls, l ≠ []) : FnIs Try.prog 83 [.d (.arr 1 encB ls)] [] (.d (encB ls.flatten)) [] :=
  (join_own ls hls hN hne).freeze_out 64 _ rfl (Frz.own (by rw [byI_len])) trivial
end Go.Proofs.Ytjpjchohpjbknaa

/- nonces: Put; a use's bytes. -/
namespace Go.Proofs.Ytjpjchohpjbknaa
open Go.Eng
set_option maxHeartbeats 2000000
set_option maxRecDepth 20000
attribute [local irreducible] WC RegS RegD SeqQ BlkQ ScoQ RegK CutK Sat SatN FnIs LoopQ StepIs OpIs
theorem join_h (ls : List (List UInt8)) (m : Nat) (ex : Bool) (hm : ls.length = m) (hls : ls.length ≤ 1000000) (hN : ls.flatten.length ≤ 1048576) (hne : ∀ l ∈ ls, l ≠ []) : FnIs Try.prog 83 [.own 0 0 m 1 none] [(0, .lits 45 1 m ex (dsAV (ls.map encB)))] (.d (encB ls.flatten)) [] :=
  FnIs.freeze (avs' := [.d (.arr 1 encB ls)]) (h0' := []) 0 _ rfl ⟨⟨_, rfl, Frz.litsN ls hm fun _ _ => rfl⟩, trivial⟩ trivial rfl (join_is ls hls hN hne)
theorem putN_ne {m : Nat} (h : 0 < m) (v : Nat) : putN m v ≠ [] := fun e => by have := putN_len m v; rw [e] at this; simp at this; omega
/-- The bytes of a nonce. -/
def nonB (s c : Nat) : List UInt8 := putN 4 s ++ putN 8 c
theorem nonB_len (s c : Nat) : (nonB s c).length = 12 := by simp [nonB, putN_len]
theorem nonce_put (s c : Nat) (hs : s < 4294967296) (hc : c < 18446744073709551616) : FnIs Try.prog 84 [.d (encLN ⟨s, c⟩)] [] (.d (encB (nonB s c))) [] := by
  have hj := join_h [putN 4 s, putN 8 c] 2 true rfl (by simp) (by simp [putN_len]) (by simp [putN_ne])
  rw [show [putN 4 s, putN 8 c].flatten = nonB s c by simp [nonB]] at hj
  refine fnIs_of tab_ok Try.func84 rfl rfl rfl ?_
  refine wc_seq ?_
  refine wc_region ?_
  refine reg_new (step_C tab_ok (fun K hk => hk)) rfl ?_
  refine reg_quiet rfl (step_C tab_ok (fun K hk => hk)) ?_
  refine reg_nil ?_
  refine seq_n ?_
  refine wc_seq ?_
  refine wc_draw (by kernel_rfl) ?_
  refine dreg_q [1] [64] rfl (step_C tab_ok (fun K hk => hk)) ?_
  refine dreg_q [3] [64] rfl (load_box tab_ok rfl rfl ⟨_, rfl, rfl⟩ rfl) ?_
  refine dreg_q [4] [] rfl (call_r (put32_is s hs) rfl rfl (arg_e arg_nil) (.inl rfl) (fun _ => rfl)) ?_
  refine dreg_q [1] [64] rfl (step_C tab_ok (fun K hk => hk)) ?_
  refine dreg_q [6] [64] rfl (load_box tab_ok rfl rfl ⟨_, rfl, rfl⟩ rfl) ?_
  refine dreg_q [7] [] rfl (call_r (put64_is c hc) rfl rfl (arg_e arg_nil) (.inl rfl) (fun _ => rfl)) ?_
  refine dreg_w [5, 8] [] rfl (build_slice tab_ok rfl rfl rfl rfl rfl rfl rfl rfl) ?_
  refine dreg_w [9] [128] rfl (call_h [(0, some 128)] hj rfl rfl rfl (arg_give rfl rfl arg_nil) ⟨⟨rfl, rfl, _, _, rfl, rfl, .refl _⟩, trivial⟩ rfl rfl (.inl rfl) rfl rfl) ?_
  refine dreg_q [10] [] rfl (step_C tab_ok (fun K hk => hk)) ?_
  refine dreg_end (by kernel_rfl) ?_
  refine seq_n ?_
  refine wc_ret ?_
  exact ⟨trivial, [], .of rfl rfl rfl rfl rfl ⟨⟨_, rfl, AVLe.of_eq rfl⟩, rfl, trivial⟩ trivial⟩
/-- A use, its key told in bytes. -/
def useOf (k : List UInt8) (s c f l : Nat) : LUse := ⟨byI k, ⟨⟨s, c⟩, f, l⟩⟩
/-- The bytes of a use. -/
def useB (k : List UInt8) (s c f l : Nat) : List UInt8 := k ++ (nonB s c ++ (putN 4 f ++ putN 4 l))
theorem useB_len {k : List UInt8} (hk : k.length = 16) (s c f l : Nat) : (useB k s c f l).length = 36 := by simp [useB, nonB_len, putN_len, hk]
theorem row_is (k : List UInt8) (s c f l : Nat) (hk : k.length = 16) (hs : s < 4294967296) (hc : c < 18446744073709551616) (hf : f < 4294967296) (hl : l < 4294967296) : FnIs Try.prog 63 [.d (encUse (useOf k s c f l))] [] (.d (encB (useB k s c f l))) [] := by
  have hj := join_h [k, nonB s c, putN 4 f, putN 4 l] 4 true rfl (by simp) (by simp [putN_len, nonB_len, hk]) (by
    have h1 : k ≠ [] := fun e => by rw [e] at hk; simp at hk
    have h2 : nonB s c ≠ [] := fun e => by have := nonB_len s c; rw [e] at this; simp at this
    simp [putN_ne, h1, h2])
  rw [show [k, nonB s c, putN 4 f, putN 4 l].flatten = useB k s c f l by simp [useB]] at hj
  refine fnIs_of tab_ok Try.func63 rfl rfl rfl ?_
  refine wc_seq ?_
  refine wc_region ?_
  refine reg_new (step_C tab_ok (fun K hk => hk)) rfl ?_
  refine reg_quiet rfl (step_C tab_ok (fun K hk => hk)) ?_
  refine reg_nil ?_
  refine seq_n ?_
  refine wc_freeze (env' := [(1, _), (2, _), (0, _)]) (h' := []) 64 _ rfl ⟨⟨_, rfl, Frz.ptr⟩, ⟨_, rfl, .refl _⟩, ⟨_, rfl, .refl _⟩, trivial⟩ trivial ?_
  refine wc_seq ?_
  refine wc_draw (by kernel_rfl) ?_
  refine dreg_q [1] [] rfl (fieldAddr_pt tab_ok rfl rfl rfl rfl) ?_
  refine dreg_q [3] [] rfl (slice_iptr tab_ok rfl rfl rfl rfl rfl) ?_
  refine dreg_q [1] [] rfl (fieldAddr_pt tab_ok rfl rfl rfl rfl) ?_
  refine dreg_q [5] [] rfl (step_C tab_ok (fun K hk => hk)) ?_
  refine dreg_q [6] [] rfl (load_i tab_ok rfl rfl) ?_
  refine dreg_q [7] [] rfl (call_r (nonce_put s c hs hc) rfl rfl (arg_e arg_nil) (.inl rfl) (fun _ => rfl)) ?_
  refine dreg_q [1] [] rfl (fieldAddr_pt tab_ok rfl rfl rfl rfl) ?_
  refine dreg_q [9] [] rfl (step_C tab_ok (fun K hk => hk)) ?_
  refine dreg_q [10] [] rfl (load_i tab_ok rfl rfl) ?_
  refine dreg_q [11] [] rfl (call_r (put32_is f hf) rfl rfl (arg_e arg_nil) (.inl rfl) (fun _ => rfl)) ?_
  refine dreg_q [1] [] rfl (fieldAddr_pt tab_ok rfl rfl rfl rfl) ?_
  refine dreg_q [13] [] rfl (step_C tab_ok (fun K hk => hk)) ?_
  refine dreg_q [14] [] rfl (load_i tab_ok rfl rfl) ?_
  refine dreg_q [15] [] rfl (call_r (put32_is l hl) rfl rfl (arg_e arg_nil) (.inl rfl) (fun _ => rfl)) ?_
  refine dreg_w [4, 8, 12, 16] [] rfl (build_slice tab_ok rfl rfl rfl rfl rfl rfl rfl rfl) ?_
  refine dreg_w [17] [192] rfl (call_h [(0, some 192)] hj rfl rfl rfl (arg_give rfl rfl arg_nil) ⟨⟨rfl, rfl, _, _, rfl, rfl, .refl _⟩, trivial⟩ rfl rfl (.inl rfl) rfl rfl) ?_
  refine dreg_q [18] [] rfl (step_C tab_ok (fun K hk => hk)) ?_
  refine dreg_end (by kernel_rfl) ?_
  refine seq_n ?_
  refine wc_ret ?_
  exact ⟨trivial, [], .of rfl rfl rfl rfl rfl ⟨⟨_, rfl, AVLe.of_eq rfl⟩, rfl, trivial⟩ trivial⟩
end Go.Proofs.Ytjpjchohpjbknaa
